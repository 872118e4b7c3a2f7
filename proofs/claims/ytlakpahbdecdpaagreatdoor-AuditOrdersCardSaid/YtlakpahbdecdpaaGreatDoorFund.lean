/- Contracts of the functions that the law reaches, and the plain law. -/
import Derived.Test.YtlakpahbdecdpaaGreatDoorFunc
set_option linter.unusedVariables false
set_option linter.unusedSimpArgs false
set_option linter.unusedSectionVars false
open Bool renaming and_eq_true → qj, and_false → qHb, false_and → wD, false_eq_true → qG, false_or → zn, not_false → qd1, not_true → vB, or_eq_false_iff → WN, or_eq_true → qJr, true_and → ww, true_or → zX
open Int renaming le_refl → Wg, toNat → qt, toNat_natCast → qc
open List renaming append_assoc → qw, append_nil → qY, cons_append → qpk, drop → qaJ, drop_of_length_le → qh, drop_zero → wm, getD → qM, length → qe, length_append → qn, length_cons → wc, length_singleton → qk, length_take → Qt, mem_append → zW, mem_cons → qK, nil_append → qH, pairwise_cons → zK, take → qdv, take_of_length_le → wI
open Nat renaming le_refl → qT, mul_le_mul_right → vT, succ_mul → qTX, zero_add → Yd, zero_le → z8
open Option renaming getD_some → qRI, isSome_some → qb
open Go.IntKind renaming wrap → qa
namespace Go.AM
open Go Go.Proofs
noncomputable section
def qlN (r : Int × Int) : AV := .tup [ri r.1, ri r.2]
abbrev qCJ (a : List T11.T) (b : Int) (r : Int × Int) : Prop := CC Tryz.prog 55 [ro T11 a, ri b] [] (qlN r) (nb r)
def qCI := fun y0 y1 y2 => (⟨qI 27 [(0, ro T11 y0), (1, ri y1), (7, ri y2)], []⟩ : St)
def VQ (k : Nat) : Nat → List T11.T → Int → Int → Option (Int × Int)
 | 0, _, _, _ => none
 | j + 1, y0, y1, y2 =>
 bif y2 < y0.length then
 if (0 ≤ y2) ∧ (y2 < y0.length) ∧ ((qaA k (y0.getD y2.toNat T11.dflt).2.2 y1).isSome) then
 bif (qcc k (y0.getD y2.toNat T11.dflt).2.2 y1) then
 some (y2, 0)
 else
 VQ k j y0 y1 (qa .i64 (y2 + 1))
 else none
 else
 some (0, 7)
def qbZ (k : Nat) (a : List T11.T) (b : Int) : Option (Int × Int) :=
 if ((qcu k a).isSome) then
 bif (XG k a != (0 : Int)) then
 some (0, XG k a)
 else
 VQ k k a b 0
 else none
def qd4 := fun k a b => (qbZ k a b).getD (0, 0)
def qJV (k : Nat) : Ke := (55, mo 2, fun
 | [.r (.ro e d), .r (.v (.int .i64 b))], [] => (qE e T11 d).bind fun a => some (.one (qlN (qd4 k a b), []))
 | _, _ => none)
def qxr : List (Nat × List Cmd) := [(5, [.autoB [0, 1, 7] false []])]
abbrev qPU := EP Tryz.f55 0 qlN nb
theorem qwv (k) : ∀ j, (∀ y0 y1 y2, qPU 5 (qCI y0 y1 y2) (VQ k j y0 y1 y2))
 | 0 => by intros; exact e0
 | j + 1 => by
  have ih := @qwv k j
  ·intro y0 y1 y2 r h
   rw [VQ] at h
   exact go (qD [qjO k, qo9 k]) [] qxr [.autoB [4, 5] true []] (gS h (fun h => gN h (fun q => qf q.1 (qf q.2.1 (qf (qpd q.2.2) qR))) fun h => qB h fun h => gC h 5 (ih _ _ _ _)) fun h => gL h)
theorem qLO (k a b r) (h : qbZ k a b = some r): qCJ a b r := qN Tryz.f55 (go (qD [qjO k, qo9 k]) [] qxr [.autoB [4, 5] true []] (qu h qvU fun h => qB h fun h => gC h 5 ((qwv k k) _ _ _ _)))
theorem qM1 {k a b} (h : (qbZ k a b).isSome): qCJ a b (qd4 k a b) := qJ h (qLO k a b)
end
abbrev vq := T11.T
def XN (n : Int) : Bool := decide (n < (1 : Int)) || decide (n > (1000000 : Int))
def qdT (s : vq) : Int := bif (XN s.1 || decide (s.2.1 < (0 : Int)) || decide (s.2.1 > (2147483647 : Int))) then 1 else bif (s.2.2.length : Int) == (0 : Int) then 10 else bif decide ((s.2.2.length : Int) > (512 : Int)) then 8 else bif s.2.2.any XN then 1 else 0
def qcw : List vq → Int
 | [] => 0
 | s :: t => bif qdT s != 0 then qdT s else qcw t
def qdW : List Int → List vq → Bool
 | _, [] => false
 | bef, s :: t => wj s.1 bef || qdW (bef ++ [s.1]) t
def Yf : Option Int → List vq → Bool
 | _, [] => false
 | none, s :: t => Yf (some s.2.1) t
 | some p, s :: t => decide (s.2.1 < p) || Yf (some s.2.1) t
def qhx : List Int → List Int → Bool
 | _, [] => false
 | bef, x :: t => wj x bef || qhx (bef ++ [x]) t
def X4 : List Int → List vq → Bool
 | _, [] => false
 | bef, s :: t => qhx bef s.2.2 || X4 (bef ++ s.2.2) t
def Zl (l : List vq) : Int := bif decide ((l.length : Int) > (512 : Int)) then 8 else bif qcw l != 0 then qcw l else bif qdW [] l then 6 else bif Yf none l then 9 else bif X4 [] l then 34 else 0
theorem qLU (k : Nat) (s : vq) (hl : s.2.2.length ≤ 1000) : ∀ (d i j : Nat), i + d = s.2.2.length → d < j → Xf k j (i : Int) s = some (bif (s.2.2.drop i).any XN then 1 else 0) := by
 intro d
 induction d with
 | zero =>
  intro i j hi hj
  obtain ⟨j, rfl⟩ := qQ (by omega : 0 < j)
  rw [Xf, qx (by omega : ¬ (i : Int) < (s.2.2.length : Int)), qg, qh (by omega)]; rfl
 | succ d ih =>
  intro i j hi hj
  obtain ⟨j, rfl⟩ := qQ (by omega : 0 < j)
  have h3 : (0 : Int) ≤ (i : Int) := by omega
  have h4 : (i : Int) < (s.2.2.length : Int) := by omega
  rw [Xf, qA h4, qi, qd ⟨h3, h4, fun _ => h3, fun _ => h4⟩, qc, qF i (by omega), qq s.2.2 i I.dflt (by omega), ih (i + 1) j (by omega) (by omega), List.any_cons]
  show (bif XN (s.2.2.getD i I.dflt) then _ else _) = _
  cases XN (s.2.2.getD i I.dflt) <;> rfl
theorem qwy (k : Nat) (hk : 600 ≤ k) (s : vq) : qe8 k s = some (qdT s) := by
 unfold qe8 qdT
 show (bif (XN s.1 || decide (s.2.1 < (0 : Int)) || decide (s.2.1 > (2147483647 : Int))) then _ else _) = _
 cases (XN s.1 || decide (s.2.1 < (0 : Int)) || decide (s.2.1 > (2147483647 : Int)))
 ·cases ((s.2.2.length : Int) == (0 : Int))
  ·by_cases h : (s.2.2.length : Int) > 512
   ·rw [qA h]; rfl
   ·rw [qx h]
    exact qLU k s (by omega) s.2.2.length 0 k (by omega) (by omega)
  ·rfl
 ·rfl
theorem qLv (k : Nat) (hk : 600 ≤ k) (s : vq) : qet k s = qdT s := by unfold qet; rw [qwy k hk]; rfl
theorem qFU (k : Nat) (l : List vq) (hl : l.length ≤ 40) (hr : ∀ s ∈ l, s.2.2.length ≤ 40) (hk : 3000 ≤ k) (n : Nat) (hn : n < l.length) : ∀ (d i j : Nat) (bef : List Int), i + d = (l.getD n T11.dflt).2.2.length → bef.length + d ≤ 2500 →
  Zo k (d + 1 + j) l (n : Int) (i : Int) bef = (bif qhx bef ((l.getD n T11.dflt).2.2.drop i) then some 34 else vV k j l ((n + 1 : Nat) : Int) (bef ++ (l.getD n T11.dflt).2.2.drop i)) := by
 have n3 : (0 : Int) ≤ (n : Int) := by omega
 have n4 : (n : Int) < (l.length : Int) := by omega
 have hm := hr _ (Vg l n T11.dflt hn)
 intro d
 induction d with
 | zero =>
  intro i j bef hi hb
  rw [show 0 + 1 + j = j + 1 by omega, Zo, qd ⟨n3, n4⟩, qc, qx (by omega : ¬ (i : Int) < ((l.getD n T11.dflt).2.2.length : Int)), qg, qh (by omega), qY, qF n (by omega)]
  rfl
 | succ d ih =>
  intro i j bef hi hb
  have h3 : (0 : Int) ≤ (i : Int) := by omega
  have h4 : (i : Int) < ((l.getD n T11.dflt).2.2.length : Int) := by omega
  rw [show d + 1 + 1 + j = (d + 1 + j) + 1 by omega, Zo, qd ⟨n3, n4⟩, qc, qc, qA h4, qi, qmC k bef _ (by omega) (by omega), qt7 k bef _ (by omega) (by omega), qd ⟨n3, n4, h3, h4, rfl⟩, qd ⟨n3, n4, h3, h4, by simp only [qk]; omega⟩, qF i (by omega), ih (i + 1) j _ (by omega) (by rw [qn, qk]; omega), qq (l.getD n T11.dflt).2.2 i I.dflt (by omega), qhx]
  cases wj ((l.getD n T11.dflt).2.2.getD i I.dflt) bef
  ·rw [qg, zn, qw]; rfl
  ·rw [qi, zX]; rfl
theorem qFY (k : Nat) (l : List vq) (hl : l.length ≤ 40) (hr : ∀ s ∈ l, s.2.2.length ≤ 40) (hk : 3000 ≤ k) : ∀ (d i j : Nat) (bef : List Int), i + d = l.length → d * 50 < j → bef.length + d * 40 ≤ 2000 →
  vV k j l (i : Int) bef = some (bif X4 bef (l.drop i) then 34 else 0) := by
 intro d
 induction d with
 | zero =>
  intro i j bef hi hj hb
  obtain ⟨j, rfl⟩ := qQ (by omega : 0 < j)
  rw [vV, qx (by omega : ¬ (i : Int) < (l.length : Int)), qg, qh (by omega), X4]; rfl
 | succ d ih =>
  intro i j bef hi hj hb
  rw [qTX] at hj hb
  have hm := hr _ (Vg l i T11.dflt (by omega))
  generalize hz : d * 50 = z at *
  generalize hy : d * 40 = y at *
  obtain ⟨j, rfl⟩ : ∃ q, j = ((l.getD i T11.dflt).2.2.length + 1 + q) + 1 := ⟨j - (l.getD i T11.dflt).2.2.length - 2, by omega⟩
  have h26 := qFU k l hl hr hk i (by omega) (l.getD i T11.dflt).2.2.length 0 j bef (by omega) (by omega)
  rw [wm] at h26
  rw [show ((0 : Nat) : Int) = 0 from rfl] at h26
  rw [vV, qA (by omega : (i : Int) < (l.length : Int)), qi, h26, qq l i T11.dflt (by omega), X4, ih (i + 1) j _ (by omega) (by omega) (by rw [qn]; omega)]
  cases qhx bef (l.getD i T11.dflt).2.2 <;> rfl
theorem qGH (k : Nat) (l : List vq) (hl : l.length ≤ 40) (hr : ∀ s ∈ l, s.2.2.length ≤ 40) (hk : 3000 ≤ k) : ∀ (d i j : Nat), i + d = l.length → 0 < i → d + 2100 < j →
  Wi k j l (i : Int) = some (bif Yf (some (l.getD (i - 1) T11.dflt).2.1) (l.drop i) then 9 else bif X4 [] l then 34 else 0) := by
 intro d
 induction d with
 | zero =>
  intro i j hi h0 hj
  obtain ⟨j, rfl⟩ := qQ (by omega : 0 < j)
  rw [Wi, qx (by omega : ¬ (i : Int) < (l.length : Int)), qg, qh (by omega), Yf, qg]
  exact qFY k l hl hr hk l.length 0 j [] (by omega) (by omega) (by simp; omega)
 | succ d ih =>
  intro i j hi h0 hj
  obtain ⟨j, rfl⟩ := qQ (by omega : 0 < j)
  have hw : qa .i64 ((i : Int) - 1) = ((i - 1 : Nat) : Int) := by rw [qo (by omega) (by omega)]; omega
  rw [Wi, qA (by omega : (i : Int) < (l.length : Int)), qi, hw, qd ⟨by omega, by omega, by omega, by omega⟩, qc, qc, qF i (by omega), ih (i + 1) j (by omega) (by omega) (by omega), qq l i T11.dflt (by omega), Yf, Nat.add_sub_cancel]
  cases decide ((l.getD i T11.dflt).2.1 < (l.getD (i - 1) T11.dflt).2.1) <;> rfl
theorem qFw (k : Nat) (l : List vq) (hl : l.length ≤ 40) (hr : ∀ s ∈ l, s.2.2.length ≤ 40) (hk : 3000 ≤ k) : ∀ (d i j : Nat) (bef : List Int), i + d = l.length → d + 2200 < j → bef.length + d ≤ 100 →
  ZC k j l (i : Int) bef = some (bif qdW bef (l.drop i) then 6 else bif Yf none l then 9 else bif X4 [] l then 34 else 0) := by
 intro d
 induction d with
 | zero =>
  intro i j bef hi hj hb
  obtain ⟨j, rfl⟩ := qQ (by omega : 0 < j)
  rw [ZC, qx (by omega : ¬ (i : Int) < (l.length : Int)), qg, qh (by omega), qdW, qg]
  cases l with
  | nil =>
   obtain ⟨j, rfl⟩ := qQ (by omega : 0 < j)
   obtain ⟨j, rfl⟩ := qQ (by omega : 0 < j)
   rw [Wi]
   show vV k (j + 1) [] 0 [] = _
   rw [vV]; rfl
  | cons x t =>
   have := qGH k (x :: t) hl hr hk t.length 1 j (by rw [wc]; omega) (by omega) (by rw [wc] at hl; omega)
   exact this
 | succ d ih =>
  intro i j bef hi hj hb
  obtain ⟨j, rfl⟩ := qQ (by omega : 0 < j)
  have h3 : (0 : Int) ≤ (i : Int) := by omega
  have h4 : (i : Int) < (l.length : Int) := by omega
  rw [ZC, qA h4, qi, qc, qmC k bef _ (by omega) (by omega), qt7 k bef _ (by omega) (by omega), qd ⟨h3, h4, rfl⟩, qd ⟨h3, h4, by simp only [qk]; omega⟩, qF i (by omega), ih (i + 1) j _ (by omega) (by omega) (by rw [qn, qk]; omega), qq l i T11.dflt (by omega), qdW]
  cases wj (l.getD i T11.dflt).1 bef <;> rfl
theorem qKG (k : Nat) (l : List vq) (hl : l.length ≤ 40) (hr : ∀ s ∈ l, s.2.2.length ≤ 40) (hk : 3000 ≤ k) : ∀ (d i j : Nat), i + d = l.length → d + 2300 < j →
  V5 k j l (i : Int) = some (bif qcw (l.drop i) != 0 then qcw (l.drop i) else bif qdW [] l then 6 else bif Yf none l then 9 else bif X4 [] l then 34 else 0) := by
 intro d
 induction d with
 | zero =>
  intro i j hi hj
  obtain ⟨j, rfl⟩ := qQ (by omega : 0 < j)
  rw [V5, qx (by omega : ¬ (i : Int) < (l.length : Int)), qg, qh (by omega), qcw, bne_self_eq_false, qg]
  exact qFw k l hl hr hk l.length 0 j [] (by omega) (by omega) (by simp; omega)
 | succ d ih =>
  intro i j hi hj
  obtain ⟨j, rfl⟩ := qQ (by omega : 0 < j)
  have h3 : (0 : Int) ≤ (i : Int) := by omega
  have h4 : (i : Int) < (l.length : Int) := by omega
  rw [V5, qA h4, qi, qc, qwy k (by omega), qLv k (by omega), qd ⟨h3, h4, rfl⟩, qF i (by omega), ih (i + 1) j (by omega) (by omega), qq l i T11.dflt (by omega), qcw]
  cases h : (qdT (l.getD i T11.dflt) != 0)
  ·rfl
  ·rw [qi, qi, h]; rfl
theorem qpe (k : Nat) (hk : 3000 ≤ k) (l : List vq) (hl : l.length ≤ 40) (hr : ∀ s ∈ l, s.2.2.length ≤ 40) : qcu k l = some (Zl l) := by
 unfold qcu Zl
 rw [qx (by omega : ¬ (l.length : Int) > 512), qg, qg]
 exact qKG k l hl hr hk l.length 0 k (by omega) (by omega)
theorem qxj (k : Nat) (hk : 3000 ≤ k) (l : List vq) (hl : l.length ≤ 40) (hr : ∀ s ∈ l, s.2.2.length ≤ 40) : XG k l = Zl l := by
 unfold XG; rw [qpe k hk l hl hr]; rfl
def qjt (x : Int) (l : List vq) : Bool := l.any fun s => wj x s.2.2
theorem qFI (k : Nat) (l : List vq) (hl : l.length ≤ 40) (hr : ∀ s ∈ l, s.2.2.length ≤ 40) (hk : 3000 ≤ k) (x : Int) : ∀ (d i j : Nat), i + d = l.length → d < j →
  ∃ n : Int, VQ k j l x (i : Int) = some (n, bif qjt x (l.drop i) then 0 else 7) := by
 intro d
 induction d with
 | zero =>
  intro i j hi hj
  obtain ⟨j, rfl⟩ := qQ (by omega : 0 < j)
  refine ⟨0, ?_⟩
  rw [VQ, qx (by omega : ¬ (i : Int) < (l.length : Int)), qg, qh (by omega)]; rfl
 | succ d ih =>
  intro i j hi hj
  obtain ⟨j, rfl⟩ := qQ (by omega : 0 < j)
  have h3 : (0 : Int) ≤ (i : Int) := by omega
  have h4 : (i : Int) < (l.length : Int) := by omega
  have hm := hr _ (Vg l i T11.dflt (by omega))
  obtain ⟨n, hn⟩ := ih (i + 1) j (by omega) (by omega)
  rw [VQ, qA h4, qi, qc, qmC k _ x (by omega) (by omega), qt7 k _ x (by omega) (by omega), qd ⟨h3, h4, rfl⟩, qF i (by omega), hn, qq l i T11.dflt (by omega)]
  show ∃ n, _ = some (n, bif (wj x (l.getD i T11.dflt).2.2 || qjt x (l.drop (i + 1))) then 0 else 7)
  cases wj x (l.getD i T11.dflt).2.2
  ·exact ⟨n, rfl⟩
  ·exact ⟨(i : Int), rfl⟩
theorem qGe (k : Nat) (hk : 3000 ≤ k) (l : List vq) (hl : l.length ≤ 40) (hr : ∀ s ∈ l, s.2.2.length ≤ 40) (x : Int) (he : Zl l = 0) : ∃ n : Int, qbZ k l x = some (n, bif qjt x l then 0 else 7) := by
 unfold qbZ
 rw [qpe k hk l hl hr, qxj k hk l hl hr, he, qb, qd rfl, bne_self_eq_false, qg]
 exact qFI k l hl hr hk x l.length 0 k (by omega) (by omega)
theorem qBX (k : Nat) (n : Int) : (!qh8 k n) = XN n := by
 show (!(decide (n ≥ 1) && decide (n ≤ 1000000))) = (decide (n < (1 : Int)) || decide (n > (1000000 : Int)))
 by_cases h1 : n < 1
 ·rw [qA h1, qx (by omega : ¬ n ≥ 1)]; rfl
 ·by_cases h2 : n > 1000000
  ·rw [qx h1, qA h2, qA (by omega : n ≥ 1), qx (by omega : ¬ n ≤ 1000000)]; rfl
  ·rw [qx h1, qx h2, qA (by omega : n ≥ 1), qA (by omega : n ≤ 1000000)]; rfl
theorem qN2 (k : Nat) (l : List Int) (hl : l.length ≤ 1000) : ∀ (d i j : Nat), i + d = l.length → d < j → Xc k j l (l.length : Int) (i : Int) = some (bif (l.drop i).any XN then 1 else 0) := by
 intro d
 induction d with
 | zero =>
  intro i j hi hj
  obtain ⟨j, rfl⟩ := qQ (by omega : 0 < j)
  rw [Xc, qx (by omega : ¬ (i : Int) < (l.length : Int)), qg, qh (by omega)]; rfl
 | succ d ih =>
  intro i j hi hj
  obtain ⟨j, rfl⟩ := qQ (by omega : 0 < j)
  rw [Xc, qA (by omega : (i : Int) < (l.length : Int)), qi, qd ⟨by omega, by omega⟩, qc, qBX, qd (show (qb7 k (l.getD i I.dflt)).isSome = true from rfl), qF i (by omega), qq l i I.dflt (by omega), ih (i + 1) j (by omega) (by omega), List.any_cons]
  cases XN (l.getD i I.dflt) <;> rfl
theorem qCl (k : Nat) (hk : 600 ≤ k) (s : vq) : qeV k s = some (qdT s) := by
 unfold qeV qdT
 rw [qd (show (qb7 k s.1).isSome = true from rfl), qBX]
 cases (XN s.1 || decide (s.2.1 < (0 : Int)) || decide (s.2.1 > (2147483647 : Int)))
 ·cases ((s.2.2.length : Int) == (0 : Int))
  ·by_cases h : (s.2.2.length : Int) > 512
   ·rw [qA h]; rfl
   ·rw [qx h]
    exact qN2 k s.2.2 (by omega) s.2.2.length 0 k (by omega) (by omega)
  ·rfl
 ·rfl
theorem qO1 (k : Nat) (hk : 600 ≤ k) (s : vq) : qej k s = qdT s := by unfold qej; rw [qCl k hk]; rfl
theorem qK1 (k : Nat) (l : List vq) (n : Nat) (hn : n ≤ 1000) (m : List Int) (hm : m.length ≤ 40) : ∀ (d i j : Nat) (bef : List Int) (M : List (Int × Bool)), i + d = m.length → (∀ x, (wd I (β := Bool) x M).getD false = wj x bef) →
  ∃ M' : List (Int × Bool), Zg k (d + 1 + j) l (l.length : Int) (n : Int) m (m.length : Int) (i : Int) M = (bif qhx bef (m.drop i) then some 34 else v6 k j l (l.length : Int) ((n + 1 : Nat) : Int) M') ∧ ∀ x, (wd I (β := Bool) x M').getD false = wj x (bef ++ m.drop i) := by
 intro d
 induction d with
 | zero =>
  intro i j bef M hi hM
  refine ⟨M, ?_, fun x => ?_⟩
  ·rw [show 0 + 1 + j = j + 1 by omega, Zg, qx (by omega : ¬ (i : Int) < (m.length : Int)), qg, qh (by omega), qF n (by omega)]; rfl
  ·rw [qh (by omega), qY]; exact hM x
 | succ d ih =>
  intro i j bef M hi hM
  have hM' : ∀ x, (wd I (β := Bool) x (vw I (β := Bool) (m.getD i I.dflt) true M)).getD false = wj x (bef ++ [m.getD i I.dflt]) := fun x => by rw [qly, hM x, qpG]
  obtain ⟨M', h1, h2⟩ := ih (i + 1) j (bef ++ [m.getD i I.dflt]) _ (by omega) hM'
  have hrw : m.drop i = m.getD i I.dflt :: m.drop (i + 1) := qq m i I.dflt (by omega)
  refine ⟨M', ?_, fun x => ?_⟩
  ·rw [show d + 1 + 1 + j = (d + 1 + j) + 1 by omega, Zg, qA (by omega : (i : Int) < (m.length : Int)), qi, qd ⟨by omega, by omega⟩, qc, qF i (by omega), hrw, qhx]
   have e := hM (m.getD i I.dflt)
   show (bif (wd I (β := Bool) (m.getD i I.dflt) M).getD false then _ else _) = _
   rw [e]
   cases wj (m.getD i I.dflt) bef
   ·rw [qg, zn]; exact h1
   ·rfl
  ·rw [h2 x, hrw, qw]; rfl
theorem qM5 (k : Nat) (l : List vq) (hl : l.length ≤ 40) (hr : ∀ s ∈ l, s.2.2.length ≤ 40) : ∀ (d i j : Nat) (bef : List Int) (M : List (Int × Bool)), i + d = l.length → d * 50 < j → (∀ x, (wd I (β := Bool) x M).getD false = wj x bef) →
  v6 k j l (l.length : Int) (i : Int) M = some (bif X4 bef (l.drop i) then 34 else 0) := by
 intro d
 induction d with
 | zero =>
  intro i j bef M hi hj hM
  obtain ⟨j, rfl⟩ := qQ (by omega : 0 < j)
  rw [v6, qx (by omega : ¬ (i : Int) < (l.length : Int)), qg, qh (by omega), X4]; rfl
 | succ d ih =>
  intro i j bef M hi hj hM
  rw [qTX] at hj
  have hm := hr _ (Vg l i T11.dflt (by omega))
  generalize hz : d * 50 = z at *
  obtain ⟨j, rfl⟩ : ∃ q, j = ((l.getD i T11.dflt).2.2.length + 1 + q) + 1 := ⟨j - (l.getD i T11.dflt).2.2.length - 2, by omega⟩
  obtain ⟨M', h1, h2⟩ := qK1 k l i (by omega) (l.getD i T11.dflt).2.2 hm (l.getD i T11.dflt).2.2.length 0 j bef M (by omega) hM
  rw [wm] at h1 h2
  rw [show ((0 : Nat) : Int) = 0 from rfl] at h1
  rw [v6, qA (by omega : (i : Int) < (l.length : Int)), qi, qd ⟨by omega, by omega⟩, qc, h1, qq l i T11.dflt (by omega), X4, ih (i + 1) j _ M' (by omega) (by omega) h2]
  cases qhx bef (l.getD i T11.dflt).2.2 <;> rfl
theorem qMY (k : Nat) (l : List vq) (hl : l.length ≤ 40) (hr : ∀ s ∈ l, s.2.2.length ≤ 40) : ∀ (d i j : Nat), i + d = l.length → 0 < i → d + 2100 < j →
  Wu k j l (i : Int) [] = some (bif Yf (some (l.getD (i - 1) T11.dflt).2.1) (l.drop i) then 9 else bif X4 [] l then 34 else 0) := by
 intro d
 induction d with
 | zero =>
  intro i j hi h0 hj
  obtain ⟨j, rfl⟩ := qQ (by omega : 0 < j)
  rw [Wu, qx (by omega : ¬ (i : Int) < (l.length : Int)), qg, qh (by omega), Yf, qg]
  exact qM5 k l hl hr l.length 0 j [] [] (by omega) (by omega) (fun x => rfl)
 | succ d ih =>
  intro i j hi h0 hj
  obtain ⟨j, rfl⟩ := qQ (by omega : 0 < j)
  have hw : qa .i64 ((i : Int) - 1) = ((i - 1 : Nat) : Int) := by rw [qo (by omega) (by omega)]; omega
  rw [Wu, qA (by omega : (i : Int) < (l.length : Int)), qi, hw, qd ⟨by omega, by omega, by omega, by omega⟩, qc, qc, qF i (by omega), ih (i + 1) j (by omega) (by omega) (by omega), qq l i T11.dflt (by omega), Yf, Nat.add_sub_cancel]
  cases decide ((l.getD i T11.dflt).2.1 < (l.getD (i - 1) T11.dflt).2.1) <;> rfl
theorem qLh (k : Nat) (l : List vq) (hl : l.length ≤ 40) (hr : ∀ s ∈ l, s.2.2.length ≤ 40) : ∀ (d i j : Nat) (bef : List Int) (M : List (Int × Bool)), i + d = l.length → d + 2200 < j → (∀ x, (wd I (β := Bool) x M).getD false = wj x bef) →
  Zn k j l l (l.length : Int) (i : Int) M [] = some (bif qdW bef (l.drop i) then 6 else bif Yf none l then 9 else bif X4 [] l then 34 else 0) := by
 intro d
 induction d with
 | zero =>
  intro i j bef M hi hj hM
  obtain ⟨j, rfl⟩ := qQ (by omega : 0 < j)
  rw [Zn, qx (by omega : ¬ (i : Int) < (l.length : Int)), qg, qh (by omega), qdW, qg]
  cases l with
  | nil =>
   obtain ⟨j, rfl⟩ := qQ (by omega : 0 < j)
   obtain ⟨j, rfl⟩ := qQ (by omega : 0 < j)
   rw [Wu]
   show v6 k (j + 1) [] 0 0 [] = _
   rw [v6]; rfl
  | cons x t =>
   have := qMY k (x :: t) hl hr t.length 1 j (by rw [wc]; omega) (by omega) (by rw [wc] at hl; omega)
   exact this
 | succ d ih =>
  intro i j bef M hi hj hM
  obtain ⟨j, rfl⟩ := qQ (by omega : 0 < j)
  have hM' : ∀ x, (wd I (β := Bool) x (vw I (β := Bool) (l.getD i T11.dflt).1 true M)).getD false = wj x (bef ++ [(l.getD i T11.dflt).1]) := fun x => by rw [qly, hM x, qpG]
  have h := ih (i + 1) j (bef ++ [(l.getD i T11.dflt).1]) _ (by omega) (by omega) hM'
  have e := hM (l.getD i T11.dflt).1
  rw [Zn, qA (by omega : (i : Int) < (l.length : Int)), qi, qd ⟨by omega, by omega⟩, qc, qF i (by omega), qq l i T11.dflt (by omega), qdW]
  show (bif (wd I (β := Bool) (l.getD i T11.dflt).1 M).getD false then _ else _) = _
  rw [e]
  cases wj (l.getD i T11.dflt).1 bef
  ·rw [qg, zn]; exact h
  ·rfl
theorem qPH (k : Nat) (hk : 3000 ≤ k) (l : List vq) (hl : l.length ≤ 40) (hr : ∀ s ∈ l, s.2.2.length ≤ 40) : ∀ (d i j : Nat), i + d = l.length → d + 2300 < j →
  Xa k j l l (l.length : Int) (i : Int) = some (bif qcw (l.drop i) != 0 then qcw (l.drop i) else bif qdW [] l then 6 else bif Yf none l then 9 else bif X4 [] l then 34 else 0) := by
 intro d
 induction d with
 | zero =>
  intro i j hi hj
  obtain ⟨j, rfl⟩ := qQ (by omega : 0 < j)
  rw [Xa, qx (by omega : ¬ (i : Int) < (l.length : Int)), qg, qh (by omega), qcw, bne_self_eq_false, qg]
  exact qLh k l hl hr l.length 0 j [] [] (by omega) (by omega) (fun x => rfl)
 | succ d ih =>
  intro i j hi hj
  obtain ⟨j, rfl⟩ := qQ (by omega : 0 < j)
  rw [Xa, qA (by omega : (i : Int) < (l.length : Int)), qi, qd ⟨by omega, by omega⟩, qc, qCl k (by omega), qO1 k (by omega), qb, qd rfl, qF i (by omega), ih (i + 1) j (by omega) (by omega), qq l i T11.dflt (by omega), qcw]
  cases h : (qdT (l.getD i T11.dflt) != 0)
  ·rfl
  ·rw [qi, qi, h]; rfl
theorem qB3 (k : Nat) (hk : 3000 ≤ k) (l : List vq) (hl : l.length ≤ 40) (hr : ∀ s ∈ l, s.2.2.length ≤ 40) : qeP k l = some (Zl l) := by
 unfold qeP Zl
 rw [qx (by omega : ¬ (l.length : Int) > 512), qg, qg]
 exact qPH k hk l hl hr l.length 0 k (by omega) (by omega)
theorem qP7 (k : Nat) (hk : 3000 ≤ k) (l : List vq) (hl : l.length ≤ 40) (hr : ∀ s ∈ l, s.2.2.length ≤ 40) : qat k l = Zl l := by
 unfold qat; rw [qB3 k hk l hl hr]; rfl
end Go.AM
namespace Go.AM
open Go Go.Proofs
noncomputable section
abbrev qDi (a : Int) (b : Int) (d : Int) (r : Int) : Prop := CC Tryz.prog 186 [ri a, ri b, ri d] [] (ri r) (nb r)
def qeX (k : Nat) (a : Int) (b : Int) (d : Int) : Option Int :=
 bif (decide (a < 1) || decide (a > 2500) || decide (b < 1) || decide (b > 2500) || decide (d < 1) || decide (d > 5000)) then
 some 1
 else
 bif b < a then
 some 9
 else
 some 0
def qep := fun k a b d => (qeX k a b d).getD 0
def qJ9 (k : Nat) : Ke := (186, mo 3, fun
 | [.r (.v (.int .i64 a)), .r (.v (.int .i64 b)), .r (.v (.int .i64 d))], [] => some (.one (ri (qep k a b d), []))
 | _, _ => none)
theorem qJ6 (k a b d r) (h : qeX k a b d = some r): qDi a b d r := qN Tryz.f186 (go (qD []) [] [] [.autoB [6] true []] (qB h fun h => qB h fun h => gL h))
theorem qKx {k a b d} (h : (qeX k a b d).isSome): qDi a b d (qep k a b d) := qJ h (qJ6 k a b d)
def qtD (r : Int × Int) : AV := .tup [ri r.1, ri r.2]
abbrev qzq (a : Int) (b : Int) (d : Int) (r : Int × Int) : Prop := CC Tryz.prog 138 [ri a, ri b, ri d] [] (qtD r) (nb r)
def qfl (k : Nat) (a : Int) (b : Int) (d : Int) : Option (Int × Int) :=
 if ((qeX k a b d).isSome) then
 bif (qep k a b d != 0) then
 some (0, qep k a b d)
 else
 if (qa .i64 ((1000000000 : Int) * d) ≠ (0 : Int)) then
 some (qa .i64 ((qa .i64 (qa .i64 (3141592653 * qa .i64 (qa .i64 (b * b) - qa .i64 (a * a))) * 250)).tdiv (qa .i64 (1000000000 * d))), 0)
 else none
 else none
def qiq := fun k a b d => (qfl k a b d).getD (0, 0)
def qva (k : Nat) : Ke := (138, mo 3, fun
 | [.r (.v (.int .i64 a)), .r (.v (.int .i64 b)), .r (.v (.int .i64 d))], [] => some (.one (qtD (qiq k a b d), []))
 | _, _ => none)
theorem qKX (k a b d r) (h : qfl k a b d = some r): qzq a b d r := qN Tryz.f138 (go (qD [qJ9 k]) [] [] [.autoB [6, 7] true []] (qu h qKx fun h => qB h fun h => qu h id fun h => gL h))
theorem qLF {k a b d} (h : (qfl k a b d).isSome): qzq a b d (qiq k a b d) := qJ h (qKX k a b d)
def qlJ (r : Int × Int) : AV := .tup [ri r.1, ri r.2]
abbrev qBo (a : Int) (b : Int) (d : Int) (r : Int × Int) : Prop := CC Tryz.prog 97 [ri a, ri b, ri d] [] (qlJ r) (nb r)
def qCf := fun y0 y1 y2 y3 => (⟨qI 49 [(0, ri y0), (1, ri y1), (2, ri y2), (8, ri y3)], []⟩ : St)
def VW (k : Nat) : Nat → Int → Int → Int → Int → Option (Int × Int)
 | 0, _, _, _, _ => none
 | j + 1, y0, y1, y2, y3 =>
 bif y3 ≤ 2500 then
 if ((qfl k y0 y3 y2).isSome) then
 bif (qiq k y0 y3 y2).1 ≥ y1 then
 some (y3, 0)
 else
 VW k j y0 y1 y2 (qa .i64 (y3 + 1))
 else none
 else
 some (0, 32)
def qeT (k : Nat) (a : Int) (b : Int) (d : Int) : Option (Int × Int) :=
 bif (decide (a < 1) || decide (a > 2500) || decide (b < 0) || decide (b > 17179869184) || decide (d < 1) || decide (d > 5000)) then
 some (0, 1)
 else
 VW k k a b d a
def qb3 := fun k a b d => (qeT k a b d).getD (0, 0)
def qM4 (k : Nat) : Ke := (97, mo 3, fun
 | [.r (.v (.int .i64 a)), .r (.v (.int .i64 b)), .r (.v (.int .i64 d))], [] => some (.one (qlJ (qb3 k a b d), []))
 | _, _ => none)
def qwI : List (Nat × List Cmd) := [(4, [.autoB [0, 1, 2, 8] false []])]
abbrev qQQ := EP Tryz.f97 0 qlJ nb
theorem qvK (k) : ∀ j, (∀ y0 y1 y2 y3, qQQ 4 (qCf y0 y1 y2 y3) (VW k j y0 y1 y2 y3))
 | 0 => by intros; exact e0
 | j + 1 => by
  have ih := @qvK k j
  ·intro y0 y1 y2 y3 r h
   rw [VW] at h
   exact go (qD [qva k]) [] qwI [.autoB [6, 7] true []] (gS h (fun h => qu h qLF fun h => qB h fun h => gC h 4 (ih _ _ _ _ _)) fun h => gL h)
theorem qL3 (k a b d r) (h : qeT k a b d = some r): qBo a b d r := qN Tryz.f97 (go (qD [qva k]) [] qwI [.autoB [6, 7] true []] (qB h fun h => gC h 4 ((qvK k k) _ _ _ _ _)))
theorem qKC {k a b d} (h : (qeT k a b d).isSome): qBo a b d (qb3 k a b d) := qJ h (qL3 k a b d)
end
def za (c d p : Int) : Int := (3141592653 * ((d * d - c * c) * 250)).tdiv (1000000000 * p)
theorem qrc {c d : Int} (h0 : 0 ≤ c) (h1 : c ≤ d) : c * c ≤ d * d := Int.mul_le_mul h1 h1 h0 (by omega)
theorem qIV {c d : Int} (h0 : 1 ≤ c) (h1 : c ≤ d) (h2 : d ≤ 2500) : 0 ≤ c * c ∧ c * c ≤ d * d ∧ d * d ≤ 6250000 := by
 refine ⟨Int.mul_nonneg (by omega) (by omega), qrc (by omega) h1, ?_⟩
 have := qrc (c := d) (d := 2500) (by omega) h2
 omega
theorem qvB (k : Nat) {c d p : Int} (h0 : 1 ≤ c) (h1 : c ≤ d) (h2 : d ≤ 2500) (p0 : 1 ≤ p) (p1 : p ≤ 5000) : qjJ k c d p = some (za c d p) ∧ 0 ≤ za c d p ∧ za c d p ≤ 9223372036854775807 := by
 obtain ⟨a, b, e⟩ := qIV h0 h1 h2
 have hn : 0 ≤ 3141592653 * ((d * d - c * c) * 250) ∧ 3141592653 * ((d * d - c * c) * 250) ≤ 4908738520312500000 := by omega
 have q0 : 0 ≤ za c d p := Int.tdiv_nonneg hn.1 (by omega)
 have q1 : za c d p ≤ 3141592653 * ((d * d - c * c) * 250) := by
  unfold za
  rw [Int.tdiv_eq_ediv_of_nonneg hn.1]
  exact Int.ediv_le_self _ hn.1
 refine ⟨?_, q0, by omega⟩
 unfold qjJ
 rw [qo (i := 1000000000 * p) (by omega) (by omega), qd (by omega), qo (i := d * d) (by omega) (by omega), qo (i := c * c) (by omega) (by omega), qo (i := d * d - c * c) (by omega) (by omega), qo (i := (d * d - c * c) * 250) (by omega) (by omega), qo (i := 3141592653 * ((d * d - c * c) * 250)) (by omega) (by omega)]
 show some (qa .i64 (za c d p)) = _
 rw [qo (by omega) (by omega)]
theorem qxX {c d e p : Int} (h0 : 1 ≤ c) (h1 : c ≤ d) (h2 : d ≤ e) (p0 : 1 ≤ p) : za c d p ≤ za c e p := by
 have a := qrc (c := c) (d := d) (by omega) h1
 have b := qrc (c := d) (d := e) (by omega) h2
 unfold za
 rw [Int.tdiv_eq_ediv_of_nonneg (by omega), Int.tdiv_eq_ediv_of_nonneg (by omega)]
 exact Int.ediv_le_ediv (by omega) (by omega)
def qdn (c n p : Int) : Nat → Int → Int × Int
 | 0, _ => (0, 32)
 | j + 1, d => if za c d p ≥ n then (d, 0) else qdn c n p j (d + 1)
theorem ql5 {c n p : Int} : ∀ (j : Nat) (d : Int), (∀ q : Int, d ≤ q → q < d + j → ¬ za c q p ≥ n) → qdn c n p j d = (0, 32)
 | 0, _, _ => rfl
 | j + 1, d, h => by
  rw [qdn, qm (h d (by omega) (by omega))]
  exact ql5 j (d + 1) fun q h0 h1 => h q (by omega) (by omega)
theorem qmm {c n p : Int} : ∀ (j : Nat) (d r : Int), d ≤ r → r < d + j → (∀ q : Int, d ≤ q → q < r → ¬ za c q p ≥ n) → za c r p ≥ n → qdn c n p j d = (r, 0)
 | 0, d, r, h0, h1, _, _ => by omega
 | j + 1, d, r, h0, h1, h2, h3 => by
  rw [qdn]
  by_cases e : d = r
  ·rw [e, qd h3]
  ·rw [qm (h2 d (Wg _) (by omega))]
   exact qmm j (d + 1) r (by omega) (by omega) (fun q a b => h2 q (by omega) b) h3
def Yu (c n p : Int) : Int × Int := if c < 1 ∨ c > 2500 ∨ n < 0 ∨ n > 17179869184 ∨ p < 1 ∨ p > 5000 then (0, 1) else qdn c n p (2501 - c).toNat c
theorem qnE (k : Nat) {c d p : Int} (h0 : 1 ≤ c) (h1 : c ≤ d) (h2 : d ≤ 2500) (p0 : 1 ≤ p) (p1 : p ≤ 5000) : qfl k c d p = some (za c d p, 0) := by
 obtain ⟨a, b, e⟩ := qIV h0 h1 h2
 have hw := (qvB k h0 h1 h2 p0 p1).2
 have hl : qeX k c d p = some 0 := by
  unfold qeX
  rw [qx (by omega : ¬ c < 1), qx (by omega : ¬ c > 2500), qx (by omega : ¬ d < 1), qx (by omega : ¬ d > 2500), qx (by omega : ¬ p < 1), qx (by omega : ¬ p > 5000), qx (by omega : ¬ d < c)]
  rfl
 have hv : qep k c d p = 0 := by unfold qep; rw [hl]; rfl
 unfold qfl
 rw [hl, hv, qb, qd rfl, bne_self_eq_false, qg, qo (i := 1000000000 * p) (by omega) (by omega), qd (by omega), qo (i := d * d) (by omega) (by omega), qo (i := c * c) (by omega) (by omega), qo (i := d * d - c * c) (by omega) (by omega), qo (i := 3141592653 * (d * d - c * c)) (by omega) (by omega), qo (i := 3141592653 * (d * d - c * c) * 250) (by omega) (by omega), show 3141592653 * (d * d - c * c) * 250 = 3141592653 * ((d * d - c * c) * 250) by omega]
 show some (qa .i64 (za c d p), (0 : Int)) = _
 rw [qo (by omega) (by omega)]
theorem quC (k : Nat) {c n p : Int} (h0 : 1 ≤ c) (p0 : 1 ≤ p) (p1 : p ≤ 5000) : ∀ (q j : Nat) (d : Int), d + q = 2501 → c ≤ d → q < j → VW k j c n p d = some (qdn c n p q d) := by
 intro q
 induction q with
 | zero =>
  intro j d hd hc hj
  obtain ⟨j, rfl⟩ := qQ (by omega : 0 < j)
  rw [VW, qx (by omega : ¬ d ≤ 2500)]; rfl
 | succ q ih =>
  intro j d hd hc hj
  obtain ⟨j, rfl⟩ := qQ (by omega : 0 < j)
  have hl := qnE k (c := c) (d := d) (p := p) h0 hc (by omega) p0 p1
  have hv : qiq k c d p = (za c d p, 0) := by unfold qiq; rw [hl]; rfl
  rw [VW, qA (by omega : d ≤ 2500), qi, hl, hv, qb, qd rfl, qdn, qo (by omega) (by omega), ih j (d + 1) (by omega) (by omega) (by omega)]
  by_cases h : za c d p ≥ n
  ·rw [qA h, qi, qd h]
  ·rw [qx h, qg, qm h]
theorem qkf (k : Nat) (hk : 3000 ≤ k) (c n p : Int) : qeT k c n p = some (Yu c n p) := by
 unfold qeT Yu
 by_cases h : c < 1 ∨ c > 2500 ∨ n < 0 ∨ n > 17179869184 ∨ p < 1 ∨ p > 5000
 ·rw [qd h]
  have : (decide (c < (1 : Int)) || decide (c > (2500 : Int)) || decide (n < (0 : Int)) || decide (n > (17179869184 : Int)) || decide (p < (1 : Int)) || decide (p > (5000 : Int))) = true := by
   simp only [qJr, decide_eq_true_iff]; omega
  rw [this]; rfl
 ·rw [qm h, qx (by omega), qx (by omega), qx (by omega), qx (by omega), qx (by omega), qx (by omega)]
  exact quC k (by omega) (by omega) (by omega) (2501 - c).toNat k c (by omega) (Wg _) (by omega)
theorem quG (k : Nat) (hk : 3000 ≤ k) (c n p : Int) : qb3 k c n p = Yu c n p := by
 unfold qb3; rw [qkf k hk]; rfl
theorem qLk (k : Nat) {c p : Int} (n : Int) (h0 : 1 ≤ c) (h1 : c ≤ 2500) (p0 : 1 ≤ p) (p1 : p ≤ 5000) {x : Int} (x0 : 0 ≤ x) (x1 : x < 2501 - c) : qjA k x c p n = some (decide (za c (c + x) p ≥ n)) := by
 have hw := (qvB k (c := c) (d := c + x) (p := p) h0 (by omega) (by omega) p0 p1).1
 have hv : qmq k c (c + x) p = za c (c + x) p := by unfold qmq; rw [hw]; rfl
 unfold qjA
 rw [qo (by omega) (by omega), hw, hv, qb, qd rfl]
theorem qR4 {a b : Int} (h0 : 0 ≤ a) (h1 : a ≤ b) (h2 : b ≤ 2501) : qa .i64 ((IntKind.u64.wrap (qa .i64 (a + b))).fdiv ((2 : Int) ^ min (qt (1 : Int)) IntKind.u64.bits)) = (a + b) / 2 := by
 have e : (2 : Int) ^ min (qt (1 : Int)) IntKind.u64.bits = 2 := by decide
 have u : IntKind.u64.wrap (a + b) = a + b := by
  show (a + b) % 18446744073709551616 = a + b
  exact Int.emod_eq_of_lt (by omega) (by omega)
 rw [qo (i := a + b) (by omega) (by omega), u, e, Int.fdiv_eq_ediv_of_nonneg _ (by decide), qo (by omega) (by omega)]
theorem qGS (k : Nat) {c p : Int} (n : Int) (h0 : 1 ≤ c) (hc : c ≤ 2500) (p0 : 1 ≤ p) (p1 : p ≤ 5000) (m : Int) (hm : m = 2501 - c) : ∀ (q j : Nat) (a b : Int), b - a ≤ q → q < j → 0 ≤ a → a ≤ b → b ≤ m → (∀ x : Int, 0 ≤ x → x < a → ¬ za c (c + x) p ≥ n) → (b < m → za c (c + b) p ≥ n) →
  ∃ r : Int, WD k m c p n j a b = some r ∧ 0 ≤ r ∧ r ≤ m ∧ (∀ x : Int, 0 ≤ x → x < r → ¬ za c (c + x) p ≥ n) ∧ (r < m → za c (c + r) p ≥ n) := by
 intro q
 induction q with
 | zero =>
  intro j a b hq hj a0 ab bm lo hi
  obtain ⟨j, rfl⟩ := qQ (by omega : 0 < j)
  obtain rfl : a = b := by omega
  refine ⟨a, ?_, a0, bm, lo, hi⟩
  rw [WD, qx (by omega : ¬ a < a)]; rfl
 | succ q ih =>
  intro j a b hq hj a0 ab bm lo hi
  obtain ⟨j, rfl⟩ := qQ (by omega : 0 < j)
  by_cases h : a < b
  ·have hmid := qR4 a0 ab (by omega)
   have x0 : a ≤ (a + b) / 2 ∧ (a + b) / 2 < b := by omega
   have hd := qLk k n h0 hc p0 p1 (x := (a + b) / 2) (by omega) (by omega)
   have hv : qjB k ((a + b) / 2) c p n = decide (za c (c + (a + b) / 2) p ≥ n) := by unfold qjB; rw [hd]; rfl
   rw [WD, qA h, qi]
   simp only [hmid]
   rw [hd, hv, qb, qd rfl]
   by_cases hp : za c (c + (a + b) / 2) p ≥ n
   ·rw [qA hp, vB, qg]
    exact ih j a ((a + b) / 2) (by omega) (by omega) a0 (by omega) (by omega) lo fun _ => hp
   ·rw [qx hp, qd1, qi, qo (by omega) (by omega)]
    refine ih j ((a + b) / 2 + 1) b (by omega) (by omega) (by omega) (by omega) bm (fun x y0 y1 => ?_) hi
    have := qxX (c := c) (d := c + x) (e := c + (a + b) / 2) (p := p) h0 (by omega) (by omega) p0
    omega
  ·obtain rfl : a = b := by omega
   refine ⟨a, ?_, a0, bm, lo, hi⟩
   rw [WD, qx h]; rfl
theorem qpx (k : Nat) (hk : 3000 ≤ k) (c n p : Int) : qjp k c n p = some (Yu c n p) := by
 have hf : qma k c p = some (decide (c ≥ 1) && decide (c ≤ 2500) && decide (p ≥ 1) && decide (p ≤ 5000)) := rfl
 have hv : qrq k c p = (decide (c ≥ 1) && decide (c ≤ 2500) && decide (p ≥ 1) && decide (p ≤ 5000)) := rfl
 unfold qjp Yu
 rw [hf, hv, qb, qd rfl]
 by_cases h : c < 1 ∨ c > 2500 ∨ n < 0 ∨ n > 17179869184 ∨ p < 1 ∨ p > 5000
 ·rw [qd h]
  have : (!(decide (c ≥ 1) && decide (c ≤ 2500) && decide (p ≥ 1) && decide (p ≤ 5000)) || decide (n < (0 : Int)) || decide (n > (17179869184 : Int))) = true := by
   cases h1 : (decide (c ≥ 1) && decide (c ≤ 2500) && decide (p ≥ 1) && decide (p ≤ 5000))
   ·rfl
   ·simp only [qj, decide_eq_true_iff] at h1
    simp only [qJr, decide_eq_true_iff]; omega
  rw [this]; rfl
 ·rw [qm h, qA (by omega : c ≥ 1), qA (by omega : c ≤ 2500), qA (by omega : p ≥ 1), qA (by omega : p ≤ 5000), qx (by omega : ¬ n < 0), qx (by omega : ¬ n > 17179869184)]
  rw [show (!(true && true && true && true) || false || false) = false from rfl, qg, qo (i := 2500 - c) (by omega) (by omega), qo (i := 2500 - c + 1) (by omega) (by omega), show 2500 - c + 1 = 2501 - c by omega]
  obtain ⟨r, e, r0, r1, lo, hi⟩ := qGS k n (c := c) (p := p) (by omega) (by omega) (by omega) (by omega) (2501 - c) rfl (2501 - c).toNat k 0 (2501 - c) (by omega) (by omega) (Wg _) (by omega) (Wg _) (fun x a b => by omega) (fun h => by omega)
  have e : qhV k (2501 - c) c p n = some r := e
  have ev : qbP k (2501 - c) c p n = r := by unfold qbP; rw [e]; rfl
  rw [e, ev, qb, qd rfl, qo (by omega) (by omega)]
  by_cases hr : r < 2501 - c
  ·rw [qx (by omega : ¬ c + r > 2500), qg, qmm (2501 - c).toNat c (c + r) (by omega) (by omega) (fun x a b => by
    have := lo (x - c) (by omega) (by omega)
    rw [show c + (x - c) = x by omega] at this; exact this) (hi hr)]
  ·rw [qA (by omega : c + r > 2500), qi, ql5 (2501 - c).toNat c fun x a b => by
    have := lo (x - c) (by omega) (by omega)
    rw [show c + (x - c) = x by omega] at this; exact this]
theorem qzR (k : Nat) (hk : 3000 ≤ k) (c n p : Int) : qfY k c n p = Yu c n p := by
 unfold qfY; rw [qpx k hk]; rfl
end Go.AM
namespace Go.AM
open Go Go.Proofs
noncomputable section
def qo1 (r : Int × Bool × Int) : AV := .tup [ri r.1, rb r.2.1, ri r.2.2]
abbrev qHw (a : List T2.T) (b : T21.T) (r : Int × Bool × Int) : Prop := CC Tryz.prog 96 [ro T2 a, .agg (qy (qr T21 b))] [] (qo1 r) (nb r)
def qGR := fun y0 y1 y2 y3 => (⟨qI 55 [(7, ro T2 y0), (9, ri y1), (10, rb y2), (11, ri y3)], []⟩ : St)
def Xi (k : Nat) : Nat → List T2.T → Int → Bool → Int → Option (Int × Bool × Int)
 | 0, _, _, _, _ => none
 | j + 1, y0, y1, y2, y3 =>
 bif y3 < y0.length then
 if (0 ≤ y3) ∧ (y3 < y0.length) ∧ ((0 : Int) ≤ (0 : Int)) ∧ ((0 : Int) < (↑y0.length : Int)) then
 bif ((y0.getD y3.toNat T2.dflt).2.2.2.1 != (y0.getD (qt (0 : Int)) T2.dflt).2.2.2.1) then
 if (y2 = true → 0 ≤ y3) ∧ (y2 = true → y3 < y0.length) then
 Xi k j y0 (-1) (y2 && (y0.getD y3.toNat T2.dflt).2.2.1 == 1) (qa .i64 (y3 + 1))
 else none
 else
 if (y2 = true → 0 ≤ y3) ∧ (y2 = true → y3 < y0.length) then
 Xi k j y0 y1 (y2 && (y0.getD y3.toNat T2.dflt).2.2.1 == 1) (qa .i64 (y3 + 1))
 else none
 else none
 else
 some (y1, y2, 0)
def qc0 (k : Nat) (a : List T2.T) (b : T21.T) : Option (Int × Bool × Int) :=
 if ((qey k a b).isSome) then
 bif ((Vy k a b).2 != (0 : Int)) then
 some (0, false, (Vy k a b).2)
 else
 bif ((↑ (Vy k a b).1.length : Int) == (0 : Int)) then
 some (-1, false, 0)
 else
 if ((0 : Int) ≤ (0 : Int)) ∧ ((0 : Int) < (↑ (Vy k a b).1.length : Int)) then
 Xi k k ((Vy k a b).1) (((Vy k a b).1.getD (qt 0) T2.dflt).2.2.2.1) true 0
 else none
 else none
def Y2 := fun k a b => (qc0 k a b).getD (0, false, 0)
def qQI (k : Nat) : Ke := (96, mo 2, fun
 | [.r (.ro f d), .agg e], [] => (qE f T2 d).bind fun a => (qW [] T21 e).bind fun b => some (.one (qo1 (Y2 k a b), []))
 | _, _ => none)
def qC2 : List (Nat × List Cmd) := [(8, [.autoB [7, 9, 10, 11] false []])]
abbrev qSD := EP Tryz.f96 0 qo1 nb
theorem qAU (k) : ∀ j, (∀ y0 y1 y2 y3, qSD 8 (qGR y0 y1 y2 y3) (Xi k j y0 y1 y2 y3))
 | 0 => by intros; exact e0
 | j + 1 => by
  have ih := @qAU k j
  ·intro y0 y1 y2 y3 r h
   rw [Xi] at h
   exact go (qD [qvt k]) [] qC2 [.autoB [4, 5, 6] true []] (gS h (fun h => gN h Xo fun h => gS h (fun h => qS h fun h => gC h 8 (ih _ _ _ _ _)) fun h => qS h fun h => gC h 8 (ih _ _ _ _ _)) fun h => gL h)
theorem qOk (k a b r) (h : qc0 k a b = some r): qHw a b r := qN Tryz.f96 (go (qD [qvt k]) [] qC2 [.autoB [4, 5, 6] true []] (qu h qM9 fun h => qB h fun h => qB h fun h => qS h fun h => gC h 8 ((qAU k k) _ _ _ _ _)))
theorem qO4 {k a b} (h : (qc0 k a b).isSome): qHw a b (Y2 k a b) := qJ h (qOk k a b)
def qrz (r : T4.T × Int) : AV := .tup [.agg (qy (qr T4 r.1)), ri r.2]
abbrev qt4 (a : List T5.T) (b : T23.T) (d : Int) (r : T4.T × Int) : Prop := CC Tryz.prog 94 [ro T5 a, .agg (qy (qr T23 b)), ri d] [] (qrz r) (nb r)
def Ql (g : List T5.T → T23.T → Int → Option (T4.T × Int)) (a : List T5.T) (b : T23.T) (d : Int) : (T4.T × Int) := (g a b d).getD ((T4).dflt, 0)
def wQ : Nat → List T5.T → T23.T → Int → Option (T4.T × Int)
 | 0, _, _, _ => none
 | k + 1, a, b, d =>
 if ((qeH k a b d).isSome) then
 bif ((qah k a b d).2.2 != (0 : Int)) then
 some ((0, (0, (false, []))), (qah k a b d).2.2)
 else
 bif (d == (0 : Int)) then
 bif (qah k a b d).2.1 > (0 : Int) then
 some ((0, (b.1, (false, [(0, (qah k a b d).2.1, false)]))), 0)
 else
 some ((0, (b.1, (false, []))), 0)
 else
 if ((Vu k a (↑a.length : Int) d).isSome) ∧ ((0 : Int) ≤ wa k a (↑a.length : Int) d) ∧ (wa k a (↑a.length : Int) d < (↑a.length : Int)) then
 if ((wQ k a b (a.getD (qt (wa k a (↑a.length : Int) d)) T5.dflt).2.1).isSome) then
 bif ((Ql (wQ k) a b (a.getD (qt (wa k a (↑a.length : Int) d)) T5.dflt).2.1).2 != (0 : Int)) then
 some ((0, (0, (false, []))), (Ql (wQ k) a b (a.getD (qt (wa k a (↑a.length : Int) d)) T5.dflt).2.1).2)
 else
 bif (Ql (wQ k) a b (a.getD (qt (wa k a (↑a.length : Int) d)) T5.dflt).2.1).1.2.2.1 then
 if ((qf4 k (a.getD (qt (wa k a (↑a.length : Int) d)) T5.dflt).2.2.2.2.2 (Ql (wQ k) a b (a.getD (qt (wa k a (↑a.length : Int) d)) T5.dflt).2.1).1.2.2.2).isSome) then
 bif ((YX k (a.getD (qt (wa k a (↑a.length : Int) d)) T5.dflt).2.2.2.2.2 (Ql (wQ k) a b (a.getD (qt (wa k a (↑a.length : Int) d)) T5.dflt).2.1).1.2.2.2).2 != (0 : Int)) then
 some ((0, (0, (false, []))), (YX k (a.getD (qt (wa k a (↑a.length : Int) d)) T5.dflt).2.2.2.2.2 (Ql (wQ k) a b (a.getD (qt (wa k a (↑a.length : Int) d)) T5.dflt).2.1).1.2.2.2).2)
 else
 some ((qa .i64 (qa .i64 (qa .i64 ((Ql (wQ k) a b (a.getD (qt (wa k a (↑a.length : Int) d)) T5.dflt).2.1).1.1 + (Ql (wQ k) a b (a.getD (qt (wa k a (↑a.length : Int) d)) T5.dflt).2.1).1.2.1) - (a.getD (qt (wa k a (↑a.length : Int) d)) T5.dflt).2.2.1) - (a.getD (qt (wa k a (↑a.length : Int) d)) T5.dflt).2.2.2.1), ((a.getD (qt (wa k a (↑a.length : Int) d)) T5.dflt).2.2.2.1, (! (a.getD (qt (wa k a (↑a.length : Int) d)) T5.dflt).2.2.2.2.1, (YX k (a.getD (qt (wa k a (↑a.length : Int) d)) T5.dflt).2.2.2.2.2 (Ql (wQ k) a b (a.getD (qt (wa k a (↑a.length : Int) d)) T5.dflt).2.1).1.2.2.2).1))), 0)
 else none
 else
 if ((qf4 k (a.getD (qt (wa k a (↑a.length : Int) d)) T5.dflt).2.2.2.2.2 (Ql (wQ k) a b (a.getD (qt (wa k a (↑a.length : Int) d)) T5.dflt).2.1).1.2.2.2).isSome) then
 bif ((YX k (a.getD (qt (wa k a (↑a.length : Int) d)) T5.dflt).2.2.2.2.2 (Ql (wQ k) a b (a.getD (qt (wa k a (↑a.length : Int) d)) T5.dflt).2.1).1.2.2.2).2 != (0 : Int)) then
 some ((0, (0, (false, []))), (YX k (a.getD (qt (wa k a (↑a.length : Int) d)) T5.dflt).2.2.2.2.2 (Ql (wQ k) a b (a.getD (qt (wa k a (↑a.length : Int) d)) T5.dflt).2.1).1.2.2.2).2)
 else
 some ((qa .i64 ((Ql (wQ k) a b (a.getD (qt (wa k a (↑a.length : Int) d)) T5.dflt).2.1).1.1 + (a.getD (qt (wa k a (↑a.length : Int) d)) T5.dflt).2.2.1), ((a.getD (qt (wa k a (↑a.length : Int) d)) T5.dflt).2.2.2.1, ((a.getD (qt (wa k a (↑a.length : Int) d)) T5.dflt).2.2.2.2.1, (YX k (a.getD (qt (wa k a (↑a.length : Int) d)) T5.dflt).2.2.2.2.2 (Ql (wQ k) a b (a.getD (qt (wa k a (↑a.length : Int) d)) T5.dflt).2.1).1.2.2.2).1))), 0)
 else none
 else none
 else none
 else none
def vN := fun k a b d => (wQ k a b d).getD ((T4).dflt, 0)
def qoa (k : Nat) : Ke := (94, mo 3, fun
 | [.r (.ro i e), .agg f, .r (.v (.int .i64 d))], [] => (qE i T5 e).bind fun a => (qW [] T23 f).bind fun b => some (.one (qrz (vN k a b d), []))
 | _, _ => none)
theorem qvv : ∀ (k : Nat) (a : List T5.T) (b : T23.T) (d : Int) (r : T4.T × Int), wQ k a b d = some r → qt4 a b d r
 | 0, a, b, d, r, h => by simp [wQ] at h
 | k + 1, a, b, d, r, h => by
  have ih : ∀ {a : List T5.T} {b : T23.T} {d : Int}, (wQ k a b d).isSome = true → qt4 a b d (vN k a b d) := fun {a} {b} {d} h => qJ h (qvv k a b d)
  refine CC.of (fn := Tryz.f94) (by kernel_rfl) (by kernel_rfl) (by kernel_rfl) (by kernel_rfl) ?_
  rw [wQ] at h
  exact go (qD [qjr k, qMT k, qOx k, qoa k]) [] [] [.frz 6 true T4, .autoB [6, 7] true []] (qu h qLD fun h => qB h fun h => gS h (fun h => qB h fun h => gL h) fun h => gN h (fun q => qf (qjw q.1) (qf q.2.1 (qf q.2.2 qR))) fun h => qu h (fun q => ih q) fun h => qB h fun h => gS h (fun h => qu h qCS fun h => qB h fun h => gL h) fun h => qu h qCS fun h => qB h fun h => gL h)
theorem qwe {k a b d} (h : (wQ k a b d).isSome): qt4 a b d (vN k a b d) := qJ h (qvv k a b d)
end
def qbe (W L : Int) : Ch := (0, W, false, if L > 0 then [(0, L, false)] else [])
def qkH (r : Ro) (o : Ch × Int) : Ch × Int :=
 if o.2 ≠ 0 then ((0, 0, false, []), o.2)
 else if (XH r.2.2.2.2.2 o.1.2.2.2).2 ≠ 0 then ((0, 0, false, []), (XH r.2.2.2.2.2 o.1.2.2.2).2)
 else (((if o.1.2.2.1 = true then qa .i64 (qa .i64 (qa .i64 (o.1.1 + o.1.2.1) - r.2.2.1) - r.2.2.2.1) else qa .i64 (o.1.1 + r.2.2.1)),
  r.2.2.2.1, !(o.1.2.2.1 == r.2.2.2.2.1), (XH r.2.2.2.2.2 o.1.2.2.2).1), 0)
def W7 (l : List Ro) (W L : Int) : Nat → Int → Ch × Int
 | 0, _ => (qbe W L, 0)
 | n + 1, id => if id = 0 then (qbe W L, 0) else match look l id with
  | none => (qbe W L, 0)
  | some r => qkH r (W7 l W L n r.2.1)
theorem Anc.cases {l : List Ro} {n : Nat} {id : Int} (h : Anc l n id) (h0 : id ≠ 0) : ∃ m r, n = m + 1 ∧ look l id = some r ∧ Anc l m r.2.1 := by
 cases h with
 | root => exact absurd rfl h0
 | step m _ r _ e a => exact ⟨m, r, rfl, e, a⟩
theorem qNe (W L : Int) (l : List Ro) (M : List (Int × Int)) (hM : Qo M l) : ∀ (n : Nat) (id : Int) (k : Nat), Anc l n id → n + 1000 < k → zA k W L l M id = some (W7 l W L n id) := by
 have hbase : ∀ k, zA (k + 1) W L l M 0 = some (qbe W L, 0) := fun k => by
  rw [zA]
  show (bif decide (L > 0) then some (((0 : Int), (W, (false, [((0 : Int), L, false)]))), (0 : Int)) else some (((0 : Int), (W, (false, []))), (0 : Int))) = _
  unfold qbe
  by_cases h : L > 0
  ·rw [qA h, qd h]; rfl
  ·rw [qx h, qm h]; rfl
 intro n
 induction n with
 | zero =>
  intro id k ha hk
  obtain ⟨k, rfl⟩ := qQ (by omega : 0 < k)
  by_cases h0 : id = 0
  ·rw [h0, hbase]; rfl
  ·obtain ⟨m, _, e, _⟩ := ha.cases h0
   cases e
 | succ n ih =>
  intro id k ha hk
  obtain ⟨k, rfl⟩ := qQ (by omega : 0 < k)
  by_cases h0 : id = 0
  ·rw [h0, hbase]
   unfold W7
   rw [qd rfl]
  ·obtain ⟨m, r, em, e, a⟩ := ha.cases h0
   cases em
   have hf := ih r.2.1 k a (by omega)
   obtain ⟨x, e1, e2, e3⟩ := (hM id).some e
   have hx : (x : Int) < (l.length : Int) := by omega
   rw [zA]
   unfold W7 Zd
   rw [qm h0, beq_false_of_ne h0, qg, e, e1, qRI, qd ⟨by omega, hx⟩, qc, e3, hf, qb, qd rfl, qRI, qg5 k (by omega), qqN k (by omega)]
   show _ = some (qkH r (W7 l W L n r.2.1))
   generalize W7 l W L n r.2.1 = o
   unfold qkH
   by_cases h1 : o.2 = 0
   ·have g1 : ¬ (o.2 ≠ 0) := fun h => h h1
    rw [show (o.2 != 0) = false by simp [h1], qg, qb, qd rfl]
    rw [qm g1]
    generalize XH r.2.2.2.2.2 o.1.2.2.2 = c
    by_cases h2 : c.2 = 0
    ·have g2 : ¬ (c.2 ≠ 0) := fun h => h h2
     rw [show (c.2 != 0) = false by simp [h2], qg, qm g2]
     cases h3 : o.1.2.2.1
     ·rfl
     ·rfl
    ·rw [bne_iff_ne.2 h2, qd h2]; rfl
   ·rw [bne_iff_ne.2 h1]
    rw [qd h1]; rfl
def qV (l : List Ro) (W L id : Int) : Ch × Int := if Qi l W L id ≠ 0 then ((0, 0, false, []), Qi l W L id) else W7 l W L 512 id
theorem qiD (k : Nat) (hk : 300000 ≤ k) (l : List Ro) (web : Int × Int) (id : Int) : qfs k l web id = some (qV l web.1 web.2 id) := by
 obtain ⟨h1, h2⟩ := qFC k hk l web id
 unfold qfs qer vb qcC qV
 by_cases h : Qi l web.1 web.2 id = 0
 ·obtain ⟨M, m1, m2, e⟩ := h2 h
  obtain ⟨reg, kn⟩ := Xr.1 h
  have hi : ¬ (Qi l web.1 web.2 id ≠ 0) := fun h' => h' h
  have hc := qNe web.1 web.2 l M m1 512 id k (reg.anc kn) (by omega)
  rw [e, qm hi]
  show (if (zA k web.1 web.2 l M id).isSome = true then some ((qa3 k web.1 web.2 l M id).1, (qa3 k web.1 web.2 l M id).2) else none) = _
  unfold qa3
  rw [hc]; rfl
 ·rw [h1 h, qd h]
  show (bif (Qi l web.1 web.2 id != 0) then _ else _) = _
  rw [bne_iff_ne.2 h]; rfl
theorem qpw (k : Nat) (hk : 300000 ≤ k) (l : List Ro) (web : Int × Int) (id : Int) : zd k l web id = qV l web.1 web.2 id := by
 unfold zd; rw [qiD k hk l web id]; rfl
theorem qBw (l : List Ro) (web : Int × Int) (reg : Reg l web.1 web.2) : ∀ (n : Nat) (id : Int) (k : Nat), Anc l n id → n + 300001 < k → (id = 0 ∨ ∃ q, look l id = some q) → wQ k l web id = some (W7 l web.1 web.2 n id) := by
 obtain ⟨W, L⟩ := web
 have hn := reg.num
 have hbase : ∀ k, 300000 ≤ k → wQ (k + 1) l (W, L) 0 = some (qbe W L, 0) := fun k hk => by
  have hz : Qi l (W, L).1 (W, L).2 0 = 0 := Xr.2 ⟨reg, .inl rfl⟩
  have hs : qcA l (W, L).1 (W, L).2 0 = (W, L, 0) := by unfold qcA wn; rw [qm (fun h => h hz), qd rfl]
  rw [wQ, Yc k hk, qb9 k hk, hs, qb, qd rfl]
  show (bif decide (L > 0) then some (((0 : Int), (W, (false, [((0 : Int), L, false)]))), (0 : Int)) else some (((0 : Int), (W, (false, []))), (0 : Int))) = _
  unfold qbe
  by_cases h : L > 0
  ·rw [qA h, qd h]; rfl
  ·rw [qx h, qm h]; rfl
 intro n
 induction n with
 | zero =>
  intro id k ha hk kn
  obtain ⟨k, rfl⟩ := qQ (by omega : 0 < k)
  by_cases h0 : id = 0
  ·rw [h0, hbase k (by omega)]; rfl
  ·obtain ⟨m, _, e, _⟩ := ha.cases h0
   cases e
 | succ n ih =>
  intro id k ha hk kn
  obtain ⟨k, rfl⟩ := qQ (by omega : 0 < k)
  by_cases h0 : id = 0
  ·rw [h0, hbase k (by omega)]
   unfold W7
   rw [qd rfl]
  ·obtain ⟨m, r, em, e, a⟩ := ha.cases h0
   cases em
   have ro := reg.ok.ro r (zr e).1
   have hf := ih r.2.1 k a (by omega) ro.parent
   obtain ⟨o, o1, o2, o3⟩ := qtC k l id (by omega) (by omega)
   obtain ⟨x, e1, e2, e3⟩ := o3.some e
   have hx : (x : Int) < (l.length : Int) := by omega
   have hz : Qi l (W, L).1 (W, L).2 id = 0 := Xr.2 ⟨reg, kn⟩
   have hs : (qcA l (W, L).1 (W, L).2 id).2.2 = 0 := by unfold qcA; rw [qm (fun h => h hz)]
   rw [wQ, Yc k (by omega), qb9 k (by omega), hs, qb, qd rfl]
   unfold W7 Ql
   show (bif (id == 0) then _ else _) = _
   rw [qm h0, beq_false_of_ne h0, qg, e, o1, o2, e1, qRI, qd ⟨rfl, by omega, hx⟩, qc, e3, hf, qb, qd rfl, qRI, qc8 k (by omega), qmJ k (by omega)]
   show _ = some (qkH r (W7 l W L n r.2.1))
   generalize W7 l W L n r.2.1 = o
   unfold qkH
   by_cases h1 : o.2 = 0
   ·have g1 : ¬ (o.2 ≠ 0) := fun h => h h1
    rw [show (o.2 != 0) = false by simp [h1], qg, qb, qd rfl, qd rfl, qm g1]
    generalize XH r.2.2.2.2.2 o.1.2.2.2 = c
    by_cases h2 : c.2 = 0
    ·have g2 : ¬ (c.2 ≠ 0) := fun h => h h2
     rw [show (c.2 != 0) = false by simp [h2], qg, qg, qm g2]
     cases h3 : o.1.2.2.1 <;> cases h4 : r.2.2.2.2.1 <;> rfl
    ·rw [bne_iff_ne.2 h2, qd h2]
     cases h3 : o.1.2.2.1 <;> rfl
   ·rw [bne_iff_ne.2 h1, qd h1]; rfl
theorem qdU (k : Nat) (hk : 301000 ≤ k) (l : List Ro) (web : Int × Int) (id : Int) : wQ k l web id = some (qV l web.1 web.2 id) := by
 unfold qV
 by_cases h : Qi l web.1 web.2 id = 0
 ·obtain ⟨reg, kn⟩ := Xr.1 h
  rw [qm (fun h' : Qi l web.1 web.2 id ≠ 0 => h' h)]
  exact qBw l web reg 512 id k (reg.anc kn) (by omega) kn
 ·obtain ⟨k, rfl⟩ := qQ (by omega : 0 < k)
  rw [qd h, wQ, Yc k (by omega), qb9 k (by omega), qb, qd rfl]
  unfold qcA
  rw [qd h]
  show (bif (Qi l web.1 web.2 id != 0) then _ else _) = _
  rw [bne_iff_ne.2 h]; rfl
theorem qkt (k : Nat) (hk : 301000 ≤ k) (l : List Ro) (web : Int × Int) (id : Int) : vN k l web id = qV l web.1 web.2 id := by
 unfold vN; rw [qdU k hk l web id]; rfl
end Go.AM
namespace Go.AM
open Go
structure PtB (p : Pt) : Prop where
 a0 : 0 ≤ p.2.1
 a1 : p.2.1 ≤ 12000
 b0 : 0 ≤ p.2.2
 b1 : p.2.2 ≤ 17179869184
end Go.AM
namespace Go.AM
open Go Go.Proofs
def qnG (c : Ch) (x : Int) : Int := if c.2.2.1 = true then c.1 + c.2.1 - 1 - x else c.1 + x
theorem qhM {l : List Ro} {p : Pt} (h : p.1 = 0) (n : Nat) : qfn l n p = p := by
 cases n with
 | zero => rfl
 | succ n => unfold qfn; rw [qd h]
theorem qpp {l : List Ro} {p : Pt} {r : Ro} (h0 : p.1 ≠ 0) (e : look l p.1 = some r) (n : Nat) : qfn l (n + 1) p = qfn l n (qak r p) := by
 rw [qfn, qm h0, e]
structure CutIn (l : List Ro) (W L id : Int) (c : Ch) (n : Nat) : Prop where
 left : 0 ≤ c.1
 right : c.1 + c.2.1 ≤ W
 width : c.2.1 = (wn l W L id).1
 chk : Chk c.2.2.2
 len : qv c.2.2.2 = (wn l W L id).2
 web : ∀ p : Pt, p.1 = id → On l W L p → qfn l n p = (0, qnG c p.2.1, wb c.2.2.2 p.2.2)
theorem qvD {l : List Ro} {W L : Int} (reg : Reg l W L) (n : Nat) : CutIn l W L 0 (qbe W L) n := by
 have hw := reg.w
 have hl := reg.len
 have hs : wn l W L 0 = (W, L) := by unfold wn; rw [qd rfl]
 have hb : (qbe W L) = (0, W, false, if L > 0 then [(0, L, false)] else []) := rfl
 refine ⟨Wg _, by rw [hb]; show (0 : Int) + W ≤ W; omega, by rw [hs]; rfl, ?_, ?_, ?_⟩
 ·rw [hb]
  show Chk (if L > 0 then [(0, L, false)] else [])
  by_cases h : L > 0
  ·rw [qd h]
   exact ⟨by simp, ⟨⟨by show 1 ≤ L; omega, by show L ≤ _; omega, by show (0 : Int) ≤ 0; omega, by show (0 : Int) < _; omega, fun h => (by cases h), fun _ => by show (0 : Int) + L ≤ _; omega⟩, trivial⟩, by simp only [qv]; omega⟩
  ·rw [qm h]
   exact ⟨by simp, trivial, by simp only [qv]; omega⟩
 ·rw [hb, hs]
  show qv (if L > 0 then [(0, L, false)] else []) = L
  by_cases h : L > 0
  ·rw [qd h]; simp only [qv]; omega
  ·rw [qm h]; simp only [qv]; omega
 ·intro p h0 on
  obtain ⟨a0, a1, b0, b1⟩ := on
  rw [h0, hs] at a1 b1
  have b1 : p.2.2 < L := b1
  rw [qhM h0, hb]
  show p = (0, qnG (0, W, false, _) p.2.1, wb (if L > 0 then [(0, L, false)] else []) p.2.2)
  rw [qd (by omega)]
  unfold wb qnG wh
  rw [qd b1, qm (fun h => (by cases h)), qm (fun h => (by cases h))]
  show p = ((0 : Int), (0 : Int) + p.2.1, (0 : Int) + p.2.2)
  obtain ⟨p1, p2, p3⟩ := p
  have h0 : p1 = 0 := h0
  rw [h0, Int.zero_add, Int.zero_add]
theorem qLe {l : List Ro} {W L : Int} (reg : Reg l W L) : ∀ (n : Nat) (id : Int) (c : Ch), Anc l n id → W7 l W L n id = (c, 0) → CutIn l W L id c n := by
 intro n
 have hw := reg.w
 induction n with
 | zero =>
  intro id c ha hc
  by_cases h0 : id = 0
  ·cases hc; rw [h0]; exact qvD reg 0
  ·obtain ⟨_, _, e, _⟩ := ha.cases h0
   cases e
 | succ n ih =>
  intro id c ha hc
  by_cases h0 : id = 0
  ·unfold W7 at hc
   rw [qd h0] at hc
   cases hc; rw [h0]; exact qvD reg _
  ·obtain ⟨k, r, ek, e, a⟩ := ha.cases h0
   cases ek
   have ro := reg.ok.ro r (zr e).1
   obtain ⟨c1, c2, c3, c4, c5, c6, c7⟩ := ro.cut
   unfold W7 at hc
   rw [qm h0, e] at hc
   have hc : qkH r (W7 l W L n r.2.1) = (c, 0) := hc
   obtain ⟨oc, oe⟩ : ∃ oc, W7 l W L n r.2.1 = oc := ⟨_, rfl⟩
   rw [oe] at hc
   unfold qkH at hc
   by_cases h1 : oc.2 = 0
   ·rw [qm (fun h : oc.2 ≠ 0 => h h1)] at hc
    obtain ⟨i1, i2, i3, i4, i5, i6⟩ := ih r.2.1 oc.1 a (by rw [oe, ← h1])
    obtain ⟨cm, ce⟩ : ∃ cm, XH r.2.2.2.2.2 oc.1.2.2.2 = cm := ⟨_, rfl⟩
    rw [ce] at hc
    by_cases h2 : cm.2 = 0
    ·rw [qm (fun h : cm.2 ≠ 0 => h h2)] at hc
     obtain ⟨_, _, _, k1, k2, k3⟩ := qED (m := cm.1) (by rw [ce, ← h2])
     have hs := reg.small n r.2.1 a
     rw [qo (i := oc.1.1 + oc.1.2.1) (by omega) (by omega), qo (i := oc.1.1 + oc.1.2.1 - r.2.2.1) (by omega) (by omega), qo (i := oc.1.1 + oc.1.2.1 - r.2.2.1 - r.2.2.2.1) (by omega) (by omega), qo (i := oc.1.1 + r.2.2.1) (by omega) (by omega)] at hc
     have hc1 := congrArg Prod.fst hc
     have hc1 : ((if oc.1.2.2.1 = true then oc.1.1 + oc.1.2.1 - r.2.2.1 - r.2.2.2.1 else oc.1.1 + r.2.2.1), r.2.2.2.1, !(oc.1.2.2.1 == r.2.2.2.2.1), cm.1) = c := hc1
     subst hc1
     have hsz := qCz (W := W) (L := L) h0 e
     refine ⟨?_, ?_, ?_, k1, ?_, ?_⟩
     ·show 0 ≤ (if oc.1.2.2.1 = true then _ else _ : Int)
      split <;> omega
     ·show (if oc.1.2.2.1 = true then _ else _ : Int) + r.2.2.2.1 ≤ W
      split <;> omega
     ·rw [hsz]
     ·rw [hsz]; exact k2
     ·intro p hp on
      have on2 := on.place (by rw [hp]; exact h0) (by rw [hp]; exact e) ro
      rw [qpp (by rw [hp]; exact h0) (by rw [hp]; exact e), i6 (qak r p) rfl on2]
      obtain ⟨a0, a1, b0, b1⟩ := on
      rw [hp, hsz] at a1 b1
      have b1 : p.2.2 < qv r.2.2.2.2.2 := b1
      have e3 : wb oc.1.2.2.2 (qak r p).2.2 = wb cm.1 p.2.2 := (k3 p.2.2 b0 b1).symm
      rw [e3]
      have e4 : qnG oc.1 (qak r p).2.1 = qnG ((if oc.1.2.2.1 = true then oc.1.1 + oc.1.2.1 - r.2.2.1 - r.2.2.2.1 else oc.1.1 + r.2.2.1), r.2.2.2.1, !(oc.1.2.2.1 == r.2.2.2.2.1), cm.1) p.2.1 := by
       unfold qnG qak
       cases oc.1.2.2.1 <;> cases r.2.2.2.2.1 <;> simp <;> omega
      rw [e4]
    ·rw [qd h2] at hc
     exact absurd (congrArg Prod.snd hc) h2
   ·rw [qd h1] at hc
    exact absurd (congrArg Prod.snd hc) h1
def vC (P : Int → Bool) : Nat → Nat
 | 0 => 0
 | n + 1 => vC P n + (if P (n : Int) = true then 1 else 0)
theorem qhC {P Q : Int → Bool} : ∀ n : Nat, (∀ x : Int, 0 ≤ x → x < n → P x = Q x) → vC P n = vC Q n
 | 0, _ => rfl
 | n + 1, h => by
  unfold vC
  rw [qhC n (fun x h0 h1 => h x h0 (by omega)), h n (by omega) (by omega)]
theorem qup (P Q : Int → Bool) : ∀ n, vC (fun x => P x || Q x) n + vC (fun x => P x && Q x) n = vC P n + vC Q n
 | 0 => rfl
 | n + 1 => by
  have := qup P Q n
  unfold vC
  cases h1 : P (n : Int) <;> cases h2 : Q (n : Int) <;> simp only [Bool.or_true, Bool.or_false, Bool.and_true, qHb, qG, if_true, if_false] <;> omega
theorem Xg {P : Int → Bool} : ∀ n : Nat, (∀ x : Int, 0 ≤ x → x < n → P x = false) → vC P n = 0
 | 0, _ => rfl
 | n + 1, h => by
  unfold vC
  rw [Xg n (fun x h0 h1 => h x h0 (by omega)), h n (by omega) (by omega)]
  rfl
theorem qjm (a b : Int) (h0 : 0 ≤ a) (hab : a ≤ b) : ∀ n : Nat, (vC (fun x => decide (a ≤ x) && decide (x < b)) n : Int) = max 0 (min b n - a)
 | 0 => by unfold vC; omega
 | n + 1 => by
  have := qjm a b h0 hab n
  unfold vC
  by_cases h1 : a ≤ (n : Int)
  ·by_cases h2 : (n : Int) < b
   ·rw [qA h1, qA h2]
    simp only [Bool.and_self, if_true]
    omega
   ·rw [qx h2, qHb, qm Bool.false_ne_true]
    omega
  ·rw [qx h1, wD, qm Bool.false_ne_true]
   omega
def Q5 (l : List Sp) (x : Int) : Bool := l.any fun s => decide (s.1 ≤ x) && decide (x < s.2)
theorem qpn (s : Sp) (l : List Sp) : Q5 (s :: l) = fun x => (decide (s.1 ≤ x) && decide (x < s.2)) || Q5 l x := by
 funext x; unfold Q5; rw [List.any_cons]
theorem qvZ {N : Nat} : ∀ (l : List Sp) (m : Int), Nr m l → -1 ≤ m → (∀ s ∈ l, s.2 ≤ N) → tot l = (vC (Q5 l) N : Int)
 | [], m, _, _, _ => by
  rw [Xg (P := Q5 []) N (fun x _ _ => rfl)]; rfl
 | s :: t, m, h, hm, hb => by
  obtain ⟨h1, h2, h3⟩ := h
  have ih := qvZ t s.2 h3 (by omega) (fun q hq => hb q (by simp [hq]))
  have hor := qup (fun x => decide (s.1 ≤ x) && decide (x < s.2)) (Q5 t) N
  have hbs := hb s (by simp)
  have hz : vC (fun x => (decide (s.1 ≤ x) && decide (x < s.2)) && Q5 t x) N = 0 := Xg N fun x h0 hx => by
   by_cases hc : x < s.2
   ·have : Q5 t x = false := by
     have : ∀ (t : List Sp) (m : Int), Nr m t → x < m → Q5 t x = false := fun t => by
      induction t with
      | nil => intros; rfl
      | cons u v ih =>
       intro m hn hx
       obtain ⟨g1, g2, g3⟩ := hn
       rw [qpn]
       show ((decide (u.1 ≤ x) && decide (x < u.2)) || Q5 v x) = false
       rw [qx (by omega), ih u.2 g3 (by omega)]; rfl
     exact this t s.2 h3 hc
    show ((decide (s.1 ≤ x) && decide (x < s.2)) && Q5 t x) = false
    rw [this, qHb]
   ·show ((decide (s.1 ≤ x) && decide (x < s.2)) && Q5 t x) = false
    rw [qx hc, qHb, wD]
  have hs := qjm s.1 s.2 (by omega) (by omega) N
  rw [qpn]
  show s.2 - s.1 + tot t = _
  omega
theorem VN (l : List Sp) (x : Int) : Q5 l x = true ↔ Qq l x := by
 rw [Qa]
 unfold Q5
 simp only [List.any_eq_true, qj, decide_eq_true_eq]
def X2 (m : List Rn) (x : Int) : Bool := Q5 (m.map vX) x
abbrev NN : Nat := 17179869184
theorem qNR {m : List Rn} {r : Rn} {z : Int} (hr : r ∈ m) (h0 : lo r ≤ z) (h1 : z ≤ Go.AM.hi r) : X2 m z = true := by
 unfold X2
 rw [VN, Qa]
 exact ⟨vX r, List.mem_map_of_mem hr, h0, by show z < Go.AM.hi r + 1; omega⟩
theorem qy8 {m : List Rn} (h : vg m = true) : Chk m ∧ (vC (X2 m) NN : Int) = qv m := by
 unfold vg at h
 rw [qj, decide_eq_true_eq, beq_iff_eq] at h
 have hc := wW.1 h.1
 have hi := ql7 hc.goods
 refine ⟨hc, ?_⟩
 rw [← h.2, qvZ (N := NN) (nf (m.map vX)) (-1) (qj5 hi) (by omega) (fun s hs => ((qdq hi).mem s hs).2.2)]
 refine congrArg Int.ofNat (qhC NN fun x _ _ => ?_)
 have h1 := qrX hi x
 have h2 := VN (nf (m.map vX)) x
 have h3 := VN (m.map vX) x
 unfold X2
 cases e : Q5 (m.map vX) x <;> cases e2 : Q5 (nf (m.map vX)) x <;> simp_all
theorem qG7 {P Q : Int → Bool} (n : Nat) (h : ∀ x : Int, 0 ≤ x → x < n → P x = true → Q x = true) : vC P n ≤ vC Q n := by
 induction n with
 | zero => exact qT _
 | succ n ih =>
  have := ih fun x h0 h1 => h x h0 (by omega)
  have h2 := h n (by omega) (by omega)
  unfold vC
  cases h3 : P (n : Int)
  ·simp only [qG, if_false]; split <;> omega
  ·rw [h2 h3]; simp only [if_true]; omega
def Yl (c : Ch) (x : Int) : Bool := decide (c.1 ≤ x) && decide (x < c.1 + c.2.1)
def qk1 : List Ro → Int → Int
 | [], _ => 0
 | r :: t, x => (if Yl r.2.2 x = true then qv r.2.2.2.2.2 else 0) + qk1 t x
def YB : List Ro → Int → Int → Bool
 | [], _, _ => false
 | r :: t, x, z => (Yl r.2.2 x && X2 r.2.2.2.2.2 z) || YB t x z
theorem qjI {m : List Rn} {z : Int} : X2 m z = true ↔ ∃ r ∈ m, lo r ≤ z ∧ z ≤ Go.AM.hi r := by
 unfold X2
 rw [VN, Qa]
 constructor
 ·rintro ⟨s, hs, h0, h1⟩
  obtain ⟨r, hr, rfl⟩ := List.mem_map.1 hs
  exact ⟨r, hr, h0, by have : z < Go.AM.hi r + 1 := h1; omega⟩
 ·rintro ⟨r, hr, h0, h1⟩
  exact ⟨vX r, List.mem_map_of_mem hr, h0, by show z < Go.AM.hi r + 1; omega⟩
theorem qFs {a b : Ch} {x z : Int} (h : VV a b = false) (ha : Yl a x = true) (hb : Yl b x = true) (ia : X2 a.2.2.2 z = true) (ib : X2 b.2.2.2 z = true) : False := by
 obtain ⟨r, hr, r0, r1⟩ := qjI.1 ia
 obtain ⟨s, hs, s0, s1⟩ := qjI.1 ib
 unfold Yl at ha hb
 rw [qj, decide_eq_true_eq, decide_eq_true_eq] at ha hb
 have hm : VJ a.2.2.2 b.2.2.2 = true := by
  unfold VJ
  rw [List.any_eq_true]
  refine ⟨r, hr, ?_⟩
  rw [List.any_eq_true]
  refine ⟨s, hs, ?_⟩
  rw [qA (by omega), qA (by omega)]; rfl
 unfold VV at h
 rw [hm, qA (by omega), qA (by omega)] at h
 cases h
theorem qJx (x : Int) : ∀ (C : List Ro), (∀ r ∈ C, vg r.2.2.2.2.2 = true) → C.Pairwise (fun b r => VV r.2.2 b.2.2 = false) → (vC (YB C x) NN : Int) = qk1 C x := by
 intro C
 induction C with
 | nil =>
  intro _ _
  rw [Xg (P := YB [] x) NN (fun x _ _ => rfl)]; rfl
 | cons r t ih =>
  intro hs hp
  obtain ⟨h1, h2⟩ := zK.1 hp
  have ih := ih (fun q hq => hs q (by simp [hq])) h2
  have hsr := (qy8 (hs r (by simp))).2
  have hor := qup (fun z => Yl r.2.2 x && X2 r.2.2.2.2.2 z) (YB t x) NN
  have hz : vC (fun z => (Yl r.2.2 x && X2 r.2.2.2.2.2 z) && YB t x z) NN = 0 := Xg NN fun z _ _ => by
   cases hc : Yl r.2.2 x
   ·rfl
   ·cases hi : X2 r.2.2.2.2.2 z
    ·rfl
    ·have : ∀ (t : List Ro), (∀ a' ∈ t, VV a'.2.2 r.2.2 = false) → YB t x z = false := fun t => by
      induction t with
      | nil => intro _; rfl
      | cons u v ih =>
       intro h
       unfold YB
       rw [ih fun q hq => h q (by simp [hq]), Bool.or_false]
       cases hu : Yl u.2.2 x
       ·rfl
       ·cases hv : X2 u.2.2.2.2.2 z
        ·rfl
        ·exact (qFs (h u (by simp)) hu hc hv hi).elim
     show (true && YB t x z) = false
     rw [this t h1]; rfl
  have e : YB (r :: t) x = fun z => (Yl r.2.2 x && X2 r.2.2.2.2.2 z) || YB t x z := rfl
  rw [e, qk1]
  cases hc : Yl r.2.2 x
  ·rw [hc] at hor hz
   have h0 : vC (fun z => false && X2 r.2.2.2.2.2 z) NN = 0 := Xg NN fun _ _ _ => rfl
   simp only [qG, if_false]
   omega
  ·rw [hc] at hor hz
   have h0 : vC (fun z => true && X2 r.2.2.2.2.2 z) NN = vC (X2 r.2.2.2.2.2) NN := qhC NN fun x _ _ => ww _
   simp only [if_true]
   omega
theorem qPw {C : List Ro} {n : Int} (x : Int) (h0 : 0 ≤ n) (hn : n ≤ 17179869184) (hs : ∀ r ∈ C, vg r.2.2.2.2.2 = true) (hp : C.Pairwise (fun b r => VV r.2.2 b.2.2 = false)) (hf : ∀ r ∈ C, fitsIn n r.2.2.2.2.2) (hg : ∀ r ∈ C, goods r.2.2.2.2.2) : qk1 C x ≤ n := by
 rw [← qJx x C hs hp]
 have h1 : vC (YB C x) NN ≤ vC (fun z => decide (0 ≤ z) && decide (z < n)) NN := qG7 NN fun z z0 z1 hu => by
  have : ∀ (C : List Ro), (∀ r ∈ C, fitsIn n r.2.2.2.2.2) → YB C x z = true → z < n := fun C => by
   induction C with
   | nil => intro _ h; cases h
   | cons r t ih =>
    intro hf h
    unfold YB at h
    rw [qJr] at h
    rcases h with h | h
    ·rw [qj] at h
     obtain ⟨q, hq, q0, q1⟩ := qjI.1 h.2
     have := qlh (hf r (by simp)) q hq
     omega
    ·exact ih (fun q hq => hf q (by simp [hq])) h
  rw [qA z0, qA (this C hf hu)]; rfl
 have h2 := qjm 0 n (by omega) h0 NN
 omega
def XT (f : Int → Int) : Nat → Int
 | 0 => 0
 | n + 1 => XT f n + f n
theorem qsL (f g : Int → Int) : ∀ n, XT (fun x => f x + g x) n = XT f n + XT g n
 | 0 => rfl
 | n + 1 => by
  have := qsL f g n
  unfold XT; omega
theorem qpZ : ∀ n, XT (fun _ => 0) n = 0
 | 0 => rfl
 | n + 1 => by
  have := qpZ n
  unfold XT; omega
theorem qvq {f : Int → Int} {m : Int} (h : ∀ x, f x ≤ m) : ∀ n : Nat, XT f n ≤ n * m
 | 0 => by unfold XT; simp
 | n + 1 => by
  have := qvq h n
  have h2 := h n
  unfold XT
  rw [show ((n + 1 : Nat) : Int) = (n : Int) + 1 from rfl, Int.add_mul, Int.one_mul]
  omega
theorem qrJ (P : Int → Bool) (v : Int) : ∀ n, XT (fun x => if P x = true then v else 0) n = (vC P n : Int) * v
 | 0 => by unfold XT vC; simp
 | n + 1 => by
  have := qrJ P v n
  unfold XT vC
  cases h : P (n : Int)
  ·simp only [qG, if_false]; rw [this]; simp
  ·simp only [if_true]
   rw [show ((vC P n + 1 : Nat) : Int) = (vC P n : Int) + 1 from rfl, Int.add_mul, Int.one_mul, this]
def qq5 : List Ro → Int
 | [] => 0
 | r :: t => r.2.2.2.1 * qv r.2.2.2.2.2 + qq5 t
theorem qsb (w : Nat) : ∀ (C : List Ro), (∀ r ∈ C, 0 ≤ r.2.2.1 ∧ 1 ≤ r.2.2.2.1 ∧ r.2.2.1 + r.2.2.2.1 ≤ w) → XT (qk1 C) w = qq5 C
 | [], _ => qpZ w
 | r :: t, h => by
  have ih := qsb w t fun q hq => h q (by simp [hq])
  obtain ⟨a, b, c⟩ := h r (by simp)
  have e : qk1 (r :: t) = fun x => (if Yl r.2.2 x = true then qv r.2.2.2.2.2 else 0) + qk1 t x := rfl
  have h1 := qjm r.2.2.1 (r.2.2.1 + r.2.2.2.1) a (by omega) w
  have h2 : (vC (Yl r.2.2) w : Int) = r.2.2.2.1 := by
   show (vC (fun x => decide (r.2.2.1 ≤ x) && decide (x < r.2.2.1 + r.2.2.2.1)) w : Int) = _
   omega
  rw [e, qsL, qrJ, h2, ih]; rfl
theorem qMu {C : List Ro} {w n : Int} (hw : 0 ≤ w) (h0 : 0 ≤ n) (hn : n ≤ 17179869184) (hc : ∀ r ∈ C, CutOk r.2.2 w n) (hp : C.Pairwise (fun b r => VV r.2.2 b.2.2 = false)) : qq5 C ≤ w * n := by
 obtain ⟨w, rfl⟩ : ∃ q : Nat, w = q := ⟨w.toNat, by omega⟩
 rw [← qsb w C fun r hr => ⟨(hc r hr).left, (hc r hr).width, (hc r hr).right⟩]
 exact qvq (fun x => qPw x h0 hn (fun r hr => (hc r hr).single) hp (fun r hr => (hc r hr).fits) (fun r hr => (hc r hr).chk.goods)) w
theorem Okp.pairs {W L : Int} {l : List Ro} (h : Okp W L l) : l.Pairwise (fun b r => r.2.1 = b.2.1 → VV r.2.2 b.2.2 = false) := by
 induction h with
 | nil => exact List.Pairwise.nil
 | snoc p r h f n c ih =>
  refine List.pairwise_append.2 ⟨ih, List.pairwise_singleton _ _, fun b hb q hq e => ?_⟩
  rw [List.mem_singleton] at hq
  subst hq
  unfold QE at c
  rw [List.any_eq_false] at c
  have := c b hb
  rw [beq_iff_eq.2 e, ww] at this
  simpa using this
def qSX (l : List Ro) (id : Int) : List Ro := l.filter fun r => r.2.1 == id
theorem Reg.area {l : List Ro} {W L id : Int} (reg : Reg l W L) (kn : id = 0 ∨ ∃ q, look l id = some q) : qq5 (qSX l id) ≤ (wn l W L id).1 * (wn l W L id).2 := by
 have hs := reg.small 512 id (reg.anc kn)
 refine qMu hs.1 hs.2.2.1 hs.2.2.2 (fun r hr => ?_) ?_
 ·obtain ⟨h1, h2⟩ := List.mem_filter.1 hr
  have := (reg.ok.ro r h1).cut
  rw [beq_iff_eq.1 h2] at this
  exact this
 ·have h := reg.ok.pairs.sublist (List.filter_sublist (p := fun r => r.2.1 == id))
  refine h.imp_of_mem fun {a b} ha hb q => q ?_
  have h1 := beq_iff_eq.1 (List.mem_filter.1 ha).2
  have h2 := beq_iff_eq.1 (List.mem_filter.1 hb).2
  rw [h1, h2]
end Go.AM
namespace Go.AM
open Go
def Qr : List Rn → Int → Sp → List Sp
 | [], _, _ => []
 | r :: t, Vo, s => (if max (lo r) s.1 < min (hi r + 1) s.2 then [(Vo + (if r.2.2 = true then hi r + 1 - min (hi r + 1) s.2 else max (lo r) s.1 - lo r), Vo + (if r.2.2 = true then hi r + 1 - min (hi r + 1) s.2 else max (lo r) s.1 - lo r) + min (hi r + 1) s.2 - max (lo r) s.1)] else []) ++ Qr t (Vo + r.2.1) s
theorem qlE : ∀ (m : List Rn) (a : Int) (s : Sp), (Qr m a s).length ≤ m.length
 | [], _, _ => by simp [Qr]
 | r :: t, a, s => by
  have := qlE t (a + r.2.1) s
  unfold Qr
  rw [qn, wc]
  split <;> simp <;> omega
theorem qxa : ∀ (m : List Rn) (a : Int) (s : Sp), goods m → ∀ x ∈ Qr m a s, a ≤ x.1 ∧ x.1 < x.2 ∧ x.2 ≤ a + qv m
 | [], _, _, _, x, hx => by simp [Qr] at hx
 | r :: t, a, s, ⟨g1, g2⟩, x, hx => by
  obtain ⟨l1, l2, l3, l4⟩ := g1.lohi
  have h0 := zf g2
  rw [qv]
  unfold Qr at hx
  rcases zW.1 hx with hx | hx
  ·by_cases h : max (lo r) s.1 < min (hi r + 1) s.2
   ·rw [qd h, List.mem_singleton] at hx
    subst hx
    show a ≤ a + _ ∧ a + _ < a + _ + min (hi r + 1) s.2 - max (lo r) s.1 ∧ a + _ + min (hi r + 1) s.2 - max (lo r) s.1 ≤ _
    split <;> omega
   ·rw [qm h] at hx; simp at hx
  ·have := qxa t (a + r.2.1) s g2 x hx
   have := g1.1
   omega
def zP (m : List Rn) (s : Sp) : List Sp × Int := if chk m ≠ 0 then ([], chk m) else if s.1 < 0 ∨ s.1 > s.2 ∨ s.2 > 17179869184 then ([], 1) else (nf (Qr m 0 s), 0)
end Go.AM
namespace Go.AM
open Go Go.Proofs
noncomputable section
abbrev qH2 (a : T6.T) (r : Int) : Prop := CC Tryz.prog 192 [.agg (qy (qr T6 a))] [] (ri r) (nb r)
def qm6 (k : Nat) (a : T6.T) : Option Int :=
 bif (decide (a.1 < (0 : Int)) || decide (a.1 > a.2.1) || decide (a.2.1 > (12000 : Int)) || decide (a.2.2.1 < (0 : Int)) || decide (a.2.2.1 > a.2.2.2) || decide (a.2.2.2 > (17179869184 : Int))) then
 some 1
 else
 some 0
def qjH := fun k a => (qm6 k a).getD 0
def qFd (k : Nat) : Ke := (192, mo 1, fun
 | [.agg b], [] => (qW [] T6 b).bind fun a => some (.one (ri (qjH k a), []))
 | _, _ => none)
theorem qRj (k a r) (h : qm6 k a = some r): qH2 a r := qN Tryz.f192 (go (qD []) [] [] [.autoB [2] true []] (qB h fun h => gL h))
theorem qOR {k a} (h : (qm6 k a).isSome): qH2 a (qjH k a) := qJ h (qRj k a)
abbrev qBY (a : List T7.T) (r : Int) : Prop := CC Tryz.prog 147 [ro T7 a] [] (ri r) (nb r)
def qAu := fun y0 y1 => (⟨qI 81 [(0, ro T7 y0), (3, ri y1)], []⟩ : St)
def V4 (k : Nat) : Nat → List T7.T → Int → Option Int
 | 0, _, _ => none
 | j + 1, y0, y1 =>
 bif y1 < y0.length then
 if (0 ≤ y1) ∧ (y1 < y0.length) ∧ ((qm6 k (y0.getD y1.toNat T7.dflt).1).isSome) then
 bif (qjH k (y0.getD y1.toNat T7.dflt).1 != (0 : Int)) then
 some (qjH k (y0.getD y1.toNat T7.dflt).1)
 else
 if (0 ≤ y1) ∧ (y1 < y0.length) ∧ (0 ≤ y1) ∧ (y1 < y0.length) ∧ (((y0.getD y1.toNat T7.dflt).1.1 == (y0.getD y1.toNat T7.dflt).1.2.1) = false → 0 ≤ y1) ∧ (((y0.getD y1.toNat T7.dflt).1.1 == (y0.getD y1.toNat T7.dflt).1.2.1) = false → y1 < y0.length) ∧ (((y0.getD y1.toNat T7.dflt).1.1 == (y0.getD y1.toNat T7.dflt).1.2.1) = false → 0 ≤ y1) ∧ (((y0.getD y1.toNat T7.dflt).1.1 == (y0.getD y1.toNat T7.dflt).1.2.1) = false → y1 < y0.length) then
 bif ((y0.getD y1.toNat T7.dflt).1.1 == (y0.getD y1.toNat T7.dflt).1.2.1 || (y0.getD y1.toNat T7.dflt).1.2.2.1 == (y0.getD y1.toNat T7.dflt).1.2.2.2) then
 some 10
 else
 if (0 ≤ y1) ∧ (y1 < y0.length) ∧ (decide ((y0.getD y1.toNat T7.dflt).2.1 < (1 : Int)) = false → 0 ≤ y1) ∧ (decide ((y0.getD y1.toNat T7.dflt).2.1 < (1 : Int)) = false → y1 < y0.length) ∧ ((decide ((y0.getD y1.toNat T7.dflt).2.1 < (1 : Int)) || decide ((y0.getD y1.toNat T7.dflt).2.1 > (16 : Int))) = false → 0 ≤ y1) ∧ ((decide ((y0.getD y1.toNat T7.dflt).2.1 < (1 : Int)) || decide ((y0.getD y1.toNat T7.dflt).2.1 > (16 : Int))) = false → y1 < y0.length) ∧ ((decide ((y0.getD y1.toNat T7.dflt).2.1 < (1 : Int)) || decide ((y0.getD y1.toNat T7.dflt).2.1 > (16 : Int)) || decide ((y0.getD y1.toNat T7.dflt).2.2 < (1 : Int))) = false → 0 ≤ y1) ∧ ((decide ((y0.getD y1.toNat T7.dflt).2.1 < (1 : Int)) || decide ((y0.getD y1.toNat T7.dflt).2.1 > (16 : Int)) || decide ((y0.getD y1.toNat T7.dflt).2.2 < (1 : Int))) = false → y1 < y0.length) then
 bif (decide ((y0.getD y1.toNat T7.dflt).2.1 < (1 : Int)) || decide ((y0.getD y1.toNat T7.dflt).2.1 > (16 : Int)) || decide ((y0.getD y1.toNat T7.dflt).2.2 < (1 : Int)) || decide ((y0.getD y1.toNat T7.dflt).2.2 > (100 : Int))) then
 some 1
 else
 V4 k j y0 (qa .i64 (y1 + 1))
 else none
 else none
 else none
 else
 some 0
def qcb (k : Nat) (a : List T7.T) : Option Int :=
 bif (↑a.length : Int) > (128 : Int) then
 some 8
 else
 V4 k k a 0
def qaz := fun k a => (qcb k a).getD 0
def qph (k : Nat) : Ke := (147, mo 1, fun
 | [.r (.ro d b)], [] => (qE d T7 b).bind fun a => some (.one (ri (qaz k a), []))
 | _, _ => none)
def qvn : List (Nat × List Cmd) := [(4, [.autoB [0, 3] false []])]
abbrev qRE := EP Tryz.f147 0 ri nb
theorem qvR (k) : ∀ j, (∀ y0 y1, qRE 4 (qAu y0 y1) (V4 k j y0 y1))
 | 0 => by intros; exact e0
 | j + 1 => by
  have ih := @qvR k j
  ·intro y0 y1 r h
   rw [V4] at h
   exact go (qD [qFd k]) [] qvn [.autoB [2] true []] (gS h (fun h => gN h (fun q => qf q.1 (qf q.2.1 (qf (qOR q.2.2) qR))) fun h => qB h fun h => gN h (fun q => qf q.1 (qf q.2.1 (qf q.2.2.1 (qf q.2.2.2.1 (qf q.2.2.2.2.1 (qf q.2.2.2.2.2.1 (qf q.2.2.2.2.2.2.1 (qf q.2.2.2.2.2.2.2 qR)))))))) fun h => qB h fun h => gN h (fun q => qf q.1 (qf q.2.1 (qf q.2.2.1 (qf q.2.2.2.1 (qf q.2.2.2.2.1 (qf q.2.2.2.2.2.1 (qf q.2.2.2.2.2.2.1 (qf q.2.2.2.2.2.2.2 qR)))))))) fun h => qB h fun h => gC h 4 (ih _ _ _)) fun h => gL h)
theorem qLH (k a r) (h : qcb k a = some r): qBY a r := qN Tryz.f147 (go (qD [qFd k]) [] qvn [.autoB [2] true []] (qB h fun h => gC h 4 ((qvR k k) _ _ _)))
theorem qwq {k a} (h : (qcb k a).isSome): qBY a (qaz k a) := qJ h (qLH k a)
end
abbrev Rc4 := Int × Int × Int × Int   -- Left, Right, From, To
abbrev wO := Rc4 × Int × Int         -- Area, Kind, Level
def qag (r : Rc4) : Bool := decide (r.1 < (0 : Int)) || decide (r.1 > r.2.1) || decide (r.2.1 > (12000 : Int)) || decide (r.2.2.1 < (0 : Int)) || decide (r.2.2.1 > r.2.2.2) || decide (r.2.2.2 > (17179869184 : Int))
def Qp (r : Rc4) : Int := bif qag r then 1 else 0
structure RectOk (r : Rc4) : Prop where
 l : 0 ≤ r.1
 lr : r.1 ≤ r.2.1
 w : r.2.1 ≤ 12000
 f : 0 ≤ r.2.2.1
 ft : r.2.2.1 ≤ r.2.2.2
 t : r.2.2.2 ≤ 17179869184
theorem qxL {r : Rc4} (h : Qp r = 0) : RectOk r := by
 unfold Qp at h
 cases e : qag r
 ·unfold qag at e
  simp only [WN, decide_eq_false_iff_not] at e
  obtain ⟨⟨⟨⟨⟨a, b⟩, c⟩, d⟩, f⟩, g⟩ := e
  exact ⟨by omega, by omega, by omega, by omega, by omega, by omega⟩
 ·rw [e] at h; cases h
theorem qiN (k : Nat) (r : Rc4) : qiv k r = some (Qp r) := by
 show (bif qag r then some (1 : Int) else some 0) = some (bif qag r then 1 else 0)
 cases qag r <;> rfl
theorem qse (k : Nat) (r : Rc4) : qe2 k r = Qp r := by
 unfold qe2; rw [qiN]; rfl
theorem qgR (k : Nat) (r : Rc4) : qm6 k r = some (Qp r) := by
 show (bif qag r then some (1 : Int) else some 0) = some (bif qag r then 1 else 0)
 cases qag r <;> rfl
theorem qqB (k : Nat) (r : Rc4) : qjH k r = Qp r := by
 unfold qjH; rw [qgR]; rfl
def Ww (x : wO) : Int := bif (Qp x.1 != 0) then Qp x.1 else bif (x.1.1 == x.1.2.1 || x.1.2.2.1 == x.1.2.2.2) then 10 else bif (decide (x.2.1 < (1 : Int)) || decide (x.2.1 > (16 : Int)) || decide (x.2.2 < (1 : Int)) || decide (x.2.2 > (100 : Int))) then 1 else 0
def WV : List wO → Int
 | [] => 0
 | x :: t => bif (Ww x != 0) then Ww x else WV t
def zH (l : List wO) : Int := if l.length > 128 then 8 else WV l
structure SpotOk (x : wO) : Prop where
 area : RectOk x.1
 lr : x.1.1 < x.1.2.1
 ft : x.1.2.2.1 < x.1.2.2.2
 kind : 1 ≤ x.2.1 ∧ x.2.1 ≤ 16
 level : 1 ≤ x.2.2 ∧ x.2.2 ≤ 100
theorem qyt {x : wO} (h : Ww x = 0) : SpotOk x := by
 unfold Ww at h
 by_cases h1 : Qp x.1 = 0
 ·have ok := qxL h1
  rw [show (Qp x.1 != 0) = false by simp [h1], qg] at h
  obtain ⟨a, b, c, d, e, f⟩ := ok
  cases h2 : (x.1.1 == x.1.2.1 || x.1.2.2.1 == x.1.2.2.2)
  ·rw [h2, qg] at h
   simp only [WN, beq_eq_false_iff_ne, ne_eq] at h2
   cases h3 : (decide (x.2.1 < (1 : Int)) || decide (x.2.1 > (16 : Int)) || decide (x.2.2 < (1 : Int)) || decide (x.2.2 > (100 : Int)))
   ·simp only [WN, decide_eq_false_iff_not] at h3
    exact ⟨⟨a, b, c, d, e, f⟩, by omega, by omega, ⟨by omega, by omega⟩, by omega, by omega⟩
   ·rw [h3] at h; cases h
  ·rw [h2] at h; cases h
 ·rw [show (Qp x.1 != 0) = true from bne_iff_ne.2 h1, qi] at h
  exact absurd h h1
theorem qkq : ∀ {l : List wO}, WV l = 0 → ∀ x ∈ l, SpotOk x
 | [], _, x, hx => by simp at hx
 | y :: t, h, x, hx => by
  unfold WV at h
  by_cases h1 : Ww y = 0
  ·rw [show (Ww y != 0) = false by simp [h1], qg] at h
   rcases qK.1 hx with e | hx'
   ·rw [e]; exact qyt h1
   ·exact qkq h x hx'
  ·rw [show (Ww y != 0) = true from bne_iff_ne.2 h1, qi] at h
   exact absurd h h1
theorem qdz {l : List wO} (h : zH l = 0) : l.length ≤ 128 ∧ ∀ x ∈ l, SpotOk x := by
 unfold zH at h
 by_cases h1 : l.length > 128
 ·rw [qd h1] at h; omega
 ·rw [qm h1] at h
  exact ⟨by omega, qkq h⟩
theorem qo7 (k : Nat) (l : List wO) (hl : l.length ≤ 128) : ∀ (d i j : Nat), i + d = l.length → d < j → YF k j l (l.length : Int) (i : Int) = some (WV (l.drop i)) := by
 intro d
 induction d with
 | zero =>
  intro i j hi hj
  obtain ⟨j, rfl⟩ := qQ (by omega : 0 < j)
  rw [YF, qx (by omega : ¬ (i : Int) < (l.length : Int)), qg, qh (by omega)]; rfl
 | succ d ih =>
  intro i j hi hj
  obtain ⟨j, rfl⟩ := qQ (by omega : 0 < j)
  rw [YF, qA (by omega : (i : Int) < (l.length : Int)), qi, qd ⟨by omega, by omega⟩, qc, qF i (by omega), ih (i + 1) j (by omega) (by omega), qq l i T7.dflt (by omega), WV, qiN, qse, qb, qd rfl]
  generalize l.getD i T7.dflt = x
  generalize WV (l.drop (i + 1)) = g
  show (bif (Qp x.1 != 0) then some (Qp x.1) else bif (x.1.1 == x.1.2.1 || x.1.2.2.1 == x.1.2.2.2) then some 10 else bif (decide (x.2.1 < (1 : Int)) || decide (x.2.1 > (16 : Int)) || decide (x.2.2 < (1 : Int)) || decide (x.2.2 > (100 : Int))) then some 1 else some g) = some (bif (Ww x != 0) then Ww x else g)
  unfold Ww
  cases h1 : (Qp x.1 != 0)
  ·cases (x.1.1 == x.1.2.1 || x.1.2.2.1 == x.1.2.2.2)
   ·cases (decide (x.2.1 < (1 : Int)) || decide (x.2.1 > (16 : Int)) || decide (x.2.2 < (1 : Int)) || decide (x.2.2 > (100 : Int))) <;> rfl
   ·rfl
  ·rw [qi, qi, h1]; rfl
theorem qeo (k : Nat) (hk : 300 ≤ k) (l : List wO) : qjv k l = some (zH l) := by
 unfold qjv zH
 by_cases h : l.length > 128
 ·rw [qd h, qA (by omega : (l.length : Int) > 128)]; rfl
 ·rw [qm h, qx (by omega : ¬ (l.length : Int) > 128), qg]
  exact qo7 k l (by omega) l.length 0 k (by omega) (by omega)
theorem qoR (k : Nat) (hk : 300 ≤ k) (l : List wO) : qjN k l = zH l := by
 unfold qjN; rw [qeo k hk]; rfl
theorem qqP (k : Nat) (l : List wO) (hl : l.length ≤ 128) : ∀ (d i j : Nat), i + d = l.length → d < j → V4 k j l (i : Int) = some (WV (l.drop i)) := by
 intro d
 induction d with
 | zero =>
  intro i j hi hj
  obtain ⟨j, rfl⟩ := qQ (by omega : 0 < j)
  rw [V4, qx (by omega : ¬ (i : Int) < (l.length : Int)), qg, qh (by omega)]; rfl
 | succ d ih =>
  intro i j hi hj
  obtain ⟨j, rfl⟩ := qQ (by omega : 0 < j)
  have hx : (i : Int) < (l.length : Int) := by omega
  have hx0 : (0 : Int) ≤ (i : Int) := by omega
  rw [V4, qA hx, qi, qc, qF i (by omega), ih (i + 1) j (by omega) (by omega), qq l i T7.dflt (by omega), WV, qgR, qqB, qd ⟨hx0, hx, rfl⟩, qd ⟨hx0, hx, hx0, hx, fun _ => hx0, fun _ => hx, fun _ => hx0, fun _ => hx⟩, qd ⟨hx0, hx, fun _ => hx0, fun _ => hx, fun _ => hx0, fun _ => hx, fun _ => hx0, fun _ => hx⟩]
  generalize l.getD i T7.dflt = x
  generalize WV (l.drop (i + 1)) = g
  show (bif (Qp x.1 != 0) then some (Qp x.1) else bif (x.1.1 == x.1.2.1 || x.1.2.2.1 == x.1.2.2.2) then some 10 else bif (decide (x.2.1 < (1 : Int)) || decide (x.2.1 > (16 : Int)) || decide (x.2.2 < (1 : Int)) || decide (x.2.2 > (100 : Int))) then some 1 else some g) = some (bif (Ww x != 0) then Ww x else g)
  unfold Ww
  cases h1 : (Qp x.1 != 0)
  ·cases (x.1.1 == x.1.2.1 || x.1.2.2.1 == x.1.2.2.2)
   ·cases (decide (x.2.1 < (1 : Int)) || decide (x.2.1 > (16 : Int)) || decide (x.2.2 < (1 : Int)) || decide (x.2.2 > (100 : Int))) <;> rfl
   ·rfl
  ·rw [qi, qi, h1]; rfl
theorem qaQ (k : Nat) (hk : 300 ≤ k) (l : List wO) : qcb k l = some (zH l) := by
 unfold qcb zH
 by_cases h : l.length > 128
 ·rw [qd h, qA (by omega : (l.length : Int) > 128)]; rfl
 ·rw [qm h, qx (by omega : ¬ (l.length : Int) > 128), qg]
  exact qqP k l (by omega) l.length 0 k (by omega) (by omega)
theorem qgK (k : Nat) (hk : 300 ≤ k) (l : List wO) : qaz k l = zH l := by
 unfold qaz; rw [qaQ k hk]; rfl
end Go.AM
namespace Go.AM
open Go Go.Proofs
noncomputable section
abbrev qlZ : Type := List T21.T × Int
def qoB (r : qlZ) : AV := .tup [ro T21 r.1, ri r.2]
abbrev qHE (a : List T3.T) (b : T21.T) (r : qlZ) : Prop := CC Tryz.prog 149 [ro T3 a, .agg (qy (qr T21 b))] [] (qoB r) (nb r)
def qFm := fun y0 y1 y2 y3 y4 => (⟨qI 115 [(0, ro T3 y0), (3, .ptr 1000000 0 0), (7, .own 1000001 0), (8, ri y1), (9, ri y2)], [(1000000, 0, .var 91 (qy (qr T21 y3))), (1000001, 0, .row 91 T21 y4)]⟩ : St)
def qB9 := fun y0 => (⟨qI 115 [(7, ro T21 y0)], []⟩ : St)
mutual
def W3 (k : Nat) : Nat → List T3.T → Int → Int → T21.T → List T21.T → Option qlZ
 | 0, _, _, _, _, _ => none
 | j + 1, y0, y1, y2, y3, y4 =>
 bif y2 < y0.length then
 if (0 ≤ y2) ∧ (y2 < y0.length) ∧ (0 ≤ y2) ∧ (y2 < y0.length) ∧ (0 ≤ y2) ∧ (y2 < y0.length) then
 if (0 ≤ y2) ∧ (y2 < y0.length) then
 bif (y0.getD y2.toNat T3.dflt).2.2 then
 if (0 ≤ y2) ∧ (y2 < y0.length) ∧ (0 ≤ y2) ∧ (y2 < y0.length) ∧ (0 ≤ y2) ∧ (y2 < y0.length) then
 bif (if qa .i64 (qa .i64 ((y0.getD y2.toNat T3.dflt).1 - y3.2) + (1 : Int)) > (0 : Int) then qa .i64 (qa .i64 ((y0.getD y2.toNat T3.dflt).1 - y3.2) + (1 : Int)) else (0 : Int)) < if qa .i64 (qa .i64 ((y0.getD y2.toNat T3.dflt).1 - y3.1) + (1 : Int)) < (y0.getD y2.toNat T3.dflt).2.1 then qa .i64 (qa .i64 ((y0.getD y2.toNat T3.dflt).1 - y3.1) + (1 : Int)) else (y0.getD y2.toNat T3.dflt).2.1 then
 if ((y4.length + [(qa .i64 (y1 + if qa .i64 (qa .i64 ((y0.getD y2.toNat T3.dflt).1 - y3.2) + (1 : Int)) > (0 : Int) then qa .i64 (qa .i64 ((y0.getD y2.toNat T3.dflt).1 - y3.2) + (1 : Int)) else (0 : Int)), qa .i64 (y1 + if qa .i64 (qa .i64 ((y0.getD y2.toNat T3.dflt).1 - y3.1) + (1 : Int)) < (y0.getD y2.toNat T3.dflt).2.1 then qa .i64 (qa .i64 ((y0.getD y2.toNat T3.dflt).1 - y3.1) + (1 : Int)) else (y0.getD y2.toNat T3.dflt).2.1))].length) * (16 : Nat) ≤ (140737488355328 : Nat)) then
 if (0 ≤ y2) ∧ (y2 < y0.length) then
 W3 k j y0 (qa .i64 (y1 + (y0.getD y2.toNat T3.dflt).2.1)) (qa .i64 (y2 + 1)) y3 (y4 ++ [(qa .i64 (y1 + if qa .i64 (qa .i64 ((y0.getD y2.toNat T3.dflt).1 - y3.2) + 1) > 0 then qa .i64 (qa .i64 ((y0.getD y2.toNat T3.dflt).1 - y3.2) + 1) else 0), qa .i64 (y1 + if qa .i64 (qa .i64 ((y0.getD y2.toNat T3.dflt).1 - y3.1) + 1) < (y0.getD y2.toNat T3.dflt).2.1 then qa .i64 (qa .i64 ((y0.getD y2.toNat T3.dflt).1 - y3.1) + 1) else (y0.getD y2.toNat T3.dflt).2.1))])
 else none
 else none
 else
 if (0 ≤ y2) ∧ (y2 < y0.length) then
 W3 k j y0 (qa .i64 (y1 + (y0.getD y2.toNat T3.dflt).2.1)) (qa .i64 (y2 + 1)) y3 y4
 else none
 else none
 else
 bif (if qa .i64 (y3.1 - (y0.getD y2.toNat T3.dflt).1) > (0 : Int) then qa .i64 (y3.1 - (y0.getD y2.toNat T3.dflt).1) else (0 : Int)) < if qa .i64 (y3.2 - (y0.getD y2.toNat T3.dflt).1) < (y0.getD y2.toNat T3.dflt).2.1 then qa .i64 (y3.2 - (y0.getD y2.toNat T3.dflt).1) else (y0.getD y2.toNat T3.dflt).2.1 then
 if ((y4.length + [(qa .i64 (y1 + if qa .i64 (y3.1 - (y0.getD y2.toNat T3.dflt).1) > (0 : Int) then qa .i64 (y3.1 - (y0.getD y2.toNat T3.dflt).1) else (0 : Int)), qa .i64 (y1 + if qa .i64 (y3.2 - (y0.getD y2.toNat T3.dflt).1) < (y0.getD y2.toNat T3.dflt).2.1 then qa .i64 (y3.2 - (y0.getD y2.toNat T3.dflt).1) else (y0.getD y2.toNat T3.dflt).2.1))].length) * (16 : Nat) ≤ (140737488355328 : Nat)) then
 if (0 ≤ y2) ∧ (y2 < y0.length) then
 W3 k j y0 (qa .i64 (y1 + (y0.getD y2.toNat T3.dflt).2.1)) (qa .i64 (y2 + 1)) y3 (y4 ++ [(qa .i64 (y1 + if qa .i64 (y3.1 - (y0.getD y2.toNat T3.dflt).1) > 0 then qa .i64 (y3.1 - (y0.getD y2.toNat T3.dflt).1) else 0), qa .i64 (y1 + if qa .i64 (y3.2 - (y0.getD y2.toNat T3.dflt).1) < (y0.getD y2.toNat T3.dflt).2.1 then qa .i64 (y3.2 - (y0.getD y2.toNat T3.dflt).1) else (y0.getD y2.toNat T3.dflt).2.1))])
 else none
 else none
 else
 if (0 ≤ y2) ∧ (y2 < y0.length) then
 W3 k j y0 (qa .i64 (y1 + (y0.getD y2.toNat T3.dflt).2.1)) (qa .i64 (y2 + 1)) y3 y4
 else none
 else none
 else none
 else
 qgl k j y4
def qgl (k : Nat) : Nat → List T21.T → Option qlZ
 | 0, _ => none
 | j + 1, y0 =>
 if ((qcX k y0).isSome) then
 some ((YZ k y0).1, (YZ k y0).2)
 else none
end
def qjz (k : Nat) (a : List T3.T) (b : T21.T) : Option qlZ :=
 if ((Z6 k a).isSome) then
 bif (vS k a != (0 : Int)) then
 some ([], vS k a)
 else
 bif (decide (b.1 < (0 : Int)) || decide (b.1 > b.2) || decide (b.2 > (17179869184 : Int))) then
 some ([], 1)
 else
 W3 k k a 0 0 b ([])
 else none
def qny := fun k a b => (qjz k a b).getD ([], 0)
def qPb (k : Nat) : Ke := (149, mo 2, fun
 | [.r (.ro f d), .agg e], [] => (qE f T3 d).bind fun a => (qW [] T21 e).bind fun b => some (.one (qoB (qny k a b), []))
 | _, _ => none)
def qEX : List (Nat × List Cmd) := [(9, [.row 7 91 T21, .autoB [0, 3, 7, 8, 9] false []]), (17, [.frz 7 false (RTy.list T21), .autoB [7] false []])]
abbrev qHV := EP Tryz.f149 0 qoB nb
theorem qAa (k) : ∀ j, (∀ {y0 y1 y2 y3 y4}, qHV 9 (qFm y0 y1 y2 y3 y4) (W3 k j y0 y1 y2 y3 y4)) ∧ (∀ {y0}, qHV 17 (qB9 y0) (qgl k j y0))
 | 0 => by and_intros <;> intros <;> exact e0
 | j + 1 => by
  have ih := @qAa k j
  have g := @go (qD [qeb k, qha k]) [17] qEX [.frz 4 false (RTy.list T21), .autoB [4, 5] true []]
  refine ⟨?_, ?_⟩
  ·intro y0 y1 y2 y3 y4 r h
   rw [W3] at h
   exact g (gS h (fun h => gN h (fun q => qf q.1 (qf q.2.1 (qf q.2.2.1 (qf q.2.2.2.1 (qf q.2.2.2.2.1 (qf q.2.2.2.2.2 qR)))))) fun h => qS h fun h => gS h (fun h => gN h (fun q => qf q.1 (qf q.2.1 (qf q.2.2.1 (qf q.2.2.2.1 (qf q.2.2.2.2.1 (qf q.2.2.2.2.2 qR)))))) fun h => gS h (fun h => qu h id fun h => qS h fun h => gD h 9 ih.1) fun h => qS h fun h => gD h 9 ih.1) fun h => gS h (fun h => qu h id fun h => qS h fun h => gD h 9 ih.1) fun h => qS h fun h => gD h 9 ih.1) fun h => gD h 17 ih.2)
  ·intro y0 r h
   rw [qgl] at h
   exact g (qu h qtx fun h => gL h)
theorem qPu (k a b r) (h : qjz k a b = some r): qHE a b r := qN Tryz.f149 (go (qD [qeb k, qha k]) [17] qEX [.frz 4 false (RTy.list T21), .autoB [4, 5] true []] (qu h qbV fun h => qB h fun h => qB h fun h => gD h 9 (qAa k k).1))
theorem qNw {k a b} (h : (qjz k a b).isSome): qHE a b (qny k a b) := qJ h (qPu k a b)
end
theorem qms (a b : Int) : (if a > b then a else b) = max b a := by split <;> omega
theorem qjc (a b : Int) : (if a < b then a else b) = min b a := by split <;> omega
theorem qpN (s : Sp) : (decide (s.1 < (0 : Int)) || decide (s.1 > s.2) || decide (s.2 > (17179869184 : Int))) = decide (s.1 < 0 ∨ s.1 > s.2 ∨ s.2 > 17179869184) := by
 by_cases h1 : s.1 < 0
 ·rw [qA h1, qA (Or.inl h1), zX, zX]
 ·by_cases h2 : s.1 > s.2
  ·rw [qA h2, qA (Or.inr (Or.inl h2)), Bool.or_true, zX]
  ·by_cases h3 : s.2 > 17179869184
   ·rw [qA h3, qA (Or.inr (Or.inr h3)), Bool.or_true]
   ·rw [qx h1, qx h2, qx h3, qx (by omega)]; rfl
theorem qjY {m : List Rn} (hc : Chk m) (s : Sp) : In 0 17179869184 (Qr m 0 s) := In.of fun x hx => by
 have h := qxa m 0 s hc.goods x hx
 have := hc.tot
 exact ⟨by omega, by omega, by omega⟩
theorem qqh {m : List Rn} (hc : Chk m) (s : Sp) : WE (Qr m 0 s) = (nf (Qr m 0 s), 0) := by
 have hl := qlE m 0 s
 have := hc.len
 unfold WE
 rw [qm (fun e => e (ZV.2 ⟨by omega, qjY hc s⟩))]
def qnY (r : Rn) (a : Int) (s : Sp) : List Sp := if max (lo r) s.1 < min (Go.AM.hi r + 1) s.2 then [(a + (if r.2.2 = true then Go.AM.hi r + 1 - min (Go.AM.hi r + 1) s.2 else max (lo r) s.1 - lo r), a + (if r.2.2 = true then Go.AM.hi r + 1 - min (Go.AM.hi r + 1) s.2 else max (lo r) s.1 - lo r) + min (Go.AM.hi r + 1) s.2 - max (lo r) s.1)] else []
theorem qpo (r : Rn) (t : List Rn) (a : Int) (s : Sp) : Qr (r :: t) a s = qnY r a s ++ Qr t (a + r.2.1) s := rfl
theorem qyr (k : Nat) (hk : 2100 ≤ k) (m : List Rn) (hc : Chk m) (s : Sp) (s0 : 0 ≤ s.1 ∧ s.1 ≤ 17179869184) (s1 : 0 ≤ s.2 ∧ s.2 ≤ 17179869184) : ∀ (d i j : Nat) (a : Int) (out : List Sp), i + d = m.length → d + 1 < j → 0 ≤ a → a ≤ (i : Int) * 17179869184 → out.length ≤ i → out ++ Qr (m.drop i) a s = Qr m 0 s →
  Z8 k j a m (m.length : Int) (i : Int) s out = some (nf (Qr m 0 s), 0) := by
 intro d
 have hl := hc.len
 induction d with
 | zero =>
  intro i j a out hi hj h0 h1 ho he
  obtain ⟨j, rfl⟩ : ∃ q, j = q + 1 + 1 := ⟨j - 2, by omega⟩
  rw [Z8, qx (by omega : ¬ (i : Int) < (m.length : Int)), qg, qf9]
  rw [qh (by omega)] at he
  rw [show Qr ([] : List Rn) a s = [] from rfl, qY] at he
  rw [he, qdP k hk, qke k hk, qqh hc]
  rfl
 | succ d ih =>
  intro i j a out hi hj h0 h1 ho he
  obtain ⟨j, rfl⟩ := qQ (by omega : 0 < j)
  have hg : good (m.getD i T3.dflt) := hc.goods.mem _ (w9 _ _ _ (by omega))
  rw [qq m i T3.dflt (by omega), qpo, ← qw] at he
  rw [Z8, qA (by omega : (i : Int) < (m.length : Int)), qi, qd ⟨by omega, by omega⟩, qc, qbW k _ hg, qhm k _ hg, qb, qd rfl, qF i (by omega)]
  generalize m.getD i T3.dflt = r at *
  obtain ⟨g1, g2, g3, g4, _⟩ := _root_.id hg
  obtain ⟨l1, l2, l3, l4⟩ := hg.lohi
  rw [show (vX r).1 = lo r from rfl, show (vX r).2 = Go.AM.hi r + 1 from rfl, qms, qjc, qo (i := a + r.2.1) (by omega) (by omega), qo (i := Go.AM.hi r + 1 - min (Go.AM.hi r + 1) s.2) (by omega) (by omega), qo (i := max (lo r) s.1 - lo r) (by omega) (by omega)]
  unfold qnY at he
  by_cases h : max (lo r) s.1 < min (Go.AM.hi r + 1) s.2
  ·rw [qA h, qi]
   rw [qd h] at he
   rw [qo (i := a + (Go.AM.hi r + 1 - min (Go.AM.hi r + 1) s.2)) (by omega) (by omega), qo (i := a + (max (lo r) s.1 - lo r)) (by omega) (by omega)]
   rw [qo (i := a + (Go.AM.hi r + 1 - min (Go.AM.hi r + 1) s.2) + min (Go.AM.hi r + 1) s.2) (by omega) (by omega), qo (i := a + (max (lo r) s.1 - lo r) + min (Go.AM.hi r + 1) s.2) (by omega) (by omega)]
   rw [qo (i := a + (Go.AM.hi r + 1 - min (Go.AM.hi r + 1) s.2) + min (Go.AM.hi r + 1) s.2 - max (lo r) s.1) (by omega) (by omega), qo (i := a + (max (lo r) s.1 - lo r) + min (Go.AM.hi r + 1) s.2 - max (lo r) s.1) (by omega) (by omega)]
   cases hb : r.2.2
   ·rw [hb] at he
    rw [qm Bool.false_ne_true] at he
    rw [qg, qd (by rw [qk]; omega)]
    exact ih (i + 1) j _ _ (by omega) (by omega) (by omega) (by omega) (by rw [qn, qk]; omega) he
   ·rw [hb] at he
    rw [qd rfl] at he
    rw [qi, qd (by rw [qk]; omega)]
    exact ih (i + 1) j _ _ (by omega) (by omega) (by omega) (by omega) (by rw [qn, qk]; omega) he
  ·rw [qx h, qg]
   rw [qm h, qY] at he
   exact ih (i + 1) j _ _ (by omega) (by omega) (by omega) (by omega) (by omega) he
theorem qmf (k : Nat) (hk : 2100 ≤ k) (m : List Rn) (s : Sp) : qjs k m s = some (zP m s) := by
 unfold qjs zP
 rw [QT k (by omega), W0 k (by omega), qb, qd rfl, qpN]
 by_cases h1 : chk m = 0
 ·have hc := wW.1 h1
  have hl := hc.len
  rw [show (chk m != 0) = false by simp [h1], qg, qm (fun h : chk m ≠ 0 => h h1)]
  by_cases h2 : s.1 < 0 ∨ s.1 > s.2 ∨ s.2 > 17179869184
  ·rw [qA h2, qi, qd h2]
  ·rw [qx h2, qg, qm h2]
   exact qyr k hk m hc s ⟨by omega, by omega⟩ ⟨by omega, by omega⟩ m.length 0 k 0 [] (by omega) (by omega) (by omega) (by omega) (by simp) rfl
 ·rw [show (chk m != 0) = true from bne_iff_ne.2 h1, qi, qd h1]
theorem qyN (k : Nat) (hk : 2100 ≤ k) (m : List Rn) (s : Sp) : qdt k m s = zP m s := by
 unfold qdt; rw [qmf k hk]; rfl
def Zh (g : Int) (p : List wE) : Bool := p.all fun x => x.2.2.2.1 == g
def qf6 (p : List wE) : Bool := p.all fun x => x.2.2.1 == 1
def grS (p : List wE) : Int := if Zh (p.getD 0 T2.dflt).2.2.2.1 p = true then (p.getD 0 T2.dflt).2.2.2.1 else -1
theorem qLt (k : Nat) (p : List wE) (hl : p.length ≤ 512) (hp : p.length ≠ 0) : ∀ (d i j : Nat) (g : Int) (a : Bool), i + d = p.length → d < j → Xi k j p g a (i : Int) = some ((if Zh (p.getD 0 T2.dflt).2.2.2.1 (p.drop i) = true then g else -1), a && qf6 (p.drop i), 0) := by
 intro d
 induction d with
 | zero =>
  intro i j g a hi hj
  obtain ⟨j, rfl⟩ := qQ (by omega : 0 < j)
  rw [Xi, qx (by omega : ¬ (i : Int) < (p.length : Int)), qg, qh (by omega)]
  show _ = some ((if true = true then g else -1), a && true, (0 : Int))
  rw [qd rfl, Bool.and_true]
 | succ d ih =>
  intro i j g a hi hj
  obtain ⟨j, rfl⟩ := qQ (by omega : 0 < j)
  have h3 : (0 : Int) ≤ (i : Int) := by omega
  have h4 : (i : Int) < (p.length : Int) := by omega
  rw [Xi, qA h4, qi, qd ⟨h3, h4, Wg 0, by omega⟩, qc, qd ⟨fun _ => h3, fun _ => h4⟩, qd ⟨fun _ => h3, fun _ => h4⟩, qF i (by omega), ih (i + 1) j _ _ (by omega) (by omega), ih (i + 1) j _ _ (by omega) (by omega), qq p i T2.dflt (by omega)]
  show _ = some ((if ((p.getD i T2.dflt).2.2.2.1 == (p.getD 0 T2.dflt).2.2.2.1 && Zh (p.getD 0 T2.dflt).2.2.2.1 (p.drop (i + 1))) = true then g else -1), a && ((p.getD i T2.dflt).2.2.1 == 1 && qf6 (p.drop (i + 1))), (0 : Int))
  rw [show p.getD (qt 0) T2.dflt = p.getD 0 T2.dflt from rfl]
  show (bif !((p.getD i T2.dflt).2.2.2.1 == (p.getD 0 T2.dflt).2.2.2.1) then _ else _) = _
  cases ((p.getD i T2.dflt).2.2.2.1 == (p.getD 0 T2.dflt).2.2.2.1)
  ·rw [qd1, qi, wD, qm Bool.false_ne_true, Bool.and_assoc]
   split <;> rfl
  ·rw [vB, qg, ww, Bool.and_assoc]
theorem qaN (k : Nat) (hk : 1200 ≤ k) {l : List wE} (hz : vt l = 0) {s : Sp} (h0 : 0 ≤ s.1) (hs : s.1 < s.2) (h1 : s.2 ≤ 17179869184) (h2 : s.2 ≤ wT l) : qc0 k l s = some (grS (zN s l), qf6 (zN s l), 0) := by
 have hne := qnJ hz h0 hs h2
 have hl := (Zw hz).1
 have hpl := qlc s l
 have hn : (zN s l).length ≠ 0 := fun h => hne (List.length_eq_zero_iff.1 h)
 unfold qc0
 rw [qgL k hk hz h0 (by omega) h1 h2, qqr k hk hz h0 (by omega) h1 h2, qb, qd rfl, bne_self_eq_false, qg]
 dsimp only
 rw [show (((zN s l).length : Int) == 0) = false from beq_eq_false_iff_ne.2 (by omega), qg, qd ⟨Wg 0, by omega⟩]
 have := qLt k (zN s l) (by omega) hn (zN s l).length 0 k ((zN s l).getD 0 T2.dflt).2.2.2.1 true (by omega) (by omega)
 rw [wm, ww] at this
 exact this
theorem qgS (k : Nat) (hk : 1200 ≤ k) {l : List wE} (hz : vt l = 0) {s : Sp} (h0 : 0 ≤ s.1) (hs : s.1 < s.2) (h1 : s.2 ≤ 17179869184) (h2 : s.2 ≤ wT l) : Y2 k l s = (grS (zN s l), qf6 (zN s l), 0) := by
 unfold Y2; rw [qaN k hk hz h0 hs h1 h2]; rfl
def Zb (l : List wE) : List Sp → List wE
 | [] => []
 | s :: t => zN s l ++ Zb l t
def Qs : Int → Bool → Bool → List wE → Int × Bool
 | g, a, _, [] => (g, a)
 | g, a, f, x :: t => bif (!f && x.2.2.2.1 != g) then (-1, false) else Qs x.2.2.2.1 (a && x.2.2.1 == 1) false t
theorem qli {g : Int} (r : List wE) : ∀ (p : List wE) (a : Bool), Zh g p = true → Qs g a false (p ++ r) = Qs g (a && qf6 p) false r
 | [], a, _ => by rw [qH]; show _ = Qs g (a && true) false r; rw [Bool.and_true]
 | x :: t, a, h => by
  obtain ⟨h1, h2⟩ := Bool.and_eq_true_iff.1 (show (x.2.2.2.1 == g && Zh g t) = true from h)
  rw [qpk, Qs]
  have e : x.2.2.2.1 = g := by simpa using h1
  rw [e, bne_self_eq_false, qHb, qg, qli r t _ h2]
  show _ = Qs g (a && (x.2.2.1 == 1 && qf6 t)) false r
  rw [Bool.and_assoc]
theorem qkO {g : Int} (r : List wE) : ∀ (p : List wE) (a : Bool), Zh g p = false → Qs g a false (p ++ r) = (-1, false)
 | [], a, h => by cases h
 | x :: t, a, h => by
  rw [qpk, Qs]
  by_cases e : x.2.2.2.1 = g
  ·have h2 : Zh g t = false := by
    have h : (x.2.2.2.1 == g && Zh g t) = false := h
    rw [e, beq_self_eq_true, ww] at h; exact h
   rw [e, bne_self_eq_false, qHb, qg, qkO r t _ h2]
  ·rw [bne_iff_ne.2 e]; rfl
theorem qsp : ∀ (p : List wE) (g : Int) (a : Bool), g < 0 → (Qs g a false p).1 < 0
 | [], g, _, h => h
 | x :: t, g, a, h => by
  rw [Qs]
  by_cases e : x.2.2.2.1 = g
  ·rw [e, bne_self_eq_false, qHb, qg]; exact qsp t g _ h
  ·rw [bne_iff_ne.2 e]; show (-1 : Int) < 0; decide
set_option maxRecDepth 20000 in
theorem qvw (k : Nat) (hk : 200000 ≤ k) (r : T28.T) (hz : vt r.2.2.1 = 0) (spans : List Sp) (hl : spans.length ≤ 256) (hs : ∀ s ∈ spans, 0 ≤ s.1 ∧ s.1 < s.2 ∧ s.2 ≤ 17179869184 ∧ s.2 ≤ wT r.2.2.1) : qiF k r spans = some (Qs (-1) true true (Zb r.2.2.1 spans)) := by
 have hsl := (Zw hz).1
 have : ∀ (d i j : Nat) (g : Int) (a f : Bool), i + d = spans.length → d * 600 < j → VU k j g a f spans (spans.length : Int) (i : Int) r = some (Qs g a f (Zb r.2.2.1 (spans.drop i))) := by
  intro d
  induction d with
  | zero =>
   intro i j g a f hi hj
   obtain ⟨j, rfl⟩ := qQ (by omega : 0 < j)
   rw [VU, qx (by omega : ¬ (i : Int) < (spans.length : Int)), qg, qh (by omega)]; rfl
  | succ d ih =>
   intro i j g a f hi hj
   obtain ⟨j, rfl⟩ := qQ (by omega : 0 < j)
   have hm := hs (spans.getD i T21.dflt) (w9 _ _ _ (by omega))
   obtain ⟨s0, s1, s2, s3⟩ := hm
   have hpl := qlc (spans.getD i T21.dflt) r.2.2.1
   rw [VU, qA (by omega : (i : Int) < (spans.length : Int)), qi, qd ⟨by omega, by omega⟩, qc, qif k (by omega) hz s0 (by omega) s2 s3, qsz k (by omega) hz s0 (by omega) s2 s3, qb, qd rfl, qq spans i T21.dflt (by omega), Zb]
   generalize zN (spans.getD i T21.dflt) r.2.2.1 = P at *
   have inner : ∀ (e q j : Nat) (g : Int) (a f : Bool), q + e = P.length → d * 600 + e + 1 < j → V3 k j g a f spans (spans.length : Int) (i : Int) P (P.length : Int) (q : Int) r = some (Qs g a f (P.drop q ++ Zb r.2.2.1 (spans.drop (i + 1)))) := by
    intro e
    induction e with
    | zero =>
     intro q j g a f hq hj
     obtain ⟨j, rfl⟩ := qQ (by omega : 0 < j)
     rw [V3, qx (by omega : ¬ (q : Int) < (P.length : Int)), qg, qh (by omega : P.length ≤ q), qH, qF i (by omega)]
     have hj' : d * 600 < j := by omega
     have hi' : i + 1 + d = spans.length := by omega
     exact ih (i + 1) j g a f hi' hj'
    | succ e ihe =>
     intro q j g a f hq hj
     obtain ⟨j, rfl⟩ := qQ (by omega : 0 < j)
     rw [V3, qA (by omega : (q : Int) < (P.length : Int)), qi, qd ⟨by omega, by omega⟩, qc, qF q (by omega), ihe (q + 1) j _ _ _ (by omega) (by omega), qq P q T2.dflt (by omega), qpk, Qs]
     cases (!f && (P.getD q T2.dflt).2.2.2.1 != g) <;> rfl
   exact inner P.length 0 j g a f (by omega) (by omega)
 exact this spans.length 0 k (-1) true true (by omega) (by omega)
theorem qL1 (k : Nat) (hk : 200000 ≤ k) (r : T28.T) (hz : vt r.2.2.1 = 0) (spans : List Sp) (hl : spans.length ≤ 256) (hs : ∀ s ∈ spans, 0 ≤ s.1 ∧ s.1 < s.2 ∧ s.2 ≤ 17179869184 ∧ s.2 ≤ wT r.2.2.1) : QA k r spans = Qs (-1) true true (Zb r.2.2.1 spans) := by
 unfold QA; rw [qvw k hk r hz spans hl hs]; rfl
theorem qER (k : Nat) (r : T28.T) (hl : r.2.2.1.length ≤ 512) : qen k r = some (wT r.2.2.1 == r.2.1.2) := by
 unfold qen wT
 by_cases h : r.2.2.1.length = 0
 ·rw [qd h, qx (by omega : ¬ (qe r.2.2.1 : Int) > 0), qg]
  show some (r.2.1.2 == 0) = some (0 == r.2.1.2)
  rw [Bool.beq_comm]
 ·rw [qm h, qA (by omega : (qe r.2.2.1 : Int) > 0), qi, qiZ hl h, qd ⟨by omega, by omega⟩, qc]
theorem qQn (k : Nat) (r : T28.T) (hl : r.2.2.1.length ≤ 512) : qiu k r = (wT r.2.2.1 == r.2.1.2) := by
 unfold qiu; rw [qER k r hl]; rfl
theorem qEz {r : Rn} (hg : good r) (a : Int) (s : Sp) (hb : r.2.2 = true) : qnY r a s = if max 0 (r.1 - s.2 + 1) < min r.2.1 (r.1 - s.1 + 1) then [(a + max 0 (r.1 - s.2 + 1), a + min r.2.1 (r.1 - s.1 + 1))] else [] := by
 obtain ⟨g1, g2, g3, g4, _⟩ := hg
 unfold qnY lo Go.AM.hi
 rw [hb]
 simp only [if_true]
 by_cases h : max 0 (r.1 - s.2 + 1) < min r.2.1 (r.1 - s.1 + 1)
 ·rw [qd h, qd (by omega)]
  rw [show a + (r.1 + 1 - min (r.1 + 1) s.2) = a + max 0 (r.1 - s.2 + 1) by omega, show a + max 0 (r.1 - s.2 + 1) + min (r.1 + 1) s.2 - max (r.1 - r.2.1 + 1) s.1 = a + min r.2.1 (r.1 - s.1 + 1) by omega]
 ·rw [qm h, qm (by omega)]
theorem qDf {r : Rn} (hg : good r) (a : Int) (s : Sp) (hb : r.2.2 = false) : qnY r a s = if max 0 (s.1 - r.1) < min r.2.1 (s.2 - r.1) then [(a + max 0 (s.1 - r.1), a + min r.2.1 (s.2 - r.1))] else [] := by
 obtain ⟨g1, g2, g3, g4, _⟩ := hg
 unfold qnY lo Go.AM.hi
 rw [hb]
 simp only [qG, if_false]
 by_cases h : max 0 (s.1 - r.1) < min r.2.1 (s.2 - r.1)
 ·rw [qd h, qd (by omega)]
  rw [show a + (max r.1 s.1 - r.1) = a + max 0 (s.1 - r.1) by omega, show a + max 0 (s.1 - r.1) + min (r.1 + r.2.1 - 1 + 1) s.2 - max r.1 s.1 = a + min r.2.1 (s.2 - r.1) by omega]
 ·rw [qm h, qm (by omega)]
theorem qso (k : Nat) (hk : 2100 ≤ k) (m : List Rn) (hc : Chk m) (s : Sp) (s0 : 0 ≤ s.1 ∧ s.1 ≤ 17179869184) (s1 : 0 ≤ s.2 ∧ s.2 ≤ 17179869184) : ∀ (d i j : Nat) (a : Int) (out : List Sp), i + d = m.length → d + 1 < j → 0 ≤ a → a ≤ (i : Int) * 17179869184 → out.length ≤ i → out ++ Qr (m.drop i) a s = Qr m 0 s →
  W3 k j m a (i : Int) s out = some (nf (Qr m 0 s), 0) := by
 intro d
 have hl := hc.len
 induction d with
 | zero =>
  intro i j a out hi hj h0 h1 ho he
  obtain ⟨j, rfl⟩ : ∃ q, j = q + 1 + 1 := ⟨j - 2, by omega⟩
  rw [W3, qx (by omega : ¬ (i : Int) < (m.length : Int)), qg, qgl]
  rw [qh (by omega)] at he
  rw [show Qr ([] : List Rn) a s = [] from rfl, qY] at he
  rw [he, Xu k (by omega), qbw k (by omega), qqh hc]
  rfl
 | succ d ih =>
  intro i j a out hi hj h0 h1 ho he
  obtain ⟨j, rfl⟩ := qQ (by omega : 0 < j)
  have hg : good (m.getD i T3.dflt) := hc.goods.mem _ (w9 _ _ _ (by omega))
  have hx : (i : Int) < (m.length : Int) := by omega
  have hx0 : (0 : Int) ≤ (i : Int) := by omega
  rw [qq m i T3.dflt (by omega), qpo, ← qw] at he
  rw [W3, qA hx, qi, qd ⟨hx0, hx, hx0, hx, hx0, hx⟩, qd ⟨hx0, hx⟩, qc, qF i (by omega)]
  generalize m.getD i T3.dflt = r at *
  obtain ⟨g1, g2, g3, g4, _⟩ := _root_.id hg
  rw [qms, qjc, qms, qjc, qo (i := a + r.2.1) (by omega) (by omega)]
  rw [qo (i := r.1 - s.2) (by omega) (by omega), qo (i := r.1 - s.1) (by omega) (by omega), qo (i := s.1 - r.1) (by omega) (by omega), qo (i := s.2 - r.1) (by omega) (by omega)]
  rw [qo (i := r.1 - s.2 + 1) (by omega) (by omega), qo (i := r.1 - s.1 + 1) (by omega) (by omega)]
  rw [qo (i := a + max 0 (r.1 - s.2 + 1)) (by omega) (by omega), qo (i := a + min r.2.1 (r.1 - s.1 + 1)) (by omega) (by omega), qo (i := a + max 0 (s.1 - r.1)) (by omega) (by omega), qo (i := a + min r.2.1 (s.2 - r.1)) (by omega) (by omega)]
  cases hb : r.2.2
  ·rw [qDf hg a s hb] at he
   rw [qg]
   by_cases h : max 0 (s.1 - r.1) < min r.2.1 (s.2 - r.1)
   ·rw [qd h] at he
    rw [qA h, qi, qd (by rw [qk]; omega), qd ⟨hx0, hx⟩]
    exact ih (i + 1) j _ _ (by omega) (by omega) (by omega) (by omega) (by rw [qn, qk]; omega) he
   ·rw [qm h, qY] at he
    rw [qx h, qg, qd ⟨hx0, hx⟩]
    exact ih (i + 1) j _ _ (by omega) (by omega) (by omega) (by omega) (by omega) he
  ·rw [qEz hg a s hb] at he
   rw [qi, qd ⟨hx0, hx, hx0, hx, hx0, hx⟩]
   by_cases h : max 0 (r.1 - s.2 + 1) < min r.2.1 (r.1 - s.1 + 1)
   ·rw [qd h] at he
    rw [qA h, qi, qd (by rw [qk]; omega), qd ⟨hx0, hx⟩]
    exact ih (i + 1) j _ _ (by omega) (by omega) (by omega) (by omega) (by rw [qn, qk]; omega) he
   ·rw [qm h, qY] at he
    rw [qx h, qg, qd ⟨hx0, hx⟩]
    exact ih (i + 1) j _ _ (by omega) (by omega) (by omega) (by omega) (by omega) he
theorem qip (k : Nat) (hk : 2100 ≤ k) (m : List Rn) (s : Sp) : qjz k m s = some (zP m s) := by
 unfold qjz zP
 rw [vM k (by omega), Qw k (by omega), qb, qd rfl, qpN]
 by_cases h1 : chk m = 0
 ·have hc := wW.1 h1
  have hl := hc.len
  rw [show (chk m != 0) = false by simp [h1], qg, qm (fun h : chk m ≠ 0 => h h1)]
  by_cases h2 : s.1 < 0 ∨ s.1 > s.2 ∨ s.2 > 17179869184
  ·rw [qA h2, qi, qd h2]
  ·rw [qx h2, qg, qm h2]
   exact qso k hk m hc s ⟨by omega, by omega⟩ ⟨by omega, by omega⟩ m.length 0 k 0 [] (by omega) (by omega) (by omega) (by omega) (by simp) rfl
 ·rw [show (chk m != 0) = true from bne_iff_ne.2 h1, qi, qd h1]
theorem qsn (k : Nat) (hk : 2100 ≤ k) (m : List Rn) (s : Sp) : qny k m s = zP m s := by
 unfold qny; rw [qip k hk]; rfl
theorem qcv {l : List Ro} {W L id : Int} (h : (qV l W L id).2 = 0) : Reg l W L ∧ CutIn l W L id (qV l W L id).1 512 := by
 have hz : Qi l W L id = 0 := by
  unfold qV at h
  by_cases h2 : Qi l W L id = 0
  ·exact h2
  ·rw [qd h2] at h; exact absurd h h2
 obtain ⟨reg, kn⟩ := Xr.1 hz
 have hC : qV l W L id = W7 l W L 512 id := by unfold qV; rw [qm (fun h => h hz)]
 refine ⟨reg, qLe reg 512 id _ (reg.anc kn) ?_⟩
 rw [← hC, ← h]
end Go.AM
namespace Go.AM
open Go Go.Proofs
noncomputable section
def qug (r : T21.T × Bool) : AV := .tup [.agg (qy (qr T21 r.1)), rb r.2]
abbrev qDW (a : T4.T) (b : Int) (d : Int) (r : T21.T × Bool) : Prop := CC Tryz.prog 148 [.agg (qy (qr T4 a)), ri b, ri d] [] (qug r) (nb r)
def qeU (k : Nat) (a : T4.T) (b : Int) (d : Int) : Option (T21.T × Bool) :=
 bif a.2.2.1 then
 some ((qa .i64 (a.2.1 - qa .i64 ((if qa .i64 (a.1 + a.2.1) < d then qa .i64 (a.1 + a.2.1) else d) - a.1)), qa .i64 (a.2.1 - qa .i64 ((if a.1 > b then a.1 else b) - a.1))), decide (qa .i64 (a.2.1 - qa .i64 ((if qa .i64 (a.1 + a.2.1) < d then qa .i64 (a.1 + a.2.1) else d) - a.1)) < qa .i64 (a.2.1 - qa .i64 ((if a.1 > b then a.1 else b) - a.1))))
 else
 some ((qa .i64 ((if a.1 > b then a.1 else b) - a.1), qa .i64 ((if qa .i64 (a.1 + a.2.1) < d then qa .i64 (a.1 + a.2.1) else d) - a.1)), decide (qa .i64 ((if a.1 > b then a.1 else b) - a.1) < qa .i64 ((if qa .i64 (a.1 + a.2.1) < d then qa .i64 (a.1 + a.2.1) else d) - a.1)))
def qie := fun k a b d => (qeU k a b d).getD ((T21).dflt, false)
def qK9 (k : Nat) : Ke := (148, mo 3, fun
 | [.agg e, .r (.v (.int .i64 b)), .r (.v (.int .i64 d))], [] => (qW [] T4 e).bind fun a => some (.one (qug (qie k a b d), []))
 | _, _ => none)
theorem qJS (k a b d r) (h : qeU k a b d = some r): qDW a b d r := qN Tryz.f148 (go (qD []) [] [] [.autoB [6, 7] true []] (qB h fun h => gL h))
theorem qMX {k a b d} (h : (qeU k a b d).isSome): qDW a b d (qie k a b d) := qJ h (qJS k a b d)
def qkC (r : List T7.T × Int) : AV := .tup [ro T7 r.1, ri r.2]
abbrev qzJ (a : List T5.T) (b : T23.T) (d : List T7.T) (e : Int) (r : List T7.T × Int) : Prop := CC Tryz.prog 102 [ro T5 a, .agg (qy (qr T23 b)), ro T7 d, ri e] [] (qkC r) (nb r)
def qCa := fun y0 y1 y2 y3 => (⟨qI 120 [(2, ro T7 y0), (10, .ptr 1000000 0 0), (13, .own 1000001 0), (14, ri y1)], [(1000000, 0, .var 45 (qy (qr T4 y2))), (1000001, 0, .row 127 T7 y3)]⟩ : St)
def qx1 := fun y0 y1 y2 y3 y4 y5 y6 => (⟨qI 120 [(2, ro T7 y0), (10, .ptr 1000000 0 0), (13, .own 1000001 0), (14, ri y1), (15, .ptr 1000002 0 0), (17, ro T21 y2), (19, ri y3)], [(1000000, 0, .var 45 (qy (qr T4 y4))), (1000001, 0, .row 127 T7 y5), (1000002, 0, .var 91 (qy (qr T21 y6)))]⟩ : St)
mutual
def WB (k : Nat) : Nat → List T7.T → Int → T4.T → List T7.T → Option (List T7.T × Int)
 | 0, _, _, _, _ => none
 | j + 1, y0, y1, y2, y3 =>
 bif y1 < y0.length then
 if (0 ≤ y1) ∧ (y1 < y0.length) ∧ (0 ≤ y1) ∧ (y1 < y0.length) ∧ ((qeU k y2 (y0.getD y1.toNat T7.dflt).1.1 (y0.getD y1.toNat T7.dflt).1.2.1).isSome) then
 bif (! (qie k y2 (y0.getD y1.toNat T7.dflt).1.1 (y0.getD y1.toNat T7.dflt).1.2.1).2) then
 WB k j y0 (qa .i64 (y1 + 1)) y2 y3
 else
 if (0 ≤ y1) ∧ (y1 < y0.length) ∧ (0 ≤ y1) ∧ (y1 < y0.length) ∧ ((qjz k y2.2.2.2 (y0.getD y1.toNat T7.dflt).1.2.2).isSome) then
 ZM k j y0 y1 ((qny k y2.2.2.2 (y0.getD y1.toNat T7.dflt).1.2.2).1) 0 y2 y3 ((qie k y2 (y0.getD y1.toNat T7.dflt).1.1 (y0.getD y1.toNat T7.dflt).1.2.1).1)
 else none
 else none
 else
 bif (↑y3.length : Int) > (128 : Int) then
 some ([], 8)
 else
 some (y3, 0)
def ZM (k : Nat) : Nat → List T7.T → Int → List T21.T → Int → T4.T → List T7.T → T21.T → Option (List T7.T × Int)
 | 0, _, _, _, _, _, _, _ => none
 | j + 1, y0, y1, y2, y3, y4, y5, y6 =>
 bif y3 < y2.length then
 if (0 ≤ y3) ∧ (y3 < y2.length) ∧ (0 ≤ y3) ∧ (y3 < y2.length) then
 if (0 ≤ y1) ∧ (y1 < y0.length) ∧ (0 ≤ y1) ∧ (y1 < y0.length) ∧ ((y5.length + [((y6.1, y6.2, y2.getD y3.toNat T21.dflt), (y0.getD y1.toNat T7.dflt).2)].length) * (48 : Nat) ≤ (140737488355328 : Nat)) then
 ZM k j y0 y1 y2 (qa .i64 (y3 + 1)) y4 (y5 ++ [((y6.1, y6.2, y2.getD y3.toNat T21.dflt), (y0.getD y1.toNat T7.dflt).2)]) y6
 else none
 else none
 else
 WB k j y0 (qa .i64 (y1 + 1)) y4 y5
end
def qed (k : Nat) (a : List T5.T) (b : T23.T) (d : List T7.T) (e : Int) : Option (List T7.T × Int) :=
 if ((wQ k a b e).isSome) then
 bif ((vN k a b e).2 != (0 : Int)) then
 some ([], (vN k a b e).2)
 else
 if ((qcb k d).isSome) then
 bif (qaz k d != (0 : Int)) then
 some ([], qaz k d)
 else
 WB k k d 0 ((vN k a b e).1) ([])
 else none
 else none
def XV := fun k a b d e => (qed k a b d e).getD ([], 0)
def qMg (k : Nat) : Ke := (102, mo 4, fun
 | [.r (.ro m f), .agg l, .r (.ro n i), .r (.v (.int .i64 e))], [] => (qE m T5 f).bind fun a => (qW [] T23 l).bind fun b => (qE n T7 i).bind fun d => some (.one (qkC (XV k a b d e), []))
 | _, _ => none)
def qDy (k : Nat) : Calld := qD [qoa k, qph k, qK9 k, qPb k]
def qwS : List (Nat × List Cmd) := [(9, [.row 13 127 T7, .autoB [2, 10, 13, 14] false []]), (15, [.row 13 127 T7, .autoB [2, 10, 13, 14, 15, 17, 19] false []])]
abbrev qDS := EP Tryz.f102 0 qkC nb
theorem quZ (k) : ∀ j, (∀ {y0 y1 y2 y3}, qDS 9 (qCa y0 y1 y2 y3) (WB k j y0 y1 y2 y3)) ∧ (∀ {y0 y1 y2 y3 y4 y5 y6}, qDS 15 (qx1 y0 y1 y2 y3 y4 y5 y6) (ZM k j y0 y1 y2 y3 y4 y5 y6))
 | 0 => by and_intros <;> intros <;> exact e0
 | j + 1 => by
  have ih := @quZ k j
  have g := @go (qDy k) [] qwS [.frz 8 false (RTy.list T7), .autoB [8, 9] true []]
  refine ⟨?_, ?_⟩
  ·intro y0 y1 y2 y3 r h
   rw [WB] at h
   exact g (gS h (fun h => gN h (fun q => qf q.1 (qf q.2.1 (qf q.2.2.1 (qf q.2.2.2.1 (qf (qMX q.2.2.2.2) qR))))) fun h => gS h (fun h => gD h 9 ih.1) fun h => gN h (fun q => qf q.1 (qf q.2.1 (qf q.2.2.1 (qf q.2.2.2.1 (qf (qNw q.2.2.2.2) qR))))) fun h => gD h 15 ih.2) fun h => qB h fun h => gL h)
  ·intro y0 y1 y2 y3 y4 y5 y6 r h
   rw [ZM] at h
   exact g (gS h (fun h => gN h Xo fun h => gN h (fun q => qf q.1 (qf q.2.1 (qf q.2.2.1 (qf q.2.2.2.1 (qf q.2.2.2.2 qR))))) fun h => gD h 15 ih.2) fun h => gD h 9 ih.1)
theorem qLy (k a b d e r) (h : qed k a b d e = some r): qzJ a b d e r := qN Tryz.f102 (go (qDy k) [] qwS [.frz 8 false (RTy.list T7), .autoB [8, 9] true []] (qu h qwe fun h => qB h fun h => qu h qwq fun h => qB h fun h => gD h 9 (quZ k k).1))
theorem qKj {k a b d e} (h : (qed k a b d e).isSome): qzJ a b d e (XV k a b d e) := qJ h (qLy k a b d e)
end
def acL (c : Ch) (a b : Int) : Int := if c.2.2.1 = true then c.2.1 - (b - c.1) else a - c.1
def acR (c : Ch) (a b : Int) : Int := if c.2.2.1 = true then c.2.1 - (a - c.1) else b - c.1
def qog (c : Ch) (x : wO) : List wO := if max x.1.1 c.1 ≥ min x.1.2.1 (c.1 + c.2.1) then [] else
 (zP c.2.2.2 x.1.2.2).1.map fun s => ((acL c (max x.1.1 c.1) (min x.1.2.1 (c.1 + c.2.1)), acR c (max x.1.1 c.1) (min x.1.2.1 (c.1 + c.2.1)), s), x.2)
def Qn (c : Ch) : List wO → List wO
 | [] => []
 | x :: t => qog c x ++ Qn c t
theorem qrN {m : List Rn} (hc : Chk m) {x : wO} (hx : SpotOk x) : (zP m x.1.2.2).2 = 0 ∧ (zP m x.1.2.2).1.length ≤ 256 := by
 obtain ⟨⟨a, b, c, d, e, f⟩, _, _, _, _⟩ := hx
 unfold zP
 rw [qm (fun h => h (wW.2 hc)), qm (by omega)]
 refine ⟨rfl, ?_⟩
 have h1 := qbE (qjY hc x.1.2.2)
 have h2 := qlE m 0 x.1.2.2
 have h3 := hc.len
 show (nf (Qr m 0 x.1.2.2)).length ≤ 256
 omega
theorem qFO (k : Nat) (a b : Int) (sp : List wO) (len i : Int) (fo : List Sp) (c : Ch) (x : wO) (hf : fo.length ≤ 256) : ∀ (d q n : Nat) (out : List wO), q + d = fo.length → out.length ≤ 100000 + q →
  ZT k (n + d + 1) a b sp len i fo (fo.length : Int) (q : Int) c out x = ZY k n sp len (qa .i64 (i + 1)) c (out ++ (fo.drop q).map fun s => ((a, b, s), x.2)) := by
 intro d
 induction d with
 | zero =>
  intro q n out hq ho
  rw [ZT, qx (by omega : ¬ (q : Int) < (fo.length : Int)), qg, qh (by omega), List.map_nil, qY]
 | succ d ih =>
  intro q n out hq ho
  rw [show n + (d + 1) + 1 = (n + d + 1) + 1 from rfl, ZT, qA (by omega : (q : Int) < (fo.length : Int)), qi, qd ⟨by omega, by omega⟩, qc, qd (by rw [qk]; omega), qF q (by omega), ih (q + 1) n _ (by omega) (by rw [qn, qk]; omega), qq fo q T21.dflt (by omega), List.map_cons, qw]
  rfl
set_option maxRecDepth 20000 in
theorem qLS (k : Nat) (hk : 2100 ≤ k) (sp : List wO) (hs : ∀ x ∈ sp, SpotOk x) (hsl : sp.length ≤ 128) (c : Ch) (c0 : 0 ≤ c.1) (c1 : c.1 + c.2.1 ≤ 12000) (c2 : 0 ≤ c.2.1) (hc : Chk c.2.2.2) : ∀ (d i j : Nat) (out : List wO), i + d = sp.length → d * 258 < j → out.length ≤ i * 256 →
  ZY k j sp (sp.length : Int) (i : Int) c out = some (if (out ++ Qn c (sp.drop i)).length > 128 then ([], 8) else (out ++ Qn c (sp.drop i), 0)) := by
 intro d
 induction d with
 | zero =>
  intro i j out hi hj ho
  obtain ⟨j, rfl⟩ := qQ (by omega : 0 < j)
  rw [ZY, qx (by omega : ¬ (i : Int) < (sp.length : Int)), qg, qh (by omega), Qn, qY]
  by_cases h : out.length > 128
  ·rw [qA (by omega : (out.length : Int) > 128), qd h]; rfl
  ·rw [qx (by omega : ¬ (out.length : Int) > 128), qm h]; rfl
 | succ d ih =>
  intro i j out hi hj ho
  have hx : SpotOk (sp.getD i T7.dflt) := hs _ (w9 _ _ _ (by omega))
  obtain ⟨j, rfl⟩ := qQ (by omega : 0 < j)
  rw [ZY, qA (by omega : (i : Int) < (sp.length : Int)), qi, qd ⟨by omega, by omega⟩, qc, qq sp i T7.dflt (by omega), Qn]
  generalize sp.getD i T7.dflt = x at *
  obtain ⟨f1, f2⟩ := qrN hc hx
  obtain ⟨⟨x1, x2, x3, x4, x5, x6⟩, _, _, _, _⟩ := _root_.id hx
  rw [qo (i := c.1 + c.2.1) (by omega) (by omega), qms, qjc]
  have ha : qiX k c (max x.1.1 c.1) (min x.1.2.1 (c.1 + c.2.1)) = some (acL c (max x.1.1 c.1) (min x.1.2.1 (c.1 + c.2.1)), acR c (max x.1.1 c.1) (min x.1.2.1 (c.1 + c.2.1))) := by
   unfold qiX acL acR
   rw [qo (i := min x.1.2.1 (c.1 + c.2.1) - c.1) (by omega) (by omega), qo (i := max x.1.1 c.1 - c.1) (by omega) (by omega), qo (by omega) (by omega), qo (by omega) (by omega)]
   cases c.2.2.1 <;> rfl
  unfold qog
  by_cases h : max x.1.1 c.1 ≥ min x.1.2.1 (c.1 + c.2.1)
  ·rw [qA h, qi, qd h, qH, qF i (by omega)]
   exact ih (i + 1) j out (by omega) (by omega) (by omega)
  ·obtain ⟨j, rfl⟩ : ∃ q, j = q + (zP c.2.2.2 x.1.2.2).1.length + 1 := ⟨j - (zP c.2.2.2 x.1.2.2).1.length - 1, by omega⟩
   have h18 := qFO k (acL c (max x.1.1 c.1) (min x.1.2.1 (c.1 + c.2.1))) (acR c (max x.1.1 c.1) (min x.1.2.1 (c.1 + c.2.1))) sp (sp.length : Int) (i : Int) (zP c.2.2.2 x.1.2.2).1 c x f2 (zP c.2.2.2 x.1.2.2).1.length 0 j out (by omega) (by omega)
   rw [qx h, qg, qm h]
   unfold qlV
   rw [ha, qmf k hk, qyN k hk, qb, qd rfl, qb, qd rfl, f1]
   show ZT k (j + (zP c.2.2.2 x.1.2.2).1.length + 1) _ _ sp _ _ (zP c.2.2.2 x.1.2.2).1 _ 0 c out x = _
   refine h18.trans ?_
   rw [wm, qF i (by omega), ih (i + 1) j _ (by omega) (by omega) (by rw [qn, List.length_map]; omega), qw]
def zz (l : List Ro) (W L : Int) (sp : List wO) (id : Int) : List wO × Int :=
 if (qV l W L id).2 ≠ 0 then ([], (qV l W L id).2) else if zH sp ≠ 0 then ([], zH sp)
 else if (Qn (qV l W L id).1 sp).length > 128 then ([], 8) else (Qn (qV l W L id).1 sp, 0)
theorem qcI (k : Nat) (hk : 300000 ≤ k) (l : List Ro) (web : Int × Int) (sp : List wO) (id : Int) : qj1 k l web sp id = some (zz l web.1 web.2 sp id) := by
 unfold qj1 zz
 rw [qiD k hk, qpw k hk, qeo k (by omega), qoR k (by omega), qb, qd rfl, qb, qd rfl]
 by_cases h1 : (qV l web.1 web.2 id).2 = 0
 ·obtain ⟨reg, ci⟩ := qcv h1
  have hsz := reg.small 512 id
  generalize (qV l web.1 web.2 id) = o at *
  obtain ⟨c1, c2, c3, c4, c5, _⟩ := ci
  have hw := reg.w
  rw [show (o.2 != 0) = false by simp [h1], qg, qm (fun h : o.2 ≠ 0 => h h1)]
  by_cases h2 : zH sp = 0
  ·obtain ⟨s1, s2⟩ := qdz h2
   rw [show (zH sp != 0) = false by simp [h2], qg, qm (fun h : zH sp ≠ 0 => h h2)]
   have hwid : 0 ≤ o.1.2.1 := by
    by_cases h : 0 ≤ o.1.2.1
    ·exact h
    ·exfalso
     rw [c3] at h
     unfold wn at h
     by_cases h0 : id = 0
     ·rw [qd h0] at h; exact h (by show 0 ≤ web.1; omega)
     ·rw [qm h0] at h
      cases e : look l id with
      | none => rw [e] at h; exact h (Wg _)
      | some r =>
       rw [e] at h
       have := (reg.wl r (zr e).1).w0
       exact h (by show 0 ≤ r.2.2.2.1; omega)
   have := qLS k (by omega) sp s2 s1 o.1 c1 (by omega) hwid c4 sp.length 0 k [] (by omega) (by omega) (by simp)
   exact this
  ·rw [bne_iff_ne.2 h2, qd h2]; rfl
 ·rw [bne_iff_ne.2 h1, qd h1]; rfl
theorem qmM (k : Nat) (hk : 300000 ≤ k) (l : List Ro) (web : Int × Int) (sp : List wO) (id : Int) : qcN k l web sp id = zz l web.1 web.2 sp id := by
 unfold qcN; rw [qcI k hk]; rfl
theorem qm3 {l : List Ro} {W L id : Int} {sp : List wO} : (zz l W L sp id).1.length ≤ 128 := by
 unfold zz
 by_cases h1 : (qV l W L id).2 ≠ 0
 ·rw [qd h1]; exact z8 _
 ·rw [qm h1]
  by_cases h2 : zH sp ≠ 0
  ·rw [qd h2]; exact z8 _
  ·rw [qm h2]
   by_cases h3 : (Qn (qV l W L id).1 sp).length > 128
   ·rw [qd h3]; exact z8 _
   ·rw [qm h3]; show (Qn (qV l W L id).1 sp).length ≤ 128; omega
def qhU : List wO → Int → Int
 | [], n => n
 | x :: t, n => qhU t (if x.2.2 > n then x.2.2 else n)
theorem qMy (k : Nat) (l : List wO) (hl : l.length ≤ 128) : ∀ (d i j : Nat) (n : Int), i + d = l.length → d < j → YO k j n l (l.length : Int) (i : Int) = some (qhU (l.drop i) n, 0) := by
 intro d
 induction d with
 | zero =>
  intro i j n hi hj
  obtain ⟨j, rfl⟩ := qQ (by omega : 0 < j)
  rw [YO, qx (by omega : ¬ (i : Int) < (l.length : Int)), qg, qh (by omega)]; rfl
 | succ d ih =>
  intro i j n hi hj
  obtain ⟨j, rfl⟩ := qQ (by omega : 0 < j)
  rw [YO, qA (by omega : (i : Int) < (l.length : Int)), qi, qd ⟨by omega, by omega⟩, qc, qF i (by omega), qq l i T7.dflt (by omega), qhU, ih (i + 1) j _ (by omega) (by omega)]
def We (l : List Ro) (W L : Int) (sp : List wO) (id : Int) : Int × Int := if (zz l W L sp id).2 ≠ 0 then (0, (zz l W L sp id).2) else (qhU (zz l W L sp id).1 0, 0)
theorem qcO (k : Nat) (hk : 300000 ≤ k) (l : List Ro) (web : Int × Int) (sp : List wO) (id : Int) : qjG k l web sp id = some (We l web.1 web.2 sp id) := by
 have hl := qm3 (l := l) (W := web.1) (L := web.2) (id := id) (sp := sp)
 unfold qjG We
 rw [qcI k hk, qmM k hk, qb, qd rfl]
 by_cases h : (zz l web.1 web.2 sp id).2 = 0
 ·rw [show ((zz l web.1 web.2 sp id).2 != 0) = false by simp [h], qg, qm (fun h' : (zz l web.1 web.2 sp id).2 ≠ 0 => h' h)]
  exact qMy k _ hl (zz l web.1 web.2 sp id).1.length 0 k 0 (by omega) (by omega)
 ·rw [bne_iff_ne.2 h, qd h]; rfl
theorem qml (k : Nat) (hk : 300000 ≤ k) (l : List Ro) (web : Int × Int) (sp : List wO) (id : Int) : qfm k l web sp id = We l web.1 web.2 sp id := by
 unfold qfm; rw [qcO k hk]; rfl
end Go.AM
namespace Go.AM
open Go Go.Proofs
noncomputable section
def qkE (r : Int × Int) : AV := .tup [ri r.1, ri r.2]
abbrev qBA (a : List T7.T) (r : Int × Int) : Prop := CC Tryz.prog 139 [ro T7 a] [] (qkE r) (nb r)
def qAv := fun y0 y1 y2 => (⟨qI 26 [(0, ro T7 y0), (5, ri y1), (6, ri y2)], []⟩ : St)
def VR (k : Nat) : Nat → List T7.T → Int → Int → Option (Int × Int)
 | 0, _, _, _ => none
 | j + 1, y0, y1, y2 =>
 bif y2 < y0.length then
 if (0 ≤ y2) ∧ (y2 < y0.length) then
 VR k j y0 (if (y0.getD y2.toNat T7.dflt).2.2 > y1 then (y0.getD y2.toNat T7.dflt).2.2 else y1) (qa .i64 (y2 + 1))
 else none
 else
 some (y1, 0)
def qeI (k : Nat) (a : List T7.T) : Option (Int × Int) :=
 if ((qcb k a).isSome) then
 bif (qaz k a != (0 : Int)) then
 some (0, qaz k a)
 else
 VR k k a 0 0
 else none
def qev := fun k a => (qeI k a).getD (0, 0)
def qME (k : Nat) : Ke := (139, mo 1, fun
 | [.r (.ro d b)], [] => (qE d T7 b).bind fun a => some (.one (qkE (qev k a), []))
 | _, _ => none)
def qwW : List (Nat × List Cmd) := [(6, [.autoB [0, 5, 6] false []])]
abbrev qPo := EP Tryz.f139 0 qkE nb
theorem qvu (k) : ∀ j, (∀ y0 y1 y2, qPo 6 (qAv y0 y1 y2) (VR k j y0 y1 y2))
 | 0 => by intros; exact e0
 | j + 1 => by
  have ih := @qvu k j
  ·intro y0 y1 y2 r h
   rw [VR] at h
   exact go (qD [qph k]) [] qwW [.autoB [2, 3] true []] (gS h (fun h => qS h fun h => gC h 6 (ih _ _ _ _)) fun h => gL h)
theorem qKv (k a r) (h : qeI k a = some r): qBA a r := qN Tryz.f139 (go (qD [qph k]) [] qwW [.autoB [2, 3] true []] (qu h qwq fun h => qB h fun h => gC h 6 ((qvu k k) _ _ _ _)))
theorem qKz {k a} (h : (qeI k a).isSome): qBA a (qev k a) := qJ h (qKv k a)
def qub (r : Int × Int) : AV := .tup [ri r.1, ri r.2]
abbrev qE4 (a : List T5.T) (b : T23.T) (d : List T7.T) (e : Int) (r : Int × Int) : Prop := CC Tryz.prog 98 [ro T5 a, .agg (qy (qr T23 b)), ro T7 d, ri e] [] (qub r) (nb r)
def qd8 (k : Nat) (a : List T5.T) (b : T23.T) (d : List T7.T) (e : Int) : Option (Int × Int) :=
 if ((qed k a b d e).isSome) then
 bif ((XV k a b d e).2 != (0 : Int)) then
 some (0, (XV k a b d e).2)
 else
 if ((qeI k (XV k a b d e).1).isSome) then
 some ((qev k (XV k a b d e).1).1, (qev k (XV k a b d e).1).2)
 else none
 else none
def qbz := fun k a b d e => (qd8 k a b d e).getD (0, 0)
def qKZ (k : Nat) : Ke := (98, mo 4, fun
 | [.r (.ro l f), .agg i, .r (.ro m g), .r (.v (.int .i64 e))], [] => (qE l T5 f).bind fun a => (qW [] T23 i).bind fun b => (qE m T7 g).bind fun d => some (.one (qub (qbz k a b d e), []))
 | _, _ => none)
theorem qMa (k a b d e r) (h : qd8 k a b d e = some r): qE4 a b d e r := qN Tryz.f98 (go (qD [qMg k, qME k]) [] [] [.autoB [8, 9] true []] (qu h qKj fun h => qB h fun h => qu h qKz fun h => gL h))
theorem qKy {k a b d e} (h : (qd8 k a b d e).isSome): qE4 a b d e (qbz k a b d e) := qJ h (qMa k a b d e)
end
theorem Nr.pos : ∀ {b : Int} {l : List Sp}, Nr b l → ∀ s ∈ l, s.1 < s.2
 | _, [], _, s, hs => by simp at hs
 | b, u :: t, ⟨_, h2, h3⟩, s, hs => by
  rcases qK.1 hs with e | h
  ·rw [e]; exact h2
  ·exact Nr.pos h3 s h
theorem qFM {m : List Rn} (hc : Chk m) {x : wO} (hx : SpotOk x) {s : Sp} (hs : s ∈ (zP m x.1.2.2).1) : 0 ≤ s.1 ∧ s.1 < s.2 ∧ s.2 ≤ 17179869184 := by
 obtain ⟨⟨a, b, c, d, e, f⟩, _, _, _, _⟩ := hx
 unfold zP at hs
 rw [qm (fun h => h (wW.2 hc)), qm (by omega)] at hs
 have h1 := (qdq (qjY hc x.1.2.2)).mem s hs
 have h2 := (qj5 (qjY hc x.1.2.2)).pos s hs
 exact ⟨h1.1, h2, h1.2.2⟩
theorem qGs {c : Ch} {x y : wO} (h : y ∈ qog c x) : max x.1.1 c.1 < min x.1.2.1 (c.1 + c.2.1) ∧ ∃ s ∈ (zP c.2.2.2 x.1.2.2).1, y = ((acL c (max x.1.1 c.1) (min x.1.2.1 (c.1 + c.2.1)), acR c (max x.1.1 c.1) (min x.1.2.1 (c.1 + c.2.1)), s), x.2) := by
 unfold qog at h
 by_cases h1 : max x.1.1 c.1 ≥ min x.1.2.1 (c.1 + c.2.1)
 ·rw [qd h1] at h; exact absurd h (List.not_mem_nil)
 ·rw [qm h1] at h
  obtain ⟨s, hs, e⟩ := List.mem_map.1 h
  exact ⟨by omega, s, hs, e.symm⟩
theorem qtH {c : Ch} : ∀ {sp : List wO} {y : wO}, y ∈ Qn c sp → ∃ x ∈ sp, y ∈ qog c x
 | [], y, h => by simp [Qn] at h
 | x :: t, y, h => by
  unfold Qn at h
  rcases zW.1 h with h | h
  ·exact ⟨x, by simp, h⟩
  ·obtain ⟨z, hz, hy⟩ := qtH h
   exact ⟨z, by simp [hz], hy⟩
theorem qSr {c : Ch} {a b : Int} (h0 : c.1 ≤ a) (h1 : a < b) (h2 : b ≤ c.1 + c.2.1) : 0 ≤ acL c a b ∧ acL c a b < acR c a b ∧ acR c a b ≤ c.2.1 := by
 unfold acL acR
 cases c.2.2.1
 ·rw [qm (by decide), qm (by decide)]; omega
 ·rw [qd rfl, qd rfl]; omega
theorem qMS {c : Ch} (c1 : c.2.1 ≤ 12000) (hc : Chk c.2.2.2) {sp : List wO} (hs : ∀ x ∈ sp, SpotOk x) : ∀ y ∈ Qn c sp, SpotOk y := fun y hy => by
 obtain ⟨x, hx, hy⟩ := qtH hy
 have ok := hs x hx
 obtain ⟨h1, s, h2, e⟩ := qGs hy
 obtain ⟨f1, f2, f3⟩ := qFM hc ok h2
 obtain ⟨a1, a2, a3⟩ := qSr (c := c) (a := max x.1.1 c.1) (b := min x.1.2.1 (c.1 + c.2.1)) (by omega) h1 (by omega)
 obtain ⟨_, _, _, k, l⟩ := ok
 subst e
 exact ⟨⟨a1, by show acL _ _ _ ≤ acR _ _ _; omega, by show acR _ _ _ ≤ 12000; omega, f1, by show s.1 ≤ s.2; omega, f3⟩, a2, f2, k, l⟩
theorem qGG {x : wO} (h : SpotOk x) : Ww x = 0 := by
 obtain ⟨⟨a, b, c, d, e, f⟩, g, i, ⟨j1, j2⟩, l1, l2⟩ := h
 unfold Ww Qp qag
 rw [qx (by omega), qx (by omega), qx (by omega), qx (by omega), qx (by omega), qx (by omega), show (x.1.1 == x.1.2.1) = false from beq_eq_false_iff_ne.2 (by omega), show (x.1.2.2.1 == x.1.2.2.2) = false from beq_eq_false_iff_ne.2 (by omega), qx (by omega), qx (by omega), qx (by omega), qx (by omega)]
 rfl
theorem qpI : ∀ {l : List wO}, (∀ x ∈ l, SpotOk x) → WV l = 0
 | [], _ => rfl
 | x :: t, h => by
  unfold WV
  rw [qGG (h x (by simp))]
  exact qpI fun y hy => h y (by simp [hy])
theorem qBq {l : List wO} (hl : l.length ≤ 128) (h : ∀ x ∈ l, SpotOk x) : zH l = 0 := by
 unfold zH
 rw [qm (by omega)]
 exact qpI h
theorem qDs {l : List Ro} {W L id : Int} (reg : Reg l W L) : 0 ≤ (wn l W L id).1 := by
 have hw := reg.w
 unfold wn
 by_cases h0 : id = 0
 ·rw [qd h0]; show 0 ≤ W; omega
 ·rw [qm h0]
  cases e : look l id with
  | none => exact Wg _
  | some r =>
   have := (reg.wl r (zr e).1).w0
   show 0 ≤ r.2.2.2.1; omega
theorem qGu {l : List Ro} {W L id : Int} {sp : List wO} : ∀ y ∈ (zz l W L sp id).1, SpotOk y := by
 unfold zz
 by_cases h1 : (qV l W L id).2 ≠ 0
 ·rw [qd h1]; intro y hy; exact absurd hy (List.not_mem_nil)
 ·rw [qm h1]
  by_cases h2 : zH sp ≠ 0
  ·rw [qd h2]; intro y hy; exact absurd hy (List.not_mem_nil)
  ·rw [qm h2]
   by_cases h3 : (Qn (qV l W L id).1 sp).length > 128
   ·rw [qd h3]; intro y hy; exact absurd hy (List.not_mem_nil)
   ·rw [qm h3]
    obtain ⟨reg, ci⟩ := qcv (Classical.not_not.1 h1)
    have hw := reg.w
    have h0 := ci.left
    have h5 := ci.right
    exact qMS (by omega) ci.chk (qdz (Classical.not_not.1 h2)).2
theorem qKD (k : Nat) (c : Ch) (a b : Int) (c0 : 0 ≤ c.1) (c1 : c.1 + c.2.1 ≤ 12000) (c2 : 0 ≤ c.2.1) (ha : 0 ≤ a ∧ a ≤ 12000) (hb : 0 ≤ b ∧ b ≤ 12000) : qeU k c a b = some ((acL c (max a c.1) (min b (c.1 + c.2.1)), acR c (max a c.1) (min b (c.1 + c.2.1))), decide (max a c.1 < min b (c.1 + c.2.1))) := by
 have e1 : (if c.1 > a then c.1 else a) = max a c.1 := by split <;> omega
 have e2 : (if c.1 + c.2.1 < b then c.1 + c.2.1 else b) = min b (c.1 + c.2.1) := by split <;> omega
 unfold qeU acL acR
 rw [qo (i := c.1 + c.2.1) (by omega) (by omega), e1, e2, qo (i := min b (c.1 + c.2.1) - c.1) (by omega) (by omega), qo (i := max a c.1 - c.1) (by omega) (by omega), qo (by omega) (by omega), qo (by omega) (by omega)]
 cases c.2.2.1
 ·rw [qg, qm (by decide), qm (by decide), decide_eq_decide.2 (by omega : min b (c.1 + c.2.1) - c.1 > max a c.1 - c.1 ↔ max a c.1 < min b (c.1 + c.2.1))]
 ·rw [qi, qd rfl, qd rfl, decide_eq_decide.2 (by omega : c.2.1 - (min b (c.1 + c.2.1) - c.1) < c.2.1 - (max a c.1 - c.1) ↔ max a c.1 < min b (c.1 + c.2.1))]
theorem qAP (k : Nat) (A B : Int) (sp : List wO) (i : Nat) (hi : i < sp.length) (fo : List Sp) (c : Ch) (hf : fo.length ≤ 256) (hil : i ≤ 128) : ∀ (d q n : Nat) (out : List wO), q + d = fo.length → out.length ≤ 100000 + q →
  ZM k (n + d + 1) sp (i : Int) fo (q : Int) c out (A, B) = WB k n sp ((i + 1 : Nat) : Int) c (out ++ (fo.drop q).map fun s => ((A, B, s), (sp.getD i T7.dflt).2)) := by
 intro d
 induction d with
 | zero =>
  intro q n out hq ho
  rw [ZM, qx (by omega : ¬ (q : Int) < (fo.length : Int)), qg, qh (by omega), List.map_nil, qY, qF i (by omega)]
 | succ d ih =>
  intro q n out hq ho
  have h1 : (0 : Int) ≤ (q : Int) := by omega
  have h2 : (q : Int) < (fo.length : Int) := by omega
  have h3 : (0 : Int) ≤ (i : Int) := by omega
  have h4 : (i : Int) < (sp.length : Int) := by omega
  rw [show n + (d + 1) + 1 = (n + d + 1) + 1 from rfl, ZM, qA h2, qi, qd ⟨h1, h2, h1, h2⟩, qd ⟨h3, h4, h3, h4, by rw [qk]; omega⟩, qc, qc, qF q (by omega), ih (q + 1) n _ (by omega) (by rw [qn, qk]; omega), qq fo q T21.dflt (by omega), List.map_cons, qw]
  rfl
set_option maxRecDepth 20000 in
theorem qGn (k : Nat) (hk : 2100 ≤ k) (sp : List wO) (hs : ∀ x ∈ sp, SpotOk x) (hsl : sp.length ≤ 128) (c : Ch) (c0 : 0 ≤ c.1) (c1 : c.1 + c.2.1 ≤ 12000) (c2 : 0 ≤ c.2.1) (hc : Chk c.2.2.2) : ∀ (d i j : Nat) (out : List wO), i + d = sp.length → d * 258 < j → out.length ≤ i * 256 →
  WB k j sp (i : Int) c out = some (if (out ++ Qn c (sp.drop i)).length > 128 then ([], 8) else (out ++ Qn c (sp.drop i), 0)) := by
 intro d
 induction d with
 | zero =>
  intro i j out hi hj ho
  obtain ⟨j, rfl⟩ := qQ (by omega : 0 < j)
  rw [WB, qx (by omega : ¬ (i : Int) < (sp.length : Int)), qg, qh (by omega), Qn, qY]
  by_cases h : out.length > 128
  ·rw [qA (by omega : (out.length : Int) > 128), qd h]; rfl
  ·rw [qx (by omega : ¬ (out.length : Int) > 128), qm h]; rfl
 | succ d ih =>
  intro i j out hi hj ho
  have hx : SpotOk (sp.getD i T7.dflt) := hs _ (w9 _ _ _ (by omega))
  obtain ⟨j, rfl⟩ := qQ (by omega : 0 < j)
  have h3 : (0 : Int) ≤ (i : Int) := by omega
  have h4 : (i : Int) < (sp.length : Int) := by omega
  obtain ⟨f1, f2⟩ := qrN hc hx
  obtain ⟨⟨x1, x2, x3, x4, x5, x6⟩, _, _, _, _⟩ := _root_.id hx
  have ha := qKD k c (sp.getD i T7.dflt).1.1 (sp.getD i T7.dflt).1.2.1 c0 c1 c2 ⟨x1, by omega⟩ ⟨by omega, x3⟩
  have hv : qie k c (sp.getD i T7.dflt).1.1 (sp.getD i T7.dflt).1.2.1 = _ := congrArg (fun o : Option ((Int × Int) × Bool) => o.getD ((T21).dflt, false)) ha
  rw [WB, qA h4, qi, qc, ha, hv, qd ⟨h3, h4, h3, h4, rfl⟩, qq sp i T7.dflt (by omega), Qn, qRI]
  unfold qog
  by_cases h : max (sp.getD i T7.dflt).1.1 c.1 ≥ min (sp.getD i T7.dflt).1.2.1 (c.1 + c.2.1)
  ·rw [qx (by omega : ¬ max (sp.getD i T7.dflt).1.1 c.1 < min (sp.getD i T7.dflt).1.2.1 (c.1 + c.2.1)), qd1, qi, qd h, qH, qF i (by omega)]
   exact ih (i + 1) j out (by omega) (by omega) (by omega)
  ·rw [qA (by omega : max (sp.getD i T7.dflt).1.1 c.1 < min (sp.getD i T7.dflt).1.2.1 (c.1 + c.2.1)), vB, qg, qm h]
   obtain ⟨j, rfl⟩ : ∃ q, j = q + (zP c.2.2.2 (sp.getD i T7.dflt).1.2.2).1.length + 1 := ⟨j - (zP c.2.2.2 (sp.getD i T7.dflt).1.2.2).1.length - 1, by omega⟩
   have h15 := qAP k (acL c (max (sp.getD i T7.dflt).1.1 c.1) (min (sp.getD i T7.dflt).1.2.1 (c.1 + c.2.1))) (acR c (max (sp.getD i T7.dflt).1.1 c.1) (min (sp.getD i T7.dflt).1.2.1 (c.1 + c.2.1))) sp i (by omega) (zP c.2.2.2 (sp.getD i T7.dflt).1.2.2).1 c f2 (by omega) (zP c.2.2.2 (sp.getD i T7.dflt).1.2.2).1.length 0 j out (by omega) (by omega)
   rw [qip k hk, qsn k hk, qd ⟨h3, h4, h3, h4, rfl⟩]
   refine h15.trans ?_
   rw [wm, ih (i + 1) j _ (by omega) (by omega) (by rw [qn, List.length_map]; omega), qw]
theorem qg4 (k : Nat) (hk : 301000 ≤ k) (l : List Ro) (web : Int × Int) (sp : List wO) (id : Int) : qed k l web sp id = some (zz l web.1 web.2 sp id) := by
 unfold qed zz
 rw [qdU k hk, qkt k hk, qaQ k (by omega), qgK k (by omega), qb, qd rfl, qb, qd rfl]
 by_cases h1 : (qV l web.1 web.2 id).2 = 0
 ·obtain ⟨reg, ci⟩ := qcv h1
  have hsz := qDs (id := id) reg
  have hw := reg.w
  generalize (qV l web.1 web.2 id) = o at *
  obtain ⟨c1, c2, c3, c4, c5, _⟩ := ci
  rw [show (o.2 != 0) = false by simp [h1], qg, qm (fun h : o.2 ≠ 0 => h h1)]
  by_cases h2 : zH sp = 0
  ·obtain ⟨s1, s2⟩ := qdz h2
   rw [show (zH sp != 0) = false by simp [h2], qg, qm (fun h : zH sp ≠ 0 => h h2)]
   exact qGn k (by omega) sp s2 s1 o.1 c1 (by omega) (by omega) c4 sp.length 0 k [] (by omega) (by omega) (by simp)
  ·rw [bne_iff_ne.2 h2, qd h2]; rfl
 ·rw [bne_iff_ne.2 h1, qd h1]; rfl
theorem qqx (k : Nat) (hk : 301000 ≤ k) (l : List Ro) (web : Int × Int) (sp : List wO) (id : Int) : XV k l web sp id = zz l web.1 web.2 sp id := by
 unfold XV; rw [qg4 k hk]; rfl
theorem qFu (k : Nat) (l : List wO) (hl : l.length ≤ 128) : ∀ (d i j : Nat) (n : Int), i + d = l.length → d < j → VR k j l n (i : Int) = some (qhU (l.drop i) n, 0) := by
 intro d
 induction d with
 | zero =>
  intro i j n hi hj
  obtain ⟨j, rfl⟩ := qQ (by omega : 0 < j)
  rw [VR, qx (by omega : ¬ (i : Int) < (l.length : Int)), qg, qh (by omega)]; rfl
 | succ d ih =>
  intro i j n hi hj
  obtain ⟨j, rfl⟩ := qQ (by omega : 0 < j)
  rw [VR, qA (by omega : (i : Int) < (l.length : Int)), qi, qd ⟨by omega, by omega⟩, qc, qF i (by omega), qq l i T7.dflt (by omega), qhU, ih (i + 1) j _ (by omega) (by omega)]
theorem qgU (k : Nat) (hk : 300 ≤ k) (l : List wO) (hl : l.length ≤ 128) (h : ∀ x ∈ l, SpotOk x) : qeI k l = some (qhU l 0, 0) := by
 unfold qeI
 rw [qaQ k hk, qgK k hk, qBq hl h, qb, qd rfl]
 exact qFu k l hl l.length 0 k 0 (by omega) (by omega)
theorem qgO (k : Nat) (hk : 301000 ≤ k) (l : List Ro) (web : Int × Int) (sp : List wO) (id : Int) : qd8 k l web sp id = some (We l web.1 web.2 sp id) := by
 have hl := qm3 (l := l) (W := web.1) (L := web.2) (id := id) (sp := sp)
 have ho := qGu (l := l) (W := web.1) (L := web.2) (id := id) (sp := sp)
 have hv : qev k (zz l web.1 web.2 sp id).1 = (qhU (zz l web.1 web.2 sp id).1 0, 0) := by
  unfold qev; rw [qgU k (by omega) _ hl ho]; rfl
 unfold qd8 We
 rw [qg4 k hk, qqx k hk, qb, qd rfl]
 by_cases h : (zz l web.1 web.2 sp id).2 = 0
 ·rw [show ((zz l web.1 web.2 sp id).2 != 0) = false by simp [h], qg, qm (fun h' : (zz l web.1 web.2 sp id).2 ≠ 0 => h' h), qgU k (by omega) _ hl ho, hv, qb, qd rfl]
 ·rw [bne_iff_ne.2 h, qd h]; rfl
theorem qqu (k : Nat) (hk : 301000 ≤ k) (l : List Ro) (web : Int × Int) (sp : List wO) (id : Int) : qbz k l web sp id = We l web.1 web.2 sp id := by
 unfold qbz; rw [qgO k hk]; rfl
theorem qGC {r : Rn} {t : List Rn} {x : Int} (h : x < r.2.1) : wb (r :: t) x = wh r x := by unfold wb; rw [qd h]
theorem qGp {r : Rn} {t : List Rn} {x : Int} (h : ¬ x < r.2.1) : wb (r :: t) x = wb t (x - r.2.1) := by rw [wb, qm h]
theorem qMF {r : Rn} (g : good r) {z : Int} (h0 : lo r ≤ z) (h1 : z ≤ Go.AM.hi r) : ∃ x, 0 ≤ x ∧ x < r.2.1 ∧ wh r x = z := by
 unfold lo at h0; unfold Go.AM.hi at h1; unfold wh
 cases e : r.2.2
 ·rw [e] at h0 h1
  simp only [qG, if_false] at h0 h1 ⊢
  exact ⟨z - r.1, by omega, by omega, by omega⟩
 ·rw [e] at h0 h1
  simp only [if_true] at h0 h1 ⊢
  exact ⟨r.1 - z, by omega, by omega, by omega⟩
theorem qrI : ∀ {m : List Rn} {z : Int}, goods m → (∃ r ∈ m, lo r ≤ z ∧ z ≤ Go.AM.hi r) → ∃ x, 0 ≤ x ∧ x < qv m ∧ wb m x = z
 | [], _, _, ⟨r, hr, _⟩ => by simp at hr
 | r :: t, z, ⟨g1, g2⟩, ⟨y, hy, h0, h1⟩ => by
  have hl := zf g2
  have h1' := g1.1
  rcases qK.1 hy with e | hy
  ·subst e
   obtain ⟨x, a, b, c⟩ := qMF g1 h0 h1
   exact ⟨x, a, by rw [qv]; omega, by rw [qGC b, c]⟩
  ·obtain ⟨x, a, b, c⟩ := qrI g2 ⟨y, hy, h0, h1⟩
   exact ⟨r.2.1 + x, by omega, by rw [qv]; omega, by rw [qGp (by omega), show r.2.1 + x - r.2.1 = x by omega, c]⟩
theorem qKK {m : List Rn} (hg : goods m) {z : Int} : X2 m z = true ↔ ∃ x, 0 ≤ x ∧ x < qv m ∧ wb m x = z := by
 constructor
 ·intro h; exact qrI hg (qjI.1 h)
 ·rintro ⟨x, h0, h1, e⟩
  obtain ⟨r, hr, a, b⟩ := qhz hg h0 h1
  subst e; exact qNR hr a b
theorem qJw {l : List Sp} (h : In 0 17179869184 l) (x : Int) : Q5 (nf l) x = Q5 l x := by
 rw [Bool.eq_iff_iff, VN, VN, qrX h]
theorem qKR {l : List Ro} {W L id : Int} (h : (qV l W L id).2 = 0) : Kno l W L id := by
 refine Xr.1 ?_
 unfold qV at h
 by_cases h2 : Qi l W L id = 0
 ·exact h2
 ·rw [qd h2] at h; exact absurd h h2
theorem qK6 {l : List Ro} {W L id : Int} (reg : Reg l W L) (kn : id = 0 ∨ ∃ q, look l id = some q) : 1 ≤ (wn l W L id).1 := by
 have hw := reg.w
 unfold wn
 rcases kn with h | ⟨r, e⟩
 ·rw [qd h]; show 1 ≤ W; omega
 ·by_cases h0 : id = 0
  ·rw [qd h0]; show 1 ≤ W; omega
  ·rw [qm h0, e]
   have := (reg.wl r (zr e).1).w0
   show 1 ≤ r.2.2.2.1; omega
end Go.AM
namespace Go.AM
open Go Go.Proofs
noncomputable section
def qkD (r : T22.T × Int) : AV := .tup [.agg (qy (qr T22 r.1)), ri r.2]
abbrev qCu (a : T24.T) (b : Int) (r : T22.T × Int) : Prop := CC Tryz.prog 52 [.agg (qy (qr T24 a)), ri b] [] (qkD r) (nb r)
def qyZ := fun y0 y1 y2 y3 y4 y5 y6 y7 => (⟨qI 156 [(1, ri y0), (2, .ptr 1000000 0 0), (4, .ptr 1000001 0 0), (6, .ptr 1000002 0 0), (9, ro T21 y1), (11, ri y2), (12, rb y3), (13, ri y4)], [(1000000, 0, .var 108 (qy (qr T24 y5))), (1000001, 0, .var 103 (qy (qr T22 y6))), (1000002, 0, .var 45 (qy (qr T4 y7)))]⟩ : St)
def z7 (k : Nat) : Nat → Int → List T21.T → Int → Bool → Int → T24.T → T22.T → T4.T → Option (T22.T × Int)
 | 0, _, _, _, _, _, _, _, _ => none
 | j + 1, y0, y1, y2, y3, y4, y5, y6, y7 =>
 bif y4 < y1.length then
 if (0 ≤ y4) ∧ (y4 < y1.length) ∧ ((qc0 k y5.2.2.1 (y1.getD y4.toNat T21.dflt)).isSome) then
 bif (decide ((Y2 k y5.2.2.1 (y1.getD y4.toNat T21.dflt)).1 < (0 : Int)) || decide (y4 > 0) && (Y2 k y5.2.2.1 (y1.getD y4.toNat T21.dflt)).1 != y2) then
 some ((0, (false, (0, (0, (0, 0))))), 22)
 else
 z7 k j y0 y1 ((Y2 k y5.2.2.1 (y1.getD y4.toNat T21.dflt)).1) (y3 && (Y2 k y5.2.2.1 (y1.getD y4.toNat T21.dflt)).2.1) (qa .i64 (y4 + 1)) y5 y6 y7
 else none
 else
 bif (decide (y2 < 0) || decide (y2 ≥ (↑ (qe y5.2.2.2.2.1) : Int))) then
 some ((0, (false, (0, (0, (0, 0))))), 22)
 else
 if ((qaj k y7.2.2.2).isSome) ∧ (0 ≤ y2) ∧ (y2 < (↑ (qe y5.2.2.2.2.1) : Int)) ∧ ((qeT k y5.2.2.2.2.2 (Vx k y7.2.2.2) (qM y5.2.2.2.2.1 y2.toNat T0.dflt).2.2.2.2.2.1).isSome) then
 bif ((qb3 k y5.2.2.2.2.2 (Vx k y7.2.2.2) (qM y5.2.2.2.2.1 y2.toNat T0.dflt).2.2.2.2.2.1).2 != (0 : Int)) then
 some ((0, (false, (0, (0, (0, 0))))), (qb3 k y5.2.2.2.2.2 (Vx k y7.2.2.2) (qM y5.2.2.2.2.1 y2.toNat T0.dflt).2.2.2.2.2.1).2)
 else
 if ((qd8 k y5.1 y5.2.1 y5.2.2.2.1 y0).isSome) then
 bif ((qbz k y5.1 y5.2.1 y5.2.2.2.1 y0).2 != (0 : Int)) then
 some ((0, (false, (0, (0, (0, 0))))), (qbz k y5.1 y5.2.1 y5.2.2.2.1 y0).2)
 else
 some ((y2, (y3, (y7.2.1, ((qb3 k y5.2.2.2.2.2 (Vx k y7.2.2.2) (qM y5.2.2.2.2.1 y2.toNat T0.dflt).2.2.2.2.2.1).1, (qa .i64 ((↑ (qe y7.2.2.2) : Int) - 1), (qbz k y5.1 y5.2.1 y5.2.2.2.1 y0).1))))), 0)
 else none
 else none
def qb8 (k : Nat) (a : T24.T) (b : Int) : Option (T22.T × Int) :=
 if ((wQ k a.1 a.2.1 b).isSome) then
 bif ((vN k a.1 a.2.1 b).2 != (0 : Int)) then
 some ((0, (false, (0, (0, (0, 0))))), (vN k a.1 a.2.1 b).2)
 else
 bif (b == 0) then
 some ((0, (false, (0, (0, (0, 0))))), 7)
 else
 if ((qgE k a.2.2.1).isSome) then
 bif (qdh k a.2.2.1 != (0 : Int)) then
 some ((0, (false, (0, (0, (0, 0))))), qdh k a.2.2.1)
 else
 bif (↑ (qe a.2.2.1) : Int) > (0 : Int) then
 if ((0 : Int) ≤ qa .i64 ((↑ (qe a.2.2.1) : Int) - (1 : Int))) ∧ (qa .i64 ((↑ (qe a.2.2.1) : Int) - (1 : Int)) < (↑ (qe a.2.2.1) : Int)) then
 bif ((qM a.2.2.1 (qa .i64 ((↑ (qe a.2.2.1) : Int) - (1 : Int))).toNat T2.dflt).2.1 != a.2.1.2) then
 some ((0, (false, (0, (0, (0, 0))))), 21)
 else
 if ((qcE k (vN k a.1 a.2.1 b).1.2.2.2).isSome) then
 z7 k k b ((XY k (vN k a.1 a.2.1 b).1.2.2.2).1) (-1) true 0 a (0, (false, (0, (0, (0, 0))))) ((vN k a.1 a.2.1 b).1)
 else none
 else none
 else
 bif ((0 : Int) != a.2.1.2) then
 some ((0, (false, (0, (0, (0, 0))))), 21)
 else
 if ((qcE k (vN k a.1 a.2.1 b).1.2.2.2).isSome) then
 z7 k k b ((XY k (vN k a.1 a.2.1 b).1.2.2.2).1) (-1) true 0 a (0, (false, (0, (0, (0, 0))))) ((vN k a.1 a.2.1 b).1)
 else none
 else none
 else none
def Q4 := fun k a b => (qb8 k a b).getD ((T22).dflt, 0)
def qKM (k : Nat) : Ke := (52, mo 2, fun
 | [.agg d, .r (.v (.int .i64 b))], [] => (qW [] T24 d).bind fun a => some (.one (qkD (Q4 k a b), []))
 | _, _ => none)
def qE7 (k : Nat) : Calld := qD [qsE k, qom k, qEo k, qoa k, qQI k, qM4 k, qKZ k]
def qxn : List (Nat × List Cmd) := [(18, [.autoB [1, 2, 4, 6, 9, 11, 12, 13] false []])]
abbrev qRr := EP Tryz.f52 0 qkD nb
theorem qo3 (k) : ∀ j, (∀ y0 y1 y2 y3 y4 y5 y6 y7, qRr 18 (qyZ y0 y1 y2 y3 y4 y5 y6 y7) (z7 k j y0 y1 y2 y3 y4 y5 y6 y7))
 | 0 => by intros; exact e0
 | j + 1 => by
  have ih := @qo3 k j
  ·intro y0 y1 y2 y3 y4 y5 y6 y7 r h
   rw [z7] at h
   exact go (qE7 k) [] qxn [.autoB [4, 5] true []] (gS h (fun h => gN h (fun q => qf q.1 (qf q.2.1 (qf (qO4 q.2.2) qR))) fun h => qB h fun h => gC h 18 (ih _ _ _ _ _ _ _ _ _)) fun h => qB h fun h => gN h (fun q => qf (qnR q.1) (qf q.2.1 (qf q.2.2.1 (qf (qKC q.2.2.2) qR)))) fun h => qB h fun h => qu h qKy fun h => qB h fun h => gL h)
theorem qJ4 (k a b r) (h : qb8 k a b = some r): qCu a b r := qN Tryz.f52 (go (qE7 k) [] qxn [.autoB [4, 5] true []] (qu h qwe fun h => qB h fun h => qB h fun h => qu h qBb fun h => qB h fun h => gS h (fun h => qS h fun h => qB h fun h => qu h qsG fun h => gC h 18 ((qo3 k k) _ _ _ _ _ _ _ _ _)) fun h => qB h fun h => qu h qsG fun h => gC h 18 ((qo3 k k) _ _ _ _ _ _ _ _ _)))
theorem qK7 {k a b} (h : (qb8 k a b).isSome): qCu a b (Q4 k a b) := qJ h (qJ4 k a b)
end
theorem qOs {l : List Ro} {W L : Int} (reg : Reg l W L) : ∀ (n : Nat) (p : Pt), Anc l n p.1 → On l W L p → On l W L (qfn l n p) ∧ (qfn l n p).1 = 0 := by
 intro n
 induction n with
 | zero =>
  intro p ha op
  by_cases h0 : p.1 = 0
  ·rw [qhM h0]; exact ⟨op, h0⟩
  ·obtain ⟨_, _, e, _⟩ := ha.cases h0
   cases e
 | succ n ih =>
  intro p ha op
  by_cases h0 : p.1 = 0
  ·rw [qhM h0]; exact ⟨op, h0⟩
  ·obtain ⟨k, r, ek, el, a⟩ := ha.cases h0
   cases ek
   have ro := reg.ok.ro r (zr el).1
   rw [qpp h0 el]
   exact ih (qak r p) a (op.place h0 el ro)
theorem qEs {l : List Ro} {W L id : Int} (h : (qV l W L id).2 = 0) {x : Int} (x0 : 0 ≤ x) (x1 : x < qv (qV l W L id).1.2.2.2) : 0 ≤ wb (qV l W L id).1.2.2.2 x ∧ wb (qV l W L id).1.2.2.2 x < L := by
 obtain ⟨reg, ci⟩ := qcv h
 have kn := (qKR h).kn
 have hw := qK6 reg kn
 rw [ci.len] at x1
 have on : On l W L (id, 0, x) := ⟨Wg 0, by show 0 < (wn l W L id).1; omega, x0, x1⟩
 obtain ⟨o2, _⟩ := qOs reg 512 (id, 0, x) (reg.anc kn) on
 rw [ci.web _ rfl on] at o2
 have b0 := o2.b0
 have b1 := o2.b1
 have hs : wn l W L 0 = (W, L) := by unfold wn; rw [qd rfl]
 rw [hs] at b1
 exact ⟨b0, b1⟩
theorem qpt {l : List Ro} {W L id : Int} (h : (qV l W L id).2 = 0) : (nf ((qV l W L id).1.2.2.2.map vX)).length ≤ 256 ∧ ∀ s ∈ nf ((qV l W L id).1.2.2.2.map vX), 0 ≤ s.1 ∧ s.1 < s.2 ∧ s.2 ≤ 17179869184 ∧ s.2 ≤ L := by
 obtain ⟨reg, ci⟩ := qcv h
 have hi := ql7 ci.chk.goods
 have hn := qj5 hi
 refine ⟨?_, fun s hs => ?_⟩
 ·have h1 := qbE hi
  rw [List.length_map] at h1
  have := ci.chk.len
  omega
 ·have h1 := (qdq hi).mem s hs
  have h2 := hn.pos s hs
  have h3 : X2 (qV l W L id).1.2.2.2 (s.2 - 1) = true := by
   show Q5 _ _ = true
   rw [← qJw hi, VN, Qa]
   exact ⟨s, hs, by omega, by omega⟩
  obtain ⟨x, x0, x1, e⟩ := (qKK ci.chk.goods).1 h3
  have := qEs h x0 x1
  exact ⟨h1.1, h2, h1.2.2, by omega⟩
abbrev Fac := Int × Bool × Int × Int × Int × Int
abbrev Grd := T0.T
def qhh (e : Int) : Fac × Int := ((0, false, 0, 0, 0, 0), e)
def qgo (gr : List Grd) (g : Int) : Int := (gr.getD g.toNat T0.dflt).2.2.2.2.2.1
def qdI (R : List Ro) (W L : Int) (sp : List wO) (gr : List Grd) (core id : Int) (c : Ch) (g : Int) (a : Bool) : Fac × Int :=
 if g < 0 ∨ g ≥ gr.length then qhh 22
 else if (Yu core (qv c.2.2.2) (qgo gr g)).2 ≠ 0 then qhh (Yu core (qv c.2.2.2) (qgo gr g)).2
 else if (We R W L sp id).2 ≠ 0 then qhh (We R W L sp id).2
 else ((g, a, c.2.1, (Yu core (qv c.2.2.2) (qgo gr g)).1, qa .i64 ((c.2.2.2.length : Int) - 1), (We R W L sp id).1), 0)
def gpS (secs : List wE) (c : Ch) : Int × Bool := Qs (-1) true true (Zb secs (nf (c.2.2.2.map vX)))
def Yn (R : List Ro) (W L : Int) (secs : List wE) (sp : List wO) (gr : List Grd) (core id : Int) : Fac × Int :=
 if (qV R W L id).2 ≠ 0 then qhh (qV R W L id).2
 else if id = 0 then qhh 7
 else if vt secs ≠ 0 then qhh (vt secs)
 else if wT secs ≠ L then qhh 21
 else qdI R W L sp gr core id (qV R W L id).1 (gpS secs (qV R W L id).1).1 (gpS secs (qV R W L id).1).2
theorem qsB {m : List Rn} (hc : Chk m) : Vm m = (nf (m.map vX), 0) := by
 unfold Vm
 rw [qm (fun h : chk m ≠ 0 => h (wW.2 hc))]
theorem qbS (k : Nat) (hk : 301000 ≤ k) (r : T28.T) (id : Int) : qb4 k r id = some (Yn r.1 r.2.1.1 r.2.1.2 r.2.2.1 r.2.2.2.1 r.2.2.2.2.1 r.2.2.2.2.2 id) := by
 unfold qb4 Yn
 rw [qiD k (by omega), qpw k (by omega), qb, qd rfl]
 by_cases h1 : (qV r.1 r.2.1.1 r.2.1.2 id).2 = 0
 ·obtain ⟨reg, ci⟩ := qcv h1
  obtain ⟨cl, cs⟩ := qpt h1
  rw [show ((qV r.1 r.2.1.1 r.2.1.2 id).2 != 0) = false by rw [h1]; rfl, qg, qm (fun h : (qV r.1 r.2.1.1 r.2.1.2 id).2 ≠ 0 => h h1)]
  by_cases h2 : id = 0
  ·rw [qd h2, show (id == 0) = true from beq_iff_eq.2 h2]; rfl
  ·rw [qm h2, show (id == 0) = false from beq_eq_false_iff_ne.2 h2, qg, qb0 k (by omega), qhA k (by omega), qb, qd rfl]
   by_cases h3 : vt r.2.2.1 = 0
   ·have hl := (Zw h3).1
    rw [show (vt r.2.2.1 != 0) = false by rw [h3]; rfl, qg, qm (fun h : vt r.2.2.1 ≠ 0 => h h3), qER k r hl, qQn k r hl, qb, qd rfl]
    by_cases h4 : wT r.2.2.1 = r.2.1.2
    ·have hs : ∀ s ∈ nf ((qV r.1 r.2.1.1 r.2.1.2 id).1.2.2.2.map vX), 0 ≤ s.1 ∧ s.1 < s.2 ∧ s.2 ≤ 17179869184 ∧ s.2 ≤ wT r.2.2.1 := fun s hs => by
      obtain ⟨a, b, c, d⟩ := cs s hs
      exact ⟨a, b, c, by omega⟩
     rw [show (wT r.2.2.1 == r.2.1.2) = true from beq_iff_eq.2 h4, vB, qg, qm (fun h : wT r.2.2.1 ≠ r.2.1.2 => h h4), qdX k (by omega), qkB k (by omega), qsB ci.chk, qb, qd rfl, bne_self_eq_false, qg]
     dsimp only
     rw [qvw k (by omega) r h3 _ cl hs, qL1 k (by omega) r h3 _ cl hs, qb, qd rfl]
     show _ = some (qdI _ _ _ _ _ _ _ _ (gpS r.2.2.1 (qV r.1 r.2.1.1 r.2.1.2 id).1).1 (gpS r.2.2.1 (qV r.1 r.2.1.1 r.2.1.2 id).1).2)
     rw [show Qs (-1) true true (Zb r.2.2.1 (nf ((qV r.1 r.2.1.1 r.2.1.2 id).1.2.2.2.map vX))) = gpS r.2.2.1 (qV r.1 r.2.1.1 r.2.1.2 id).1 from rfl]
     generalize gpS r.2.2.1 (qV r.1 r.2.1.1 r.2.1.2 id).1 = gp
     unfold qdI
     by_cases h5 : gp.1 < 0 ∨ gp.1 ≥ (qe r.2.2.2.2.1 : Int)
     ·rw [qd h5, show (decide (gp.1 < 0) || decide (gp.1 ≥ (qe r.2.2.2.2.1 : Int))) = true by rw [qJr, decide_eq_true_iff, decide_eq_true_iff]; exact h5]; rfl
     ·rw [qm h5, qx (fun h => h5 (.inl h)), qx (fun h => h5 (.inr h)), Bool.or_self, qg, qbY k (by omega) _ ci.chk, qhn k (by omega) _ ci.chk, qpx k (by omega), qzR k (by omega), qb, qd rfl, qd ⟨by omega, by omega, rfl⟩, qcO k (by omega), qml k (by omega), qb, qd rfl]
      dsimp only
      rw [show (qM r.2.2.2.2.1 gp.1.toNat T0.dflt).2.2.2.2.2.1 = qgo r.2.2.2.2.1 gp.1 from rfl]
      by_cases h6 : (Yu r.2.2.2.2.2 (qv (qV r.1 r.2.1.1 r.2.1.2 id).1.2.2.2) (qgo r.2.2.2.2.1 gp.1)).2 = 0
      ·rw [qm (fun h => h h6), show ((Yu r.2.2.2.2.2 (qv (qV r.1 r.2.1.1 r.2.1.2 id).1.2.2.2) (qgo r.2.2.2.2.1 gp.1)).2 != 0) = false by rw [h6]; rfl, qg]
       by_cases h7 : (We r.1 r.2.1.1 r.2.1.2 r.2.2.2.1 id).2 = 0
       ·rw [qm (fun h => h h7), show ((We r.1 r.2.1.1 r.2.1.2 r.2.2.2.1 id).2 != 0) = false by rw [h7]; rfl, qg]
       ·rw [qd h7, bne_iff_ne.2 h7]; rfl
      ·rw [qd h6, bne_iff_ne.2 h6]; rfl
    ·rw [show (wT r.2.2.1 == r.2.1.2) = false from beq_eq_false_iff_ne.2 h4, qd h4]; rfl
   ·rw [qd h3, bne_iff_ne.2 h3]; rfl
 ·rw [qd h1, bne_iff_ne.2 h1]; rfl
theorem qlA (k : Nat) (hk : 301000 ≤ k) (r : T28.T) (id : Int) : Qd k r id = Yn r.1 r.2.1.1 r.2.1.2 r.2.2.1 r.2.2.2.1 r.2.2.2.2.1 r.2.2.2.2.2 id := by
 unfold Qd; rw [qbS k hk]; rfl
theorem qyz {p : List wE} {x : wE} {t : List wE} (e : p = x :: t) : grS p = if Zh x.2.2.2.1 t = true then x.2.2.2.1 else -1 := by
 subst e
 unfold grS
 rw [List.getD_cons_zero]
 show (if (x.2.2.2.1 == x.2.2.2.1 && Zh x.2.2.2.1 t) = true then _ else _) = _
 rw [beq_self_eq_true, ww]
theorem qKe {g : Int} {p : List wE} (hn : p ≠ []) (h : Zh g p = true) : grS p = g := by
 cases p with
 | nil => exact absurd rfl hn
 | cons x t =>
  obtain ⟨h1, h2⟩ := Bool.and_eq_true_iff.1 (show (x.2.2.2.1 == g && Zh g t) = true from h)
  have e : x.2.2.2.1 = g := by simpa using h1
  rw [qyz rfl, e, qd h2]
theorem qG1 {g : Int} {p : List wE} (hn : p ≠ []) (h : Zh g p = false) : grS p < 0 ∨ grS p ≠ g := by
 cases p with
 | nil => exact absurd rfl hn
 | cons x t =>
  rw [qyz rfl]
  by_cases e : Zh x.2.2.2.1 t = true
  ·rw [qd e]
   right
   intro he
   rw [he] at e
   have h : (x.2.2.2.1 == g && Zh g t) = false := h
   rw [he, beq_self_eq_true, e] at h
   cases h
  ·rw [qm e]; left; decide
def Xt (R : List Ro) (W L : Int) (secs : List wE) (sp : List wO) (gr : List Grd) (core : Int) : T24.T := (R, (W, L), secs, sp, gr, core)
theorem qkV (R : List Ro) (W L : Int) (sp : List wO) (gr : List Grd) (core id : Int) (c : Ch) {g : Int} (a : Bool) (h : g < 0) : qdI R W L sp gr core id c g a = qhh 22 := by
 unfold qdI; rw [qd (.inl h)]
theorem qEt (k : Nat) (hk : 301000 ≤ k) (R : List Ro) (W L : Int) (secs : List wE) (sp : List wO) (gr : List Grd) (core id : Int) (spans : List Sp) (c : Ch) (hc : Chk c.2.2.2) (g : Int) (a : Bool) (f0 : Fac) (j i : Nat) (hi : spans.length ≤ i) :
  z7 k (j + 1) id spans g a (i : Int) (Xt R W L secs sp gr core) f0 c = some (qdI R W L sp gr core id c g a) := by
 rw [z7, qx (by omega : ¬ (i : Int) < (spans.length : Int)), qg]
 unfold qdI Xt
 dsimp only
 by_cases h5 : g < 0 ∨ g ≥ (qe gr : Int)
 ·rw [qd h5, show (decide (g < 0) || decide (g ≥ (qe gr : Int))) = true by rw [qJr, decide_eq_true_iff, decide_eq_true_iff]; exact h5]; rfl
 ·rw [qm h5, qx (fun h => h5 (.inl h)), qx (fun h => h5 (.inr h)), Bool.or_self, qg, XQ k (by omega) _ hc, qbG k (by omega) _ hc, qkf k (by omega), quG k (by omega), qd ⟨rfl, by omega, by omega, rfl⟩, qgO k hk, qqu k hk, qb, qd rfl]
  dsimp only
  rw [show (qM gr g.toNat T0.dflt).2.2.2.2.2.1 = qgo gr g from rfl]
  by_cases h6 : (Yu core (qv c.2.2.2) (qgo gr g)).2 = 0
  ·rw [qm (fun h => h h6), show ((Yu core (qv c.2.2.2) (qgo gr g)).2 != 0) = false by rw [h6]; rfl, qg]
   by_cases h7 : (We R W L sp id).2 = 0
   ·rw [qm (fun h => h h7), show ((We R W L sp id).2 != 0) = false by rw [h7]; rfl, qg]
   ·rw [qd h7, bne_iff_ne.2 h7]; rfl
  ·rw [qd h6, bne_iff_ne.2 h6]; rfl
section
variable (k : Nat) (hk : 301000 ≤ k) (R : List Ro) (W L : Int) (secs : List wE) (hz : vt secs = 0) (sp : List wO) (gr : List Grd) (core id : Int) (spans : List Sp) (hl : spans.length ≤ 256) (hs : ∀ s ∈ spans, 0 ≤ s.1 ∧ s.1 < s.2 ∧ s.2 ≤ 17179869184 ∧ s.2 ≤ wT secs) (c : Ch) (hc : Chk c.2.2.2) (f0 : Fac)
include hk hz hl hs hc
theorem qyc : ∀ (d i j : Nat) (g : Int) (a : Bool), i + d = spans.length → d < j → 0 < i → 0 ≤ g → z7 k j id spans g a (i : Int) (Xt R W L secs sp gr core) f0 c = some (qdI R W L sp gr core id c (Qs g a false (Zb secs (spans.drop i))).1 (Qs g a false (Zb secs (spans.drop i))).2) := by
 intro d
 induction d with
 | zero =>
  intro i j g a hi hj h0 hg
  obtain ⟨j, rfl⟩ := qQ (by omega : 0 < j)
  rw [qEt k hk R W L secs sp gr core id spans c hc g a f0 j i (by omega), qh (by omega)]
  rfl
 | succ d ih =>
  intro i j g a hi hj h0 hg
  obtain ⟨j, rfl⟩ := qQ (by omega : 0 < j)
  obtain ⟨s0, s1, s2, s3⟩ := hs (spans.getD i T21.dflt) (w9 _ _ _ (by omega))
  have hne := qnJ hz s0 s1 s3
  have hgs : qc0 k (Xt R W L secs sp gr core).2.2.1 (spans.getD i T21.dflt) = _ := qaN k (by omega) hz s0 s1 s2 s3
  have hgv : Y2 k (Xt R W L secs sp gr core).2.2.1 (spans.getD i T21.dflt) = _ := qgS k (by omega) hz s0 s1 s2 s3
  rw [z7, qA (by omega : (i : Int) < (spans.length : Int)), qi, qc, hgs, hgv, qd ⟨by omega, by omega, rfl⟩, qF i (by omega), qq spans i T21.dflt (by omega), Zb, qA (by omega : (i : Int) > 0), ww]
  dsimp only
  generalize zN (spans.getD i T21.dflt) secs = P at *
  cases e : Zh g P
  ·rw [qkO _ P a e, qkV _ _ _ _ _ _ _ _ _ (by decide : (-1 : Int) < 0)]
   have : (decide (grS P < 0) || grS P != g) = true := by
    rw [qJr, decide_eq_true_iff, bne_iff_ne]; exact qG1 hne e
   rw [this]; rfl
  ·rw [qli _ P a e, qKe hne e, qx (by omega : ¬ g < 0), bne_self_eq_false, Bool.or_self, qg]
   exact ih (i + 1) j g (a && qf6 P) (by omega) (by omega) (by omega) hg
theorem qCs (j : Nat) (hj : 300 < j) : z7 k j id spans (-1) true 0 (Xt R W L secs sp gr core) f0 c = some (qdI R W L sp gr core id c (Qs (-1) true true (Zb secs spans)).1 (Qs (-1) true true (Zb secs spans)).2) := by
 obtain ⟨j, rfl⟩ := qQ (by omega : 0 < j)
 cases spans with
 | nil => exact qEt k hk R W L secs sp gr core id [] c hc (-1) true f0 j 0 (qT _)
 | cons s t =>
  have hl : t.length + 1 ≤ 256 := hl
  obtain ⟨s0, s1, s2, s3⟩ := hs s (by simp)
  have hne := qnJ hz s0 s1 s3
  have hgs : qc0 k (Xt R W L secs sp gr core).2.2.1 s = _ := qaN k (by omega) hz s0 s1 s2 s3
  have hgv : Y2 k (Xt R W L secs sp gr core).2.2.1 s = _ := qgS k (by omega) hz s0 s1 s2 s3
  have e0 : (s :: t).getD (qt 0) T21.dflt = s := rfl
  have hlen : ((s :: t).length : Int) = (t.length : Int) + 1 := by rw [wc]; omega
  rw [z7, qA (by omega : (0 : Int) < ((s :: t).length : Int)), qi, e0, hgs, hgv, qd ⟨Wg 0, by omega, rfl⟩, Zb, qx (by decide : ¬ (0 : Int) > 0), wD, Bool.or_false]
  dsimp only
  have ih := qyc k hk R W L secs hz sp gr core id (s :: t) (by rw [wc]; exact hl) hs c hc f0 t.length 1 j
  rw [show qa .i64 ((0 : Int) + 1) = ((1 : Nat) : Int) from rfl]
  obtain ⟨x, p, hp⟩ : ∃ x p, zN s secs = x :: p := by
   cases h : zN s secs with
   | nil => exact absurd h hne
   | cons x p => exact ⟨x, p, rfl⟩
  rw [hp, qyz rfl, qpk, Qs, vB, wD, qg]
  have hap : qf6 (x :: p) = (x.2.2.1 == 1 && qf6 p) := rfl
  cases e : Zh x.2.2.2.1 p
  ·rw [qm Bool.false_ne_true, qkO _ p _ e, qkV _ _ _ _ _ _ _ _ _ (by decide : (-1 : Int) < 0)]; rfl
  ·rw [qd rfl, qli _ p _ e]
   by_cases h : x.2.2.2.1 < 0
   ·rw [qA h, qi, qkV _ _ _ _ _ _ _ _ _ (qsp _ _ _ h)]; rfl
   ·rw [qx h, qg, hap, Bool.and_assoc]
    exact ih x.2.2.2.1 _ (by rw [wc]; omega) (by omega) (by decide) (by omega)
end
theorem qfj (k : Nat) (hk : 301000 ≤ k) (R : List Ro) (W L : Int) (secs : List wE) (sp : List wO) (gr : List Grd) (core id : Int) : qb8 k (Xt R W L secs sp gr core) id = some (Yn R W L secs sp gr core id) := by
 unfold qb8 Yn
 have e1 : (Xt R W L secs sp gr core).1 = R := rfl
 have e2 : (Xt R W L secs sp gr core).2.1 = (W, L) := rfl
 have e3 : (Xt R W L secs sp gr core).2.2.1 = secs := rfl
 rw [e1, e2, e3, qdU k hk, qkt k hk, qb, qd rfl]
 dsimp only
 by_cases h1 : (qV R W L id).2 = 0
 ·obtain ⟨reg, ci⟩ := qcv h1
  obtain ⟨cl, cs⟩ := qpt h1
  rw [show ((qV R W L id).2 != 0) = false by rw [h1]; rfl, qg, qm (fun h : (qV R W L id).2 ≠ 0 => h h1)]
  by_cases h2 : id = 0
  ·rw [qd h2, show (id == 0) = true from beq_iff_eq.2 h2]; rfl
  ·rw [qm h2, show (id == 0) = false from beq_eq_false_iff_ne.2 h2, qg, qaR k (by omega), qgY k (by omega), qb, qd rfl]
   by_cases h3 : vt secs = 0
   ·have hl := (Zw h3).1
    rw [show (vt secs != 0) = false by rw [h3]; rfl, qg, qm (fun h : vt secs ≠ 0 => h h3), qaK k (by omega), qg6 k (by omega), qsB ci.chk, qb, qd rfl]
    dsimp only
    have key : wT secs = L → z7 k k id (nf ((qV R W L id).1.2.2.2.map vX)) (-1) true 0 (Xt R W L secs sp gr core) (0, false, 0, 0, 0, 0) (qV R W L id).1 = some (qdI R W L sp gr core id (qV R W L id).1 (gpS secs (qV R W L id).1).1 (gpS secs (qV R W L id).1).2) := fun h4 =>
     qCs k hk R W L secs h3 sp gr core id _ cl (fun s hs => by
      obtain ⟨a, b, c, d⟩ := cs s hs
      exact ⟨a, b, c, by omega⟩) (qV R W L id).1 ci.chk (0, false, 0, 0, 0, 0) k (by omega)
    by_cases h : secs.length = 0
    ·have he : wT secs = 0 := by unfold wT; rw [qd h]
     rw [qx (by omega : ¬ (secs.length : Int) > 0), qg]
     by_cases h4 : wT secs = L
     ·rw [qm (fun h : wT secs ≠ L => h h4), show ((0 : Int) != L) = false from by rw [← h4, he]; rfl, qg]
      exact key h4
     ·rw [qd h4, show ((0 : Int) != L) = true from bne_iff_ne.2 (by rw [← he]; exact h4)]; rfl
    ·have he : wT secs = (secs.getD (secs.length - 1) T2.dflt).2.1 := by unfold wT; rw [qm h]
     rw [qA (by omega : (secs.length : Int) > 0), qi, qiZ hl h, qd ⟨by omega, by omega⟩, qc, ← he]
     by_cases h4 : wT secs = L
     ·rw [qm (fun h : wT secs ≠ L => h h4), show (wT secs != L) = false by rw [h4]; exact bne_self_eq_false _, qg]
      exact key h4
     ·rw [qd h4, bne_iff_ne.2 h4]; rfl
   ·rw [qd h3, bne_iff_ne.2 h3]; rfl
 ·rw [qd h1, bne_iff_ne.2 h1]; rfl
theorem qoM (k : Nat) (hk : 301000 ≤ k) (R : List Ro) (W L : Int) (secs : List wE) (sp : List wO) (gr : List Grd) (core id : Int) : Q4 k (Xt R W L secs sp gr core) id = Yn R W L secs sp gr core id := by
 unfold Q4; rw [qfj k hk]; rfl
end Go.AM
namespace Go.AM
open Go Go.Proofs
noncomputable section
def qla (r : List T18.T) : AV := ro T18 r
abbrev qEe (a : T17.T) (b : Int) (r : List T18.T) : Prop := CC Tryz.prog 49 [.agg (qy (qr T17 a)), ri b] [] (qla r) (nb r)
def qAw := fun y0 y1 y2 y3 y4 y5 => (⟨qI 161 [(1, ri y0), (2, .ptr 1000000 0 0), (5, .own 1000001 0), (6, .ptr 1000002 0 0), (7, ri y1), (8, ri y2)], [(1000000, 0, .var 36 (qy (qr T17 y3))), (1000001, 0, .row 54 T18 y4), (1000002, 0, .var 74 (qy (qr T9 y5)))]⟩ : St)
def qBy := fun y0 y1 y2 y3 y4 y5 => (⟨qI 161 [(1, ri y0), (2, .ptr 1000000 0 0), (5, .own 1000001 0), (6, .ptr 1000002 0 0), (7, ri y1), (8, ri y2)], [(1000000, 0, .var 36 (qy (qr T17 y3))), (1000001, 0, .row 54 T18 y4), (1000002, 0, .var 74 (qy (qr T9 y5)))]⟩ : St)
def qxN := fun y0 y1 y2 y3 y4 => (⟨qI 161 [(1, ri y0), (2, .ptr 1000000 0 0), (5, .own 1000001 0), (6, .ptr 1000002 0 0), (7, ri y1)], [(1000000, 0, .var 36 (qy (qr T17 y2))), (1000001, 0, .row 54 T18 y3), (1000002, 0, .var 74 (qy (qr T9 y4)))]⟩ : St)
def qyK := fun y0 y1 y2 y3 y4 y5 => (⟨qI 161 [(1, ri y0), (2, .ptr 1000000 0 0), (5, .own 1000001 0), (6, .ptr 1000002 0 0), (7, ri y1), (9, ri y2)], [(1000000, 0, .var 36 (qy (qr T17 y3))), (1000001, 0, .row 54 T18 y4), (1000002, 0, .var 74 (qy (qr T9 y5)))]⟩ : St)
def qxY := fun y0 y1 y2 y3 y4 y5 y6 y7 => (⟨qI 161 [(1, ri y0), (2, .ptr 1000000 0 0), (5, .own 1000001 0), (6, .ptr 1000002 0 0), (7, ri y1), (9, ri y2), (10, rb y3), (11, ri y4)], [(1000000, 0, .var 36 (qy (qr T17 y5))), (1000001, 0, .row 54 T18 y6), (1000002, 0, .var 74 (qy (qr T9 y7)))]⟩ : St)
def qx5 := fun y0 y1 y2 y3 => (⟨qI 161 [(5, .own 1000000 0), (6, .ptr 1000001 0 0), (7, ri y0), (13, ri y1)], [(1000000, 0, .row 54 T18 y2), (1000001, 0, .var 74 (qy (qr T9 y3)))]⟩ : St)
def qym := fun y0 y1 y2 y3 => (⟨qI 161 [(5, .own 1000000 0), (6, .ptr 1000001 0 0), (7, ri y0), (13, ri y1)], [(1000000, 0, .row 54 T18 y2), (1000001, 0, .var 74 (qy (qr T9 y3)))]⟩ : St)
mutual
def YQ (k : Nat) : Nat → Int → Int → Int → T17.T → List T18.T → T9.T → Option (List T18.T)
 | 0, _, _, _, _, _, _ => none
 | j + 1, y0, y1, y2, y3, y4, y5 =>
 bif (y2 == 0 && decide ((↑ (qe y5.2.1) : Int) > qa .i64 (y5.1.2.2.2.2.2.2.1 + y5.1.2.2.2.2.2.2.2.1))) then
 if ((y4.length + [((5 : Int), y1, (32 : Int))].length) * (24 : Nat) ≤ (140737488355328 : Nat)) then
 Yx k j y0 y1 y2 y3 (y4 ++ [(5, y1, 32)]) y5
 else none
 else
 Yx k j y0 y1 y2 y3 y4 y5
def Yx (k : Nat) : Nat → Int → Int → Int → T17.T → List T18.T → T9.T → Option (List T18.T)
 | 0, _, _, _, _, _, _ => none
 | j + 1, y0, y1, y2, y3, y4, y5 =>
 bif (y2 == 0 && y5.2.2.2 && decide ((↑ (qe y5.2.2.1) : Int) < qa .i64 (y5.1.2.2.2.2.2.2.1 - y5.1.2.2.2.2.2.2.2.2.1))) then
 if ((y4.length + [((5 : Int), y1, (29 : Int))].length) * (24 : Nat) ≤ (140737488355328 : Nat)) then
 Xn k j y0 y1 y3 (y4 ++ [(5, y1, 29)]) y5
 else none
 else
 Xn k j y0 y1 y3 y4 y5
def Xn (k : Nat) : Nat → Int → Int → T17.T → List T18.T → T9.T → Option (List T18.T)
 | 0, _, _, _, _, _ => none
 | j + 1, y0, y1, y2, y3, y4 =>
 vW k j y0 y1 0 y2 y3 y4
def vW (k : Nat) : Nat → Int → Int → Int → T17.T → List T18.T → T9.T → Option (List T18.T)
 | 0, _, _, _, _, _, _ => none
 | j + 1, y0, y1, y2, y3, y4, y5 =>
 bif y2 < (↑ (qe y5.2.1) : Int) then
 if (0 ≤ y2) ∧ (y2 < (↑ (qe y5.2.1) : Int)) ∧ ((Zz k y5.2.1 y2 (qM y5.2.1 y2.toNat I.dflt)).isSome) then
 Wr k j y0 y1 y2 (VD k y5.2.1 y2 (qM y5.2.1 y2.toNat I.dflt)) 0 y3 y4 y5
 else none
 else
 Wj k j y1 0 y4 y5
def Wr (k : Nat) : Nat → Int → Int → Int → Bool → Int → T17.T → List T18.T → T9.T → Option (List T18.T)
 | 0, _, _, _, _, _, _, _, _ => none
 | j + 1, y0, y1, y2, y3, y4, y5, y6, y7 =>
 bif y4 < y0 then
 if (0 ≤ y4) ∧ (y4 < (↑ (qe y5.2.2.2.2.2.2.2.2.2.2.2.2.2.2.2.1) : Int)) then
 bif y3 then
 if (y3 = true) then
 Wr k j y0 y1 y2 true (qa .i64 (y4 + 1)) y5 y6 y7
 else none
 else
 if (y3 = false) ∧ (0 ≤ y2) ∧ (y2 < (↑ (qe y7.2.1) : Int)) ∧ ((Zz k (qM y5.2.2.2.2.2.2.2.2.2.2.2.2.2.2.2.1 y4.toNat T9.dflt).2.1 (↑ (qe (qM y5.2.2.2.2.2.2.2.2.2.2.2.2.2.2.2.1 y4.toNat T9.dflt).2.1) : Int) (qM y7.2.1 y2.toNat I.dflt)).isSome) then
 Wr k j y0 y1 y2 (false || VD k (qM y5.2.2.2.2.2.2.2.2.2.2.2.2.2.2.2.1 y4.toNat T9.dflt).2.1 (↑ (qe (qM y5.2.2.2.2.2.2.2.2.2.2.2.2.2.2.2.1 y4.toNat T9.dflt).2.1) : Int) (qM y7.2.1 y2.toNat I.dflt)) (qa .i64 (y4 + 1)) y5 y6 y7
 else none
 else none
 else
 bif y3 then
 if ((y6.length + [((5 : Int), y1, (6 : Int))].length) * (24 : Nat) ≤ (140737488355328 : Nat)) then
 vW k j y0 y1 (qa .i64 (y2 + 1)) y5 (y6 ++ [(5, y1, 6)]) y7
 else none
 else
 vW k j y0 y1 (qa .i64 (y2 + 1)) y5 y6 y7
def Wj (k : Nat) : Nat → Int → Int → List T18.T → T9.T → Option (List T18.T)
 | 0, _, _, _, _ => none
 | j + 1, y0, y1, y2, y3 =>
 bif y1 < (↑ (qe y3.2.2.1) : Int) then
 if (0 ≤ y1) ∧ (y1 < (↑ (qe y3.2.2.1) : Int)) ∧ ((Zz k y3.2.1 (↑ (qe y3.2.1) : Int) (qM y3.2.2.1 y1.toNat I.dflt)).isSome) then
 bif (!VD k y3.2.1 (↑ (qe y3.2.1) : Int) (qM y3.2.2.1 y1.toNat I.dflt)) then
 if ((y2.length + [((5 : Int), y0, (7 : Int))].length) * (24 : Nat) ≤ (140737488355328 : Nat)) then
 Xh k j y0 y1 (y2 ++ [(5, y0, 7)]) y3
 else none
 else
 Xh k j y0 y1 y2 y3
 else none
 else
 some y2
def Xh (k : Nat) : Nat → Int → Int → List T18.T → T9.T → Option (List T18.T)
 | 0, _, _, _, _ => none
 | j + 1, y0, y1, y2, y3 =>
 if (0 ≤ y1) ∧ (y1 < (↑ (qe y3.2.2.1) : Int)) ∧ ((Zz k y3.2.2.1 y1 (qM y3.2.2.1 y1.toNat I.dflt)).isSome) then
 bif (VD k y3.2.2.1 y1 (qM y3.2.2.1 y1.toNat I.dflt)) then
 if ((y2.length + [((5 : Int), y0, (6 : Int))].length) * (24 : Nat) ≤ (140737488355328 : Nat)) then
 Wj k j y0 (qa .i64 (y1 + 1)) (y2 ++ [(5, y0, 6)]) y3
 else none
 else
 Wj k j y0 (qa .i64 (y1 + 1)) y2 y3
 else none
end
def qe5 (k : Nat) (a : T17.T) (b : Int) : Option (List T18.T) :=
 if (0 ≤ b) ∧ (b < (↑ (qe a.2.2.2.2.2.2.2.2.2.2.2.2.2.2.2.1) : Int)) then
 if ((qaI k (qM a.2.2.2.2.2.2.2.2.2.2.2.2.2.2.2.1 b.toNat T9.dflt).1).isSome) then
 bif (Zt k (qM a.2.2.2.2.2.2.2.2.2.2.2.2.2.2.2.1 b.toNat T9.dflt).1 != (0 : Int)) then
 if ([((5 : Int), (qM a.2.2.2.2.2.2.2.2.2.2.2.2.2.2.2.1 b.toNat T9.dflt).1.1, Zt k (qM a.2.2.2.2.2.2.2.2.2.2.2.2.2.2.2.1 b.toNat T9.dflt).1)].length * (24 : Nat) ≤ (140737488355328 : Nat)) then
 YQ k k b ((qM a.2.2.2.2.2.2.2.2.2.2.2.2.2.2.2.1 b.toNat T9.dflt).1.1) (Zt k (qM a.2.2.2.2.2.2.2.2.2.2.2.2.2.2.2.1 b.toNat T9.dflt).1) a ([(5, (qM a.2.2.2.2.2.2.2.2.2.2.2.2.2.2.2.1 b.toNat T9.dflt).1.1, Zt k (qM a.2.2.2.2.2.2.2.2.2.2.2.2.2.2.2.1 b.toNat T9.dflt).1)]) (qM a.2.2.2.2.2.2.2.2.2.2.2.2.2.2.2.1 b.toNat T9.dflt)
 else none
 else
 YQ k k b ((qM a.2.2.2.2.2.2.2.2.2.2.2.2.2.2.2.1 b.toNat T9.dflt).1.1) (Zt k (qM a.2.2.2.2.2.2.2.2.2.2.2.2.2.2.2.1 b.toNat T9.dflt).1) a ([]) (qM a.2.2.2.2.2.2.2.2.2.2.2.2.2.2.2.1 b.toNat T9.dflt)
 else none
 else none
def qeq := fun k a b => (qe5 k a b).getD []
def qKN (k : Nat) : Ke := (49, mo 2, fun
 | [.agg d, .r (.v (.int .i64 b))], [] => (qW [] T17 d).bind fun a => some (.one (qla (qeq k a b), []))
 | _, _ => none)
def qwn : List (Nat × List Cmd) := [(7, [.row 5 54 T18, .autoB [1, 2, 5, 6, 7, 8] false []]), (9, [.autoB [1, 2, 5, 6, 7, 8] false []]), (11, [.autoB [1, 2, 5, 6, 7] false []]), (12, [.row 5 54 T18, .autoB [1, 2, 5, 6, 7, 9] false []]), (16, [.autoB [1, 2, 5, 6, 7, 9, 10, 11] false []]), (23, [.autoB [5, 6, 7, 13] false []]), (27, [.autoB [5, 6, 7, 13] false []])]
abbrev qb5 := EP Tryz.f49 0 qla nb
theorem qoi (k) : ∀ j, (∀ {y0 y1 y2 y3 y4 y5}, qb5 7 (qAw y0 y1 y2 y3 y4 y5) (YQ k j y0 y1 y2 y3 y4 y5)) ∧ (∀ {y0 y1 y2 y3 y4 y5}, qb5 9 (qBy y0 y1 y2 y3 y4 y5) (Yx k j y0 y1 y2 y3 y4 y5)) ∧ (∀ {y0 y1 y2 y3 y4}, qb5 11 (qxN y0 y1 y2 y3 y4) (Xn k j y0 y1 y2 y3 y4)) ∧ (∀ {y0 y1 y2 y3 y4 y5}, qb5 12 (qyK y0 y1 y2 y3 y4 y5) (vW k j y0 y1 y2 y3 y4 y5)) ∧ (∀ {y0 y1 y2 y3 y4 y5 y6 y7}, qb5 16 (qxY y0 y1 y2 y3 y4 y5 y6 y7) (Wr k j y0 y1 y2 y3 y4 y5 y6 y7)) ∧ (∀ {y0 y1 y2 y3}, qb5 23 (qx5 y0 y1 y2 y3) (Wj k j y0 y1 y2 y3)) ∧ (∀ {y0 y1 y2 y3}, qb5 27 (qym y0 y1 y2 y3) (Xh k j y0 y1 y2 y3))
 | 0 => by and_intros <;> intros <;> exact e0
 | j + 1 => by
  have ih := @qoi k j
  have g := @go (qD [qjL k, qjy k]) [7, 9, 11, 27] qwn [.frz 4 false (RTy.list T18), .autoB [4] true []]
  refine ⟨?_, ?_, ?_, ?_, ?_, ?_, ?_⟩
  ·intro y0 y1 y2 y3 y4 y5 r h
   rw [YQ] at h
   exact g (gS h (fun h => qu h id fun h => gD h 9 ih.2.1) fun h => gD h 9 ih.2.1)
  ·intro y0 y1 y2 y3 y4 y5 r h
   rw [Yx] at h
   exact g (gS h (fun h => qu h id fun h => gD h 11 ih.2.2.1) fun h => gD h 11 ih.2.2.1)
  ·intro y0 y1 y2 y3 y4 r h
   rw [Xn] at h
   exact g (gD h 12 ih.2.2.2.1)
  ·intro y0 y1 y2 y3 y4 y5 r h
   rw [vW] at h
   exact g (gS h (fun h => gN h (fun q => qf q.1 (qf q.2.1 (qf (qfc q.2.2) qR))) fun h => gD h 16 ih.2.2.2.2.1) fun h => gD h 23 ih.2.2.2.2.2.1)
  ·intro y0 y1 y2 y3 y4 y5 y6 y7 r h
   rw [Wr] at h
   exact g (gS h (fun h => qS h fun h => gS h (fun h => qu h id fun h => gD h 16 ih.2.2.2.2.1) fun h => gN h (fun q => qf q.1 (qf q.2.1 (qf q.2.2.1 (qf (qfc q.2.2.2) qR)))) fun h => gD h 16 ih.2.2.2.2.1) fun h => gS h (fun h => qu h id fun h => gD h 12 ih.2.2.2.1) fun h => gD h 12 ih.2.2.2.1)
  ·intro y0 y1 y2 y3 r h
   rw [Wj] at h
   exact g (gS h (fun h => gN h (fun q => qf q.1 (qf q.2.1 (qf (qfc q.2.2) qR))) fun h => gS h (fun h => qu h id fun h => gD h 27 ih.2.2.2.2.2.2) fun h => gD h 27 ih.2.2.2.2.2.2) fun h => gL h)
  ·intro y0 y1 y2 y3 r h
   rw [Xh] at h
   exact g (gN h (fun q => qf q.1 (qf q.2.1 (qf (qfc q.2.2) qR))) fun h => gS h (fun h => qu h id fun h => gD h 23 ih.2.2.2.2.2.1) fun h => gD h 23 ih.2.2.2.2.2.1)
theorem qJt (k a b r) (h : qe5 k a b = some r): qEe a b r := qN Tryz.f49 (go (qD [qjL k, qjy k]) [7, 9, 11, 27] qwn [.frz 4 false (RTy.list T18), .autoB [4] true []] (qS h fun h => qu h qu9 fun h => gS h (fun h => qu h id fun h => gD h 7 (qoi k k).1) fun h => gD h 7 (qoi k k).1))
theorem qJC {k a b} (h : (qe5 k a b).isSome): qEe a b (qeq k a b) := qJ h (qJt k a b)
abbrev qCC (a : T17.T) (b : Int) (r : Int) : Prop := CC Tryz.prog 51 [.agg (qy (qr T17 a)), ri b] [] (ri r) (nb r)
def qET := fun y0 y1 y2 => (⟨qI 26 [(1, ri y0), (2, .ptr 1000000 0 0), (5, ri y1)], [(1000000, 0, .var 36 (qy (qr T17 y2)))]⟩ : St)
def V0 (k : Nat) : Nat → Int → Int → T17.T → Option Int
 | 0, _, _, _ => none
 | j + 1, y0, y1, y2 =>
 bif y1 < (↑ (qe y2.2.2.2.2.2.2.2.2.2.2.2.2.2.2.2.1) : Int) then
 if (0 ≤ y1) ∧ (y1 < (↑ (qe y2.2.2.2.2.2.2.2.2.2.2.2.2.2.2.2.1) : Int)) then
 if ((Zz k (qM y2.2.2.2.2.2.2.2.2.2.2.2.2.2.2.2.1 y1.toNat T9.dflt).2.2.1 (↑ (qe (qM y2.2.2.2.2.2.2.2.2.2.2.2.2.2.2.2.1 y1.toNat T9.dflt).2.2.1) : Int) y0).isSome) then
 bif (VD k (qM y2.2.2.2.2.2.2.2.2.2.2.2.2.2.2.2.1 y1.toNat T9.dflt).2.2.1 (↑ (qe (qM y2.2.2.2.2.2.2.2.2.2.2.2.2.2.2.2.1 y1.toNat T9.dflt).2.2.1) : Int) y0) then
 some y1
 else
 V0 k j y0 (qa .i64 (y1 + 1)) y2
 else none
 else none
 else
 some (-1)
def qeZ (k : Nat) (a : T17.T) (b : Int) : Option Int :=
 V0 k k b 0 a
def ZD := fun k a b => (qeZ k a b).getD 0
def qLA (k : Nat) : Ke := (51, mo 2, fun
 | [.agg d, .r (.v (.int .i64 b))], [] => (qW [] T17 d).bind fun a => some (.one (ri (ZD k a b), []))
 | _, _ => none)
def qv9 : List (Nat × List Cmd) := [(2, [.autoB [1, 2, 5] false []])]
abbrev qNQ := EP Tryz.f51 0 ri nb
theorem qvN (k) : ∀ j, (∀ y0 y1 y2, qNQ 2 (qET y0 y1 y2) (V0 k j y0 y1 y2))
 | 0 => by intros; exact e0
 | j + 1 => by
  have ih := @qvN k j
  ·intro y0 y1 y2 r h
   rw [V0] at h
   exact go (qD [qjL k]) [] qv9 [.autoB [4] true []] (gS h (fun h => qS h fun h => qu h qfc fun h => qB h fun h => gC h 2 (ih _ _ _ _)) fun h => gL h)
theorem qMp (k a b r) (h : qeZ k a b = some r): qCC a b r := qN Tryz.f51 (go (qD [qjL k]) [] qv9 [.autoB [4] true []] (gC h 2 ((qvN k k) _ _ _ _)))
theorem qLr {k a b} (h : (qeZ k a b).isSome): qCC a b (ZD k a b) := qJ h (qMp k a b)
abbrev qs9 : Type := T23.T
def qtK (r : qs9) : AV := .agg (qy (qr T23 r))
abbrev qAh (a : T17.T) (r : qs9) : Prop := CC Tryz.prog 99 [.agg (qy (qr T17 a))] [] (qtK r) (nb r)
def qnd (k : Nat) (a : T17.T) : Option qs9 :=
 some (a.2.1, a.2.2.1)
def qnw := fun k a => (qnd k a).getD (T23).dflt
def qJv (k : Nat) : Ke := (99, mo 1, fun
 | [.agg b], [] => (qW [] T17 b).bind fun a => some (.one (qtK (qnw k a), []))
 | _, _ => none)
theorem qMG (k a r) (h : qnd k a = some r): qAh a r := qN Tryz.f99 (go (qD []) [] [] [.autoB [2] true []] (gL h))
theorem qLb {k a} (h : (qnd k a).isSome): qAh a (qnw k a) := qJ h (qMG k a)
abbrev qs1 : Type := T24.T
def qrQ (r : qs1) : AV := .agg (qy (qr T24 r))
abbrev qAd (a : T17.T) (r : qs1) : Prop := CC Tryz.prog 53 [.agg (qy (qr T17 a))] [] (qrQ r) (nb r)
def qir (k : Nat) (a : T17.T) : Option qs1 :=
 if ((qnd k a).isSome) then
 some (a.2.2.2.2.2.2.2.2.2.2.2.1, (((qnw k a).1, (qnw k a).2), (a.2.2.2.2.2.2.2.2.2.1, (a.2.2.2.2.2.2.2.2.2.2.2.2.2.2.1, (a.2.2.2.2.2.2.2.1, a.2.2.2.2.2.1)))))
 else none
def WQ := fun k a => (qir k a).getD (T24).dflt
def qK5 (k : Nat) : Ke := (53, mo 1, fun
 | [.agg b], [] => (qW [] T17 b).bind fun a => some (.one (qrQ (WQ k a), []))
 | _, _ => none)
theorem qLz (k a r) (h : qir k a = some r): qAd a r := qN Tryz.f53 (go (qD [qJv k]) [] [] [.frz 2 true T24, .autoB [2] true []] (qu h qLb fun h => gL h))
theorem qMP {k a} (h : (qir k a).isSome): qAd a (WQ k a) := qJ h (qLz k a)
abbrev qai : Type := List T18.T × Int
def qlr (r : qai) : AV := .tup [ro T18 r.1, ri r.2]
abbrev qAr (a : T17.T) (r : qai) : Prop := CC Tryz.prog 20 [.agg (qy (qr T17 a))] [] (qlr r) (nb r)
def qDb := fun y0 y1 y2 => (⟨qI 157 [(1, .ptr 1000000 0 0), (5, .own 1000001 0), (6, ri y0)], [(1000000, 0, .var 36 (qy (qr T17 y1))), (1000001, 0, .row 54 T18 y2)]⟩ : St)
def qyj := fun y0 y1 y2 => (⟨qI 157 [(1, .ptr 1000000 0 0), (5, .own 1000001 0), (7, ri y0)], [(1000000, 0, .var 36 (qy (qr T17 y1))), (1000001, 0, .row 54 T18 y2)]⟩ : St)
def qxQ := fun y0 y1 y2 y3 y4 => (⟨qI 157 [(1, .ptr 1000000 0 0), (5, .own 1000001 0), (7, ri y0), (8, ro I y1), (9, ri y2)], [(1000000, 0, .var 36 (qy (qr T17 y3))), (1000001, 0, .row 54 T18 y4)]⟩ : St)
def qzh := fun y0 y1 y2 => (⟨qI 157 [(1, .ptr 1000000 0 0), (5, .own 1000001 0), (13, ri y0)], [(1000000, 0, .var 36 (qy (qr T17 y1))), (1000001, 0, .row 54 T18 y2)]⟩ : St)
def qyS := fun y0 y1 y2 y3 y4 => (⟨qI 157 [(1, .ptr 1000000 0 0), (5, .own 1000001 0), (13, ri y0), (14, ro I y1), (15, ri y2)], [(1000000, 0, .var 36 (qy (qr T17 y3))), (1000001, 0, .row 54 T18 y4)]⟩ : St)
mutual
def VO (k : Nat) : Nat → Int → T17.T → List T18.T → Option qai
 | 0, _, _, _ => none
 | j + 1, y0, y1, y2 =>
 bif y0 < (↑ (qe y1.2.2.2.2.2.2.2.2.2.2.2.2.2.2.2.1) : Int) then
 if ((qe5 k y1 y0).isSome) ∧ ((y2.length + qe (qeq k y1 y0)) * (24 : Nat) ≤ (140737488355328 : Nat)) then
 VO k j (qa .i64 (y0 + 1)) y1 (y2 ++ qeq k y1 y0)
 else none
 else
 if ((qcu k y1.2.2.2.2.2.2.2.2.2.2.2.2.2.2.2.2.2.1).isSome) then
 bif (XG k y1.2.2.2.2.2.2.2.2.2.2.2.2.2.2.2.2.2.1 != (0 : Int)) then
 if ((y2.length + [((6 : Int), (0 : Int), XG k y1.2.2.2.2.2.2.2.2.2.2.2.2.2.2.2.2.2.1)].length) * (24 : Nat) ≤ (140737488355328 : Nat)) then
 some (y2 ++ [(6, 0, XG k y1.2.2.2.2.2.2.2.2.2.2.2.2.2.2.2.2.2.1)], 0)
 else none
 else
 vZ k j 0 y1 y2
 else none
def vZ (k : Nat) : Nat → Int → T17.T → List T18.T → Option qai
 | 0, _, _, _ => none
 | j + 1, y0, y1, y2 =>
 bif y0 < (↑ (qe y1.2.2.2.2.2.2.2.2.2.2.2.2.2.2.2.2.2.1) : Int) then
 if (0 ≤ y0) ∧ (y0 < (↑ (qe y1.2.2.2.2.2.2.2.2.2.2.2.2.2.2.2.2.2.1) : Int)) then
 z6 k j y0 ((qM y1.2.2.2.2.2.2.2.2.2.2.2.2.2.2.2.2.2.1 y0.toNat T11.dflt).2.2) 0 y1 y2
 else none
 else
 Wt k j 0 y1 y2
def z6 (k : Nat) : Nat → Int → List I.T → Int → T17.T → List T18.T → Option qai
 | 0, _, _, _, _, _ => none
 | j + 1, y0, y1, y2, y3, y4 =>
 bif y2 < y1.length then
 if (0 ≤ y2) ∧ (y2 < y1.length) ∧ ((qeZ k y3 (y1.getD y2.toNat I.dflt)).isSome) then
 bif ZD k y3 (y1.getD y2.toNat I.dflt) < (0 : Int) then
 if (0 ≤ y2) ∧ (y2 < y1.length) ∧ ((y4.length + [((6 : Int), y1.getD y2.toNat I.dflt, (1 : Int))].length) * (24 : Nat) ≤ (140737488355328 : Nat)) then
 z6 k j y0 y1 (qa .i64 (y2 + 1)) y3 (y4 ++ [(6, y1.getD y2.toNat I.dflt, 1)])
 else none
 else
 if ((qir k y3).isSome) ∧ (0 ≤ y2) ∧ (y2 < y1.length) ∧ ((qb8 k (WQ k y3) (y1.getD y2.toNat I.dflt)).isSome) then
 bif ((Q4 k (WQ k y3) (y1.getD y2.toNat I.dflt)).2 == (0 : Int)) then
 if ((0 : Int) ≤ ZD k y3 (y1.getD y2.toNat I.dflt)) ∧ (ZD k y3 (y1.getD y2.toNat I.dflt) < (↑ (qe y3.2.2.2.2.2.2.2.2.2.2.2.2.2.2.2.1) : Int)) ∧ (0 ≤ y2) ∧ (y2 < y1.length) ∧ ((qek k (qM y3.2.2.2.2.2.2.2.2.2.2.2.2.2.2.2.1 (qt (ZD k y3 (y1.getD y2.toNat I.dflt))) T9.dflt).1 (Q4 k (WQ k y3) (y1.getD y2.toNat I.dflt)).1 (y1.getD y2.toNat I.dflt) y3.2.2.2.2.2.2.2.2.2.2.2.2.2.2.2.2.1).isSome) then
 bif (qbT k (qM y3.2.2.2.2.2.2.2.2.2.2.2.2.2.2.2.1 (qt (ZD k y3 (y1.getD y2.toNat I.dflt))) T9.dflt).1 (Q4 k (WQ k y3) (y1.getD y2.toNat I.dflt)).1 (y1.getD y2.toNat I.dflt) y3.2.2.2.2.2.2.2.2.2.2.2.2.2.2.2.2.1 != (0 : Int)) then
 if (0 ≤ y2) ∧ (y2 < y1.length) ∧ ((y4.length + [((7 : Int), y1.getD y2.toNat I.dflt, qbT k (qM y3.2.2.2.2.2.2.2.2.2.2.2.2.2.2.2.1 (qt (ZD k y3 (y1.getD y2.toNat I.dflt))) T9.dflt).1 (Q4 k (WQ k y3) (y1.getD y2.toNat I.dflt)).1 (y1.getD y2.toNat I.dflt) y3.2.2.2.2.2.2.2.2.2.2.2.2.2.2.2.2.1)].length) * (24 : Nat) ≤ (140737488355328 : Nat)) then
 z6 k j y0 y1 (qa .i64 (y2 + 1)) y3 (y4 ++ [(7, y1.getD y2.toNat I.dflt, qbT k (qM y3.2.2.2.2.2.2.2.2.2.2.2.2.2.2.2.1 (qt (ZD k y3 (y1.getD y2.toNat I.dflt))) T9.dflt).1 (Q4 k (WQ k y3) (y1.getD y2.toNat I.dflt)).1 (y1.getD y2.toNat I.dflt) y3.2.2.2.2.2.2.2.2.2.2.2.2.2.2.2.2.1)])
 else none
 else
 z6 k j y0 y1 (qa .i64 (y2 + 1)) y3 y4
 else none
 else
 bif ((Q4 k (WQ k y3) (y1.getD y2.toNat I.dflt)).2 != (0 : Int)) then
 if (0 ≤ y2) ∧ (y2 < y1.length) ∧ ((y4.length + [((7 : Int), y1.getD y2.toNat I.dflt, (Q4 k (WQ k y3) (y1.getD y2.toNat I.dflt)).2)].length) * (24 : Nat) ≤ (140737488355328 : Nat)) then
 z6 k j y0 y1 (qa .i64 (y2 + 1)) y3 (y4 ++ [(7, y1.getD y2.toNat I.dflt, (Q4 k (WQ k y3) (y1.getD y2.toNat I.dflt)).2)])
 else none
 else
 z6 k j y0 y1 (qa .i64 (y2 + 1)) y3 y4
 else none
 else none
 else
 vZ k j (qa .i64 (y0 + 1)) y3 y4
def Wt (k : Nat) : Nat → Int → T17.T → List T18.T → Option qai
 | 0, _, _, _ => none
 | j + 1, y0, y1, y2 =>
 bif y0 < (↑ (qe y1.2.2.2.2.2.2.2.2.2.2.2.2.2.2.2.1) : Int) then
 if (0 ≤ y0) ∧ (y0 < (↑ (qe y1.2.2.2.2.2.2.2.2.2.2.2.2.2.2.2.1) : Int)) then
 Wh k j y0 ((qM y1.2.2.2.2.2.2.2.2.2.2.2.2.2.2.2.1 y0.toNat T9.dflt).2.2.1) 0 y1 y2
 else none
 else
 some (y2, 0)
def Wh (k : Nat) : Nat → Int → List I.T → Int → T17.T → List T18.T → Option qai
 | 0, _, _, _, _, _ => none
 | j + 1, y0, y1, y2, y3, y4 =>
 bif y2 < y1.length then
 if (0 ≤ y2) ∧ (y2 < y1.length) ∧ ((qbZ k y3.2.2.2.2.2.2.2.2.2.2.2.2.2.2.2.2.2.1 (y1.getD y2.toNat I.dflt)).isSome) then
 bif ((qd4 k y3.2.2.2.2.2.2.2.2.2.2.2.2.2.2.2.2.2.1 (y1.getD y2.toNat I.dflt)).2 != (0 : Int)) then
 if (0 ≤ y2) ∧ (y2 < y1.length) ∧ ((y4.length + [((6 : Int), y1.getD y2.toNat I.dflt, (2 : Int))].length) * (24 : Nat) ≤ (140737488355328 : Nat)) then
 Wh k j y0 y1 (qa .i64 (y2 + 1)) y3 (y4 ++ [(6, y1.getD y2.toNat I.dflt, 2)])
 else none
 else
 Wh k j y0 y1 (qa .i64 (y2 + 1)) y3 y4
 else none
 else
 Wt k j (qa .i64 (y0 + 1)) y3 y4
end
def qeR (k : Nat) (a : T17.T) : Option qai :=
 if ((qeK k a).isSome) then
 bif (qeF k a != (0 : Int)) then
 some ([], qeF k a)
 else
 VO k k 0 a ([])
 else none
def QH := fun k a => (qeR k a).getD ([], 0)
def qL9 (k : Nat) : Ke := (20, mo 1, fun
 | [.agg b], [] => (qW [] T17 b).bind fun a => some (.one (qlr (QH k a), []))
 | _, _ => none)
def qDe (k : Nat) : Calld := qD [qJU k, qKN k, qo9 k, qLA k, qKM k, qK5 k, qLa k, qJV k]
def qxu : List (Nat × List Cmd) := [(6, [.row 5 54 T18, .autoB [1, 5, 6] false []]), (13, [.autoB [1, 5, 7] false []]), (17, [.autoB [1, 5, 7, 8, 9] false []]), (28, [.autoB [1, 5, 13] false []]), (32, [.autoB [1, 5, 13, 14, 15] false []])]
abbrev qik := EP Tryz.f20 0 qlr nb
theorem qvV (k) : ∀ j, (∀ {y0 y1 y2}, qik 6 (qDb y0 y1 y2) (VO k j y0 y1 y2)) ∧ (∀ {y0 y1 y2}, qik 13 (qyj y0 y1 y2) (vZ k j y0 y1 y2)) ∧ (∀ {y0 y1 y2 y3 y4}, qik 17 (qxQ y0 y1 y2 y3 y4) (z6 k j y0 y1 y2 y3 y4)) ∧ (∀ {y0 y1 y2}, qik 28 (qzh y0 y1 y2) (Wt k j y0 y1 y2)) ∧ (∀ {y0 y1 y2 y3 y4}, qik 32 (qyS y0 y1 y2 y3 y4) (Wh k j y0 y1 y2 y3 y4))
 | 0 => by and_intros <;> intros <;> exact e0
 | j + 1 => by
  have ih := @qvV k j
  have g := @go (qDe k) [] qxu [.frz 2 false (RTy.list T18), .autoB [2, 3] true []]
  refine ⟨?_, ?_, ?_, ?_, ?_⟩
  ·intro y0 y1 y2 r h
   rw [VO] at h
   exact g (gS h (fun h => gN h (fun q => qf (qJC q.1) (qf q.2 qR)) fun h => gD h 6 ih.1) fun h => qu h qvU fun h => gS h (fun h => qu h id fun h => gL h) fun h => gD h 13 ih.2.1)
  ·intro y0 y1 y2 r h
   rw [vZ] at h
   exact g (gS h (fun h => qS h fun h => gD h 17 ih.2.2.1) fun h => gD h 28 ih.2.2.2.1)
  ·intro y0 y1 y2 y3 y4 r h
   rw [z6] at h
   exact g (gS h (fun h => gN h (fun q => qf q.1 (qf q.2.1 (qf (qLr q.2.2) qR))) fun h => gS h (fun h => gN h Xl fun h => gD h 17 ih.2.2.1) fun h => gN h (fun q => qf (qMP q.1) (qf q.2.1 (qf q.2.2.1 (qf (qK7 q.2.2.2) qR)))) fun h => gS h (fun h => gN h (fun q => qf q.1 (qf q.2.1 (qf q.2.2.1 (qf q.2.2.2.1 (qf (qLQ q.2.2.2.2) qR))))) fun h => gS h (fun h => gN h Xl fun h => gD h 17 ih.2.2.1) fun h => gD h 17 ih.2.2.1) fun h => gS h (fun h => gN h Xl fun h => gD h 17 ih.2.2.1) fun h => gD h 17 ih.2.2.1) fun h => gD h 13 ih.2.1)
  ·intro y0 y1 y2 r h
   rw [Wt] at h
   exact g (gS h (fun h => qS h fun h => gD h 32 ih.2.2.2.2) fun h => gL h)
  ·intro y0 y1 y2 y3 y4 r h
   rw [Wh] at h
   exact g (gS h (fun h => gN h (fun q => qf q.1 (qf q.2.1 (qf (qM1 q.2.2) qR))) fun h => gS h (fun h => gN h Xl fun h => gD h 32 ih.2.2.2.2) fun h => gD h 32 ih.2.2.2.2) fun h => gD h 28 ih.2.2.2.1)
theorem qNa (k a r) (h : qeR k a = some r): qAr a r := qN Tryz.f20 (go (qDe k) [] qxu [.frz 2 false (RTy.list T18), .autoB [2, 3] true []] (qu h qMx fun h => qB h fun h => gD h 6 (qvV k k).1))
theorem qJ7 {k a} (h : (qeR k a).isSome): qAr a (QH k a) := qJ h (qNa k a)
end
def Ym (x : Int) : List T9.T → Option vY
 | [] => none
 | s :: t => bif wj x s.2.2.1 then some s.1 else Ym x t
def qFj : vY := (0, (0, (0, (0, (0, (0, (0, (0, (0, (0, (0, 0)))))))))))
def qt6 (o : Option vY) : vY × Bool := match o with
 | some a => (a, true)
 | none => (qFj, false)
theorem qJD (k : Nat) (hk : 100 ≤ k) (b : T17.T) (fnd : List wP) (x y : Int) (l : List T9.T) (hl : l.length ≤ 40) (hs : ∀ s ∈ l, s.2.2.1.length ≤ 40) : ∀ (d i j : Nat), i + d = l.length → d < j →
  YI k b fnd y j x l (l.length : Int) (i : Int) qFj = some (qt6 (Ym x (l.drop i))) := by
 intro d
 induction d with
 | zero =>
  intro i j hi hj
  obtain ⟨j, rfl⟩ := qQ (by omega : 0 < j)
  rw [YI, qx (by omega : ¬ (i : Int) < (l.length : Int)), qg, qh (by omega)]; rfl
 | succ d ih =>
  intro i j hi hj
  obtain ⟨j, rfl⟩ := qQ (by omega : 0 < j)
  have hm := hs _ (Vg l i T9.dflt (by omega))
  rw [YI, qA (by omega : (i : Int) < (l.length : Int)), qi, qd ⟨by omega, by omega⟩, qc, qkW k _ x (by omega) (by omega), qnI k _ x (by omega) (by omega), qb, qd rfl, qF i (by omega), ih (i + 1) j (by omega) (by omega), qq l i T9.dflt (by omega), Ym]
  cases wj x (l.getD i T9.dflt).2.2.1 <;> rfl
theorem quX (k : Nat) (hk : 100 ≤ k) (b : T17.T) (g : GB b) (fnd : List wP) (x : Int) : qjo k b fnd x = some (qt6 (Ym x (b.2.2.2.2.2.2.2.2.2.2.2.2.2.2.2.1))) := by
 have hl := g.bOrders
 unfold qjo
 exact qJD k hk b fnd x x (b.2.2.2.2.2.2.2.2.2.2.2.2.2.2.2.1) hl (fun s h => (g.ord s h).2) (b.2.2.2.2.2.2.2.2.2.2.2.2.2.2.2.1.length) 0 k (by omega) (by omega)
theorem qM3 (k : Nat) (hk : 100 ≤ k) (b : T17.T) (g : GB b) (fnd : List wP) (x : Int) : Ya k b fnd x = qt6 (Ym x (b.2.2.2.2.2.2.2.2.2.2.2.2.2.2.2.1)) := by
 unfold Ya; rw [quX k hk b g fnd x]; rfl
def qdV (x : Int) : List T9.T → Nat → Option Nat
 | [], _ => none
 | s :: t, n => bif wj x s.2.2.1 then some n else qdV x t (n + 1)
theorem qDx (x : Int) : ∀ (l : List T9.T) (n : Nat), match qdV x l n with
  | none => Ym x l = none
  | some q => n ≤ q ∧ q - n < l.length ∧ Ym x l = some (l.getD (q - n) T9.dflt).1
 | [], n => by simp [qdV, Ym]
 | s :: t, n => by
  have ih := qDx x t (n + 1)
  unfold qdV Ym
  cases wj x s.2.2.1
  ·rw [qg, qg]
   revert ih
   cases qdV x t (n + 1) with
   | none => exact id
   | some q =>
    intro ih
    obtain ⟨h1, h2, h3⟩ := ih
    refine ⟨by omega, by rw [wc]; omega, ?_⟩
    rw [h3, show q - n = (q - (n + 1)) + 1 by omega]
    rfl
  ·rw [qi, qi]
   refine ⟨qT _, by rw [wc]; omega, ?_⟩
   rw [Nat.sub_self]; rfl
def qiR (o : Option Nat) : Int := match o with
 | some q => (q : Int)
 | none => -1
theorem qBJ (k : Nat) (hk : 100 ≤ k) (b : T17.T) (g : GB b) (x : Int) : ∀ (d i j : Nat), i + d = b.2.2.2.2.2.2.2.2.2.2.2.2.2.2.2.1.length → d < j →
  V0 k j x (i : Int) b = some (qiR (qdV x (b.2.2.2.2.2.2.2.2.2.2.2.2.2.2.2.1.drop i) i)) := by
 have hl := g.bOrders
 intro d
 induction d with
 | zero =>
  intro i j hi hj
  obtain ⟨j, rfl⟩ := qQ (by omega : 0 < j)
  rw [V0, qx (by omega : ¬ (i : Int) < (b.2.2.2.2.2.2.2.2.2.2.2.2.2.2.2.1.length : Int)), qg, qh (by omega)]; rfl
 | succ d ih =>
  intro i j hi hj
  obtain ⟨j, rfl⟩ := qQ (by omega : 0 < j)
  have hm := (g.ord _ (Vg (b.2.2.2.2.2.2.2.2.2.2.2.2.2.2.2.1) i T9.dflt (by omega))).2
  have hrw : b.2.2.2.2.2.2.2.2.2.2.2.2.2.2.2.1.drop i = b.2.2.2.2.2.2.2.2.2.2.2.2.2.2.2.1.getD i T9.dflt :: b.2.2.2.2.2.2.2.2.2.2.2.2.2.2.2.1.drop (i + 1) := qq (b.2.2.2.2.2.2.2.2.2.2.2.2.2.2.2.1) i T9.dflt (by omega)
  have hh := qmV k (b.2.2.2.2.2.2.2.2.2.2.2.2.2.2.2.1.getD i T9.dflt).2.2.1 x (b.2.2.2.2.2.2.2.2.2.2.2.2.2.2.2.1.getD i T9.dflt).2.2.1.length (qT _) (by omega) (by omega)
  have hv := qq0 k (b.2.2.2.2.2.2.2.2.2.2.2.2.2.2.2.1.getD i T9.dflt).2.2.1 x (b.2.2.2.2.2.2.2.2.2.2.2.2.2.2.2.1.getD i T9.dflt).2.2.1.length (qT _) (by omega) (by omega)
  rw [wI (qT _)] at hh hv
  rw [V0, qA (by omega : (i : Int) < (b.2.2.2.2.2.2.2.2.2.2.2.2.2.2.2.1.length : Int)), qi, qd ⟨by omega, by omega⟩, qc, hh, hv, qb, qd rfl, qF i (by omega), ih (i + 1) j (by omega) (by omega), hrw, qdV]
  cases wj x (b.2.2.2.2.2.2.2.2.2.2.2.2.2.2.2.1.getD i T9.dflt).2.2.1 <;> rfl
theorem qpS (k : Nat) (hk : 100 ≤ k) (b : T17.T) (g : GB b) (x : Int) : qeZ k b x = some (qiR (qdV x (b.2.2.2.2.2.2.2.2.2.2.2.2.2.2.2.1) 0)) := by
 have hl := g.bOrders
 unfold qeZ
 exact qBJ k hk b g x (b.2.2.2.2.2.2.2.2.2.2.2.2.2.2.2.1.length) 0 k (by omega) (by omega)
theorem qBL (k : Nat) (hk : 100 ≤ k) (b : T17.T) (g : GB b) (x : Int) : ZD k b x = qiR (qdV x (b.2.2.2.2.2.2.2.2.2.2.2.2.2.2.2.1) 0) := by
 unfold ZD; rw [qpS k hk b g x]; rfl
def QM (b : T17.T) (x : Int) : Fac × Int := Yn (b.2.2.2.2.2.2.2.2.2.2.2.1) (b.2.1) (b.2.2.1) (b.2.2.2.2.2.2.2.2.2.1) (b.2.2.2.2.2.2.2.2.2.2.2.2.2.2.1) (b.2.2.2.2.2.2.2.1) (b.2.2.2.2.2.1) x
def qfu (b : T17.T) (o : vY) (x : Int) : Int := bif (QM b x).2 == 0 then qfV o (QM b x).1 x (b.2.2.2.2.2.2.2.2.2.2.2.2.2.2.2.2.1) else (QM b x).2
def qtv (b : T17.T) (x : Int) : List wP := match Ym x (b.2.2.2.2.2.2.2.2.2.2.2.2.2.2.2.1) with
 | none => [(6, x, 1)]
 | some o => bif qfu b o x != 0 then [(7, x, qfu b o x)] else []
theorem qF1 (b : T17.T) (x : Int) : (qtv b x).length ≤ 1 := by
 unfold qtv
 cases Ym x (b.2.2.2.2.2.2.2.2.2.2.2.2.2.2.2.1) with
 | none => simp
 | some o => show (bif qfu b o x != 0 then [(7, x, qfu b o x)] else []).length ≤ 1; cases (qfu b o x != 0) <;> simp
def Va (b : T17.T) : List Int → List wP
 | [] => []
 | x :: t => qtv b x ++ Va b t
theorem qcR (b : T17.T) : ∀ l : List Int, (Va b l).length ≤ l.length
 | [] => qT _
 | x :: t => by
  have := qcR b t
  have := qF1 b x
  rw [Va, qn, wc]; omega
def Vt (b : T17.T) : List vq → List wP
 | [] => []
 | s :: t => Va b s.2.2 ++ Vt b t
theorem qSb (k : Nat) (hk : 301000 ≤ k) (b q : T17.T) (g : GB b) (q2 : List wP) (L : List vq) (len n : Int) (m : List Int) (hm : m.length ≤ 40) : ∀ (d i j : Nat) (fnd : List wP) (sent : List Int), i + d = m.length → fnd.length + d ≤ 100000 → sent.length + d ≤ 100000 →
  Qv k q q2 (d + 1 + j) L len n m (m.length : Int) (i : Int) b fnd sent = Vf k q q2 j L len (qa .i64 (n + 1)) b (fnd ++ Va b (m.drop i)) (sent ++ m.drop i) := by
 have hw := g.bWaivers
 intro d
 induction d with
 | zero =>
  intro i j fnd sent hi hf hs
  rw [show 0 + 1 + j = j + 1 by omega, Qv, qx (by omega : ¬ (i : Int) < (m.length : Int)), qg, qh (by omega), qY, Va, qY]
 | succ d ih =>
  intro i j fnd sent hi hf hs
  have hrw : m.drop i = m.getD i I.dflt :: m.drop (i + 1) := qq m i I.dflt (by omega)
  have hgs : qb4 k (b.2.2.2.2.2.2.2.2.2.2.2.1, (b.2.1, b.2.2.1), b.2.2.2.2.2.2.2.2.2.1, b.2.2.2.2.2.2.2.2.2.2.2.2.2.2.1, b.2.2.2.2.2.2.2.1, b.2.2.2.2.2.1) (m.getD i I.dflt) = some (QM b (m.getD i I.dflt)) := qbS k hk (b.2.2.2.2.2.2.2.2.2.2.2.1, (b.2.1, b.2.2.1), b.2.2.2.2.2.2.2.2.2.1, b.2.2.2.2.2.2.2.2.2.2.2.2.2.2.1, b.2.2.2.2.2.2.2.1, b.2.2.2.2.2.1) (m.getD i I.dflt)
  have hgv : Qd k (b.2.2.2.2.2.2.2.2.2.2.2.1, (b.2.1, b.2.2.1), b.2.2.2.2.2.2.2.2.2.1, b.2.2.2.2.2.2.2.2.2.2.2.2.2.2.1, b.2.2.2.2.2.2.2.1, b.2.2.2.2.2.1) (m.getD i I.dflt) = QM b (m.getD i I.dflt) := qlA k hk (b.2.2.2.2.2.2.2.2.2.2.2.1, (b.2.1, b.2.2.1), b.2.2.2.2.2.2.2.2.2.1, b.2.2.2.2.2.2.2.2.2.2.2.2.2.2.1, b.2.2.2.2.2.2.2.1, b.2.2.2.2.2.1) (m.getD i I.dflt)
  have hrs : qmS k b fnd = some (b.2.2.2.2.2.2.2.2.2.2.2.1, (b.2.1, b.2.2.1), b.2.2.2.2.2.2.2.2.2.1, b.2.2.2.2.2.2.2.2.2.2.2.2.2.2.1, b.2.2.2.2.2.2.2.1, b.2.2.2.2.2.1) := rfl
  have hrv : WG k b fnd = (b.2.2.2.2.2.2.2.2.2.2.2.1, (b.2.1, b.2.2.1), b.2.2.2.2.2.2.2.2.2.1, b.2.2.2.2.2.2.2.2.2.2.2.2.2.2.1, b.2.2.2.2.2.2.2.1, b.2.2.2.2.2.1) := rfl
  have key : ∀ F : List wP, F.length ≤ fnd.length + 1 → Qv k q q2 (d + 1 + j) L len n m (m.length : Int) ((i + 1 : Nat) : Int) b F (sent ++ [m.getD i I.dflt]) = Vf k q q2 j L len (qa .i64 (n + 1)) b (F ++ Va b (m.drop (i + 1))) (sent ++ m.drop i) := fun F hF => by
   rw [ih (i + 1) j F _ (by omega) (by omega) (by rw [qn, qk]; omega), hrw, qw]; rfl
  rw [show d + 1 + 1 + j = (d + 1 + j) + 1 by omega, Qv, qA (by omega : (i : Int) < (m.length : Int)), qi, qd ⟨by omega, by omega⟩, qc, qd (by simp only [qk]; omega), quX k (by omega) b g, qM3 k (by omega) b g, qb, qd rfl, qF i (by omega), hrs, hrv, hgs, hgv, hrw, Va, ← hrw]
  unfold qtv
  cases ho : Ym (m.getD i I.dflt) (b.2.2.2.2.2.2.2.2.2.2.2.2.2.2.2.1) with
  | none =>
   rw [show qt6 none = (qFj, false) from rfl]
   dsimp only
   rw [qd1, qi, WP k b fnd 6 _ _ (by omega), ZE k b fnd 6 _ _ (by omega), qb, qd rfl, key _ (by simp), qw]
  | some o =>
   have e1 := qp5 k (by omega) o (QM b (m.getD i I.dflt)).1 (m.getD i I.dflt) (b.2.2.2.2.2.2.2.2.2.2.2.2.2.2.2.2.1) hw
   have e2 := qz6 k (by omega) o (QM b (m.getD i I.dflt)).1 (m.getD i I.dflt) (b.2.2.2.2.2.2.2.2.2.2.2.2.2.2.2.2.1) hw
   rw [show qt6 (some o) = (o, true) from rfl]
   dsimp only
   rw [e1, e2, vB, qg, qd ⟨rfl, rfl⟩, qb, qd rfl]
   unfold qfu
   cases hz : ((QM b (m.getD i I.dflt)).2 == (0 : Int))
   ·have hz' : ((QM b (m.getD i I.dflt)).2 != (0 : Int)) = true := by rw [bne, hz]; rfl
    rw [qg, qg, hz', qi, qi, WP k b fnd 7 _ _ (by omega), ZE k b fnd 7 _ _ (by omega), qb, qd rfl, key _ (by simp), qw]
   ·rw [qi, qi]
    cases (qfV o (QM b (m.getD i I.dflt)).1 (m.getD i I.dflt) (b.2.2.2.2.2.2.2.2.2.2.2.2.2.2.2.2.1) != (0 : Int))
    ·rw [qg, qg, key _ (by omega), qH]
    ·rw [qi, qi, WP k b fnd 7 _ _ (by omega), ZE k b fnd 7 _ _ (by omega), qb, qd rfl, key _ (by simp), qw]
def msR (sent : List Int) : List Int → List wP
 | [] => []
 | x :: t => (bif !wj x sent then [(6, x, 2)] else []) ++ msR sent t
def msO (sent : List Int) : List T9.T → List wP
 | [] => []
 | s :: t => msR sent s.2.2.1 ++ msO sent t
def shR : List vq → List Int
 | [] => []
 | s :: t => s.2.2 ++ shR t
theorem qi5 (sent : List Int) : ∀ l : List Int, (msR sent l).length ≤ l.length
 | [] => qT _
 | x :: t => by
  have := qi5 sent t
  rw [msR, qn, wc]
  cases wj x sent <;> simp <;> omega
theorem qSI (k : Nat) (b q : T17.T) (q2 : List wP) (L : List T9.T) (len n : Int) (m : List Int) (hm : m.length ≤ 40) (sent : List Int) (hs : sent.length ≤ 100000) (hk : 200000 ≤ k) : ∀ (d i j : Nat) (fnd : List wP), i + d = m.length → fnd.length + d ≤ 100000 →
  Zu k q q2 (d + 1 + j) L len n m (m.length : Int) (i : Int) b fnd sent = ZK k q q2 j L len (qa .i64 (n + 1)) b (fnd ++ msR sent (m.drop i)) sent := by
 intro d
 induction d with
 | zero =>
  intro i j fnd hi hf
  rw [show 0 + 1 + j = j + 1 by omega, Zu, qx (by omega : ¬ (i : Int) < (m.length : Int)), qg, qh (by omega), msR, qY]
 | succ d ih =>
  intro i j fnd hi hf
  rw [show d + 1 + 1 + j = (d + 1 + j) + 1 by omega, Zu, qA (by omega : (i : Int) < (m.length : Int)), qi, qd ⟨by omega, by omega⟩, qc, qkW k _ _ (by omega) (by omega), qnI k _ _ (by omega) (by omega), qb, qd rfl, WP k b fnd _ _ _ (by omega), ZE k b fnd _ _ _ (by omega), qF i (by omega), qq m i I.dflt (by omega), msR]
  cases wj (m.getD i I.dflt) sent
  ·rw [qd1, qi, qi, qb, qd rfl]
   dsimp only
   rw [ih (i + 1) j _ (by omega) (by rw [qn, qk]; omega), qw]
  ·rw [vB, qg, qg, ih (i + 1) j _ (by omega) (by omega), qH]
theorem qSd (k : Nat) (b q : T17.T) (q2 : List wP) (L : List T9.T) (hl : L.length ≤ 40) (hL : ∀ s ∈ L, s.2.2.1.length ≤ 40) (sent : List Int) (hs : sent.length ≤ 100000) (hk : 200000 ≤ k) : ∀ (d i j : Nat) (fnd : List wP), i + d = L.length → d * 50 < j → fnd.length + d * 50 ≤ 50000 →
  ZK k q q2 j L (L.length : Int) (i : Int) b fnd sent = some (b, fnd ++ msO sent (L.drop i)) := by
 intro d
 induction d with
 | zero =>
  intro i j fnd hi hj hf
  obtain ⟨j, rfl⟩ := qQ (by omega : 0 < j)
  rw [ZK, qx (by omega : ¬ (i : Int) < (L.length : Int)), qg, qh (by omega), msO, qY]
 | succ d ih =>
  intro i j fnd hi hj hf
  rw [qTX] at hj hf
  have hm := hL _ (Vg L i T9.dflt (by omega))
  generalize hz : d * 50 = z at *
  obtain ⟨j, rfl⟩ : ∃ q, j = ((L.getD i T9.dflt).2.2.1.length + 1 + q) + 1 := ⟨j - (L.getD i T9.dflt).2.2.1.length - 2, by omega⟩
  have h := qSI k b q q2 L (L.length : Int) (i : Int) (L.getD i T9.dflt).2.2.1 hm sent hs hk (L.getD i T9.dflt).2.2.1.length 0 j fnd (by omega) (by omega)
  rw [wm] at h
  rw [show ((0 : Nat) : Int) = 0 from rfl] at h
  have hml := qi5 sent (L.getD i T9.dflt).2.2.1
  rw [ZK, qA (by omega : (i : Int) < (L.length : Int)), qi, qd ⟨by omega, by omega⟩, qc, h, qF i (by omega), ih (i + 1) j _ (by omega) (by omega) (by rw [qn]; omega), qq L i T9.dflt (by omega), msO, qw]
theorem qSO (k : Nat) (hk : 301000 ≤ k) (b q : T17.T) (g : GB b) (q2 : List wP) (L : List vq) (hl : L.length ≤ 40) (hL : ∀ s ∈ L, s.2.2.length ≤ 40) : ∀ (d i j : Nat) (fnd : List wP) (sent : List Int), i + d = L.length → d * 50 + 3000 < j → fnd.length + d * 50 ≤ 40000 → sent.length + d * 50 ≤ 40000 →
  Vf k q q2 j L (L.length : Int) (i : Int) b fnd sent = some (b, fnd ++ (Vt b (L.drop i) ++ msO (sent ++ shR (L.drop i)) (b.2.2.2.2.2.2.2.2.2.2.2.2.2.2.2.1))) := by
 have hO := g.bOrders
 intro d
 induction d with
 | zero =>
  intro i j fnd sent hi hj hf hs
  obtain ⟨j, rfl⟩ := qQ (by omega : 0 < j)
  rw [Vf, qx (by omega : ¬ (i : Int) < (L.length : Int)), qg, qh (by omega), Vt, qH, shR, qY]
  exact qSd k b q q2 (b.2.2.2.2.2.2.2.2.2.2.2.2.2.2.2.1) hO (fun s h => (g.ord s h).2) sent (by omega) (by omega) (b.2.2.2.2.2.2.2.2.2.2.2.2.2.2.2.1.length) 0 j fnd (by omega) (by omega) (by omega)
 | succ d ih =>
  intro i j fnd sent hi hj hf hs
  rw [qTX] at hj hf hs
  have hm := hL _ (Vg L i T11.dflt (by omega))
  generalize hz : d * 50 = z at *
  obtain ⟨j, rfl⟩ : ∃ q, j = ((L.getD i T11.dflt).2.2.length + 1 + q) + 1 := ⟨j - (L.getD i T11.dflt).2.2.length - 2, by omega⟩
  have h := qSb k hk b q g q2 L (L.length : Int) (i : Int) (L.getD i T11.dflt).2.2 hm (L.getD i T11.dflt).2.2.length 0 j fnd sent (by omega) (by omega) (by omega)
  rw [wm] at h
  rw [show ((0 : Nat) : Int) = 0 from rfl] at h
  have hml := qcR b (L.getD i T11.dflt).2.2
  rw [Vf, qA (by omega : (i : Int) < (L.length : Int)), qi, qd ⟨by omega, by omega⟩, qc, h, qF i (by omega), ih (i + 1) j _ _ (by omega) (by omega) (by rw [qn]; omega) (by rw [qn]; omega), qq L i T11.dflt (by omega), Vt, shR, qw, qw, qw]
def Y8 (b : T17.T) : List wP := bif Zl (b.2.2.2.2.2.2.2.2.2.2.2.2.2.2.2.2.2.1) != 0 then [(6, 0, Zl (b.2.2.2.2.2.2.2.2.2.2.2.2.2.2.2.2.2.1))] else Vt b (b.2.2.2.2.2.2.2.2.2.2.2.2.2.2.2.2.2.1) ++ msO (shR (b.2.2.2.2.2.2.2.2.2.2.2.2.2.2.2.2.2.1)) (b.2.2.2.2.2.2.2.2.2.2.2.2.2.2.2.1)
theorem qko (k : Nat) (hk : 301000 ≤ k) (b : T17.T) (g : GB b) (fnd : List wP) (hf : fnd.length ≤ 20000) : qjW k b fnd = some (b, fnd ++ Y8 b) := by
 have hS := g.bShipments
 unfold qjW Y8
 rw [qB3 k (by omega) _ hS g.shp, qP7 k (by omega) _ hS g.shp, qb, qd rfl]
 cases h : (Zl (b.2.2.2.2.2.2.2.2.2.2.2.2.2.2.2.2.2.1) != 0)
 ·rw [qg, qg]
  have := qSO k hk b b g fnd (b.2.2.2.2.2.2.2.2.2.2.2.2.2.2.2.2.2.1) hS g.shp (b.2.2.2.2.2.2.2.2.2.2.2.2.2.2.2.2.2.1.length) 0 k fnd [] (by omega) (by omega) (by omega) (by simp; omega)
  exact this
 ·rw [qi, qi, WP k b fnd _ _ _ (by omega), ZE k b fnd _ _ _ (by omega), qb, qd rfl]
theorem quQ (k : Nat) (hk : 301000 ≤ k) (b : T17.T) (g : GB b) (fnd : List wP) (hf : fnd.length ≤ 20000) : qgj k b fnd = (b, fnd ++ Y8 b) := by
 unfold qgj; rw [qko k hk b g fnd hf]; rfl
abbrev VC := T9.T
def hdB (s : VC) : List wP := bif decide ((s.2.1.length : Int) > qa .i64 (s.1.2.2.2.2.2.2.1 + s.1.2.2.2.2.2.2.2.1)) then [(5, s.1.1, 32)] else []
def hdC (s : VC) : List wP := bif (s.2.2.2 && decide ((s.2.2.1.length : Int) < qa .i64 (s.1.2.2.2.2.2.2.1 - s.1.2.2.2.2.2.2.2.2.1))) then [(5, s.1.1, 29)] else []
def hdS (s : VC) : List wP := bif Wc s.1 != 0 then [(5, s.1.1, Wc s.1)] else hdB s ++ hdC s
def Xp (id : Int) (taken : List Int) : List Int → List Int → List wP
 | _, [] => []
 | bef, x :: t => (bif (wj x taken || wj x bef) then [(5, id, 6)] else []) ++ Xp id taken (bef ++ [x]) t
def Vi (id : Int) (rolls : List Int) : List Int → List Int → List wP
 | _, [] => []
 | bef, x :: t => (bif !wj x rolls then [(5, id, 7)] else []) ++ ((bif wj x bef then [(5, id, 6)] else []) ++ Vi id rolls (bef ++ [x]) t)
def qaL : List Int → List VC → List wP
 | _, [] => []
 | taken, s :: t => hdS s ++ (Xp s.1.1 taken [] s.2.1 ++ (Vi s.1.1 s.2.1 [] s.2.2.1 ++ qaL (taken ++ s.2.1) t))
theorem qnN (s : VC) : (hdS s).length ≤ 2 := by
 unfold hdS hdB hdC
 cases (Wc s.1 != 0)
 ·rw [qg, qn]
  cases decide ((s.2.1.length : Int) > qa .i64 (s.1.2.2.2.2.2.2.1 + s.1.2.2.2.2.2.2.2.1)) <;> cases (s.2.2.2 && decide ((s.2.2.1.length : Int) < qa .i64 (s.1.2.2.2.2.2.2.1 - s.1.2.2.2.2.2.2.2.2.1))) <;> simp
 ·simp
theorem qeg (id : Int) (taken : List Int) : ∀ (l b : List Int), (Xp id taken b l).length ≤ l.length
 | [], _ => by simp [Xp]
 | x :: t, b => by
  have := qeg id taken t (b ++ [x])
  rw [Xp, qn, wc]
  cases (wj x taken || wj x b) <;> simp <;> omega
theorem qiY (id : Int) (rolls : List Int) : ∀ (l b : List Int), (Vi id rolls b l).length ≤ 2 * l.length
 | [], _ => by simp [Vi]
 | x :: t, b => by
  have := qiY id rolls t (b ++ [x])
  rw [Vi, qn, qn, wc]
  cases wj x rolls <;> cases wj x b <;> simp <;> omega
theorem qmo (m : List Int) (i : Nat) : qdv (i - qt 0) (qaJ (qt 0) m) = m.take i := by
 rw [show qt 0 = 0 from rfl, Nat.sub_zero, wm]
theorem qSC (k : Nat) (hk : 1000 ≤ k) (b q : T17.T) (q2 : List wP) (id : Int) (L : List VC) (len n : Int) (taken : List Int) (ht : taken.length ≤ 100000) (s : VC) (h1 : s.2.1.length ≤ 40) (h2 : s.2.2.1.length ≤ 40) : ∀ (d i j : Nat) (fnd : List wP), i + d = s.2.2.1.length → fnd.length + 2 * d ≤ 100000 →
  WM k q q2 (2 * d + 1 + j) id L len n s.2.2.1 (s.2.2.1.length : Int) (i : Int) b fnd taken s = W4 k q q2 j L len (qa .i64 (n + 1)) b (fnd ++ Vi id s.2.1 (s.2.2.1.take i) (s.2.2.1.drop i)) (taken ++ s.2.1) := by
 intro d
 induction d with
 | zero =>
  intro i j fnd hi hf
  rw [show 2 * 0 + 1 + j = j + 1 by omega, WM, qx (by omega : ¬ (i : Int) < (s.2.2.1.length : Int)), qg, qh (by omega), Vi, qY, qd (by omega)]
 | succ d ih =>
  intro i j fnd hi hf
  have htk : s.2.2.1.take (i + 1) = s.2.2.1.take i ++ [s.2.2.1.getD i I.dflt] := wR s.2.2.1 i I.dflt (by omega)
  have htl : (s.2.2.1.take i).length ≤ 40 := by rw [Qt]; omega
  have h3 : (0 : Int) ≤ (i : Int) := by omega
  have h4 : (i : Int) ≤ (s.2.2.1.length : Int) := by omega
  have e23 : ∀ F : List wP, F.length ≤ fnd.length + 1 → Yh k q q2 (2 * d + 1 + j + 1) id (i : Int) (s.2.2.1.getD i I.dflt) L len n s.2.2.1 (s.2.2.1.length : Int) (i : Int) b F taken s = W4 k q q2 j L len (qa .i64 (n + 1)) b (F ++ ((bif wj (s.2.2.1.getD i I.dflt) (s.2.2.1.take i) then [(5, id, 6)] else []) ++ Vi id s.2.1 (s.2.2.1.take (i + 1)) (s.2.2.1.drop (i + 1)))) (taken ++ s.2.1) := fun F hF => by
   rw [Yh, qc, qmo, qkW k _ _ (by omega) (by omega), qnI k _ _ (by omega) (by omega), qd ⟨Wg _, h3, h4, rfl⟩, WP k b F _ _ _ (by omega), ZE k b F _ _ _ (by omega), qF i (by omega)]
   cases wj (s.2.2.1.getD i I.dflt) (s.2.2.1.take i)
   ·rw [qg, qg, ih (i + 1) j F (by omega) (by omega), qH]
   ·rw [qi, qi, qb, qd rfl]
    dsimp only
    rw [ih (i + 1) j _ (by omega) (by rw [qn, qk]; omega), qw]
  rw [show 2 * (d + 1) + 1 + j = (2 * d + 1 + j + 1) + 1 by omega, WM, qA (by omega : (i : Int) < (s.2.2.1.length : Int)), qi, qd ⟨by omega, by omega⟩, qc, qkW k _ _ (by omega) (by omega), qnI k _ _ (by omega) (by omega), qb, qd rfl, WP k b fnd _ _ _ (by omega), ZE k b fnd _ _ _ (by omega), qq s.2.2.1 i I.dflt (by omega), Vi, ← htk]
  cases wj (s.2.2.1.getD i I.dflt) s.2.1
  ·rw [qd1, qi, qi, qb, qd rfl]
   dsimp only
   rw [e23 _ (by simp), qw]
  ·rw [vB, qg, qg, e23 _ (by omega), qH]
theorem qRR (k : Nat) (hk : 200000 ≤ k) (b q : T17.T) (q2 : List wP) (id : Int) (L : List VC) (len n : Int) (taken : List Int) (ht : taken.length ≤ 100000) (s : VC) (h1 : s.2.1.length ≤ 40) : ∀ (d i j : Nat) (fnd : List wP), i + d = s.2.1.length → fnd.length + d ≤ 100000 →
  WC k q q2 (d + 1 + j) id L len n s.2.1 (s.2.1.length : Int) (i : Int) b fnd taken s = WM k q q2 j id L len n s.2.2.1 (s.2.2.1.length : Int) 0 b (fnd ++ Xp id taken (s.2.1.take i) (s.2.1.drop i)) taken s := by
 intro d
 induction d with
 | zero =>
  intro i j fnd hi hf
  rw [show 0 + 1 + j = j + 1 by omega, WC, qx (by omega : ¬ (i : Int) < (s.2.1.length : Int)), qg, qh (by omega), Xp, qY]
 | succ d ih =>
  intro i j fnd hi hf
  have htk : s.2.1.take (i + 1) = s.2.1.take i ++ [s.2.1.getD i I.dflt] := wR s.2.1 i I.dflt (by omega)
  have htl : (s.2.1.take i).length ≤ 40 := by rw [Qt]; omega
  have h3 : (0 : Int) ≤ (i : Int) := by omega
  have h4 : (i : Int) ≤ (s.2.1.length : Int) := by omega
  rw [show d + 1 + 1 + j = (d + 1 + j) + 1 by omega, WC, qA (by omega : (i : Int) < (s.2.1.length : Int)), qi, qd ⟨by omega, by omega⟩, qc, qmo, qkW k _ _ (by omega) (by omega), qnI k _ _ (by omega) (by omega), qkW k (s.2.1.take i) _ (by omega) (by omega), qnI k (s.2.1.take i) _ (by omega) (by omega), WP k b fnd _ _ _ (by omega), ZE k b fnd _ _ _ (by omega), qF i (by omega), qq s.2.1 i I.dflt (by omega), Xp, ← htk]
  cases wj (s.2.1.getD i I.dflt) taken
  ·rw [qg, qd ⟨rfl, rfl, Wg _, h3, h4, rfl⟩, zn]
   cases wj (s.2.1.getD i I.dflt) (s.2.1.take i)
   ·rw [qg, qg, ih (i + 1) j fnd (by omega) (by omega), qH]
   ·rw [qi, qi, qb, qd rfl]
    dsimp only
    rw [ih (i + 1) j _ (by omega) (by rw [qn, qk]; omega), qw]
  ·rw [qi, qd ⟨rfl, rfl⟩, qb, qd rfl, zX, qi]
   dsimp only
   rw [ih (i + 1) j _ (by omega) (by rw [qn, qk]; omega), qw]
theorem qSx (k : Nat) (hk : 200000 ≤ k) (b q : T17.T) (q2 : List wP) (L : List VC) (len n : Int) (taken : List Int) (ht : taken.length ≤ 100000) (s : VC) (h1 : s.2.1.length ≤ 40) (h2 : s.2.2.1.length ≤ 40) (j : Nat) (fnd : List wP) (hf : fnd.length ≤ 90000) :
  ZH k q q2 ((s.2.1.length + 1 + (2 * s.2.2.1.length + 1 + j)) + 1) s.1.1 L len n b fnd taken s = W4 k q q2 j L len (qa .i64 (n + 1)) b (fnd ++ (Xp s.1.1 taken [] s.2.1 ++ Vi s.1.1 s.2.1 [] s.2.2.1)) (taken ++ s.2.1) := by
 have e13 := qRR k hk b q q2 s.1.1 L len n taken ht s h1 s.2.1.length 0 (2 * s.2.2.1.length + 1 + j) fnd (by omega) (by omega)
 have hl := qeg s.1.1 taken s.2.1 []
 have e19 := qSC k (by omega) b q q2 s.1.1 L len n taken ht s h1 h2 s.2.2.1.length 0 j (fnd ++ Xp s.1.1 taken [] s.2.1) (by omega) (by rw [qn]; omega)
 rw [show ((0 : Nat) : Int) = 0 from rfl, wm, List.take_zero] at e13 e19
 rw [ZH, e13, e19, qw]
theorem qTj (k : Nat) (hk : 301000 ≤ k) (b q : T17.T) (g : GB b) (q2 : List wP) (L : List VC) (hl : L.length ≤ 40) (hL : ∀ s ∈ L, s.2.1.length ≤ 40 ∧ s.2.2.1.length ≤ 40) : ∀ (d i j : Nat) (fnd : List wP) (taken : List Int), i + d = L.length → d * 200 < j → fnd.length + d * 200 ≤ 15000 → taken.length + d * 200 ≤ 15000 →
  W4 k q q2 j L (L.length : Int) (i : Int) b fnd taken = some (b, fnd ++ (qaL taken (L.drop i) ++ Y8 b)) := by
 intro d
 induction d with
 | zero =>
  intro i j fnd taken hi hj hf ht
  obtain ⟨j, rfl⟩ := qQ (by omega : 0 < j)
  rw [W4, qx (by omega : ¬ (i : Int) < (L.length : Int)), qg, qh (by omega), qaL, qH, qko k hk b g fnd (by omega), quQ k hk b g fnd (by omega), qb, qd rfl]
 | succ d ih =>
  intro i j fnd taken hi hj hf ht
  rw [qTX] at hj hf ht
  have hm := hL _ (Vg L i T9.dflt (by omega))
  have hrw : L.drop i = L.getD i T9.dflt :: L.drop (i + 1) := qq L i T9.dflt (by omega)
  generalize hs : L.getD i T9.dflt = s at *
  obtain ⟨m1, m2⟩ := hm
  generalize hz : d * 200 = z at *
  have ha := qnN s
  have hb := qeg s.1.1 taken s.2.1 []
  have hc := qiY s.1.1 s.2.1 s.2.2.1 []
  have tl : ∀ (F : List wP) (J : Nat), F.length ≤ fnd.length + 2 → z + 160 < J → ZH k q q2 J s.1.1 L (L.length : Int) (i : Int) b F taken s = some (b, F ++ (Xp s.1.1 taken [] s.2.1 ++ (Vi s.1.1 s.2.1 [] s.2.2.1 ++ (qaL (taken ++ s.2.1) (L.drop (i + 1)) ++ Y8 b)))) := fun F J hF hJ => by
   obtain ⟨J, rfl⟩ : ∃ q, J = (s.2.1.length + 1 + (2 * s.2.2.1.length + 1 + q)) + 1 := ⟨J - s.2.1.length - 2 * s.2.2.1.length - 3, by omega⟩
   rw [qSx k (by omega) b q q2 L (L.length : Int) (i : Int) taken (by omega) s m1 m2 J F (by omega), qF i (by omega), ih (i + 1) J _ _ (by omega) (by omega) (by rw [qn, qn]; omega) (by rw [qn]; omega), qw, qw]
  obtain ⟨j, rfl⟩ := qQ (by omega : 0 < j)
  rw [W4, qA (by omega : (i : Int) < (L.length : Int)), qi, qd ⟨by omega, by omega⟩, qc, hs, qiU, qwA, qb, qd rfl, hrw, qaL]
  unfold hdS
  cases he : (Wc s.1 != (0 : Int))
  ·have t10 : ∀ (F : List wP), F.length ≤ fnd.length + 1 → Yw k q q2 j s.1.1 L (L.length : Int) (i : Int) b F taken s = some (b, F ++ (hdC s ++ (Xp s.1.1 taken [] s.2.1 ++ (Vi s.1.1 s.2.1 [] s.2.2.1 ++ (qaL (taken ++ s.2.1) (L.drop (i + 1)) ++ Y8 b))))) := fun F hF => by
    obtain ⟨j, rfl⟩ := qQ (by omega : 0 < j)
    rw [Yw, WP k b F _ _ _ (by omega), ZE k b F _ _ _ (by omega)]
    unfold hdC
    cases (s.2.2.2 && decide ((s.2.2.1.length : Int) < qa .i64 (s.1.2.2.2.2.2.2.1 - s.1.2.2.2.2.2.2.2.2.1)))
    ·rw [qg, qg, tl F j (by omega) (by omega), qH]
    ·rw [qi, qi, qb, qd rfl]
     dsimp only
     rw [tl _ j (by rw [qn, qk]; omega) (by omega), qw]
   rw [qg, qg, WP k b fnd 5 s.1.1 32 (by omega), ZE k b fnd 5 s.1.1 32 (by omega), qw, qw, qw, qw]
   unfold hdB
   cases decide ((s.2.1.length : Int) > qa .i64 (s.1.2.2.2.2.2.2.1 + s.1.2.2.2.2.2.2.2.1))
   ·rw [qg, qg, t10 fnd (by omega), qH]
   ·rw [qi, qi, qb, qd rfl]
    dsimp only
    rw [t10 _ (by rw [qn, qk]; omega), qw]
  ·rw [qi, qi, WP k b fnd 5 _ _ (by omega), ZE k b fnd 5 _ _ (by omega), qb, qd rfl]
   dsimp only
   rw [tl _ j (by rw [qn, qk]; omega) (by omega), qw, qw, qw, qw]
def zB (b : T17.T) : List wP := qaL [] (b.2.2.2.2.2.2.2.2.2.2.2.2.2.2.2.1) ++ Y8 b
theorem qtF (k : Nat) (hk : 301000 ≤ k) (b : T17.T) (g : GB b) (fnd : List wP) (hf : fnd.length ≤ 1000) : qfW k b fnd = some (b, fnd ++ zB b) := by
 have hO := g.bOrders
 unfold qfW zB
 exact qTj k hk b b g fnd (b.2.2.2.2.2.2.2.2.2.2.2.2.2.2.2.1) hO g.ord (b.2.2.2.2.2.2.2.2.2.2.2.2.2.2.2.1.length) 0 k fnd [] (by omega) (by omega) (by omega) (by simp; omega)
theorem qGl (k : Nat) (hk : 301000 ≤ k) (b : T17.T) (g : GB b) (fnd : List wP) (hf : fnd.length ≤ 1000) : qbc k b fnd = (b, fnd ++ zB b) := by
 unfold qbc; rw [qtF k hk b g fnd hf]; rfl
end Go.AM
namespace Go.AM
open Go Go.Proofs
noncomputable section
def qBN (r : T17.T) : AV := .sub 2 0 1 0 1
def qIW (a : T17.T) (b : List T18.T) (r : T17.T) : List (Nat × Blk) := [(0, .var 140 ((qy (qr T17 r)) ++ [.own 1 0])), (0, .row 54 T18 b), (0, .var 1 [.fn (Fn.func 48) [.ptr 0 0 0] []])]
abbrev qQg (a : T17.T) (b : List T18.T) (r : T17.T) : Prop := CC Tryz.prog 47 [.ptr 0 0 0] [.var 140 (qy (qr T17 a) ++ [.own 1 0]), .row 54 T18 b] (qBN r) (qIW a b r)
def qsY (k : Nat) (a : T17.T) (b : List T18.T) : Option T17.T :=
 some a
def qud := fun k a b => (qsY k a b).getD (T17).dflt
def qH4 (k : Nat) : Ke := (47, fun
 | [.ptr _ _ _] => some [true]
 | _ => none, fun
 | [.ptr 0 0 0], [.var 140 d, .row 54 tx_22_ qx_22] => (qW [] T17 (d.take 22)).bind fun a => (qE tx_22_ T18 qx_22).bind fun b => some (.one (qBN (qud k a b), qIW a b (qud k a b)))
 | _, _ => none)
theorem qSz (k a b r) (h : qsY k a b = some r): qQg a b r := qN Tryz.f47 (go (qD [qmI k]) [] [] [.autoB [2] true []] (gL h))
theorem qRP {k a b} (h : (qsY k a b).isSome): qQg a b (qud k a b) := qJ h (qSz k a b)
abbrev ql0 : Type := List T18.T × Int
def qos (r : ql0) : AV := .tup [ro T18 r.1, ri r.2]
abbrev qIs (a : T17.T) (r : ql0) : Prop := CC Tryz.prog 33 [.agg (qy (qr T17 a)), .r (.v (.func (.func 47) #[] #[]))] [] (qos r) (nb r)
def qsw := fun y0 y1 => (⟨qI 29 [(6, .ptr 1000000 0 0), (16, .sub 1000002 0 1 0 1), (17, ri 1), (18, ri 0)], [(1000000, 0, .var 140 ((qy (qr T17 y0)) ++ [.own 1000001 0])), (1000001, 0, .row 54 T18 y1), (1000002, 0, .var 1 [.fn (Fn.func 48) [.ptr 1000000 0 0] []])]⟩ : St)
def qtS := fun y0 y1 => (⟨qI 29 [(6, .ptr 1000000 0 0), (16, .sub 1000002 0 1 0 1), (17, ri 1), (18, ri 1)], [(1000000, 0, .var 140 ((qy (qr T17 y0)) ++ [.own 1000001 0])), (1000001, 0, .row 54 T18 y1), (1000002, 0, .var 1 [.fn (Fn.func 48) [.ptr 1000000 0 0] []])]⟩ : St)
mutual
def Y4 (k : Nat) : Nat → T17.T → List T18.T → Option ql0
 | 0, _, _ => none
 | j + 1, y0, y1 =>
 if ((0 : Int) ≤ (0 : Int)) ∧ ((0 : Int) < (↑ (1 : Nat) : Int)) then
 if ((qfW k y0 y1).isSome) then
 qab k j ((qbc k y0 y1).1) ((qbc k y0 y1).2)
 else none
 else none
def qab (k : Nat) : Nat → T17.T → List T18.T → Option ql0
 | 0, _, _ => none
 | j + 1, y0, y1 =>
 some (y1, 0)
end
def qjX (k : Nat) (a : T17.T) : Option ql0 :=
 if ((qbd k a).isSome) then
 bif (qcJ k a) then
 some ([], 8)
 else
 if ((qsY k a []).isSome) then
 Y4 k k (qud k a []) ([])
 else none
 else none
def qiV := fun k a => (qjX k a).getD ([], 0)
def qQx (k : Nat) : Ke := (33, fun
 | [_, .r (.v (.func (.func 47) _ _))] => some [false, false]
 | _ => none, fun
 | [.agg b, .r (.v (.func (.func 47) _ _))], [] => (qW [] T17 b).bind fun a => some (.one (qos (qiV k a), []))
 | _, _ => none)
def qID (k : Nat) : Calld := qD [qnu k, qmI k, qH4 k]
def qDt : List (Nat × List Cmd) := [(5, [.key 18, .autoB [6, 16, 17, 18] false []])]
abbrev qJh := EP Tryz.f33 0 qos nb
theorem qBi (k) : ∀ j, (∀ {y0 y1}, qJh 5 (qsw y0 y1) (Y4 k j y0 y1)) ∧ (∀ {y0 y1}, qJh 5 (qtS y0 y1) (qab k j y0 y1))
 | 0 => by and_intros <;> intros <;> exact e0
 | j + 1 => by
  have ih := @qBi k j
  have g := @go (qID k) [] qDt [.frz 4 false (RTy.list T18), .autoB [4, 5] true []]
  refine ⟨?_, ?_⟩
  ·intro y0 y1 r h
   rw [Y4] at h
   exact g (gU1 h (.leaf (.tup [.r (.ro T18 y1), .r (.v (.int .i64 0))]) []) fun h => qS h fun h => qu h qzL fun h => gD h 20005 ih.2)
  ·intro y0 y1 r h
   rw [qab] at h
   exact g (gU2 h (.stuck 5001) fun h => gL h)
theorem qRG (k a r) (h : qjX k a = some r): qIs a r := qN Tryz.f33 (go (qID k) [] qDt [.frz 4 false (RTy.list T18), .autoB [4, 5] true []] (qu h qm7 fun h => qB h fun h => qu h qRP fun h => gD h 10005 (qBi k k).1))
theorem qQ9 {k a} (h : (qjX k a).isSome): qIs a (qiV k a) := qJ h (qRG k a)
abbrev qFz : Type := List T18.T × Int
def qCw (r : qFz) : AV := .tup [ro T18 r.1, ri r.2]
abbrev qQK (a : T17.T) (r : qFz) : Prop := CC Tryz.prog 19 [.agg (qy (qr T17 a))] [] (qCw r) (nb r)
def qnL (k : Nat) (a : T17.T) : Option qFz :=
 if ((qjX k a).isSome) then
 some ((qiV k a).1, (qiV k a).2)
 else none
def XO := fun k a => (qnL k a).getD ([], 0)
def qR6 (k : Nat) : Ke := (19, mo 1, fun
 | [.agg b], [] => (qW [] T17 b).bind fun a => some (.one (qCw (XO k a), []))
 | _, _ => none)
theorem qSB (k a r) (h : qnL k a = some r): qQK a r := qN Tryz.f19 (go (qD [qH4 k, qQx k]) [] [] [.frz 2 false (RTy.list T18), .autoB [2, 3] true []] (qu h qQ9 fun h => gL h))
theorem qSy {k a} (h : (qnL k a).isSome): qQK a (XO k a) := qJ h (qSB k a)
abbrev qSf (a : T17.T) (r : Bool) : Prop := CC Tryz.prog 6 [.agg (qy (qr T17 a))] [] (rb r) (nb r)
def qy9 (k : Nat) (a : T17.T) : Option Bool :=
 if ((qf8 k a).isSome) then
 bif (qmD k a) then
 if ((qfz k ).isSome) then
 some (qae k)
 else none
 else
 if ((qnL k a).isSome) then
 if ((qeR k a).isSome) then
 bif ((XO k a).2 == (QH k a).2) then
 bif (true && qaY k (XO k a).1 (QH k a).1) then
 if (((XO k a).2 == (QH k a).2) = true) ∧ ((qdk k (XO k a).1 (QH k a).1).isSome) ∧ ((true && qaY k (XO k a).1 (QH k a).1) = true) ∧ ((qfz k ).isSome) then
 some (true && qae k)
 else none
 else
 if (((XO k a).2 == (QH k a).2) = true) ∧ ((qdk k (XO k a).1 (QH k a).1).isSome) ∧ ((true && qaY k (XO k a).1 (QH k a).1) = false) then
 some false
 else none
 else
 if (((XO k a).2 == (QH k a).2) = false) ∧ (false = false) then
 some false
 else none
 else none
 else none
 else none
theorem qN7 (k a r) (h : qy9 k a = some r): qSf a r := qN Tryz.f6 (go (qD [qPq k, qRd k, qRy k, qR6 k, qL9 k]) [] [] [.autoB [2] true []] (qu h qND fun h => gS h (fun h => qu h qBu fun h => gL h) fun h => qu h qSy fun h => qu h qJ7 fun h => gS h (fun h => gS h (fun h => gN h (fun q => qf q.1 (qf (qDq q.2.1) (qf q.2.2.1 (qf (qBu q.2.2.2) qR)))) fun h => gL h) fun h => gN h (fun q => qf q.1 (qf (qDq q.2.1) (qf q.2.2 qR))) fun h => gL h) fun h => gU2 h (.need [((XO k a).2 == (QH k a).2) = false, false = true, CC Tryz.prog 13 (qtE ) (qv1 ) (qn6 (qae k )) (qr7  (qae k ))] (.leaf (.r (.v (.bool (true && qae k)))) [])) fun h => qS h fun h => gL h))
end
def inO (x : Int) (l : List VC) : Bool := l.any fun s => wj x s.2.1
def tkR : List VC → List Int
 | [] => []
 | s :: t => s.2.1 ++ tkR t
theorem qt2 (x : Int) (a b : List Int) : wj x (a ++ b) = (wj x a || wj x b) := by unfold wj; rw [List.any_append]
theorem qzO (x : Int) : ∀ l : List VC, wj x (tkR l) = inO x l
 | [] => rfl
 | s :: t => by
  rw [tkR, qt2, qzO x t]; rfl
theorem qvC : ∀ a b : List VC, tkR (a ++ b) = tkR a ++ tkR b
 | [], b => rfl
 | s :: t, b => by
  show s.2.1 ++ tkR (t ++ b) = _
  rw [qvC t b, ← qw]; rfl
theorem qBK (k : Nat) (l : List Int) (x : Int) (hl : l.length ≤ 100000) (hk : l.length < k) : Zz k l (l.length : Int) x = some (wj x l) ∧ VD k l (l.length : Int) x = wj x l := by
 have h1 := qmV k l x l.length (qT _) hl hk
 have h2 := qq0 k l x l.length (qT _) hl hk
 rw [wI (qT _)] at h1 h2
 exact ⟨h1, h2⟩
theorem qRA (k : Nat) (hk : 1000 ≤ k) (id : Int) (s : VC) (h1 : s.2.1.length ≤ 40) (h2 : s.2.2.1.length ≤ 40) : ∀ (d i j : Nat) (out : List wP), i + d = s.2.2.1.length → 2 * d < j → out.length + 2 * d ≤ 100000 →
  Wj k j id (i : Int) out s = some (out ++ Vi id s.2.1 (s.2.2.1.take i) (s.2.2.1.drop i)) := by
 intro d
 induction d with
 | zero =>
  intro i j out hi hj ho
  obtain ⟨j, rfl⟩ := qQ (by omega : 0 < j)
  rw [Wj, qx (by omega : ¬ (i : Int) < (s.2.2.1.length : Int)), qg, qh (by omega), Vi, qY]
 | succ d ih =>
  intro i j out hi hj ho
  obtain ⟨j, rfl⟩ : ∃ q, j = (q + 1) + 1 := ⟨j - 2, by omega⟩
  have htk : s.2.2.1.take (i + 1) = s.2.2.1.take i ++ [s.2.2.1.getD i I.dflt] := wR s.2.2.1 i I.dflt (by omega)
  have h3 : (0 : Int) ≤ (i : Int) := by omega
  have h4 : (i : Int) < (s.2.2.1.length : Int) := by omega
  obtain ⟨a1, a2⟩ := qBK k s.2.1 (s.2.2.1.getD i I.dflt) (by omega) (by omega)
  have b1 := qmV k s.2.2.1 (s.2.2.1.getD i I.dflt) i (by omega) (by omega) (by omega)
  have b2 := qq0 k s.2.2.1 (s.2.2.1.getD i I.dflt) i (by omega) (by omega) (by omega)
  have e27 : ∀ F : List wP, F.length ≤ out.length + 1 → Xh k (j + 1) id (i : Int) F s = some (F ++ ((bif wj (s.2.2.1.getD i I.dflt) (s.2.2.1.take i) then [(5, id, 6)] else []) ++ Vi id s.2.1 (s.2.2.1.take (i + 1)) (s.2.2.1.drop (i + 1)))) := fun F hF => by
   rw [Xh, qc, b1, b2, qd ⟨h3, h4, rfl⟩, qF i (by omega), qd (by simp only [qk]; omega)]
   cases wj (s.2.2.1.getD i I.dflt) (s.2.2.1.take i)
   ·rw [qg, qg, ih (i + 1) j F (by omega) (by omega) (by omega), qH]
   ·rw [qi, qi, ih (i + 1) j _ (by omega) (by omega) (by rw [qn, qk]; omega), qw]
  rw [Wj, qA h4, qi, qc, a1, a2, qd ⟨h3, h4, rfl⟩, qd (by simp only [qk]; omega), qq s.2.2.1 i I.dflt (by omega), Vi, ← htk]
  cases wj (s.2.2.1.getD i I.dflt) s.2.1
  ·rw [qd1, qi, qi, e27 _ (by simp), qw]
  ·rw [vB, qg, qg, e27 _ (by omega), qH]
theorem qQS (k : Nat) (hk : 1000 ≤ k) (b : T17.T) (g : GB b) (o : Nat) (ho : o ≤ b.2.2.2.2.2.2.2.2.2.2.2.2.2.2.2.1.length) (id : Int) (s : VC) (c : Nat) (hc : c < s.2.1.length) (h1 : s.2.1.length ≤ 40) (out : List wP) (hf : out.length ≤ 100000) : ∀ (d jj j : Nat) (y : Bool), jj + d = o →
  Wr k (d + 1 + j) (o : Int) id (c : Int) y (jj : Int) b out s = vW k j (o : Int) id ((c + 1 : Nat) : Int) b (out ++ (bif (y || inO (s.2.1.getD c I.dflt) ((b.2.2.2.2.2.2.2.2.2.2.2.2.2.2.2.1.drop jj).take d)) then [(5, id, 6)] else [])) s := by
 have hO := g.bOrders
 have c3 : (0 : Int) ≤ (c : Int) := by omega
 have c4 : (c : Int) < (s.2.1.length : Int) := by omega
 intro d
 induction d with
 | zero =>
  intro jj j y hi
  rw [show 0 + 1 + j = j + 1 by omega, Wr, qx (by omega : ¬ (jj : Int) < (o : Int)), qg, List.take_zero, qF c (by omega), qd (by simp only [qk]; omega)]
  cases y
  ·show _ = vW k j (o : Int) id ((c + 1 : Nat) : Int) b (out ++ []) s
   rw [qg, qY]
  ·rfl
 | succ d ih =>
  intro jj j y hi
  have h3 : (0 : Int) ≤ (jj : Int) := by omega
  have h4 : (jj : Int) < (b.2.2.2.2.2.2.2.2.2.2.2.2.2.2.2.1.length : Int) := by omega
  have hm := (g.ord _ (Vg (b.2.2.2.2.2.2.2.2.2.2.2.2.2.2.2.1) jj T9.dflt (by omega))).1
  obtain ⟨a1, a2⟩ := qBK k (b.2.2.2.2.2.2.2.2.2.2.2.2.2.2.2.1.getD jj T9.dflt).2.1 (s.2.1.getD c I.dflt) (by omega) (by omega)
  have hrw : b.2.2.2.2.2.2.2.2.2.2.2.2.2.2.2.1.drop jj = b.2.2.2.2.2.2.2.2.2.2.2.2.2.2.2.1.getD jj T9.dflt :: b.2.2.2.2.2.2.2.2.2.2.2.2.2.2.2.1.drop (jj + 1) := qq (b.2.2.2.2.2.2.2.2.2.2.2.2.2.2.2.1) jj T9.dflt (by omega)
  rw [show d + 1 + 1 + j = (d + 1 + j) + 1 by omega, Wr, qA (by omega : (jj : Int) < (o : Int)), qi, qd ⟨h3, h4⟩, qc, qc, a1, a2, qF jj (by omega), hrw, List.take_succ_cons]
  cases y
  ·rw [qg, qd ⟨rfl, c3, c4, rfl⟩, ih (jj + 1) j _ (by omega), zn, zn]; rfl
  ·rw [qi, qd rfl, ih (jj + 1) j _ (by omega), zX, zX]
theorem qPp (k : Nat) (hk : 1000 ≤ k) (b : T17.T) (g : GB b) (o : Nat) (ho : o ≤ b.2.2.2.2.2.2.2.2.2.2.2.2.2.2.2.1.length) (id : Int) (s : VC) (h1 : s.2.1.length ≤ 40) (h2 : s.2.2.1.length ≤ 40) : ∀ (d c j : Nat) (out : List wP), c + d = s.2.1.length → d * 50 + 100 < j → out.length + d ≤ 90000 →
  vW k j (o : Int) id (c : Int) b out s = some (out ++ (Xp id (tkR (b.2.2.2.2.2.2.2.2.2.2.2.2.2.2.2.1.take o)) (s.2.1.take c) (s.2.1.drop c) ++ Vi id s.2.1 [] s.2.2.1)) := by
 have hO := g.bOrders
 intro d
 induction d with
 | zero =>
  intro c j out hc hj hf
  obtain ⟨j, rfl⟩ := qQ (by omega : 0 < j)
  have h23 := qRA k hk id s h1 h2 s.2.2.1.length 0 j out (by omega) (by omega) (by omega)
  rw [show ((0 : Nat) : Int) = 0 from rfl, List.take_zero, wm] at h23
  rw [vW, qx (by omega : ¬ (c : Int) < (s.2.1.length : Int)), qg, h23, qh (by omega : s.2.1.length ≤ c), Xp, qH]
 | succ d ih =>
  intro c j out hc hj hf
  rw [qTX] at hj
  generalize hz : d * 50 = z at *
  obtain ⟨j, rfl⟩ : ∃ q, j = (o + 1 + q) + 1 := ⟨j - o - 2, by omega⟩
  have htk : s.2.1.take (c + 1) = s.2.1.take c ++ [s.2.1.getD c I.dflt] := wR s.2.1 c I.dflt (by omega)
  have b1 := qmV k s.2.1 (s.2.1.getD c I.dflt) c (by omega) (by omega) (by omega)
  have b2 := qq0 k s.2.1 (s.2.1.getD c I.dflt) c (by omega) (by omega) (by omega)
  have h16 := qQS k hk b g o ho id s c (by omega) h1 out (by omega) o 0 j (wj (s.2.1.getD c I.dflt) (s.2.1.take c)) (by omega)
  rw [show ((0 : Nat) : Int) = 0 from rfl, wm, ← qzO, Bool.or_comm] at h16
  rw [vW, qA (by omega : (c : Int) < (s.2.1.length : Int)), qi, qc, b1, b2, qd ⟨by omega, by omega, rfl⟩, h16, ih (c + 1) j _ (by omega) (by omega) (by
   rw [qn]
   cases (wj (s.2.1.getD c I.dflt) (tkR (b.2.2.2.2.2.2.2.2.2.2.2.2.2.2.2.1.take o)) || wj (s.2.1.getD c I.dflt) (s.2.1.take c)) <;> simp <;> omega), qq s.2.1 c I.dflt (by omega), Xp, htk, qw, qw]
theorem qSe (k : Nat) (hk : 5000 ≤ k) (b : T17.T) (g : GB b) (o : Nat) (ho : o < b.2.2.2.2.2.2.2.2.2.2.2.2.2.2.2.1.length) : qe5 k b (o : Int) = some (hdS (b.2.2.2.2.2.2.2.2.2.2.2.2.2.2.2.1.getD o T9.dflt) ++ (Xp (b.2.2.2.2.2.2.2.2.2.2.2.2.2.2.2.1.getD o T9.dflt).1.1 (tkR (b.2.2.2.2.2.2.2.2.2.2.2.2.2.2.2.1.take o)) [] (b.2.2.2.2.2.2.2.2.2.2.2.2.2.2.2.1.getD o T9.dflt).2.1 ++ Vi (b.2.2.2.2.2.2.2.2.2.2.2.2.2.2.2.1.getD o T9.dflt).1.1 (b.2.2.2.2.2.2.2.2.2.2.2.2.2.2.2.1.getD o T9.dflt).2.1 [] (b.2.2.2.2.2.2.2.2.2.2.2.2.2.2.2.1.getD o T9.dflt).2.2.1)) := by
 have hO := g.bOrders
 obtain ⟨m1, m2⟩ := g.ord _ (Vg (b.2.2.2.2.2.2.2.2.2.2.2.2.2.2.2.1) o T9.dflt ho)
 unfold qe5
 rw [qd ⟨by omega, by omega⟩, qc]
 generalize hs : b.2.2.2.2.2.2.2.2.2.2.2.2.2.2.2.1.getD o T9.dflt = s at *
 rw [qkU, qt8, qb, qd rfl, qd (by simp only [qk]; omega)]
 have t11 : ∀ (F : List wP) (J : Nat), F.length ≤ 10 → 4000 < J → Xn k J (o : Int) s.1.1 b F s = some (F ++ (Xp s.1.1 (tkR (b.2.2.2.2.2.2.2.2.2.2.2.2.2.2.2.1.take o)) [] s.2.1 ++ Vi s.1.1 s.2.1 [] s.2.2.1)) := fun F J hF hJ => by
  obtain ⟨J, rfl⟩ := qQ (by omega : 0 < J)
  have h := qPp k (by omega) b g o (by omega) s.1.1 s m1 m2 s.2.1.length 0 J F (by omega) (by omega) (by omega)
  rw [show ((0 : Nat) : Int) = 0 from rfl, List.take_zero, wm] at h
  rw [Xn, h]
 have t9 : ∀ (F : List wP) (J : Nat) (e : Int), F.length ≤ 5 → 4001 < J → Yx k J (o : Int) s.1.1 e b F s = some (F ++ ((bif e == 0 then hdC s else []) ++ (Xp s.1.1 (tkR (b.2.2.2.2.2.2.2.2.2.2.2.2.2.2.2.1.take o)) [] s.2.1 ++ Vi s.1.1 s.2.1 [] s.2.2.1))) := fun F J e hF hJ => by
  obtain ⟨J, rfl⟩ := qQ (by omega : 0 < J)
  rw [Yx, qd (by simp only [qk]; omega), Bool.and_assoc]
  unfold hdC
  cases (e == (0 : Int))
  ·rw [wD, qg, qg, t11 F J (by omega) (by omega), qH]
  ·rw [ww, qi]
   cases (s.2.2.2 && decide ((s.2.2.1.length : Int) < qa .i64 (s.1.2.2.2.2.2.2.1 - s.1.2.2.2.2.2.2.2.2.1)))
   ·rw [qg, qg, t11 F J (by omega) (by omega), qH]
   ·rw [qi, qi, t11 _ J (by rw [qn, qk]; omega) (by omega), qw]
 have t7 : ∀ (F : List wP) (e : Int), F.length ≤ 2 → YQ k k (o : Int) s.1.1 e b F s = some (F ++ ((bif e == 0 then hdB s ++ hdC s else []) ++ (Xp s.1.1 (tkR (b.2.2.2.2.2.2.2.2.2.2.2.2.2.2.2.1.take o)) [] s.2.1 ++ Vi s.1.1 s.2.1 [] s.2.2.1))) := fun F e hF => by
  obtain ⟨J, hJ⟩ : ∃ q, k = q + 1 := ⟨k - 1, by omega⟩
  conv => lhs; arg 2; rw [hJ]
  rw [YQ, qd (by simp only [qk]; omega)]
  unfold hdB
  cases he : (e == (0 : Int))
  ·rw [wD, qg, qg, t9 F J e (by omega) (by omega), he, qg, qH]
  ·rw [ww, qi]
   cases decide ((s.2.1.length : Int) > qa .i64 (s.1.2.2.2.2.2.2.1 + s.1.2.2.2.2.2.2.2.1))
   ·rw [qg, qg, t9 F J e (by omega) (by omega), he, qi, qH]
   ·rw [qi, qi, t9 _ J e (by rw [qn, qk]; omega) (by omega), he, qi, qw, qw]
 unfold hdS
 cases he : (Wc s.1 != (0 : Int))
 ·have he' : (Wc s.1 == (0 : Int)) = true := by
   have : Wc s.1 = 0 := by simpa using he
   rw [this]; rfl
  rw [qg, qg, t7 [] _ (by simp), he', qi, qH]
 ·have he' : (Wc s.1 == (0 : Int)) = false := by
   have : Wc s.1 ≠ 0 := by simpa using he
   exact beq_eq_false_iff_ne.2 this
  rw [qi, qi, t7 _ _ (by simp), he', qg, qH]
theorem qAi (x : Int) : ∀ l : List vq, wj x (shR l) = qjt x l
 | [] => rfl
 | s :: t => by
  rw [shR, qt2, qAi x t]; rfl
theorem qGZ (k : Nat) (hk : 3000 ≤ k) (l : List vq) (hl : l.length ≤ 40) (hr : ∀ s ∈ l, s.2.2.length ≤ 40) (x : Int) (he : Zl l = 0) : (qbZ k l x).isSome = true ∧ ((qd4 k l x).2 != (0 : Int)) = !wj x (shR l) := by
 obtain ⟨n, hn⟩ := qGe k hk l hl hr x he
 have hv : qd4 k l x = (n, bif qjt x l then 0 else 7) := by unfold qd4; rw [hn]; rfl
 rw [hn, hv, qAi]
 refine ⟨rfl, ?_⟩
 cases qjt x l <;> rfl
theorem qTo (k : Nat) (hk : 3000 ≤ k) (b : T17.T) (g : GB b) (he : Zl (b.2.2.2.2.2.2.2.2.2.2.2.2.2.2.2.2.2.1) = 0) (n : Int) (m : List Int) (hm : m.length ≤ 40) : ∀ (d i j : Nat) (out : List wP), i + d = m.length → out.length + d ≤ 100000 →
  Wh k (d + 1 + j) n m (i : Int) b out = Wt k j (qa .i64 (n + 1)) b (out ++ msR (shR (b.2.2.2.2.2.2.2.2.2.2.2.2.2.2.2.2.2.1)) (m.drop i)) := by
 have hS := g.bShipments
 intro d
 induction d with
 | zero =>
  intro i j out hi hf
  rw [show 0 + 1 + j = j + 1 by omega, Wh, qx (by omega : ¬ (i : Int) < (m.length : Int)), qg, qh (by omega), msR, qY]
 | succ d ih =>
  intro i j out hi hf
  obtain ⟨a1, a2⟩ := qGZ k hk (b.2.2.2.2.2.2.2.2.2.2.2.2.2.2.2.2.2.1) hS g.shp (m.getD i I.dflt) he
  have h3 : (0 : Int) ≤ (i : Int) := by omega
  have h4 : (i : Int) < (m.length : Int) := by omega
  rw [show d + 1 + 1 + j = (d + 1 + j) + 1 by omega, Wh, qA h4, qi, qc, a1, a2, qd ⟨h3, h4, rfl⟩, qd ⟨h3, h4, by simp only [qk]; omega⟩, qF i (by omega), qq m i I.dflt (by omega), msR]
  cases wj (m.getD i I.dflt) (shR (b.2.2.2.2.2.2.2.2.2.2.2.2.2.2.2.2.2.1))
  ·rw [qd1, qi, qi, ih (i + 1) j _ (by omega) (by rw [qn, qk]; omega), qw]
  ·rw [vB, qg, qg, ih (i + 1) j _ (by omega) (by omega), qH]
theorem qS3 (k : Nat) (hk : 3000 ≤ k) (b : T17.T) (g : GB b) (he : Zl (b.2.2.2.2.2.2.2.2.2.2.2.2.2.2.2.2.2.1) = 0) : ∀ (d i j : Nat) (out : List wP), i + d = b.2.2.2.2.2.2.2.2.2.2.2.2.2.2.2.1.length → d * 50 < j → out.length + d * 50 ≤ 50000 →
  Wt k j (i : Int) b out = some (out ++ msO (shR (b.2.2.2.2.2.2.2.2.2.2.2.2.2.2.2.2.2.1)) (b.2.2.2.2.2.2.2.2.2.2.2.2.2.2.2.1.drop i), 0) := by
 have hO := g.bOrders
 intro d
 induction d with
 | zero =>
  intro i j out hi hj hf
  obtain ⟨j, rfl⟩ := qQ (by omega : 0 < j)
  rw [Wt, qx (by omega : ¬ (i : Int) < (b.2.2.2.2.2.2.2.2.2.2.2.2.2.2.2.1.length : Int)), qg, qh (by omega : b.2.2.2.2.2.2.2.2.2.2.2.2.2.2.2.1.length ≤ i), msO, qY]
 | succ d ih =>
  intro i j out hi hj hf
  rw [qTX] at hj hf
  have hm := (g.ord _ (Vg (b.2.2.2.2.2.2.2.2.2.2.2.2.2.2.2.1) i T9.dflt (by omega))).2
  have hrw : b.2.2.2.2.2.2.2.2.2.2.2.2.2.2.2.1.drop i = b.2.2.2.2.2.2.2.2.2.2.2.2.2.2.2.1.getD i T9.dflt :: b.2.2.2.2.2.2.2.2.2.2.2.2.2.2.2.1.drop (i + 1) := qq (b.2.2.2.2.2.2.2.2.2.2.2.2.2.2.2.1) i T9.dflt (by omega)
  generalize hz : d * 50 = z at *
  obtain ⟨j, rfl⟩ : ∃ q, j = ((b.2.2.2.2.2.2.2.2.2.2.2.2.2.2.2.1.getD i T9.dflt).2.2.1.length + 1 + q) + 1 := ⟨j - (b.2.2.2.2.2.2.2.2.2.2.2.2.2.2.2.1.getD i T9.dflt).2.2.1.length - 2, by omega⟩
  have h := qTo k hk b g he (i : Int) (b.2.2.2.2.2.2.2.2.2.2.2.2.2.2.2.1.getD i T9.dflt).2.2.1 hm (b.2.2.2.2.2.2.2.2.2.2.2.2.2.2.2.1.getD i T9.dflt).2.2.1.length 0 j out (by omega) (by omega)
  rw [show ((0 : Nat) : Int) = 0 from rfl, wm] at h
  have hml := qi5 (shR (b.2.2.2.2.2.2.2.2.2.2.2.2.2.2.2.2.2.1)) (b.2.2.2.2.2.2.2.2.2.2.2.2.2.2.2.1.getD i T9.dflt).2.2.1
  rw [Wt, qA (by omega : (i : Int) < (b.2.2.2.2.2.2.2.2.2.2.2.2.2.2.2.1.length : Int)), qi, qd ⟨by omega, by omega⟩, qc, h, qF i (by omega), ih (i + 1) j _ (by omega) (by omega) (by rw [qn]; omega), hrw, msO, qw]
theorem qTr (k : Nat) (hk : 301000 ≤ k) (b : T17.T) (g : GB b) (n : Int) (m : List Int) (hm : m.length ≤ 40) : ∀ (d i j : Nat) (out : List wP), i + d = m.length → out.length + d ≤ 100000 →
  z6 k (d + 1 + j) n m (i : Int) b out = vZ k j (qa .i64 (n + 1)) b (out ++ Va b (m.drop i)) := by
 have hw := g.bWaivers
 have hO := g.bOrders
 intro d
 induction d with
 | zero =>
  intro i j out hi hf
  rw [show 0 + 1 + j = j + 1 by omega, z6, qx (by omega : ¬ (i : Int) < (m.length : Int)), qg, qh (by omega), Va, qY]
 | succ d ih =>
  intro i j out hi hf
  have h3 : (0 : Int) ≤ (i : Int) := by omega
  have h4 : (i : Int) < (m.length : Int) := by omega
  have hrw : m.drop i = m.getD i I.dflt :: m.drop (i + 1) := qq m i I.dflt (by omega)
  have hgs : qb8 k (b.2.2.2.2.2.2.2.2.2.2.2.1, (b.2.1, b.2.2.1), b.2.2.2.2.2.2.2.2.2.1, b.2.2.2.2.2.2.2.2.2.2.2.2.2.2.1, b.2.2.2.2.2.2.2.1, b.2.2.2.2.2.1) (m.getD i I.dflt) = some (QM b (m.getD i I.dflt)) := qfj k hk (b.2.2.2.2.2.2.2.2.2.2.2.1) (b.2.1) (b.2.2.1) (b.2.2.2.2.2.2.2.2.2.1) (b.2.2.2.2.2.2.2.2.2.2.2.2.2.2.1) (b.2.2.2.2.2.2.2.1) (b.2.2.2.2.2.1) (m.getD i I.dflt)
  have hgv : Q4 k (b.2.2.2.2.2.2.2.2.2.2.2.1, (b.2.1, b.2.2.1), b.2.2.2.2.2.2.2.2.2.1, b.2.2.2.2.2.2.2.2.2.2.2.2.2.2.1, b.2.2.2.2.2.2.2.1, b.2.2.2.2.2.1) (m.getD i I.dflt) = QM b (m.getD i I.dflt) := qoM k hk (b.2.2.2.2.2.2.2.2.2.2.2.1) (b.2.1) (b.2.2.1) (b.2.2.2.2.2.2.2.2.2.1) (b.2.2.2.2.2.2.2.2.2.2.2.2.2.2.1) (b.2.2.2.2.2.2.2.1) (b.2.2.2.2.2.1) (m.getD i I.dflt)
  have hrs : qir k b = some (b.2.2.2.2.2.2.2.2.2.2.2.1, (b.2.1, b.2.2.1), b.2.2.2.2.2.2.2.2.2.1, b.2.2.2.2.2.2.2.2.2.2.2.2.2.2.1, b.2.2.2.2.2.2.2.1, b.2.2.2.2.2.1) := rfl
  have hrv : WQ k b = (b.2.2.2.2.2.2.2.2.2.2.2.1, (b.2.1, b.2.2.1), b.2.2.2.2.2.2.2.2.2.1, b.2.2.2.2.2.2.2.2.2.2.2.2.2.2.1, b.2.2.2.2.2.2.2.1, b.2.2.2.2.2.1) := rfl
  have key : ∀ F : List wP, F.length ≤ out.length + 1 → z6 k (d + 1 + j) n m ((i + 1 : Nat) : Int) b F = vZ k j (qa .i64 (n + 1)) b (F ++ Va b (m.drop (i + 1))) := fun F hF => ih (i + 1) j F (by omega) (by omega)
  have hLI := qDx (m.getD i I.dflt) (b.2.2.2.2.2.2.2.2.2.2.2.2.2.2.2.1) 0
  rw [show d + 1 + 1 + j = (d + 1 + j) + 1 by omega, z6, qA h4, qi, qc, qpS k (by omega) b g, qBL k (by omega) b g, qd ⟨h3, h4, rfl⟩, qF i (by omega), hrs, hrv, hgs, hgv, hrw, Va]
  unfold qtv
  cases ho : qdV (m.getD i I.dflt) (b.2.2.2.2.2.2.2.2.2.2.2.2.2.2.2.1) 0 with
  | none =>
   rw [ho] at hLI
   have hL : Ym (m.getD i I.dflt) (b.2.2.2.2.2.2.2.2.2.2.2.2.2.2.2.1) = none := hLI
   rw [hL, show decide (qiR none < (0 : Int)) = true from rfl, qi, qd ⟨h3, h4, by simp only [qk]; omega⟩, key _ (by simp), qw]
  | some q =>
   rw [ho] at hLI
   obtain ⟨_, q2, q3⟩ := hLI
   rw [Nat.sub_zero] at q2 q3
   have e1 := qmA k (by omega) (b.2.2.2.2.2.2.2.2.2.2.2.2.2.2.2.1.getD q T9.dflt).1 (QM b (m.getD i I.dflt)).1 (m.getD i I.dflt) (b.2.2.2.2.2.2.2.2.2.2.2.2.2.2.2.2.1) hw
   have e2 := qxv k (by omega) (b.2.2.2.2.2.2.2.2.2.2.2.2.2.2.2.1.getD q T9.dflt).1 (QM b (m.getD i I.dflt)).1 (m.getD i I.dflt) (b.2.2.2.2.2.2.2.2.2.2.2.2.2.2.2.2.1) hw
   have n1 : (0 : Int) ≤ qiR (some q) := by show (0 : Int) ≤ (q : Int); omega
   have n2 : qiR (some q) < (b.2.2.2.2.2.2.2.2.2.2.2.2.2.2.2.1.length : Int) := by show (q : Int) < _; omega
   have n3 : (qiR (some q)).toNat = q := rfl
   rw [q3, qx (by omega : ¬ qiR (some q) < 0), qg, qd ⟨rfl, h3, h4, rfl⟩, n3, e1, e2]
   show _ = vZ k j (qa .i64 (n + 1)) b (out ++ ((bif qfu b (b.2.2.2.2.2.2.2.2.2.2.2.2.2.2.2.1.getD q T9.dflt).1 (m.getD i I.dflt) != 0 then [(7, m.getD i I.dflt, qfu b (b.2.2.2.2.2.2.2.2.2.2.2.2.2.2.2.1.getD q T9.dflt).1 (m.getD i I.dflt))] else []) ++ Va b (m.drop (i + 1))))
   unfold qfu
   cases hz : ((QM b (m.getD i I.dflt)).2 == (0 : Int))
   ·have hz' : ((QM b (m.getD i I.dflt)).2 != (0 : Int)) = true := by rw [bne, hz]; rfl
    rw [qg, qg, hz', qi, qi, qd ⟨h3, h4, by simp only [qk]; omega⟩, key _ (by simp), qw]
   ·rw [qi, qi, qd ⟨n1, n2, h3, h4, rfl⟩]
    cases (qfV (b.2.2.2.2.2.2.2.2.2.2.2.2.2.2.2.1.getD q T9.dflt).1 (QM b (m.getD i I.dflt)).1 (m.getD i I.dflt) (b.2.2.2.2.2.2.2.2.2.2.2.2.2.2.2.2.1) != (0 : Int))
    ·rw [qg, qg, key _ (by omega), qH]
    ·rw [qi, qi, qd ⟨h3, h4, by simp only [qk]; omega⟩, key _ (by simp), qw]
theorem qSW (k : Nat) (hk : 301000 ≤ k) (b : T17.T) (g : GB b) (he : Zl (b.2.2.2.2.2.2.2.2.2.2.2.2.2.2.2.2.2.1) = 0) : ∀ (d i j : Nat) (out : List wP), i + d = b.2.2.2.2.2.2.2.2.2.2.2.2.2.2.2.2.2.1.length → d * 50 + 3000 < j → out.length + d * 50 ≤ 40000 →
  vZ k j (i : Int) b out = some (out ++ (Vt b (b.2.2.2.2.2.2.2.2.2.2.2.2.2.2.2.2.2.1.drop i) ++ msO (shR (b.2.2.2.2.2.2.2.2.2.2.2.2.2.2.2.2.2.1)) (b.2.2.2.2.2.2.2.2.2.2.2.2.2.2.2.1)), 0) := by
 have hO := g.bOrders
 have hS := g.bShipments
 intro d
 induction d with
 | zero =>
  intro i j out hi hj hf
  obtain ⟨j, rfl⟩ := qQ (by omega : 0 < j)
  rw [vZ, qx (by omega : ¬ (i : Int) < (b.2.2.2.2.2.2.2.2.2.2.2.2.2.2.2.2.2.1.length : Int)), qg, qh (by omega : b.2.2.2.2.2.2.2.2.2.2.2.2.2.2.2.2.2.1.length ≤ i), Vt, qH]
  have := qS3 k (by omega) b g he (b.2.2.2.2.2.2.2.2.2.2.2.2.2.2.2.1.length) 0 j out (by omega) (by omega) (by omega)
  exact this
 | succ d ih =>
  intro i j out hi hj hf
  rw [qTX] at hj hf
  have hm := g.shp _ (Vg (b.2.2.2.2.2.2.2.2.2.2.2.2.2.2.2.2.2.1) i T11.dflt (by omega))
  have hrw : b.2.2.2.2.2.2.2.2.2.2.2.2.2.2.2.2.2.1.drop i = b.2.2.2.2.2.2.2.2.2.2.2.2.2.2.2.2.2.1.getD i T11.dflt :: b.2.2.2.2.2.2.2.2.2.2.2.2.2.2.2.2.2.1.drop (i + 1) := qq (b.2.2.2.2.2.2.2.2.2.2.2.2.2.2.2.2.2.1) i T11.dflt (by omega)
  generalize hz : d * 50 = z at *
  obtain ⟨j, rfl⟩ : ∃ q, j = ((b.2.2.2.2.2.2.2.2.2.2.2.2.2.2.2.2.2.1.getD i T11.dflt).2.2.length + 1 + q) + 1 := ⟨j - (b.2.2.2.2.2.2.2.2.2.2.2.2.2.2.2.2.2.1.getD i T11.dflt).2.2.length - 2, by omega⟩
  have h := qTr k hk b g (i : Int) (b.2.2.2.2.2.2.2.2.2.2.2.2.2.2.2.2.2.1.getD i T11.dflt).2.2 hm (b.2.2.2.2.2.2.2.2.2.2.2.2.2.2.2.2.2.1.getD i T11.dflt).2.2.length 0 j out (by omega) (by omega)
  rw [show ((0 : Nat) : Int) = 0 from rfl, wm] at h
  have hml := qcR b (b.2.2.2.2.2.2.2.2.2.2.2.2.2.2.2.2.2.1.getD i T11.dflt).2.2
  rw [vZ, qA (by omega : (i : Int) < (b.2.2.2.2.2.2.2.2.2.2.2.2.2.2.2.2.2.1.length : Int)), qi, qd ⟨by omega, by omega⟩, qc, h, qF i (by omega), ih (i + 1) j _ (by omega) (by omega) (by rw [qn]; omega), hrw, Vt, qw, qw]
theorem R_6 (k : Nat) (hk : 301000 ≤ k) (b : T17.T) (g : GB b) : ∀ (d i j : Nat) (out : List wP), i + d = b.2.2.2.2.2.2.2.2.2.2.2.2.2.2.2.1.length → d + 6000 < j → out.length + d * 200 ≤ 15000 →
  VO k j (i : Int) b out = some (out ++ (qaL (tkR (b.2.2.2.2.2.2.2.2.2.2.2.2.2.2.2.1.take i)) (b.2.2.2.2.2.2.2.2.2.2.2.2.2.2.2.1.drop i) ++ Y8 b), 0) := by
 have hO := g.bOrders
 have hS := g.bShipments
 intro d
 induction d with
 | zero =>
  intro i j out hi hj hf
  obtain ⟨j, rfl⟩ := qQ (by omega : 0 < j)
  rw [VO, qx (by omega : ¬ (i : Int) < (b.2.2.2.2.2.2.2.2.2.2.2.2.2.2.2.1.length : Int)), qg, qh (by omega : b.2.2.2.2.2.2.2.2.2.2.2.2.2.2.2.1.length ≤ i), qaL, qH, qpe k (by omega) _ hS g.shp, qxj k (by omega) _ hS g.shp, qb, qd rfl]
  have q0 : b.2.2.2.2.2.2.2.2.2.2.2.2.2.2.2.2.2.1.length * 50 ≤ 2000 := vT 50 hS
  have q3 : out.length + 2000 ≤ 40000 := by clear q0 hS; omega
  have q4 : 2000 + 3000 < j := by clear q0 hS q3; omega
  have q1 : b.2.2.2.2.2.2.2.2.2.2.2.2.2.2.2.2.2.1.length * 50 + 3000 < j := Nat.lt_of_le_of_lt (Nat.add_le_add_right q0 3000) q4
  have q2 : out.length + b.2.2.2.2.2.2.2.2.2.2.2.2.2.2.2.2.2.1.length * 50 ≤ 40000 := Nat.le_trans (Nat.add_le_add_left q0 _) q3
  unfold Y8
  cases h : (Zl (b.2.2.2.2.2.2.2.2.2.2.2.2.2.2.2.2.2.1) != 0)
  ·have he : Zl (b.2.2.2.2.2.2.2.2.2.2.2.2.2.2.2.2.2.1) = 0 := by simpa using h
   have h13 := qSW k hk b g he (b.2.2.2.2.2.2.2.2.2.2.2.2.2.2.2.2.2.1.length) 0 j out (Yd _) q1 q2
   rw [show ((0 : Nat) : Int) = 0 from rfl, wm] at h13
   rw [qg, qg, h13]
  ·rw [qi, qi, qd (by simp only [qk]; omega)]
 | succ d ih =>
  intro i j out hi hj hf
  rw [qTX] at hf
  obtain ⟨m1, m2⟩ := g.ord _ (Vg (b.2.2.2.2.2.2.2.2.2.2.2.2.2.2.2.1) i T9.dflt (by omega))
  have hrw : b.2.2.2.2.2.2.2.2.2.2.2.2.2.2.2.1.drop i = b.2.2.2.2.2.2.2.2.2.2.2.2.2.2.2.1.getD i T9.dflt :: b.2.2.2.2.2.2.2.2.2.2.2.2.2.2.2.1.drop (i + 1) := qq (b.2.2.2.2.2.2.2.2.2.2.2.2.2.2.2.1) i T9.dflt (by omega)
  have htk : b.2.2.2.2.2.2.2.2.2.2.2.2.2.2.2.1.take (i + 1) = b.2.2.2.2.2.2.2.2.2.2.2.2.2.2.2.1.take i ++ [b.2.2.2.2.2.2.2.2.2.2.2.2.2.2.2.1.getD i T9.dflt] := wR (b.2.2.2.2.2.2.2.2.2.2.2.2.2.2.2.1) i T9.dflt (by omega)
  have h1 := qSe k (by omega) b g i (by omega)
  have hv : qeq k b (i : Int) = hdS (b.2.2.2.2.2.2.2.2.2.2.2.2.2.2.2.1.getD i T9.dflt) ++ (Xp (b.2.2.2.2.2.2.2.2.2.2.2.2.2.2.2.1.getD i T9.dflt).1.1 (tkR (b.2.2.2.2.2.2.2.2.2.2.2.2.2.2.2.1.take i)) [] (b.2.2.2.2.2.2.2.2.2.2.2.2.2.2.2.1.getD i T9.dflt).2.1 ++ Vi (b.2.2.2.2.2.2.2.2.2.2.2.2.2.2.2.1.getD i T9.dflt).1.1 (b.2.2.2.2.2.2.2.2.2.2.2.2.2.2.2.1.getD i T9.dflt).2.1 [] (b.2.2.2.2.2.2.2.2.2.2.2.2.2.2.2.1.getD i T9.dflt).2.2.1) := by unfold qeq; rw [h1]; rfl
  have ha := qnN (b.2.2.2.2.2.2.2.2.2.2.2.2.2.2.2.1.getD i T9.dflt)
  have hb := qeg (b.2.2.2.2.2.2.2.2.2.2.2.2.2.2.2.1.getD i T9.dflt).1.1 (tkR (b.2.2.2.2.2.2.2.2.2.2.2.2.2.2.2.1.take i)) (b.2.2.2.2.2.2.2.2.2.2.2.2.2.2.2.1.getD i T9.dflt).2.1 []
  have hc := qiY (b.2.2.2.2.2.2.2.2.2.2.2.2.2.2.2.1.getD i T9.dflt).1.1 (b.2.2.2.2.2.2.2.2.2.2.2.2.2.2.2.1.getD i T9.dflt).2.1 (b.2.2.2.2.2.2.2.2.2.2.2.2.2.2.2.1.getD i T9.dflt).2.2.1 []
  generalize hz : d * 200 = z at *
  obtain ⟨j, rfl⟩ := qQ (by omega : 0 < j)
  rw [VO, qA (by omega : (i : Int) < (b.2.2.2.2.2.2.2.2.2.2.2.2.2.2.2.1.length : Int)), qi, h1, hv, qd ⟨rfl, by rw [qn, qn]; omega⟩, qF i (by omega), ih (i + 1) j _ (by omega) (by omega) (by rw [qn, qn, qn]; omega), hrw, qaL, htk, qvC]
  have e : tkR [b.2.2.2.2.2.2.2.2.2.2.2.2.2.2.2.1.getD i T9.dflt] = (b.2.2.2.2.2.2.2.2.2.2.2.2.2.2.2.1.getD i T9.dflt).2.1 := qY _
  rw [e]
  simp only [qw]
theorem qp0 (k : Nat) (hk : 301000 ≤ k) (b : T17.T) (g : GB b) : qeR k b = some (zB b, 0) := by
 have hO := g.bOrders
 unfold qeR zB
 rw [qAV k (by omega) b g, qPW k (by omega) b g, qb, qd rfl, bne_self_eq_false, qg]
 have := R_6 k hk b g (b.2.2.2.2.2.2.2.2.2.2.2.2.2.2.2.1.length) 0 k [] (by omega) (by omega) (by simp; omega)
 exact this
theorem qzF (k : Nat) (hk : 301000 ≤ k) (b : T17.T) (g : GB b) : QH k b = (zB b, 0) := by
 unfold QH; rw [qp0 k hk b g]; rfl
theorem qsf (k : Nat) (hk : 301000 ≤ k) (b : T17.T) (g : GB b) : qnL k b = some (zB b, 0) := by
 have h1 : qjX k b = some (zB b, 0) := by
  unfold qjX
  have e1 : qsY k b [] = some b := rfl
  have e2 : qud k b [] = b := rfl
  obtain ⟨k', rfl⟩ : ∃ q, k = q + 2 := ⟨k - 2, by omega⟩
  rw [qDO _ (by omega) b g, qPE _ (by omega) b g, e1, e2, qb, qd rfl, qg, qb, qd rfl]
  rw [Y4, qd ⟨by omega, by decide⟩, qtF _ hk b g [] (by simp), qGl _ hk b g [] (by simp), qb, qd rfl, qab]
  rfl
 unfold qnL
 rw [show qiV k b = (zB b, 0) by unfold qiV; rw [h1]; rfl, h1, qb, qd rfl]
theorem qF4 (k : Nat) (hk : 301000 ≤ k) (b : T17.T) (g : GB b) : XO k b = (zB b, 0) := by
 unfold XO; rw [qsf k hk b g]; rfl
theorem qws (sent : List Int) : ∀ l : List VC, (∀ s ∈ l, s.2.2.1.length ≤ 40) → (msO sent l).length ≤ l.length * 40
 | [], _ => z8 _
 | s :: t, h => by
  have h1 := qi5 sent s.2.2.1
  have h2 := h s (by simp)
  have h3 := qws sent t (fun x hx => h x (by simp [hx]))
  rw [msO, qn, wc, qTX]
  omega
theorem qmy (b : T17.T) : ∀ l : List vq, (∀ s ∈ l, s.2.2.length ≤ 40) → (Vt b l).length ≤ l.length * 40
 | [], _ => z8 _
 | s :: t, h => by
  have h1 := qcR b s.2.2
  have h2 := h s (by simp)
  have h3 := qmy b t (fun x hx => h x (by simp [hx]))
  rw [Vt, qn, wc, qTX]
  omega
theorem qt0 : ∀ (l : List VC) (tk : List Int), (∀ s ∈ l, s.2.1.length ≤ 40 ∧ s.2.2.1.length ≤ 40) → (qaL tk l).length ≤ l.length * 200
 | [], _, _ => z8 _
 | s :: t, tk, h => by
  have h1 := qnN s
  have h2 := qeg s.1.1 tk s.2.1 []
  have h3 := qiY s.1.1 s.2.1 s.2.2.1 []
  obtain ⟨m1, m2⟩ := h s (by simp)
  have h4 := qt0 t (tk ++ s.2.1) (fun x hx => h x (by simp [hx]))
  rw [qaL, qn, qn, qn, wc, qTX]
  omega
theorem quz (b : T17.T) (g : GB b) : (zB b).length ≤ 20000 := by
 have h1 := qt0 (b.2.2.2.2.2.2.2.2.2.2.2.2.2.2.2.1) [] g.ord
 have h2 := qws (shR (b.2.2.2.2.2.2.2.2.2.2.2.2.2.2.2.2.2.1)) (b.2.2.2.2.2.2.2.2.2.2.2.2.2.2.2.1) (fun s h => (g.ord s h).2)
 have h3 := qmy b (b.2.2.2.2.2.2.2.2.2.2.2.2.2.2.2.2.2.1) g.shp
 have hO := g.bOrders
 have hS := g.bShipments
 unfold zB Y8
 rw [qn]
 cases (Zl (b.2.2.2.2.2.2.2.2.2.2.2.2.2.2.2.2.2.1) != 0)
 ·rw [qg, qn]; omega
 ·rw [qi, qk]; omega
theorem qqR (k : Nat) (hk : 301000 ≤ k) (aw : qfz k = some true) (b : T17.T) (hw : Wf T17 b) : qy9 k b = some true := by
 obtain ⟨r, h1, h2⟩ := qLm k (by omega) b hw
 have av : qae k = true := by unfold qae; rw [aw]; rfl
 have gv : qmD k b = r := by unfold qmD; rw [h1]; rfl
 unfold qy9
 rw [h1, gv, aw, av, qb, qd rfl]
 cases r with
 | true => rfl
 | false =>
  have g := h2 rfl
  have hl := quz b g
  rw [qg, qsf k hk b g, qF4 k hk b g, qp0 k hk b g, qzF k hk b g]
  show (if true = true then (if true = true then (bif ((0 : Int) == 0) then (bif (true && qaY k (zB b) (zB b)) then (if (((0 : Int) == 0) = true) ∧ ((qdk k (zB b) (zB b)).isSome = true) ∧ ((true && qaY k (zB b) (zB b)) = true) ∧ _ then _ else _) else _) else _) else _) else _) = _
  rw [qm9 k _ (by omega) (by omega), qza k _ (by omega) (by omega)]
  rfl
end Go.AM
