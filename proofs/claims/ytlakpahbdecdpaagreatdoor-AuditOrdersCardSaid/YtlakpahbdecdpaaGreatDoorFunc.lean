/- Contracts of the functions that the law reaches, and the plain law. -/
import Derived.Test.YtlakpahbdecdpaaGreatDoorFunb
set_option linter.unusedVariables false
set_option linter.unusedSimpArgs false
set_option linter.unusedSectionVars false
open Bool renaming false_and → wD, false_or → zn, not_false → qd1, not_true → vB, true_and → ww, true_or → zX
open ByteArray renaming size → vd
open Int renaming toNat → qt, toNat_natCast → qc
open List renaming append_assoc → qw, append_nil → qY, drop → qaJ, drop_of_length_le → qh, drop_zero → wm, getD → qM, length → qe, length_append → qn, length_singleton → qk, length_take → Qt, mem_append → zW, mem_cons → qK, take → qdv, take_append_drop → qnA, take_of_length_le → wI
open Nat renaming succ_mul → qTX
open Option renaming getD_some → qRI, isSome_some → qb
open Go.IntKind renaming wrap → qa
namespace Go.AM
open Go Go.Proofs
noncomputable section
abbrev qAm (a : List T5.T) (b : Int) (d : Int) (e : Int) (r : Int) : Prop := CC Tryz.prog 86 [ro T5 a, ri b, ri d, ri e] [] (ri r) (nb r)
def qyb := fun y0 y1 y2 => (⟨qI 109 [(3, ri y0), (11, .ptr 1000000 0 0), (13, ri y1)], [(1000000, 0, .var 45 (qy (qr T4 y2)))]⟩ : St)
def QG (k : Nat) : Nat → Int → Int → T4.T → Option Int
 | 0, _, _, _ => none
 | j + 1, y0, y1, y2 =>
 bif y1 < (↑ (qe y2.2.2.2) : Int) then
 if (0 ≤ y1) ∧ (y1 < (↑ (qe y2.2.2.2) : Int)) ∧ ((qar k (qM y2.2.2.2 y1.toNat T3.dflt)).isSome) then
 bif (X6 k (qM y2.2.2.2 y1.toNat T3.dflt)).2 ≥ y0 then
 some 21
 else
 QG k j y0 (qa .i64 (y1 + 1)) y2
 else none
 else
 some 0
def qeW (k : Nat) (a : List T5.T) (b : Int) (d : Int) (e : Int) : Option Int :=
 if (0 ≤ b) ∧ (b < a.length) then
 bif (decide ((a.getD b.toNat T5.dflt).1 < (1 : Int)) || decide ((a.getD b.toNat T5.dflt).1 > (1000000 : Int))) then
 some 1
 else
 bif ((a.getD b.toNat T5.dflt).2.1 != (0 : Int)) then
 if ((Vu k a b (a.getD b.toNat T5.dflt).2.1).isSome) then
 bif wa k a b (a.getD b.toNat T5.dflt).2.1 < (0 : Int) then
 some 7
 else
 if ((0 : Int) ≤ wa k a b (a.getD b.toNat T5.dflt).2.1) ∧ (wa k a b (a.getD b.toNat T5.dflt).2.1 < (↑a.length : Int)) then
 if ((0 : Int) ≤ wa k a b (a.getD b.toNat T5.dflt).2.1) ∧ (wa k a b (a.getD b.toNat T5.dflt).2.1 < (↑a.length : Int)) ∧ ((qaj k (a.getD (qt (wa k a b (a.getD b.toNat T5.dflt).2.1)) T5.dflt).2.2.2.2.2).isSome) then
 bif (decide ((a.getD b.toNat T5.dflt).2.2.1 < (0 : Int)) || decide ((a.getD b.toNat T5.dflt).2.2.2.1 < (1 : Int)) || decide ((a.getD b.toNat T5.dflt).2.2.1 > (a.getD (qt (wa k a b (a.getD b.toNat T5.dflt).2.1)) T5.dflt).2.2.2.1) || decide ((a.getD b.toNat T5.dflt).2.2.2.1 > qa .i64 ((a.getD (qt (wa k a b (a.getD b.toNat T5.dflt).2.1)) T5.dflt).2.2.2.1 - (a.getD b.toNat T5.dflt).2.2.1))) then
 some 20
 else
 if ((Z6 k (a.getD b.toNat T5.dflt).2.2.2.2.2).isSome) then
 bif (vS k (a.getD b.toNat T5.dflt).2.2.2.2.2 != (0 : Int)) then
 some (vS k (a.getD b.toNat T5.dflt).2.2.2.2.2)
 else
 bif ((↑ (qe (a.getD b.toNat T5.dflt).2.2.2.2.2) : Int) == (0 : Int)) then
 some 10
 else
 if ((qdo k (a.getD b.toNat T5.dflt).2.2.2.2.2).isSome) then
 bif (!qfo k (a.getD b.toNat T5.dflt).2.2.2.2.2) then
 some 12
 else
 QG k k (Vx k (a.getD (qt (wa k a b (a.getD b.toNat T5.dflt).2.1)) T5.dflt).2.2.2.2.2) 0 ((a.getD b.toNat T5.dflt).2.2)
 else none
 else none
 else none
 else none
 else none
 else
 bif (decide ((a.getD b.toNat T5.dflt).2.2.1 < (0 : Int)) || decide ((a.getD b.toNat T5.dflt).2.2.2.1 < (1 : Int)) || decide ((a.getD b.toNat T5.dflt).2.2.1 > d) || decide ((a.getD b.toNat T5.dflt).2.2.2.1 > qa .i64 (d - (a.getD b.toNat T5.dflt).2.2.1))) then
 some 20
 else
 if ((Z6 k (a.getD b.toNat T5.dflt).2.2.2.2.2).isSome) then
 bif (vS k (a.getD b.toNat T5.dflt).2.2.2.2.2 != (0 : Int)) then
 some (vS k (a.getD b.toNat T5.dflt).2.2.2.2.2)
 else
 bif ((↑ (qe (a.getD b.toNat T5.dflt).2.2.2.2.2) : Int) == (0 : Int)) then
 some 10
 else
 if ((qdo k (a.getD b.toNat T5.dflt).2.2.2.2.2).isSome) then
 bif (!qfo k (a.getD b.toNat T5.dflt).2.2.2.2.2) then
 some 12
 else
 QG k k e 0 ((a.getD b.toNat T5.dflt).2.2)
 else none
 else none
 else none
def qd2 := fun k a b d e => (qeW k a b d e).getD 0
def qNg (k : Nat) : Ke := (86, mo 4, fun
 | [.r (.ro g f), .r (.v (.int .i64 b)), .r (.v (.int .i64 d)), .r (.v (.int .i64 e))], [] => (qE g T5 f).bind fun a => some (.one (ri (qd2 k a b d e), []))
 | _, _ => none)
def qEI (k : Nat) : Calld := qD [qjr k, qom k, qeb k, qOw k, qoA k]
def qvL : List (Nat × List Cmd) := [(21, [.autoB [3, 11, 13] false []])]
abbrev qO7 := EP Tryz.f86 0 ri nb
theorem qnF (k) : ∀ j, (∀ y0 y1 y2, qO7 21 (qyb y0 y1 y2) (QG k j y0 y1 y2))
 | 0 => by intros; exact e0
 | j + 1 => by
  have ih := @qnF k j
  ·intro y0 y1 y2 r h
   rw [QG] at h
   exact go (qEI k) [] qvL [.autoB [8] true []] (gS h (fun h => gN h (fun q => qf q.1 (qf q.2.1 (qf (qoo q.2.2) qR))) fun h => qB h fun h => gC h 21 (ih _ _ _ _)) fun h => gL h)
theorem qM7 (k a b d e r) (h : qeW k a b d e = some r): qAm a b d e r := qN Tryz.f86 (go (qEI k) [] qvL [.autoB [8] true []] (qS h fun h => qB h fun h => gS h (fun h => qu h qjw fun h => qB h fun h => qS h fun h => gN h (fun q => qf q.1 (qf q.2.1 (qf (qnR q.2.2) qR))) fun h => qB h fun h => qu h qbV fun h => qB h fun h => qB h fun h => qu h qCR fun h => qB h fun h => gC h 21 ((qnF k k) _ _ _ _)) fun h => qB h fun h => qu h qbV fun h => qB h fun h => qB h fun h => qu h qCR fun h => qB h fun h => gC h 21 ((qnF k k) _ _ _ _)))
theorem qKS {k a b d e} (h : (qeW k a b d e).isSome): qAm a b d e (qd2 k a b d e) := qJ h (qM7 k a b d e)
abbrev qCo (a : List T5.T) (b : Int) (d : Int) (r : Int) : Prop := CC Tryz.prog 42 [ro T5 a, ri b, ri d] [] (ri r) (nb r)
def qDu := fun y0 y1 y2 y3 => (⟨qI 119 [(0, ro T5 y0), (1, ri y1), (2, ri y2), (7, ri y3)], []⟩ : St)
def qxy := fun y0 y1 => (⟨qI 119 [(0, ro T5 y0), (9, ri y1)], []⟩ : St)
def qys := fun y0 y1 => (⟨qI 119 [(0, ro T5 y0), (10, ri y1)], []⟩ : St)
def qyG := fun y0 y1 y2 => (⟨qI 119 [(0, ro T5 y0), (10, ri y1), (11, ri y2)], []⟩ : St)
mutual
def Zy (k : Nat) : Nat → List T5.T → Int → Int → Int → Option Int
 | 0, _, _, _, _ => none
 | j + 1, y0, y1, y2, y3 =>
 bif y3 < y0.length then
 if ((qeW k y0 y3 y1 y2).isSome) then
 bif (qd2 k y0 y3 y1 y2 != 0) then
 some (qd2 k y0 y3 y1 y2)
 else
 Zy k j y0 y1 y2 (qa .i64 (y3 + 1))
 else none
 else
 ZJ k j y0 0
def ZJ (k : Nat) : Nat → List T5.T → Int → Option Int
 | 0, _, _ => none
 | j + 1, y0, y1 =>
 bif y1 < y0.length then
 if (0 ≤ y1) ∧ (y1 < y0.length) ∧ ((Vu k y0 y1 (y0.getD y1.toNat T5.dflt).1).isSome) then
 bif wa k y0 y1 (y0.getD y1.toNat T5.dflt).1 ≥ (0 : Int) then
 some 6
 else
 ZJ k j y0 (qa .i64 (y1 + 1))
 else none
 else
 Wq k j y0 0
def Wq (k : Nat) : Nat → List T5.T → Int → Option Int
 | 0, _, _ => none
 | j + 1, y0, y1 =>
 bif y1 < y0.length then
 Wo k j y0 y1 0
 else
 some 0
def Wo (k : Nat) : Nat → List T5.T → Int → Int → Option Int
 | 0, _, _, _ => none
 | j + 1, y0, y1, y2 =>
 bif y2 < y1 then
 if (0 ≤ y1) ∧ (y1 < y0.length) then
 if (0 ≤ y2) ∧ (y2 < y0.length) then
 bif ((y0.getD y1.toNat T5.dflt).2.1 == (y0.getD y2.toNat T5.dflt).2.1 && decide ((y0.getD y1.toNat T5.dflt).2.2.1 < qa .i64 ((y0.getD y2.toNat T5.dflt).2.2.1 + (y0.getD y2.toNat T5.dflt).2.2.2.1)) && decide ((y0.getD y2.toNat T5.dflt).2.2.1 < qa .i64 ((y0.getD y1.toNat T5.dflt).2.2.1 + (y0.getD y1.toNat T5.dflt).2.2.2.1))) then
 if (0 ≤ y1) ∧ (y1 < y0.length) ∧ (0 ≤ y2) ∧ (y2 < y0.length) ∧ (((y0.getD y1.toNat T5.dflt).2.1 == (y0.getD y2.toNat T5.dflt).2.1 && decide ((y0.getD y1.toNat T5.dflt).2.2.1 < qa .i64 ((y0.getD y2.toNat T5.dflt).2.2.1 + (y0.getD y2.toNat T5.dflt).2.2.2.1)) && decide ((y0.getD y2.toNat T5.dflt).2.2.1 < qa .i64 ((y0.getD y1.toNat T5.dflt).2.2.1 + (y0.getD y1.toNat T5.dflt).2.2.2.1))) = true) ∧ ((qeJ k (y0.getD y1.toNat T5.dflt).2.2.2.2.2 (y0.getD y2.toNat T5.dflt).2.2.2.2.2).isSome) then
 bif (true && qhH k (y0.getD y1.toNat T5.dflt).2.2.2.2.2 (y0.getD y2.toNat T5.dflt).2.2.2.2.2) then
 some 12
 else
 Wo k j y0 y1 (qa .i64 (y2 + 1))
 else none
 else
 if (0 ≤ y1) ∧ (y1 < y0.length) ∧ (0 ≤ y2) ∧ (y2 < y0.length) ∧ (((y0.getD y1.toNat T5.dflt).2.1 == (y0.getD y2.toNat T5.dflt).2.1 && decide ((y0.getD y1.toNat T5.dflt).2.2.1 < qa .i64 ((y0.getD y2.toNat T5.dflt).2.2.1 + (y0.getD y2.toNat T5.dflt).2.2.2.1)) && decide ((y0.getD y2.toNat T5.dflt).2.2.1 < qa .i64 ((y0.getD y1.toNat T5.dflt).2.2.1 + (y0.getD y1.toNat T5.dflt).2.2.2.1))) = false) then
 Wo k j y0 y1 (qa .i64 (y2 + 1))
 else none
 else none
 else none
 else
 Wq k j y0 (qa .i64 (y1 + 1))
end
def qfh (k : Nat) (a : List T5.T) (b : Int) (d : Int) : Option Int :=
 bif (decide (b < 1) || decide (b > 12000) || decide (d < 0) || decide (d > 17179869184)) then
 some 1
 else
 bif (↑a.length : Int) > (512 : Int) then
 some 8
 else
 Zy k k a b d 0
def qfg := fun k a b d => (qfh k a b d).getD 0
def qLx (k : Nat) : Ke := (42, mo 3, fun
 | [.r (.ro f e), .r (.v (.int .i64 b)), .r (.v (.int .i64 d))], [] => (qE f T5 e).bind fun a => some (.one (ri (qfg k a b d), []))
 | _, _ => none)
def qDE (k : Nat) : Calld := qD [qjr k, qNg k, qMH k]
def qxd : List (Nat × List Cmd) := [(6, [.autoB [0, 1, 2, 7] false []]), (12, [.autoB [0, 9] false []]), (17, [.autoB [0, 10] false []]), (20, [.autoB [0, 10, 11] false []])]
abbrev ql2 := EP Tryz.f42 0 ri nb
theorem qwg (k) : ∀ j, (∀ {y0 y1 y2 y3}, ql2 6 (qDu y0 y1 y2 y3) (Zy k j y0 y1 y2 y3)) ∧ (∀ {y0 y1}, ql2 12 (qxy y0 y1) (ZJ k j y0 y1)) ∧ (∀ {y0 y1}, ql2 17 (qys y0 y1) (Wq k j y0 y1)) ∧ (∀ {y0 y1 y2}, ql2 20 (qyG y0 y1 y2) (Wo k j y0 y1 y2))
 | 0 => by and_intros <;> intros <;> exact e0
 | j + 1 => by
  have ih := @qwg k j
  have g := @go (qDE k) [] qxd [.autoB [6] true []]
  refine ⟨?_, ?_, ?_, ?_⟩
  ·intro y0 y1 y2 y3 r h
   rw [Zy] at h
   exact g (gS h (fun h => qu h qKS fun h => qB h fun h => gD h 6 ih.1) fun h => gD h 12 ih.2.1)
  ·intro y0 y1 r h
   rw [ZJ] at h
   exact g (gS h (fun h => gN h (fun q => qf q.1 (qf q.2.1 (qf (qjw q.2.2) qR))) fun h => qB h fun h => gD h 12 ih.2.1) fun h => gD h 17 ih.2.2.1)
  ·intro y0 y1 r h
   rw [Wq] at h
   exact g (gS h (fun h => gD h 20 ih.2.2.2) fun h => gL h)
  ·intro y0 y1 y2 r h
   rw [Wo] at h
   exact g (gS h (fun h => qS h fun h => qS h fun h => gS h (fun h => gN h (fun q => qf q.1 (qf q.2.1 (qf q.2.2.1 (qf q.2.2.2.1 (qf q.2.2.2.2.1 (qf (qLd q.2.2.2.2.2) qR)))))) fun h => qB h fun h => gD h 20 ih.2.2.2) fun h => gN h (fun q => qf q.1 (qf q.2.1 (qf q.2.2.1 (qf q.2.2.2.1 (qf q.2.2.2.2 qR))))) fun h => gU2 h (.leaf (.r (.v (.int .i64 12))) []) fun h => gD h 20 ih.2.2.2) fun h => gD h 17 ih.2.2.1)
theorem qKq (k a b d r) (h : qfh k a b d = some r): qCo a b d r := qN Tryz.f42 (go (qDE k) [] qxd [.autoB [6] true []] (qB h fun h => qB h fun h => gD h 6 (qwg k k).1))
theorem qKf {k a b d} (h : (qfh k a b d).isSome): qCo a b d (qfg k a b d) := qJ h (qKq k a b d)
end
theorem qsP (k : Nat) (n : Int) (c : Ch) (hm : goods c.2.2.2) (hl : c.2.2.2.length ≤ 256) : ∀ (d i j : Nat), i + d = c.2.2.2.length → d < j →
  QG k j n (i : Int) c = some (if fitsIn n (c.2.2.2.drop i) then 0 else 21) := by
 intro d
 induction d with
 | zero =>
  intro i j hi hj
  obtain ⟨j, rfl⟩ := qQ (by omega : 0 < j)
  rw [QG, qx (by omega : ¬ (i : Int) < (c.2.2.2.length : Int)), qg, qh (by omega), qd (by trivial)]
 | succ d ih =>
  intro i j hi hj
  obtain ⟨j, rfl⟩ := qQ (by omega : 0 < j)
  have hg : good (c.2.2.2.getD i T3.dflt) := hm.mem _ (w9 _ _ _ (by omega))
  rw [QG, qA (by omega : (i : Int) < (c.2.2.2.length : Int)), qi, qc, XA k _ hg, qcd k _ hg, qd ⟨by omega, by omega, rfl⟩, qq c.2.2.2 i T3.dflt (by omega), qF i (by omega)]
  show (bif decide (Go.AM.hi (c.2.2.2.getD i T3.dflt) ≥ n) then _ else _) = _
  by_cases h : Go.AM.hi (c.2.2.2.getD i T3.dflt) ≥ n
  ·rw [qA h, qi, qm (fun e : fitsIn n (c.2.2.2.getD i T3.dflt :: c.2.2.2.drop (i + 1)) => by have := e.1; omega)]
  ·rw [qx h, qg, ih (i + 1) j (by omega) (by omega)]
   by_cases h2 : fitsIn n (c.2.2.2.drop (i + 1))
   ·rw [qd h2, qd (show fitsIn n (c.2.2.2.getD i T3.dflt :: c.2.2.2.drop (i + 1)) from ⟨by omega, h2⟩)]
   ·rw [qm h2, qm (fun e : fitsIn n (c.2.2.2.getD i T3.dflt :: c.2.2.2.drop (i + 1)) => h2 e.2)]
theorem qe4 (k : Nat) (hk : 2100 ≤ k) (c : Ch) (w n : Int) (hw : 0 ≤ w ∧ w ≤ 12000) :
  (bif (decide (c.1 < (0 : Int)) || decide (c.2.1 < (1 : Int)) || decide (c.1 > w) || decide (c.2.1 > qa .i64 (w - c.1))) then some 20
   else if ((Z6 k c.2.2.2).isSome = true) then
    bif (vS k c.2.2.2 != (0 : Int)) then some (vS k c.2.2.2)
    else bif ((↑ (qe c.2.2.2) : Int) == (0 : Int)) then some 10
    else if ((qdo k c.2.2.2).isSome = true) then
     bif (!qfo k c.2.2.2) then some 12
     else QG k k n 0 c
    else none
   else none) = some (qk9 c w n) := by
 unfold qk9
 rw [qul c w hw, vM k (by omega), Qw k (by omega), qb, qd rfl, qfe k hk, qnS k hk, qb, qd rfl]
 by_cases h1 : c.1 < 0 ∨ c.2.1 < 1 ∨ c.1 > w ∨ c.2.1 > w - c.1
 ·rw [qA h1, qi, qd h1]
 ·rw [qx h1, qg, qm h1]
  by_cases h2 : chk c.2.2.2 = 0
  ·have hc := wW.1 h2
   have hl := hc.len
   rw [show (chk c.2.2.2 != 0) = false by simp [h2], qg, qm (fun h : chk c.2.2.2 ≠ 0 => h h2)]
   by_cases h3 : c.2.2.2 = []
   ·rw [h3, qd rfl]; rfl
   ·rw [qm h3, show (((qe c.2.2.2 : Nat) : Int) == 0) = false from beq_false_of_ne (fun e => h3 (List.length_eq_zero_iff.1 (by omega))), qg]
    cases h4 : vg c.2.2.2
    ·rfl
    ·rw [vB, qg, qm (by decide)]
     refine (qsP k n c hc.goods hl c.2.2.2.length 0 k (by omega) (by omega)).trans ?_
     rw [wm]
  ·rw [show (chk c.2.2.2 != 0) = true by simp [h2], qi, qd h2]
theorem qka (k : Nat) (hk : 2100 ≤ k) (W L : Int) (hW : 0 ≤ W ∧ W ≤ 12000) (l : List Ro) (i : Nat) (hi : i < l.length) (hl : l.length ≤ 1000) (hp : Wl (l.take i)) : qeW k l (i : Int) W L = some (vF (l.take i) W L (l.getD i T5.dflt)) := by
 unfold qeW vF
 rw [qd ⟨by omega, by omega⟩, qc]
 have hlt : (l.take i).length = i := by rw [Qt]; omega
 obtain ⟨o, o1, o2, o3⟩ := qaO k (l.take i) (l.drop i) (l.getD i T5.dflt).2.1 (by omega) (by omega)
 rw [qnA, hlt] at o1 o2
 generalize hr : l.getD i T5.dflt = r at *
 by_cases h1 : r.1 < 1 ∨ r.1 > 1000000
 ·rw [qd h1, show (decide (r.1 < 1) || decide (r.1 > 1000000)) = true by simpa using h1, qi]
 ·rw [qm h1, show (decide (r.1 < 1) || decide (r.1 > 1000000)) = false by simp; omega, qg]
  have hs := hp.size (L := L) hW r.2.1
  by_cases h2 : r.2.1 = 0
  ·rw [show (r.2.1 != 0) = false by simp [h2], qg, qm (fun h : r.2.1 ≠ 0 ∧ look (l.take i) r.2.1 = none => h.1 h2)]
   unfold wn
   rw [qd h2]
   exact qe4 k hk r.2.2 W L hW
  ·rw [show (r.2.1 != 0) = true by simp [h2], qi, o1, o2, qb, qd rfl]
   cases e : look (l.take i) r.2.1 with
   | none =>
    rw [o3.none e, qd (show r.2.1 ≠ 0 ∧ (none : Option Ro) = none from ⟨h2, rfl⟩)]; rfl
   | some q =>
    obtain ⟨x, e1, e2, e3⟩ := o3.some e
    have hq := (hp q (zr e).1).chk
    have e4 : l.getD x T5.dflt = q := by
     have := e3 T5.dflt
     rw [← this]
     have h5 := Yi (l.take i) (l.drop i) x T5.dflt e2
     rw [qnA] at h5
     exact h5
    have hx : (x : Int) < (l.length : Int) := by omega
    have hx0 : (0 : Int) ≤ (x : Int) := by omega
    rw [e1, qm (show ¬ (r.2.1 ≠ 0 ∧ some q = none) from fun h => nomatch h.2), qRI, qx (by omega : ¬ (x : Int) < 0), qg, qd ⟨hx0, hx⟩, qc, e4, XQ k hk _ hq, qbG k hk _ hq, qd ⟨hx0, hx, rfl⟩]
    unfold wn
    rw [qm h2, e]
    unfold wn at hs
    rw [qm h2, e] at hs
    exact qe4 k hk r.2.2 _ _ hs
theorem quJ (k : Nat) (hk : 2100 ≤ k) (W L : Int) (hW : 0 ≤ W ∧ W ≤ 12000) (l : List Ro) (i : Nat) (hi : i < l.length) (hl : l.length ≤ 1000) (hp : Wl (l.take i)) : qd2 k l (i : Int) W L = vF (l.take i) W L (l.getD i T5.dflt) := by
 unfold qd2; rw [qka k hk W L hW l i hi hl hp]; rfl
theorem qow (k : Nat) (hk : 70000 ≤ k) (l : List Ro) (hl : Wl l) (hll : l.length ≤ 512) (i : Nat) (hi : i < l.length) : ∀ (d q m : Nat), q + d = i →
  Wo k (m + d + 1) l (i : Int) (q : Int) = if QE ((l.take i).drop q) (l.getD i T5.dflt) = true then some 12 else Wq k m l (qa .i64 ((i : Int) + 1)) := by
 intro d
 have hr : Small (l.getD i T5.dflt).2.2 := hl _ (w9 _ _ _ (by omega))
 have hlt : (l.take i).length = i := by rw [Qt]; omega
 induction d with
 | zero =>
  intro q m hq
  rw [Wo, qx (by omega : ¬ (q : Int) < (i : Int)), qg, qh (by omega), qm (by unfold QE; rw [List.any_nil]; decide)]
 | succ d ih =>
  intro q m hq
  have hs : Small (l.getD q T5.dflt).2.2 := hl _ (w9 _ _ _ (by omega))
  have hc : QE ((l.take i).drop q) (l.getD i T5.dflt) = (((l.getD i T5.dflt).2.1 == (l.getD q T5.dflt).2.1) && VV (l.getD i T5.dflt).2.2 (l.getD q T5.dflt).2.2 || QE ((l.take i).drop (q + 1)) (l.getD i T5.dflt)) := by
   have h5 := Yi (l.take i) (l.drop i) q T5.dflt (by omega)
   rw [qnA] at h5
   rw [h5]
   unfold QE
   rw [qq (l.take i) q T5.dflt (by omega), List.any_cons]
  obtain ⟨a1, a2, a3, a4⟩ := hr
  obtain ⟨b1, b2, b3, b4⟩ := hs
  rw [show m + (d + 1) + 1 = (m + d + 1) + 1 from rfl, Wo, qA (by omega : (q : Int) < (i : Int)), qi, qd ⟨by omega, by omega⟩, qd ⟨by omega, by omega⟩, qc, qc, hc, qF q (by omega), ih (q + 1) m (by omega)]
  generalize QE ((l.take i).drop (q + 1)) (l.getD i T5.dflt) = z
  generalize l.getD i T5.dflt = r at *
  generalize l.getD q T5.dflt = b at *
  rw [qo (i := b.2.2.1 + b.2.2.2.1) (by omega) (by omega), qo (i := r.2.2.1 + r.2.2.2.1) (by omega) (by omega)]
  unfold VV
  cases e : ((r.2.1 == b.2.1) && decide (r.2.2.1 < b.2.2.1 + b.2.2.2.1) && decide (b.2.2.1 < r.2.2.1 + r.2.2.2.1))
  ·rw [qg, qd ⟨by omega, by omega, by omega, by omega, rfl⟩]
   rw [show ((r.2.1 == b.2.1) && ((decide (r.2.2.1 < b.2.2.1 + b.2.2.2.1) && decide (b.2.2.1 < r.2.2.1 + r.2.2.2.1)) && VJ r.2.2.2.2.2 b.2.2.2.2.2)) = false by rw [← Bool.and_assoc, ← Bool.and_assoc, e, wD], zn]
  ·rw [qi, qh6 k hk _ _ a4 b4, qsI k hk _ _ a4 b4, qd ⟨by omega, by omega, by omega, by omega, rfl, rfl⟩, ww]
   rw [show ((r.2.1 == b.2.1) && ((decide (r.2.2.1 < b.2.2.1 + b.2.2.2.1) && decide (b.2.2.1 < r.2.2.1 + r.2.2.2.1)) && VJ r.2.2.2.2.2 b.2.2.2.2.2)) = VJ r.2.2.2.2.2 b.2.2.2.2.2 by rw [← Bool.and_assoc, ← Bool.and_assoc, e, ww]]
   cases VJ r.2.2.2.2.2 b.2.2.2.2.2
   ·rw [qg, zn]
   ·rfl
set_option maxRecDepth 20000 in
theorem qo6 (k : Nat) (hk : 70000 ≤ k) (l : List Ro) (hl : Wl l) (hll : l.length ≤ 512) : ∀ (d i j : Nat), i + d = l.length → d * 514 < j →
  Wq k j l (i : Int) = some (if ze (l.take i) (l.drop i) = true then 12 else 0) := by
 intro d
 induction d with
 | zero =>
  intro i j hi hj
  obtain ⟨j, rfl⟩ := qQ (by omega : 0 < j)
  rw [Wq, qx (by omega : ¬ (i : Int) < (l.length : Int)), qg, qh (by omega), ze, qm (by decide)]
 | succ d ih =>
  intro i j hi hj
  obtain ⟨j, rfl⟩ : ∃ q, j = (q + i + 1) + 1 := ⟨j - i - 2, by omega⟩
  have h20 := qow k hk l hl hll i (by omega) i 0 j (by omega)
  rw [Wq, qA (by omega : (i : Int) < (l.length : Int)), qi]
  refine h20.trans ?_
  rw [wm, qF i (by omega), ih (i + 1) j (by omega) (by omega), qq l i T5.dflt (by omega), ze, wR l i T5.dflt (by omega)]
  cases QE (l.take i) (l.getD i T5.dflt)
  ·rw [qm (by decide), zn]
  ·rfl
set_option maxRecDepth 20000 in
theorem qoD (k : Nat) (hk : 70000 ≤ k) (l : List Ro) (hl : Wl l) (hll : l.length ≤ 512) : ∀ (d i j : Nat), i + d = l.length → d + 1 + 263168 < j →
  ZJ k j l (i : Int) = some (if vH (l.take i) (l.drop i) = true then 6 else if ze [] l = true then 12 else 0) := by
 intro d
 induction d with
 | zero =>
  intro i j hi hj
  obtain ⟨j, rfl⟩ := qQ (by omega : 0 < j)
  have h17 := qo6 k hk l hl hll l.length 0 j (by omega) (by omega)
  rw [ZJ, qx (by omega : ¬ (i : Int) < (l.length : Int)), qg, qh (by omega), vH, qm (by decide)]
  exact h17
 | succ d ih =>
  intro i j hi hj
  obtain ⟨j, rfl⟩ := qQ (by omega : 0 < j)
  have hlt : (l.take i).length = i := by rw [Qt]; omega
  obtain ⟨o, o1, o2, o3⟩ := qaO k (l.take i) (l.drop i) (l.getD i T5.dflt).1 (by omega) (by omega)
  rw [qnA, hlt] at o1 o2
  rw [ZJ, qA (by omega : (i : Int) < (l.length : Int)), qi, qc, o1, o2, qd ⟨by omega, by omega, rfl⟩, qq l i T5.dflt (by omega), vH, qF i (by omega), ih (i + 1) j (by omega) (by omega), wR l i T5.dflt (by omega)]
  cases e : look (l.take i) (l.getD i T5.dflt).1 with
  | none => rw [o3.none e]; rfl
  | some q =>
   obtain ⟨x, e1, _, _⟩ := o3.some e
   rw [e1, qRI, qA (by omega : (x : Int) ≥ 0)]; rfl
theorem qqC (k : Nat) (hk : 70000 ≤ k) (l : List Ro) (W L : Int) (hW : 0 ≤ W ∧ W ≤ 12000) (hll : l.length ≤ 512) : ∀ (d i j : Nat), i + d = l.length → d + 2 + 512 + 263168 < j → Wl (l.take i) →
  Zy k j l W L (i : Int) = some (if w8 W L (l.take i) (l.drop i) ≠ 0 then w8 W L (l.take i) (l.drop i) else if vH [] l = true then 6 else if ze [] l = true then 12 else 0) := by
 intro d
 induction d with
 | zero =>
  intro i j hi hj hw
  obtain ⟨j, rfl⟩ := qQ (by omega : 0 < j)
  rw [wI (by omega : l.length ≤ i)] at hw
  have h12 := qoD k hk l hw hll l.length 0 j (by omega) (by omega)
  rw [Zy, qx (by omega : ¬ (i : Int) < (l.length : Int)), qg, qh (by omega), w8, qm (fun h => h rfl)]
  exact h12
 | succ d ih =>
  intro i j hi hj hw
  obtain ⟨j, rfl⟩ := qQ (by omega : 0 < j)
  have ht := wR l i T5.dflt (by omega)
  rw [Zy, qA (by omega : (i : Int) < (l.length : Int)), qi, qka k (by omega) W L hW l i (by omega) (by omega) hw, quJ k (by omega) W L hW l i (by omega) (by omega) hw, qb, qd rfl, qq l i T5.dflt (by omega), w8, qF i (by omega)]
  by_cases h1 : vF (l.take i) W L (l.getD i T5.dflt) = 0
  ·have hw2 : Wl (l.take (i + 1)) := by rw [ht]; exact hw.snoc hW h1
   have := ih (i + 1) j (by omega) (by omega) hw2
   rw [h1]
   show Zy k j l W L ((i + 1 : Nat) : Int) = _
   rw [this, ht]
   rfl
  ·rw [show (vF (l.take i) W L (l.getD i T5.dflt) != 0) = true from bne_iff_ne.2 h1, qi, qd h1, qd h1]
theorem qgW (k : Nat) (hk : 300000 ≤ k) (l : List Ro) (W L : Int) : qfh k l W L = some (wZ l W L) := by
 unfold qfh wZ
 by_cases h1 : W < 1 ∨ W > 12000 ∨ L < 0 ∨ L > 17179869184
 ·rw [qd h1, show (decide (W < (1 : Int)) || decide (W > (12000 : Int)) || decide (L < (0 : Int)) || decide (L > (17179869184 : Int))) = true by simp; omega]
  rfl
 ·rw [qm h1, show (decide (W < (1 : Int)) || decide (W > (12000 : Int)) || decide (L < (0 : Int)) || decide (L > (17179869184 : Int))) = false by simp; omega, qg]
  by_cases h2 : l.length > 512
  ·rw [qd h2, qA (by omega : (l.length : Int) > 512)]
   rfl
  ·rw [qm h2, qx (by omega : ¬ (l.length : Int) > 512), qg]
   have := qqC k (by omega) l W L (by omega) (by omega) l.length 0 k (by omega) (by omega) (fun r hr => by simp at hr)
   exact this
theorem qqO (k : Nat) (hk : 300000 ≤ k) (l : List Ro) (W L : Int) : qfg k l W L = wZ l W L := by
 unfold qfg; rw [qgW k hk l W L]; rfl
end Go.AM
namespace Go.AM
open Go
theorem qax {a : List Ro} {id : Int} {q : Ro} (b : List Ro) (h : look a id = some q) : look (a ++ b) id = some q := by
 rw [QU, h]; rfl
theorem qpQ {a : List Ro} {W L id : Int} (b : List Ro) (h : id = 0 ∨ ∃ q, look a id = some q) : wn (a ++ b) W L id = wn a W L id := by
 unfold wn
 by_cases h0 : id = 0
 ·rw [qd h0, qd h0]
 ·rw [qm h0, qm h0]
  rcases h with h | ⟨q, h⟩
  ·exact absurd h h0
  ·rw [qax b h, h]
structure RollOk (l : List Ro) (W L : Int) (r : Ro) : Prop where
 look : look l r.1 = some r
 pos : 1 ≤ r.1
 parent : r.2.1 = 0 ∨ ∃ q, Go.AM.look l r.2.1 = some q
 cut : CutOk r.2.2 (wn l W L r.2.1).1 (wn l W L r.2.1).2
theorem Okp.ro {W L : Int} {l : List Ro} (h : Okp W L l) : ∀ r ∈ l, RollOk l W L r := by
 induction h with
 | nil => intro r hr; simp at hr
 | snoc p r h f n c ih =>
  intro x hx
  rcases zW.1 hx with hx | hx
  ·obtain ⟨a, b, c, d⟩ := ih x hx
   refine ⟨qax _ a, b, ?_, by rw [qpQ _ c]; exact d⟩
   rcases c with c | ⟨q, c⟩
   ·exact .inl c
   ·exact .inr ⟨q, qax _ c⟩
  ·rw [List.mem_singleton] at hx
   subst hx
   obtain ⟨a, b, c, d⟩ := f
   refine ⟨?_, a, ?_, by rw [qpQ _ c]; exact d⟩
   ·rw [QU, n, Option.none_or]; unfold Go.AM.look; simp
   ·rcases c with c | ⟨q, c⟩
    ·exact .inl c
    ·exact .inr ⟨q, qax _ c⟩
inductive Anc (l : List Ro) : Nat → Int → Prop
 | root (n : Nat) : Anc l n 0
 | step (n : Nat) (id : Int) (r : Ro) (h0 : id ≠ 0) (h : look l id = some r) (a : Anc l n r.2.1) : Anc l (n + 1) id
theorem Anc.mono {l : List Ro} {n m : Nat} {id : Int} (h : Anc l n id) (hm : n ≤ m) : Anc l m id := by
 induction h generalizing m with
 | root n => exact .root m
 | step n id r h0 h a ih =>
  obtain ⟨m, rfl⟩ := qQ (by omega : 0 < m)
  exact .step m id r h0 h (ih (by omega))
theorem Anc.left {l : List Ro} {n : Nat} {id : Int} (h : Anc l n id) (t : List Ro) : Anc (l ++ t) n id := by
 induction h with
 | root n => exact .root n
 | step n id r h0 h a ih => exact .step n id r h0 (qax t h) ih
theorem Okp.anc {W L : Int} {l : List Ro} (h : Okp W L l) : ∀ r ∈ l, Anc l l.length r.1 := by
 induction h with
 | nil => intro r hr; simp at hr
 | snoc p r h f n c ih =>
  intro x hx
  rw [qn, qk]
  rcases zW.1 hx with hx | hx
  ·exact ((ih x hx).mono (by omega)).left _
  ·rw [List.mem_singleton] at hx
   subst hx
   obtain ⟨a, b, c, d⟩ := f
   refine .step p.length x.1 x (by omega) (by rw [QU, n, Option.none_or]; unfold look; simp) ?_
   rcases c with c | ⟨q, c⟩
   ·rw [c]; exact .root _
   ·have := (ih q (zr c).1).left [x]
    rw [(zr c).2] at this
    exact this
theorem Reg.anc {W L : Int} {l : List Ro} (h : Reg l W L) {id : Int} (hi : id = 0 ∨ ∃ q, look l id = some q) : Anc l 512 id := by
 rcases hi with rfl | ⟨q, e⟩
 ·exact .root _
 ·have := h.ok.anc q (zr e).1
  rw [(zr e).2] at this
  exact this.mono h.num
theorem Reg.small {W L : Int} {l : List Ro} (h : Reg l W L) : ∀ (n : Nat) (id : Int), Anc l n id → 0 ≤ (wn l W L id).1 ∧ (wn l W L id).1 ≤ 12000 ∧ 0 ≤ (wn l W L id).2 ∧ (wn l W L id).2 ≤ 17179869184 := by
 intro n id ha
 have hw := h.w
 have hl := h.len
 induction ha with
 | root n => unfold wn; rw [qd rfl]; omega
 | step n id r h0 e a ih =>
  have ro := h.ok.ro r (zr e).1
  obtain ⟨c1, c2, c3, c4, _⟩ := ro.cut
  have h1 : (wn l W L id) = (r.2.2.2.1, qv r.2.2.2.2.2) := by unfold wn; rw [qm h0, e]
  rw [h1]
  have h2 := zf c4.goods
  have h3 := c4.tot
  refine ⟨?_, ?_, ?_, ?_⟩
  ·show 0 ≤ r.2.2.2.1; omega
  ·show r.2.2.2.1 ≤ _; omega
  ·show 0 ≤ qv r.2.2.2.2.2; omega
  ·show qv r.2.2.2.2.2 ≤ _; omega
def qak (r : Ro) (p : Pt) : Pt := (r.2.1, (if r.2.2.2.2.1 = true then r.2.2.1 + r.2.2.2.1 - 1 - p.2.1 else r.2.2.1 + p.2.1), wb r.2.2.2.2.2 p.2.2)
structure On (l : List Ro) (W L : Int) (p : Pt) : Prop where
 a0 : 0 ≤ p.2.1
 a1 : p.2.1 < (wn l W L p.1).1
 b0 : 0 ≤ p.2.2
 b1 : p.2.2 < (wn l W L p.1).2
theorem qhz : ∀ {m : List Rn} {x : Int}, goods m → 0 ≤ x → x < qv m → ∃ r ∈ m, lo r ≤ wb m x ∧ wb m x ≤ hi r
 | [], x, _, h0, h1 => by simp [qv] at h1; omega
 | r :: t, x, ⟨g1, g2⟩, h0, h1 => by
  rw [qv] at h1
  unfold wb
  by_cases h : x < r.2.1
  ·rw [qd h]
   exact ⟨r, by simp, qi4 h0 h⟩
  ·rw [qm h]
   obtain ⟨q, hq, a⟩ := qhz g2 (by omega : 0 ≤ x - r.2.1) (by omega)
   exact ⟨q, by simp [hq], a⟩
theorem qlh {n : Int} : ∀ {l : List Rn}, fitsIn n l → ∀ r ∈ l, hi r < n
 | [], _, r, h => by simp at h
 | u :: t, ⟨h1, h2⟩, r, hr => by
  rcases qK.1 hr with rfl | hr
  ·exact h1
  ·exact qlh h2 r hr
theorem On.place {l : List Ro} {W L : Int} {p : Pt} {r : Ro} (hp : p.1 ≠ 0) (h : On l W L p) (e : look l p.1 = some r) (ro : RollOk l W L r) : On l W L (qak r p) := by
 obtain ⟨a0, a1, b0, b1⟩ := h
 obtain ⟨c1, c2, c3, c4, c5, c6, c7⟩ := ro.cut
 have h1 : (wn l W L p.1) = (r.2.2.2.1, qv r.2.2.2.2.2) := by unfold wn; rw [qm hp, e]
 rw [h1] at a1 b1
 have a1 : p.2.1 < r.2.2.2.1 := a1
 have b1 : p.2.2 < qv r.2.2.2.2.2 := b1
 obtain ⟨x, hx, i1, i2⟩ := qhz c4.goods b0 b1
 have h2 := qlh c7 x hx
 obtain ⟨l1, l2, l3, l4⟩ := (c4.goods.mem x hx).lohi
 refine ⟨?_, ?_, ?_, ?_⟩
 ·show 0 ≤ (if r.2.2.2.2.1 = true then _ else _ : Int)
  split <;> omega
 ·show (if r.2.2.2.2.1 = true then _ else _ : Int) < (wn l W L r.2.1).1
  split <;> omega
 ·show 0 ≤ wb _ _; omega
 ·show wb _ _ < (wn l W L r.2.1).2; omega
def qfn (l : List Ro) : Nat → Pt → Pt
 | 0, p => p
 | n + 1, p => if p.1 = 0 then p else match look l p.1 with
  | none => p
  | some r => qfn l n (qak r p)
end Go.AM
namespace Go.AM
open Go Go.Proofs
noncomputable section
abbrev qiw : Type := Int
def qlK (r : qiw) : AV := .tup [.r (.v (Value.pointer none)), .r (.v (.int .i64 r))]
def qoQ (b : List T5.T) (d : T19.T) (e : Int) (r : qiw) : List (Nat × Blk) := []
abbrev qhr : Type := Int × Int × Int × List T5.T × (List (I.T × I.T))
def qld (r : qhr) : AV := .tup [.ptr 0 0 0, .r (.v (.int .i64 r.1))]
def qod (b : List T5.T) (d : T19.T) (e : Int) (r : qhr) : List (Nat × Blk) := [(0, .var 135 [.r (.v (.int .i64 r.2.1)), .r (.v (.int .i64 r.2.2.1)), .r (.ro T5 r.2.2.2.1), .own 1 0]), (0, .map false I I r.2.2.2.2)]
abbrev qq7 : Type := qiw ⊕ qhr
def qMR (r : qq7) : AV := match r with
 | .inl a => qlK a
 | .inr a => qld a
def qNI (b : List T5.T) (d : T19.T) (e : Int) (r : qq7) : List (Nat × Blk) := match r with
 | .inl a => qoQ b d e a
 | .inr a => qod b d e a
abbrev qqW (b : List T5.T) (d : T19.T) (e : Int) (r : qq7) : Prop := CC Tryz.prog 162 [ro T5 b, .agg (qy (qr T19 d)), ri e] [] (qMR r) (qNI b d e r)
abbrev qPk (b : List T5.T) (d : T19.T) (e : Int) (r : qiw) : Prop := CC Tryz.prog 162 [.r (.ro T5 b), .agg (qy (qr T19 d)), .r (.v (.int .i64 e))] [] (qlK r) (qoQ b d e r)
abbrev qOd (b : List T5.T) (d : T19.T) (e : Int) (r : qhr) : Prop := CC Tryz.prog 162 [.r (.ro T5 b), .agg (qy (qr T19 d)), .r (.v (.int .i64 e))] [] (qld r) (qod b d e r)
def Z5 (k : Nat) (b : List T5.T) (d : T19.T) (e : Int) : Option qq7 :=
 bif (Sum.isLeft (Y0 k b d)) then
 if ((W9 k b d).isSome) then
 bif (XX k b d == (0 : Int) && e != 0) then
 none
 else
 if ((XX k b d == (0 : Int) && e != 0) = false) then
 some (.inl (XX k b d))
 else none
 else none
 else
 if ((W9 k b d).isSome) then
 bif ((w7 k b d).1 == (0 : Int) && e != 0) then
 if (((w7 k b d).1 == (0 : Int) && e != 0) = true) ∧ ((X0 k (w7 k b d).2.1 (w7 k b d).2.2.1 (w7 k b d).2.2.2.1 (w7 k b d).2.2.2.2 e).isSome) then
 bif (true && (!Wz k (w7 k b d).2.1 (w7 k b d).2.2.1 (w7 k b d).2.2.2.1 (w7 k b d).2.2.2.2 e)) then
 some (.inl 7)
 else
 some (.inr ((w7 k b d).1, (w7 k b d).2.1, (w7 k b d).2.2.1, (w7 k b d).2.2.2.1, (w7 k b d).2.2.2.2))
 else none
 else
 if (((w7 k b d).1 == (0 : Int) && e != 0) = false) then
 some (.inr ((w7 k b d).1, (w7 k b d).2.1, (w7 k b d).2.2.1, (w7 k b d).2.2.2.1, (w7 k b d).2.2.2.2))
 else none
 else none
def qcC := fun k b d e => (Z5 k b d e).getD (.inl 0)
def qer (k : Nat) (b : List T5.T) (d : T19.T) (e : Int) : qiw := lft 0 (qcC k b d e)
def vb (k : Nat) (b : List T5.T) (d : T19.T) (e : Int) : qhr := rgt (0, 0, 0, [], []) (qcC k b d e)
def qNE (k : Nat) : Ke := (162, mo 3, fun
 | [.r (.ro i f), .agg g, .r (.v (.int .i64 e))], [] => (qE i T5 f).bind fun b => (qW [] T19 g).bind fun d => some (.two (qcC k b d e).isLeft (qlK (qer k b d e), qoQ b d e (qer k b d e)) (qld (vb k b d e), qod b d e (vb k b d e)))
 | _, _ => none)
theorem qOT (k b d e r) (h : Z5 k b d e = some r): qqW b d e r := qN Tryz.f162 (go (qD [qrP k, qCm k]) [] [] [.autoB [6, 7] true []] (gT h (fun c h => qu h (fun q => qxo q (by assumption)) fun h => gT h (fun c h => gZ h (.stuck 2009)) fun c h => qu h id fun h => gU2 h (.leaf (.tup [.r (.v (Value.pointer none)), .r (.v (.int .i64 7))]) []) fun h => gL h) fun c h => qu h (fun q => qvo q (by assumption)) fun h => gT h (fun c h => gN h (fun q => qf q.1 (qf (qrW q.2) qR)) fun h => gTl h fun c h => gL h) fun c h => qu h id fun h => gU2 h (.leaf (.tup [.r (.v (Value.pointer none)), .r (.v (.int .i64 7))]) []) fun h => gL h))
theorem qAt {k b d e} (h : (Z5 k b d e).isSome): qqW b d e (qcC k b d e) := qJ h (qOT k b d e)
theorem qL4 {k : Nat} {b : List T5.T} {d : T19.T} {e : Int} (h : (Z5 k b d e).isSome = true) (hb : (qcC k b d e).isLeft = true) : qPk b d e (qer k b d e) := qFx (Φ := qqW b d e) (qAt h) hb
theorem qMd {k : Nat} {b : List T5.T} {d : T19.T} {e : Int} (h : (Z5 k b d e).isSome = true) (hb : (qcC k b d e).isLeft = false) : qOd b d e (vb k b d e) := qF5 (Φ := qqW b d e) (qAt h) hb
def qtP (r : Int × Int × Int) : AV := .tup [ri r.1, ri r.2.1, ri r.2.2]
abbrev qCb (a : List T5.T) (b : T23.T) (d : Int) (r : Int × Int × Int) : Prop := CC Tryz.prog 103 [ro T5 a, .agg (qy (qr T23 b)), ri d] [] (qtP r) (nb r)
def qeH (k : Nat) (a : List T5.T) (b : T23.T) (d : Int) : Option (Int × Int × Int) :=
 if ((qfh k a b.1 b.2).isSome) then
 bif (qfg k a b.1 b.2 != (0 : Int)) then
 some (0, 0, qfg k a b.1 b.2)
 else
 bif (d == 0) then
 some (b.1, b.2, 0)
 else
 if ((Vu k a (↑a.length : Int) d).isSome) then
 bif wa k a (↑a.length : Int) d < 0 then
 some (0, 0, 7)
 else
 if ((0 : Int) ≤ wa k a (↑a.length : Int) d) ∧ (wa k a (↑a.length : Int) d < a.length) ∧ ((0 : Int) ≤ wa k a (↑a.length : Int) d) ∧ (wa k a (↑a.length : Int) d < a.length) ∧ ((qaj k (a.getD (qt (wa k a (↑a.length : Int) d)) T5.dflt).2.2.2.2.2).isSome) then
 some ((a.getD (qt (wa k a (↑a.length : Int) d)) T5.dflt).2.2.2.1, Vx k (a.getD (qt (wa k a (↑a.length : Int) d)) T5.dflt).2.2.2.2.2, 0)
 else none
 else none
 else none
def qah := fun k a b d => (qeH k a b d).getD (0, 0, 0)
def qMT (k : Nat) : Ke := (103, mo 3, fun
 | [.r (.ro g e), .agg f, .r (.v (.int .i64 d))], [] => (qE g T5 e).bind fun a => (qW [] T23 f).bind fun b => some (.one (qtP (qah k a b d), []))
 | _, _ => none)
theorem qMh (k a b d r) (h : qeH k a b d = some r): qCb a b d r := qN Tryz.f103 (go (qD [qom k, qjr k, qLx k]) [] [] [.autoB [6, 7, 8] true []] (qu h qKf fun h => qB h fun h => qB h fun h => qu h qjw fun h => qB h fun h => gN h (fun q => qf q.1 (qf q.2.1 (qf q.2.2.1 (qf q.2.2.2.1 (qf (qnR q.2.2.2.2) qR))))) fun h => gL h))
theorem qLD {k a b d} (h : (qeH k a b d).isSome): qCb a b d (qah k a b d) := qJ h (qMh k a b d)
end
def Qi (l : List Ro) (W L id : Int) : Int := if wZ l W L ≠ 0 then wZ l W L else if id ≠ 0 ∧ look l id = none then 7 else 0
structure Kno (l : List Ro) (W L id : Int) : Prop where
 reg : Reg l W L
 kn : id = 0 ∨ ∃ q, look l id = some q
theorem Xr {l : List Ro} {W L id : Int} : Qi l W L id = 0 ↔ Kno l W L id := by
 unfold Qi
 constructor
 ·intro h
  by_cases h1 : wZ l W L = 0
  ·rw [qm (fun h : wZ l W L ≠ 0 => h h1)] at h
   refine ⟨qdQ.1 h1, ?_⟩
   by_cases h2 : id = 0
   ·exact .inl h2
   ·right
    cases e : look l id with
    | none => rw [qd ⟨h2, e⟩] at h; omega
    | some q => exact ⟨q, rfl⟩
  ·rw [qd h1] at h; exact absurd h h1
 ·rintro ⟨h1, h2⟩
  rw [qm (fun h : wZ l W L ≠ 0 => h (qdQ.2 h1)), qm (fun h : id ≠ 0 ∧ look l id = none => by
   rcases h2 with h2 | ⟨q, h2⟩
   ·exact h.1 h2
   ·rw [h2] at h; cases h.2)]
theorem qFC (k : Nat) (hk : 300000 ≤ k) (l : List Ro) (web : Int × Int) (id : Int) : (Qi l web.1 web.2 id ≠ 0 → Z5 k l web id = some (.inl (Qi l web.1 web.2 id))) ∧ (Qi l web.1 web.2 id = 0 → ∃ M, Qo M l ∧ Wl l ∧ Z5 k l web id = some (.inr (0, web.1, web.2, l, M))) := by
 obtain ⟨h1, h2⟩ := qF2 k hk l web
 by_cases h : wZ l web.1 web.2 = 0
 ·obtain ⟨M, m1, m2, e⟩ := h2 h
  have hX : Z5 k l web id = bif ((0 : Int) == 0 && id != 0) then (if (((0 : Int) == 0 && id != 0) = true) ∧ ((X0 k web.1 web.2 l M id).isSome = true) then (bif (true && !Wz k web.1 web.2 l M id) then some (.inl 7) else some (.inr (0, web.1, web.2, l, M))) else none) else (if (((0 : Int) == 0 && id != 0) = false) then some (.inr (0, web.1, web.2, l, M)) else none) := by
   unfold Z5 XX w7 Y0
   rw [e]; rfl
  have hkn : Wz k web.1 web.2 l M id = (wd I id M).isSome := by unfold Wz X0; rfl
  rw [hX, hkn]
  unfold Qi
  rw [qm (fun h' : wZ l web.1 web.2 ≠ 0 => h' h)]
  by_cases h0 : id = 0
  ·rw [show ((0 : Int) == 0 && id != 0) = false by simp [h0], qg, qd rfl, qm (fun h' : id ≠ 0 ∧ look l id = none => h'.1 h0)]
   exact ⟨fun h => absurd rfl h, fun _ => ⟨M, m1, m2, rfl⟩⟩
  ·rw [show ((0 : Int) == 0 && id != 0) = true by simp [h0], qi, qd (show true = true ∧ (X0 k web.1 web.2 l M id).isSome = true from ⟨rfl, rfl⟩)]
   cases e : look l id with
   | none =>
    rw [(m1 id).none e, qd (show id ≠ 0 ∧ (none : Option Ro) = none from ⟨h0, rfl⟩)]
    exact ⟨fun _ => rfl, fun h => absurd h (by decide)⟩
   | some q =>
    obtain ⟨i, e1, e2, e3⟩ := (m1 id).some e
    rw [e1, qm (fun h : id ≠ 0 ∧ some q = none => nomatch h.2)]
    exact ⟨fun h => absurd rfl h, fun _ => ⟨M, m1, m2, rfl⟩⟩
 ·have hX : Z5 k l web id = bif (wZ l web.1 web.2 == 0 && id != 0) then none else if (wZ l web.1 web.2 == 0 && id != 0) = false then some (.inl (wZ l web.1 web.2)) else none := by
   unfold Z5 XX w7 Y0
   rw [h1 h]; rfl
  rw [hX]
  unfold Qi
  rw [qd h, show (wZ l web.1 web.2 == 0) = false from beq_false_of_ne h, wD, qg, qd rfl]
  exact ⟨fun _ => rfl, fun h' => absurd h' h⟩
def qcA (l : List Ro) (W L id : Int) : Int × Int × Int := if Qi l W L id ≠ 0 then (0, 0, Qi l W L id) else ((wn l W L id).1, (wn l W L id).2, 0)
theorem qtC (k : Nat) (l : List Ro) (id : Int) (hp : l.length ≤ 100000) (hk : l.length < k) : ∃ o : Option Int, Vu k l (l.length : Int) id = some (o.getD (-1)) ∧ wa k l (l.length : Int) id = o.getD (-1) ∧ At l id o := by
 have := qaO k l [] id hp hk
 rw [qY] at this
 exact this
theorem Yc (k : Nat) (hk : 300000 ≤ k) (l : List Ro) (web : Int × Int) (id : Int) : qeH k l web id = some (qcA l web.1 web.2 id) := by
 unfold qeH qcA Qi
 rw [qgW k hk, qqO k hk, qb, qd rfl]
 by_cases h : wZ l web.1 web.2 = 0
 ·have reg := qdQ.1 h
  have hn := reg.num
  rw [show (wZ l web.1 web.2 != 0) = false by simp [h], qg, qm (fun h' : wZ l web.1 web.2 ≠ 0 => h' h)]
  by_cases h0 : id = 0
  ·rw [show (id == 0) = true by simp [h0], qi, qm (fun h' : id ≠ 0 ∧ look l id = none => h'.1 h0), qm (fun h => h rfl)]
   unfold wn
   rw [qd h0]
  ·obtain ⟨o, o1, o2, o3⟩ := qtC k l id (by omega) (by omega)
   rw [show (id == 0) = false by simp [h0], qg, o1, o2, qb, qd rfl]
   cases e : look l id with
   | none =>
    rw [o3.none e, qd (show id ≠ 0 ∧ (none : Option Ro) = none from ⟨h0, rfl⟩)]
    rfl
   | some q =>
    obtain ⟨x, e1, e2, e3⟩ := o3.some e
    have hq := (reg.ok.ro q (zr e).1).cut.chk
    have hx : (x : Int) < (l.length : Int) := by omega
    have hx0 : (0 : Int) ≤ (x : Int) := by omega
    rw [e1, qRI, qx (by omega : ¬ (x : Int) < 0), qg, qc, e3, XQ k (by omega) _ hq, qbG k (by omega) _ hq, qd ⟨hx0, hx, hx0, hx, rfl⟩, qm (show ¬ (id ≠ 0 ∧ some q = none) from fun h => nomatch h.2), qm (fun h => h rfl)]
    unfold wn
    rw [qm h0, e]
 ·rw [show (wZ l web.1 web.2 != 0) = true from bne_iff_ne.2 h, qi, qd h, qd h]
theorem qb9 (k : Nat) (hk : 300000 ≤ k) (l : List Ro) (web : Int × Int) (id : Int) : qah k l web id = qcA l web.1 web.2 id := by
 unfold qah; rw [Yc k hk l web id]; rfl
theorem Reg.wl {l : List Ro} {W L : Int} (h : Reg l W L) : Wl l := fun r hr => by
 have ro := h.ok.ro r hr
 obtain ⟨c1, c2, c3, c4, _⟩ := ro.cut
 have := h.small 512 r.2.1 (h.anc ro.parent)
 exact ⟨c1, c2, by omega, c4⟩
theorem qCz {l : List Ro} {W L id : Int} {r : Ro} (h0 : id ≠ 0) (e : look l id = some r) : wn l W L id = (r.2.2.2.1, qv r.2.2.2.2.2) := by
 unfold wn; rw [qm h0, e]
end Go.AM
namespace Go.AM
open Go Go.Proofs
noncomputable section
abbrev qH9 (a : T5.T) (r : Int) : Prop := CC Tryz.prog 76 [.agg (qy (qr T5 a))] [] (ri r) (nb r)
def qm2 (k : Nat) (a : T5.T) : Option Int :=
 if ((qa4 k a.2.2.2.2.2).isSome) then
 some ((XK k a.2.2.2.2.2).1)
 else none
def qa2 := fun k a => (qm2 k a).getD 0
def qth (k : Nat) : Ke := (76, mo 1, fun
 | [.agg b], [] => (qW [] T5 b).bind fun a => some (.one (ri (qa2 k a), []))
 | _, _ => none)
theorem qNz (k a r) (h : qm2 k a = some r): qH9 a r := qN Tryz.f76 (go (qD [qsC k]) [] [] [.autoB [2] true []] (qu h que fun h => gL h))
theorem qzl {k a} (h : (qm2 k a).isSome): qH9 a (qa2 k a) := qJ h (qNz k a)
abbrev qHy (a : T5.T) (r : Int) : Prop := CC Tryz.prog 77 [.agg (qy (qr T5 a))] [] (ri r) (nb r)
def qFi := fun y0 y1 y2 y3 => (⟨qI 30 [(3, ri y0), (8, ro T3 y1), (9, ri y2), (10, ri y3)], []⟩ : St)
def qeD (k : Nat) : Nat → Int → List T3.T → Int → Int → Option Int
 | 0, _, _, _, _ => none
 | j + 1, y0, y1, y2, y3 =>
 bif y3 < y2 then
 if (0 ≤ y3) ∧ (y3 < y1.length) then
 bif (y1.getD y3.toNat T3.dflt).2.2 then
 qeD k j (if qa .i64 (qa .i64 ((y1.getD y3.toNat T3.dflt).1 - (y1.getD y3.toNat T3.dflt).2.1) + 1) < if (y1.getD y3.toNat T3.dflt).1 < y0 then (y1.getD y3.toNat T3.dflt).1 else y0 then qa .i64 (qa .i64 ((y1.getD y3.toNat T3.dflt).1 - (y1.getD y3.toNat T3.dflt).2.1) + 1) else if (y1.getD y3.toNat T3.dflt).1 < y0 then (y1.getD y3.toNat T3.dflt).1 else y0) y1 y2 (qa .i64 (y3 + 1))
 else
 qeD k j (if (y1.getD y3.toNat T3.dflt).1 < y0 then (y1.getD y3.toNat T3.dflt).1 else y0) y1 y2 (qa .i64 (y3 + 1))
 else none
 else
 some y0
def qrn (k : Nat) (a : T5.T) : Option Int :=
 qeD k k 17179869184 a.2.2.2.2.2 (↑ (qe a.2.2.2.2.2) : Int) 0
def qy5 := fun k a => (qrn k a).getD 0
def qQA (k : Nat) : Ke := (77, mo 1, fun
 | [.agg b], [] => (qW [] T5 b).bind fun a => some (.one (ri (qy5 k a), []))
 | _, _ => none)
def qAy : List (Nat × List Cmd) := [(3, [.autoB [3, 8, 9, 10] false []])]
abbrev qSo := EP Tryz.f77 0 ri nb
theorem qzM (k) : ∀ j, (∀ y0 y1 y2 y3, qSo 3 (qFi y0 y1 y2 y3) (qeD k j y0 y1 y2 y3))
 | 0 => by intros; exact e0
 | j + 1 => by
  have ih := @qzM k j
  ·intro y0 y1 y2 y3 r h
   rw [qeD] at h
   exact go (qD []) [] qAy [.autoB [2] true []] (gS h (fun h => qS h fun h => gS h (fun h => gC h 3 (ih _ _ _ _ _)) fun h => gC h 3 (ih _ _ _ _ _)) fun h => gL h)
theorem qNu (k a r) (h : qrn k a = some r): qHy a r := qN Tryz.f77 (go (qD []) [] qAy [.autoB [2] true []] (gC h 3 ((qzM k k) _ _ _ _ _)))
theorem qPl {k a} (h : (qrn k a).isSome): qHy a (qy5 k a) := qJ h (qNu k a)
def qrB (a : T17.T) (b : List T18.T) (d : List (I.T × (RTy.bool).T)) (r : Int) : List (Nat × Blk) := [(0, .var 140 (qy (qr T17 a) ++ [.own 1 0])), (0, .row 54 T18 b), (0, .map false I RTy.bool d)]
abbrev qJa (a : T17.T) (b : List T18.T) (d : List (I.T × (RTy.bool).T)) (r : Int) : Prop := CC Tryz.prog 78 [.ptr 0 0 0, .own 2 0] [.var 140 (qy (qr T17 a) ++ [.own 1 0]), .row 54 T18 b, .map false I RTy.bool d] (ri r) (qrB a b d r)
def qGy := fun a b d y0 y1 y2 y3 => (⟨qI 67 [(0, .ptr 0 0 0), (1, .own 2 0), (5, ri y0), (15, ro T5 y1), (16, ri y2), (17, ri y3)], [(0, 0, .var 140 (qy (qr T17 a) ++ [.own 1 0])), (1, 0, .row 54 T18 b), (2, 0, .map false I RTy.bool d)]⟩ : St)
def qAM := fun a b d y0 y1 y2 y3 => (⟨qI 67 [(5, ri y0), (53, ro T14 y1), (54, ri y2), (55, ri y3)], [(0, 0, .var 140 (qy (qr T17 a) ++ [.own 1 0])), (1, 0, .row 54 T18 b), (2, 0, .map false I RTy.bool d)]⟩ : St)
mutual
def qel (k : Nat) (a : T17.T) (b : List T18.T) (d : List (I.T × (RTy.bool).T)) : Nat → Int → List T5.T → Int → Int → Option Int
 | 0, _, _, _, _ => none
 | j + 1, y0, y1, y2, y3 =>
 bif y3 < y2 then
 if (0 ≤ y3) ∧ (y3 < y1.length) then
 if ((qm2 k (y1.getD y3.toNat T5.dflt)).isSome) then
 bif (! (wd I (y1.getD y3.toNat T5.dflt).1 d).getD false) then
 if (0 ≤ y3) ∧ (y3 < (↑ (qe a.2.2.2.2.2.2.2.2.2.2.2.2.1) : Int)) then
 qel k a b d j (qa .i64 (y0 + qa .i64 ((y1.getD y3.toNat T5.dflt).2.2.2.1 * qa .i64 (qa2 k (y1.getD y3.toNat T5.dflt) - if (if qa2 k (y1.getD y3.toNat T5.dflt) < qM a.2.2.2.2.2.2.2.2.2.2.2.2.1 y3.toNat I.dflt then qa2 k (y1.getD y3.toNat T5.dflt) else qM a.2.2.2.2.2.2.2.2.2.2.2.2.1 y3.toNat I.dflt) > 0 then if qa2 k (y1.getD y3.toNat T5.dflt) < qM a.2.2.2.2.2.2.2.2.2.2.2.2.1 y3.toNat I.dflt then qa2 k (y1.getD y3.toNat T5.dflt) else qM a.2.2.2.2.2.2.2.2.2.2.2.2.1 y3.toNat I.dflt else 0)))) y1 y2 (qa .i64 (y3 + 1))
 else none
 else
 qel k a b d j y0 y1 y2 (qa .i64 (y3 + 1))
 else none
 else none
 else
 qfy k a b d j y0 a.2.2.2.2.2.2.2.2.2.2.2.2.2.2.2.2.2.2.2.2.1 (↑ (qe a.2.2.2.2.2.2.2.2.2.2.2.2.2.2.2.2.2.2.2.2.1) : Int) 0
def qfy (k : Nat) (a : T17.T) (b : List T18.T) (d : List (I.T × (RTy.bool).T)) : Nat → Int → List T14.T → Int → Int → Option Int
 | 0, _, _, _, _ => none
 | j + 1, y0, y1, y2, y3 =>
 bif y3 < y2 then
 if (0 ≤ y3) ∧ (y3 < y1.length) then
 qfy k a b d j (qa .i64 (y0 + if (if 206158430208000 < (y1.getD y3.toNat T14.dflt).2.2.2 then 206158430208000 else (y1.getD y3.toNat T14.dflt).2.2.2) > 0 then if 206158430208000 < (y1.getD y3.toNat T14.dflt).2.2.2 then 206158430208000 else (y1.getD y3.toNat T14.dflt).2.2.2 else 0)) y1 y2 (qa .i64 (y3 + 1))
 else none
 else
 some y0
end
def qqY (k : Nat) (a : T17.T) (b : List T18.T) (d : List (I.T × (RTy.bool).T)) : Option Int :=
 qel k a b d k 0 a.2.2.2.2.2.2.2.2.2.2.2.1 (↑ (qe a.2.2.2.2.2.2.2.2.2.2.2.1) : Int) 0
def qfU := fun k a b d => (qqY k a b d).getD 0
def qOf (k : Nat) : Ke := (78, fun
 | [.ptr _ _ _, .own _ _] => some [true, true, true, true, true]
 | _ => none, fun
 | [.ptr 0 0 0, .own 2 0], [.var 140 e, .row 54 tb_22_ qb_22, .map false kscrapped__ i f] => (qW [] T17 (e.take 22)).bind fun a => (qE tb_22_ T18 qb_22).bind fun b => (qlQ kscrapped__ i I RTy.bool f).bind fun d => some (.one (ri (qfU k a b d), qrB a b d (qfU k a b d)))
 | _, _ => none)
def qAl : List (Nat × List Cmd) := [(3, [.autoB [0, 1, 5, 15, 16, 17] false []]), (10, [.autoB [5, 53, 54, 55] false []])]
abbrev qIy := fun a b d => EP Tryz.f78 3 ri (qrB a b d)
theorem qAL (k a b d) : ∀ j, (∀ {y0 y1 y2 y3}, qIy a b d 3 (qGy a b d y0 y1 y2 y3) (qel k a b d j y0 y1 y2 y3)) ∧ (∀ {y0 y1 y2 y3}, qIy a b d 10 (qAM a b d y0 y1 y2 y3) (qfy k a b d j y0 y1 y2 y3))
 | 0 => by and_intros <;> intros <;> exact e0
 | j + 1 => by
  have ih := @qAL k a b d j
  have g := @go (qD [qth k]) [] qAl [.autoB [4] true []]
  refine ⟨?_, ?_⟩
  ·intro y0 y1 y2 y3 r h
   rw [qel] at h
   exact g (gS h (fun h => qS h fun h => qu h qzl fun h => gS h (fun h => qS h fun h => gD h 3 ih.1) fun h => gD h 3 ih.1) fun h => gD h 10 ih.2)
  ·intro y0 y1 y2 y3 r h
   rw [qfy] at h
   exact g (gS h (fun h => qS h fun h => gD h 10 ih.2) fun h => gL h)
theorem qO9 (k a b d r) (h : qqY k a b d = some r): qJa a b d r := qN Tryz.f78 (go (qD [qth k]) [] qAl [.autoB [4] true []] (gD h 3 (qAL k a b d k).1))
theorem qOi {k a b d} (h : (qqY k a b d).isSome): qJa a b d (qfU k a b d) := qJ h (qO9 k a b d)
abbrev qa6 : Type := T17.T × List T18.T
def qn7 (r : qa6) : AV := .tup []
def qrZ (a : T17.T) (b : List T18.T) (r : qa6) : List (Nat × Blk) := [(0, .var 140 ((qy (qr T17 r.1)) ++ [.own 1 1])), (1, .row 54 T18 r.2)]
abbrev qHn (a : T17.T) (b : List T18.T) (r : qa6) : Prop := CC Tryz.prog 35 [.ptr 0 0 0] [.var 140 (qy (qr T17 a) ++ [.own 1 0]), .row 54 T18 b] (qn7 r) (qrZ a b r)
def qF6 := fun (a : T17.T) (b : List T18.T) y0 y1 y2 y3 y4 => (⟨qI 209 [(0, .ptr 0 0 0), (56, ro T5 y0), (57, ri y1), (58, ri y2)], [(0, 0, .var 140 ((qy (qr T17 y3)) ++ [.own 1 1])), (1, 1, .row 54 T18 y4)]⟩ : St)
def qAE := fun (a : T17.T) (b : List T18.T) y0 y1 y2 y3 y4 y5 y6 y7 y8 y9 y10 y11 => (⟨qI 209 [(0, .ptr 0 0 0), (3, ri y0), (4, .ptr 1000000 0 0), (5, ri y1), (6, rb y2), (56, ro T5 y3), (57, ri y4), (58, ri y5), (90, ro T5 y6), (91, ri y7), (92, ri y8)], [(0, 0, .var 140 ((qy (qr T17 y9)) ++ [.own 1 1])), (1, 1, .row 54 T18 y10), (1000000, 0, .var 47 (qy (qr T5 y11)))]⟩ : St)
def qzX := fun (a : T17.T) (b : List T18.T) y0 y1 y2 y3 y4 y5 => (⟨qI 209 [(0, .ptr 0 0 0), (9, .own 1000000 0), (132, ro T5 y0), (133, ri y1), (134, ri y2)], [(0, 0, .var 140 ((qy (qr T17 y3)) ++ [.own 1 1])), (1, 1, .row 54 T18 y4), (1000000, 0, .map false I RTy.bool y5)]⟩ : St)
def qAJ := fun (a : T17.T) (b : List T18.T) y0 y1 y2 y3 y4 y5 y6 => (⟨qI 209 [(0, .ptr 0 0 0), (9, .own 1000000 0), (12, .own 1000001 0), (147, ro I y0), (148, ri y1), (149, ri y2)], [(0, 0, .var 140 ((qy (qr T17 y3)) ++ [.own 1 1])), (1, 1, .row 54 T18 y4), (1000000, 0, .map false I RTy.bool y5), (1000001, 0, .map false I RTy.bool y6)]⟩ : St)
mutual
def qez (k : Nat) (a : T17.T) (b : List T18.T) : Nat → List T5.T → Int → Int → T17.T → List T18.T → Option qa6
 | 0, _, _, _, _, _ => none
 | j + 1, y0, y1, y2, y3, y4 =>
 bif y2 < y1 then
 if (0 ≤ y2) ∧ (y2 < y0.length) then
 if ((qm2 k (y0.getD y2.toNat T5.dflt)).isSome) then
 if (0 ≤ y2) ∧ (y2 < (↑ (qe y3.2.2.2.2.2.2.2.2.2.2.2.2.1) : Int)) ∧ (decide (qM y3.2.2.2.2.2.2.2.2.2.2.2.2.1 y2.toNat I.dflt ≥ (0 : Int)) = true → 0 ≤ y2) ∧ (decide (qM y3.2.2.2.2.2.2.2.2.2.2.2.2.1 y2.toNat I.dflt ≥ (0 : Int)) = true → y2 < (↑ (qe y3.2.2.2.2.2.2.2.2.2.2.2.2.1) : Int)) then
 Yk k a b j y2 (qa2 k (y0.getD y2.toNat T5.dflt)) (decide (qM y3.2.2.2.2.2.2.2.2.2.2.2.2.1 y2.toNat I.dflt ≥ 0) && decide (qM y3.2.2.2.2.2.2.2.2.2.2.2.2.1 y2.toNat I.dflt ≤ qa2 k (y0.getD y2.toNat T5.dflt))) y0 y1 y2 y3.2.2.2.2.2.2.2.2.2.2.2.1 (↑ (qe y3.2.2.2.2.2.2.2.2.2.2.2.1) : Int) 0 y3 y4 (y0.getD y2.toNat T5.dflt)
 else none
 else none
 else none
 else
 qga k a b j y3.2.2.2.2.2.2.2.2.2.2.2.1 (↑ (qe y3.2.2.2.2.2.2.2.2.2.2.2.1) : Int) 0 y3 y4 ([])
def Yk (k : Nat) (a : T17.T) (b : List T18.T) : Nat → Int → Int → Bool → List T5.T → Int → Int → List T5.T → Int → Int → T17.T → List T18.T → T5.T → Option qa6
 | 0, _, _, _, _, _, _, _, _, _, _, _, _ => none
 | j + 1, y0, y1, y2, y3, y4, y5, y6, y7, y8, y9, y10, y11 =>
 bif y8 < y7 then
 if (0 ≤ y8) ∧ (y8 < y6.length) then
 bif y2 then
 bif ((y6.getD y8.toNat T5.dflt).2.1 != y11.1) then
 if (y2 = true) ∧ (((y6.getD y8.toNat T5.dflt).2.1 != y11.1) = true) then
 Yk k a b j y0 y1 (true && true) y3 y4 y5 y6 y7 (qa .i64 (y8 + 1)) y9 y10 y11
 else none
 else
 if (y2 = true) ∧ (((y6.getD y8.toNat T5.dflt).2.1 != y11.1) = false) ∧ ((qrn k (y6.getD y8.toNat T5.dflt)).isSome) ∧ (0 ≤ y0) ∧ (y0 < (↑ (qe y9.2.2.2.2.2.2.2.2.2.2.2.2.1) : Int)) then
 Yk k a b j y0 y1 (true && (false || decide (qy5 k (y6.getD y8.toNat T5.dflt) ≥ qa .i64 (y1 - qM y9.2.2.2.2.2.2.2.2.2.2.2.2.1 y0.toNat I.dflt)))) y3 y4 y5 y6 y7 (qa .i64 (y8 + 1)) y9 y10 y11
 else none
 else
 if (y2 = false) then
 Yk k a b j y0 y1 false y3 y4 y5 y6 y7 (qa .i64 (y8 + 1)) y9 y10 y11
 else none
 else none
 else
 bif (!y2) then
 if ((wU k y9 y10 3 y11.1 1).isSome) then
 qez k a b j y3 y4 (qa .i64 (y5 + 1)) ((q9 k y9 y10 3 y11.1 1).1) ((q9 k y9 y10 3 y11.1 1).2)
 else none
 else
 qez k a b j y3 y4 (qa .i64 (y5 + 1)) y9 y10
def qga (k : Nat) (a : T17.T) (b : List T18.T) : Nat → List T5.T → Int → Int → T17.T → List T18.T → (List (I.T × (RTy.bool).T)) → Option qa6
 | 0, _, _, _, _, _, _ => none
 | j + 1, y0, y1, y2, y3, y4, y5 =>
 bif y2 < y1 then
 if (0 ≤ y2) ∧ (y2 < y0.length) then
 qga k a b j y0 y1 (qa .i64 (y2 + 1)) y3 y4 (vw I (y0.getD y2.toNat T5.dflt).1 true y5)
 else none
 else
 qbA k a b j y3.2.2.2.2.2.2.2.2.2.2.2.2.2.1 (↑ (qe y3.2.2.2.2.2.2.2.2.2.2.2.2.2.1) : Int) 0 y3 y4 y5 ([])
def qbA (k : Nat) (a : T17.T) (b : List T18.T) : Nat → List I.T → Int → Int → T17.T → List T18.T → (List (I.T × (RTy.bool).T)) → (List (I.T × (RTy.bool).T)) → Option qa6
 | 0, _, _, _, _, _, _, _ => none
 | j + 1, y0, y1, y2, y3, y4, y5, y6 =>
 bif y2 < y1 then
 if (0 ≤ y2) ∧ (y2 < y0.length) then
 bif (! (wd I (y0.getD y2.toNat I.dflt) y5).getD false || (wd I (y0.getD y2.toNat I.dflt) y6).getD false) then
 if ((wU k y3 y4 3 (y0.getD y2.toNat I.dflt) 2).isSome) then
 qbA k a b j y0 y1 (qa .i64 (y2 + 1)) ((q9 k y3 y4 3 (y0.getD y2.toNat I.dflt) 2).1) ((q9 k y3 y4 3 (y0.getD y2.toNat I.dflt) 2).2) y5 (vw I (y0.getD y2.toNat I.dflt) true y6)
 else none
 else
 qbA k a b j y0 y1 (qa .i64 (y2 + 1)) y3 y4 y5 (vw I (y0.getD y2.toNat I.dflt) true y6)
 else none
 else
 bif (decide (y3.2.2.2.1 < (0 : Int)) || decide (y3.2.2.2.1 > y3.2.2.1)) then
 if ((wU k y3 y4 3 0 3).isSome) then
 some ((q9 k y3 y4 3 0 3).1, (q9 k y3 y4 3 0 3).2)
 else none
 else
 if ((qqY k y3 y4 y6).isSome) then
 bif (qa .i64 (qfU k y3 y4 y6 - qa .i64 (y3.2.1 * y3.2.2.2.1)) != (0 : Int)) then
 if ((wU k y3 y4 4 (qa .i64 (qfU k y3 y4 y6 - qa .i64 (y3.2.1 * y3.2.2.2.1))) 0).isSome) then
 some ((q9 k y3 y4 4 (qa .i64 (qfU k y3 y4 y6 - qa .i64 (y3.2.1 * y3.2.2.2.1))) 0).1, (q9 k y3 y4 4 (qa .i64 (qfU k y3 y4 y6 - qa .i64 (y3.2.1 * y3.2.2.2.1))) 0).2)
 else none
 else
 some (y3, y4)
 else none
end
def qmG (k : Nat) (a : T17.T) (b : List T18.T) : Option qa6 :=
 if ((qqX k a.2.2.2.2.2.2.2.2.2.2.2.1 a.2.1 a.2.2.1).isSome) then
 bif (qjF k a.2.2.2.2.2.2.2.2.2.2.2.1 a.2.1 a.2.2.1 != (0 : Int)) then
 if ((wU k a b 3 0 (qjF k a.2.2.2.2.2.2.2.2.2.2.2.1 a.2.1 a.2.2.1)).isSome) then
 some ((q9 k a b 3 0 (qjF k a.2.2.2.2.2.2.2.2.2.2.2.1 a.2.1 a.2.2.1)).1, (q9 k a b 3 0 (qjF k a.2.2.2.2.2.2.2.2.2.2.2.1 a.2.1 a.2.2.1)).2)
 else none
 else
 bif ((↑ (qe a.2.2.2.2.2.2.2.2.2.2.2.2.1) : Int) != (↑ (qe a.2.2.2.2.2.2.2.2.2.2.2.1) : Int)) then
 if ((wU k a b 3 0 0).isSome) then
 some ((q9 k a b 3 0 0).1, (q9 k a b 3 0 0).2)
 else none
 else
 qez k a b k a.2.2.2.2.2.2.2.2.2.2.2.1 (↑ (qe a.2.2.2.2.2.2.2.2.2.2.2.1) : Int) 0 a b
 else none
def qf1 := fun k a b => (qmG k a b).getD ((T17).dflt, [])
def qmF (k : Nat) : Ke := (35, fun
 | [.ptr _ _ _] => some [true]
 | _ => none, fun
 | [.ptr 0 0 0], [.var 140 d, .row 54 tt_22_ qt_22] => (qW [] T17 (d.take 22)).bind fun a => (qE tt_22_ T18 qt_22).bind fun b => some (.one (qn7 (qf1 k a b), qrZ a b (qf1 k a b)))
 | _, _ => none)
def qHe (k : Nat) : Calld := qD [qP8 k, qaF k, qth k, qQA k, qOf k]
def qAz : List (Nat × List Cmd) := [(6, [.autoB [0, 56, 57, 58] false [1]]), (11, [.autoB [0, 3, 4, 5, 6, 56, 57, 58, 90, 91, 92] false [1]]), (20, [.autoB [0, 9, 132, 133, 134] false [1]]), (26, [.autoB [0, 9, 12, 147, 148, 149] false [1]])]
abbrev qqV := fun a b => EP Tryz.f35 2 qn7 (qrZ a b)
theorem qAX (k a b) : ∀ j, (∀ {y0 y1 y2 y3 y4}, qqV a b 6 (qF6 a b y0 y1 y2 y3 y4) (qez k a b j y0 y1 y2 y3 y4)) ∧ (∀ {y0 y1 y2 y3 y4 y5 y6 y7 y8 y9 y10 y11}, qqV a b 11 (qAE a b y0 y1 y2 y3 y4 y5 y6 y7 y8 y9 y10 y11) (Yk k a b j y0 y1 y2 y3 y4 y5 y6 y7 y8 y9 y10 y11)) ∧ (∀ {y0 y1 y2 y3 y4 y5}, qqV a b 20 (qzX a b y0 y1 y2 y3 y4 y5) (qga k a b j y0 y1 y2 y3 y4 y5)) ∧ (∀ {y0 y1 y2 y3 y4 y5 y6}, qqV a b 26 (qAJ a b y0 y1 y2 y3 y4 y5 y6) (qbA k a b j y0 y1 y2 y3 y4 y5 y6))
 | 0 => by and_intros <;> intros <;> exact e0
 | j + 1 => by
  have ih := @qAX k a b j
  have g := @go (qHe k) [] qAz [.autoB [] true [1]]
  refine ⟨?_, ?_, ?_, ?_⟩
  ·intro y0 y1 y2 y3 y4 r h
   rw [qez] at h
   exact g (gS h (fun h => qS h fun h => qu h qzl fun h => gN h Xo fun h => gD h 11 ih.2.1) fun h => gD h 20 ih.2.2.1)
  ·intro y0 y1 y2 y3 y4 y5 y6 y7 y8 y9 y10 y11 r h
   rw [Yk] at h
   exact g (gS h (fun h => qS h fun h => gS h (fun h => gS h (fun h => qS h fun h => gD h 11 ih.2.1) fun h => gN h (fun q => qf q.1 (qf q.2.1 (qf (qPl q.2.2.1) (qf q.2.2.2.1 (qf q.2.2.2.2 qR))))) fun h => gD h 11 ih.2.1) fun h => qu h id fun h => gD h 11 ih.2.1) fun h => gS h (fun h => qu h wN fun h => gD h 6 ih.1) fun h => gD h 6 ih.1)
  ·intro y0 y1 y2 y3 y4 y5 r h
   rw [qga] at h
   exact g (gS h (fun h => qS h fun h => gD h 20 ih.2.2.1) fun h => gD h 26 ih.2.2.2)
  ·intro y0 y1 y2 y3 y4 y5 y6 r h
   rw [qbA] at h
   exact g (gS h (fun h => qS h fun h => gS h (fun h => qu h wN fun h => gD h 26 ih.2.2.2) fun h => gD h 26 ih.2.2.2) fun h => gS h (fun h => qu h wN fun h => gL h) fun h => gN h (fun q => qf (⟨rfl, ⟨rfl, ⟨rfl, trivial⟩⟩⟩ : qa0 (0, .var 140 ((qy (qr T17 y3)) ++ [.own 1 1])) ∧ qa0 (1, .row 54 T18 y4) ∧ qa0 (0, .map false I RTy.bool y6) ∧ True) (qf (qOi q) qR)) fun h => gS h (fun h => qu h wN fun h => gL h) fun h => gL h)
theorem qOI (k a b r) (h : qmG k a b = some r): qHn a b r := qN Tryz.f35 (go (qHe k) [] qAz [.autoB [] true [1]] (qu h qPQ fun h => gS h (fun h => qu h wN fun h => gL h) fun h => gS h (fun h => qu h wN fun h => gL h) fun h => gD h 6 (qAX k a b k).1))
theorem qz1 {k a b} (h : (qmG k a b).isSome): qHn a b (qf1 k a b) := qJ h (qOI k a b)
end
def wj (x : Int) (l : List Int) : Bool := l.any (fun y => y == x)
end Go.AM
namespace Go.AM
open Go Go.Proofs
noncomputable section
def qCx (r : T17.T) : AV := .sub 2 0 1 0 1
def qHY (a : T17.T) (b : List T18.T) (r : T17.T) : List (Nat × Blk) := [(0, .var 140 ((qy (qr T17 r)) ++ [.own 1 0])), (0, .row 54 T18 b), (0, .var 1 [.fn (Fn.func 35) [.ptr 0 0 0] []])]
abbrev qOu (a : T17.T) (b : List T18.T) (r : T17.T) : Prop := CC Tryz.prog 34 [.ptr 0 0 0] [.var 140 (qy (qr T17 a) ++ [.own 1 0]), .row 54 T18 b] (qCx r) (qHY a b r)
def qxI (k : Nat) (a : T17.T) (b : List T18.T) : Option T17.T :=
 some a
def qxH := fun k a b => (qxI k a b).getD (T17).dflt
def qHF (k : Nat) : Ke := (34, fun
 | [.ptr _ _ _] => some [true]
 | _ => none, fun
 | [.ptr 0 0 0], [.var 140 d, .row 54 tx_22_ qx_22] => (qW [] T17 (d.take 22)).bind fun a => (qE tx_22_ T18 qx_22).bind fun b => some (.one (qCx (qxH k a b), qHY a b (qxH k a b)))
 | _, _ => none)
theorem qSg (k a b r) (h : qxI k a b = some r): qOu a b r := qN Tryz.f34 (go (qD [qmF k]) [] [] [.autoB [2] true []] (gL h))
theorem qSj {k a b} (h : (qxI k a b).isSome): qOu a b (qxH k a b) := qJ h (qSg k a b)
abbrev qmc : Type := List T18.T × Int
def qoS (r : qmc) : AV := .tup [ro T18 r.1, ri r.2]
abbrev qIE (a : T17.T) (r : qmc) : Prop := CC Tryz.prog 33 [.agg (qy (qr T17 a)), .r (.v (.func (.func 34) #[] #[]))] [] (qoS r) (nb r)
def qrK := fun y0 y1 => (⟨qI 29 [(6, .ptr 1000000 0 0), (16, .sub 1000002 0 1 0 1), (17, ri 1), (18, ri 0)], [(1000000, 0, .var 140 ((qy (qr T17 y0)) ++ [.own 1000001 0])), (1000001, 0, .row 54 T18 y1), (1000002, 0, .var 1 [.fn (Fn.func 35) [.ptr 1000000 0 0] []])]⟩ : St)
def qsW := fun y0 y1 => (⟨qI 29 [(6, .ptr 1000000 0 0), (16, .sub 1000002 0 1 0 1), (17, ri 1), (18, ri 1)], [(1000000, 0, .var 140 ((qy (qr T17 y0)) ++ [.own 1000001 0])), (1000001, 0, .row 54 T18 y1), (1000002, 0, .var 1 [.fn (Fn.func 35) [.ptr 1000000 0 0] []])]⟩ : St)
mutual
def qdM (k : Nat) : Nat → T17.T → List T18.T → Option qmc
 | 0, _, _ => none
 | j + 1, y0, y1 =>
 if ((0 : Int) ≤ (0 : Int)) ∧ ((0 : Int) < (↑ (1 : Nat) : Int)) then
 if ((qmG k y0 y1).isSome) then
 qdw k j ((qf1 k y0 y1).1) ((qf1 k y0 y1).2)
 else none
 else none
def qdw (k : Nat) : Nat → T17.T → List T18.T → Option qmc
 | 0, _, _ => none
 | j + 1, y0, y1 =>
 some (y1, 0)
end
def qq3 (k : Nat) (a : T17.T) : Option qmc :=
 if ((qbd k a).isSome) then
 bif (qcJ k a) then
 some ([], 8)
 else
 if ((qxI k a []).isSome) then
 qdM k k (qxH k a []) ([])
 else none
 else none
def qrr := fun k a => (qq3 k a).getD ([], 0)
def qO5 (k : Nat) : Ke := (33, fun
 | [_, .r (.v (.func (.func 34) _ _))] => some [false, false]
 | _ => none, fun
 | [.agg b, .r (.v (.func (.func 34) _ _))], [] => (qW [] T17 b).bind fun a => some (.one (qoS (qrr k a), []))
 | _, _ => none)
def qI1 (k : Nat) : Calld := qD [qnu k, qmF k, qHF k]
def qDH : List (Nat × List Cmd) := [(5, [.key 18, .autoB [6, 16, 17, 18] false []])]
abbrev qJo := EP Tryz.f33 0 qoS nb
theorem qzu (k) : ∀ j, (∀ {y0 y1}, qJo 5 (qrK y0 y1) (qdM k j y0 y1)) ∧ (∀ {y0 y1}, qJo 5 (qsW y0 y1) (qdw k j y0 y1))
 | 0 => by and_intros <;> intros <;> exact e0
 | j + 1 => by
  have ih := @qzu k j
  have g := @go (qI1 k) [] qDH [.frz 4 false (RTy.list T18), .autoB [4, 5] true []]
  refine ⟨?_, ?_⟩
  ·intro y0 y1 r h
   rw [qdM] at h
   exact g (gU1 h (.leaf (.tup [.r (.ro T18 y1), .r (.v (.int .i64 0))]) []) fun h => qS h fun h => qu h qz1 fun h => gD h 20005 ih.2)
  ·intro y0 y1 r h
   rw [qdw] at h
   exact g (gU2 h (.stuck 5001) fun h => gL h)
theorem qPh (k a r) (h : qq3 k a = some r): qIE a r := qN Tryz.f33 (go (qI1 k) [] qDH [.frz 4 false (RTy.list T18), .autoB [4, 5] true []] (qu h qm7 fun h => qB h fun h => qu h qSj fun h => gD h 10005 (qzu k k).1))
theorem qPm {k a} (h : (qq3 k a).isSome): qIE a (qrr k a) := qJ h (qPh k a)
abbrev qFP : Type := List T18.T × Int
def qEy (r : qFP) : AV := .tup [ro T18 r.1, ri r.2]
abbrev qPz (a : T17.T) (r : qFP) : Prop := CC Tryz.prog 14 [.agg (qy (qr T17 a))] [] (qEy r) (nb r)
def qyW (k : Nat) (a : T17.T) : Option qFP :=
 if ((qq3 k a).isSome) then
 some ((qrr k a).1, (qrr k a).2)
 else none
def qhD := fun k a => (qyW k a).getD ([], 0)
def qSi (k : Nat) : Ke := (14, mo 1, fun
 | [.agg b], [] => (qW [] T17 b).bind fun a => some (.one (qEy (qhD k a), []))
 | _, _ => none)
theorem qSh (k a r) (h : qyW k a = some r): qPz a r := qN Tryz.f14 (go (qD [qHF k, qO5 k]) [] [] [.frz 2 false (RTy.list T18), .autoB [2, 3] true []] (qu h qPm fun h => gL h))
theorem qR1 {k a} (h : (qyW k a).isSome): qPz a (qhD k a) := qJ h (qSh k a)
end
def bs (b : T17.T) (f : List wP) : qa6 := (b, f)
theorem qly (M : List (Int × Bool)) (a x : Int) : (wd I (β := Bool) x (vw I (β := Bool) a true M)).getD false = (a == x || (wd I (β := Bool) x M).getD false) := by
 rw [qqD]
 by_cases h : x = a
 ·rw [qd h, h, beq_self_eq_true, zX]; rfl
 ·rw [qm h, show (a == x) = false from beq_eq_false_iff_ne.2 (fun e => h e.symm), zn]
theorem qpG (x a : Int) (l : List Int) : wj x (l ++ [a]) = (a == x || wj x l) := by
 unfold wj
 rw [List.any_append, List.any_cons, List.any_nil, Bool.or_false, Bool.or_comm]
end Go.AM
namespace Go.AM
open Go Go.Proofs
noncomputable section
end
end Go.AM
namespace Go.AM
open Go Go.Proofs
noncomputable section
abbrev qD0 (a : List I.T) (b : Int) (d : Int) (r : Bool) : Prop := CC Tryz.prog 45 [ro I a, ri b, ri d] [] (rb r) (nb r)
def qz0 := fun y0 y1 y2 y3 => (⟨qI 19 [(0, ro I y0), (1, ri y1), (2, ri y2), (7, ri y3)], []⟩ : St)
def Xb (k : Nat) : Nat → List I.T → Int → Int → Int → Option Bool
 | 0, _, _, _, _ => none
 | j + 1, y0, y1, y2, y3 =>
 bif y3 < y1 then
 if (0 ≤ y3) ∧ (y3 < y0.length) then
 bif (y0.getD y3.toNat I.dflt == y2) then
 some true
 else
 Xb k j y0 y1 y2 (qa .i64 (y3 + 1))
 else none
 else
 some false
def Zz (k : Nat) (a : List I.T) (b : Int) (d : Int) : Option Bool :=
 Xb k k a b d 0
def VD := fun k a b d => (Zz k a b d).getD false
def qjL (k : Nat) : Ke := (45, mo 3, fun
 | [.r (.ro f e), .r (.v (.int .i64 b)), .r (.v (.int .i64 d))], [] => (qE f I e).bind fun a => some (.one (rb (VD k a b d), []))
 | _, _ => none)
def qvI : List (Nat × List Cmd) := [(2, [.autoB [0, 1, 2, 7] false []])]
abbrev qNU := EP Tryz.f45 0 rb nb
theorem qv8 (k) : ∀ j, (∀ y0 y1 y2 y3, qNU 2 (qz0 y0 y1 y2 y3) (Xb k j y0 y1 y2 y3))
 | 0 => by intros; exact e0
 | j + 1 => by
  have ih := @qv8 k j
  ·intro y0 y1 y2 y3 r h
   rw [Xb] at h
   exact go (qD []) [] qvI [.autoB [6] true []] (gS h (fun h => qS h fun h => qB h fun h => gC h 2 (ih _ _ _ _ _)) fun h => gL h)
theorem qLT (k a b d r) (h : Zz k a b d = some r): qD0 a b d r := qN Tryz.f45 (go (qD []) [] qvI [.autoB [6] true []] (gC h 2 ((qv8 k k) _ _ _ _ _)))
theorem qfc {k a b d} (h : (Zz k a b d).isSome): qD0 a b d (VD k a b d) := qJ h (qLT k a b d)
end
end Go.AM
namespace Go.AM
open Go Go.Proofs
noncomputable section
def bs_H62_u51_0 : ByteArray := ByteArray.mk #[48, 49, 50, 51, 52, 53, 54, 55, 56, 57, 97, 98, 99, 100, 101, 102, 103, 104, 105, 106, 107, 108, 109, 110, 111, 112, 113, 114, 115, 116, 117, 118, 119, 120, 121, 122]
def bs_H62_u51_1 : ByteArray := ByteArray.mk #[48, 49, 50, 51, 52, 53, 54, 55, 56, 57, 97, 98, 99, 100, 101, 102, 103, 104, 105, 106, 107, 108, 109, 110, 111, 112, 113, 114, 115, 116, 117, 118, 119, 120, 121, 122]
def qv5 (r : ByteArray) : AV := .r (.v (.string r))
abbrev qHi (a : Int) (r : ByteArray) : Prop := CC Tryz.prog 204 [ri a] [] (qv5 r) (nb r)
def qq6 (k : Nat) (a : Int) : Option ByteArray :=
 bif a < 10 then
 if (0 ≤ a) ∧ (a ≤ qa .i64 (a + 1)) ∧ (qa .i64 (a + 1) ≤ (↑ bs_H62_u51_0.size : Int)) then
 some (bs_H62_u51_1.extract a.toNat (qa .i64 (a + 1)).toNat)
 else none
 else
 if ((0 : Int) ≤ qa .i64 (a * 2)) ∧ (qa .i64 (a * 2) ≤ qa .i64 (qa .i64 (a * 2) + (2 : Int))) ∧ (qa .i64 (qa .i64 (a * 2) + (2 : Int)) ≤ (↑ (ByteArray.mk (([48, 48, 48, 49, 48, 50, 48, 51, 48, 52, 48, 53, 48, 54, 48, 55, 48, 56, 48, 57, 49, 48, 49, 49, 49, 50, 49, 51, 49, 52, 49, 53, 49, 54, 49, 55, 49, 56, 49, 57, 50, 48, 50, 49, 50, 50, 50, 51, 50, 52].append [50, 53, 50, 54, 50, 55, 50, 56, 50, 57, 51, 48, 51, 49, 51, 50, 51, 51, 51, 52, 51, 53, 51, 54, 51, 55, 51, 56, 51, 57, 52, 48, 52, 49, 52, 50, 52, 51, 52, 52, 52, 53, 52, 54, 52, 55, 52, 56, 52, 57]).append ([53, 48, 53, 49, 53, 50, 53, 51, 53, 52, 53, 53, 53, 54, 53, 55, 53, 56, 53, 57, 54, 48, 54, 49, 54, 50, 54, 51, 54, 52, 54, 53, 54, 54, 54, 55, 54, 56, 54, 57, 55, 48, 55, 49, 55, 50, 55, 51, 55, 52].append [55, 53, 55, 54, 55, 55, 55, 56, 55, 57, 56, 48, 56, 49, 56, 50, 56, 51, 56, 52, 56, 53, 56, 54, 56, 55, 56, 56, 56, 57, 57, 48, 57, 49, 57, 50, 57, 51, 57, 52, 57, 53, 57, 54, 57, 55, 57, 56, 57, 57])).toArray).size : Int)) then
 some ((ByteArray.mk (([48, 48, 48, 49, 48, 50, 48, 51, 48, 52, 48, 53, 48, 54, 48, 55, 48, 56, 48, 57, 49, 48, 49, 49, 49, 50, 49, 51, 49, 52, 49, 53, 49, 54, 49, 55, 49, 56, 49, 57, 50, 48, 50, 49, 50, 50, 50, 51, 50, 52].append [50, 53, 50, 54, 50, 55, 50, 56, 50, 57, 51, 48, 51, 49, 51, 50, 51, 51, 51, 52, 51, 53, 51, 54, 51, 55, 51, 56, 51, 57, 52, 48, 52, 49, 52, 50, 52, 51, 52, 52, 52, 53, 52, 54, 52, 55, 52, 56, 52, 57]).append ([53, 48, 53, 49, 53, 50, 53, 51, 53, 52, 53, 53, 53, 54, 53, 55, 53, 56, 53, 57, 54, 48, 54, 49, 54, 50, 54, 51, 54, 52, 54, 53, 54, 54, 54, 55, 54, 56, 54, 57, 55, 48, 55, 49, 55, 50, 55, 51, 55, 52].append [55, 53, 55, 54, 55, 55, 55, 56, 55, 57, 56, 48, 56, 49, 56, 50, 56, 51, 56, 52, 56, 53, 56, 54, 56, 55, 56, 56, 56, 57, 57, 48, 57, 49, 57, 50, 57, 51, 57, 52, 57, 53, 57, 54, 57, 55, 57, 56, 57, 57])).toArray).extract (qa .i64 (a * 2)).toNat (qa .i64 (qa .i64 (a * 2) + 2)).toNat)
 else none
def qyT := fun k a => (qq6 k a).getD ByteArray.empty
def qQW (k : Nat) : Ke := (204, mo 1, fun
 | [.r (.v (.int .i64 a))], [] => some (.one (qv5 (qyT k a), []))
 | _, _ => none)
theorem qRb (k a r) (h : qq6 k a = some r): qHi a r := qN Tryz.f204 (go (qD []) [] [] [.autoB [2] true []] (gS h (fun h => gN h Xl fun h => gL h) fun h => gN h Xl fun h => gL h))
theorem qRh {k a} (h : (qq6 k a).isSome): qHi a (qyT k a) := qJ h (qRb k a)
def qu1 (r : ByteArray) : AV := .r (.v (.string r))
abbrev qHN (a : Int) (b : Int) (r : ByteArray) : Prop := CC Tryz.prog 161 [ri a, ri b] [] (qu1 r) (nb r)
def qrh (k : Nat) (a : Int) (b : Int) : Option ByteArray :=
 bif (b == 10) then
 bif (decide (0 ≤ a) && decide (a < 100)) then
 if ((qq6 k a).isSome) then
 some (qyT k a)
 else none
 else
 bif a < 0 then
 none
 else
 none
 else
 none
def qxU := fun k a b => (qrh k a b).getD ByteArray.empty
def qQB (k : Nat) : Ke := (161, mo 2, fun
 | [.r (.v (.int .i64 a)), .r (.v (.int .i64 b))], [] => some (.one (qu1 (qxU k a b), []))
 | _, _ => none)
theorem qN4 (k a b r) (h : qrh k a b = some r): qHN a b r := qN Tryz.f161 (go (qD [qQW k]) [] [] [.autoB [4] true []] (gS h (fun h => gS h (fun h => qu h qRh fun h => gL h) fun h => gS h (fun h => gZ h (.stuck 2001)) fun h => gZ h (.stuck 2001)) fun h => gZ h (.stuck 2005)))
theorem qQq {k a b} (h : (qrh k a b).isSome): qHN a b (qxU k a b) := qJ h (qN4 k a b)
def qvh (r : ByteArray) : AV := .r (.v (.string r))
abbrev qHI (a : Int) (r : ByteArray) : Prop := CC Tryz.prog 111 [ri a] [] (qvh r) (nb r)
def qrm (k : Nat) (a : Int) : Option ByteArray :=
 if ((qrh k a 10).isSome) then
 some (qxU k a 10)
 else none
def qyI := fun k a => (qrm k a).getD ByteArray.empty
def qN8 (k : Nat) : Ke := (111, mo 1, fun
 | [.r (.v (.int .i64 a))], [] => some (.one (qvh (qyI k a), []))
 | _, _ => none)
theorem qNH (k a r) (h : qrm k a = some r): qHI a r := qN Tryz.f111 (go (qD [qQB k]) [] [] [.autoB [2] true []] (qu h qQq fun h => gL h))
theorem qQ5 {k a} (h : (qrm k a).isSome): qHI a (qyI k a) := qJ h (qNH k a)
def qtJ (r : ByteArray) : AV := .r (.v (.string r))
abbrev qD7 (a : Int) (r : ByteArray) : Prop := CC Tryz.prog 64 [ri a] [] (qtJ r) (nb r)
def qhG (k : Nat) (a : Int) : Option ByteArray :=
 if ((qrm k a).isSome) then
 some (qyI k a)
 else none
def qX := fun k a => (qhG k a).getD ByteArray.empty
def qLM (k : Nat) : Ke := (64, mo 1, fun
 | [.r (.v (.int .i64 a))], [] => some (.one (qtJ (qX k a), []))
 | _, _ => none)
theorem qM8 (k a r) (h : qhG k a = some r): qD7 a r := qN Tryz.f64 (go (qD [qN8 k]) [] [] [.autoB [2] true []] (qu h qQ5 fun h => gL h))
theorem qu6 {k a} (h : (qhG k a).isSome): qD7 a (qX k a) := qJ h (qM8 k a)
def bs_H62_u7_0 : ByteArray := ByteArray.mk #[115, 101, 99, 116, 105, 111, 110, 115, 58, 32, 101, 114, 114, 111, 114, 32]
def quy : ByteArray := ByteArray.mk #[115, 101, 99, 116, 105, 111, 110, 115, 58, 32, 101, 114, 114, 111, 114, 32]
def bs_H62_u7_2 : ByteArray := ByteArray.mk #[32, 100, 111, 101, 115, 32, 110, 111, 116, 32, 109, 97, 116, 99, 104, 58, 32, 101, 114, 114, 111, 114, 32]
def quS : ByteArray := ByteArray.mk #[32, 100, 111, 101, 115, 32, 110, 111, 116, 32, 109, 97, 116, 99, 104, 58, 32, 101, 114, 114, 111, 114, 32]
def bs_H62_u7_4 : ByteArray := ByteArray.mk #[116, 104, 101, 32, 97, 114, 101, 97, 32, 111, 102, 32, 116, 104, 101, 32, 119, 101, 98, 32, 105, 115, 32, 110, 111, 116, 32, 98, 97, 108, 97, 110, 99, 101, 100, 58, 32]
def quL : ByteArray := ByteArray.mk #[116, 104, 101, 32, 97, 114, 101, 97, 32, 111, 102, 32, 116, 104, 101, 32, 119, 101, 98, 32, 105, 115, 32, 110, 111, 116, 32, 98, 97, 108, 97, 110, 99, 101, 100, 58, 32]
def bs_H62_u7_6 : ByteArray := ByteArray.mk #[115, 104, 105, 112, 112, 101, 100, 32, 114, 111, 108, 108, 32]
def quU : ByteArray := ByteArray.mk #[115, 104, 105, 112, 112, 101, 100, 32, 114, 111, 108, 108, 32]
def bs_H62_u7_8 : ByteArray := ByteArray.mk #[32, 119, 97, 115, 32, 110, 111, 116, 32, 114, 101, 108, 101, 97, 115, 101, 100, 58, 32, 101, 114, 114, 111, 114, 32]
def quI : ByteArray := ByteArray.mk #[32, 119, 97, 115, 32, 110, 111, 116, 32, 114, 101, 108, 101, 97, 115, 101, 100, 58, 32, 101, 114, 114, 111, 114, 32]
def bs_H62_u7_10 : ByteArray := ByteArray.mk #[116, 104, 101, 32, 99, 114, 101, 100, 105, 116, 32, 111, 102, 32, 99, 108, 97, 105, 109, 32]
def bs_H62_u7_11 : ByteArray := ByteArray.mk #[32, 115, 104, 111, 117, 108, 100, 32, 98, 101, 32]
def qtg : ByteArray := ByteArray.mk #[116, 104, 101, 32, 99, 114, 101, 100, 105, 116, 32, 111, 102, 32, 99, 108, 97, 105, 109, 32]
def qtL : ByteArray := ByteArray.mk #[32, 115, 104, 111, 117, 108, 100, 32, 98, 101, 32]
def bs_H62_u7_14 : ByteArray := ByteArray.mk #[32, 99, 97, 110, 110, 111, 116, 32, 98, 101, 32, 115, 101, 116, 116, 108, 101, 100, 58, 32, 101, 114, 114, 111, 114, 32]
def qui : ByteArray := ByteArray.mk #[32, 99, 97, 110, 110, 111, 116, 32, 98, 101, 32, 115, 101, 116, 116, 108, 101, 100, 58, 32, 101, 114, 114, 111, 114, 32]
def bs_H62_u7_16 : ByteArray := ByteArray.mk #[98, 114, 111, 107, 101, 58, 32, 101, 114, 114, 111, 114, 32]
def qtp : ByteArray := ByteArray.mk #[98, 114, 111, 107, 101, 58, 32, 101, 114, 114, 111, 114, 32]
def bs_H62_u7_18 : ByteArray := ByteArray.mk #[32, 105, 115, 32, 114, 101, 112, 101, 97, 116, 101, 100]
def qtV : ByteArray := ByteArray.mk #[32, 105, 115, 32, 114, 101, 112, 101, 97, 116, 101, 100]
abbrev qGY : Type := ByteArray × Int
def qEn (r : qGY) : AV := .tup [.r (.v (.string r.1)), ri r.2]
abbrev qRv (a : T18.T) (r : qGY) : Prop := CC Tryz.prog 25 [.agg (qy (qr T18 a))] [] (qEn r) (nb r)
def qyH (k : Nat) (a : T18.T) : Option qGY :=
 if ((qhG k a.2.1).isSome) ∧ ((qhG k a.2.2).isSome) then
 bif (a.1 == (1 : Int)) then
 if ((↑ (bs_H62_u7_0.size + vd (qX k a.2.1)) : Int) ≤ IntKind.i64.max) ∧ ((↑ ((bs_H62_u7_0 ++ qX k a.2.1).size + (ByteArray.mk #[44, 32, 101, 110, 100, 32]).size) : Int) ≤ IntKind.i64.max) ∧ ((↑ ((bs_H62_u7_0 ++ qX k a.2.1 ++ (ByteArray.mk #[44, 32, 101, 110, 100, 32])).size + vd (qX k a.2.2)) : Int) ≤ IntKind.i64.max) then
 some (quy ++ qX k a.2.1 ++ (ByteArray.mk #[44, 32, 101, 110, 100, 32]) ++ qX k a.2.2, 0)
 else none
 else
 bif (a.1 == (2 : Int)) then
 if ((↑ ((ByteArray.mk #[114, 101, 101, 108, 32]).size + vd (qX k a.2.1)) : Int) ≤ IntKind.i64.max) ∧ ((↑ (((ByteArray.mk #[114, 101, 101, 108, 32]) ++ qX k a.2.1).size + bs_H62_u7_2.size) : Int) ≤ IntKind.i64.max) ∧ ((↑ (((ByteArray.mk #[114, 101, 101, 108, 32]) ++ qX k a.2.1 ++ bs_H62_u7_2).size + vd (qX k a.2.2)) : Int) ≤ IntKind.i64.max) then
 some ((ByteArray.mk #[114, 101, 101, 108, 32]) ++ qX k a.2.1 ++ quS ++ qX k a.2.2, 0)
 else none
 else
 bif (a.1 == (3 : Int)) then
 if ((↑ ((ByteArray.mk #[114, 111, 108, 108, 32]).size + vd (qX k a.2.1)) : Int) ≤ IntKind.i64.max) ∧ ((↑ (((ByteArray.mk #[114, 111, 108, 108, 32]) ++ qX k a.2.1).size + (ByteArray.mk #[58, 32, 101, 114, 114, 111, 114, 32]).size) : Int) ≤ IntKind.i64.max) ∧ ((↑ (((ByteArray.mk #[114, 111, 108, 108, 32]) ++ qX k a.2.1 ++ (ByteArray.mk #[58, 32, 101, 114, 114, 111, 114, 32])).size + vd (qX k a.2.2)) : Int) ≤ IntKind.i64.max) then
 some ((ByteArray.mk #[114, 111, 108, 108, 32]) ++ qX k a.2.1 ++ (ByteArray.mk #[58, 32, 101, 114, 114, 111, 114, 32]) ++ qX k a.2.2, 0)
 else none
 else
 bif (a.1 == (4 : Int)) then
 if ((↑ (bs_H62_u7_4.size + vd (qX k a.2.1)) : Int) ≤ IntKind.i64.max) then
 some (quL ++ qX k a.2.1, 0)
 else none
 else
 bif (a.1 == (5 : Int)) then
 if ((↑ ((ByteArray.mk #[111, 114, 100, 101, 114, 32]).size + vd (qX k a.2.1)) : Int) ≤ IntKind.i64.max) ∧ ((↑ (((ByteArray.mk #[111, 114, 100, 101, 114, 32]) ++ qX k a.2.1).size + (ByteArray.mk #[58, 32, 101, 114, 114, 111, 114, 32]).size) : Int) ≤ IntKind.i64.max) ∧ ((↑ (((ByteArray.mk #[111, 114, 100, 101, 114, 32]) ++ qX k a.2.1 ++ (ByteArray.mk #[58, 32, 101, 114, 114, 111, 114, 32])).size + vd (qX k a.2.2)) : Int) ≤ IntKind.i64.max) then
 some ((ByteArray.mk #[111, 114, 100, 101, 114, 32]) ++ qX k a.2.1 ++ (ByteArray.mk #[58, 32, 101, 114, 114, 111, 114, 32]) ++ qX k a.2.2, 0)
 else none
 else
 bif (a.1 == (6 : Int)) then
 if ((↑ (bs_H62_u7_6.size + vd (qX k a.2.1)) : Int) ≤ IntKind.i64.max) ∧ ((↑ ((bs_H62_u7_6 ++ qX k a.2.1).size + (ByteArray.mk #[58, 32, 101, 114, 114, 111, 114, 32]).size) : Int) ≤ IntKind.i64.max) ∧ ((↑ ((bs_H62_u7_6 ++ qX k a.2.1 ++ (ByteArray.mk #[58, 32, 101, 114, 114, 111, 114, 32])).size + vd (qX k a.2.2)) : Int) ≤ IntKind.i64.max) then
 some (quU ++ qX k a.2.1 ++ (ByteArray.mk #[58, 32, 101, 114, 114, 111, 114, 32]) ++ qX k a.2.2, 0)
 else none
 else
 bif (a.1 == (7 : Int)) then
 if ((↑ ((ByteArray.mk #[114, 111, 108, 108, 32]).size + vd (qX k a.2.1)) : Int) ≤ IntKind.i64.max) ∧ ((↑ (((ByteArray.mk #[114, 111, 108, 108, 32]) ++ qX k a.2.1).size + bs_H62_u7_8.size) : Int) ≤ IntKind.i64.max) ∧ ((↑ (((ByteArray.mk #[114, 111, 108, 108, 32]) ++ qX k a.2.1 ++ bs_H62_u7_8).size + vd (qX k a.2.2)) : Int) ≤ IntKind.i64.max) then
 some ((ByteArray.mk #[114, 111, 108, 108, 32]) ++ qX k a.2.1 ++ quI ++ qX k a.2.2, 0)
 else none
 else
 bif (a.1 == (8 : Int)) then
 if ((↑ (bs_H62_u7_10.size + vd (qX k a.2.1)) : Int) ≤ IntKind.i64.max) ∧ ((↑ ((bs_H62_u7_10 ++ qX k a.2.1).size + bs_H62_u7_11.size) : Int) ≤ IntKind.i64.max) ∧ ((↑ ((bs_H62_u7_10 ++ qX k a.2.1 ++ bs_H62_u7_11).size + vd (qX k a.2.2)) : Int) ≤ IntKind.i64.max) then
 some (qtg ++ qX k a.2.1 ++ qtL ++ qX k a.2.2, 0)
 else none
 else
 bif (a.1 == (9 : Int)) then
 if ((↑ ((ByteArray.mk #[99, 108, 97, 105, 109, 32]).size + vd (qX k a.2.1)) : Int) ≤ IntKind.i64.max) ∧ ((↑ (((ByteArray.mk #[99, 108, 97, 105, 109, 32]) ++ qX k a.2.1).size + bs_H62_u7_14.size) : Int) ≤ IntKind.i64.max) ∧ ((↑ (((ByteArray.mk #[99, 108, 97, 105, 109, 32]) ++ qX k a.2.1 ++ bs_H62_u7_14).size + vd (qX k a.2.2)) : Int) ≤ IntKind.i64.max) then
 some ((ByteArray.mk #[99, 108, 97, 105, 109, 32]) ++ qX k a.2.1 ++ qui ++ qX k a.2.2, 0)
 else none
 else
 bif (a.1 == (10 : Int)) then
 if ((↑ (bs_H62_u7_16.size + vd (qX k a.2.1)) : Int) ≤ IntKind.i64.max) then
 some (qtp ++ qX k a.2.1, 0)
 else none
 else
 bif (a.1 == (11 : Int)) then
 if ((↑ ((ByteArray.mk #[112, 111, 115, 116, 105, 110, 103, 32]).size + vd (qX k a.2.1)) : Int) ≤ IntKind.i64.max) ∧ ((↑ (((ByteArray.mk #[112, 111, 115, 116, 105, 110, 103, 32]) ++ qX k a.2.1).size + (ByteArray.mk #[58, 32, 101, 114, 114, 111, 114, 32]).size) : Int) ≤ IntKind.i64.max) ∧ ((↑ (((ByteArray.mk #[112, 111, 115, 116, 105, 110, 103, 32]) ++ qX k a.2.1 ++ (ByteArray.mk #[58, 32, 101, 114, 114, 111, 114, 32])).size + vd (qX k a.2.2)) : Int) ≤ IntKind.i64.max) then
 some ((ByteArray.mk #[112, 111, 115, 116, 105, 110, 103, 32]) ++ qX k a.2.1 ++ (ByteArray.mk #[58, 32, 101, 114, 114, 111, 114, 32]) ++ qX k a.2.2, 0)
 else none
 else
 bif (a.1 == (12 : Int)) then
 if ((↑ ((ByteArray.mk #[112, 111, 115, 116, 105, 110, 103, 32]).size + vd (qX k a.2.1)) : Int) ≤ IntKind.i64.max) ∧ ((↑ (((ByteArray.mk #[112, 111, 115, 116, 105, 110, 103, 32]) ++ qX k a.2.1).size + bs_H62_u7_18.size) : Int) ≤ IntKind.i64.max) then
 some ((ByteArray.mk #[112, 111, 115, 116, 105, 110, 103, 32]) ++ qX k a.2.1 ++ qtV, 0)
 else none
 else
 some (ByteArray.mk #[], 17)
 else none
def qyh := fun k a => (qyH k a).getD (ByteArray.empty, 0)
def qR9 (k : Nat) : Ke := (25, mo 1, fun
 | [.agg b], [] => (qW [] T18 b).bind fun a => some (.one (qEn (qyh k a), []))
 | _, _ => none)
theorem qSE (k a r) (h : qyH k a = some r): qRv a r := qN Tryz.f25 (go (qD [qLM k]) [] [] [.autoB [2, 3] true []] (gN h (fun q => qf (qu6 q.1) (qf (qu6 q.2) qR)) fun h => gS h (fun h => gN h Xl fun h => gL h) fun h => gS h (fun h => gN h Xl fun h => gL h) fun h => gS h (fun h => gN h Xl fun h => gL h) fun h => gS h (fun h => qu h id fun h => gL h) fun h => gS h (fun h => gN h Xl fun h => gL h) fun h => gS h (fun h => gN h Xl fun h => gL h) fun h => gS h (fun h => gN h Xl fun h => gL h) fun h => gS h (fun h => gN h Xl fun h => gL h) fun h => gS h (fun h => gN h Xl fun h => gL h) fun h => gS h (fun h => qu h id fun h => gL h) fun h => gS h (fun h => gN h Xl fun h => gL h) fun h => gS h (fun h => qS h fun h => gL h) fun h => gL h))
theorem qRN {k a} (h : (qyH k a).isSome): qRv a (qyh k a) := qJ h (qSE k a)
abbrev qH7 (a : T8.T) (r : Int) : Prop := CC Tryz.prog 88 [.agg (qy (qr T8 a))] [] (ri r) (nb r)
def VH (k : Nat) (a : T8.T) : Option Int :=
 bif (decide (a.1 < (1 : Int)) || decide (a.1 > (1000000 : Int))) then
 some 1
 else
 bif (decide (a.2.1 < (0 : Int)) || decide (a.2.1 ≥ (16 : Int))) then
 some 22
 else
 bif (decide (a.2.2.1 < (1 : Int)) || decide (a.2.2.1 > (12000 : Int))) then
 some 20
 else
 bif (decide (a.2.2.2.1 < (1 : Int)) || decide (a.2.2.2.1 ≥ (2500 : Int)) || decide (a.2.2.2.2.1 ≤ a.2.2.2.1) || decide (a.2.2.2.2.1 > (2500 : Int))) then
 some 1
 else
 bif (decide (a.2.2.2.2.2.1 < (0 : Int)) || decide (a.2.2.2.2.2.1 > qa .i64 (a.2.2.2.2.1 - a.2.2.2.1)) || decide (a.2.2.2.2.2.2.1 < (1 : Int)) || decide (a.2.2.2.2.2.2.1 > (1000 : Int))) then
 some 1
 else
 bif (decide (a.2.2.2.2.2.2.2.1 < (0 : Int)) || decide (a.2.2.2.2.2.2.2.1 > (1000 : Int)) || decide (a.2.2.2.2.2.2.2.2.1 < (0 : Int)) || decide (a.2.2.2.2.2.2.2.2.1 > (1000 : Int))) then
 some 1
 else
 bif (decide (a.2.2.2.2.2.2.2.2.2.1 < (0 : Int)) || decide (a.2.2.2.2.2.2.2.2.2.1 > (8 : Int)) || decide (a.2.2.2.2.2.2.2.2.2.2.1 < (0 : Int)) || decide (a.2.2.2.2.2.2.2.2.2.2.1 > (100 : Int))) then
 some 1
 else
 bif (decide (a.2.2.2.2.2.2.2.2.2.2.2 < (0 : Int)) || decide (a.2.2.2.2.2.2.2.2.2.2.2 > (1000000000 : Int))) then
 some 1
 else
 some 0
def YS := fun k a => (VH k a).getD 0
def qB0 (k : Nat) : Ke := (88, mo 1, fun
 | [.agg b], [] => (qW [] T8 b).bind fun a => some (.one (ri (YS k a), []))
 | _, _ => none)
theorem qP2 (k a r) (h : VH k a = some r): qH7 a r := qN Tryz.f88 (go (qD []) [] [] [.autoB [2] true []] (qB h fun h => qB h fun h => qB h fun h => qB h fun h => qB h fun h => qB h fun h => qB h fun h => qB h fun h => gL h))
theorem qFb {k a} (h : (VH k a).isSome): qH7 a (YS k a) := qJ h (qP2 k a)
abbrev qIm (a : List I.T) (b : Int) (r : Bool) : Prop := CC Tryz.prog 89 [ro I a, ri b] [] (rb r) (nb r)
def qGF := fun y0 y1 y2 y3 => (⟨qI 17 [(1, ri y0), (7, ro I y1), (8, ri y2), (9, ri y3)], []⟩ : St)
def YR (k : Nat) : Nat → Int → List I.T → Int → Int → Option Bool
 | 0, _, _, _, _ => none
 | j + 1, y0, y1, y2, y3 =>
 bif y3 < y2 then
 if (0 ≤ y3) ∧ (y3 < y1.length) then
 bif (y0 == y1.getD y3.toNat I.dflt) then
 some true
 else
 YR k j y0 y1 y2 (qa .i64 (y3 + 1))
 else none
 else
 some false
def VL (k : Nat) (a : List I.T) (b : Int) : Option Bool :=
 YR k k b a (↑a.length : Int) 0
def VE := fun k a b => (VL k a b).getD false
def qmj (k : Nat) : Ke := (89, mo 2, fun
 | [.r (.ro e d), .r (.v (.int .i64 b))], [] => (qE e I d).bind fun a => some (.one (rb (VE k a b), []))
 | _, _ => none)
def qz2 : List (Nat × List Cmd) := [(2, [.autoB [1, 7, 8, 9] false []])]
abbrev qSG := EP Tryz.f89 0 rb nb
theorem qCT (k) : ∀ j, (∀ y0 y1 y2 y3, qSG 2 (qGF y0 y1 y2 y3) (YR k j y0 y1 y2 y3))
 | 0 => by intros; exact e0
 | j + 1 => by
  have ih := @qCT k j
  ·intro y0 y1 y2 y3 r h
   rw [YR] at h
   exact go (qD []) [] qz2 [.autoB [4] true []] (gS h (fun h => qS h fun h => qB h fun h => gC h 2 (ih _ _ _ _ _)) fun h => gL h)
theorem qP6 (k a b r) (h : VL k a b = some r): qIm a b r := qN Tryz.f89 (go (qD []) [] qz2 [.autoB [4] true []] (gC h 2 ((qCT k k) _ _ _ _ _)))
theorem qbJ {k a b} (h : (VL k a b).isSome): qIm a b (VE k a b) := qJ h (qP6 k a b)
abbrev qEC (a : Int) (r : Bool) : Prop := CC Tryz.prog 214 [ri a] [] (rb r) (nb r)
def qb7 (k : Nat) (a : Int) : Option Bool :=
 some (decide (a ≥ 1) && decide (a ≤ 1000000))
def qh8 := fun k a => (qb7 k a).getD false
def qwJ (k : Nat) : Ke := (214, mo 1, fun
 | [.r (.v (.int .i64 a))], [] => some (.one (rb (qh8 k a), []))
 | _, _ => none)
theorem qLI (k a r) (h : qb7 k a = some r): qEC a r := qN Tryz.f214 (go (qD []) [] [] [.autoB [2] true []] (gL h))
theorem qxl {k a} (h : (qb7 k a).isSome): qEC a (qh8 k a) := qJ h (qLI k a)
abbrev qE2 (a : T11.T) (r : Int) : Prop := CC Tryz.prog 176 [.agg (qy (qr T11 a))] [] (ri r) (nb r)
def qCv := fun y0 y1 y2 => (⟨qI 38 [(28, ro I y0), (29, ri y1), (30, ri y2)], []⟩ : St)
def Xc (k : Nat) : Nat → List I.T → Int → Int → Option Int
 | 0, _, _, _ => none
 | j + 1, y0, y1, y2 =>
 bif y2 < y1 then
 if (0 ≤ y2) ∧ (y2 < y0.length) then
 if ((qb7 k (y0.getD y2.toNat I.dflt)).isSome) then
 bif (!qh8 k (y0.getD y2.toNat I.dflt)) then
 some 1
 else
 Xc k j y0 y1 (qa .i64 (y2 + 1))
 else none
 else none
 else
 some 0
def qeV (k : Nat) (a : T11.T) : Option Int :=
 if ((qb7 k a.1).isSome) then
 bif (!qh8 k a.1 || decide (a.2.1 < (0 : Int)) || decide (a.2.1 > (2147483647 : Int))) then
 some 1
 else
 bif ((↑ (qe a.2.2) : Int) == (0 : Int)) then
 some 10
 else
 bif (↑ (qe a.2.2) : Int) > (512 : Int) then
 some 8
 else
 Xc k k a.2.2 (↑ (qe a.2.2) : Int) 0
 else none
def qej := fun k a => (qeV k a).getD 0
def qw3 (k : Nat) : Ke := (176, mo 1, fun
 | [.agg b], [] => (qW [] T11 b).bind fun a => some (.one (ri (qej k a), []))
 | _, _ => none)
def qw7 : List (Nat × List Cmd) := [(8, [.autoB [28, 29, 30] false []])]
abbrev qOc := EP Tryz.f176 0 ri nb
theorem qu8 (k) : ∀ j, (∀ y0 y1 y2, qOc 8 (qCv y0 y1 y2) (Xc k j y0 y1 y2))
 | 0 => by intros; exact e0
 | j + 1 => by
  have ih := @qu8 k j
  ·intro y0 y1 y2 r h
   rw [Xc] at h
   exact go (qD [qwJ k]) [] qw7 [.autoB [2] true []] (gS h (fun h => qS h fun h => qu h qxl fun h => qB h fun h => gC h 8 (ih _ _ _ _)) fun h => gL h)
theorem qJR (k a r) (h : qeV k a = some r): qE2 a r := qN Tryz.f176 (go (qD [qwJ k]) [] qw7 [.autoB [2] true []] (qu h qxl fun h => qB h fun h => qB h fun h => qB h fun h => gC h 8 ((qu8 k k) _ _ _ _)))
theorem qLY {k a} (h : (qeV k a).isSome): qE2 a (qej k a) := qJ h (qJR k a)
abbrev qDv (a : List T11.T) (r : Int) : Prop := CC Tryz.prog 130 [ro T11 a] [] (ri r) (nb r)
def qA3 := fun y0 y1 y2 y3 => (⟨qI 84 [(0, ro T11 y0), (18, ro T11 y1), (19, ri y2), (20, ri y3)], []⟩ : St)
def qxJ := fun y0 y1 y2 y3 y4 y5 => (⟨qI 84 [(0, ro T11 y0), (6, .own 1000000 0), (7, .own 1000001 0), (32, ro T11 y1), (33, ri y2), (34, ri y3)], [(1000000, 0, .map false I RTy.bool y4), (1000001, 0, .map false I RTy.bool y5)]⟩ : St)
def qx2 := fun y0 y1 y2 => (⟨qI 84 [(0, ro T11 y0), (7, .own 1000000 0), (10, ri y1)], [(1000000, 0, .map false I RTy.bool y2)]⟩ : St)
def qxz := fun y0 y1 y2 y3 => (⟨qI 84 [(7, .own 1000000 0), (64, ro T11 y0), (65, ri y1), (66, ri y2)], [(1000000, 0, .map false I RTy.bool y3)]⟩ : St)
def qxW := fun y0 y1 y2 y3 y4 y5 y6 => (⟨qI 84 [(7, .own 1000000 0), (64, ro T11 y0), (65, ri y1), (66, ri y2), (71, ro I y3), (72, ri y4), (73, ri y5)], [(1000000, 0, .map false I RTy.bool y6)]⟩ : St)
mutual
def Xa (k : Nat) : Nat → List T11.T → List T11.T → Int → Int → Option Int
 | 0, _, _, _, _ => none
 | j + 1, y0, y1, y2, y3 =>
 bif y3 < y2 then
 if (0 ≤ y3) ∧ (y3 < y1.length) then
 if ((qeV k (y1.getD y3.toNat T11.dflt)).isSome) then
 bif (qej k (y1.getD y3.toNat T11.dflt) != (0 : Int)) then
 some (qej k (y1.getD y3.toNat T11.dflt))
 else
 Xa k j y0 y1 y2 (qa .i64 (y3 + 1))
 else none
 else none
 else
 Zn k j y0 y0 (↑y0.length : Int) 0 ([]) ([])
def Zn (k : Nat) : Nat → List T11.T → List T11.T → Int → Int → (List (I.T × (RTy.bool).T)) → (List (I.T × (RTy.bool).T)) → Option Int
 | 0, _, _, _, _, _, _ => none
 | j + 1, y0, y1, y2, y3, y4, y5 =>
 bif y3 < y2 then
 if (0 ≤ y3) ∧ (y3 < y1.length) then
 bif ((wd I (y1.getD y3.toNat T11.dflt).1 y4).getD false) then
 some 6
 else
 Zn k j y0 y1 y2 (qa .i64 (y3 + 1)) (vw I (y1.getD y3.toNat T11.dflt).1 true y4) y5
 else none
 else
 Wu k j y0 1 y5
def Wu (k : Nat) : Nat → List T11.T → Int → (List (I.T × (RTy.bool).T)) → Option Int
 | 0, _, _, _ => none
 | j + 1, y0, y1, y2 =>
 bif y1 < y0.length then
 if (0 ≤ y1) ∧ (y1 < y0.length) ∧ ((0 : Int) ≤ qa .i64 (y1 - 1)) ∧ (qa .i64 (y1 - 1) < (↑y0.length : Int)) then
 bif (y0.getD y1.toNat T11.dflt).2.1 < (y0.getD (qa .i64 (y1 - 1)).toNat T11.dflt).2.1 then
 some 9
 else
 Wu k j y0 (qa .i64 (y1 + 1)) y2
 else none
 else
 v6 k j y0 (↑y0.length : Int) 0 y2
def v6 (k : Nat) : Nat → List T11.T → Int → Int → (List (I.T × (RTy.bool).T)) → Option Int
 | 0, _, _, _, _ => none
 | j + 1, y0, y1, y2, y3 =>
 bif y2 < y1 then
 if (0 ≤ y2) ∧ (y2 < y0.length) then
 Zg k j y0 y1 y2 ((y0.getD y2.toNat T11.dflt).2.2) (↑ (qe (y0.getD y2.toNat T11.dflt).2.2) : Int) 0 y3
 else none
 else
 some 0
def Zg (k : Nat) : Nat → List T11.T → Int → Int → List I.T → Int → Int → (List (I.T × (RTy.bool).T)) → Option Int
 | 0, _, _, _, _, _, _, _ => none
 | j + 1, y0, y1, y2, y3, y4, y5, y6 =>
 bif y5 < y4 then
 if (0 ≤ y5) ∧ (y5 < y3.length) then
 bif ((wd I (y3.getD y5.toNat I.dflt) y6).getD false) then
 some 34
 else
 Zg k j y0 y1 y2 y3 y4 (qa .i64 (y5 + 1)) (vw I (y3.getD y5.toNat I.dflt) true y6)
 else none
 else
 v6 k j y0 y1 (qa .i64 (y2 + 1)) y6
end
def qeP (k : Nat) (a : List T11.T) : Option Int :=
 bif (↑a.length : Int) > (512 : Int) then
 some 8
 else
 Xa k k a a (↑a.length : Int) 0
def qat := fun k a => (qeP k a).getD 0
def qMM (k : Nat) : Ke := (130, mo 1, fun
 | [.r (.ro d b)], [] => (qE d T11 b).bind fun a => some (.one (ri (qat k a), []))
 | _, _ => none)
def qvF : List (Nat × List Cmd) := [(4, [.autoB [0, 18, 19, 20] false []]), (12, [.autoB [0, 6, 7, 32, 33, 34] false []]), (19, [.autoB [0, 7, 10] false []]), (24, [.autoB [7, 64, 65, 66] false []]), (27, [.autoB [7, 64, 65, 66, 71, 72, 73] false []])]
abbrev qhR := EP Tryz.f130 0 ri nb
theorem qxe (k) : ∀ j, (∀ {y0 y1 y2 y3}, qhR 4 (qA3 y0 y1 y2 y3) (Xa k j y0 y1 y2 y3)) ∧ (∀ {y0 y1 y2 y3 y4 y5}, qhR 12 (qxJ y0 y1 y2 y3 y4 y5) (Zn k j y0 y1 y2 y3 y4 y5)) ∧ (∀ {y0 y1 y2}, qhR 19 (qx2 y0 y1 y2) (Wu k j y0 y1 y2)) ∧ (∀ {y0 y1 y2 y3}, qhR 24 (qxz y0 y1 y2 y3) (v6 k j y0 y1 y2 y3)) ∧ (∀ {y0 y1 y2 y3 y4 y5 y6}, qhR 27 (qxW y0 y1 y2 y3 y4 y5 y6) (Zg k j y0 y1 y2 y3 y4 y5 y6))
 | 0 => by and_intros <;> intros <;> exact e0
 | j + 1 => by
  have ih := @qxe k j
  have g := @go (qD [qw3 k]) [] qvF [.autoB [2] true []]
  refine ⟨?_, ?_, ?_, ?_, ?_⟩
  ·intro y0 y1 y2 y3 r h
   rw [Xa] at h
   exact g (gS h (fun h => qS h fun h => qu h qLY fun h => qB h fun h => gD h 4 ih.1) fun h => gD h 12 ih.2.1)
  ·intro y0 y1 y2 y3 y4 y5 r h
   rw [Zn] at h
   exact g (gS h (fun h => qS h fun h => qB h fun h => gD h 12 ih.2.1) fun h => gD h 19 ih.2.2.1)
  ·intro y0 y1 y2 r h
   rw [Wu] at h
   exact g (gS h (fun h => gN h Xo fun h => qB h fun h => gD h 19 ih.2.2.1) fun h => gD h 24 ih.2.2.2.1)
  ·intro y0 y1 y2 y3 r h
   rw [v6] at h
   exact g (gS h (fun h => qS h fun h => gD h 27 ih.2.2.2.2) fun h => gL h)
  ·intro y0 y1 y2 y3 y4 y5 y6 r h
   rw [Zg] at h
   exact g (gS h (fun h => qS h fun h => qB h fun h => gD h 27 ih.2.2.2.2) fun h => gD h 24 ih.2.2.2.1)
theorem qL5 (k a r) (h : qeP k a = some r): qDv a r := qN Tryz.f130 (go (qD [qw3 k]) [] qvF [.autoB [2] true []] (qB h fun h => gD h 4 (qxe k k).1))
theorem qLN {k a} (h : (qeP k a).isSome): qDv a (qat k a) := qJ h (qL5 k a)
def qoI (r : T8.T × Bool) : AV := .tup [.agg (qy (qr T8 r.1)), rb r.2]
def qsl (a : T17.T) (b : List T18.T) (d : Int) (r : T8.T × Bool) : List (Nat × Blk) := [(0, .var 140 (qy (qr T17 a) ++ [.own 1 0])), (0, .row 54 T18 b)]
abbrev qHL (a : T17.T) (b : List T18.T) (d : Int) (r : T8.T × Bool) : Prop := CC Tryz.prog 131 [.ptr 0 0 0, ri d] [.var 140 (qy (qr T17 a) ++ [.own 1 0]), .row 54 T18 b] (qoI r) (qsl a b d r)
def qGM := fun a b (d : Int) y0 y1 y2 y3 y4 => (⟨qI 26 [(1, ri y0), (4, .ptr 1000000 0 0), (12, ro T9 y1), (13, ri y2), (14, ri y3)], [(0, 0, .var 140 (qy (qr T17 a) ++ [.own 1 0])), (1, 0, .row 54 T18 b), (1000000, 0, .var 72 (qy (qr T8 y4)))]⟩ : St)
def YI (k : Nat) (a : T17.T) (b : List T18.T) (d : Int) : Nat → Int → List T9.T → Int → Int → T8.T → Option (T8.T × Bool)
 | 0, _, _, _, _, _ => none
 | j + 1, y0, y1, y2, y3, y4 =>
 bif y3 < y2 then
 if (0 ≤ y3) ∧ (y3 < y1.length) then
 if ((VL k (y1.getD y3.toNat T9.dflt).2.2.1 y0).isSome) then
 bif (VE k (y1.getD y3.toNat T9.dflt).2.2.1 y0) then
 some ((y1.getD y3.toNat T9.dflt).1, true)
 else
 YI k a b d j y0 y1 y2 (qa .i64 (y3 + 1)) y4
 else none
 else none
 else
 some ((0, (0, (0, (0, (0, (0, (0, (0, (0, (0, (0, 0))))))))))), false)
def qjo (k : Nat) (a : T17.T) (b : List T18.T) (d : Int) : Option (T8.T × Bool) :=
 YI k a b d k d a.2.2.2.2.2.2.2.2.2.2.2.2.2.2.2.1 (↑ (qe a.2.2.2.2.2.2.2.2.2.2.2.2.2.2.2.1) : Int) 0 (0, (0, (0, (0, (0, (0, (0, (0, (0, (0, (0, 0)))))))))))
def Ya := fun k a b d => (qjo k a b d).getD ((T8).dflt, false)
def qPD (k : Nat) : Ke := (131, fun
 | [.ptr _ _ _, _] => some [true, false, true, true]
 | _ => none, fun
 | [.ptr 0 0 0, .r (.v (.int .i64 d))], [.var 140 e, .row 54 tb_22_ qb_22] => (qW [] T17 (e.take 22)).bind fun a => (qE tb_22_ T18 qb_22).bind fun b => some (.one (qoI (Ya k a b d), qsl a b d (Ya k a b d)))
 | _, _ => none)
def qAK : List (Nat × List Cmd) := [(2, [.autoB [1, 4, 12, 13, 14] false []])]
abbrev qR7 := fun a b d => EP Tryz.f131 2 qoI (qsl a b d)
theorem qD1 (k a b d) : ∀ j, (∀ y0 y1 y2 y3 y4, qR7 a b d 2 (qGM a b d y0 y1 y2 y3 y4) (YI k a b d j y0 y1 y2 y3 y4))
 | 0 => by intros; exact e0
 | j + 1 => by
  have ih := @qD1 k a b d j
  ·intro y0 y1 y2 y3 y4 r h
   rw [YI] at h
   exact go (qD [qmj k]) [] qAK [.autoB [4, 5] true []] (gS h (fun h => qS h fun h => qu h qbJ fun h => qB h fun h => gC h 2 (ih _ _ _ _ _ _)) fun h => gL h)
theorem qPJ (k a b d r) (h : qjo k a b d = some r): qHL a b d r := qN Tryz.f131 (go (qD [qmj k]) [] qAK [.autoB [4, 5] true []] (gC h 2 ((qD1 k a b d k) _ _ _ _ _ _)))
theorem qNx {k a b d} (h : (qjo k a b d).isSome): qHL a b d (Ya k a b d) := qJ h (qPJ k a b d)
def qwo (r : T4.T × Int) : AV := .tup [.agg (qy (qr T4 r.1)), ri r.2]
def qA9 (a : Int) (b : Int) (d : List T5.T) (e : List (I.T × I.T)) (f : Int) (r : T4.T × Int) : List (Nat × Blk) := [(0, .var 135 [ri a, ri b, ro T5 d, .own 1 0]), (0, .map false I I e)]
abbrev qxw (a : Int) (b : Int) (d : List T5.T) (e : List (I.T × I.T)) (f : Int) (r : T4.T × Int) : Prop := CC Tryz.prog 163 [.ptr 0 0 0, ri f] [.var 135 [ri a, ri b, ro T5 d, .own 1 0], .map false I I e] (qwo r) (qA9 a b d e f r)
def Zd (g : Int → Int → List T5.T → (List (I.T × I.T)) → Int → Option (T4.T × Int)) (a : Int) (b : Int) (d : List T5.T) (e : List (I.T × I.T)) (f : Int) : (T4.T × Int) := (g a b d e f).getD ((T4).dflt, 0)
def zA : Nat → Int → Int → List T5.T → (List (I.T × I.T)) → Int → Option (T4.T × Int)
 | 0, _, _, _, _, _ => none
 | k + 1, a, b, d, e, f =>
 bif (f == (0 : Int)) then
 bif b > (0 : Int) then
 some ((0, (a, (false, [(0, b, false)]))), 0)
 else
 some ((0, (a, (false, []))), 0)
 else
 if ((0 : Int) ≤ (wd I f e).getD (0 : Int)) ∧ ((wd I f e).getD (0 : Int) < (↑d.length : Int)) then
 if ((zA k a b d e (d.getD (qt ((wd I f e).getD 0)) T5.dflt).2.1).isSome) then
 bif ((Zd (zA k) a b d e (d.getD (qt ((wd I f e).getD (0 : Int))) T5.dflt).2.1).2 != (0 : Int)) then
 some ((0, (0, (false, []))), (Zd (zA k) a b d e (d.getD (qt ((wd I f e).getD 0)) T5.dflt).2.1).2)
 else
 if ((qjk k (d.getD (qt ((wd I f e).getD 0)) T5.dflt).2.2.2.2.2 (Zd (zA k) a b d e (d.getD (qt ((wd I f e).getD 0)) T5.dflt).2.1).1.2.2.2).isSome) then
 bif ((qcV k (d.getD (qt ((wd I f e).getD (0 : Int))) T5.dflt).2.2.2.2.2 (Zd (zA k) a b d e (d.getD (qt ((wd I f e).getD (0 : Int))) T5.dflt).2.1).1.2.2.2).2 != (0 : Int)) then
 some ((0, (0, (false, []))), (qcV k (d.getD (qt ((wd I f e).getD 0)) T5.dflt).2.2.2.2.2 (Zd (zA k) a b d e (d.getD (qt ((wd I f e).getD 0)) T5.dflt).2.1).1.2.2.2).2)
 else
 bif (Zd (zA k) a b d e (d.getD (qt ((wd I f e).getD (0 : Int))) T5.dflt).2.1).1.2.2.1 then
 some ((qa .i64 (qa .i64 (qa .i64 ((Zd (zA k) a b d e (d.getD (qt ((wd I f e).getD 0)) T5.dflt).2.1).1.1 + (Zd (zA k) a b d e (d.getD (qt ((wd I f e).getD 0)) T5.dflt).2.1).1.2.1) - (d.getD (qt ((wd I f e).getD 0)) T5.dflt).2.2.1) - (d.getD (qt ((wd I f e).getD 0)) T5.dflt).2.2.2.1), ((d.getD (qt ((wd I f e).getD 0)) T5.dflt).2.2.2.1, (! (Zd (zA k) a b d e (d.getD (qt ((wd I f e).getD 0)) T5.dflt).2.1).1.2.2.1 == (d.getD (qt ((wd I f e).getD 0)) T5.dflt).2.2.2.2.1, (qcV k (d.getD (qt ((wd I f e).getD 0)) T5.dflt).2.2.2.2.2 (Zd (zA k) a b d e (d.getD (qt ((wd I f e).getD 0)) T5.dflt).2.1).1.2.2.2).1))), 0)
 else
 some ((qa .i64 ((Zd (zA k) a b d e (d.getD (qt ((wd I f e).getD 0)) T5.dflt).2.1).1.1 + (d.getD (qt ((wd I f e).getD 0)) T5.dflt).2.2.1), ((d.getD (qt ((wd I f e).getD 0)) T5.dflt).2.2.2.1, (! (Zd (zA k) a b d e (d.getD (qt ((wd I f e).getD 0)) T5.dflt).2.1).1.2.2.1 == (d.getD (qt ((wd I f e).getD 0)) T5.dflt).2.2.2.2.1, (qcV k (d.getD (qt ((wd I f e).getD 0)) T5.dflt).2.2.2.2.2 (Zd (zA k) a b d e (d.getD (qt ((wd I f e).getD 0)) T5.dflt).2.1).1.2.2.2).1))), 0)
 else none
 else none
 else none
def qa3 := fun k a b d e f => (zA k a b d e f).getD ((T4).dflt, 0)
def qBc (k : Nat) : Ke := (163, fun
 | [.ptr _ _ _, _] => some [true, false]
 | _ => none, fun
 | [.ptr 0 0 0, .r (.v (.int .i64 f))], [.var 135 [.r (.v (.int .i64 a)), .r (.v (.int .i64 b)), .r (.ro tg_2_ qg_2), .own 1 0], .map false kg_3_ tg_3_ qg_3] => (qE tg_2_ T5 qg_2).bind fun d => (qlQ kg_3_ tg_3_ I I qg_3).bind fun e => some (.one (qwo (qa3 k a b d e f), qA9 a b d e f (qa3 k a b d e f)))
 | _, _ => none)
theorem qEF : ∀ (k : Nat) (a : Int) (b : Int) (d : List T5.T) (e : List (I.T × I.T)) (f : Int) (r : T4.T × Int), zA k a b d e f = some r → qxw a b d e f r
 | 0, a, b, d, e, f, r, h => by simp [zA] at h
 | k + 1, a, b, d, e, f, r, h => by
  have ih : ∀ {a : Int} {b : Int} {d : List T5.T} {e : List (I.T × I.T)} {f : Int}, (zA k a b d e f).isSome = true → qxw a b d e f (qa3 k a b d e f) := fun {a} {b} {d} {e} {f} h => qJ h (qEF k a b d e f)
  refine CC.of (fn := Tryz.f163) (by kernel_rfl) (by kernel_rfl) (by kernel_rfl) (by kernel_rfl) ?_
  rw [zA] at h
  exact go (qD [qPv k, qBc k]) [] [] [.frz 4 true T4, .autoB [4, 5] true []] (gS h (fun h => qB h fun h => gL h) fun h => qS h fun h => qu h (fun q => ih q) fun h => qB h fun h => qu h qOV fun h => qB h fun h => qB h fun h => gL h)
theorem qNW {k a b d e f} (h : (zA k a b d e f).isSome): qxw a b d e f (qa3 k a b d e f) := qJ h (qEF k a b d e f)
abbrev qyV : Type := T4.T × Int
def qvM (r : qyV) : AV := .tup [.agg (qy (qr T4 r.1)), ri r.2]
abbrev qHo (a : List T5.T) (b : T19.T) (d : Int) (r : qyV) : Prop := CC Tryz.prog 112 [ro T5 a, .agg (qy (qr T19 b)), ri d] [] (qvM r) (nb r)
def qfs (k : Nat) (a : List T5.T) (b : T19.T) (d : Int) : Option qyV :=
 bif (Sum.isLeft (qcC k a b d)) then
 if ((Z5 k a b d).isSome) then
 bif (qer k a b d != 0) then
 some ((0, (0, (false, []))), qer k a b d)
 else
 none
 else none
 else
 if ((Z5 k a b d).isSome) then
 bif ((vb k a b d).1 != (0 : Int)) then
 some ((0, (0, (false, []))), (vb k a b d).1)
 else
 if ((zA k (vb k a b d).2.1 (vb k a b d).2.2.1 (vb k a b d).2.2.2.1 (vb k a b d).2.2.2.2 d).isSome) then
 some ((qa3 k (vb k a b d).2.1 (vb k a b d).2.2.1 (vb k a b d).2.2.2.1 (vb k a b d).2.2.2.2 d).1, (qa3 k (vb k a b d).2.1 (vb k a b d).2.2.1 (vb k a b d).2.2.2.1 (vb k a b d).2.2.2.2 d).2)
 else none
 else none
def zd := fun k a b d => (qfs k a b d).getD ((T4).dflt, 0)
def qAj (k : Nat) : Ke := (112, mo 3, fun
 | [.r (.ro g e), .agg f, .r (.v (.int .i64 d))], [] => (qE g T5 e).bind fun a => (qW [] T19 f).bind fun b => some (.one (qvM (zd k a b d), []))
 | _, _ => none)
theorem qPI (k a b d r) (h : qfs k a b d = some r): qHo a b d r := qN Tryz.f112 (go (qD [qNE k, qBc k]) [] [] [.frz 6 true T4, .autoB [6, 7] true []] (gT h (fun c h => qu h (fun q => qL4 q (by assumption)) fun h => gTl h fun c h => gZ h (.stuck 2002)) fun c h => qu h (fun q => qMd q (by assumption)) fun h => gTl h fun c h => qu h qNW fun h => gL h))
theorem qz8 {k a b d} (h : (qfs k a b d).isSome): qHo a b d (zd k a b d) := qJ h (qPI k a b d)
abbrev qBB (a : T28.T) (r : Bool) : Prop := CC Tryz.prog 177 [.agg (qy (qr T28 a))] [] (rb r) (nb r)
def qen (k : Nat) (a : T28.T) : Option Bool :=
 bif (↑ (qe a.2.2.1) : Int) > (0 : Int) then
 if ((0 : Int) ≤ qa .i64 ((↑ (qe a.2.2.1) : Int) - (1 : Int))) ∧ (qa .i64 ((↑ (qe a.2.2.1) : Int) - (1 : Int)) < (↑ (qe a.2.2.1) : Int)) then
 some ((qM a.2.2.1 (qa .i64 ((↑ (qe a.2.2.1) : Int) - 1)).toNat T2.dflt).2.1 == a.2.1.2)
 else none
 else
 some (a.2.1.2 == 0)
def qiu := fun k a => (qen k a).getD false
def qLK (k : Nat) : Ke := (177, mo 1, fun
 | [.agg b], [] => (qW [] T28 b).bind fun a => some (.one (rb (qiu k a), []))
 | _, _ => none)
theorem qJH (k a r) (h : qen k a = some r): qBB a r := qN Tryz.f177 (go (qD []) [] [] [.autoB [2] true []] (gS h (fun h => qS h fun h => gL h) fun h => gL h))
theorem qLi {k a} (h : (qen k a).isSome): qBB a (qiu k a) := qJ h (qJH k a)
def qk8 (r : Int × Bool) : AV := .tup [ri r.1, rb r.2]
abbrev qEU (a : T28.T) (b : List T21.T) (r : Int × Bool) : Prop := CC Tryz.prog 178 [.agg (qy (qr T28 a)), ro T21 b] [] (qk8 r) (nb r)
def qEY := fun y0 y1 y2 y3 y4 y5 y6 => (⟨qI 54 [(2, .ptr 1000000 0 0), (6, ri y0), (7, rb y1), (8, rb y2), (15, ro T21 y3), (16, ri y4), (17, ri y5)], [(1000000, 0, .var 201 (qy (qr T28 y6)))]⟩ : St)
def qEj := fun y0 y1 y2 y3 y4 y5 y6 y7 y8 y9 => (⟨qI 54 [(2, .ptr 1000000 0 0), (6, ri y0), (7, rb y1), (8, rb y2), (15, ro T21 y3), (16, ri y4), (17, ri y5), (28, ro T2 y6), (29, ri y7), (30, ri y8)], [(1000000, 0, .var 201 (qy (qr T28 y9)))]⟩ : St)
mutual
def VU (k : Nat) : Nat → Int → Bool → Bool → List T21.T → Int → Int → T28.T → Option (Int × Bool)
 | 0, _, _, _, _, _, _, _ => none
 | j + 1, y0, y1, y2, y3, y4, y5, y6 =>
 bif y5 < y4 then
 if (0 ≤ y5) ∧ (y5 < y3.length) then
 if ((qas k y6.2.2.1 (y3.getD y5.toNat T21.dflt)).isSome) then
 V3 k j y0 y1 y2 y3 y4 y5 ((wX k y6.2.2.1 (y3.getD y5.toNat T21.dflt)).1) (↑ (wX k y6.2.2.1 (y3.getD y5.toNat T21.dflt)).1.length : Int) 0 y6
 else none
 else none
 else
 some (y0, y1)
def V3 (k : Nat) : Nat → Int → Bool → Bool → List T21.T → Int → Int → List T2.T → Int → Int → T28.T → Option (Int × Bool)
 | 0, _, _, _, _, _, _, _, _, _, _ => none
 | j + 1, y0, y1, y2, y3, y4, y5, y6, y7, y8, y9 =>
 bif y8 < y7 then
 if (0 ≤ y8) ∧ (y8 < y6.length) then
 bif (!y2 && (y6.getD y8.toNat T2.dflt).2.2.2.1 != y0) then
 some (-1, false)
 else
 V3 k j ((y6.getD y8.toNat T2.dflt).2.2.2.1) (y1 && (y6.getD y8.toNat T2.dflt).2.2.1 == 1) false y3 y4 y5 y6 y7 (qa .i64 (y8 + 1)) y9
 else none
 else
 VU k j y0 y1 y2 y3 y4 (qa .i64 (y5 + 1)) y9
end
def qiF (k : Nat) (a : T28.T) (b : List T21.T) : Option (Int × Bool) :=
 VU k k (-1) true true b (↑b.length : Int) 0 a
def QA := fun k a b => (qiF k a b).getD (0, false)
def qJM (k : Nat) : Ke := (178, mo 2, fun
 | [.agg d, .r (.ro f e)], [] => (qW [] T28 d).bind fun a => (qE f T21 e).bind fun b => some (.one (qk8 (QA k a b), []))
 | _, _ => none)
def qv0 : List (Nat × List Cmd) := [(3, [.autoB [2, 6, 7, 8, 15, 16, 17] false []]), (7, [.autoB [2, 6, 7, 8, 15, 16, 17, 28, 29, 30] false []])]
abbrev qEk := EP Tryz.f178 0 qk8 nb
theorem qvX (k) : ∀ j, (∀ {y0 y1 y2 y3 y4 y5 y6}, qEk 3 (qEY y0 y1 y2 y3 y4 y5 y6) (VU k j y0 y1 y2 y3 y4 y5 y6)) ∧ (∀ {y0 y1 y2 y3 y4 y5 y6 y7 y8 y9}, qEk 7 (qEj y0 y1 y2 y3 y4 y5 y6 y7 y8 y9) (V3 k j y0 y1 y2 y3 y4 y5 y6 y7 y8 y9))
 | 0 => by and_intros <;> intros <;> exact e0
 | j + 1 => by
  have ih := @qvX k j
  have g := @go (qD [qn0 k]) [] qv0 [.autoB [4, 5] true []]
  refine ⟨?_, ?_⟩
  ·intro y0 y1 y2 y3 y4 y5 y6 r h
   rw [VU] at h
   exact g (gS h (fun h => qS h fun h => qu h qpb fun h => gD h 7 ih.2) fun h => gL h)
  ·intro y0 y1 y2 y3 y4 y5 y6 y7 y8 y9 r h
   rw [V3] at h
   exact g (gS h (fun h => qS h fun h => qB h fun h => gD h 7 ih.2) fun h => gD h 3 ih.1)
theorem qLq (k a b r) (h : qiF k a b = some r): qEU a b r := qN Tryz.f178 (go (qD [qn0 k]) [] qv0 [.autoB [4, 5] true []] (gD h 3 (qvX k k).1))
theorem qML {k a b} (h : (qiF k a b).isSome): qEU a b (QA k a b) := qJ h (qLq k a b)
abbrev qIO (a : Int) (b : Int) (r : Bool) : Prop := CC Tryz.prog 215 [ri a, ri b] [] (rb r) (nb r)
def qma (k : Nat) (a : Int) (b : Int) : Option Bool :=
 some (decide (a ≥ 1) && decide (a ≤ 2500) && decide (b ≥ 1) && decide (b ≤ 5000))
def qrq := fun k a b => (qma k a b).getD false
def qQa (k : Nat) : Ke := (215, mo 2, fun
 | [.r (.v (.int .i64 a)), .r (.v (.int .i64 b))], [] => some (.one (rb (qrq k a b), []))
 | _, _ => none)
theorem qNn (k a b r) (h : qma k a b = some r): qIO a b r := qN Tryz.f215 (go (qD []) [] [] [.autoB [4] true []] (gL h))
theorem qQz {k a b} (h : (qma k a b).isSome): qIO a b (qrq k a b) := qJ h (qNn k a b)
abbrev qHH (a : Int) (b : Int) (d : Int) (r : Int) : Prop := CC Tryz.prog 218 [ri a, ri b, ri d] [] (ri r) (nb r)
def qjJ (k : Nat) (a : Int) (b : Int) (d : Int) : Option Int :=
 if (qa .i64 ((1000000000 : Int) * d) ≠ (0 : Int)) then
 some (qa .i64 ((qa .i64 (3141592653 * qa .i64 (qa .i64 (qa .i64 (b * b) - qa .i64 (a * a)) * 250))).tdiv (qa .i64 (1000000000 * d))))
 else none
def qmq := fun k a b d => (qjJ k a b d).getD 0
def qQU (k : Nat) : Ke := (218, mo 3, fun
 | [.r (.v (.int .i64 a)), .r (.v (.int .i64 b)), .r (.v (.int .i64 d))], [] => some (.one (ri (qmq k a b d), []))
 | _, _ => none)
theorem qOF (k a b d r) (h : qjJ k a b d = some r): qHH a b d r := qN Tryz.f218 (go (qD []) [] [] [.autoB [6] true []] (qu h id fun h => gL h))
theorem qPG {k a b d} (h : (qjJ k a b d).isSome): qHH a b d (qmq k a b d) := qJ h (qOF k a b d)
def qAf (a : Int) (b : Int) (d : Int) (e : Int) (r : Bool) : List (Nat × Blk) := [(0, .var 3 [ri b]), (0, .var 3 [ri d]), (0, .var 3 [ri e])]
abbrev qIZ (a : Int) (b : Int) (d : Int) (e : Int) (r : Bool) : Prop := CC Tryz.prog 217 [ri a, .ptr 0 0 0, .ptr 1 0 0, .ptr 2 0 0] [.var 3 [ri b], .var 3 [ri d], .var 3 [ri e]] (rb r) (qAf a b d e r)
def qjA (k : Nat) (a : Int) (b : Int) (d : Int) (e : Int) : Option Bool :=
 if ((qjJ k b (qa .i64 (b + a)) d).isSome) then
 some (decide (qmq k b (qa .i64 (b + a)) d ≥ e))
 else none
def qjB := fun k a b d e => (qjA k a b d e).getD false
def qr2 (k : Nat) : Ke := (217, fun
 | [_, .ptr _ _ _, .ptr _ _ _, .ptr _ _ _] => some [false, true, true, true]
 | _ => none, fun
 | [.r (.v (.int .i64 a)), .ptr 0 0 0, .ptr 1 0 0, .ptr 2 0 0], [.var 3 [.r (.v (.int .i64 b))], .var 3 [.r (.v (.int .i64 d))], .var 3 [.r (.v (.int .i64 e))]] => some (.one (rb (qjB k a b d e), qAf a b d e (qjB k a b d e)))
 | _, _ => none)
theorem qN6 (k a b d e r) (h : qjA k a b d e = some r): qIZ a b d e r := qN Tryz.f217 (go (qD [qQU k]) [] [] [.autoB [5] true []] (qu h qPG fun h => gL h))
theorem qNC {k a b d e} (h : (qjA k a b d e).isSome): qIZ a b d e (qjB k a b d e) := qJ h (qN6 k a b d e)
def qo4 (a : Int) (b : Int) (d : Int) (e : Int) (r : Int) : List (Nat × Blk) := [(0, .var 3 [ri b]), (0, .var 3 [ri d]), (0, .var 3 [ri e])]
abbrev qDj (a : Int) (b : Int) (d : Int) (e : Int) (r : Int) : Prop := CC Tryz.prog 216 [ri a, .fn (.func 217) [] [.ptr 0 0 0, .ptr 1 0 0, .ptr 2 0 0]] [.var 3 [ri b], .var 3 [ri d], .var 3 [ri e]] (ri r) (qo4 a b d e r)
def qzk := fun (a : Int) b d e y0 y1 => (⟨qI 26 [(1, .fn (Fn.func 217) [] [.ptr 0 0 0, .ptr 1 0 0, .ptr 2 0 0]), (5, ri y0), (6, ri y1)], [(0, 0, .var 3 [ri b]), (1, 0, .var 3 [ri d]), (2, 0, .var 3 [ri e])]⟩ : St)
def WD (k : Nat) (a : Int) (b : Int) (d : Int) (e : Int) : Nat → Int → Int → Option Int
 | 0, _, _ => none
 | j + 1, y0, y1 =>
 bif y0 < y1 then
 if ((qjA k (qa .i64 ((IntKind.u64.wrap (qa .i64 (y0 + y1))).fdiv (2 ^ min (qt 1) IntKind.u64.bits))) b d e).isSome) then
 bif (!qjB k (qa .i64 ((IntKind.u64.wrap (qa .i64 (y0 + y1))).fdiv ((2 : Int) ^ min (qt (1 : Int)) IntKind.u64.bits))) b d e) then
 WD k a b d e j (qa .i64 (qa .i64 ((IntKind.u64.wrap (qa .i64 (y0 + y1))).fdiv (2 ^ min (qt 1) IntKind.u64.bits)) + 1)) y1
 else
 WD k a b d e j y0 (qa .i64 ((IntKind.u64.wrap (qa .i64 (y0 + y1))).fdiv (2 ^ min (qt 1) IntKind.u64.bits)))
 else none
 else
 some y0
def qhV (k : Nat) (a : Int) (b : Int) (d : Int) (e : Int) : Option Int :=
 WD k a b d e k 0 a
def qbP := fun k a b d e => (qhV k a b d e).getD 0
def qKU (k : Nat) : Ke := (216, fun
 | [_, .fn (.func 217) _ _] => some [false, true]
 | _ => none, fun
 | [.r (.v (.int .i64 a)), .fn (.func 217) [] [.ptr 0 0 0, .ptr 1 0 0, .ptr 2 0 0]], [.var 3 [.r (.v (.int .i64 b))], .var 3 [.r (.v (.int .i64 d))], .var 3 [.r (.v (.int .i64 e))]] => some (.one (ri (qbP k a b d e), qo4 a b d e (qbP k a b d e)))
 | _, _ => none)
def qxm : List (Nat × List Cmd) := [(2, [.autoB [1, 5, 6] false []])]
abbrev qQ0 := fun a b d e => EP Tryz.f216 3 ri (qo4 a b d e)
theorem qvl (k a b d e) : ∀ j, (∀ y0 y1, qQ0 a b d e 2 (qzk a b d e y0 y1) (WD k a b d e j y0 y1))
 | 0 => by intros; exact e0
 | j + 1 => by
  have ih := @qvl k a b d e j
  ·intro y0 y1 r h
   rw [WD] at h
   exact go (qD [qr2 k]) [] qxm [.autoB [4] true []] (gS h (fun h => qu h qNC fun h => gS h (fun h => gC h 2 (ih _ _ _)) fun h => gC h 2 (ih _ _ _)) fun h => gL h)
theorem qJW (k a b d e r) (h : qhV k a b d e = some r): qDj a b d e r := qN Tryz.f216 (go (qD [qr2 k]) [] qxm [.autoB [4] true []] (gC h 2 ((qvl k a b d e k) _ _ _)))
theorem qMn {k a b d e} (h : (qhV k a b d e).isSome): qDj a b d e (qbP k a b d e) := qJ h (qJW k a b d e)
def qxg (r : Int × Int) : AV := .tup [ri r.1, ri r.2]
abbrev qIk (a : Int) (b : Int) (d : Int) (r : Int × Int) : Prop := CC Tryz.prog 179 [ri a, ri b, ri d] [] (qxg r) (nb r)
def qjp (k : Nat) (a : Int) (b : Int) (d : Int) : Option (Int × Int) :=
 if ((qma k a d).isSome) then
 bif (!qrq k a d || decide (b < 0) || decide (b > 17179869184)) then
 some (0, 1)
 else
 if ((qhV k (qa .i64 (qa .i64 (2500 - a) + 1)) a d b).isSome) then
 bif qa .i64 (a + qbP k (qa .i64 (qa .i64 ((2500 : Int) - a) + (1 : Int))) a d b) > (2500 : Int) then
 some (0, 32)
 else
 some (qa .i64 (a + qbP k (qa .i64 (qa .i64 (2500 - a) + 1)) a d b), 0)
 else none
 else none
def qfY := fun k a b d => (qjp k a b d).getD (0, 0)
def qPK (k : Nat) : Ke := (179, mo 3, fun
 | [.r (.v (.int .i64 a)), .r (.v (.int .i64 b)), .r (.v (.int .i64 d))], [] => some (.one (qxg (qfY k a b d), []))
 | _, _ => none)
theorem qRF (k a b d r) (h : qjp k a b d = some r): qIk a b d r := qN Tryz.f179 (go (qD [qQa k, qr2 k, qKU k]) [] [] [.autoB [6, 7] true []] (qu h qQz fun h => qB h fun h => qu h qMn fun h => qB h fun h => gL h))
theorem qQG {k a b d} (h : (qjp k a b d).isSome): qIk a b d (qfY k a b d) := qJ h (qRF k a b d)
abbrev qB4 (a : T6.T) (r : Int) : Prop := CC Tryz.prog 164 [.agg (qy (qr T6 a))] [] (ri r) (nb r)
def qiv (k : Nat) (a : T6.T) : Option Int :=
 bif (decide (a.1 < (0 : Int)) || decide (a.1 > a.2.1) || decide (a.2.1 > (12000 : Int)) || decide (a.2.2.1 < (0 : Int)) || decide (a.2.2.1 > a.2.2.2) || decide (a.2.2.2 > (17179869184 : Int))) then
 some 1
 else
 some 0
def qe2 := fun k a => (qiv k a).getD 0
def qwP (k : Nat) : Ke := (164, mo 1, fun
 | [.agg b], [] => (qW [] T6 b).bind fun a => some (.one (ri (qe2 k a), []))
 | _, _ => none)
theorem qJT (k a r) (h : qiv k a = some r): qB4 a r := qN Tryz.f164 (go (qD []) [] [] [.autoB [2] true []] (qB h fun h => gL h))
theorem qMK {k a} (h : (qiv k a).isSome): qB4 a (qe2 k a) := qJ h (qJT k a)
abbrev qIM (a : List T7.T) (r : Int) : Prop := CC Tryz.prog 113 [ro T7 a] [] (ri r) (nb r)
def qFH := fun y0 y1 y2 => (⟨qI 58 [(9, ro T7 y0), (10, ri y1), (11, ri y2)], []⟩ : St)
def YF (k : Nat) : Nat → List T7.T → Int → Int → Option Int
 | 0, _, _, _ => none
 | j + 1, y0, y1, y2 =>
 bif y2 < y1 then
 if (0 ≤ y2) ∧ (y2 < y0.length) then
 if ((qiv k (y0.getD y2.toNat T7.dflt).1).isSome) then
 bif (qe2 k (y0.getD y2.toNat T7.dflt).1 != (0 : Int)) then
 some (qe2 k (y0.getD y2.toNat T7.dflt).1)
 else
 bif ((y0.getD y2.toNat T7.dflt).1.1 == (y0.getD y2.toNat T7.dflt).1.2.1 || (y0.getD y2.toNat T7.dflt).1.2.2.1 == (y0.getD y2.toNat T7.dflt).1.2.2.2) then
 some 10
 else
 bif (decide ((y0.getD y2.toNat T7.dflt).2.1 < (1 : Int)) || decide ((y0.getD y2.toNat T7.dflt).2.1 > (16 : Int)) || decide ((y0.getD y2.toNat T7.dflt).2.2 < (1 : Int)) || decide ((y0.getD y2.toNat T7.dflt).2.2 > (100 : Int))) then
 some 1
 else
 YF k j y0 y1 (qa .i64 (y2 + 1))
 else none
 else none
 else
 some 0
def qjv (k : Nat) (a : List T7.T) : Option Int :=
 bif (↑a.length : Int) > (128 : Int) then
 some 8
 else
 YF k k a (↑a.length : Int) 0
def qjN := fun k a => (qjv k a).getD 0
def qRg (k : Nat) : Ke := (113, mo 1, fun
 | [.r (.ro d b)], [] => (qE d T7 b).bind fun a => some (.one (ri (qjN k a), []))
 | _, _ => none)
def qDB : List (Nat × List Cmd) := [(4, [.autoB [9, 10, 11] false []])]
abbrev qSl := EP Tryz.f113 0 ri nb
theorem qzT (k) : ∀ j, (∀ y0 y1 y2, qSl 4 (qFH y0 y1 y2) (YF k j y0 y1 y2))
 | 0 => by intros; exact e0
 | j + 1 => by
  have ih := @qzT k j
  ·intro y0 y1 y2 r h
   rw [YF] at h
   exact go (qD [qwP k]) [] qDB [.autoB [2] true []] (gS h (fun h => qS h fun h => qu h qMK fun h => qB h fun h => qB h fun h => qB h fun h => gC h 4 (ih _ _ _ _)) fun h => gL h)
theorem qQ1 (k a r) (h : qjv k a = some r): qIM a r := qN Tryz.f113 (go (qD [qwP k]) [] qDB [.autoB [2] true []] (qB h fun h => gC h 4 ((qzT k k) _ _ _ _)))
theorem qRB {k a} (h : (qjv k a).isSome): qIM a (qjN k a) := qJ h (qQ1 k a)
def qwp (r : Int × Int) : AV := .tup [ri r.1, ri r.2]
abbrev qHJ (a : T4.T) (b : Int) (d : Int) (r : Int × Int) : Prop := CC Tryz.prog 114 [.agg (qy (qr T4 a)), ri b, ri d] [] (qwp r) (nb r)
def qiX (k : Nat) (a : T4.T) (b : Int) (d : Int) : Option (Int × Int) :=
 bif a.2.2.1 then
 some (qa .i64 (a.2.1 - qa .i64 (d - a.1)), qa .i64 (a.2.1 - qa .i64 (b - a.1)))
 else
 some (qa .i64 (b - a.1), qa .i64 (d - a.1))
def qlV := fun k a b d => (qiX k a b d).getD (0, 0)
def qP9 (k : Nat) : Ke := (114, mo 3, fun
 | [.agg e, .r (.v (.int .i64 b)), .r (.v (.int .i64 d))], [] => (qW [] T4 e).bind fun a => some (.one (qwp (qlV k a b d), []))
 | _, _ => none)
theorem qPx (k a b d r) (h : qiX k a b d = some r): qHJ a b d r := qN Tryz.f114 (go (qD []) [] [] [.autoB [6, 7] true []] (qB h fun h => gL h))
theorem qNA {k a b d} (h : (qiX k a b d).isSome): qHJ a b d (qlV k a b d) := qJ h (qPx k a b d)
abbrev qmR : Type := List T21.T × Int
def qoj (r : qmR) : AV := .tup [ro T21 r.1, ri r.2]
abbrev qIg (a : List T3.T) (b : T21.T) (r : qmR) : Prop := CC Tryz.prog 115 [ro T3 a, .agg (qy (qr T21 b))] [] (qoj r) (nb r)
def qFn := fun y0 y1 y2 y3 y4 y5 => (⟨qI 89 [(3, .ptr 1000000 0 0), (7, .own 1000001 0), (8, ri y0), (35, ro T3 y1), (36, ri y2), (37, ri y3)], [(1000000, 0, .var 91 (qy (qr T21 y4))), (1000001, 0, .row 91 T21 y5)]⟩ : St)
def qB5 := fun y0 => (⟨qI 89 [(7, ro T21 y0)], []⟩ : St)
mutual
def Z8 (k : Nat) : Nat → Int → List T3.T → Int → Int → T21.T → List T21.T → Option qmR
 | 0, _, _, _, _, _, _ => none
 | j + 1, y0, y1, y2, y3, y4, y5 =>
 bif y3 < y2 then
 if (0 ≤ y3) ∧ (y3 < y1.length) then
 if ((qfA k (y1.getD y3.toNat T3.dflt)).isSome) then
 bif (if y4.1 > (wp k (y1.getD y3.toNat T3.dflt)).1 then y4.1 else (wp k (y1.getD y3.toNat T3.dflt)).1) < if y4.2 < (wp k (y1.getD y3.toNat T3.dflt)).2 then y4.2 else (wp k (y1.getD y3.toNat T3.dflt)).2 then
 bif (y1.getD y3.toNat T3.dflt).2.2 then
 if ((y5.length + [(qa .i64 (y0 + qa .i64 ((wp k (y1.getD y3.toNat T3.dflt)).2 - if y4.2 < (wp k (y1.getD y3.toNat T3.dflt)).2 then y4.2 else (wp k (y1.getD y3.toNat T3.dflt)).2)), qa .i64 (qa .i64 (qa .i64 (y0 + qa .i64 ((wp k (y1.getD y3.toNat T3.dflt)).2 - if y4.2 < (wp k (y1.getD y3.toNat T3.dflt)).2 then y4.2 else (wp k (y1.getD y3.toNat T3.dflt)).2)) + if y4.2 < (wp k (y1.getD y3.toNat T3.dflt)).2 then y4.2 else (wp k (y1.getD y3.toNat T3.dflt)).2) - if y4.1 > (wp k (y1.getD y3.toNat T3.dflt)).1 then y4.1 else (wp k (y1.getD y3.toNat T3.dflt)).1))].length) * (16 : Nat) ≤ (140737488355328 : Nat)) then
 Z8 k j (qa .i64 (y0 + (y1.getD y3.toNat T3.dflt).2.1)) y1 y2 (qa .i64 (y3 + 1)) y4 (y5 ++ [(qa .i64 (y0 + qa .i64 ((wp k (y1.getD y3.toNat T3.dflt)).2 - if y4.2 < (wp k (y1.getD y3.toNat T3.dflt)).2 then y4.2 else (wp k (y1.getD y3.toNat T3.dflt)).2)), qa .i64 (qa .i64 (qa .i64 (y0 + qa .i64 ((wp k (y1.getD y3.toNat T3.dflt)).2 - if y4.2 < (wp k (y1.getD y3.toNat T3.dflt)).2 then y4.2 else (wp k (y1.getD y3.toNat T3.dflt)).2)) + if y4.2 < (wp k (y1.getD y3.toNat T3.dflt)).2 then y4.2 else (wp k (y1.getD y3.toNat T3.dflt)).2) - if y4.1 > (wp k (y1.getD y3.toNat T3.dflt)).1 then y4.1 else (wp k (y1.getD y3.toNat T3.dflt)).1))])
 else none
 else
 if ((y5.length + [(qa .i64 (y0 + qa .i64 ((if y4.1 > (wp k (y1.getD y3.toNat T3.dflt)).1 then y4.1 else (wp k (y1.getD y3.toNat T3.dflt)).1) - (wp k (y1.getD y3.toNat T3.dflt)).1)), qa .i64 (qa .i64 (qa .i64 (y0 + qa .i64 ((if y4.1 > (wp k (y1.getD y3.toNat T3.dflt)).1 then y4.1 else (wp k (y1.getD y3.toNat T3.dflt)).1) - (wp k (y1.getD y3.toNat T3.dflt)).1)) + if y4.2 < (wp k (y1.getD y3.toNat T3.dflt)).2 then y4.2 else (wp k (y1.getD y3.toNat T3.dflt)).2) - if y4.1 > (wp k (y1.getD y3.toNat T3.dflt)).1 then y4.1 else (wp k (y1.getD y3.toNat T3.dflt)).1))].length) * (16 : Nat) ≤ (140737488355328 : Nat)) then
 Z8 k j (qa .i64 (y0 + (y1.getD y3.toNat T3.dflt).2.1)) y1 y2 (qa .i64 (y3 + 1)) y4 (y5 ++ [(qa .i64 (y0 + qa .i64 ((if y4.1 > (wp k (y1.getD y3.toNat T3.dflt)).1 then y4.1 else (wp k (y1.getD y3.toNat T3.dflt)).1) - (wp k (y1.getD y3.toNat T3.dflt)).1)), qa .i64 (qa .i64 (qa .i64 (y0 + qa .i64 ((if y4.1 > (wp k (y1.getD y3.toNat T3.dflt)).1 then y4.1 else (wp k (y1.getD y3.toNat T3.dflt)).1) - (wp k (y1.getD y3.toNat T3.dflt)).1)) + if y4.2 < (wp k (y1.getD y3.toNat T3.dflt)).2 then y4.2 else (wp k (y1.getD y3.toNat T3.dflt)).2) - if y4.1 > (wp k (y1.getD y3.toNat T3.dflt)).1 then y4.1 else (wp k (y1.getD y3.toNat T3.dflt)).1))])
 else none
 else
 Z8 k j (qa .i64 (y0 + (y1.getD y3.toNat T3.dflt).2.1)) y1 y2 (qa .i64 (y3 + 1)) y4 y5
 else none
 else none
 else
 qf9 k j y5
def qf9 (k : Nat) : Nat → List T21.T → Option qmR
 | 0, _ => none
 | j + 1, y0 =>
 if ((qb2 k y0).isSome) then
 some ((qaC k y0).1, (qaC k y0).2)
 else none
end
def qjs (k : Nat) (a : List T3.T) (b : T21.T) : Option qmR :=
 if ((Ve k a).isSome) then
 bif (vE k a != (0 : Int)) then
 some ([], vE k a)
 else
 bif (decide (b.1 < (0 : Int)) || decide (b.1 > b.2) || decide (b.2 > (17179869184 : Int))) then
 some ([], 1)
 else
 Z8 k k 0 a (↑a.length : Int) 0 b ([])
 else none
def qdt := fun k a b => (qjs k a b).getD ([], 0)
def qOa (k : Nat) : Ke := (115, mo 2, fun
 | [.r (.ro f d), .agg e], [] => (qE f T3 d).bind fun a => (qW [] T21 e).bind fun b => some (.one (qoj (qdt k a b), []))
 | _, _ => none)
def qDY : List (Nat × List Cmd) := [(9, [.row 7 91 T21, .autoB [3, 7, 8, 35, 36, 37] false []]), (20, [.frz 7 false (RTy.list T21), .autoB [7] false []])]
abbrev qJk := EP Tryz.f115 0 qoj nb
theorem qBE (k) : ∀ j, (∀ {y0 y1 y2 y3 y4 y5}, qJk 9 (qFn y0 y1 y2 y3 y4 y5) (Z8 k j y0 y1 y2 y3 y4 y5)) ∧ (∀ {y0}, qJk 20 (qB5 y0) (qf9 k j y0))
 | 0 => by and_intros <;> intros <;> exact e0
 | j + 1 => by
  have ih := @qBE k j
  have g := @go (qD [qcq k, qmO k, qjq k]) [20] qDY [.frz 4 false (RTy.list T21), .autoB [4, 5] true []]
  refine ⟨?_, ?_⟩
  ·intro y0 y1 y2 y3 y4 y5 r h
   rw [Z8] at h
   exact g (gS h (fun h => qS h fun h => qu h qz3 fun h => gS h (fun h => gS h (fun h => qu h id fun h => gD h 9 ih.1) fun h => qu h id fun h => gD h 9 ih.1) fun h => gD h 9 ih.1) fun h => gD h 20 ih.2)
  ·intro y0 r h
   rw [qf9] at h
   exact g (qu h qwC fun h => gL h)
theorem qRz (k a b r) (h : qjs k a b = some r): qIg a b r := qN Tryz.f115 (go (qD [qcq k, qmO k, qjq k]) [20] qDY [.frz 4 false (RTy.list T21), .autoB [4, 5] true []] (qu h qcl fun h => qB h fun h => qB h fun h => gD h 9 (qBE k k).1))
theorem qRn {k a b} (h : (qjs k a b).isSome): qIg a b (qdt k a b) := qJ h (qRz k a b)
abbrev qnj : Type := List T7.T × Int
def qor (r : qnj) : AV := .tup [ro T7 r.1, ri r.2]
abbrev qIf (a : List T5.T) (b : T19.T) (d : List T7.T) (e : Int) (r : qnj) : Prop := CC Tryz.prog 67 [ro T5 a, .agg (qy (qr T19 b)), ro T7 d, ri e] [] (qor r) (nb r)
def qFB := fun y0 y1 y2 y3 y4 => (⟨qI 111 [(10, .ptr 1000000 0 0), (13, .own 1000001 0), (37, ro T7 y0), (38, ri y1), (39, ri y2)], [(1000000, 0, .var 45 (qy (qr T4 y3))), (1000001, 0, .row 127 T7 y4)]⟩ : St)
def qCt := fun y0 y1 y2 y3 y4 y5 y6 y7 y8 y9 y10 => (⟨qI 111 [(10, .ptr 1000000 0 0), (13, .own 1000001 0), (15, .ptr 1000002 0 0), (16, ri y0), (17, ri y1), (37, ro T7 y2), (38, ri y3), (39, ri y4), (84, ro T21 y5), (85, ri y6), (86, ri y7)], [(1000000, 0, .var 45 (qy (qr T4 y8))), (1000001, 0, .row 127 T7 y9), (1000002, 0, .var 127 (qy (qr T7 y10)))]⟩ : St)
mutual
def ZY (k : Nat) : Nat → List T7.T → Int → Int → T4.T → List T7.T → Option qnj
 | 0, _, _, _, _, _ => none
 | j + 1, y0, y1, y2, y3, y4 =>
 bif y2 < y1 then
 if (0 ≤ y2) ∧ (y2 < y0.length) then
 bif (if y3.1 > (y0.getD y2.toNat T7.dflt).1.1 then y3.1 else (y0.getD y2.toNat T7.dflt).1.1) ≥ if qa .i64 (y3.1 + y3.2.1) < (y0.getD y2.toNat T7.dflt).1.2.1 then qa .i64 (y3.1 + y3.2.1) else (y0.getD y2.toNat T7.dflt).1.2.1 then
 ZY k j y0 y1 (qa .i64 (y2 + 1)) y3 y4
 else
 if ((qiX k y3 (if y3.1 > (y0.getD y2.toNat T7.dflt).1.1 then y3.1 else (y0.getD y2.toNat T7.dflt).1.1) (if qa .i64 (y3.1 + y3.2.1) < (y0.getD y2.toNat T7.dflt).1.2.1 then qa .i64 (y3.1 + y3.2.1) else (y0.getD y2.toNat T7.dflt).1.2.1)).isSome) then
 if ((qjs k y3.2.2.2 (y0.getD y2.toNat T7.dflt).1.2.2).isSome) then
 bif ((qdt k y3.2.2.2 (y0.getD y2.toNat T7.dflt).1.2.2).2 != (0 : Int)) then
 some ([], (qdt k y3.2.2.2 (y0.getD y2.toNat T7.dflt).1.2.2).2)
 else
 ZT k j ((qlV k y3 (if y3.1 > (y0.getD y2.toNat T7.dflt).1.1 then y3.1 else (y0.getD y2.toNat T7.dflt).1.1) (if qa .i64 (y3.1 + y3.2.1) < (y0.getD y2.toNat T7.dflt).1.2.1 then qa .i64 (y3.1 + y3.2.1) else (y0.getD y2.toNat T7.dflt).1.2.1)).1) ((qlV k y3 (if y3.1 > (y0.getD y2.toNat T7.dflt).1.1 then y3.1 else (y0.getD y2.toNat T7.dflt).1.1) (if qa .i64 (y3.1 + y3.2.1) < (y0.getD y2.toNat T7.dflt).1.2.1 then qa .i64 (y3.1 + y3.2.1) else (y0.getD y2.toNat T7.dflt).1.2.1)).2) y0 y1 y2 ((qdt k y3.2.2.2 (y0.getD y2.toNat T7.dflt).1.2.2).1) (↑ (qdt k y3.2.2.2 (y0.getD y2.toNat T7.dflt).1.2.2).1.length : Int) 0 y3 y4 (y0.getD y2.toNat T7.dflt)
 else none
 else none
 else none
 else
 bif (↑y4.length : Int) > (128 : Int) then
 some ([], 8)
 else
 some (y4, 0)
def ZT (k : Nat) : Nat → Int → Int → List T7.T → Int → Int → List T21.T → Int → Int → T4.T → List T7.T → T7.T → Option qnj
 | 0, _, _, _, _, _, _, _, _, _, _, _ => none
 | j + 1, y0, y1, y2, y3, y4, y5, y6, y7, y8, y9, y10 =>
 bif y7 < y6 then
 if (0 ≤ y7) ∧ (y7 < y5.length) then
 if ((y9.length + [((y0, y1, y5.getD y7.toNat T21.dflt), y10.2)].length) * (48 : Nat) ≤ (140737488355328 : Nat)) then
 ZT k j y0 y1 y2 y3 y4 y5 y6 (qa .i64 (y7 + 1)) y8 (y9 ++ [((y0, y1, y5.getD y7.toNat T21.dflt), y10.2)]) y10
 else none
 else none
 else
 ZY k j y2 y3 (qa .i64 (y4 + 1)) y8 y9
end
def qj1 (k : Nat) (a : List T5.T) (b : T19.T) (d : List T7.T) (e : Int) : Option qnj :=
 if ((qfs k a b e).isSome) then
 bif ((zd k a b e).2 != (0 : Int)) then
 some ([], (zd k a b e).2)
 else
 if ((qjv k d).isSome) then
 bif (qjN k d != (0 : Int)) then
 some ([], qjN k d)
 else
 ZY k k d (↑d.length : Int) 0 ((zd k a b e).1) ([])
 else none
 else none
def qcN := fun k a b d e => (qj1 k a b d e).getD ([], 0)
def qCA (k : Nat) : Ke := (67, mo 4, fun
 | [.r (.ro m f), .agg l, .r (.ro n i), .r (.v (.int .i64 e))], [] => (qE m T5 f).bind fun a => (qW [] T19 l).bind fun b => (qE n T7 i).bind fun d => some (.one (qor (qcN k a b d e), []))
 | _, _ => none)
def qIi (k : Nat) : Calld := qD [qAj k, qRg k, qP9 k, qOa k]
def qAn : List (Nat × List Cmd) := [(9, [.row 13 127 T7, .autoB [10, 13, 37, 38, 39] false []]), (18, [.row 13 127 T7, .autoB [10, 13, 15, 16, 17, 37, 38, 39, 84, 85, 86] false []])]
abbrev qI2 := EP Tryz.f67 0 qor nb
theorem qDN (k) : ∀ j, (∀ {y0 y1 y2 y3 y4}, qI2 9 (qFB y0 y1 y2 y3 y4) (ZY k j y0 y1 y2 y3 y4)) ∧ (∀ {y0 y1 y2 y3 y4 y5 y6 y7 y8 y9 y10}, qI2 18 (qCt y0 y1 y2 y3 y4 y5 y6 y7 y8 y9 y10) (ZT k j y0 y1 y2 y3 y4 y5 y6 y7 y8 y9 y10))
 | 0 => by and_intros <;> intros <;> exact e0
 | j + 1 => by
  have ih := @qDN k j
  have g := @go (qIi k) [] qAn [.frz 8 false (RTy.list T7), .autoB [8, 9] true []]
  refine ⟨?_, ?_⟩
  ·intro y0 y1 y2 y3 y4 r h
   rw [ZY] at h
   exact g (gS h (fun h => qS h fun h => gS h (fun h => gD h 9 ih.1) fun h => qu h qNA fun h => qu h qRn fun h => qB h fun h => gD h 18 ih.2) fun h => qB h fun h => gL h)
  ·intro y0 y1 y2 y3 y4 y5 y6 y7 y8 y9 y10 r h
   rw [ZT] at h
   exact g (gS h (fun h => qS h fun h => qu h id fun h => gD h 18 ih.2) fun h => gD h 9 ih.1)
theorem qP4 (k a b d e r) (h : qj1 k a b d e = some r): qIf a b d e r := qN Tryz.f67 (go (qIi k) [] qAn [.frz 8 false (RTy.list T7), .autoB [8, 9] true []] (qu h qz8 fun h => qB h fun h => qu h qRB fun h => qB h fun h => gD h 9 (qDN k k).1))
theorem qNG {k a b d e} (h : (qj1 k a b d e).isSome): qIf a b d e (qcN k a b d e) := qJ h (qP4 k a b d e)
def qoT (r : Int × Int) : AV := .tup [ri r.1, ri r.2]
abbrev qHU (a : List T5.T) (b : T19.T) (d : List T7.T) (e : Int) (r : Int × Int) : Prop := CC Tryz.prog 180 [ro T5 a, .agg (qy (qr T19 b)), ro T7 d, ri e] [] (qoT r) (nb r)
def qGP := fun y0 y1 y2 y3 => (⟨qI 38 [(12, ri y0), (26, ro T7 y1), (27, ri y2), (28, ri y3)], []⟩ : St)
def YO (k : Nat) : Nat → Int → List T7.T → Int → Int → Option (Int × Int)
 | 0, _, _, _, _ => none
 | j + 1, y0, y1, y2, y3 =>
 bif y3 < y2 then
 if (0 ≤ y3) ∧ (y3 < y1.length) then
 YO k j (if (y1.getD y3.toNat T7.dflt).2.2 > y0 then (y1.getD y3.toNat T7.dflt).2.2 else y0) y1 y2 (qa .i64 (y3 + 1))
 else none
 else
 some (y0, 0)
def qjG (k : Nat) (a : List T5.T) (b : T19.T) (d : List T7.T) (e : Int) : Option (Int × Int) :=
 if ((qj1 k a b d e).isSome) then
 bif ((qcN k a b d e).2 != (0 : Int)) then
 some (0, (qcN k a b d e).2)
 else
 YO k k 0 ((qcN k a b d e).1) (↑ (qcN k a b d e).1.length : Int) 0
 else none
def qfm := fun k a b d e => (qjG k a b d e).getD (0, 0)
def qNs (k : Nat) : Ke := (180, mo 4, fun
 | [.r (.ro l f), .agg i, .r (.ro m g), .r (.v (.int .i64 e))], [] => (qE l T5 f).bind fun a => (qW [] T19 i).bind fun b => (qE m T7 g).bind fun d => some (.one (qoT (qfm k a b d e), []))
 | _, _ => none)
def qz9 : List (Nat × List Cmd) := [(6, [.autoB [12, 26, 27, 28] false []])]
abbrev qR2 := EP Tryz.f180 0 qoT nb
theorem qBF (k) : ∀ j, (∀ y0 y1 y2 y3, qR2 6 (qGP y0 y1 y2 y3) (YO k j y0 y1 y2 y3))
 | 0 => by intros; exact e0
 | j + 1 => by
  have ih := @qBF k j
  ·intro y0 y1 y2 y3 r h
   rw [YO] at h
   exact go (qD [qCA k]) [] qz9 [.autoB [8, 9] true []] (gS h (fun h => qS h fun h => gC h 6 (ih _ _ _ _ _)) fun h => gL h)
theorem qOS (k a b d e r) (h : qjG k a b d e = some r): qHU a b d e r := qN Tryz.f180 (go (qD [qCA k]) [] qz9 [.autoB [8, 9] true []] (qu h qNG fun h => qB h fun h => gC h 6 ((qBF k k) _ _ _ _ _)))
theorem qRc {k a b d e} (h : (qjG k a b d e).isSome): qHU a b d e (qfm k a b d e) := qJ h (qOS k a b d e)
abbrev qs2 : Type := T22.T × Int
def qtZ (r : qs2) : AV := .tup [.agg (qy (qr T22 r.1)), ri r.2]
abbrev qzZ (a : T28.T) (b : Int) (r : qs2) : Prop := CC Tryz.prog 132 [.agg (qy (qr T28 a)), ri b] [] (qtZ r) (nb r)
def qb4 (k : Nat) (a : T28.T) (b : Int) : Option qs2 :=
 if ((qfs k a.1 a.2.1 b).isSome) then
 bif ((zd k a.1 a.2.1 b).2 != (0 : Int)) then
 some ((0, (false, (0, (0, (0, 0))))), (zd k a.1 a.2.1 b).2)
 else
 bif (b == 0) then
 some ((0, (false, (0, (0, (0, 0))))), 7)
 else
 if ((X3 k a.2.2.1).isSome) then
 bif (QJ k a.2.2.1 != (0 : Int)) then
 some ((0, (false, (0, (0, (0, 0))))), QJ k a.2.2.1)
 else
 if ((qen k a).isSome) then
 bif (!qiu k a) then
 some ((0, (false, (0, (0, (0, 0))))), 21)
 else
 if ((qge k (zd k a.1 a.2.1 b).1.2.2.2).isSome) then
 bif ((zU k (zd k a.1 a.2.1 b).1.2.2.2).2 != (0 : Int)) then
 some ((0, (false, (0, (0, (0, 0))))), (zU k (zd k a.1 a.2.1 b).1.2.2.2).2)
 else
 if ((qiF k a (zU k (zd k a.1 a.2.1 b).1.2.2.2).1).isSome) then
 bif (decide ((QA k a (zU k (zd k a.1 a.2.1 b).1.2.2.2).1).1 < (0 : Int)) || decide ((QA k a (zU k (zd k a.1 a.2.1 b).1.2.2.2).1).1 ≥ (↑ (qe a.2.2.2.2.1) : Int))) then
 some ((0, (false, (0, (0, (0, 0))))), 22)
 else
 if ((qa4 k (zd k a.1 a.2.1 b).1.2.2.2).isSome) then
 if ((0 : Int) ≤ (QA k a (zU k (zd k a.1 a.2.1 b).1.2.2.2).1).1) ∧ ((QA k a (zU k (zd k a.1 a.2.1 b).1.2.2.2).1).1 < (↑ (qe a.2.2.2.2.1) : Int)) ∧ ((qjp k a.2.2.2.2.2 (XK k (zd k a.1 a.2.1 b).1.2.2.2).1 (qM a.2.2.2.2.1 (QA k a (zU k (zd k a.1 a.2.1 b).1.2.2.2).1).1.toNat T0.dflt).2.2.2.2.2.1).isSome) then
 bif ((qfY k a.2.2.2.2.2 (XK k (zd k a.1 a.2.1 b).1.2.2.2).1 (qM a.2.2.2.2.1 (QA k a (zU k (zd k a.1 a.2.1 b).1.2.2.2).1).1.toNat T0.dflt).2.2.2.2.2.1).2 != (0 : Int)) then
 some ((0, (false, (0, (0, (0, 0))))), (qfY k a.2.2.2.2.2 (XK k (zd k a.1 a.2.1 b).1.2.2.2).1 (qM a.2.2.2.2.1 (QA k a (zU k (zd k a.1 a.2.1 b).1.2.2.2).1).1.toNat T0.dflt).2.2.2.2.2.1).2)
 else
 if ((qjG k a.1 a.2.1 a.2.2.2.1 b).isSome) then
 bif ((qfm k a.1 a.2.1 a.2.2.2.1 b).2 != (0 : Int)) then
 some ((0, (false, (0, (0, (0, 0))))), (qfm k a.1 a.2.1 a.2.2.2.1 b).2)
 else
 some (((QA k a (zU k (zd k a.1 a.2.1 b).1.2.2.2).1).1, ((QA k a (zU k (zd k a.1 a.2.1 b).1.2.2.2).1).2, ((zd k a.1 a.2.1 b).1.2.1, ((qfY k a.2.2.2.2.2 (XK k (zd k a.1 a.2.1 b).1.2.2.2).1 (qM a.2.2.2.2.1 (QA k a (zU k (zd k a.1 a.2.1 b).1.2.2.2).1).1.toNat T0.dflt).2.2.2.2.2.1).1, (qa .i64 ((↑ (qe (zd k a.1 a.2.1 b).1.2.2.2) : Int) - 1), (qfm k a.1 a.2.1 a.2.2.2.1 b).1))))), 0)
 else none
 else none
 else none
 else none
 else none
 else none
 else none
 else none
def Qd := fun k a b => (qb4 k a b).getD ((T22).dflt, 0)
def qMv (k : Nat) : Ke := (132, mo 2, fun
 | [.agg d, .r (.v (.int .i64 b))], [] => (qW [] T28 d).bind fun a => some (.one (qtZ (Qd k a b), []))
 | _, _ => none)
theorem qLs (k a b r) (h : qb4 k a b = some r): qzZ a b r := qN Tryz.f132 (go (qD [qex k, qsC k, qBQ k, qAj k, qLK k, qJM k, qPK k, qNs k]) [] [] [.autoB [4, 5] true []] (qu h qz8 fun h => qB h fun h => qB h fun h => qu h qji fun h => qB h fun h => qu h qLi fun h => qB h fun h => qu h qDd fun h => qB h fun h => qu h qML fun h => qB h fun h => qu h que fun h => gN h (fun q => qf q.1 (qf q.2.1 (qf (qQG q.2.2) qR))) fun h => qB h fun h => qu h qRc fun h => qB h fun h => gL h))
theorem qKm {k a b} (h : (qb4 k a b).isSome): qzZ a b (Qd k a b) := qJ h (qLs k a b)
def qvG (r : T19.T) : AV := .agg (qy (qr T19 r))
def qDR (a : T17.T) (b : List T18.T) (r : T19.T) : List (Nat × Blk) := [(0, .var 140 (qy (qr T17 a) ++ [.own 1 0])), (0, .row 54 T18 b)]
abbrev qIz (a : T17.T) (b : List T18.T) (r : T19.T) : Prop := CC Tryz.prog 144 [.ptr 0 0 0] [.var 140 (qy (qr T17 a) ++ [.own 1 0]), .row 54 T18 b] (qvG r) (qDR a b r)
def qrb (k : Nat) (a : T17.T) (b : List T18.T) : Option T19.T :=
 some (a.2.1, a.2.2.1)
def qnm := fun k a b => (qrb k a b).getD (T19).dflt
def qRx (k : Nat) : Ke := (144, fun
 | [.ptr _ _ _] => some [true, true, true]
 | _ => none, fun
 | [.ptr 0 0 0], [.var 140 d, .row 54 tb_22_ qb_22] => (qW [] T17 (d.take 22)).bind fun a => (qE tb_22_ T18 qb_22).bind fun b => some (.one (qvG (qnm k a b), qDR a b (qnm k a b)))
 | _, _ => none)
theorem qQ4 (k a b r) (h : qrb k a b = some r): qIz a b r := qN Tryz.f144 (go (qD []) [] [] [.autoB [2] true []] (gL h))
theorem qOL {k a b} (h : (qrb k a b).isSome): qIz a b (qnm k a b) := qJ h (qQ4 k a b)
def qwL (r : T28.T) : AV := .agg (qy (qr T28 r))
def qEZ (a : T17.T) (b : List T18.T) (r : T28.T) : List (Nat × Blk) := [(0, .var 140 (qy (qr T17 a) ++ [.own 1 0])), (0, .row 54 T18 b)]
abbrev qIv (a : T17.T) (b : List T18.T) (r : T28.T) : Prop := CC Tryz.prog 133 [.ptr 0 0 0] [.var 140 (qy (qr T17 a) ++ [.own 1 0]), .row 54 T18 b] (qwL r) (qEZ a b r)
def qmS (k : Nat) (a : T17.T) (b : List T18.T) : Option T28.T :=
 if ((qrb k a b).isSome) then
 some (a.2.2.2.2.2.2.2.2.2.2.2.1, (((qnm k a b).1, (qnm k a b).2), (a.2.2.2.2.2.2.2.2.2.1, (a.2.2.2.2.2.2.2.2.2.2.2.2.2.2.1, (a.2.2.2.2.2.2.2.1, a.2.2.2.2.2.1)))))
 else none
def WG := fun k a b => (qmS k a b).getD (T28).dflt
def qOl (k : Nat) : Ke := (133, fun
 | [.ptr _ _ _] => some [true, true, true]
 | _ => none, fun
 | [.ptr 0 0 0], [.var 140 d, .row 54 tb_22_ qb_22] => (qW [] T17 (d.take 22)).bind fun a => (qE tb_22_ T18 qb_22).bind fun b => some (.one (qwL (WG k a b), qEZ a b (WG k a b)))
 | _, _ => none)
theorem qQl (k a b r) (h : qmS k a b = some r): qIv a b r := qN Tryz.f133 (go (qD [qRx k]) [] [] [.frz 2 true T28, .autoB [2] true []] (gN h (fun q => qf (⟨rfl, ⟨rfl, trivial⟩⟩ : qa0 (0, .var 140 ((qy (qr T17 a)) ++ [.own 1 0])) ∧ qa0 (0, .row 54 T18 b) ∧ True) (qf (qOL q) qR)) fun h => gL h))
theorem qNk {k a b} (h : (qmS k a b).isSome): qIv a b (WG k a b) := qJ h (qQl k a b)
abbrev qE1 (a : T32.T) (r : Bool) : Prop := CC Tryz.prog 256 [.agg (qy (qr T32 a))] [] (rb r) (nb r)
def qhc (k : Nat) (a : T32.T) : Option Bool :=
 some (a.1.1 != a.2.2.1)
def qt3 := fun k a => (qhc k a).getD false
def qMw (k : Nat) : Ke := (256, mo 1, fun
 | [.agg b], [] => (qW [] T32 b).bind fun a => some (.one (rb (qt3 k a), []))
 | _, _ => none)
theorem qLC (k a r) (h : qhc k a = some r): qE1 a r := qN Tryz.f256 (go (qD []) [] [] [.autoB [2] true []] (gL h))
theorem qKB {k a} (h : (qhc k a).isSome): qE1 a (qt3 k a) := qJ h (qLC k a)
abbrev qEP (a : T32.T) (r : Bool) : Prop := CC Tryz.prog 257 [.agg (qy (qr T32 a))] [] (rb r) (nb r)
def qhi (k : Nat) (a : T32.T) : Option Bool :=
 some (!a.1.2.1)
def qsa := fun k a => (qhi k a).getD false
def qK0 (k : Nat) : Ke := (257, mo 1, fun
 | [.agg b], [] => (qW [] T32 b).bind fun a => some (.one (rb (qsa k a), []))
 | _, _ => none)
theorem qJZ (k a r) (h : qhi k a = some r): qEP a r := qN Tryz.f257 (go (qD []) [] [] [.autoB [2] true []] (gL h))
theorem qLB {k a} (h : (qhi k a).isSome): qEP a (qsa k a) := qJ h (qJZ k a)
abbrev qEA (a : T32.T) (r : Bool) : Prop := CC Tryz.prog 258 [.agg (qy (qr T32 a))] [] (rb r) (nb r)
def qij (k : Nat) (a : T32.T) : Option Bool :=
 some (a.1.2.2.1 != a.2.2.2.1)
def qum := fun k a => (qij k a).getD false
def qJz (k : Nat) : Ke := (258, mo 1, fun
 | [.agg b], [] => (qW [] T32 b).bind fun a => some (.one (rb (qum k a), []))
 | _, _ => none)
theorem qNc (k a r) (h : qij k a = some r): qEA a r := qN Tryz.f258 (go (qD []) [] [] [.autoB [2] true []] (gL h))
theorem qKt {k a} (h : (qij k a).isSome): qEA a (qum k a) := qJ h (qNc k a)
abbrev qAD (a : T32.T) (r : Bool) : Prop := CC Tryz.prog 259 [.agg (qy (qr T32 a))] [] (rb r) (nb r)
def qiO (k : Nat) (a : T32.T) : Option Bool :=
 some (decide (a.1.2.2.2.1 < qa .i64 (a.2.2.2.2.2.1 - a.2.2.2.2.2.2.1)) || decide (a.1.2.2.2.1 > a.2.2.2.2.2.1))
def qrF := fun k a => (qiO k a).getD false
def qM0 (k : Nat) : Ke := (259, mo 1, fun
 | [.agg b], [] => (qW [] T32 b).bind fun a => some (.one (rb (qrF k a), []))
 | _, _ => none)
theorem qL0 (k a r) (h : qiO k a = some r): qAD a r := qN Tryz.f259 (go (qD []) [] [] [.autoB [2] true []] (gL h))
theorem qKa {k a} (h : (qiO k a).isSome): qAD a (qrF k a) := qJ h (qL0 k a)
abbrev qD9 (a : T32.T) (r : Bool) : Prop := CC Tryz.prog 260 [.agg (qy (qr T32 a))] [] (rb r) (nb r)
def qiG (k : Nat) (a : T32.T) : Option Bool :=
 some (decide (a.1.2.2.2.2.1 > a.2.2.2.2.2.2.2.2.2.2.1))
def qtf := fun k a => (qiG k a).getD false
def qKO (k : Nat) : Ke := (260, mo 1, fun
 | [.agg b], [] => (qW [] T32 b).bind fun a => some (.one (rb (qtf k a), []))
 | _, _ => none)
theorem qM2 (k a r) (h : qiG k a = some r): qD9 a r := qN Tryz.f260 (go (qD []) [] [] [.autoB [2] true []] (gL h))
theorem qKJ {k a} (h : (qiG k a).isSome): qD9 a (qtf k a) := qJ h (qM2 k a)
abbrev qCe (a : T32.T) (r : Bool) : Prop := CC Tryz.prog 261 [.agg (qy (qr T32 a))] [] (rb r) (nb r)
def qh7 (k : Nat) (a : T32.T) : Option Bool :=
 some (decide (a.1.2.2.2.2.2 > a.2.2.2.2.2.2.2.2.2.2.2.1))
def qrG := fun k a => (qh7 k a).getD false
def qJX (k : Nat) : Ke := (261, mo 1, fun
 | [.agg b], [] => (qW [] T32 b).bind fun a => some (.one (rb (qrG k a), []))
 | _, _ => none)
theorem qKr (k a r) (h : qh7 k a = some r): qCe a r := qN Tryz.f261 (go (qD []) [] [] [.autoB [2] true []] (gL h))
theorem qKl {k a} (h : (qh7 k a).isSome): qCe a (qrG k a) := qJ h (qKr k a)
def vD (p : T32.T) : List (RTy.fn).T := [(Fn.func 256, [Value.agg (wq T32 p).toArray], []), (Fn.func 257, [Value.agg (wq T32 p).toArray], []), (Fn.func 258, [Value.agg (wq T32 p).toArray], []), (Fn.func 259, [Value.agg (wq T32 p).toArray], []), (Fn.func 260, [Value.agg (wq T32 p).toArray], []), (Fn.func 261, [Value.agg (wq T32 p).toArray], [])]
def qk0 (r : List I.T × Int) : AV := .tup [ro I r.1, ri r.2]
abbrev qDz (a : T8.T) (b : T22.T) (r : List I.T × Int) : Prop := CC Tryz.prog 219 [.agg (qy (qr T8 a)), .agg (qy (qr T22 b))] [] (qk0 r) (nb r)
def qqj := fun y0 y1 => (⟨qI 47 [(8, .own 1000000 0), (31, .own 1000001 0), (32, ri 6), (33, ri 0)], [(1000000, 0, .row 3 I y0), (1000001, 0, .row 40 .fn (vD y1))]⟩ : St)
def qqA := fun y0 y1 => (⟨qI 47 [(8, .own 1000000 0), (31, .own 1000001 0), (32, ri 6), (33, ri 1)], [(1000000, 0, .row 3 I y0), (1000001, 0, .row 40 .fn (vD y1))]⟩ : St)
def qql := fun y0 y1 => (⟨qI 47 [(8, .own 1000000 0), (31, .own 1000001 0), (32, ri 6), (33, ri 2)], [(1000000, 0, .row 3 I y0), (1000001, 0, .row 40 .fn (vD y1))]⟩ : St)
def qqK := fun y0 y1 => (⟨qI 47 [(8, .own 1000000 0), (31, .own 1000001 0), (32, ri 6), (33, ri 3)], [(1000000, 0, .row 3 I y0), (1000001, 0, .row 40 .fn (vD y1))]⟩ : St)
def qqp := fun y0 y1 => (⟨qI 47 [(8, .own 1000000 0), (31, .own 1000001 0), (32, ri 6), (33, ri 4)], [(1000000, 0, .row 3 I y0), (1000001, 0, .row 40 .fn (vD y1))]⟩ : St)
def qqG := fun y0 y1 => (⟨qI 47 [(8, .own 1000000 0), (31, .own 1000001 0), (32, ri 6), (33, ri 5)], [(1000000, 0, .row 3 I y0), (1000001, 0, .row 40 .fn (vD y1))]⟩ : St)
def qqv := fun y0 y1 => (⟨qI 47 [(8, .own 1000000 0), (31, .own 1000001 0), (32, ri 6), (33, ri 6)], [(1000000, 0, .row 3 I y0), (1000001, 0, .row 40 .fn (vD y1))]⟩ : St)
mutual
def Q6 (k : Nat) : Nat → List I.T → T32.T → Option (List I.T × Int)
 | 0, _, _ => none
 | j + 1, y0, y1 =>
 if ((0 : Int) ≤ (0 : Int)) ∧ ((0 : Int) < (↑ (vD y1).length : Int)) then
 if ((qhc k y1).isSome) then
 bif (qt3 k y1) then
 if ((y0.length + [qa .i64 ((1 : Int) + (0 : Int))].length) * (8 : Nat) ≤ (140737488355328 : Nat)) then
 vr k j (y0 ++ [qa .i64 (1 + 0)]) y1
 else none
 else
 vr k j y0 y1
 else none
 else none
def vr (k : Nat) : Nat → List I.T → T32.T → Option (List I.T × Int)
 | 0, _, _ => none
 | j + 1, y0, y1 =>
 if ((0 : Int) ≤ (1 : Int)) ∧ ((1 : Int) < (↑ (vD y1).length : Int)) then
 if ((qhi k y1).isSome) then
 bif (qsa k y1) then
 if ((y0.length + [qa .i64 ((1 : Int) + (1 : Int))].length) * (8 : Nat) ≤ (140737488355328 : Nat)) then
 vu k j (y0 ++ [qa .i64 (1 + 1)]) y1
 else none
 else
 vu k j y0 y1
 else none
 else none
def vu (k : Nat) : Nat → List I.T → T32.T → Option (List I.T × Int)
 | 0, _, _ => none
 | j + 1, y0, y1 =>
 if ((0 : Int) ≤ (2 : Int)) ∧ ((2 : Int) < (↑ (vD y1).length : Int)) then
 if ((qij k y1).isSome) then
 bif (qum k y1) then
 if ((y0.length + [qa .i64 ((1 : Int) + (2 : Int))].length) * (8 : Nat) ≤ (140737488355328 : Nat)) then
 vv k j (y0 ++ [qa .i64 (1 + 2)]) y1
 else none
 else
 vv k j y0 y1
 else none
 else none
def vv (k : Nat) : Nat → List I.T → T32.T → Option (List I.T × Int)
 | 0, _, _ => none
 | j + 1, y0, y1 =>
 if ((0 : Int) ≤ (3 : Int)) ∧ ((3 : Int) < (↑ (vD y1).length : Int)) then
 if ((qiO k y1).isSome) then
 bif (qrF k y1) then
 if ((y0.length + [qa .i64 ((1 : Int) + (3 : Int))].length) * (8 : Nat) ≤ (140737488355328 : Nat)) then
 vo k j (y0 ++ [qa .i64 (1 + 3)]) y1
 else none
 else
 vo k j y0 y1
 else none
 else none
def vo (k : Nat) : Nat → List I.T → T32.T → Option (List I.T × Int)
 | 0, _, _ => none
 | j + 1, y0, y1 =>
 if ((0 : Int) ≤ (4 : Int)) ∧ ((4 : Int) < (↑ (vD y1).length : Int)) then
 if ((qiG k y1).isSome) then
 bif (qtf k y1) then
 if ((y0.length + [qa .i64 ((1 : Int) + (4 : Int))].length) * (8 : Nat) ≤ (140737488355328 : Nat)) then
 vz k j (y0 ++ [qa .i64 (1 + 4)]) y1
 else none
 else
 vz k j y0 y1
 else none
 else none
def vz (k : Nat) : Nat → List I.T → T32.T → Option (List I.T × Int)
 | 0, _, _ => none
 | j + 1, y0, y1 =>
 if ((0 : Int) ≤ (5 : Int)) ∧ ((5 : Int) < (↑ (vD y1).length : Int)) then
 if ((qh7 k y1).isSome) then
 bif (qrG k y1) then
 if ((y0.length + [qa .i64 ((1 : Int) + (5 : Int))].length) * (8 : Nat) ≤ (140737488355328 : Nat)) then
 Qg k j (y0 ++ [qa .i64 (1 + 5)]) y1
 else none
 else
 Qg k j y0 y1
 else none
 else none
def Qg (k : Nat) : Nat → List I.T → T32.T → Option (List I.T × Int)
 | 0, _, _ => none
 | j + 1, y0, y1 =>
 some (y0, 0)
end
def qeh (k : Nat) (a : T8.T) (b : T22.T) : Option (List I.T × Int) :=
 if ((VH k a).isSome) then
 bif (YS k a != (0 : Int)) then
 some ([], YS k a)
 else
 Q6 k k ([]) (b, a)
 else none
def qbN := fun k a b => (qeh k a b).getD ([], 0)
def qvr (k : Nat) : Ke := (219, mo 2, fun
 | [.agg e, .agg d], [] => (qW [] T8 e).bind fun a => (qW [] T22 d).bind fun b => some (.one (qk0 (qbN k a b), []))
 | _, _ => none)
def qE6 (k : Nat) : Calld := qD [qB0 k, qMw k, qK0 k, qJz k, qM0 k, qKO k, qJX k]
def qv3 : List (Nat × List Cmd) := [(7, [.key 33, .row 8 3 I, .autoB [8, 31, 32, 33] false []])]
abbrev qca := EP Tryz.f219 0 qk0 nb
theorem qve (k) : ∀ j, (∀ {y0 y1}, qca 7 (qqj y0 y1) (Q6 k j y0 y1)) ∧ (∀ {y0 y1}, qca 7 (qqA y0 y1) (vr k j y0 y1)) ∧ (∀ {y0 y1}, qca 7 (qql y0 y1) (vu k j y0 y1)) ∧ (∀ {y0 y1}, qca 7 (qqK y0 y1) (vv k j y0 y1)) ∧ (∀ {y0 y1}, qca 7 (qqp y0 y1) (vo k j y0 y1)) ∧ (∀ {y0 y1}, qca 7 (qqG y0 y1) (vz k j y0 y1)) ∧ (∀ {y0 y1}, qca 7 (qqv y0 y1) (Qg k j y0 y1))
 | 0 => by and_intros <;> intros <;> exact e0
 | j + 1 => by
  have ih := @qve k j
  have g := @go (qE6 k) [] qv3 [.frz 4 false (RTy.list I), .autoB [4, 5] true []]
  refine ⟨?_, ?_, ?_, ?_, ?_, ?_, ?_⟩
  ·intro y0 y1 r h
   rw [Q6] at h
   exact g (gU1 h (.leaf (.tup [.r (.ro I y0), .r (.v (.int .i64 0))]) []) fun h => qS h fun h => qu h qKB fun h => gS h (fun h => qu h id fun h => gD h 20007 ih.2.1) fun h => gD h 20007 ih.2.1)
  ·intro y0 y1 r h
   rw [vr] at h
   exact g (gU1 h (.leaf (.tup [.r (.ro I y0), .r (.v (.int .i64 0))]) []) fun h => qS h fun h => qu h qLB fun h => gS h (fun h => qu h id fun h => gD h 30007 ih.2.2.1) fun h => gD h 30007 ih.2.2.1)
  ·intro y0 y1 r h
   rw [vu] at h
   exact g (gU1 h (.leaf (.tup [.r (.ro I y0), .r (.v (.int .i64 0))]) []) fun h => qS h fun h => qu h qKt fun h => gS h (fun h => qu h id fun h => gD h 40007 ih.2.2.2.1) fun h => gD h 40007 ih.2.2.2.1)
  ·intro y0 y1 r h
   rw [vv] at h
   exact g (gU1 h (.leaf (.tup [.r (.ro I y0), .r (.v (.int .i64 0))]) []) fun h => qS h fun h => qu h qKa fun h => gS h (fun h => qu h id fun h => gD h 50007 ih.2.2.2.2.1) fun h => gD h 50007 ih.2.2.2.2.1)
  ·intro y0 y1 r h
   rw [vo] at h
   exact g (gU1 h (.leaf (.tup [.r (.ro I y0), .r (.v (.int .i64 0))]) []) fun h => qS h fun h => qu h qKJ fun h => gS h (fun h => qu h id fun h => gD h 60007 ih.2.2.2.2.2.1) fun h => gD h 60007 ih.2.2.2.2.2.1)
  ·intro y0 y1 r h
   rw [vz] at h
   exact g (gU1 h (.leaf (.tup [.r (.ro I y0), .r (.v (.int .i64 0))]) []) fun h => qS h fun h => qu h qKl fun h => gS h (fun h => qu h id fun h => gD h 70007 ih.2.2.2.2.2.2) fun h => gD h 70007 ih.2.2.2.2.2.2)
  ·intro y0 y1 r h
   rw [Qg] at h
   exact g (gU2 h (.need [(0 : Int) ≤ (6 : Int), (6 : Int) < (↑ (vD y1).length : Int)] (.stuck 2001)) fun h => gL h)
theorem qKV (k a b r) (h : qeh k a b = some r): qDz a b r := qN Tryz.f219 (go (qE6 k) [] qv3 [.frz 4 false (RTy.list I), .autoB [4, 5] true []] (qu h qFb fun h => qB h fun h => gD h 10007 (qve k k).1))
theorem qMJ {k a b} (h : (qeh k a b).isSome): qDz a b (qbN k a b) := qJ h (qKV k a b)
abbrev qFe (a : List T10.T) (r : Int) : Prop := CC Tryz.prog 220 [ro T10 a] [] (ri r) (nb r)
def qAO := fun y0 y1 y2 => (⟨qI 42 [(8, ro T10 y0), (9, ri y1), (10, ri y2)], []⟩ : St)
def Xe (k : Nat) : Nat → List T10.T → Int → Int → Option Int
 | 0, _, _, _ => none
 | j + 1, y0, y1, y2 =>
 bif y2 < y1 then
 if (0 ≤ y2) ∧ (y2 < y0.length) then
 bif (decide ((y0.getD y2.toNat T10.dflt).1 < (1 : Int)) || decide ((y0.getD y2.toNat T10.dflt).1 > (1000000 : Int))) then
 some 1
 else
 bif (decide ((y0.getD y2.toNat T10.dflt).2.1 < (1 : Int)) || decide ((y0.getD y2.toNat T10.dflt).2.1 > (6 : Int))) then
 some 17
 else
 bif (decide ((y0.getD y2.toNat T10.dflt).2.2 < (0 : Int)) || decide ((y0.getD y2.toNat T10.dflt).2.2 > (2147483647 : Int))) then
 some 1
 else
 Xe k j y0 y1 (qa .i64 (y2 + 1))
 else none
 else
 some 0
def qef (k : Nat) (a : List T10.T) : Option Int :=
 bif (↑a.length : Int) > (512 : Int) then
 some 8
 else
 Xe k k a (↑a.length : Int) 0
def qfk := fun k a => (qef k a).getD 0
def qw8 (k : Nat) : Ke := (220, mo 1, fun
 | [.r (.ro d b)], [] => (qE d T10 b).bind fun a => some (.one (ri (qfk k a), []))
 | _, _ => none)
def qwQ : List (Nat × List Cmd) := [(4, [.autoB [8, 9, 10] false []])]
abbrev qQ3 := EP Tryz.f220 0 ri nb
theorem qvA (k) : ∀ j, (∀ y0 y1 y2, qQ3 4 (qAO y0 y1 y2) (Xe k j y0 y1 y2))
 | 0 => by intros; exact e0
 | j + 1 => by
  have ih := @qvA k j
  ·intro y0 y1 y2 r h
   rw [Xe] at h
   exact go (qD []) [] qwQ [.autoB [2] true []] (gS h (fun h => qS h fun h => qB h fun h => qB h fun h => qB h fun h => gC h 4 (ih _ _ _ _)) fun h => gL h)
theorem qMr (k a r) (h : qef k a = some r): qFe a r := qN Tryz.f220 (go (qD []) [] qwQ [.autoB [2] true []] (qB h fun h => gC h 4 ((qvA k k) _ _ _ _)))
theorem qLg {k a} (h : (qef k a).isSome): qFe a (qfk k a) := qJ h (qMr k a)
def qlH (r : List I.T × Int) : AV := .tup [ro I r.1, ri r.2]
abbrev qB2 (a : T8.T) (b : T22.T) (d : Int) (e : List T10.T) (r : List I.T × Int) : Prop := CC Tryz.prog 181 [.agg (qy (qr T8 a)), .agg (qy (qr T22 b)), ri d, ro T10 e] [] (qlH r) (nb r)
def qEJ := fun y0 y1 y2 y3 y4 y5 => (⟨qI 64 [(2, ri y0), (10, ro I y1), (13, .own 1000000 0), (34, ro T10 y2), (35, ri y3), (36, ri y4)], [(1000000, 0, .map false I RTy.bool y5)]⟩ : St)
def qyn := fun y0 y1 y2 y3 y4 => (⟨qI 64 [(13, .own 1000000 0), (16, .own 1000001 0), (48, ro I y0), (49, ri y1), (50, ri y2)], [(1000000, 0, .map false I RTy.bool y3), (1000001, 0, .row 3 I y4)]⟩ : St)
mutual
def Zk (k : Nat) : Nat → Int → List I.T → List T10.T → Int → Int → (List (I.T × (RTy.bool).T)) → Option (List I.T × Int)
 | 0, _, _, _, _, _, _ => none
 | j + 1, y0, y1, y2, y3, y4, y5 =>
 bif y4 < y3 then
 if (0 ≤ y4) ∧ (y4 < y2.length) then
 bif ((y2.getD y4.toNat T10.dflt).1 == y0) then
 Zk k j y0 y1 y2 y3 (qa .i64 (y4 + 1)) (vw I (y2.getD y4.toNat T10.dflt).2.1 true y5)
 else
 Zk k j y0 y1 y2 y3 (qa .i64 (y4 + 1)) y5
 else none
 else
 Wk k j y1 (↑y1.length : Int) 0 y5 ([])
def Wk (k : Nat) : Nat → List I.T → Int → Int → (List (I.T × (RTy.bool).T)) → List I.T → Option (List I.T × Int)
 | 0, _, _, _, _, _ => none
 | j + 1, y0, y1, y2, y3, y4 =>
 bif y2 < y1 then
 if (0 ≤ y2) ∧ (y2 < y0.length) then
 bif (! (wd I (y0.getD y2.toNat I.dflt) y3).getD false) then
 if ((y4.length + [y0.getD y2.toNat I.dflt].length) * (8 : Nat) ≤ (140737488355328 : Nat)) then
 Wk k j y0 y1 (qa .i64 (y2 + 1)) y3 (y4 ++ [y0.getD y2.toNat I.dflt])
 else none
 else
 Wk k j y0 y1 (qa .i64 (y2 + 1)) y3 y4
 else none
 else
 some (y4, 0)
end
def qd9 (k : Nat) (a : T8.T) (b : T22.T) (d : Int) (e : List T10.T) : Option (List I.T × Int) :=
 if ((qeh k a b).isSome) then
 bif ((qbN k a b).2 != (0 : Int)) then
 some ([], (qbN k a b).2)
 else
 if ((qef k e).isSome) then
 bif (qfk k e != (0 : Int)) then
 some ([], qfk k e)
 else
 Zk k k d ((qbN k a b).1) e (↑e.length : Int) 0 ([])
 else none
 else none
def qb1 := fun k a b d e => (qd9 k a b d e).getD ([], 0)
def qMD (k : Nat) : Ke := (181, mo 4, fun
 | [.agg l, .agg f, .r (.v (.int .i64 d)), .r (.ro m i)], [] => (qW [] T8 l).bind fun a => (qW [] T22 f).bind fun b => (qE m T10 i).bind fun e => some (.one (qlH (qb1 k a b d e), []))
 | _, _ => none)
def qvc : List (Nat × List Cmd) := [(9, [.autoB [2, 10, 13, 34, 35, 36] false []]), (16, [.row 16 3 I, .autoB [13, 16, 48, 49, 50] false []])]
abbrev qC1 := EP Tryz.f181 0 qlH nb
theorem qw4 (k) : ∀ j, (∀ {y0 y1 y2 y3 y4 y5}, qC1 9 (qEJ y0 y1 y2 y3 y4 y5) (Zk k j y0 y1 y2 y3 y4 y5)) ∧ (∀ {y0 y1 y2 y3 y4}, qC1 16 (qyn y0 y1 y2 y3 y4) (Wk k j y0 y1 y2 y3 y4))
 | 0 => by and_intros <;> intros <;> exact e0
 | j + 1 => by
  have ih := @qw4 k j
  have g := @go (qD [qvr k, qw8 k]) [] qvc [.frz 8 false (RTy.list I), .autoB [8, 9] true []]
  refine ⟨?_, ?_⟩
  ·intro y0 y1 y2 y3 y4 y5 r h
   rw [Zk] at h
   exact g (gS h (fun h => qS h fun h => gS h (fun h => gD h 9 ih.1) fun h => gD h 9 ih.1) fun h => gD h 16 ih.2)
  ·intro y0 y1 y2 y3 y4 r h
   rw [Wk] at h
   exact g (gS h (fun h => qS h fun h => gS h (fun h => qu h id fun h => gD h 16 ih.2) fun h => gD h 16 ih.2) fun h => gL h)
theorem qKP (k a b d e r) (h : qd9 k a b d e = some r): qB2 a b d e r := qN Tryz.f181 (go (qD [qvr k, qw8 k]) [] qvc [.frz 8 false (RTy.list I), .autoB [8, 9] true []] (qu h qMJ fun h => qB h fun h => qu h qLg fun h => qB h fun h => gD h 9 (qw4 k k).1))
theorem qKu {k a b d e} (h : (qd9 k a b d e).isSome): qB2 a b d e (qb1 k a b d e) := qJ h (qKP k a b d e)
abbrev qBI (a : T8.T) (b : T22.T) (d : Int) (e : List T10.T) (r : Int) : Prop := CC Tryz.prog 134 [.agg (qy (qr T8 a)), .agg (qy (qr T22 b)), ri d, ro T10 e] [] (ri r) (nb r)
def qeu (k : Nat) (a : T8.T) (b : T22.T) (d : Int) (e : List T10.T) : Option Int :=
 if ((qd9 k a b d e).isSome) then
 bif ((qb1 k a b d e).2 != (0 : Int)) then
 some ((qb1 k a b d e).2)
 else
 bif (↑ (qb1 k a b d e).1.length : Int) > (0 : Int) then
 some 31
 else
 some 0
 else none
def qaD := fun k a b d e => (qeu k a b d e).getD 0
def qLf (k : Nat) : Ke := (134, mo 4, fun
 | [.agg i, .agg f, .r (.v (.int .i64 d)), .r (.ro l g)], [] => (qW [] T8 i).bind fun a => (qW [] T22 f).bind fun b => (qE l T10 g).bind fun e => some (.one (ri (qaD k a b d e), []))
 | _, _ => none)
theorem qLu (k a b d e r) (h : qeu k a b d e = some r): qBI a b d e r := qN Tryz.f134 (go (qD [qMD k]) [] [] [.autoB [8] true []] (qu h qKu fun h => qB h fun h => qB h fun h => gL h))
theorem qKd {k a b d e} (h : (qeu k a b d e).isSome): qBI a b d e (qaD k a b d e) := qJ h (qLu k a b d e)
abbrev qdu : Type := T17.T × List T18.T
def qnH (r : qdu) : AV := .tup []
def qsc (a : T17.T) (b : List T18.T) (r : qdu) : List (Nat × Blk) := [(0, .var 140 ((qy (qr T17 r.1)) ++ [.own 1 1])), (1, .row 54 T18 r.2)]
abbrev qJn (a : T17.T) (b : List T18.T) (r : qdu) : Prop := CC Tryz.prog 90 [.ptr 0 0 0] [.var 140 (qy (qr T17 a) ++ [.own 1 0]), .row 54 T18 b] (qnH r) (qsc a b r)
def qGK := fun (a : T17.T) (b : List T18.T) y0 y1 y2 y3 y4 y5 => (⟨qI 111 [(0, .ptr 0 0 0), (3, .own 1000000 0), (31, ro T11 y0), (32, ri y1), (33, ri y2)], [(0, 0, .var 140 ((qy (qr T17 y3)) ++ [.own 1 1])), (1, 1, .row 54 T18 y4), (1000000, 0, .row 3 I y5)]⟩ : St)
def qGc := fun (a : T17.T) (b : List T18.T) y0 y1 y2 y3 y4 y5 y6 y7 y8 => (⟨qI 111 [(0, .ptr 0 0 0), (3, .own 1000000 0), (31, ro T11 y0), (32, ri y1), (33, ri y2), (38, ro I y3), (39, ri y4), (40, ri y5)], [(0, 0, .var 140 ((qy (qr T17 y6)) ++ [.own 1 1])), (1, 1, .row 54 T18 y7), (1000000, 0, .row 3 I y8)]⟩ : St)
def qAq := fun (a : T17.T) (b : List T18.T) y0 y1 y2 y3 y4 y5 => (⟨qI 111 [(0, .ptr 0 0 0), (3, .own 1000000 0), (89, ro T9 y0), (90, ri y1), (91, ri y2)], [(0, 0, .var 140 ((qy (qr T17 y3)) ++ [.own 1 1])), (1, 1, .row 54 T18 y4), (1000000, 0, .row 3 I y5)]⟩ : St)
def qDI := fun (a : T17.T) (b : List T18.T) y0 y1 y2 y3 y4 y5 y6 y7 y8 => (⟨qI 111 [(0, .ptr 0 0 0), (3, .own 1000000 0), (89, ro T9 y0), (90, ri y1), (91, ri y2), (96, ro I y3), (97, ri y4), (98, ri y5)], [(0, 0, .var 140 ((qy (qr T17 y6)) ++ [.own 1 1])), (1, 1, .row 54 T18 y7), (1000000, 0, .row 3 I y8)]⟩ : St)
mutual
def Vf (k : Nat) (a : T17.T) (b : List T18.T) : Nat → List T11.T → Int → Int → T17.T → List T18.T → List I.T → Option qdu
 | 0, _, _, _, _, _, _ => none
 | j + 1, y0, y1, y2, y3, y4, y5 =>
 bif y2 < y1 then
 if (0 ≤ y2) ∧ (y2 < y0.length) then
 Qv k a b j y0 y1 y2 ((y0.getD y2.toNat T11.dflt).2.2) (↑ (qe (y0.getD y2.toNat T11.dflt).2.2) : Int) 0 y3 y4 y5
 else none
 else
 ZK k a b j y3.2.2.2.2.2.2.2.2.2.2.2.2.2.2.2.1 (↑ (qe y3.2.2.2.2.2.2.2.2.2.2.2.2.2.2.2.1) : Int) 0 y3 y4 y5
def Qv (k : Nat) (a : T17.T) (b : List T18.T) : Nat → List T11.T → Int → Int → List I.T → Int → Int → T17.T → List T18.T → List I.T → Option qdu
 | 0, _, _, _, _, _, _, _, _, _ => none
 | j + 1, y0, y1, y2, y3, y4, y5, y6, y7, y8 =>
 bif y5 < y4 then
 if (0 ≤ y5) ∧ (y5 < y3.length) then
 if ((y8.length + [y3.getD y5.toNat I.dflt].length) * (8 : Nat) ≤ (140737488355328 : Nat)) then
 if ((qjo k y6 y7 (y3.getD y5.toNat I.dflt)).isSome) then
 bif (! (Ya k y6 y7 (y3.getD y5.toNat I.dflt)).2) then
 if ((wU k y6 y7 6 (y3.getD y5.toNat I.dflt) 1).isSome) then
 Qv k a b j y0 y1 y2 y3 y4 (qa .i64 (y5 + 1)) ((q9 k y6 y7 6 (y3.getD y5.toNat I.dflt) 1).1) ((q9 k y6 y7 6 (y3.getD y5.toNat I.dflt) 1).2) (y8 ++ [y3.getD y5.toNat I.dflt])
 else none
 else
 if ((qmS k y6 y7).isSome) ∧ ((qb4 k (WG k y6 y7) (y3.getD y5.toNat I.dflt)).isSome) then
 bif ((Qd k (WG k y6 y7) (y3.getD y5.toNat I.dflt)).2 == (0 : Int)) then
 if ((qeu k (Ya k y6 y7 (y3.getD y5.toNat I.dflt)).1 (Qd k (WG k y6 y7) (y3.getD y5.toNat I.dflt)).1 (y3.getD y5.toNat I.dflt) y6.2.2.2.2.2.2.2.2.2.2.2.2.2.2.2.2.1).isSome) then
 bif (qaD k (Ya k y6 y7 (y3.getD y5.toNat I.dflt)).1 (Qd k (WG k y6 y7) (y3.getD y5.toNat I.dflt)).1 (y3.getD y5.toNat I.dflt) y6.2.2.2.2.2.2.2.2.2.2.2.2.2.2.2.2.1 != (0 : Int)) then
 if ((wU k y6 y7 7 (y3.getD y5.toNat I.dflt) (qaD k (Ya k y6 y7 (y3.getD y5.toNat I.dflt)).1 (Qd k (WG k y6 y7) (y3.getD y5.toNat I.dflt)).1 (y3.getD y5.toNat I.dflt) y6.2.2.2.2.2.2.2.2.2.2.2.2.2.2.2.2.1)).isSome) then
 Qv k a b j y0 y1 y2 y3 y4 (qa .i64 (y5 + 1)) ((q9 k y6 y7 7 (y3.getD y5.toNat I.dflt) (qaD k (Ya k y6 y7 (y3.getD y5.toNat I.dflt)).1 (Qd k (WG k y6 y7) (y3.getD y5.toNat I.dflt)).1 (y3.getD y5.toNat I.dflt) y6.2.2.2.2.2.2.2.2.2.2.2.2.2.2.2.2.1)).1) ((q9 k y6 y7 7 (y3.getD y5.toNat I.dflt) (qaD k (Ya k y6 y7 (y3.getD y5.toNat I.dflt)).1 (Qd k (WG k y6 y7) (y3.getD y5.toNat I.dflt)).1 (y3.getD y5.toNat I.dflt) y6.2.2.2.2.2.2.2.2.2.2.2.2.2.2.2.2.1)).2) (y8 ++ [y3.getD y5.toNat I.dflt])
 else none
 else
 Qv k a b j y0 y1 y2 y3 y4 (qa .i64 (y5 + 1)) y6 y7 (y8 ++ [y3.getD y5.toNat I.dflt])
 else none
 else
 bif ((Qd k (WG k y6 y7) (y3.getD y5.toNat I.dflt)).2 != (0 : Int)) then
 if ((wU k y6 y7 7 (y3.getD y5.toNat I.dflt) (Qd k (WG k y6 y7) (y3.getD y5.toNat I.dflt)).2).isSome) then
 Qv k a b j y0 y1 y2 y3 y4 (qa .i64 (y5 + 1)) ((q9 k y6 y7 7 (y3.getD y5.toNat I.dflt) (Qd k (WG k y6 y7) (y3.getD y5.toNat I.dflt)).2).1) ((q9 k y6 y7 7 (y3.getD y5.toNat I.dflt) (Qd k (WG k y6 y7) (y3.getD y5.toNat I.dflt)).2).2) (y8 ++ [y3.getD y5.toNat I.dflt])
 else none
 else
 Qv k a b j y0 y1 y2 y3 y4 (qa .i64 (y5 + 1)) y6 y7 (y8 ++ [y3.getD y5.toNat I.dflt])
 else none
 else none
 else none
 else none
 else
 Vf k a b j y0 y1 (qa .i64 (y2 + 1)) y6 y7 y8
def ZK (k : Nat) (a : T17.T) (b : List T18.T) : Nat → List T9.T → Int → Int → T17.T → List T18.T → List I.T → Option qdu
 | 0, _, _, _, _, _, _ => none
 | j + 1, y0, y1, y2, y3, y4, y5 =>
 bif y2 < y1 then
 if (0 ≤ y2) ∧ (y2 < y0.length) then
 Zu k a b j y0 y1 y2 ((y0.getD y2.toNat T9.dflt).2.2.1) (↑ (qe (y0.getD y2.toNat T9.dflt).2.2.1) : Int) 0 y3 y4 y5
 else none
 else
 some (y3, y4)
def Zu (k : Nat) (a : T17.T) (b : List T18.T) : Nat → List T9.T → Int → Int → List I.T → Int → Int → T17.T → List T18.T → List I.T → Option qdu
 | 0, _, _, _, _, _, _, _, _, _ => none
 | j + 1, y0, y1, y2, y3, y4, y5, y6, y7, y8 =>
 bif y5 < y4 then
 if (0 ≤ y5) ∧ (y5 < y3.length) then
 if ((VL k y8 (y3.getD y5.toNat I.dflt)).isSome) then
 bif (!VE k y8 (y3.getD y5.toNat I.dflt)) then
 if ((wU k y6 y7 6 (y3.getD y5.toNat I.dflt) 2).isSome) then
 Zu k a b j y0 y1 y2 y3 y4 (qa .i64 (y5 + 1)) ((q9 k y6 y7 6 (y3.getD y5.toNat I.dflt) 2).1) ((q9 k y6 y7 6 (y3.getD y5.toNat I.dflt) 2).2) y8
 else none
 else
 Zu k a b j y0 y1 y2 y3 y4 (qa .i64 (y5 + 1)) y6 y7 y8
 else none
 else none
 else
 ZK k a b j y0 y1 (qa .i64 (y2 + 1)) y6 y7 y8
end
def qjW (k : Nat) (a : T17.T) (b : List T18.T) : Option qdu :=
 if ((qeP k a.2.2.2.2.2.2.2.2.2.2.2.2.2.2.2.2.2.1).isSome) then
 bif (qat k a.2.2.2.2.2.2.2.2.2.2.2.2.2.2.2.2.2.1 != (0 : Int)) then
 if ((wU k a b 6 0 (qat k a.2.2.2.2.2.2.2.2.2.2.2.2.2.2.2.2.2.1)).isSome) then
 some ((q9 k a b 6 0 (qat k a.2.2.2.2.2.2.2.2.2.2.2.2.2.2.2.2.2.1)).1, (q9 k a b 6 0 (qat k a.2.2.2.2.2.2.2.2.2.2.2.2.2.2.2.2.2.1)).2)
 else none
 else
 Vf k a b k a.2.2.2.2.2.2.2.2.2.2.2.2.2.2.2.2.2.1 (↑ (qe a.2.2.2.2.2.2.2.2.2.2.2.2.2.2.2.2.2.1) : Int) 0 a b ([])
 else none
def qgj := fun k a b => (qjW k a b).getD ((T17).dflt, [])
def qOC (k : Nat) : Ke := (90, fun
 | [.ptr _ _ _] => some [true]
 | _ => none, fun
 | [.ptr 0 0 0], [.var 140 d, .row 54 tb_22_ qb_22] => (qW [] T17 (d.take 22)).bind fun a => (qE tb_22_ T18 qb_22).bind fun b => some (.one (qnH (qgj k a b), qsc a b (qgj k a b)))
 | _, _ => none)
def qIc (k : Nat) : Calld := qD [qaF k, qmj k, qMM k, qPD k, qMv k, qOl k, qLf k]
def qDm : List (Nat × List Cmd) := [(5, [.row 3 3 I, .autoB [0, 3, 31, 32, 33] false [1]]), (8, [.row 3 3 I, .autoB [0, 3, 31, 32, 33, 38, 39, 40] false [1]]), (22, [.autoB [0, 3, 89, 90, 91] false [1]]), (25, [.autoB [0, 3, 89, 90, 91, 96, 97, 98] false [1]])]
abbrev qra := fun a b => EP Tryz.f90 2 qnH (qsc a b)
theorem qA4 (k a b) : ∀ j, (∀ {y0 y1 y2 y3 y4 y5}, qra a b 5 (qGK a b y0 y1 y2 y3 y4 y5) (Vf k a b j y0 y1 y2 y3 y4 y5)) ∧ (∀ {y0 y1 y2 y3 y4 y5 y6 y7 y8}, qra a b 8 (qGc a b y0 y1 y2 y3 y4 y5 y6 y7 y8) (Qv k a b j y0 y1 y2 y3 y4 y5 y6 y7 y8)) ∧ (∀ {y0 y1 y2 y3 y4 y5}, qra a b 22 (qAq a b y0 y1 y2 y3 y4 y5) (ZK k a b j y0 y1 y2 y3 y4 y5)) ∧ (∀ {y0 y1 y2 y3 y4 y5 y6 y7 y8}, qra a b 25 (qDI a b y0 y1 y2 y3 y4 y5 y6 y7 y8) (Zu k a b j y0 y1 y2 y3 y4 y5 y6 y7 y8))
 | 0 => by and_intros <;> intros <;> exact e0
 | j + 1 => by
  have ih := @qA4 k a b j
  have g := @go (qIc k) [] qDm [.autoB [] true [1]]
  refine ⟨?_, ?_, ?_, ?_⟩
  ·intro y0 y1 y2 y3 y4 y5 r h
   rw [Vf] at h
   exact g (gS h (fun h => qS h fun h => gD h 8 ih.2.1) fun h => gD h 22 ih.2.2.1)
  ·intro y0 y1 y2 y3 y4 y5 y6 y7 y8 r h
   rw [Qv] at h
   exact g (gS h (fun h => qS h fun h => qu h id fun h => gN h (fun q => qf (⟨rfl, ⟨rfl, trivial⟩⟩ : qa0 (0, .var 140 ((qy (qr T17 y6)) ++ [.own 1 1])) ∧ qa0 (1, .row 54 T18 y7) ∧ True) (qf (qNx q) qR)) fun h => gS h (fun h => qu h wN fun h => gD h 8 ih.2.1) fun h => gN h (fun q => qf (⟨rfl, ⟨rfl, trivial⟩⟩ : qa0 (0, .var 140 ((qy (qr T17 y6)) ++ [.own 1 1])) ∧ qa0 (1, .row 54 T18 y7) ∧ True) (qf (qNk q.1) (qf (qKm q.2) qR))) fun h => gS h (fun h => qu h qKd fun h => gS h (fun h => qu h wN fun h => gD h 8 ih.2.1) fun h => gD h 8 ih.2.1) fun h => gS h (fun h => qu h wN fun h => gD h 8 ih.2.1) fun h => gD h 8 ih.2.1) fun h => gD h 5 ih.1)
  ·intro y0 y1 y2 y3 y4 y5 r h
   rw [ZK] at h
   exact g (gS h (fun h => qS h fun h => gD h 25 ih.2.2.2) fun h => gL h)
  ·intro y0 y1 y2 y3 y4 y5 y6 y7 y8 r h
   rw [Zu] at h
   exact g (gS h (fun h => qS h fun h => qu h qbJ fun h => gS h (fun h => qu h wN fun h => gD h 25 ih.2.2.2) fun h => gD h 25 ih.2.2.2) fun h => gD h 22 ih.2.2.1)
theorem qOo (k a b r) (h : qjW k a b = some r): qJn a b r := qN Tryz.f90 (go (qIc k) [] qDm [.autoB [] true [1]] (qu h qLN fun h => gS h (fun h => qu h wN fun h => gL h) fun h => gD h 5 (qA4 k a b k).1))
theorem qQH {k a b} (h : (qjW k a b).isSome): qJn a b (qgj k a b) := qJ h (qOo k a b)
abbrev Y3 : Type := T17.T × List T18.T
def qnT (r : Y3) : AV := .tup []
def qsO (a : T17.T) (b : List T18.T) (r : Y3) : List (Nat × Blk) := [(0, .var 140 ((qy (qr T17 r.1)) ++ [.own 1 1])), (1, .row 54 T18 r.2)]
abbrev qIY (a : T17.T) (b : List T18.T) (r : Y3) : Prop := CC Tryz.prog 48 [.ptr 0 0 0] [.var 140 (qy (qr T17 a) ++ [.own 1 0]), .row 54 T18 b] (qnT r) (qsO a b r)
def qGJ := fun (a : T17.T) (b : List T18.T) y0 y1 y2 y3 y4 y5 => (⟨qI 121 [(0, .ptr 0 0 0), (2, .own 1000000 0), (15, ro T9 y0), (16, ri y1), (17, ri y2)], [(0, 0, .var 140 ((qy (qr T17 y3)) ++ [.own 1 1])), (1, 1, .row 54 T18 y4), (1000000, 0, .row 3 I y5)]⟩ : St)
def qzI := fun (a : T17.T) (b : List T18.T) y0 y1 y2 y3 y4 y5 y6 y7 => (⟨qI 121 [(0, .ptr 0 0 0), (2, .own 1000000 0), (4, .ptr 1000001 0 0), (5, ri y0), (15, ro T9 y1), (16, ri y2), (17, ri y3)], [(0, 0, .var 140 ((qy (qr T17 y4)) ++ [.own 1 1])), (1, 1, .row 54 T18 y5), (1000000, 0, .row 3 I y6), (1000001, 0, .var 74 (qy (qr T9 y7)))]⟩ : St)
def qA2 := fun (a : T17.T) (b : List T18.T) y0 y1 y2 y3 y4 y5 y6 y7 => (⟨qI 121 [(0, .ptr 0 0 0), (2, .own 1000000 0), (4, .ptr 1000001 0 0), (5, ri y0), (15, ro T9 y1), (16, ri y2), (17, ri y3)], [(0, 0, .var 140 ((qy (qr T17 y4)) ++ [.own 1 1])), (1, 1, .row 54 T18 y5), (1000000, 0, .row 3 I y6), (1000001, 0, .var 74 (qy (qr T9 y7)))]⟩ : St)
def qAo := fun (a : T17.T) (b : List T18.T) y0 y1 y2 y3 y4 y5 y6 y7 y8 y9 y10 => (⟨qI 121 [(0, .ptr 0 0 0), (2, .own 1000000 0), (4, .ptr 1000001 0 0), (5, ri y0), (15, ro T9 y1), (16, ri y2), (17, ri y3), (66, ro I y4), (67, ri y5), (68, ri y6)], [(0, 0, .var 140 ((qy (qr T17 y7)) ++ [.own 1 1])), (1, 1, .row 54 T18 y8), (1000000, 0, .row 3 I y9), (1000001, 0, .var 74 (qy (qr T9 y10)))]⟩ : St)
def qDC := fun (a : T17.T) (b : List T18.T) y0 y1 y2 y3 y4 y5 y6 y7 y8 y9 y10 => (⟨qI 121 [(0, .ptr 0 0 0), (2, .own 1000000 0), (4, .ptr 1000001 0 0), (5, ri y0), (15, ro T9 y1), (16, ri y2), (17, ri y3), (89, ro I y4), (90, ri y5), (91, ri y6)], [(0, 0, .var 140 ((qy (qr T17 y7)) ++ [.own 1 1])), (1, 1, .row 54 T18 y8), (1000000, 0, .row 3 I y9), (1000001, 0, .var 74 (qy (qr T9 y10)))]⟩ : St)
def qC0 := fun (a : T17.T) (b : List T18.T) y0 y1 y2 y3 y4 y5 y6 y7 y8 y9 y10 y11 y12 => (⟨qI 121 [(0, .ptr 0 0 0), (2, .own 1000000 0), (4, .ptr 1000001 0 0), (5, ri y0), (9, ri y1), (10, ri y2), (15, ro T9 y3), (16, ri y4), (17, ri y5), (89, ro I y6), (90, ri y7), (91, ri y8)], [(0, 0, .var 140 ((qy (qr T17 y9)) ++ [.own 1 1])), (1, 1, .row 54 T18 y10), (1000000, 0, .row 3 I y11), (1000001, 0, .var 74 (qy (qr T9 y12)))]⟩ : St)
mutual
def W4 (k : Nat) (a : T17.T) (b : List T18.T) : Nat → List T9.T → Int → Int → T17.T → List T18.T → List I.T → Option Y3
 | 0, _, _, _, _, _, _ => none
 | j + 1, y0, y1, y2, y3, y4, y5 =>
 bif y2 < y1 then
 if (0 ≤ y2) ∧ (y2 < y0.length) then
 if ((VH k (y0.getD y2.toNat T9.dflt).1).isSome) then
 bif (YS k (y0.getD y2.toNat T9.dflt).1 != (0 : Int)) then
 if ((wU k y3 y4 5 (y0.getD y2.toNat T9.dflt).1.1 (YS k (y0.getD y2.toNat T9.dflt).1)).isSome) then
 ZH k a b j ((y0.getD y2.toNat T9.dflt).1.1) y0 y1 y2 ((q9 k y3 y4 5 (y0.getD y2.toNat T9.dflt).1.1 (YS k (y0.getD y2.toNat T9.dflt).1)).1) ((q9 k y3 y4 5 (y0.getD y2.toNat T9.dflt).1.1 (YS k (y0.getD y2.toNat T9.dflt).1)).2) y5 (y0.getD y2.toNat T9.dflt)
 else none
 else
 bif (↑ (qe (y0.getD y2.toNat T9.dflt).2.1) : Int) > qa .i64 ((y0.getD y2.toNat T9.dflt).1.2.2.2.2.2.2.1 + (y0.getD y2.toNat T9.dflt).1.2.2.2.2.2.2.2.1) then
 if ((wU k y3 y4 5 (y0.getD y2.toNat T9.dflt).1.1 32).isSome) then
 Yw k a b j ((y0.getD y2.toNat T9.dflt).1.1) y0 y1 y2 ((q9 k y3 y4 5 (y0.getD y2.toNat T9.dflt).1.1 32).1) ((q9 k y3 y4 5 (y0.getD y2.toNat T9.dflt).1.1 32).2) y5 (y0.getD y2.toNat T9.dflt)
 else none
 else
 Yw k a b j ((y0.getD y2.toNat T9.dflt).1.1) y0 y1 y2 y3 y4 y5 (y0.getD y2.toNat T9.dflt)
 else none
 else none
 else
 if ((qjW k y3 y4).isSome) then
 some ((qgj k y3 y4).1, (qgj k y3 y4).2)
 else none
def Yw (k : Nat) (a : T17.T) (b : List T18.T) : Nat → Int → List T9.T → Int → Int → T17.T → List T18.T → List I.T → T9.T → Option Y3
 | 0, _, _, _, _, _, _, _, _ => none
 | j + 1, y0, y1, y2, y3, y4, y5, y6, y7 =>
 bif (y7.2.2.2 && decide ((↑ (qe y7.2.2.1) : Int) < qa .i64 (y7.1.2.2.2.2.2.2.1 - y7.1.2.2.2.2.2.2.2.2.1))) then
 if ((wU k y4 y5 5 y0 29).isSome) then
 ZH k a b j y0 y1 y2 y3 ((q9 k y4 y5 5 y0 29).1) ((q9 k y4 y5 5 y0 29).2) y6 y7
 else none
 else
 ZH k a b j y0 y1 y2 y3 y4 y5 y6 y7
def ZH (k : Nat) (a : T17.T) (b : List T18.T) : Nat → Int → List T9.T → Int → Int → T17.T → List T18.T → List I.T → T9.T → Option Y3
 | 0, _, _, _, _, _, _, _, _ => none
 | j + 1, y0, y1, y2, y3, y4, y5, y6, y7 =>
 WC k a b j y0 y1 y2 y3 y7.2.1 (↑ (qe y7.2.1) : Int) 0 y4 y5 y6 y7
def WC (k : Nat) (a : T17.T) (b : List T18.T) : Nat → Int → List T9.T → Int → Int → List I.T → Int → Int → T17.T → List T18.T → List I.T → T9.T → Option Y3
 | 0, _, _, _, _, _, _, _, _, _, _, _ => none
 | j + 1, y0, y1, y2, y3, y4, y5, y6, y7, y8, y9, y10 =>
 bif y6 < y5 then
 if (0 ≤ y6) ∧ (y6 < y4.length) then
 bif (VE k y9 (y4.getD y6.toNat I.dflt)) then
 if ((VL k y9 (y4.getD y6.toNat I.dflt)).isSome) ∧ (VE k y9 (y4.getD y6.toNat I.dflt) = true) then
 if ((wU k y7 y8 5 y0 6).isSome) then
 WC k a b j y0 y1 y2 y3 y4 y5 (qa .i64 (y6 + 1)) ((q9 k y7 y8 5 y0 6).1) ((q9 k y7 y8 5 y0 6).2) y9 y10
 else none
 else none
 else
 if ((VL k y9 (y4.getD y6.toNat I.dflt)).isSome) ∧ (VE k y9 (y4.getD y6.toNat I.dflt) = false) ∧ ((0 : Int) ≤ (0 : Int)) ∧ (0 ≤ y6) ∧ (y6 ≤ (↑ (qe y10.2.1) : Int)) ∧ ((VL k (qdv (y6.toNat - qt 0) (qaJ (qt 0) y10.2.1)) (y4.getD y6.toNat I.dflt)).isSome) then
 bif (false || VE k (qdv (y6.toNat - qt (0 : Int)) (qaJ (qt (0 : Int)) y10.2.1)) (y4.getD y6.toNat I.dflt)) then
 if ((wU k y7 y8 5 y0 6).isSome) then
 WC k a b j y0 y1 y2 y3 y4 y5 (qa .i64 (y6 + 1)) ((q9 k y7 y8 5 y0 6).1) ((q9 k y7 y8 5 y0 6).2) y9 y10
 else none
 else
 WC k a b j y0 y1 y2 y3 y4 y5 (qa .i64 (y6 + 1)) y7 y8 y9 y10
 else none
 else none
 else
 WM k a b j y0 y1 y2 y3 y10.2.2.1 (↑ (qe y10.2.2.1) : Int) 0 y7 y8 y9 y10
def WM (k : Nat) (a : T17.T) (b : List T18.T) : Nat → Int → List T9.T → Int → Int → List I.T → Int → Int → T17.T → List T18.T → List I.T → T9.T → Option Y3
 | 0, _, _, _, _, _, _, _, _, _, _, _ => none
 | j + 1, y0, y1, y2, y3, y4, y5, y6, y7, y8, y9, y10 =>
 bif y6 < y5 then
 if (0 ≤ y6) ∧ (y6 < y4.length) then
 if ((VL k y10.2.1 (y4.getD y6.toNat I.dflt)).isSome) then
 bif (!VE k y10.2.1 (y4.getD y6.toNat I.dflt)) then
 if ((wU k y7 y8 5 y0 7).isSome) then
 Yh k a b j y0 y6 (y4.getD y6.toNat I.dflt) y1 y2 y3 y4 y5 y6 ((q9 k y7 y8 5 y0 7).1) ((q9 k y7 y8 5 y0 7).2) y9 y10
 else none
 else
 Yh k a b j y0 y6 (y4.getD y6.toNat I.dflt) y1 y2 y3 y4 y5 y6 y7 y8 y9 y10
 else none
 else none
 else
 if ((y9.length + qe y10.2.1) * (8 : Nat) ≤ (140737488355328 : Nat)) then
 W4 k a b j y1 y2 (qa .i64 (y3 + 1)) y7 y8 (y9 ++ y10.2.1)
 else none
def Yh (k : Nat) (a : T17.T) (b : List T18.T) : Nat → Int → Int → Int → List T9.T → Int → Int → List I.T → Int → Int → T17.T → List T18.T → List I.T → T9.T → Option Y3
 | 0, _, _, _, _, _, _, _, _, _, _, _, _, _ => none
 | j + 1, y0, y1, y2, y3, y4, y5, y6, y7, y8, y9, y10, y11, y12 =>
 if ((0 : Int) ≤ (0 : Int)) ∧ (0 ≤ y1) ∧ (y1 ≤ (↑ (qe y12.2.2.1) : Int)) ∧ ((VL k (qdv (y1.toNat - qt 0) (qaJ (qt 0) y12.2.2.1)) y2).isSome) then
 bif (VE k (qdv (y1.toNat - qt (0 : Int)) (qaJ (qt (0 : Int)) y12.2.2.1)) y2) then
 if ((wU k y9 y10 5 y0 6).isSome) then
 WM k a b j y0 y3 y4 y5 y6 y7 (qa .i64 (y8 + 1)) ((q9 k y9 y10 5 y0 6).1) ((q9 k y9 y10 5 y0 6).2) y11 y12
 else none
 else
 WM k a b j y0 y3 y4 y5 y6 y7 (qa .i64 (y8 + 1)) y9 y10 y11 y12
 else none
end
def qfW (k : Nat) (a : T17.T) (b : List T18.T) : Option Y3 :=
 W4 k a b k a.2.2.2.2.2.2.2.2.2.2.2.2.2.2.2.1 (↑ (qe a.2.2.2.2.2.2.2.2.2.2.2.2.2.2.2.1) : Int) 0 a b ([])
def qbc := fun k a b => (qfW k a b).getD ((T17).dflt, [])
def qmI (k : Nat) : Ke := (48, fun
 | [.ptr _ _ _] => some [true]
 | _ => none, fun
 | [.ptr 0 0 0], [.var 140 d, .row 54 tb_22_ qb_22] => (qW [] T17 (d.take 22)).bind fun a => (qE tb_22_ T18 qb_22).bind fun b => some (.one (qnT (qbc k a b), qsO a b (qbc k a b)))
 | _, _ => none)
def qHW (k : Nat) : Calld := qD [qaF k, qB0 k, qmj k, qOC k]
def qD8 : List (Nat × List Cmd) := [(2, [.row 2 3 I, .autoB [0, 2, 15, 16, 17] false [1]]), (10, [.autoB [0, 2, 4, 5, 15, 16, 17] false [1]]), (12, [.autoB [0, 2, 4, 5, 15, 16, 17] false [1]]), (13, [.autoB [0, 2, 4, 5, 15, 16, 17, 66, 67, 68] false [1]]), (19, [.autoB [0, 2, 4, 5, 15, 16, 17, 89, 90, 91] false [1]]), (23, [.autoB [0, 2, 4, 5, 9, 10, 15, 16, 17, 89, 90, 91] false [1]])]
abbrev qi2 := fun a b => EE Tryz.f48 2 qnT (qsO a b)
theorem qDg (k a b) : ∀ j, (∀ {y0 y1 y2 y3 y4 y5}, qi2 a b (Qc Tryz.f48 2) (qGJ a b y0 y1 y2 y3 y4 y5) (W4 k a b j y0 y1 y2 y3 y4 y5)) ∧ (∀ {y0 y1 y2 y3 y4 y5 y6 y7}, qi2 a b (Qc Tryz.f48 10) (qzI a b y0 y1 y2 y3 y4 y5 y6 y7) (Yw k a b j y0 y1 y2 y3 y4 y5 y6 y7)) ∧ (∀ {y0 y1 y2 y3 y4 y5 y6 y7}, qi2 a b (Qc Tryz.f48 12) (qA2 a b y0 y1 y2 y3 y4 y5 y6 y7) (ZH k a b j y0 y1 y2 y3 y4 y5 y6 y7)) ∧ (∀ {y0 y1 y2 y3 y4 y5 y6 y7 y8 y9 y10}, qi2 a b (Qc Tryz.f48 13) (qAo a b y0 y1 y2 y3 y4 y5 y6 y7 y8 y9 y10) (WC k a b j y0 y1 y2 y3 y4 y5 y6 y7 y8 y9 y10)) ∧ (∀ {y0 y1 y2 y3 y4 y5 y6 y7 y8 y9 y10}, qi2 a b (Qc Tryz.f48 19) (qDC a b y0 y1 y2 y3 y4 y5 y6 y7 y8 y9 y10) (WM k a b j y0 y1 y2 y3 y4 y5 y6 y7 y8 y9 y10)) ∧ (∀ {y0 y1 y2 y3 y4 y5 y6 y7 y8 y9 y10 y11 y12}, qi2 a b (Qc Tryz.f48 23) (qC0 a b y0 y1 y2 y3 y4 y5 y6 y7 y8 y9 y10 y11 y12) (Yh k a b j y0 y1 y2 y3 y4 y5 y6 y7 y8 y9 y10 y11 y12))
 | 0 => by and_intros <;> intros <;> exact e0
 | j + 1 => by
  have ih := @qDg k a b j
  have g := @go (qHW k) [10, 12, 23] qD8 [.autoB [] true [1]]
  refine ⟨?_, ?_, ?_, ?_, ?_, ?_⟩
  ·intro y0 y1 y2 y3 y4 y5 r h
   rw [W4] at h
   exact g (gS h (fun h => qS h fun h => qu h qFb fun h => gS h (fun h => qu h wN fun h => gD h 12 ih.2.2.1) fun h => gS h (fun h => qu h wN fun h => gD h 10 ih.2.1) fun h => gD h 10 ih.2.1) fun h => qu h qQH fun h => gL h)
  ·intro y0 y1 y2 y3 y4 y5 y6 y7 r h
   rw [Yw] at h
   exact g (gS h (fun h => qu h wN fun h => gD h 12 ih.2.2.1) fun h => gD h 12 ih.2.2.1)
  ·intro y0 y1 y2 y3 y4 y5 y6 y7 r h
   rw [ZH] at h
   exact g (gD h 13 ih.2.2.2.1)
  ·intro y0 y1 y2 y3 y4 y5 y6 y7 y8 y9 y10 r h
   rw [WC] at h
   exact g (gS h (fun h => qS h fun h => gS h (fun h => gN h (fun q => qf (qbJ q.1) (qf q.2 qR)) fun h => gU1 h (.cut 13 (Qc Tryz.f48 13) ⟨qI 121 [(0, .ptr 0 0 0), (2, .own 1000000 0), (4, .ptr 1000001 0 0), (5, .r (.v (.int .i64 y0))), (15, .r (.ro T9 y1)), (16, .r (.v (.int .i64 y2))), (17, .r (.v (.int .i64 y3))), (66, .r (.ro I y4)), (67, .r (.v (.int .i64 y5))), (68, .r (.v (.int .i64 (qa .i64 (y6 + 1)))))], [(0, 0, .var 140 ((qy (qr T17 y7)) ++ [.own 1 1])), (1, 1, .row 54 T18 y8), (1000000, 0, .row 3 I y9), (1000001, 0, .var 74 (qy (qr T9 y10)))]⟩) fun h => qu h wN fun h => gD h 13 ih.2.2.2.1) fun h => gN h (fun q => qf (qbJ q.1) (qf q.2.1 (qf q.2.2.1 (qf q.2.2.2.1 (qf q.2.2.2.2.1 (qf (qbJ q.2.2.2.2.2) qR)))))) fun h => gS h (fun h => qu h wN fun h => gD h 13 ih.2.2.2.1) fun h => gD h 13 ih.2.2.2.1) fun h => gD h 19 ih.2.2.2.2.1)
  ·intro y0 y1 y2 y3 y4 y5 y6 y7 y8 y9 y10 r h
   rw [WM] at h
   exact g (gS h (fun h => qS h fun h => qu h qbJ fun h => gS h (fun h => qu h wN fun h => gD h 23 ih.2.2.2.2.2) fun h => gD h 23 ih.2.2.2.2.2) fun h => qu h id fun h => gD h 2 ih.1)
  ·intro y0 y1 y2 y3 y4 y5 y6 y7 y8 y9 y10 y11 y12 r h
   rw [Yh] at h
   exact g (gN h (fun q => qf q.1 (qf q.2.1 (qf q.2.2.1 (qf (qbJ q.2.2.2) qR)))) fun h => gS h (fun h => qu h wN fun h => gD h 19 ih.2.2.2.2.1) fun h => gD h 19 ih.2.2.2.2.1)
theorem qPe (k a b r) (h : qfW k a b = some r): qIY a b r := qN Tryz.f48 (go (qHW k) [10, 12, 23] qD8 [.autoB [] true [1]] (gD h 2 (qDg k a b k).1))
theorem qzL {k a b} (h : (qfW k a b).isSome): qIY a b (qbc k a b) := qJ h (qPe k a b)
abbrev ql6 : Type := T17.T × List T18.T
def qoC (r : ql6) : AV := .tup []
def qsA (a : T17.T) (b : List T18.T) (r : ql6) : List (Nat × Blk) := [(0, .var 140 ((qy (qr T17 r.1)) ++ [.own 1 1])), (1, .row 54 T18 r.2)]
abbrev qI5 (a : T17.T) (b : List T18.T) (r : ql6) : Prop := CC Tryz.prog 57 [.ptr 0 0 0] [.var 140 (qy (qr T17 a) ++ [.own 1 0]), .row 54 T18 b] (qoC r) (qsA a b r)
def qGT := fun (a : T17.T) (b : List T18.T) y0 y1 y2 y3 y4 => (⟨qI 74 [(0, .ptr 0 0 0), (37, ro T12 y0), (38, ri y1), (39, ri y2)], [(0, 0, .var 140 ((qy (qr T17 y3)) ++ [.own 1 1])), (1, 1, .row 54 T18 y4)]⟩ : St)
def qpj (k : Nat) (a : T17.T) (b : List T18.T) : Nat → List T12.T → Int → Int → T17.T → List T18.T → Option ql6
 | 0, _, _, _, _, _ => none
 | j + 1, y0, y1, y2, y3, y4 =>
 bif y2 < y1 then
 if (0 ≤ y2) ∧ (y2 < y0.length) then
 none
 else none
 else
 some (y3, y4)
def qrw (k : Nat) (a : T17.T) (b : List T18.T) : Option ql6 :=
 bif ((↑ (qe a.2.2.2.2.2.2.2.2.2.2.2.2.2.2.2.2.2.2.1) : Int) != (↑ (qe a.2.2.2.2.2.2.2.2.2.2.2.2.2.2.2.2.2.2.2.1) : Int)) then
 if ((wU k a b 8 (↑ (qe a.2.2.2.2.2.2.2.2.2.2.2.2.2.2.2.2.2.2.1) : Int) (↑ (qe a.2.2.2.2.2.2.2.2.2.2.2.2.2.2.2.2.2.2.2.1) : Int)).isSome) then
 some ((q9 k a b 8 (↑ (qe a.2.2.2.2.2.2.2.2.2.2.2.2.2.2.2.2.2.2.1) : Int) (↑ (qe a.2.2.2.2.2.2.2.2.2.2.2.2.2.2.2.2.2.2.2.1) : Int)).1, (q9 k a b 8 (↑ (qe a.2.2.2.2.2.2.2.2.2.2.2.2.2.2.2.2.2.2.1) : Int) (↑ (qe a.2.2.2.2.2.2.2.2.2.2.2.2.2.2.2.2.2.2.2.1) : Int)).2)
 else none
 else
 qpj k a b k a.2.2.2.2.2.2.2.2.2.2.2.2.2.2.2.2.2.2.1 (↑ (qe a.2.2.2.2.2.2.2.2.2.2.2.2.2.2.2.2.2.2.1) : Int) 0 a b
def qlU := fun k a b => (qrw k a b).getD ((T17).dflt, [])
def qAI (k : Nat) : Ke := (57, fun
 | [.ptr _ _ _] => some [true]
 | _ => none, fun
 | [.ptr 0 0 0], [.var 140 d, .row 54 tb_22_ qb_22] => (qW [] T17 (d.take 22)).bind fun a => (qE tb_22_ T18 qb_22).bind fun b => some (.one (qoC (qlU k a b), qsA a b (qlU k a b)))
 | _, _ => none)
def qAH : List (Nat × List Cmd) := [(3, [.autoB [0, 37, 38, 39] false [1]])]
abbrev qRZ := fun a b => EP Tryz.f57 2 qoC (qsA a b)
theorem qAF (k a b) : ∀ j, (∀ y0 y1 y2 y3 y4, qRZ a b 3 (qGT a b y0 y1 y2 y3 y4) (qpj k a b j y0 y1 y2 y3 y4))
 | 0 => by intros; exact e0
 | j + 1 => by
  have ih := @qAF k a b j
  ·intro y0 y1 y2 y3 y4 r h
   rw [qpj] at h
   exact go (qD [qaF k]) [] qAH [.autoB [] true [1]] (gS h (fun h => qS h fun h => gZ h (.stuck 2002)) fun h => gL h)
theorem qOH (k a b r) (h : qrw k a b = some r): qI5 a b r := qN Tryz.f57 (go (qD [qaF k]) [] qAH [.autoB [] true [1]] (gS h (fun h => qu h wN fun h => gL h) fun h => gC h 3 ((qAF k a b k) _ _ _ _ _ _)))
theorem qQC {k a b} (h : (qrw k a b).isSome): qI5 a b (qlU k a b) := qJ h (qOH k a b)
abbrev qHj (a : List T14.T) (b : Int) (r : Int) : Prop := CC Tryz.prog 105 [ro T14 a, ri b] [] (ri r) (nb r)
def qFp := fun y0 y1 y2 y3 => (⟨qI 72 [(0, ro T14 y0), (1, ri y1), (20, ri y2), (21, ri y3)], []⟩ : St)
def qAk := fun y0 y1 y2 y3 y4 => (⟨qI 72 [(0, ro T14 y0), (1, ri y1), (7, ri y2), (34, ri y3), (35, ri y4)], []⟩ : St)
mutual
def qn3 (k : Nat) : Nat → List T14.T → Int → Int → Int → Option Int
 | 0, _, _, _, _ => none
 | j + 1, y0, y1, y2, y3 =>
 bif y3 < y2 then
 none
 else
 qlg k j y0 y1 0 (↑y0.length : Int) 0
def qlg (k : Nat) : Nat → List T14.T → Int → Int → Int → Int → Option Int
 | 0, _, _, _, _, _ => none
 | j + 1, y0, y1, y2, y3, y4 =>
 bif y4 < y3 then
 if (0 ≤ y4) ∧ (y4 < y0.length) then
 if (decide (y4 > 0) = true → (0 : Int) ≤ qa .i64 (y4 - 1)) ∧ (decide (y4 > 0) = true → qa .i64 (y4 - 1) < (↑y0.length : Int)) then
 bif (decide (y4 > 0) && decide ((y0.getD y4.toNat T14.dflt).1 < (y0.getD (qa .i64 (y4 - 1)).toNat T14.dflt).1)) then
 some 9
 else
 bif ((y0.getD y4.toNat T14.dflt).2.1 == (6 : Int) && decide ((y0.getD y4.toNat T14.dflt).2.2.1 > y2)) then
 some 19
 else
 none
 else none
 else none
 else
 some 0
end
def qqU (k : Nat) (a : List T14.T) (b : Int) : Option Int :=
 bif (decide (b < 0) || decide (b > 1099511627776)) then
 some 1
 else
 bif (↑a.length : Int) > (512 : Int) then
 some 8
 else
 qn3 k k a b (↑a.length : Int) 0
def qcB := fun k a b => (qqU k a b).getD 0
def qE5 (k : Nat) : Ke := (105, mo 2, fun
 | [.r (.ro e d), .r (.v (.int .i64 b))], [] => (qE e T14 d).bind fun a => some (.one (ri (qcB k a b), []))
 | _, _ => none)
def qDK : List (Nat × List Cmd) := [(6, [.autoB [0, 1, 20, 21] false []]), (14, [.autoB [0, 1, 7, 34, 35] false []])]
abbrev qIq := EP Tryz.f105 0 ri nb
theorem qEh (k) : ∀ j, (∀ {y0 y1 y2 y3}, qIq 6 (qFp y0 y1 y2 y3) (qn3 k j y0 y1 y2 y3)) ∧ (∀ {y0 y1 y2 y3 y4}, qIq 14 (qAk y0 y1 y2 y3 y4) (qlg k j y0 y1 y2 y3 y4))
 | 0 => by and_intros <;> intros <;> exact e0
 | j + 1 => by
  have ih := @qEh k j
  have g := @go (qD []) [] qDK [.autoB [4] true []]
  refine ⟨?_, ?_⟩
  ·intro y0 y1 y2 y3 r h
   rw [qn3] at h
   exact g (gS h (fun h => gZ h (.stuck 2004)) fun h => gD h 14 ih.2)
  ·intro y0 y1 y2 y3 y4 r h
   rw [qlg] at h
   exact g (gS h (fun h => qS h fun h => qS h fun h => qB h fun h => qB h fun h => gZ h (.stuck 2002)) fun h => gL h)
theorem qQL (k a b r) (h : qqU k a b = some r): qHj a b r := qN Tryz.f105 (go (qD []) [] qDK [.autoB [4] true []] (qB h fun h => qB h fun h => gD h 6 (qEh k k).1))
theorem qQd {k a b} (h : (qqU k a b).isSome): qHj a b (qcB k a b) := qJ h (qQL k a b)
abbrev qdd : Type := T17.T × List T18.T
def qpf (r : qdd) : AV := .tup []
def quq (a : T17.T) (b : List T18.T) (r : qdd) : List (Nat × Blk) := [(0, .var 140 ((qy (qr T17 r.1)) ++ [.own 1 1])), (1, .row 54 T18 r.2)]
abbrev qJf (a : T17.T) (b : List T18.T) (r : qdd) : Prop := CC Tryz.prog 60 [.ptr 0 0 0] [.var 140 (qy (qr T17 a) ++ [.own 1 0]), .row 54 T18 b] (qpf r) (quq a b r)
def qGf := fun (a : T17.T) (b : List T18.T) y0 y1 y2 y3 y4 y5 y6 => (⟨qI 120 [(0, .ptr 0 0 0), (3, ri y0), (4, .own 1000000 0), (32, ro T16 y1), (33, ri y2), (34, ri y3)], [(0, 0, .var 140 ((qy (qr T17 y4)) ++ [.own 1 1])), (1, 1, .row 54 T18 y5), (1000000, 0, .map false I RTy.bool y6)]⟩ : St)
def qBP := fun (a : T17.T) (b : List T18.T) y0 y1 y2 y3 y4 y5 => (⟨qI 120 [(0, .ptr 0 0 0), (3, ri y0), (78, ro T11 y1), (79, ri y2), (80, ri y3)], [(0, 0, .var 140 ((qy (qr T17 y4)) ++ [.own 1 1])), (1, 1, .row 54 T18 y5)]⟩ : St)
def qBr := fun (a : T17.T) (b : List T18.T) y0 y1 y2 y3 y4 y5 y6 y7 y8 => (⟨qI 120 [(0, .ptr 0 0 0), (3, ri y0), (78, ro T11 y1), (79, ri y2), (80, ri y3), (85, ro I y4), (86, ri y5), (87, ri y6)], [(0, 0, .var 140 ((qy (qr T17 y7)) ++ [.own 1 1])), (1, 1, .row 54 T18 y8)]⟩ : St)
def qEg := fun (a : T17.T) (b : List T18.T) y0 y1 y2 y3 y4 y5 => (⟨qI 120 [(0, .ptr 0 0 0), (3, ri y0), (102, ro T13 y1), (103, ri y2), (104, ri y3)], [(0, 0, .var 140 ((qy (qr T17 y4)) ++ [.own 1 1])), (1, 1, .row 54 T18 y5)]⟩ : St)
mutual
def qj6 (k : Nat) (a : T17.T) (b : List T18.T) : Nat → Int → List T16.T → Int → Int → T17.T → List T18.T → (List (I.T × (RTy.bool).T)) → Option qdd
 | 0, _, _, _, _, _, _, _ => none
 | j + 1, y0, y1, y2, y3, y4, y5, y6 =>
 bif y3 < y2 then
 if (0 ≤ y3) ∧ (y3 < y1.length) then
 none
 else none
 else
 qgg k a b j y0 y4.2.2.2.2.2.2.2.2.2.2.2.2.2.2.2.2.2.1 (↑ (qe y4.2.2.2.2.2.2.2.2.2.2.2.2.2.2.2.2.2.1) : Int) 0 y4 y5
def qgg (k : Nat) (a : T17.T) (b : List T18.T) : Nat → Int → List T11.T → Int → Int → T17.T → List T18.T → Option qdd
 | 0, _, _, _, _, _, _ => none
 | j + 1, y0, y1, y2, y3, y4, y5 =>
 bif y3 < y2 then
 if (0 ≤ y3) ∧ (y3 < y1.length) then
 qk3 k a b j y0 y1 y2 y3 ((y1.getD y3.toNat T11.dflt).2.2) (↑ (qe (y1.getD y3.toNat T11.dflt).2.2) : Int) 0 y4 y5
 else none
 else
 qfR k a b j y0 y4.2.2.2.2.2.2.2.2.2.2.2.2.2.2.2.2.2.2.2.1 (↑ (qe y4.2.2.2.2.2.2.2.2.2.2.2.2.2.2.2.2.2.2.2.1) : Int) 0 y4 y5
def qk3 (k : Nat) (a : T17.T) (b : List T18.T) : Nat → Int → List T11.T → Int → Int → List I.T → Int → Int → T17.T → List T18.T → Option qdd
 | 0, _, _, _, _, _, _, _, _, _ => none
 | j + 1, y0, y1, y2, y3, y4, y5, y6, y7, y8 =>
 bif y6 < y5 then
 if (0 ≤ y6) ∧ (y6 < y4.length) then
 none
 else none
 else
 qgg k a b j y0 y1 y2 (qa .i64 (y3 + 1)) y7 y8
def qfR (k : Nat) (a : T17.T) (b : List T18.T) : Nat → Int → List T13.T → Int → Int → T17.T → List T18.T → Option qdd
 | 0, _, _, _, _, _, _ => none
 | j + 1, y0, y1, y2, y3, y4, y5 =>
 bif y3 < y2 then
 if (0 ≤ y3) ∧ (y3 < y1.length) then
 qfR k a b j (qa .i64 (y0 + if (if 1000000000000 < (y1.getD y3.toNat T13.dflt).2.2.2 then 1000000000000 else (y1.getD y3.toNat T13.dflt).2.2.2) > 0 then if 1000000000000 < (y1.getD y3.toNat T13.dflt).2.2.2 then 1000000000000 else (y1.getD y3.toNat T13.dflt).2.2.2 else 0)) y1 y2 (qa .i64 (y3 + 1)) y4 y5
 else none
 else
 bif (y0 != 0) then
 if ((wU k y4 y5 11 0 y0).isSome) then
 some ((q9 k y4 y5 11 0 y0).1, (q9 k y4 y5 11 0 y0).2)
 else none
 else
 some (y4, y5)
end
def qq1 (k : Nat) (a : T17.T) (b : List T18.T) : Option qdd :=
 if ((qqU k a.2.2.2.2.2.2.2.2.2.2.2.2.2.2.2.2.2.2.2.2.1 1099511627776).isSome) then
 bif (qcB k a.2.2.2.2.2.2.2.2.2.2.2.2.2.2.2.2.2.2.2.2.1 (1099511627776 : Int) != (0 : Int)) then
 if ((wU k a b 10 (qcB k a.2.2.2.2.2.2.2.2.2.2.2.2.2.2.2.2.2.2.2.2.1 1099511627776) 0).isSome) then
 qj6 k a b k 0 ((q9 k a b 10 (qcB k a.2.2.2.2.2.2.2.2.2.2.2.2.2.2.2.2.2.2.2.2.1 1099511627776) 0).1.2.2.2.2.2.2.2.2.2.2.2.2.2.2.2.2.2.2.2.2.2) (↑ (qe (q9 k a b 10 (qcB k a.2.2.2.2.2.2.2.2.2.2.2.2.2.2.2.2.2.2.2.2.1 1099511627776) 0).1.2.2.2.2.2.2.2.2.2.2.2.2.2.2.2.2.2.2.2.2.2) : Int) 0 ((q9 k a b 10 (qcB k a.2.2.2.2.2.2.2.2.2.2.2.2.2.2.2.2.2.2.2.2.1 1099511627776) 0).1) ((q9 k a b 10 (qcB k a.2.2.2.2.2.2.2.2.2.2.2.2.2.2.2.2.2.2.2.2.1 1099511627776) 0).2) ([])
 else none
 else
 qj6 k a b k 0 a.2.2.2.2.2.2.2.2.2.2.2.2.2.2.2.2.2.2.2.2.2 (↑ (qe a.2.2.2.2.2.2.2.2.2.2.2.2.2.2.2.2.2.2.2.2.2) : Int) 0 a b ([])
 else none
def qmv := fun k a b => (qq1 k a b).getD ((T17).dflt, [])
def qzx (k : Nat) : Ke := (60, fun
 | [.ptr _ _ _] => some [true]
 | _ => none, fun
 | [.ptr 0 0 0], [.var 140 d, .row 54 tb_22_ qb_22] => (qW [] T17 (d.take 22)).bind fun a => (qE tb_22_ T18 qb_22).bind fun b => some (.one (qpf (qmv k a b), quq a b (qmv k a b)))
 | _, _ => none)
def qAb : List (Nat × List Cmd) := [(6, [.autoB [0, 3, 4, 32, 33, 34] false [1]]), (14, [.autoB [0, 3, 4, 6, 32, 33, 34, 56, 57, 58] false [1]]), (22, [.autoB [0, 3, 78, 79, 80] false [1]]), (25, [.autoB [0, 3, 78, 79, 80, 85, 86, 87] false [1]]), (31, [.autoB [0, 3, 102, 103, 104] false [1]])]
abbrev qrk := fun a b => EP Tryz.f60 2 qpf (quq a b)
theorem quf (k a b) : ∀ j, (∀ {y0 y1 y2 y3 y4 y5 y6}, qrk a b 6 (qGf a b y0 y1 y2 y3 y4 y5 y6) (qj6 k a b j y0 y1 y2 y3 y4 y5 y6)) ∧ (∀ {y0 y1 y2 y3 y4 y5}, qrk a b 22 (qBP a b y0 y1 y2 y3 y4 y5) (qgg k a b j y0 y1 y2 y3 y4 y5)) ∧ (∀ {y0 y1 y2 y3 y4 y5 y6 y7 y8}, qrk a b 25 (qBr a b y0 y1 y2 y3 y4 y5 y6 y7 y8) (qk3 k a b j y0 y1 y2 y3 y4 y5 y6 y7 y8)) ∧ (∀ {y0 y1 y2 y3 y4 y5}, qrk a b 31 (qEg a b y0 y1 y2 y3 y4 y5) (qfR k a b j y0 y1 y2 y3 y4 y5))
 | 0 => by and_intros <;> intros <;> exact e0
 | j + 1 => by
  have ih := @quf k a b j
  have g := @go (qD [qaF k, qE5 k]) [] qAb [.autoB [] true [1]]
  refine ⟨?_, ?_, ?_, ?_⟩
  ·intro y0 y1 y2 y3 y4 y5 y6 r h
   rw [qj6] at h
   exact g (gS h (fun h => qS h fun h => gZ h (.stuck 2001)) fun h => gD h 22 ih.2.1)
  ·intro y0 y1 y2 y3 y4 y5 r h
   rw [qgg] at h
   exact g (gS h (fun h => qS h fun h => gD h 25 ih.2.2.1) fun h => gD h 31 ih.2.2.2)
  ·intro y0 y1 y2 y3 y4 y5 y6 y7 y8 r h
   rw [qk3] at h
   exact g (gS h (fun h => qS h fun h => gZ h (.stuck 2003)) fun h => gD h 22 ih.2.1)
  ·intro y0 y1 y2 y3 y4 y5 r h
   rw [qfR] at h
   exact g (gS h (fun h => qS h fun h => gD h 31 ih.2.2.2) fun h => gS h (fun h => qu h wN fun h => gL h) fun h => gL h)
theorem qNq (k a b r) (h : qq1 k a b = some r): qJf a b r := qN Tryz.f60 (go (qD [qaF k, qE5 k]) [] qAb [.autoB [] true [1]] (qu h qQd fun h => gS h (fun h => qu h wN fun h => gD h 6 (quf k a b k).1) fun h => gD h 6 (quf k a b k).1))
theorem qON {k a b} (h : (qq1 k a b).isSome): qJf a b (qmv k a b) := qJ h (qNq k a b)
def qC9 (r : T17.T) : AV := .sub 2 0 1 0 5
def qHd (a : T17.T) (b : List T18.T) (r : T17.T) : List (Nat × Blk) := [(0, .var 140 ((qy (qr T17 r)) ++ [.own 1 0])), (0, .row 54 T18 b), (0, .var 1 [.fn (Fn.func 37) [.ptr 0 0 0] [], .fn (Fn.func 35) [.ptr 0 0 0] [], .fn (Fn.func 48) [.ptr 0 0 0] [], .fn (Fn.func 57) [.ptr 0 0 0] [], .fn (Fn.func 60) [.ptr 0 0 0] []])]
abbrev qQs (a : T17.T) (b : List T18.T) (r : T17.T) : Prop := CC Tryz.prog 66 [.ptr 0 0 0] [.var 140 (qy (qr T17 a) ++ [.own 1 0]), .row 54 T18 b] (qC9 r) (qHd a b r)
def qyx (k : Nat) (a : T17.T) (b : List T18.T) : Option T17.T :=
 some a
def qzb := fun k a b => (qyx k a b).getD (T17).dflt
def qHz (k : Nat) : Ke := (66, fun
 | [.ptr _ _ _] => some [true]
 | _ => none, fun
 | [.ptr 0 0 0], [.var 140 d, .row 54 tx_22_ qx_22] => (qW [] T17 (d.take 22)).bind fun a => (qE tx_22_ T18 qx_22).bind fun b => some (.one (qC9 (qzb k a b), qHd a b (qzb k a b)))
 | _, _ => none)
theorem qSt (k a b r) (h : qyx k a b = some r): qQs a b r := qN Tryz.f66 (go (qD [qmF k, qnp k, qmI k, qAI k, qzx k]) [] [] [.autoB [2] true []] (gL h))
theorem qSw {k a b} (h : (qyx k a b).isSome): qQs a b (qzb k a b) := qJ h (qSt k a b)
abbrev qba : Type := List T18.T × Int
def qpi (r : qba) : AV := .tup [ro T18 r.1, ri r.2]
abbrev qHR (a : T17.T) (r : qba) : Prop := CC Tryz.prog 33 [.agg (qy (qr T17 a)), .r (.v (.func (.func 66) #[] #[]))] [] (qpi r) (nb r)
def qsK := fun y0 y1 => (⟨qI 29 [(6, .ptr 1000000 0 0), (16, .sub 1000002 0 1 0 5), (17, ri 5), (18, ri 0)], [(1000000, 0, .var 140 ((qy (qr T17 y0)) ++ [.own 1000001 0])), (1000001, 0, .row 54 T18 y1), (1000002, 0, .var 1 [.fn (Fn.func 37) [.ptr 1000000 0 0] [], .fn (Fn.func 35) [.ptr 1000000 0 0] [], .fn (Fn.func 48) [.ptr 1000000 0 0] [], .fn (Fn.func 57) [.ptr 1000000 0 0] [], .fn (Fn.func 60) [.ptr 1000000 0 0] []])]⟩ : St)
def qss := fun y0 y1 => (⟨qI 29 [(6, .ptr 1000000 0 0), (16, .sub 1000002 0 1 0 5), (17, ri 5), (18, ri 1)], [(1000000, 0, .var 140 ((qy (qr T17 y0)) ++ [.own 1000001 0])), (1000001, 0, .row 54 T18 y1), (1000002, 0, .var 1 [.fn (Fn.func 37) [.ptr 1000000 0 0] [], .fn (Fn.func 35) [.ptr 1000000 0 0] [], .fn (Fn.func 48) [.ptr 1000000 0 0] [], .fn (Fn.func 57) [.ptr 1000000 0 0] [], .fn (Fn.func 60) [.ptr 1000000 0 0] []])]⟩ : St)
def qtl := fun y0 y1 => (⟨qI 29 [(6, .ptr 1000000 0 0), (16, .sub 1000002 0 1 0 5), (17, ri 5), (18, ri 2)], [(1000000, 0, .var 140 ((qy (qr T17 y0)) ++ [.own 1000001 0])), (1000001, 0, .row 54 T18 y1), (1000002, 0, .var 1 [.fn (Fn.func 37) [.ptr 1000000 0 0] [], .fn (Fn.func 35) [.ptr 1000000 0 0] [], .fn (Fn.func 48) [.ptr 1000000 0 0] [], .fn (Fn.func 57) [.ptr 1000000 0 0] [], .fn (Fn.func 60) [.ptr 1000000 0 0] []])]⟩ : St)
def qty := fun y0 y1 => (⟨qI 29 [(6, .ptr 1000000 0 0), (16, .sub 1000002 0 1 0 5), (17, ri 5), (18, ri 3)], [(1000000, 0, .var 140 ((qy (qr T17 y0)) ++ [.own 1000001 0])), (1000001, 0, .row 54 T18 y1), (1000002, 0, .var 1 [.fn (Fn.func 37) [.ptr 1000000 0 0] [], .fn (Fn.func 35) [.ptr 1000000 0 0] [], .fn (Fn.func 48) [.ptr 1000000 0 0] [], .fn (Fn.func 57) [.ptr 1000000 0 0] [], .fn (Fn.func 60) [.ptr 1000000 0 0] []])]⟩ : St)
def qsZ := fun y0 y1 => (⟨qI 29 [(6, .ptr 1000000 0 0), (16, .sub 1000002 0 1 0 5), (17, ri 5), (18, ri 4)], [(1000000, 0, .var 140 ((qy (qr T17 y0)) ++ [.own 1000001 0])), (1000001, 0, .row 54 T18 y1), (1000002, 0, .var 1 [.fn (Fn.func 37) [.ptr 1000000 0 0] [], .fn (Fn.func 35) [.ptr 1000000 0 0] [], .fn (Fn.func 48) [.ptr 1000000 0 0] [], .fn (Fn.func 57) [.ptr 1000000 0 0] [], .fn (Fn.func 60) [.ptr 1000000 0 0] []])]⟩ : St)
def qsV := fun y0 y1 => (⟨qI 29 [(6, .ptr 1000000 0 0), (16, .sub 1000002 0 1 0 5), (17, ri 5), (18, ri 5)], [(1000000, 0, .var 140 ((qy (qr T17 y0)) ++ [.own 1000001 0])), (1000001, 0, .row 54 T18 y1), (1000002, 0, .var 1 [.fn (Fn.func 37) [.ptr 1000000 0 0] [], .fn (Fn.func 35) [.ptr 1000000 0 0] [], .fn (Fn.func 48) [.ptr 1000000 0 0] [], .fn (Fn.func 57) [.ptr 1000000 0 0] [], .fn (Fn.func 60) [.ptr 1000000 0 0] []])]⟩ : St)
mutual
def qdH (k : Nat) : Nat → T17.T → List T18.T → Option qba
 | 0, _, _ => none
 | j + 1, y0, y1 =>
 if ((0 : Int) ≤ (0 : Int)) ∧ ((0 : Int) < (↑ (5 : Nat) : Int)) then
 if ((qmz k y0 y1).isSome) then
 qdN k j ((qgi k y0 y1).1) ((qgi k y0 y1).2)
 else none
 else none
def qdN (k : Nat) : Nat → T17.T → List T18.T → Option qba
 | 0, _, _ => none
 | j + 1, y0, y1 =>
 if ((0 : Int) ≤ (1 : Int)) ∧ ((1 : Int) < (↑ (5 : Nat) : Int)) then
 if ((qmG k y0 y1).isSome) then
 qdY k j ((qf1 k y0 y1).1) ((qf1 k y0 y1).2)
 else none
 else none
def qdY (k : Nat) : Nat → T17.T → List T18.T → Option qba
 | 0, _, _ => none
 | j + 1, y0, y1 =>
 if ((0 : Int) ≤ (2 : Int)) ∧ ((2 : Int) < (↑ (5 : Nat) : Int)) then
 if ((qfW k y0 y1).isSome) then
 qdG k j ((qbc k y0 y1).1) ((qbc k y0 y1).2)
 else none
 else none
def qdG (k : Nat) : Nat → T17.T → List T18.T → Option qba
 | 0, _, _ => none
 | j + 1, y0, y1 =>
 if ((0 : Int) ≤ (3 : Int)) ∧ ((3 : Int) < (↑ (5 : Nat) : Int)) then
 if ((qrw k y0 y1).isSome) then
 qdx k j ((qlU k y0 y1).1) ((qlU k y0 y1).2)
 else none
 else none
def qdx (k : Nat) : Nat → T17.T → List T18.T → Option qba
 | 0, _, _ => none
 | j + 1, y0, y1 =>
 if ((0 : Int) ≤ (4 : Int)) ∧ ((4 : Int) < (↑ (5 : Nat) : Int)) then
 if ((qq1 k y0 y1).isSome) then
 qdL k j ((qmv k y0 y1).1) ((qmv k y0 y1).2)
 else none
 else none
def qdL (k : Nat) : Nat → T17.T → List T18.T → Option qba
 | 0, _, _ => none
 | j + 1, y0, y1 =>
 some (y1, 0)
end
def qro (k : Nat) (a : T17.T) : Option qba :=
 if ((qbd k a).isSome) then
 bif (qcJ k a) then
 some ([], 8)
 else
 if ((qyx k a []).isSome) then
 qdH k k (qzb k a []) ([])
 else none
 else none
def qqZ := fun k a => (qro k a).getD ([], 0)
def qPs (k : Nat) : Ke := (33, fun
 | [_, .r (.v (.func (.func 66) _ _))] => some [false, false]
 | _ => none, fun
 | [.agg b, .r (.v (.func (.func 66) _ _))], [] => (qW [] T17 b).bind fun a => some (.one (qpi (qqZ k a), []))
 | _, _ => none)
def qIr (k : Nat) : Calld := qD [qnu k, qmF k, qnp k, qmI k, qAI k, qzx k, qHz k]
def qAR : List (Nat × List Cmd) := [(5, [.key 18, .autoB [6, 16, 17, 18] false []])]
abbrev qj2 := EP Tryz.f33 0 qpi nb
theorem qCj (k) : ∀ j, (∀ {y0 y1}, qj2 5 (qsK y0 y1) (qdH k j y0 y1)) ∧ (∀ {y0 y1}, qj2 5 (qss y0 y1) (qdN k j y0 y1)) ∧ (∀ {y0 y1}, qj2 5 (qtl y0 y1) (qdY k j y0 y1)) ∧ (∀ {y0 y1}, qj2 5 (qty y0 y1) (qdG k j y0 y1)) ∧ (∀ {y0 y1}, qj2 5 (qsZ y0 y1) (qdx k j y0 y1)) ∧ (∀ {y0 y1}, qj2 5 (qsV y0 y1) (qdL k j y0 y1))
 | 0 => by and_intros <;> intros <;> exact e0
 | j + 1 => by
  have ih := @qCj k j
  have g := @go (qIr k) [] qAR [.frz 4 false (RTy.list T18), .autoB [4, 5] true []]
  refine ⟨?_, ?_, ?_, ?_, ?_, ?_⟩
  ·intro y0 y1 r h
   rw [qdH] at h
   exact g (gU1 h (.leaf (.tup [.r (.ro T18 y1), .r (.v (.int .i64 0))]) []) fun h => qS h fun h => qu h qBx fun h => gD h 20005 ih.2.1)
  ·intro y0 y1 r h
   rw [qdN] at h
   exact g (gU1 h (.leaf (.tup [.r (.ro T18 y1), .r (.v (.int .i64 0))]) []) fun h => qS h fun h => qu h qz1 fun h => gD h 30005 ih.2.2.1)
  ·intro y0 y1 r h
   rw [qdY] at h
   exact g (gU1 h (.leaf (.tup [.r (.ro T18 y1), .r (.v (.int .i64 0))]) []) fun h => qS h fun h => qu h qzL fun h => gD h 40005 ih.2.2.2.1)
  ·intro y0 y1 r h
   rw [qdG] at h
   exact g (gU1 h (.leaf (.tup [.r (.ro T18 y1), .r (.v (.int .i64 0))]) []) fun h => qS h fun h => qu h qQC fun h => gD h 50005 ih.2.2.2.2.1)
  ·intro y0 y1 r h
   rw [qdx] at h
   exact g (gU1 h (.leaf (.tup [.r (.ro T18 y1), .r (.v (.int .i64 0))]) []) fun h => qS h fun h => qu h qON fun h => gD h 60005 ih.2.2.2.2.2)
  ·intro y0 y1 r h
   rw [qdL] at h
   exact g (gU2 h (.stuck 5001) fun h => gL h)
theorem qQi (k a r) (h : qro k a = some r): qHR a r := qN Tryz.f33 (go (qIr k) [] qAR [.frz 4 false (RTy.list T18), .autoB [4, 5] true []] (qu h qm7 fun h => qB h fun h => qu h qSw fun h => gD h 10005 (qCj k k).1))
theorem qQv {k a} (h : (qro k a).isSome): qHR a (qqZ k a) := qJ h (qQi k a)
abbrev qF8 : Type := List T18.T × Int
def qCP (r : qF8) : AV := .tup [ro T18 r.1, ri r.2]
abbrev qOJ (a : T17.T) (r : qF8) : Prop := CC Tryz.prog 28 [.agg (qy (qr T17 a))] [] (qCP r) (nb r)
def qya (k : Nat) (a : T17.T) : Option qF8 :=
 if ((qro k a).isSome) then
 some ((qqZ k a).1, (qqZ k a).2)
 else none
def qxG := fun k a => (qya k a).getD ([], 0)
def qSs (k : Nat) : Ke := (28, mo 1, fun
 | [.agg b], [] => (qW [] T17 b).bind fun a => some (.one (qCP (qxG k a), []))
 | _, _ => none)
theorem qSq (k a r) (h : qya k a = some r): qOJ a r := qN Tryz.f28 (go (qD [qHz k, qPs k]) [] [] [.frz 2 false (RTy.list T18), .autoB [2, 3] true []] (qu h qQv fun h => gL h))
theorem qSn {k a} (h : (qya k a).isSome): qOJ a (qxG k a) := qJ h (qSq k a)
def qvQ (r : T17.T) : AV := .agg (qy (qr T17 r))
abbrev qI4 (a : Int) (r : T17.T) : Prop := CC Tryz.prog 32 [ri a] [] (qvQ r) (nb r)
def qju (k : Nat) (a : Int) : Option T17.T :=
 some (0, (10, (100, (100, (10, (0, (0, ([], ([], ([(0, 100, 1, 0, 0)], ([], ([(1, 0, 0, 10, false, [(0, 100, false)])], ([a], ([], ([], ([], ([], ([], ([], ([], ([], [])))))))))))))))))))))
def qZ := fun k a => (qju k a).getD (T17).dflt
def qNN (k : Nat) : Ke := (32, mo 1, fun
 | [.r (.v (.int .i64 a))], [] => some (.one (qvQ (qZ k a), []))
 | _, _ => none)
theorem qPL (k a r) (h : qju k a = some r): qI4 a r := qN Tryz.f32 (go (qD []) [] [] [.frz 2 true T17, .autoB [2] true []] (gL h))
theorem qsm {k a} (h : (qju k a).isSome): qI4 a (qZ k a) := qJ h (qPL k a)
def bs_H62_u72_0 : ByteArray := ByteArray.mk #[114, 111, 108, 108, 32, 55, 58, 32, 101, 114, 114, 111, 114, 32, 49]
def qn6 (r : Bool) : AV := rb r
def qr7  (r : Bool) : List (Nat × Blk) := []
def qtE  : List AV := []
def qv1  : List Blk := []
abbrev qyy  (r : Bool) : Prop := CC Tryz.prog 13 (qtE ) (qv1 ) (qn6 r) (qr7  r)
def qfz (k : Nat)  : Option Bool :=
 if ((qju k 0).isSome) ∧ ((qya k (qZ k 0)).isSome) then
 if ((qju k 30).isSome) ∧ ((qyW k (qZ k 30)).isSome) then
 if ((qju k 0).isSome) then
 if ((qx4 k ((qZ k 0).1, (qZ k 0).2.1, (qZ k 0).2.2.1, (qZ k 0).2.2.2.1, (qZ k 0).2.2.2.2.1, (qZ k 0).2.2.2.2.2.1, (qZ k 0).2.2.2.2.2.2.1, (qZ k 0).2.2.2.2.2.2.2.1, (qZ k 0).2.2.2.2.2.2.2.2.1, (qZ k 0).2.2.2.2.2.2.2.2.2.1, (qZ k 0).2.2.2.2.2.2.2.2.2.2.1, [], [], (qZ k 0).2.2.2.2.2.2.2.2.2.2.2.2.2)).isSome) then
 if ((qyH k (3, 7, 1)).isSome) then
 bif ((qxG k (qZ k (0 : Int))).2 != (0 : Int) || (qhD k (qZ k (30 : Int))).2 != (0 : Int) || (qnX k ((qZ k (0 : Int)).1, (qZ k (0 : Int)).2.1, (qZ k (0 : Int)).2.2.1, (qZ k (0 : Int)).2.2.2.1, (qZ k (0 : Int)).2.2.2.2.1, (qZ k (0 : Int)).2.2.2.2.2.1, (qZ k (0 : Int)).2.2.2.2.2.2.1, (qZ k (0 : Int)).2.2.2.2.2.2.2.1, (qZ k (0 : Int)).2.2.2.2.2.2.2.2.1, (qZ k (0 : Int)).2.2.2.2.2.2.2.2.2.1, (qZ k (0 : Int)).2.2.2.2.2.2.2.2.2.2.1, [], [], (qZ k (0 : Int)).2.2.2.2.2.2.2.2.2.2.2.2.2)).2 != (0 : Int) || (qyh k ((3 : Int), (7 : Int), (1 : Int))).2 != (0 : Int) || (↑ (qxG k (qZ k (0 : Int))).1.length : Int) != (0 : Int) || (↑ (qhD k (qZ k (30 : Int))).1.length : Int) != (1 : Int) || (↑ (qnX k ((qZ k (0 : Int)).1, (qZ k (0 : Int)).2.1, (qZ k (0 : Int)).2.2.1, (qZ k (0 : Int)).2.2.2.1, (qZ k (0 : Int)).2.2.2.2.1, (qZ k (0 : Int)).2.2.2.2.2.1, (qZ k (0 : Int)).2.2.2.2.2.2.1, (qZ k (0 : Int)).2.2.2.2.2.2.2.1, (qZ k (0 : Int)).2.2.2.2.2.2.2.2.1, (qZ k (0 : Int)).2.2.2.2.2.2.2.2.2.1, (qZ k (0 : Int)).2.2.2.2.2.2.2.2.2.2.1, [], [], (qZ k (0 : Int)).2.2.2.2.2.2.2.2.2.2.2.2.2)).1.length : Int) != (1 : Int)) then
 some false
 else
 if ((0 : Int) ≤ (0 : Int)) ∧ ((0 : Int) < (↑ (qhD k (qZ k (30 : Int))).1.length : Int)) ∧ (Vp T18 ((qhD k (qZ k (30 : Int))).1.getD (qt (0 : Int)) T18.dflt) ((4 : Int), (-300 : Int), (0 : Int)) = true → (0 : Int) ≤ (0 : Int)) ∧ (Vp T18 ((qhD k (qZ k (30 : Int))).1.getD (qt (0 : Int)) T18.dflt) ((4 : Int), (-300 : Int), (0 : Int)) = true → (0 : Int) < (↑ (qnX k ((qZ k (0 : Int)).1, (qZ k (0 : Int)).2.1, (qZ k (0 : Int)).2.2.1, (qZ k (0 : Int)).2.2.2.1, (qZ k (0 : Int)).2.2.2.2.1, (qZ k (0 : Int)).2.2.2.2.2.1, (qZ k (0 : Int)).2.2.2.2.2.2.1, (qZ k (0 : Int)).2.2.2.2.2.2.2.1, (qZ k (0 : Int)).2.2.2.2.2.2.2.2.1, (qZ k (0 : Int)).2.2.2.2.2.2.2.2.2.1, (qZ k (0 : Int)).2.2.2.2.2.2.2.2.2.2.1, [], [], (qZ k (0 : Int)).2.2.2.2.2.2.2.2.2.2.2.2.2)).1.length : Int)) then
 some (Vp T18 ((qhD k (qZ k 30)).1.getD (qt 0) T18.dflt) (4, (-300), 0) && Vp T18 ((qnX k ((qZ k 0).1, (qZ k 0).2.1, (qZ k 0).2.2.1, (qZ k 0).2.2.2.1, (qZ k 0).2.2.2.2.1, (qZ k 0).2.2.2.2.2.1, (qZ k 0).2.2.2.2.2.2.1, (qZ k 0).2.2.2.2.2.2.2.1, (qZ k 0).2.2.2.2.2.2.2.2.1, (qZ k 0).2.2.2.2.2.2.2.2.2.1, (qZ k 0).2.2.2.2.2.2.2.2.2.2.1, [], [], (qZ k 0).2.2.2.2.2.2.2.2.2.2.2.2.2)).1.getD (qt 0) T18.dflt) (2, 0, 0) && (qyh k (3, 7, 1)).1.toList == bs_H62_u72_0.toList)
 else none
 else none
 else none
 else none
 else none
 else none
def qae := fun k => (qfz k ).getD false
def qRd (k : Nat) : Ke := (13, mo 0, fun
 | [], [] => some (.one (qn6 (qae k ), qr7  (qae k )))
 | _, _ => none)
theorem qNr (k r) (h : qfz k  = some r): qyy  r := qN Tryz.f13 (go (qD [qSi k, qR5 k, qR9 k, qSs k, qNN k]) [] [] [.autoB [0] true []] (gN h (fun q => qf (qsm q.1) (qf (qSn q.2) qR)) fun h => gN h (fun q => qf (qsm q.1) (qf (qR1 q.2) qR)) fun h => qu h (fun q => qsm q) fun h => qu h (fun q => qSc q) fun h => qu h (fun q => qRN q) fun h => gT h (fun c h => gL h) fun c h => gN h (fun q => Xo q) fun h => gL h))
theorem qBu {k} (h : (qfz k ).isSome): qyy  (qae k ) := qJ (Φ := qyy ) h (qNr k )
abbrev qIQ (a : List T18.T) (b : List T18.T) (r : Bool) : Prop := CC Tryz.prog 17 [ro T18 a, ro T18 b] [] (rb r) (nb r)
def qGv := fun y0 y1 y2 y3 => (⟨qI 26 [(0, ro T18 y0), (1, ro T18 y1), (12, ri y2), (13, ri y3)], []⟩ : St)
def Yg (k : Nat) : Nat → List T18.T → List T18.T → Int → Int → Option Bool
 | 0, _, _, _, _ => none
 | j + 1, y0, y1, y2, y3 =>
 bif y3 < y2 then
 if (0 ≤ y3) ∧ (y3 < y0.length) ∧ (0 ≤ y3) ∧ (y3 < y1.length) then
 bif (!Vp T18 (y0.getD y3.toNat T18.dflt) (y1.getD y3.toNat T18.dflt)) then
 some false
 else
 Yg k j y0 y1 y2 (qa .i64 (y3 + 1))
 else none
 else
 some true
def qdk (k : Nat) (a : List T18.T) (b : List T18.T) : Option Bool :=
 bif ((↑a.length : Int) != (↑b.length : Int)) then
 some false
 else
 Yg k k a b (↑a.length : Int) 0
def qaY := fun k a b => (qdk k a b).getD false
def qRy (k : Nat) : Ke := (17, mo 2, fun
 | [.r (.ro f d), .r (.ro g e)], [] => (qE f T18 d).bind fun a => (qE g T18 e).bind fun b => some (.one (rb (qaY k a b), []))
 | _, _ => none)
def qCQ : List (Nat × List Cmd) := [(4, [.autoB [0, 1, 12, 13] false []])]
abbrev qSA := EP Tryz.f17 0 rb nb
theorem qDJ (k) : ∀ j, (∀ y0 y1 y2 y3, qSA 4 (qGv y0 y1 y2 y3) (Yg k j y0 y1 y2 y3))
 | 0 => by intros; exact e0
 | j + 1 => by
  have ih := @qDJ k j
  ·intro y0 y1 y2 y3 r h
   rw [Yg] at h
   exact go (qD []) [] qCQ [.autoB [4] true []] (gS h (fun h => gN h Xo fun h => qB h fun h => gC h 4 (ih _ _ _ _ _)) fun h => gL h)
theorem qPn (k a b r) (h : qdk k a b = some r): qIQ a b r := qN Tryz.f17 (go (qD []) [] qCQ [.autoB [4] true []] (qB h fun h => gC h 4 ((qDJ k k) _ _ _ _ _)))
theorem qDq {k a b} (h : (qdk k a b).isSome): qIQ a b (qaY k a b) := qJ h (qPn k a b)
end
end Go.AM
namespace Go.AM
open Go Go.Proofs
noncomputable section
end
theorem qQj (p : wP) : Vp T18 p p = true := by
 show ((p.1 == p.1) && ((p.2.1 == p.2.1) && (p.2.2 == p.2.2))) = true
 rw [beq_self_eq_true, beq_self_eq_true, beq_self_eq_true]; rfl
theorem qyJ (k : Nat) (l : List wP) (hl : l.length ≤ 1000000) : ∀ (d i j : Nat), i + d = l.length → d < j → Yg k j l l (l.length : Int) (i : Int) = some true := by
 intro d
 induction d with
 | zero =>
  intro i j hi hj
  obtain ⟨j, rfl⟩ := qQ (by omega : 0 < j)
  rw [Yg, qx (by omega : ¬ (i : Int) < (l.length : Int)), qg]
 | succ d ih =>
  intro i j hi hj
  obtain ⟨j, rfl⟩ := qQ (by omega : 0 < j)
  rw [Yg, qA (by omega : (i : Int) < (l.length : Int)), qi, qd ⟨by omega, by omega, by omega, by omega⟩, qF i (by omega), qQj]
  exact ih (i + 1) j (by omega) (by omega)
theorem qm9 (k : Nat) (l : List wP) (hl : l.length ≤ 1000000) (hk : l.length < k) : qdk k l l = some true := by
 unfold qdk
 rw [bne_self_eq_false, qg]
 exact qyJ k l hl l.length 0 k (by omega) (by omega)
theorem qza (k : Nat) (l : List wP) (hl : l.length ≤ 1000000) (hk : l.length < k) : qaY k l l = true := by
 unfold qaY; rw [qm9 k l hl hk]; rfl
theorem qLm (k : Nat) (hk : 100 ≤ k) (b : T17.T) (hw : Wf T17 b) : ∃ r : Bool, qf8 k b = some r ∧ (r = false → GB b) :=
 qKY k hk b (hw.2.2.2.2.2.2.2.2.2.2.2.2.2.2.2.1).1 (hw.2.2.2.2.2.2.2.2.2.2.2.2.2.2.2.2.2.1).1 (hw.2.2.2.2.2.2.2.2.2.2.2.1).1 (hw.2.2.2.2.2.2.2.2.1).1
theorem qLj : qfz 400000 = some true := by kernel_rfl
theorem qRY (k : Nat) (l : List Int) (x : Int) (n : Nat) (hn : n ≤ l.length) (hb : n ≤ 100000) : ∀ (d i j : Nat), i + d = n → d < j → Xb k j l (n : Int) x (i : Int) = some (wj x ((l.drop i).take d)) := by
 intro d
 induction d with
 | zero =>
  intro i j hi hj
  obtain ⟨j, rfl⟩ := qQ (by omega : 0 < j)
  rw [Xb, qx (by omega : ¬ (i : Int) < (n : Int)), qg, List.take_zero]; rfl
 | succ d ih =>
  intro i j hi hj
  obtain ⟨j, rfl⟩ := qQ (by omega : 0 < j)
  rw [Xb, qA (by omega : (i : Int) < (n : Int)), qi, qd ⟨by omega, by omega⟩, qc, qF i (by omega), qq l i I.dflt (by omega), List.take_succ_cons, ih (i + 1) j (by omega) (by omega)]
  show _ = some (l.getD i I.dflt == x || wj x _)
  cases (l.getD i I.dflt == x) <;> rfl
theorem qmV (k : Nat) (l : List Int) (x : Int) (n : Nat) (hn : n ≤ l.length) (hb : n ≤ 100000) (hk : n < k) : Zz k l (n : Int) x = some (wj x (l.take n)) := by
 unfold Zz
 exact qRY k l x n hn hb n 0 k (by omega) hk
theorem qq0 (k : Nat) (l : List Int) (x : Int) (n : Nat) (hn : n ≤ l.length) (hb : n ≤ 100000) (hk : n < k) : VD k l (n : Int) x = wj x (l.take n) := by
 unfold VD; rw [qmV k l x n hn hb hk]; rfl
end Go.AM
namespace Go.AM
open Go Go.Proofs
noncomputable section
abbrev qDX (a : T8.T) (r : Int) : Prop := CC Tryz.prog 91 [.agg (qy (qr T8 a))] [] (ri r) (nb r)
def qaI (k : Nat) (a : T8.T) : Option Int :=
 bif (decide (a.1 < (1 : Int)) || decide (a.1 > (1000000 : Int))) then
 some 1
 else
 bif (decide (a.2.1 < (0 : Int)) || decide (a.2.1 ≥ (16 : Int))) then
 some 22
 else
 bif (decide (a.2.2.1 < (1 : Int)) || decide (a.2.2.1 > (12000 : Int))) then
 some 20
 else
 bif (decide (a.2.2.2.1 < (1 : Int)) || decide (a.2.2.2.1 ≥ (2500 : Int)) || decide (a.2.2.2.2.1 ≤ a.2.2.2.1) || decide (a.2.2.2.2.1 > (2500 : Int)) || decide (a.2.2.2.2.2.1 < (0 : Int)) || decide (a.2.2.2.2.2.1 > qa .i64 (a.2.2.2.2.1 - a.2.2.2.1))) then
 some 1
 else
 bif (decide (a.2.2.2.2.2.2.1 < (1 : Int)) || decide (a.2.2.2.2.2.2.1 > (1000 : Int)) || decide (a.2.2.2.2.2.2.2.1 < (0 : Int)) || decide (a.2.2.2.2.2.2.2.1 > (1000 : Int)) || decide (a.2.2.2.2.2.2.2.2.1 < (0 : Int)) || decide (a.2.2.2.2.2.2.2.2.1 > (1000 : Int))) then
 some 1
 else
 bif (decide (a.2.2.2.2.2.2.2.2.2.1 < (0 : Int)) || decide (a.2.2.2.2.2.2.2.2.2.1 > (8 : Int)) || decide (a.2.2.2.2.2.2.2.2.2.2.1 < (0 : Int)) || decide (a.2.2.2.2.2.2.2.2.2.2.1 > (100 : Int)) || decide (a.2.2.2.2.2.2.2.2.2.2.2 < (0 : Int)) || decide (a.2.2.2.2.2.2.2.2.2.2.2 > (1000000000 : Int))) then
 some 1
 else
 some 0
def Zt := fun k a => (qaI k a).getD 0
def qjy (k : Nat) : Ke := (91, mo 1, fun
 | [.agg b], [] => (qW [] T8 b).bind fun a => some (.one (ri (Zt k a), []))
 | _, _ => none)
theorem qMZ (k a r) (h : qaI k a = some r): qDX a r := qN Tryz.f91 (go (qD []) [] [] [.autoB [2] true []] (qB h fun h => qB h fun h => qB h fun h => qB h fun h => qB h fun h => qB h fun h => gL h))
theorem qu9 {k a} (h : (qaI k a).isSome): qDX a (Zt k a) := qJ h (qMZ k a)
abbrev qC4 (a : List I.T) (b : Int) (r : Bool) : Prop := CC Tryz.prog 93 [ro I a, ri b] [] (rb r) (nb r)
def qEf := fun y0 y1 y2 => (⟨qI 18 [(0, ro I y0), (1, ri y1), (5, ri y2)], []⟩ : St)
def V6 (k : Nat) : Nat → List I.T → Int → Int → Option Bool
 | 0, _, _, _ => none
 | j + 1, y0, y1, y2 =>
 bif y2 < y0.length then
 if (0 ≤ y2) ∧ (y2 < y0.length) then
 bif (y0.getD y2.toNat I.dflt == y1) then
 some true
 else
 V6 k j y0 y1 (qa .i64 (y2 + 1))
 else none
 else
 some false
def qaA (k : Nat) (a : List I.T) (b : Int) : Option Bool :=
 V6 k k a b 0
def qcc := fun k a b => (qaA k a b).getD false
def qjO (k : Nat) : Ke := (93, mo 2, fun
 | [.r (.ro e d), .r (.v (.int .i64 b))], [] => (qE e I d).bind fun a => some (.one (rb (qcc k a b), []))
 | _, _ => none)
def qvy : List (Nat × List Cmd) := [(2, [.autoB [0, 1, 5] false []])]
abbrev qPN := EP Tryz.f93 0 rb nb
theorem qwr (k) : ∀ j, (∀ y0 y1 y2, qPN 2 (qEf y0 y1 y2) (V6 k j y0 y1 y2))
 | 0 => by intros; exact e0
 | j + 1 => by
  have ih := @qwr k j
  ·intro y0 y1 y2 r h
   rw [V6] at h
   exact go (qD []) [] qvy [.autoB [4] true []] (gS h (fun h => qS h fun h => qB h fun h => gC h 2 (ih _ _ _ _)) fun h => gL h)
theorem qK3 (k a b r) (h : qaA k a b = some r): qC4 a b r := qN Tryz.f93 (go (qD []) [] qvy [.autoB [4] true []] (gC h 2 ((qwr k k) _ _ _ _)))
theorem qpd {k a b} (h : (qaA k a b).isSome): qC4 a b (qcc k a b) := qJ h (qK3 k a b)
end
theorem qGW {α : Type} (a b : Bool) (x y : α) : (bif (a || b) then x else y) = bif a then x else bif b then x else y := by cases a <;> rfl
theorem qFS (k : Nat) (o : T8.T) : qaI k o = VH k o := by
 unfold qaI VH
 simp only [qGW]
def Wc (o : T8.T) : Int := (VH 0 o).getD 0
theorem qiB {c : Bool} {a : Int} {x : Option Int} (h : x = some (x.getD 0)) : (bif c then some a else x) = some ((bif c then some a else x).getD 0) := by
 cases c
 ·exact h
 ·rfl
theorem qiU (k : Nat) (o : T8.T) : VH k o = some (Wc o) := by
 show VH 0 o = some ((VH 0 o).getD 0)
 unfold VH
 exact qiB (qiB (qiB (qiB (qiB (qiB (qiB (qiB rfl)))))))
theorem qwA (k : Nat) (o : T8.T) : YS k o = Wc o := by unfold YS; rw [qiU]; rfl
theorem qkU (k : Nat) (o : T8.T) : qaI k o = some (Wc o) := by rw [qFS, qiU]
theorem qt8 (k : Nat) (o : T8.T) : Zt k o = Wc o := by unfold Zt; rw [qkU]; rfl
theorem qS4 (k : Nat) (x : Int) (l : List Int) (hl : l.length ≤ 1000000) : ∀ (d i j : Nat), i + d = l.length → d < j → YR k j x l (l.length : Int) (i : Int) = some (wj x (l.drop i)) := by
 intro d
 induction d with
 | zero =>
  intro i j hi hj
  obtain ⟨j, rfl⟩ := qQ (by omega : 0 < j)
  rw [YR, qx (by omega : ¬ (i : Int) < (l.length : Int)), qg, qh (by omega)]; rfl
 | succ d ih =>
  intro i j hi hj
  obtain ⟨j, rfl⟩ := qQ (by omega : 0 < j)
  rw [YR, qA (by omega : (i : Int) < (l.length : Int)), qi, qd ⟨by omega, by omega⟩, qc, qF i (by omega), qq l i I.dflt (by omega), ih (i + 1) j (by omega) (by omega)]
  have hb : (x == l.getD i I.dflt) = (l.getD i I.dflt == x) := by
   by_cases h : x = l.getD i I.dflt
   ·rw [beq_iff_eq.2 h]; exact (beq_iff_eq.2 h.symm).symm
   ·rw [beq_eq_false_iff_ne.2 h]; exact (beq_eq_false_iff_ne.2 (fun e => h e.symm)).symm
  rw [hb]
  show _ = some (l.getD i I.dflt == x || wj x (l.drop (i + 1)))
  cases (l.getD i I.dflt == x) <;> rfl
theorem qkW (k : Nat) (l : List Int) (x : Int) (hl : l.length ≤ 1000000) (hk : l.length < k) : VL k l x = some (wj x l) := by
 unfold VL
 exact qS4 k x l hl l.length 0 k (by omega) hk
theorem qnI (k : Nat) (l : List Int) (x : Int) (hl : l.length ≤ 1000000) (hk : l.length < k) : VE k l x = wj x l := by
 unfold VE; rw [qkW k l x hl hk]; rfl
theorem qOQ (k : Nat) (x : Int) (l : List Int) (hl : l.length ≤ 1000000) : ∀ (d i j : Nat), i + d = l.length → d < j → V6 k j l x (i : Int) = some (wj x (l.drop i)) := by
 intro d
 induction d with
 | zero =>
  intro i j hi hj
  obtain ⟨j, rfl⟩ := qQ (by omega : 0 < j)
  rw [V6, qx (by omega : ¬ (i : Int) < (l.length : Int)), qg, qh (by omega)]; rfl
 | succ d ih =>
  intro i j hi hj
  obtain ⟨j, rfl⟩ := qQ (by omega : 0 < j)
  rw [V6, qA (by omega : (i : Int) < (l.length : Int)), qi, qd ⟨by omega, by omega⟩, qc, qF i (by omega), qq l i I.dflt (by omega), ih (i + 1) j (by omega) (by omega)]
  show _ = some (l.getD i I.dflt == x || wj x (l.drop (i + 1)))
  cases (l.getD i I.dflt == x) <;> rfl
theorem qmC (k : Nat) (l : List Int) (x : Int) (hl : l.length ≤ 1000000) (hk : l.length < k) : qaA k l x = some (wj x l) := by
 unfold qaA
 exact qOQ k x l hl l.length 0 k (by omega) hk
theorem qt7 (k : Nat) (l : List Int) (x : Int) (hl : l.length ≤ 1000000) (hk : l.length < k) : qcc k l x = wj x l := by
 unfold qcc; rw [qmC k l x hl hk]; rfl
end Go.AM
namespace Go.AM
open Go Go.Proofs
noncomputable section
def qlo (r : List I.T × Int) : AV := .tup [ro I r.1, ri r.2]
abbrev qEq (a : T8.T) (b : T22.T) (r : List I.T × Int) : Prop := CC Tryz.prog 140 [.agg (qy (qr T8 a)), .agg (qy (qr T22 b))] [] (qlo r) (nb r)
def qDp := fun y0 y1 y2 => (⟨qI 70 [(2, .ptr 1000000 0 0), (3, .ptr 1000001 0 0), (7, .own 1000002 0)], [(1000000, 0, .var 72 (qy (qr T8 y0))), (1000001, 0, .var 103 (qy (qr T22 y1))), (1000002, 0, .row 3 I y2)]⟩ : St)
def qDT := fun y0 y1 y2 => (⟨qI 70 [(2, .ptr 1000000 0 0), (3, .ptr 1000001 0 0), (7, .own 1000002 0)], [(1000000, 0, .var 72 (qy (qr T8 y0))), (1000001, 0, .var 103 (qy (qr T22 y1))), (1000002, 0, .row 3 I y2)]⟩ : St)
def qyo := fun y0 y1 y2 => (⟨qI 70 [(2, .ptr 1000000 0 0), (3, .ptr 1000001 0 0), (7, .own 1000002 0)], [(1000000, 0, .var 72 (qy (qr T8 y0))), (1000001, 0, .var 103 (qy (qr T22 y1))), (1000002, 0, .row 3 I y2)]⟩ : St)
def qyO := fun y0 y1 y2 => (⟨qI 70 [(2, .ptr 1000000 0 0), (3, .ptr 1000001 0 0), (7, .own 1000002 0)], [(1000000, 0, .var 72 (qy (qr T8 y0))), (1000001, 0, .var 103 (qy (qr T22 y1))), (1000002, 0, .row 3 I y2)]⟩ : St)
def qyP := fun y0 y1 y2 => (⟨qI 70 [(2, .ptr 1000000 0 0), (3, .ptr 1000001 0 0), (7, .own 1000002 0)], [(1000000, 0, .var 72 (qy (qr T8 y0))), (1000001, 0, .var 103 (qy (qr T22 y1))), (1000002, 0, .row 3 I y2)]⟩ : St)
def qyv := fun y0 => (⟨qI 70 [(7, .own 1000000 0)], [(1000000, 0, .row 3 I y0)]⟩ : St)
mutual
def Wx (k : Nat) : Nat → T8.T → T22.T → List I.T → Option (List I.T × Int)
 | 0, _, _, _ => none
 | j + 1, y0, y1, y2 =>
 bif (!y1.2.1) then
 if ((y2.length + [(2 : Int)].length) * (8 : Nat) ≤ (140737488355328 : Nat)) then
 Zr k j y0 y1 (y2 ++ [2])
 else none
 else
 Zr k j y0 y1 y2
def Zr (k : Nat) : Nat → T8.T → T22.T → List I.T → Option (List I.T × Int)
 | 0, _, _, _ => none
 | j + 1, y0, y1, y2 =>
 bif (y1.2.2.1 != y0.2.2.1) then
 if ((y2.length + [(3 : Int)].length) * (8 : Nat) ≤ (140737488355328 : Nat)) then
 Wn k j y0 y1 (y2 ++ [3])
 else none
 else
 Wn k j y0 y1 y2
def Wn (k : Nat) : Nat → T8.T → T22.T → List I.T → Option (List I.T × Int)
 | 0, _, _, _ => none
 | j + 1, y0, y1, y2 =>
 bif (decide (y1.2.2.2.1 < qa .i64 (y0.2.2.2.2.1 - y0.2.2.2.2.2.1)) || decide (y1.2.2.2.1 > y0.2.2.2.2.1)) then
 if ((y2.length + [(4 : Int)].length) * (8 : Nat) ≤ (140737488355328 : Nat)) then
 Wp k j y0 y1 (y2 ++ [4])
 else none
 else
 Wp k j y0 y1 y2
def Wp (k : Nat) : Nat → T8.T → T22.T → List I.T → Option (List I.T × Int)
 | 0, _, _, _ => none
 | j + 1, y0, y1, y2 =>
 bif y1.2.2.2.2.1 > y0.2.2.2.2.2.2.2.2.2.1 then
 if ((y2.length + [(5 : Int)].length) * (8 : Nat) ≤ (140737488355328 : Nat)) then
 Ws k j y0 y1 (y2 ++ [5])
 else none
 else
 Ws k j y0 y1 y2
def Ws (k : Nat) : Nat → T8.T → T22.T → List I.T → Option (List I.T × Int)
 | 0, _, _, _ => none
 | j + 1, y0, y1, y2 =>
 bif y1.2.2.2.2.2 > y0.2.2.2.2.2.2.2.2.2.2.1 then
 if ((y2.length + [(6 : Int)].length) * (8 : Nat) ≤ (140737488355328 : Nat)) then
 Zf k j (y2 ++ [6])
 else none
 else
 Zf k j y2
def Zf (k : Nat) : Nat → List I.T → Option (List I.T × Int)
 | 0, _ => none
 | j + 1, y0 =>
 some (y0, 0)
end
def qeO (k : Nat) (a : T8.T) (b : T22.T) : Option (List I.T × Int) :=
 if ((qaI k a).isSome) then
 bif (Zt k a != (0 : Int)) then
 some ([], Zt k a)
 else
 bif (b.1 != a.2.1) then
 if ([(1 : Int)].length * (8 : Nat) ≤ (140737488355328 : Nat)) then
 Wx k k a b ([1])
 else none
 else
 Wx k k a b ([])
 else none
def qbF := fun k a b => (qeO k a b).getD ([], 0)
def qxc (k : Nat) : Ke := (140, mo 2, fun
 | [.agg e, .agg d], [] => (qW [] T8 e).bind fun a => (qW [] T22 d).bind fun b => some (.one (qlo (qbF k a b), []))
 | _, _ => none)
def qxi : List (Nat × List Cmd) := [(7, [.row 7 3 I, .autoB [2, 3, 7] false []]), (9, [.autoB [2, 3, 7] false []]), (11, [.autoB [2, 3, 7] false []]), (13, [.autoB [2, 3, 7] false []]), (15, [.autoB [2, 3, 7] false []]), (17, [.autoB [7] false []])]
abbrev qe9 := EP Tryz.f140 0 qlo nb
theorem qoU (k) : ∀ j, (∀ {y0 y1 y2}, qe9 7 (qDp y0 y1 y2) (Wx k j y0 y1 y2)) ∧ (∀ {y0 y1 y2}, qe9 9 (qDT y0 y1 y2) (Zr k j y0 y1 y2)) ∧ (∀ {y0 y1 y2}, qe9 11 (qyo y0 y1 y2) (Wn k j y0 y1 y2)) ∧ (∀ {y0 y1 y2}, qe9 13 (qyO y0 y1 y2) (Wp k j y0 y1 y2)) ∧ (∀ {y0 y1 y2}, qe9 15 (qyP y0 y1 y2) (Ws k j y0 y1 y2)) ∧ (∀ {y0}, qe9 17 (qyv y0) (Zf k j y0))
 | 0 => by and_intros <;> intros <;> exact e0
 | j + 1 => by
  have ih := @qoU k j
  have g := @go (qD [qjy k]) [7, 9, 11, 13, 15, 17] qxi [.frz 4 false (RTy.list I), .autoB [4, 5] true []]
  refine ⟨?_, ?_, ?_, ?_, ?_, ?_⟩
  ·intro y0 y1 y2 r h
   rw [Wx] at h
   exact g (gS h (fun h => qu h id fun h => gD h 9 ih.2.1) fun h => gD h 9 ih.2.1)
  ·intro y0 y1 y2 r h
   rw [Zr] at h
   exact g (gS h (fun h => qu h id fun h => gD h 11 ih.2.2.1) fun h => gD h 11 ih.2.2.1)
  ·intro y0 y1 y2 r h
   rw [Wn] at h
   exact g (gS h (fun h => qu h id fun h => gD h 13 ih.2.2.2.1) fun h => gD h 13 ih.2.2.2.1)
  ·intro y0 y1 y2 r h
   rw [Wp] at h
   exact g (gS h (fun h => qu h id fun h => gD h 15 ih.2.2.2.2.1) fun h => gD h 15 ih.2.2.2.2.1)
  ·intro y0 y1 y2 r h
   rw [Ws] at h
   exact g (gS h (fun h => qu h id fun h => gD h 17 ih.2.2.2.2.2) fun h => gD h 17 ih.2.2.2.2.2)
  ·intro y0 r h
   rw [Zf] at h
   exact g (gL h)
theorem qLL (k a b r) (h : qeO k a b = some r): qEq a b r := qN Tryz.f140 (go (qD [qjy k]) [7, 9, 11, 13, 15, 17] qxi [.frz 4 false (RTy.list I), .autoB [4, 5] true []] (qu h qu9 fun h => qB h fun h => gS h (fun h => qu h id fun h => gD h 7 (qoU k k).1) fun h => gD h 7 (qoU k k).1))
theorem qNf {k a b} (h : (qeO k a b).isSome): qEq a b (qbF k a b) := qJ h (qLL k a b)
def qkN (r : List I.T × Int) : AV := .tup [ro I r.1, ri r.2]
abbrev qzv (a : T8.T) (b : T22.T) (d : Int) (e : List T10.T) (r : List I.T × Int) : Prop := CC Tryz.prog 100 [.agg (qy (qr T8 a)), .agg (qy (qr T22 b)), ri d, ro T10 e] [] (qkN r) (nb r)
def qCF := fun y0 y1 y2 y3 => (⟨qI 121 [(2, ri y0), (3, ro T10 y1), (10, ro I y2), (12, ri y3)], []⟩ : St)
def qzd := fun y0 y1 y2 y3 y4 => (⟨qI 121 [(2, ri y0), (3, ro T10 y1), (10, ro I y2), (13, .own 1000000 0), (14, ri y3)], [(1000000, 0, .row 3 I y4)]⟩ : St)
def qxA := fun y0 y1 y2 y3 y4 y5 y6 => (⟨qI 121 [(2, ri y0), (3, ro T10 y1), (10, ro I y2), (13, .own 1000000 0), (14, ri y3), (15, rb y4), (16, ri y5)], [(1000000, 0, .row 3 I y6)]⟩ : St)
mutual
def VZ (k : Nat) : Nat → Int → List T10.T → List I.T → Int → Option (List I.T × Int)
 | 0, _, _, _, _ => none
 | j + 1, y0, y1, y2, y3 =>
 bif y3 < y1.length then
 if (0 ≤ y3) ∧ (y3 < y1.length) ∧ (decide ((y1.getD y3.toNat T10.dflt).1 < (1 : Int)) = false → 0 ≤ y3) ∧ (decide ((y1.getD y3.toNat T10.dflt).1 < (1 : Int)) = false → y3 < y1.length) then
 bif (decide ((y1.getD y3.toNat T10.dflt).1 < (1 : Int)) || decide ((y1.getD y3.toNat T10.dflt).1 > (1000000 : Int))) then
 some ([], 1)
 else
 if (0 ≤ y3) ∧ (y3 < y1.length) ∧ (decide ((y1.getD y3.toNat T10.dflt).2.1 < (1 : Int)) = false → 0 ≤ y3) ∧ (decide ((y1.getD y3.toNat T10.dflt).2.1 < (1 : Int)) = false → y3 < y1.length) then
 bif (decide ((y1.getD y3.toNat T10.dflt).2.1 < (1 : Int)) || decide ((y1.getD y3.toNat T10.dflt).2.1 > (6 : Int))) then
 some ([], 17)
 else
 if (0 ≤ y3) ∧ (y3 < y1.length) ∧ (decide ((y1.getD y3.toNat T10.dflt).2.2 < (0 : Int)) = false → 0 ≤ y3) ∧ (decide ((y1.getD y3.toNat T10.dflt).2.2 < (0 : Int)) = false → y3 < y1.length) then
 bif (decide ((y1.getD y3.toNat T10.dflt).2.2 < (0 : Int)) || decide ((y1.getD y3.toNat T10.dflt).2.2 > (2147483647 : Int))) then
 some ([], 1)
 else
 VZ k j y0 y1 y2 (qa .i64 (y3 + 1))
 else none
 else none
 else none
 else
 QI k j y0 y1 y2 0 ([])
def QI (k : Nat) : Nat → Int → List T10.T → List I.T → Int → List I.T → Option (List I.T × Int)
 | 0, _, _, _, _, _ => none
 | j + 1, y0, y1, y2, y3, y4 =>
 bif y3 < y2.length then
 Zv k j y0 y1 y2 y3 false 0 y4
 else
 some (y4, 0)
def Zv (k : Nat) : Nat → Int → List T10.T → List I.T → Int → Bool → Int → List I.T → Option (List I.T × Int)
 | 0, _, _, _, _, _, _, _ => none
 | j + 1, y0, y1, y2, y3, y4, y5, y6 =>
 bif y5 < y1.length then
 if (y4 = false → 0 ≤ y5) ∧ (y4 = false → y5 < y1.length) ∧ (y4 = false → ((y1.getD y5.toNat T10.dflt).1 == y0) = true → 0 ≤ y5) ∧ (y4 = false → ((y1.getD y5.toNat T10.dflt).1 == y0) = true → y5 < y1.length) ∧ (y4 = false → ((y1.getD y5.toNat T10.dflt).1 == y0) = true → 0 ≤ y3) ∧ (y4 = false → ((y1.getD y5.toNat T10.dflt).1 == y0) = true → y3 < y2.length) then
 Zv k j y0 y1 y2 y3 (y4 || (y1.getD y5.toNat T10.dflt).1 == y0 && (y1.getD y5.toNat T10.dflt).2.1 == y2.getD y3.toNat I.dflt) (qa .i64 (y5 + 1)) y6
 else none
 else
 bif (!y4) then
 if (0 ≤ y3) ∧ (y3 < y2.length) ∧ ((y6.length + [y2.getD y3.toNat I.dflt].length) * (8 : Nat) ≤ (140737488355328 : Nat)) then
 QI k j y0 y1 y2 (qa .i64 (y3 + 1)) (y6 ++ [y2.getD y3.toNat I.dflt])
 else none
 else
 QI k j y0 y1 y2 (qa .i64 (y3 + 1)) y6
end
def qeQ (k : Nat) (a : T8.T) (b : T22.T) (d : Int) (e : List T10.T) : Option (List I.T × Int) :=
 if ((qeO k a b).isSome) then
 bif ((qbF k a b).2 != (0 : Int)) then
 some ([], (qbF k a b).2)
 else
 bif (↑e.length : Int) > (512 : Int) then
 some ([], 8)
 else
 VZ k k d e ((qbF k a b).1) 0
 else none
def qcm := fun k a b d e => (qeQ k a b d e).getD ([], 0)
def qJL (k : Nat) : Ke := (100, mo 4, fun
 | [.agg l, .agg f, .r (.v (.int .i64 d)), .r (.ro m i)], [] => (qW [] T8 l).bind fun a => (qW [] T22 f).bind fun b => (qE m T10 i).bind fun e => some (.one (qkN (qcm k a b d e), []))
 | _, _ => none)
def qwh : List (Nat × List Cmd) := [(7, [.autoB [2, 3, 10, 12] false []]), (17, [.row 13 3 I, .autoB [2, 3, 10, 13, 14] false []]), (21, [.autoB [2, 3, 10, 13, 14, 15, 16] false []])]
abbrev qst := EP Tryz.f100 0 qkN nb
theorem qwm (k) : ∀ j, (∀ {y0 y1 y2 y3}, qst 7 (qCF y0 y1 y2 y3) (VZ k j y0 y1 y2 y3)) ∧ (∀ {y0 y1 y2 y3 y4}, qst 17 (qzd y0 y1 y2 y3 y4) (QI k j y0 y1 y2 y3 y4)) ∧ (∀ {y0 y1 y2 y3 y4 y5 y6}, qst 21 (qxA y0 y1 y2 y3 y4 y5 y6) (Zv k j y0 y1 y2 y3 y4 y5 y6))
 | 0 => by and_intros <;> intros <;> exact e0
 | j + 1 => by
  have ih := @qwm k j
  have g := @go (qD [qxc k]) [] qwh [.frz 8 false (RTy.list I), .autoB [8, 9] true []]
  refine ⟨?_, ?_, ?_⟩
  ·intro y0 y1 y2 y3 r h
   rw [VZ] at h
   exact g (gS h (fun h => gN h Xo fun h => qB h fun h => gN h Xo fun h => qB h fun h => gN h Xo fun h => qB h fun h => gD h 7 ih.1) fun h => gD h 17 ih.2.1)
  ·intro y0 y1 y2 y3 y4 r h
   rw [QI] at h
   exact g (gS h (fun h => gD h 21 ih.2.2) fun h => gL h)
  ·intro y0 y1 y2 y3 y4 y5 y6 r h
   rw [Zv] at h
   exact g (gS h (fun h => gN h (fun q => qf q.1 (qf q.2.1 (qf q.2.2.1 (qf q.2.2.2.1 (qf q.2.2.2.2.1 (qf q.2.2.2.2.2 qR)))))) fun h => gD h 21 ih.2.2) fun h => gS h (fun h => gN h Xl fun h => gD h 17 ih.2.1) fun h => gD h 17 ih.2.1)
theorem qLW (k a b d e r) (h : qeQ k a b d e = some r): qzv a b d e r := qN Tryz.f100 (go (qD [qxc k]) [] qwh [.frz 8 false (RTy.list I), .autoB [8, 9] true []] (qu h qNf fun h => qB h fun h => qB h fun h => gD h 7 (qwm k k).1))
theorem qLc {k a b d e} (h : (qeQ k a b d e).isSome): qzv a b d e (qcm k a b d e) := qJ h (qLW k a b d e)
abbrev qz5 (a : T8.T) (b : T22.T) (d : Int) (e : List T10.T) (r : Int) : Prop := CC Tryz.prog 54 [.agg (qy (qr T8 a)), .agg (qy (qr T22 b)), ri d, ro T10 e] [] (ri r) (nb r)
def qek (k : Nat) (a : T8.T) (b : T22.T) (d : Int) (e : List T10.T) : Option Int :=
 if ((qeQ k a b d e).isSome) then
 bif ((qcm k a b d e).2 != (0 : Int)) then
 some ((qcm k a b d e).2)
 else
 bif (↑ (qcm k a b d e).1.length : Int) > (0 : Int) then
 some 31
 else
 some 0
 else none
def qbT := fun k a b d e => (qek k a b d e).getD 0
def qLa (k : Nat) : Ke := (54, mo 4, fun
 | [.agg i, .agg f, .r (.v (.int .i64 d)), .r (.ro l g)], [] => (qW [] T8 i).bind fun a => (qW [] T22 f).bind fun b => (qE l T10 g).bind fun e => some (.one (ri (qbT k a b d e), []))
 | _, _ => none)
theorem qLJ (k a b d e r) (h : qek k a b d e = some r): qz5 a b d e r := qN Tryz.f54 (go (qD [qJL k]) [] [] [.autoB [8] true []] (qu h qLc fun h => qB h fun h => qB h fun h => gL h))
theorem qLQ {k a b d e} (h : (qek k a b d e).isSome): qz5 a b d e (qbT k a b d e) := qJ h (qLJ k a b d e)
end
abbrev vY := T8.T
abbrev Wa := T22.T
abbrev Wv := T10.T
def jd (c : Bool) (n : Int) (l : List Int) : List Int := bif c then l ++ [n] else l
def jdS (o : vY) (f : Wa) : List Int :=
 jd (decide (f.2.2.2.2.2 > o.2.2.2.2.2.2.2.2.2.2.1)) 6 (jd (decide (f.2.2.2.2.1 > o.2.2.2.2.2.2.2.2.2.1)) 5 (jd (decide (f.2.2.2.1 < qa .i64 (o.2.2.2.2.1 - o.2.2.2.2.2.1)) || decide (f.2.2.2.1 > o.2.2.2.2.1)) 4 (jd (f.2.2.1 != o.2.2.1) 3 (jd (!f.2.1) 2 (jd (f.1 != o.2.1) 1 [])))))
theorem Zp (c : Bool) (n : Int) (l : List Int) : (jd c n l).length ≤ l.length + 1 := by
 unfold jd; cases c <;> simp
def Vh (o : vY) (f : Wa) : List Int × Int := if Wc o ≠ 0 then ([], Wc o) else (jdS o f, 0)
theorem qK8 (o : vY) (f : Wa) : (jdS o f).length ≤ 6 := by
 unfold jdS
 have h1 := Zp (f.1 != o.2.1) 1 []
 have h2 := Zp (!f.2.1) 2 (jd (f.1 != o.2.1) 1 [])
 have h3 := Zp (f.2.2.1 != o.2.2.1) 3 (jd (!f.2.1) 2 (jd (f.1 != o.2.1) 1 []))
 have h4 := Zp (decide (f.2.2.2.1 < qa .i64 (o.2.2.2.2.1 - o.2.2.2.2.2.1)) || decide (f.2.2.2.1 > o.2.2.2.2.1)) 4 (jd (f.2.2.1 != o.2.2.1) 3 (jd (!f.2.1) 2 (jd (f.1 != o.2.1) 1 [])))
 have h5 := Zp (decide (f.2.2.2.2.1 > o.2.2.2.2.2.2.2.2.2.1)) 5 (jd (decide (f.2.2.2.1 < qa .i64 (o.2.2.2.2.1 - o.2.2.2.2.2.1)) || decide (f.2.2.2.1 > o.2.2.2.2.1)) 4 (jd (f.2.2.1 != o.2.2.1) 3 (jd (!f.2.1) 2 (jd (f.1 != o.2.1) 1 []))))
 have h6 := Zp (decide (f.2.2.2.2.2 > o.2.2.2.2.2.2.2.2.2.2.1)) 6 (jd (decide (f.2.2.2.2.1 > o.2.2.2.2.2.2.2.2.2.1)) 5 (jd (decide (f.2.2.2.1 < qa .i64 (o.2.2.2.2.1 - o.2.2.2.2.2.1)) || decide (f.2.2.2.1 > o.2.2.2.2.1)) 4 (jd (f.2.2.1 != o.2.2.1) 3 (jd (!f.2.1) 2 (jd (f.1 != o.2.1) 1 [])))))
 simp only [List.length_nil] at h1
 omega
theorem Q8 {α : Type} {c : Bool} {n : Int} {y : List Int} {g : List Int → Option α} (h : y.length ≤ 20) : (bif c then (if ((y.length + [n].length) * (8 : Nat) ≤ (140737488355328 : Nat)) then g (y ++ [n]) else none) else g y) = g (jd c n y) := by
 unfold jd
 cases c
 ·rfl
 ·rw [qi, qi, qd (by simp only [qk]; omega)]
theorem jp1 (k j : Nat) (y : List Int) (h : T32.T) (hy : y.length ≤ 20) : Q6 k (j + 1) y h = vr k j (jd (h.1.1 != h.2.2.1) 1 y) h := by
 rw [Q6, qd ⟨by decide, by show (0 : Int) < ((6 : Nat) : Int); decide⟩, qd (show (qhc k h).isSome = true from rfl)]
 exact Q8 (n := 1) (g := fun y => vr k j y h) hy
theorem jp2 (k j : Nat) (y : List Int) (h : T32.T) (hy : y.length ≤ 20) : vr k (j + 1) y h = vu k j (jd (!h.1.2.1) 2 y) h := by
 rw [vr, qd ⟨by decide, by show (1 : Int) < ((6 : Nat) : Int); decide⟩, qd (show (qhi k h).isSome = true from rfl)]
 exact Q8 (n := 2) (g := fun y => vu k j y h) hy
theorem jp3 (k j : Nat) (y : List Int) (h : T32.T) (hy : y.length ≤ 20) : vu k (j + 1) y h = vv k j (jd (h.1.2.2.1 != h.2.2.2.1) 3 y) h := by
 rw [vu, qd ⟨by decide, by show (2 : Int) < ((6 : Nat) : Int); decide⟩, qd (show (qij k h).isSome = true from rfl)]
 exact Q8 (n := 3) (g := fun y => vv k j y h) hy
theorem jp4 (k j : Nat) (y : List Int) (h : T32.T) (hy : y.length ≤ 20) : vv k (j + 1) y h = vo k j (jd (decide (h.1.2.2.2.1 < qa .i64 (h.2.2.2.2.2.1 - h.2.2.2.2.2.2.1)) || decide (h.1.2.2.2.1 > h.2.2.2.2.2.1)) 4 y) h := by
 rw [vv, qd ⟨by decide, by show (3 : Int) < ((6 : Nat) : Int); decide⟩, qd (show (qiO k h).isSome = true from rfl)]
 exact Q8 (n := 4) (g := fun y => vo k j y h) hy
theorem jp5 (k j : Nat) (y : List Int) (h : T32.T) (hy : y.length ≤ 20) : vo k (j + 1) y h = vz k j (jd (decide (h.1.2.2.2.2.1 > h.2.2.2.2.2.2.2.2.2.2.1)) 5 y) h := by
 rw [vo, qd ⟨by decide, by show (4 : Int) < ((6 : Nat) : Int); decide⟩, qd (show (qiG k h).isSome = true from rfl)]
 exact Q8 (n := 5) (g := fun y => vz k j y h) hy
theorem jp6 (k j : Nat) (y : List Int) (h : T32.T) (hy : y.length ≤ 20) : vz k (j + 1) y h = Qg k j (jd (decide (h.1.2.2.2.2.2 > h.2.2.2.2.2.2.2.2.2.2.2.1)) 6 y) h := by
 rw [vz, qd ⟨by decide, by show (5 : Int) < ((6 : Nat) : Int); decide⟩, qd (show (qh7 k h).isSome = true from rfl)]
 exact Q8 (n := 6) (g := fun y => Qg k j y h) hy
theorem qQV (o : vY) (f : Wa) : ((jd (f.1 != o.2.1) 1 []).length ≤ 20 ∧ (jd (!f.2.1) 2 (jd (f.1 != o.2.1) 1 [])).length ≤ 20 ∧ (jd (f.2.2.1 != o.2.2.1) 3 (jd (!f.2.1) 2 (jd (f.1 != o.2.1) 1 []))).length ≤ 20 ∧ (jd (decide (f.2.2.2.1 < qa .i64 (o.2.2.2.2.1 - o.2.2.2.2.2.1)) || decide (f.2.2.2.1 > o.2.2.2.2.1)) 4 (jd (f.2.2.1 != o.2.2.1) 3 (jd (!f.2.1) 2 (jd (f.1 != o.2.1) 1 [])))).length ≤ 20 ∧ (jd (decide (f.2.2.2.2.1 > o.2.2.2.2.2.2.2.2.2.1)) 5 (jd (decide (f.2.2.2.1 < qa .i64 (o.2.2.2.2.1 - o.2.2.2.2.2.1)) || decide (f.2.2.2.1 > o.2.2.2.2.1)) 4 (jd (f.2.2.1 != o.2.2.1) 3 (jd (!f.2.1) 2 (jd (f.1 != o.2.1) 1 []))))).length ≤ 20) := by
 have h1 := Zp (f.1 != o.2.1) 1 []
 have h2 := Zp (!f.2.1) 2 (jd (f.1 != o.2.1) 1 [])
 have h3 := Zp (f.2.2.1 != o.2.2.1) 3 (jd (!f.2.1) 2 (jd (f.1 != o.2.1) 1 []))
 have h4 := Zp (decide (f.2.2.2.1 < qa .i64 (o.2.2.2.2.1 - o.2.2.2.2.2.1)) || decide (f.2.2.2.1 > o.2.2.2.2.1)) 4 (jd (f.2.2.1 != o.2.2.1) 3 (jd (!f.2.1) 2 (jd (f.1 != o.2.1) 1 [])))
 have h5 := Zp (decide (f.2.2.2.2.1 > o.2.2.2.2.2.2.2.2.2.1)) 5 (jd (decide (f.2.2.2.1 < qa .i64 (o.2.2.2.2.1 - o.2.2.2.2.2.1)) || decide (f.2.2.2.1 > o.2.2.2.2.1)) 4 (jd (f.2.2.1 != o.2.2.1) 3 (jd (!f.2.1) 2 (jd (f.1 != o.2.1) 1 []))))
 simp only [List.length_nil] at h1
 omega
theorem qwD (k : Nat) (hk : 10 ≤ k) (o : vY) (f : Wa) : qeh k o f = some (Vh o f) := by
 unfold qeh Vh
 rw [qiU, qwA, qb, qd rfl]
 by_cases h : Wc o = 0
 ·obtain ⟨h1, h2, h3, h4, h5⟩ := qQV o f
  obtain ⟨k', hk'⟩ : ∃ q, k = q + 7 := ⟨k - 7, by omega⟩
  rw [show (Wc o != (0 : Int)) = false by rw [h]; rfl, qg]
  show Q6 k k [] (f, o) = some (if Wc o ≠ 0 then _ else _)
  rw [qm (fun x => x h)]
  conv => lhs; arg 2; rw [hk']
  rw [jp1 k _ [] (f, o) (by simp), jp2 k _ _ (f, o) h1, jp3 k _ _ (f, o) h2, jp4 k _ _ (f, o) h3, jp5 k _ _ (f, o) h4, jp6 k _ _ (f, o) h5, Qg]
  rfl
 ·rw [bne_iff_ne.2 h, qi, qd h]
theorem qKQ (k : Nat) (hk : 10 ≤ k) (o : vY) (f : Wa) : qbN k o f = Vh o f := by unfold qbN; rw [qwD k hk]; rfl
theorem jr7 (k j : Nat) (o : vY) (f : Wa) (y : List Int) (hy : y.length ≤ 20) : Wx k (j + 1) o f y = Zr k j o f (jd (!f.2.1) 2 y) := by rw [Wx]; exact Q8 (g := fun y => Zr k j o f y) hy
theorem jr9 (k j : Nat) (o : vY) (f : Wa) (y : List Int) (hy : y.length ≤ 20) : Zr k (j + 1) o f y = Wn k j o f (jd (f.2.2.1 != o.2.2.1) 3 y) := by rw [Zr]; exact Q8 (g := fun y => Wn k j o f y) hy
theorem qS5 (k j : Nat) (o : vY) (f : Wa) (y : List Int) (hy : y.length ≤ 20) : Wn k (j + 1) o f y = Wp k j o f (jd (decide (f.2.2.2.1 < qa .i64 (o.2.2.2.2.1 - o.2.2.2.2.2.1)) || decide (f.2.2.2.1 > o.2.2.2.2.1)) 4 y) := by rw [Wn]; exact Q8 (g := fun y => Wp k j o f y) hy
theorem qTe (k j : Nat) (o : vY) (f : Wa) (y : List Int) (hy : y.length ≤ 20) : Wp k (j + 1) o f y = Ws k j o f (jd (decide (f.2.2.2.2.1 > o.2.2.2.2.2.2.2.2.2.1)) 5 y) := by rw [Wp]; exact Q8 (g := fun y => Ws k j o f y) hy
theorem qST (k j : Nat) (o : vY) (f : Wa) (y : List Int) (hy : y.length ≤ 20) : Ws k (j + 1) o f y = Zf k j (jd (decide (f.2.2.2.2.2 > o.2.2.2.2.2.2.2.2.2.2.1)) 6 y) := by rw [Ws]; exact Q8 (g := fun y => Zf k j y) hy
theorem qr3 (k : Nat) (hk : 10 ≤ k) (o : vY) (f : Wa) : qeO k o f = some (Vh o f) := by
 unfold qeO Vh
 rw [qkU, qt8, qb, qd rfl]
 by_cases h : Wc o = 0
 ·obtain ⟨h1, h2, h3, h4, h5⟩ := qQV o f
  obtain ⟨k', hk'⟩ : ∃ q, k = q + 6 := ⟨k - 6, by omega⟩
  rw [show (Wc o != (0 : Int)) = false by rw [h]; rfl, qg]
  have e : (bif (f.1 != o.2.1) then (if ([(1 : Int)].length * (8 : Nat) ≤ (140737488355328 : Nat)) then Wx k k o f [1] else none) else Wx k k o f []) = Wx k k o f (jd (f.1 != o.2.1) 1 []) := by
   unfold jd
   cases (f.1 != o.2.1)
   ·rfl
   ·rw [qi, qi, qd (by decide)]; rfl
  refine Eq.trans e ?_
  rw [qm (fun x => x h)]
  conv => lhs; arg 2; rw [hk']
  rw [jr7 k _ o f _ h1, jr9 k _ o f _ h2, qS5 k _ o f _ h3, qTe k _ o f _ h4, qST k _ o f _ h5, Zf]
  rfl
 ·rw [bne_iff_ne.2 h, qi, qd h]
theorem qGo (k : Nat) (hk : 10 ≤ k) (o : vY) (f : Wa) : qbF k o f = Vh o f := by unfold qbF; rw [qr3 k hk]; rfl
theorem qxb (o : vY) (f : Wa) : (Vh o f).1.length ≤ 6 := by
 unfold Vh; split
 ·simp
 ·exact qK8 o f
def wv1 (w : Wv) : Int := bif (decide (w.1 < (1 : Int)) || decide (w.1 > (1000000 : Int))) then 1 else bif (decide (w.2.1 < (1 : Int)) || decide (w.2.1 > (6 : Int))) then 17 else bif (decide (w.2.2 < (0 : Int)) || decide (w.2.2 > (2147483647 : Int))) then 1 else 0
def Ye : List Wv → Int
 | [] => 0
 | w :: t => bif wv1 w != 0 then wv1 w else Ye t
def X9 (roll : Int) (l : List Wv) (n : Int) : Bool := l.any fun w => w.1 == roll && w.2.1 == n
def unw (roll : Int) (l : List Wv) (q : List Int) : List Int := q.filter fun n => !X9 roll l n
theorem qKg (k : Nat) (l : List Wv) (hl : l.length ≤ 40) : ∀ (d i j : Nat), i + d = l.length → d < j → Xe k j l (l.length : Int) (i : Int) = some (Ye (l.drop i)) := by
 intro d
 induction d with
 | zero =>
  intro i j hi hj
  obtain ⟨j, rfl⟩ := qQ (by omega : 0 < j)
  rw [Xe, qx (by omega : ¬ (i : Int) < (l.length : Int)), qg, qh (by omega)]; rfl
 | succ d ih =>
  intro i j hi hj
  obtain ⟨j, rfl⟩ := qQ (by omega : 0 < j)
  rw [Xe, qA (by omega : (i : Int) < (l.length : Int)), qi, qd ⟨by omega, by omega⟩, qc, qF i (by omega), ih (i + 1) j (by omega) (by omega), qq l i T10.dflt (by omega), Ye]
  unfold wv1
  cases (decide ((l.getD i T10.dflt).1 < (1 : Int)) || decide ((l.getD i T10.dflt).1 > (1000000 : Int)))
  ·cases (decide ((l.getD i T10.dflt).2.1 < (1 : Int)) || decide ((l.getD i T10.dflt).2.1 > (6 : Int)))
   ·cases (decide ((l.getD i T10.dflt).2.2 < (0 : Int)) || decide ((l.getD i T10.dflt).2.2 > (2147483647 : Int))) <;> rfl
   ·rfl
  ·rfl
theorem qv6 (k : Nat) (hk : 100 ≤ k) (l : List Wv) (hl : l.length ≤ 40) : qef k l = some (Ye l) := by
 unfold qef
 rw [qx (by omega : ¬ (l.length : Int) > 512), qg]
 exact qKg k l hl l.length 0 k (by omega) (by omega)
theorem qJu (k : Nat) (hk : 100 ≤ k) (l : List Wv) (hl : l.length ≤ 40) : qfk k l = Ye l := by unfold qfk; rw [qv6 k hk l hl]; rfl
theorem qLE (k : Nat) (roll : Int) (l : List Wv) (q : List Int) (hq : q.length ≤ 6) (M : List (Int × Bool)) (hM : ∀ x, (wd I (β := Bool) x M).getD false = X9 roll l x) : ∀ (d i j : Nat) (out : List Int), i + d = q.length → d < j → out.length ≤ i →
  Wk k j q (q.length : Int) (i : Int) M out = some (out ++ unw roll l (q.drop i), 0) := by
 intro d
 induction d with
 | zero =>
  intro i j out hi hj ho
  obtain ⟨j, rfl⟩ := qQ (by omega : 0 < j)
  rw [Wk, qx (by omega : ¬ (i : Int) < (q.length : Int)), qg, qh (by omega)]
  show some (out, (0 : Int)) = some (out ++ [], 0)
  rw [qY]
 | succ d ih =>
  intro i j out hi hj ho
  obtain ⟨j, rfl⟩ := qQ (by omega : 0 < j)
  rw [Wk, qA (by omega : (i : Int) < (q.length : Int)), qi, qd ⟨by omega, by omega⟩, qc, qF i (by omega), ih (i + 1) j out (by omega) (by omega) (by omega), ih (i + 1) j (out ++ [q.getD i I.dflt]) (by omega) (by omega) (by rw [qn, qk]; omega), qd (by simp only [qk]; omega), qq q i I.dflt (by omega)]
  unfold unw
  rw [List.filter_cons]
  show (bif !(wd I (β := Bool) (q.getD i I.dflt) M).getD false then _ else _) = _
  rw [hM]
  cases X9 roll l (q.getD i I.dflt)
  ·rw [qd1, qi, qd rfl, qw]; rfl
  ·rw [vB, qg, qm (fun h => by cases h)]
theorem qNy (k : Nat) (roll : Int) (l0 : List Wv) (hl : l0.length ≤ 40) (q : List Int) (hq : q.length ≤ 6) : ∀ (d i j : Nat) (M : List (Int × Bool)), i + d = l0.length → d + 20 < j → (∀ x, (wd I (β := Bool) x M).getD false = X9 roll (l0.take i) x) →
  Zk k j roll q l0 (l0.length : Int) (i : Int) M = some (unw roll l0 q, 0) := by
 intro d
 induction d with
 | zero =>
  intro i j M hi hj hM
  obtain ⟨j, rfl⟩ := qQ (by omega : 0 < j)
  rw [wI (by omega)] at hM
  rw [Zk, qx (by omega : ¬ (i : Int) < (l0.length : Int)), qg]
  exact qLE k roll l0 q hq M hM q.length 0 j [] (by omega) (by omega) (by simp)
 | succ d ih =>
  intro i j M hi hj hM
  obtain ⟨j, rfl⟩ := qQ (by omega : 0 < j)
  have htk : l0.take (i + 1) = l0.take i ++ [l0.getD i T10.dflt] := wR l0 i T10.dflt (by omega)
  have hw : ∀ x, X9 roll (l0.take (i + 1)) x = (X9 roll (l0.take i) x || ((l0.getD i T10.dflt).1 == roll && (l0.getD i T10.dflt).2.1 == x)) := fun x => by
   rw [htk]
   unfold X9
   rw [List.any_append, List.any_cons, List.any_nil, Bool.or_false]
  rw [Zk, qA (by omega : (i : Int) < (l0.length : Int)), qi, qd ⟨by omega, by omega⟩, qc, qF i (by omega)]
  cases hc : ((l0.getD i T10.dflt).1 == roll)
  ·rw [qg]
   exact ih (i + 1) j M (by omega) (by omega) fun x => by rw [hw x, hc, wD, Bool.or_false]; exact hM x
  ·rw [qi]
   exact ih (i + 1) j _ (by omega) (by omega) fun x => by rw [qly, hM x, hw x, hc, ww, Bool.or_comm]
def QF (o : vY) (f : Wa) (roll : Int) (l : List Wv) : List Int × Int := if (Vh o f).2 ≠ 0 then ([], (Vh o f).2) else if Ye l ≠ 0 then ([], Ye l) else (unw roll l (Vh o f).1, 0)
theorem qw2 {o : vY} {f : Wa} {roll : Int} {l : List Wv} (h : (Vh o f).2 ≠ 0) : QF o f roll l = ([], (Vh o f).2) := by unfold QF; rw [qd h]
theorem qwf {o : vY} {f : Wa} {roll : Int} {l : List Wv} (h : (Vh o f).2 = 0) (h2 : Ye l ≠ 0) : QF o f roll l = ([], Ye l) := by unfold QF; rw [qm (fun x => x h), qd h2]
theorem qwb {o : vY} {f : Wa} {roll : Int} {l : List Wv} (h : (Vh o f).2 = 0) (h2 : Ye l = 0) : QF o f roll l = (unw roll l (Vh o f).1, 0) := by unfold QF; rw [qm (fun x => x h), qm (fun x => x h2)]
theorem qps (k : Nat) (hk : 200 ≤ k) (o : vY) (f : Wa) (roll : Int) (l : List Wv) (hl : l.length ≤ 40) : qd9 k o f roll l = some (QF o f roll l) := by
 unfold qd9
 rw [qwD k (by omega), qKQ k (by omega), qv6 k (by omega) l hl, qJu k (by omega) l hl, qb, qd rfl]
 by_cases h : (Vh o f).2 = 0
 ·rw [show ((Vh o f).2 != (0 : Int)) = false by rw [h]; rfl, qg, qb, qd rfl]
  by_cases h2 : Ye l = 0
  ·rw [qwb h h2, show (Ye l != (0 : Int)) = false by rw [h2]; rfl, qg]
   exact qNy k roll l hl (Vh o f).1 (qxb o f) l.length 0 k [] (by omega) (by omega) (fun x => rfl)
  ·rw [qwf h h2, bne_iff_ne.2 h2, qi]
 ·rw [qw2 h, bne_iff_ne.2 h, qi]
theorem qCh (k : Nat) (hk : 200 ≤ k) (o : vY) (f : Wa) (roll : Int) (l : List Wv) (hl : l.length ≤ 40) : qb1 k o f roll l = QF o f roll l := by unfold qb1; rw [qps k hk o f roll l hl]; rfl
def qfV (o : vY) (f : Wa) (roll : Int) (l : List Wv) : Int := bif (QF o f roll l).2 != 0 then (QF o f roll l).2 else bif decide (((QF o f roll l).1.length : Int) > 0) then 31 else 0
theorem qp5 (k : Nat) (hk : 200 ≤ k) (o : vY) (f : Wa) (roll : Int) (l : List Wv) (hl : l.length ≤ 40) : qeu k o f roll l = some (qfV o f roll l) := by
 unfold qeu qfV
 rw [qps k hk o f roll l hl, qCh k hk o f roll l hl, qb, qd rfl]
 cases ((QF o f roll l).2 != 0)
 ·cases decide (((QF o f roll l).1.length : Int) > 0) <;> rfl
 ·rfl
theorem qz6 (k : Nat) (hk : 200 ≤ k) (o : vY) (f : Wa) (roll : Int) (l : List Wv) (hl : l.length ≤ 40) : qaD k o f roll l = qfV o f roll l := by unfold qaD; rw [qp5 k hk o f roll l hl]; rfl
theorem qFG (k : Nat) (roll : Int) (l : List Wv) (hl : l.length ≤ 40) (q : List Int) (c : Nat) (hc : c < q.length) (hq : q.length ≤ 6) (out : List Int) (ho : out.length ≤ 6) : ∀ (d i j : Nat) (y : Bool), i + d = l.length →
  Zv k (d + 1 + j) roll l q (c : Int) y (i : Int) out = QI k j roll l q ((c + 1 : Nat) : Int) (bif (y || X9 roll (l.drop i) (q.getD c I.dflt)) then out else out ++ [q.getD c I.dflt]) := by
 have c3 : (0 : Int) ≤ (c : Int) := by omega
 have c4 : (c : Int) < (q.length : Int) := by omega
 intro d
 induction d with
 | zero =>
  intro i j y hi
  rw [show 0 + 1 + j = j + 1 by omega, Zv, qx (by omega : ¬ (i : Int) < (l.length : Int)), qg, qh (by omega), qc, qd ⟨c3, c4, by simp only [qk]; omega⟩, qF c (by omega)]
  cases y <;> rfl
 | succ d ih =>
  intro i j y hi
  have h3 : (0 : Int) ≤ (i : Int) := by omega
  have h4 : (i : Int) < (l.length : Int) := by omega
  rw [show d + 1 + 1 + j = (d + 1 + j) + 1 by omega, Zv, qA h4, qi, qd ⟨fun _ => h3, fun _ => h4, fun _ _ => h3, fun _ _ => h4, fun _ _ => c3, fun _ _ => c4⟩, qc, qc, qF i (by omega), ih (i + 1) j _ (by omega), qq l i T10.dflt (by omega), Bool.or_assoc]
  rfl
theorem qF3 (k : Nat) (roll : Int) (l : List Wv) (hl : l.length ≤ 40) (q : List Int) (hq : q.length ≤ 6) : ∀ (d c j : Nat) (out : List Int), c + d = q.length → d * 50 < j → out.length ≤ c →
  QI k j roll l q (c : Int) out = some (out ++ unw roll l (q.drop c), 0) := by
 intro d
 induction d with
 | zero =>
  intro c j out hc hj ho
  obtain ⟨j, rfl⟩ := qQ (by omega : 0 < j)
  rw [QI, qx (by omega : ¬ (c : Int) < (q.length : Int)), qg, qh (by omega)]
  show some (out, (0 : Int)) = some (out ++ [], 0)
  rw [qY]
 | succ d ih =>
  intro c j out hc hj ho
  rw [qTX] at hj
  generalize hz : d * 50 = z at *
  obtain ⟨j, rfl⟩ : ∃ q, j = (l.length + 1 + q) + 1 := ⟨j - l.length - 2, by omega⟩
  have h21 := qFG k roll l hl q c (by omega) hq out (by omega) l.length 0 j false (by omega)
  rw [wm, zn] at h21
  rw [show ((0 : Nat) : Int) = 0 from rfl] at h21
  rw [QI, qA (by omega : (c : Int) < (q.length : Int)), qi, h21, qq q c I.dflt (by omega)]
  unfold unw
  rw [List.filter_cons]
  cases X9 roll l (q.getD c I.dflt)
  ·rw [qg, qd1, qd rfl, ih (c + 1) j _ (by omega) (by omega) (by rw [qn, qk]; omega), qw]
   rfl
  ·rw [qi, vB, qm (fun h => by cases h), ih (c + 1) j out (by omega) (by omega) (by omega)]
   rfl
theorem qKp (k : Nat) (roll : Int) (l : List Wv) (hl : l.length ≤ 40) (q : List Int) (hq : q.length ≤ 6) : ∀ (d i j : Nat), i + d = l.length → d + 310 < j →
  VZ k j roll l q (i : Int) = some (bif Ye (l.drop i) != 0 then ([], Ye (l.drop i)) else (unw roll l q, 0)) := by
 intro d
 induction d with
 | zero =>
  intro i j hi hj
  obtain ⟨j, rfl⟩ := qQ (by omega : 0 < j)
  rw [VZ, qx (by omega : ¬ (i : Int) < (l.length : Int)), qg, qh (by omega), Ye, bne_self_eq_false, qg]
  exact qF3 k roll l hl q hq q.length 0 j [] (by omega) (by omega) (by simp)
 | succ d ih =>
  intro i j hi hj
  obtain ⟨j, rfl⟩ := qQ (by omega : 0 < j)
  have h3 : (0 : Int) ≤ (i : Int) := by omega
  have h4 : (i : Int) < (l.length : Int) := by omega
  rw [VZ, qA h4, qi, qd ⟨h3, h4, fun _ => h3, fun _ => h4⟩, qd ⟨h3, h4, fun _ => h3, fun _ => h4⟩, qd ⟨h3, h4, fun _ => h3, fun _ => h4⟩, qc, qF i (by omega), ih (i + 1) j (by omega) (by omega), qq l i T10.dflt (by omega), Ye]
  unfold wv1
  cases (decide ((l.getD i T10.dflt).1 < (1 : Int)) || decide ((l.getD i T10.dflt).1 > (1000000 : Int)))
  ·cases (decide ((l.getD i T10.dflt).2.1 < (1 : Int)) || decide ((l.getD i T10.dflt).2.1 > (6 : Int)))
   ·cases (decide ((l.getD i T10.dflt).2.2 < (0 : Int)) || decide ((l.getD i T10.dflt).2.2 > (2147483647 : Int))) <;> rfl
   ·rfl
  ·rfl
theorem qm5 (k : Nat) (hk : 400 ≤ k) (o : vY) (f : Wa) (roll : Int) (l : List Wv) (hl : l.length ≤ 40) : qeQ k o f roll l = some (QF o f roll l) := by
 unfold qeQ
 rw [qr3 k (by omega), qGo k (by omega), qb, qd rfl, qx (by omega : ¬ (l.length : Int) > 512), qg]
 by_cases h : (Vh o f).2 = 0
 ·have h7 := qKp k roll l hl (Vh o f).1 (qxb o f) l.length 0 k (by omega) (by omega)
  rw [wm] at h7
  rw [show ((0 : Nat) : Int) = 0 from rfl] at h7
  rw [show ((Vh o f).2 != (0 : Int)) = false by rw [h]; rfl, qg, h7]
  by_cases h2 : Ye l = 0
  ·rw [qwb h h2, show (Ye l != (0 : Int)) = false by rw [h2]; rfl, qg]
  ·rw [qwf h h2, bne_iff_ne.2 h2, qi]
 ·rw [qw2 h, bne_iff_ne.2 h, qi]
theorem qyQ (k : Nat) (hk : 400 ≤ k) (o : vY) (f : Wa) (roll : Int) (l : List Wv) (hl : l.length ≤ 40) : qcm k o f roll l = QF o f roll l := by unfold qcm; rw [qm5 k hk o f roll l hl]; rfl
theorem qmA (k : Nat) (hk : 400 ≤ k) (o : vY) (f : Wa) (roll : Int) (l : List Wv) (hl : l.length ≤ 40) : qek k o f roll l = some (qfV o f roll l) := by
 unfold qek qfV
 rw [qm5 k hk o f roll l hl, qyQ k hk o f roll l hl, qb, qd rfl]
 cases ((QF o f roll l).2 != 0)
 ·cases decide (((QF o f roll l).1.length : Int) > 0) <;> rfl
 ·rfl
theorem qxv (k : Nat) (hk : 400 ≤ k) (o : vY) (f : Wa) (roll : Int) (l : List Wv) (hl : l.length ≤ 40) : qbT k o f roll l = qfV o f roll l := by unfold qbT; rw [qmA k hk o f roll l hl]; rfl
end Go.AM
namespace Go.AM
open Go Go.Proofs
noncomputable section
abbrev qA0 (a : T11.T) (r : Int) : Prop := CC Tryz.prog 92 [.agg (qy (qr T11 a))] [] (ri r) (nb r)
def qAA := fun y0 y1 => (⟨qI 51 [(1, .ptr 1000000 0 0), (3, ri y0)], [(1000000, 0, .var 76 (qy (qr T11 y1)))]⟩ : St)
def Xf (k : Nat) : Nat → Int → T11.T → Option Int
 | 0, _, _ => none
 | j + 1, y0, y1 =>
 bif y0 < (↑ (qe y1.2.2) : Int) then
 if (0 ≤ y0) ∧ (y0 < (↑ (qe y1.2.2) : Int)) ∧ (decide (qM y1.2.2 y0.toNat I.dflt < (1 : Int)) = false → 0 ≤ y0) ∧ (decide (qM y1.2.2 y0.toNat I.dflt < (1 : Int)) = false → y0 < (↑ (qe y1.2.2) : Int)) then
 bif (decide (qM y1.2.2 y0.toNat I.dflt < (1 : Int)) || decide (qM y1.2.2 y0.toNat I.dflt > (1000000 : Int))) then
 some 1
 else
 Xf k j (qa .i64 (y0 + 1)) y1
 else none
 else
 some 0
def qe8 (k : Nat) (a : T11.T) : Option Int :=
 bif (decide (a.1 < (1 : Int)) || decide (a.1 > (1000000 : Int)) || decide (a.2.1 < (0 : Int)) || decide (a.2.1 > (2147483647 : Int))) then
 some 1
 else
 bif ((↑ (qe a.2.2) : Int) == (0 : Int)) then
 some 10
 else
 bif (↑ (qe a.2.2) : Int) > (512 : Int) then
 some 8
 else
 Xf k k 0 a
def qet := fun k a => (qe8 k a).getD 0
def qvk (k : Nat) : Ke := (92, mo 1, fun
 | [.agg b], [] => (qW [] T11 b).bind fun a => some (.one (ri (qet k a), []))
 | _, _ => none)
def qwk : List (Nat × List Cmd) := [(8, [.autoB [1, 3] false []])]
abbrev qNV := EP Tryz.f92 0 ri nb
theorem qv7 (k) : ∀ j, (∀ y0 y1, qNV 8 (qAA y0 y1) (Xf k j y0 y1))
 | 0 => by intros; exact e0
 | j + 1 => by
  have ih := @qv7 k j
  ·intro y0 y1 r h
   rw [Xf] at h
   exact go (qD []) [] qwk [.autoB [2] true []] (gS h (fun h => gN h Xo fun h => qB h fun h => gC h 8 (ih _ _ _)) fun h => gL h)
theorem qKk (k a r) (h : qe8 k a = some r): qA0 a r := qN Tryz.f92 (go (qD []) [] qwk [.autoB [2] true []] (qB h fun h => qB h fun h => qB h fun h => gC h 8 ((qv7 k k) _ _ _)))
theorem qJB {k a} (h : (qe8 k a).isSome): qA0 a (qet k a) := qJ h (qKk k a)
abbrev qDM (a : List T11.T) (r : Int) : Prop := CC Tryz.prog 50 [ro T11 a] [] (ri r) (nb r)
def qC8 := fun y0 y1 => (⟨qI 104 [(0, ro T11 y0), (3, ri y1)], []⟩ : St)
def qyL := fun y0 y1 y2 => (⟨qI 104 [(0, ro T11 y0), (5, .own 1000000 0), (6, ri y1)], [(1000000, 0, .row 3 I y2)]⟩ : St)
def qyC := fun y0 y1 => (⟨qI 104 [(0, ro T11 y0), (7, ri y1)], []⟩ : St)
def qyE := fun y0 y1 y2 => (⟨qI 104 [(0, ro T11 y0), (8, .own 1000000 0), (9, ri y1)], [(1000000, 0, .row 3 I y2)]⟩ : St)
def qy7 := fun y0 y1 y2 y3 => (⟨qI 104 [(0, ro T11 y0), (8, .own 1000000 0), (9, ri y1), (10, ri y2)], [(1000000, 0, .row 3 I y3)]⟩ : St)
mutual
def V5 (k : Nat) : Nat → List T11.T → Int → Option Int
 | 0, _, _ => none
 | j + 1, y0, y1 =>
 bif y1 < y0.length then
 if (0 ≤ y1) ∧ (y1 < y0.length) ∧ ((qe8 k (y0.getD y1.toNat T11.dflt)).isSome) then
 bif (qet k (y0.getD y1.toNat T11.dflt) != (0 : Int)) then
 some (qet k (y0.getD y1.toNat T11.dflt))
 else
 V5 k j y0 (qa .i64 (y1 + 1))
 else none
 else
 ZC k j y0 0 ([])
def ZC (k : Nat) : Nat → List T11.T → Int → List I.T → Option Int
 | 0, _, _, _ => none
 | j + 1, y0, y1, y2 =>
 bif y1 < y0.length then
 if (0 ≤ y1) ∧ (y1 < y0.length) ∧ ((qaA k y2 (y0.getD y1.toNat T11.dflt).1).isSome) then
 bif (qcc k y2 (y0.getD y1.toNat T11.dflt).1) then
 some 6
 else
 if (0 ≤ y1) ∧ (y1 < y0.length) ∧ ((y2.length + [(y0.getD y1.toNat T11.dflt).1].length) * (8 : Nat) ≤ (140737488355328 : Nat)) then
 ZC k j y0 (qa .i64 (y1 + 1)) (y2 ++ [(y0.getD y1.toNat T11.dflt).1])
 else none
 else none
 else
 Wi k j y0 1
def Wi (k : Nat) : Nat → List T11.T → Int → Option Int
 | 0, _, _ => none
 | j + 1, y0, y1 =>
 bif y1 < y0.length then
 if (0 ≤ y1) ∧ (y1 < y0.length) ∧ ((0 : Int) ≤ qa .i64 (y1 - 1)) ∧ (qa .i64 (y1 - 1) < (↑y0.length : Int)) then
 bif (y0.getD y1.toNat T11.dflt).2.1 < (y0.getD (qa .i64 (y1 - 1)).toNat T11.dflt).2.1 then
 some 9
 else
 Wi k j y0 (qa .i64 (y1 + 1))
 else none
 else
 vV k j y0 0 ([])
def vV (k : Nat) : Nat → List T11.T → Int → List I.T → Option Int
 | 0, _, _, _ => none
 | j + 1, y0, y1, y2 =>
 bif y1 < y0.length then
 Zo k j y0 y1 0 y2
 else
 some 0
def Zo (k : Nat) : Nat → List T11.T → Int → Int → List I.T → Option Int
 | 0, _, _, _, _ => none
 | j + 1, y0, y1, y2, y3 =>
 if (0 ≤ y1) ∧ (y1 < y0.length) then
 bif y2 < (↑ (qe (y0.getD y1.toNat T11.dflt).2.2) : Int) then
 if (0 ≤ y1) ∧ (y1 < y0.length) ∧ (0 ≤ y2) ∧ (y2 < (↑ (qe (y0.getD y1.toNat T11.dflt).2.2) : Int)) ∧ ((qaA k y3 (qM (y0.getD y1.toNat T11.dflt).2.2 y2.toNat I.dflt)).isSome) then
 bif (qcc k y3 (qM (y0.getD y1.toNat T11.dflt).2.2 y2.toNat I.dflt)) then
 some 34
 else
 if (0 ≤ y1) ∧ (y1 < y0.length) ∧ (0 ≤ y2) ∧ (y2 < (↑ (qe (y0.getD y1.toNat T11.dflt).2.2) : Int)) ∧ ((y3.length + [qM (y0.getD y1.toNat T11.dflt).2.2 y2.toNat I.dflt].length) * (8 : Nat) ≤ (140737488355328 : Nat)) then
 Zo k j y0 y1 (qa .i64 (y2 + 1)) (y3 ++ [qM (y0.getD y1.toNat T11.dflt).2.2 y2.toNat I.dflt])
 else none
 else none
 else
 vV k j y0 (qa .i64 (y1 + 1)) y3
 else none
end
def qcu (k : Nat) (a : List T11.T) : Option Int :=
 bif (↑a.length : Int) > (512 : Int) then
 some 8
 else
 V5 k k a 0
def XG := fun k a => (qcu k a).getD 0
def qo9 (k : Nat) : Ke := (50, mo 1, fun
 | [.r (.ro d b)], [] => (qE d T11 b).bind fun a => some (.one (ri (XG k a), []))
 | _, _ => none)
def qvP : List (Nat × List Cmd) := [(4, [.autoB [0, 3] false []]), (11, [.row 5 3 I, .autoB [0, 5, 6] false []]), (17, [.autoB [0, 7] false []]), (23, [.row 8 3 I, .autoB [0, 8, 9] false []]), (26, [.row 8 3 I, .autoB [0, 8, 9, 10] false []])]
abbrev qhg := EP Tryz.f50 0 ri nb
theorem qxk (k) : ∀ j, (∀ {y0 y1}, qhg 4 (qC8 y0 y1) (V5 k j y0 y1)) ∧ (∀ {y0 y1 y2}, qhg 11 (qyL y0 y1 y2) (ZC k j y0 y1 y2)) ∧ (∀ {y0 y1}, qhg 17 (qyC y0 y1) (Wi k j y0 y1)) ∧ (∀ {y0 y1 y2}, qhg 23 (qyE y0 y1 y2) (vV k j y0 y1 y2)) ∧ (∀ {y0 y1 y2 y3}, qhg 26 (qy7 y0 y1 y2 y3) (Zo k j y0 y1 y2 y3))
 | 0 => by and_intros <;> intros <;> exact e0
 | j + 1 => by
  have ih := @qxk k j
  have g := @go (qD [qvk k, qjO k]) [] qvP [.autoB [2] true []]
  refine ⟨?_, ?_, ?_, ?_, ?_⟩
  ·intro y0 y1 r h
   rw [V5] at h
   exact g (gS h (fun h => gN h (fun q => qf q.1 (qf q.2.1 (qf (qJB q.2.2) qR))) fun h => qB h fun h => gD h 4 ih.1) fun h => gD h 11 ih.2.1)
  ·intro y0 y1 y2 r h
   rw [ZC] at h
   exact g (gS h (fun h => gN h (fun q => qf q.1 (qf q.2.1 (qf (qpd q.2.2) qR))) fun h => qB h fun h => gN h Xl fun h => gD h 11 ih.2.1) fun h => gD h 17 ih.2.2.1)
  ·intro y0 y1 r h
   rw [Wi] at h
   exact g (gS h (fun h => gN h Xo fun h => qB h fun h => gD h 17 ih.2.2.1) fun h => gD h 23 ih.2.2.2.1)
  ·intro y0 y1 y2 r h
   rw [vV] at h
   exact g (gS h (fun h => gD h 26 ih.2.2.2.2) fun h => gL h)
  ·intro y0 y1 y2 y3 r h
   rw [Zo] at h
   exact g (qS h fun h => gS h (fun h => gN h (fun q => qf q.1 (qf q.2.1 (qf q.2.2.1 (qf q.2.2.2.1 (qf (qpd q.2.2.2.2) qR))))) fun h => qB h fun h => gN h (fun q => qf q.1 (qf q.2.1 (qf q.2.2.1 (qf q.2.2.2.1 (qf q.2.2.2.2 qR))))) fun h => gD h 26 ih.2.2.2.2) fun h => gD h 23 ih.2.2.2.1)
theorem qMk (k a r) (h : qcu k a = some r): qDM a r := qN Tryz.f50 (go (qD [qvk k, qjO k]) [] qvP [.autoB [2] true []] (qB h fun h => gD h 4 (qxk k k).1))
theorem qvU {k a} (h : (qcu k a).isSome): qDM a (XG k a) := qJ h (qMk k a)
end
end Go.AM
