/- Contracts of the functions that the law reaches, and the plain law. -/
import Derived.Test.YtlakpahbdecdpaaGreatDoorFunb
set_option linter.unusedVariables false
set_option linter.unusedSimpArgs false
set_option linter.unusedSectionVars false
open Bool renaming false_and → wD, false_or → zn, not_false → qd1, not_true → vB, true_and → ww, true_or → zX
open ByteArray renaming size → vd
open Int renaming toNat → qt, toNat_natCast → qc
open List renaming append_assoc → qw, append_nil → qY, drop → qaJ, drop_of_length_le → qh, drop_zero → wm, getD → qM, length → qe, length_append → qn, length_singleton → qk, length_take → Qt, mem_append → zW, mem_cons → qK, take → qdv, take_append_drop → qnA, take_of_length_le → wI
open Nat renaming succ_mul → qTX
open Option renaming getD_some → qRI, isSome_some → qb
open Go.IntKind renaming wrap → qa
namespace Go.AM
open Go Go.Proofs
noncomputable section
abbrev qz2 (a : List T5.T) (b : Int) (d : Int) (e : Int) (r : Int) : Prop := CC Tryz.prog 86 [ro T5 a, ri b, ri d, ri e] [] (ri r) (nb r)
def qyA := fun y0 y1 y2 => (⟨qI 109 [(3, ri y0), (11, .ptr 1000000 0 0), (13, ri y1)], [(1000000, 0, .var 45 (qy (qr T4 y2)))]⟩ : St)
def QK (k : Nat) : Nat → Int → Int → T4.T → Option Int
 | 0, _, _, _ => none
 | j + 1, y0, y1, y2 =>
 bif y1 < (↑ (qe y2.2.2.2) : Int) then
 if (0 ≤ y1) ∧ (y1 < (↑ (qe y2.2.2.2) : Int)) ∧ ((qav k (qM y2.2.2.2 y1.toNat T3.dflt)).isSome) then
 bif (X4 k (qM y2.2.2.2 y1.toNat T3.dflt)).2 ≥ y0 then
 some 21
 else
 QK k j y0 (qa .i64 (y1 + 1)) y2
 else none
 else
 some 0
def qe0 (k : Nat) (a : List T5.T) (b : Int) (d : Int) (e : Int) : Option Int :=
 if (0 ≤ b) ∧ (b < a.length) then
 bif (decide ((a.getD b.toNat T5.dflt).1 < (1 : Int)) || decide ((a.getD b.toNat T5.dflt).1 > (1000000 : Int))) then
 some 1
 else
 bif ((a.getD b.toNat T5.dflt).2.1 != (0 : Int)) then
 if ((Vs k a b (a.getD b.toNat T5.dflt).2.1).isSome) then
 bif wa k a b (a.getD b.toNat T5.dflt).2.1 < (0 : Int) then
 some 7
 else
 if ((0 : Int) ≤ wa k a b (a.getD b.toNat T5.dflt).2.1) ∧ (wa k a b (a.getD b.toNat T5.dflt).2.1 < (↑a.length : Int)) then
 if ((0 : Int) ≤ wa k a b (a.getD b.toNat T5.dflt).2.1) ∧ (wa k a b (a.getD b.toNat T5.dflt).2.1 < (↑a.length : Int)) ∧ ((qaD k (a.getD (qt (wa k a b (a.getD b.toNat T5.dflt).2.1)) T5.dflt).2.2.2.2.2).isSome) then
 bif (decide ((a.getD b.toNat T5.dflt).2.2.1 < (0 : Int)) || decide ((a.getD b.toNat T5.dflt).2.2.2.1 < (1 : Int)) || decide ((a.getD b.toNat T5.dflt).2.2.1 > (a.getD (qt (wa k a b (a.getD b.toNat T5.dflt).2.1)) T5.dflt).2.2.2.1) || decide ((a.getD b.toNat T5.dflt).2.2.2.1 > qa .i64 ((a.getD (qt (wa k a b (a.getD b.toNat T5.dflt).2.1)) T5.dflt).2.2.2.1 - (a.getD b.toNat T5.dflt).2.2.1))) then
 some 20
 else
 if ((Vc k (a.getD b.toNat T5.dflt).2.2.2.2.2).isSome) then
 bif (vR k (a.getD b.toNat T5.dflt).2.2.2.2.2 != (0 : Int)) then
 some (vR k (a.getD b.toNat T5.dflt).2.2.2.2.2)
 else
 bif ((↑ (qe (a.getD b.toNat T5.dflt).2.2.2.2.2) : Int) == (0 : Int)) then
 some 10
 else
 if ((qdj k (a.getD b.toNat T5.dflt).2.2.2.2.2).isSome) then
 bif (!qf8 k (a.getD b.toNat T5.dflt).2.2.2.2.2) then
 some 12
 else
 QK k k (Vm k (a.getD (qt (wa k a b (a.getD b.toNat T5.dflt).2.1)) T5.dflt).2.2.2.2.2) 0 ((a.getD b.toNat T5.dflt).2.2)
 else none
 else none
 else none
 else none
 else none
 else
 bif (decide ((a.getD b.toNat T5.dflt).2.2.1 < (0 : Int)) || decide ((a.getD b.toNat T5.dflt).2.2.2.1 < (1 : Int)) || decide ((a.getD b.toNat T5.dflt).2.2.1 > d) || decide ((a.getD b.toNat T5.dflt).2.2.2.1 > qa .i64 (d - (a.getD b.toNat T5.dflt).2.2.1))) then
 some 20
 else
 if ((Vc k (a.getD b.toNat T5.dflt).2.2.2.2.2).isSome) then
 bif (vR k (a.getD b.toNat T5.dflt).2.2.2.2.2 != (0 : Int)) then
 some (vR k (a.getD b.toNat T5.dflt).2.2.2.2.2)
 else
 bif ((↑ (qe (a.getD b.toNat T5.dflt).2.2.2.2.2) : Int) == (0 : Int)) then
 some 10
 else
 if ((qdj k (a.getD b.toNat T5.dflt).2.2.2.2.2).isSome) then
 bif (!qf8 k (a.getD b.toNat T5.dflt).2.2.2.2.2) then
 some 12
 else
 QK k k e 0 ((a.getD b.toNat T5.dflt).2.2)
 else none
 else none
 else none
def qey := fun k a b d e => (qe0 k a b d e).getD 0
def qJu (k : Nat) : Ke := (86, mo 4, fun
 | [.r (.ro g f), .r (.v (.int .i64 b)), .r (.v (.int .i64 d)), .r (.v (.int .i64 e))], [] => (qE g T5 f).bind fun a => some (.one (ri (qey k a b d e), []))
 | _, _ => none)
def qEh (k : Nat) : Calld := qD [qjm k, qnQ k, qd5 k, qNX k, qow k]
def qvs : List (Nat × List Cmd) := [(21, [.autoB [3, 11, 13] false []])]
abbrev qP6 := EP Tryz.f86 0 ri nb
theorem qnO (k) : ∀ j, (∀ y0 y1 y2, qP6 21 (qyA y0 y1 y2) (QK k j y0 y1 y2))
 | 0 => by intros; exact e0
 | j + 1 => by
  have ih := @qnO k j
  ·intro y0 y1 y2 r h
   rw [QK] at h
   exact go (qEh k) [] qvs [.autoB [8] true []] (gS h (fun h => gN h (fun q => qf q.1 (qf q.2.1 (qf (qoZ q.2.2) qR))) fun h => qB h fun h => gC h 21 (ih _ _ _ _)) fun h => gL h)
theorem qLv (k a b d e r) (h : qe0 k a b d e = some r): qz2 a b d e r := qN Tryz.f86 (go (qEh k) [] qvs [.autoB [8] true []] (qS h fun h => qB h fun h => gS h (fun h => qu h qjr fun h => qB h fun h => qS h fun h => gN h (fun q => qf q.1 (qf q.2.1 (qf (qox q.2.2) qR))) fun h => qB h fun h => qu h qb2 fun h => qB h fun h => qB h fun h => qu h qAs fun h => qB h fun h => gC h 21 ((qnO k k) _ _ _ _)) fun h => qB h fun h => qu h qb2 fun h => qB h fun h => qB h fun h => qu h qAs fun h => qB h fun h => gC h 21 ((qnO k k) _ _ _ _)))
theorem qKl {k a b d e} (h : (qe0 k a b d e).isSome): qz2 a b d e (qey k a b d e) := qJ h (qLv k a b d e)
abbrev qzZ (a : List T5.T) (b : Int) (d : Int) (r : Int) : Prop := CC Tryz.prog 42 [ro T5 a, ri b, ri d] [] (ri r) (nb r)
def qC9 := fun y0 y1 y2 y3 => (⟨qI 119 [(0, ro T5 y0), (1, ri y1), (2, ri y2), (7, ri y3)], []⟩ : St)
def qyZ := fun y0 y1 => (⟨qI 119 [(0, ro T5 y0), (9, ri y1)], []⟩ : St)
def qyy := fun y0 y1 => (⟨qI 119 [(0, ro T5 y0), (10, ri y1)], []⟩ : St)
def qxM := fun y0 y1 y2 => (⟨qI 119 [(0, ro T5 y0), (10, ri y1), (11, ri y2)], []⟩ : St)
mutual
def ZD (k : Nat) : Nat → List T5.T → Int → Int → Int → Option Int
 | 0, _, _, _, _ => none
 | j + 1, y0, y1, y2, y3 =>
 bif y3 < y0.length then
 if ((qe0 k y0 y3 y1 y2).isSome) then
 bif (qey k y0 y3 y1 y2 != 0) then
 some (qey k y0 y3 y1 y2)
 else
 ZD k j y0 y1 y2 (qa .i64 (y3 + 1))
 else none
 else
 ZA k j y0 0
def ZA (k : Nat) : Nat → List T5.T → Int → Option Int
 | 0, _, _ => none
 | j + 1, y0, y1 =>
 bif y1 < y0.length then
 if (0 ≤ y1) ∧ (y1 < y0.length) ∧ ((Vs k y0 y1 (y0.getD y1.toNat T5.dflt).1).isSome) then
 bif wa k y0 y1 (y0.getD y1.toNat T5.dflt).1 ≥ (0 : Int) then
 some 6
 else
 ZA k j y0 (qa .i64 (y1 + 1))
 else none
 else
 Wo k j y0 0
def Wo (k : Nat) : Nat → List T5.T → Int → Option Int
 | 0, _, _ => none
 | j + 1, y0, y1 =>
 bif y1 < y0.length then
 Wm k j y0 y1 0
 else
 some 0
def Wm (k : Nat) : Nat → List T5.T → Int → Int → Option Int
 | 0, _, _, _ => none
 | j + 1, y0, y1, y2 =>
 bif y2 < y1 then
 if (0 ≤ y1) ∧ (y1 < y0.length) then
 if (0 ≤ y2) ∧ (y2 < y0.length) then
 bif ((y0.getD y1.toNat T5.dflt).2.1 == (y0.getD y2.toNat T5.dflt).2.1 && decide ((y0.getD y1.toNat T5.dflt).2.2.1 < qa .i64 ((y0.getD y2.toNat T5.dflt).2.2.1 + (y0.getD y2.toNat T5.dflt).2.2.2.1)) && decide ((y0.getD y2.toNat T5.dflt).2.2.1 < qa .i64 ((y0.getD y1.toNat T5.dflt).2.2.1 + (y0.getD y1.toNat T5.dflt).2.2.2.1))) then
 if (0 ≤ y1) ∧ (y1 < y0.length) ∧ (0 ≤ y2) ∧ (y2 < y0.length) ∧ (((y0.getD y1.toNat T5.dflt).2.1 == (y0.getD y2.toNat T5.dflt).2.1 && decide ((y0.getD y1.toNat T5.dflt).2.2.1 < qa .i64 ((y0.getD y2.toNat T5.dflt).2.2.1 + (y0.getD y2.toNat T5.dflt).2.2.2.1)) && decide ((y0.getD y2.toNat T5.dflt).2.2.1 < qa .i64 ((y0.getD y1.toNat T5.dflt).2.2.1 + (y0.getD y1.toNat T5.dflt).2.2.2.1))) = true) ∧ ((qe7 k (y0.getD y1.toNat T5.dflt).2.2.2.2.2 (y0.getD y2.toNat T5.dflt).2.2.2.2.2).isSome) then
 bif (true && qhi k (y0.getD y1.toNat T5.dflt).2.2.2.2.2 (y0.getD y2.toNat T5.dflt).2.2.2.2.2) then
 some 12
 else
 Wm k j y0 y1 (qa .i64 (y2 + 1))
 else none
 else
 if (0 ≤ y1) ∧ (y1 < y0.length) ∧ (0 ≤ y2) ∧ (y2 < y0.length) ∧ (((y0.getD y1.toNat T5.dflt).2.1 == (y0.getD y2.toNat T5.dflt).2.1 && decide ((y0.getD y1.toNat T5.dflt).2.2.1 < qa .i64 ((y0.getD y2.toNat T5.dflt).2.2.1 + (y0.getD y2.toNat T5.dflt).2.2.2.1)) && decide ((y0.getD y2.toNat T5.dflt).2.2.1 < qa .i64 ((y0.getD y1.toNat T5.dflt).2.2.1 + (y0.getD y1.toNat T5.dflt).2.2.2.1))) = false) then
 Wm k j y0 y1 (qa .i64 (y2 + 1))
 else none
 else none
 else none
 else
 Wo k j y0 (qa .i64 (y1 + 1))
end
def qeU (k : Nat) (a : List T5.T) (b : Int) (d : Int) : Option Int :=
 bif (decide (b < 1) || decide (b > 12000) || decide (d < 0) || decide (d > 17179869184)) then
 some 1
 else
 bif (↑a.length : Int) > (512 : Int) then
 some 8
 else
 ZD k k a b d 0
def qfc := fun k a b d => (qeU k a b d).getD 0
def qMt (k : Nat) : Ke := (42, mo 3, fun
 | [.r (.ro f e), .r (.v (.int .i64 b)), .r (.v (.int .i64 d))], [] => (qE f T5 e).bind fun a => some (.one (ri (qfc k a b d), []))
 | _, _ => none)
def qBD (k : Nat) : Calld := qD [qjm k, qJu k, qLE k]
def qv6 : List (Nat × List Cmd) := [(6, [.autoB [0, 1, 2, 7] false []]), (12, [.autoB [0, 9] false []]), (17, [.autoB [0, 10] false []]), (20, [.autoB [0, 10, 11] false []])]
abbrev qmf := EP Tryz.f42 0 ri nb
theorem qwp (k) : ∀ j, (∀ {y0 y1 y2 y3}, qmf 6 (qC9 y0 y1 y2 y3) (ZD k j y0 y1 y2 y3)) ∧ (∀ {y0 y1}, qmf 12 (qyZ y0 y1) (ZA k j y0 y1)) ∧ (∀ {y0 y1}, qmf 17 (qyy y0 y1) (Wo k j y0 y1)) ∧ (∀ {y0 y1 y2}, qmf 20 (qxM y0 y1 y2) (Wm k j y0 y1 y2))
 | 0 => by and_intros <;> intros <;> exact e0
 | j + 1 => by
  have ih := @qwp k j
  have g := @go (qBD k) [] qv6 [.autoB [6] true []]
  refine ⟨?_, ?_, ?_, ?_⟩
  ·intro y0 y1 y2 y3 r h
   rw [ZD] at h
   exact g (gS h (fun h => qu h qKl fun h => qB h fun h => gD h 6 ih.1) fun h => gD h 12 ih.2.1)
  ·intro y0 y1 r h
   rw [ZA] at h
   exact g (gS h (fun h => gN h (fun q => qf q.1 (qf q.2.1 (qf (qjr q.2.2) qR))) fun h => qB h fun h => gD h 12 ih.2.1) fun h => gD h 17 ih.2.2.1)
  ·intro y0 y1 r h
   rw [Wo] at h
   exact g (gS h (fun h => gD h 20 ih.2.2.2) fun h => gL h)
  ·intro y0 y1 y2 r h
   rw [Wm] at h
   exact g (gS h (fun h => qS h fun h => qS h fun h => gS h (fun h => gN h (fun q => qf q.1 (qf q.2.1 (qf q.2.2.1 (qf q.2.2.2.1 (qf q.2.2.2.2.1 (qf (qK6 q.2.2.2.2.2) qR)))))) fun h => qB h fun h => gD h 20 ih.2.2.2) fun h => gN h (fun q => qf q.1 (qf q.2.1 (qf q.2.2.1 (qf q.2.2.2.1 (qf q.2.2.2.2 qR))))) fun h => gU2 h (.leaf (.r (.v (.int .i64 12))) []) fun h => gD h 20 ih.2.2.2) fun h => gD h 17 ih.2.2.1)
theorem qK4 (k a b d r) (h : qeU k a b d = some r): qzZ a b d r := qN Tryz.f42 (go (qBD k) [] qv6 [.autoB [6] true []] (qB h fun h => qB h fun h => gD h 6 (qwp k k).1))
theorem qKX {k a b d} (h : (qeU k a b d).isSome): qzZ a b d (qfc k a b d) := qJ h (qK4 k a b d)
end
theorem qtK (k : Nat) (n : Int) (c : Ch) (hm : goods c.2.2.2) (hl : c.2.2.2.length ≤ 256) : ∀ (d i j : Nat), i + d = c.2.2.2.length → d < j →
  QK k j n (i : Int) c = some (if fitsIn n (c.2.2.2.drop i) then 0 else 21) := by
 intro d
 induction d with
 | zero =>
  intro i j hi hj
  obtain ⟨j, rfl⟩ := qQ (by omega : 0 < j)
  rw [QK, qx (by omega : ¬ (i : Int) < (c.2.2.2.length : Int)), qg, qh (by omega), qd (by trivial)]
 | succ d ih =>
  intro i j hi hj
  obtain ⟨j, rfl⟩ := qQ (by omega : 0 < j)
  have hg : good (c.2.2.2.getD i T3.dflt) := hm.mem _ (w8 _ _ _ (by omega))
  rw [QK, qA (by omega : (i : Int) < (c.2.2.2.length : Int)), qi, qc, Xt k _ hg, qbQ k _ hg, qd ⟨by omega, by omega, rfl⟩, qq c.2.2.2 i T3.dflt (by omega), qF i (by omega)]
  show (bif decide (Go.AM.hi (c.2.2.2.getD i T3.dflt) ≥ n) then _ else _) = _
  by_cases h : Go.AM.hi (c.2.2.2.getD i T3.dflt) ≥ n
  ·rw [qA h, qi, qm (fun e : fitsIn n (c.2.2.2.getD i T3.dflt :: c.2.2.2.drop (i + 1)) => by have := e.1; omega)]
  ·rw [qx h, qg, ih (i + 1) j (by omega) (by omega)]
   by_cases h2 : fitsIn n (c.2.2.2.drop (i + 1))
   ·rw [qd h2, qd (show fitsIn n (c.2.2.2.getD i T3.dflt :: c.2.2.2.drop (i + 1)) from ⟨by omega, h2⟩)]
   ·rw [qm h2, qm (fun e : fitsIn n (c.2.2.2.getD i T3.dflt :: c.2.2.2.drop (i + 1)) => h2 e.2)]
theorem qfl (k : Nat) (hk : 2100 ≤ k) (c : Ch) (w n : Int) (hw : 0 ≤ w ∧ w ≤ 12000) :
  (bif (decide (c.1 < (0 : Int)) || decide (c.2.1 < (1 : Int)) || decide (c.1 > w) || decide (c.2.1 > qa .i64 (w - c.1))) then some 20
   else if ((Vc k c.2.2.2).isSome = true) then
    bif (vR k c.2.2.2 != (0 : Int)) then some (vR k c.2.2.2)
    else bif ((↑ (qe c.2.2.2) : Int) == (0 : Int)) then some 10
    else if ((qdj k c.2.2.2).isSome = true) then
     bif (!qf8 k c.2.2.2) then some 12
     else QK k k n 0 c
    else none
   else none) = some (qlG c w n) := by
 unfold qlG
 rw [qtc c w hw, vM k (by omega), Qu k (by omega), qb, qd rfl, qen k hk, qpa k hk, qb, qd rfl]
 by_cases h1 : c.1 < 0 ∨ c.2.1 < 1 ∨ c.1 > w ∨ c.2.1 > w - c.1
 ·rw [qA h1, qi, qd h1]
 ·rw [qx h1, qg, qm h1]
  by_cases h2 : chk c.2.2.2 = 0
  ·have hc := wW.1 h2
   have hl := hc.len
   rw [show (chk c.2.2.2 != 0) = false by simp [h2], qg, qm (fun h : chk c.2.2.2 ≠ 0 => h h2)]
   by_cases h3 : c.2.2.2 = []
   ·rw [h3, qd rfl]; rfl
   ·rw [qm h3, show (((qe c.2.2.2 : Nat) : Int) == 0) = false from beq_false_of_ne (fun e => h3 (List.length_eq_zero_iff.1 (by omega))), qg]
    cases h4 : vh c.2.2.2
    ·rfl
    ·rw [vB, qg, qm (by decide)]
     refine (qtK k n c hc.goods hl c.2.2.2.length 0 k (by omega) (by omega)).trans ?_
     rw [wm]
  ·rw [show (chk c.2.2.2 != 0) = true by simp [h2], qi, qd h2]
theorem qky (k : Nat) (hk : 2100 ≤ k) (W L : Int) (hW : 0 ≤ W ∧ W ≤ 12000) (l : List Ro) (i : Nat) (hi : i < l.length) (hl : l.length ≤ 1000) (hp : Wl (l.take i)) : qe0 k l (i : Int) W L = some (vG (l.take i) W L (l.getD i T5.dflt)) := by
 unfold qe0 vG
 rw [qd ⟨by omega, by omega⟩, qc]
 have hlt : (l.take i).length = i := by rw [Qt]; omega
 obtain ⟨o, o1, o2, o3⟩ := qaO k (l.take i) (l.drop i) (l.getD i T5.dflt).2.1 (by omega) (by omega)
 rw [qnA, hlt] at o1 o2
 generalize hr : l.getD i T5.dflt = r at *
 by_cases h1 : r.1 < 1 ∨ r.1 > 1000000
 ·rw [qd h1, show (decide (r.1 < 1) || decide (r.1 > 1000000)) = true by simpa using h1, qi]
 ·rw [qm h1, show (decide (r.1 < 1) || decide (r.1 > 1000000)) = false by simp; omega, qg]
  have hs := hp.size (L := L) hW r.2.1
  by_cases h2 : r.2.1 = 0
  ·rw [show (r.2.1 != 0) = false by simp [h2], qg, qm (fun h : r.2.1 ≠ 0 ∧ look (l.take i) r.2.1 = none => h.1 h2)]
   unfold wn
   rw [qd h2]
   exact qfl k hk r.2.2 W L hW
  ·rw [show (r.2.1 != 0) = true by simp [h2], qi, o1, o2, qb, qd rfl]
   cases e : look (l.take i) r.2.1 with
   | none =>
    rw [o3.none e, qd (show r.2.1 ≠ 0 ∧ (none : Option Ro) = none from ⟨h2, rfl⟩)]; rfl
   | some q =>
    obtain ⟨x, e1, e2, e3⟩ := o3.some e
    have hq := (hp q (zt e).1).chk
    have e4 : l.getD x T5.dflt = q := by
     have := e3 T5.dflt
     rw [← this]
     have h5 := YB (l.take i) (l.drop i) x T5.dflt e2
     rw [qnA] at h5
     exact h5
    have hx : (x : Int) < (l.length : Int) := by omega
    have hx0 : (0 : Int) ≤ (x : Int) := by omega
    rw [e1, qm (show ¬ (r.2.1 ≠ 0 ∧ some q = none) from fun h => nomatch h.2), qRI, qx (by omega : ¬ (x : Int) < 0), qg, qd ⟨hx0, hx⟩, qc, e4, XW k hk _ hq, qcl k hk _ hq, qd ⟨hx0, hx, rfl⟩]
    unfold wn
    rw [qm h2, e]
    unfold wn at hs
    rw [qm h2, e] at hs
    exact qfl k hk r.2.2 _ _ hs
theorem quU (k : Nat) (hk : 2100 ≤ k) (W L : Int) (hW : 0 ≤ W ∧ W ≤ 12000) (l : List Ro) (i : Nat) (hi : i < l.length) (hl : l.length ≤ 1000) (hp : Wl (l.take i)) : qey k l (i : Int) W L = vG (l.take i) W L (l.getD i T5.dflt) := by
 unfold qey; rw [qky k hk W L hW l i hi hl hp]; rfl
theorem qn2 (k : Nat) (hk : 70000 ≤ k) (l : List Ro) (hl : Wl l) (hll : l.length ≤ 512) (i : Nat) (hi : i < l.length) : ∀ (d q m : Nat), q + d = i →
  Wm k (m + d + 1) l (i : Int) (q : Int) = if QE ((l.take i).drop q) (l.getD i T5.dflt) = true then some 12 else Wo k m l (qa .i64 ((i : Int) + 1)) := by
 intro d
 have hr : Small (l.getD i T5.dflt).2.2 := hl _ (w8 _ _ _ (by omega))
 have hlt : (l.take i).length = i := by rw [Qt]; omega
 induction d with
 | zero =>
  intro q m hq
  rw [Wm, qx (by omega : ¬ (q : Int) < (i : Int)), qg, qh (by omega), qm (by unfold QE; rw [List.any_nil]; decide)]
 | succ d ih =>
  intro q m hq
  have hs : Small (l.getD q T5.dflt).2.2 := hl _ (w8 _ _ _ (by omega))
  have hc : QE ((l.take i).drop q) (l.getD i T5.dflt) = (((l.getD i T5.dflt).2.1 == (l.getD q T5.dflt).2.1) && VP (l.getD i T5.dflt).2.2 (l.getD q T5.dflt).2.2 || QE ((l.take i).drop (q + 1)) (l.getD i T5.dflt)) := by
   have h5 := YB (l.take i) (l.drop i) q T5.dflt (by omega)
   rw [qnA] at h5
   rw [h5]
   unfold QE
   rw [qq (l.take i) q T5.dflt (by omega), List.any_cons]
  obtain ⟨a1, a2, a3, a4⟩ := hr
  obtain ⟨b1, b2, b3, b4⟩ := hs
  rw [show m + (d + 1) + 1 = (m + d + 1) + 1 from rfl, Wm, qA (by omega : (q : Int) < (i : Int)), qi, qd ⟨by omega, by omega⟩, qd ⟨by omega, by omega⟩, qc, qc, hc, qF q (by omega), ih (q + 1) m (by omega)]
  generalize QE ((l.take i).drop (q + 1)) (l.getD i T5.dflt) = z
  generalize l.getD i T5.dflt = r at *
  generalize l.getD q T5.dflt = b at *
  rw [qo (i := b.2.2.1 + b.2.2.2.1) (by omega) (by omega), qo (i := r.2.2.1 + r.2.2.2.1) (by omega) (by omega)]
  unfold VP
  cases e : ((r.2.1 == b.2.1) && decide (r.2.2.1 < b.2.2.1 + b.2.2.2.1) && decide (b.2.2.1 < r.2.2.1 + r.2.2.2.1))
  ·rw [qg, qd ⟨by omega, by omega, by omega, by omega, rfl⟩]
   rw [show ((r.2.1 == b.2.1) && ((decide (r.2.2.1 < b.2.2.1 + b.2.2.2.1) && decide (b.2.2.1 < r.2.2.1 + r.2.2.2.1)) && VJ r.2.2.2.2.2 b.2.2.2.2.2)) = false by rw [← Bool.and_assoc, ← Bool.and_assoc, e, wD], zn]
  ·rw [qi, qiL k hk _ _ a4 b4, qsr k hk _ _ a4 b4, qd ⟨by omega, by omega, by omega, by omega, rfl, rfl⟩, ww]
   rw [show ((r.2.1 == b.2.1) && ((decide (r.2.2.1 < b.2.2.1 + b.2.2.2.1) && decide (b.2.2.1 < r.2.2.1 + r.2.2.2.1)) && VJ r.2.2.2.2.2 b.2.2.2.2.2)) = VJ r.2.2.2.2.2 b.2.2.2.2.2 by rw [← Bool.and_assoc, ← Bool.and_assoc, e, ww]]
   cases VJ r.2.2.2.2.2 b.2.2.2.2.2
   ·rw [qg, zn]
   ·rfl
set_option maxRecDepth 20000 in
theorem qnS (k : Nat) (hk : 70000 ≤ k) (l : List Ro) (hl : Wl l) (hll : l.length ≤ 512) : ∀ (d i j : Nat), i + d = l.length → d * 514 < j →
  Wo k j l (i : Int) = some (if ze (l.take i) (l.drop i) = true then 12 else 0) := by
 intro d
 induction d with
 | zero =>
  intro i j hi hj
  obtain ⟨j, rfl⟩ := qQ (by omega : 0 < j)
  rw [Wo, qx (by omega : ¬ (i : Int) < (l.length : Int)), qg, qh (by omega), ze, qm (by decide)]
 | succ d ih =>
  intro i j hi hj
  obtain ⟨j, rfl⟩ : ∃ q, j = (q + i + 1) + 1 := ⟨j - i - 2, by omega⟩
  have h20 := qn2 k hk l hl hll i (by omega) i 0 j (by omega)
  rw [Wo, qA (by omega : (i : Int) < (l.length : Int)), qi]
  refine h20.trans ?_
  rw [wm, qF i (by omega), ih (i + 1) j (by omega) (by omega), qq l i T5.dflt (by omega), ze, wU l i T5.dflt (by omega)]
  cases QE (l.take i) (l.getD i T5.dflt)
  ·rw [qm (by decide), zn]
  ·rfl
set_option maxRecDepth 20000 in
theorem qon (k : Nat) (hk : 70000 ≤ k) (l : List Ro) (hl : Wl l) (hll : l.length ≤ 512) : ∀ (d i j : Nat), i + d = l.length → d + 1 + 263168 < j →
  ZA k j l (i : Int) = some (if vC (l.take i) (l.drop i) = true then 6 else if ze [] l = true then 12 else 0) := by
 intro d
 induction d with
 | zero =>
  intro i j hi hj
  obtain ⟨j, rfl⟩ := qQ (by omega : 0 < j)
  have h17 := qnS k hk l hl hll l.length 0 j (by omega) (by omega)
  rw [ZA, qx (by omega : ¬ (i : Int) < (l.length : Int)), qg, qh (by omega), vC, qm (by decide)]
  exact h17
 | succ d ih =>
  intro i j hi hj
  obtain ⟨j, rfl⟩ := qQ (by omega : 0 < j)
  have hlt : (l.take i).length = i := by rw [Qt]; omega
  obtain ⟨o, o1, o2, o3⟩ := qaO k (l.take i) (l.drop i) (l.getD i T5.dflt).1 (by omega) (by omega)
  rw [qnA, hlt] at o1 o2
  rw [ZA, qA (by omega : (i : Int) < (l.length : Int)), qi, qc, o1, o2, qd ⟨by omega, by omega, rfl⟩, qq l i T5.dflt (by omega), vC, qF i (by omega), ih (i + 1) j (by omega) (by omega), wU l i T5.dflt (by omega)]
  cases e : look (l.take i) (l.getD i T5.dflt).1 with
  | none => rw [o3.none e]; rfl
  | some q =>
   obtain ⟨x, e1, _, _⟩ := o3.some e
   rw [e1, qRI, qA (by omega : (x : Int) ≥ 0)]; rfl
theorem qqG (k : Nat) (hk : 70000 ≤ k) (l : List Ro) (W L : Int) (hW : 0 ≤ W ∧ W ≤ 12000) (hll : l.length ≤ 512) : ∀ (d i j : Nat), i + d = l.length → d + 2 + 512 + 263168 < j → Wl (l.take i) →
  ZD k j l W L (i : Int) = some (if w9 W L (l.take i) (l.drop i) ≠ 0 then w9 W L (l.take i) (l.drop i) else if vC [] l = true then 6 else if ze [] l = true then 12 else 0) := by
 intro d
 induction d with
 | zero =>
  intro i j hi hj hw
  obtain ⟨j, rfl⟩ := qQ (by omega : 0 < j)
  rw [wI (by omega : l.length ≤ i)] at hw
  have h12 := qon k hk l hw hll l.length 0 j (by omega) (by omega)
  rw [ZD, qx (by omega : ¬ (i : Int) < (l.length : Int)), qg, qh (by omega), w9, qm (fun h => h rfl)]
  exact h12
 | succ d ih =>
  intro i j hi hj hw
  obtain ⟨j, rfl⟩ := qQ (by omega : 0 < j)
  have ht := wU l i T5.dflt (by omega)
  rw [ZD, qA (by omega : (i : Int) < (l.length : Int)), qi, qky k (by omega) W L hW l i (by omega) (by omega) hw, quU k (by omega) W L hW l i (by omega) (by omega) hw, qb, qd rfl, qq l i T5.dflt (by omega), w9, qF i (by omega)]
  by_cases h1 : vG (l.take i) W L (l.getD i T5.dflt) = 0
  ·have hw2 : Wl (l.take (i + 1)) := by rw [ht]; exact hw.snoc hW h1
   have := ih (i + 1) j (by omega) (by omega) hw2
   rw [h1]
   show ZD k j l W L ((i + 1 : Nat) : Int) = _
   rw [this, ht]
   rfl
  ·rw [show (vG (l.take i) W L (l.getD i T5.dflt) != 0) = true from bne_iff_ne.2 h1, qi, qd h1, qd h1]
theorem qgQ (k : Nat) (hk : 300000 ≤ k) (l : List Ro) (W L : Int) : qeU k l W L = some (w7 l W L) := by
 unfold qeU w7
 by_cases h1 : W < 1 ∨ W > 12000 ∨ L < 0 ∨ L > 17179869184
 ·rw [qd h1, show (decide (W < (1 : Int)) || decide (W > (12000 : Int)) || decide (L < (0 : Int)) || decide (L > (17179869184 : Int))) = true by simp; omega]
  rfl
 ·rw [qm h1, show (decide (W < (1 : Int)) || decide (W > (12000 : Int)) || decide (L < (0 : Int)) || decide (L > (17179869184 : Int))) = false by simp; omega, qg]
  by_cases h2 : l.length > 512
  ·rw [qd h2, qA (by omega : (l.length : Int) > 512)]
   rfl
  ·rw [qm h2, qx (by omega : ¬ (l.length : Int) > 512), qg]
   have := qqG k (by omega) l W L (by omega) (by omega) l.length 0 k (by omega) (by omega) (fun r hr => by simp at hr)
   exact this
theorem qql (k : Nat) (hk : 300000 ≤ k) (l : List Ro) (W L : Int) : qfc k l W L = w7 l W L := by
 unfold qfc; rw [qgQ k hk l W L]; rfl
end Go.AM
namespace Go.AM
open Go
theorem qap {a : List Ro} {id : Int} {q : Ro} (b : List Ro) (h : look a id = some q) : look (a ++ b) id = some q := by
 rw [QU, h]; rfl
theorem qpl {a : List Ro} {W L id : Int} (b : List Ro) (h : id = 0 ∨ ∃ q, look a id = some q) : wn (a ++ b) W L id = wn a W L id := by
 unfold wn
 by_cases h0 : id = 0
 ·rw [qd h0, qd h0]
 ·rw [qm h0, qm h0]
  rcases h with h | ⟨q, h⟩
  ·exact absurd h h0
  ·rw [qap b h, h]
structure RollOk (l : List Ro) (W L : Int) (r : Ro) : Prop where
 look : look l r.1 = some r
 pos : 1 ≤ r.1
 parent : r.2.1 = 0 ∨ ∃ q, Go.AM.look l r.2.1 = some q
 cut : CutOk r.2.2 (wn l W L r.2.1).1 (wn l W L r.2.1).2
theorem Okp.ro {W L : Int} {l : List Ro} (h : Okp W L l) : ∀ r ∈ l, RollOk l W L r := by
 induction h with
 | nil => intro r hr; simp at hr
 | snoc p r h f n c ih =>
  intro x hx
  rcases zW.1 hx with hx | hx
  ·obtain ⟨a, b, c, d⟩ := ih x hx
   refine ⟨qap _ a, b, ?_, by rw [qpl _ c]; exact d⟩
   rcases c with c | ⟨q, c⟩
   ·exact .inl c
   ·exact .inr ⟨q, qap _ c⟩
  ·rw [List.mem_singleton] at hx
   subst hx
   obtain ⟨a, b, c, d⟩ := f
   refine ⟨?_, a, ?_, by rw [qpl _ c]; exact d⟩
   ·rw [QU, n, Option.none_or]; unfold Go.AM.look; simp
   ·rcases c with c | ⟨q, c⟩
    ·exact .inl c
    ·exact .inr ⟨q, qap _ c⟩
inductive Anc (l : List Ro) : Nat → Int → Prop
 | root (n : Nat) : Anc l n 0
 | step (n : Nat) (id : Int) (r : Ro) (h0 : id ≠ 0) (h : look l id = some r) (a : Anc l n r.2.1) : Anc l (n + 1) id
theorem Anc.mono {l : List Ro} {n m : Nat} {id : Int} (h : Anc l n id) (hm : n ≤ m) : Anc l m id := by
 induction h generalizing m with
 | root n => exact .root m
 | step n id r h0 h a ih =>
  obtain ⟨m, rfl⟩ := qQ (by omega : 0 < m)
  exact .step m id r h0 h (ih (by omega))
theorem Anc.left {l : List Ro} {n : Nat} {id : Int} (h : Anc l n id) (t : List Ro) : Anc (l ++ t) n id := by
 induction h with
 | root n => exact .root n
 | step n id r h0 h a ih => exact .step n id r h0 (qap t h) ih
theorem Okp.anc {W L : Int} {l : List Ro} (h : Okp W L l) : ∀ r ∈ l, Anc l l.length r.1 := by
 induction h with
 | nil => intro r hr; simp at hr
 | snoc p r h f n c ih =>
  intro x hx
  rw [qn, qk]
  rcases zW.1 hx with hx | hx
  ·exact ((ih x hx).mono (by omega)).left _
  ·rw [List.mem_singleton] at hx
   subst hx
   obtain ⟨a, b, c, d⟩ := f
   refine .step p.length x.1 x (by omega) (by rw [QU, n, Option.none_or]; unfold look; simp) ?_
   rcases c with c | ⟨q, c⟩
   ·rw [c]; exact .root _
   ·have := (ih q (zt c).1).left [x]
    rw [(zt c).2] at this
    exact this
theorem Reg.anc {W L : Int} {l : List Ro} (h : Reg l W L) {id : Int} (hi : id = 0 ∨ ∃ q, look l id = some q) : Anc l 512 id := by
 rcases hi with rfl | ⟨q, e⟩
 ·exact .root _
 ·have := h.ok.anc q (zt e).1
  rw [(zt e).2] at this
  exact this.mono h.num
theorem Reg.small {W L : Int} {l : List Ro} (h : Reg l W L) : ∀ (n : Nat) (id : Int), Anc l n id → 0 ≤ (wn l W L id).1 ∧ (wn l W L id).1 ≤ 12000 ∧ 0 ≤ (wn l W L id).2 ∧ (wn l W L id).2 ≤ 17179869184 := by
 intro n id ha
 have hw := h.w
 have hl := h.len
 induction ha with
 | root n => unfold wn; rw [qd rfl]; omega
 | step n id r h0 e a ih =>
  have ro := h.ok.ro r (zt e).1
  obtain ⟨c1, c2, c3, c4, _⟩ := ro.cut
  have h1 : (wn l W L id) = (r.2.2.2.1, qv r.2.2.2.2.2) := by unfold wn; rw [qm h0, e]
  rw [h1]
  have h2 := zf c4.goods
  have h3 := c4.tot
  refine ⟨?_, ?_, ?_, ?_⟩
  ·show 0 ≤ r.2.2.2.1; omega
  ·show r.2.2.2.1 ≤ _; omega
  ·show 0 ≤ qv r.2.2.2.2.2; omega
  ·show qv r.2.2.2.2.2 ≤ _; omega
def qaz (r : Ro) (p : Pt) : Pt := (r.2.1, (if r.2.2.2.2.1 = true then r.2.2.1 + r.2.2.2.1 - 1 - p.2.1 else r.2.2.1 + p.2.1), wb r.2.2.2.2.2 p.2.2)
structure On (l : List Ro) (W L : Int) (p : Pt) : Prop where
 a0 : 0 ≤ p.2.1
 a1 : p.2.1 < (wn l W L p.1).1
 b0 : 0 ≤ p.2.2
 b1 : p.2.2 < (wn l W L p.1).2
theorem qis : ∀ {m : List Rn} {x : Int}, goods m → 0 ≤ x → x < qv m → ∃ r ∈ m, lo r ≤ wb m x ∧ wb m x ≤ hi r
 | [], x, _, h0, h1 => by simp [qv] at h1; omega
 | r :: t, x, ⟨g1, g2⟩, h0, h1 => by
  rw [qv] at h1
  unfold wb
  by_cases h : x < r.2.1
  ·rw [qd h]
   exact ⟨r, by simp, qjb h0 h⟩
  ·rw [qm h]
   obtain ⟨q, hq, a⟩ := qis g2 (by omega : 0 ≤ x - r.2.1) (by omega)
   exact ⟨q, by simp [hq], a⟩
theorem qkT {n : Int} : ∀ {l : List Rn}, fitsIn n l → ∀ r ∈ l, hi r < n
 | [], _, r, h => by simp at h
 | u :: t, ⟨h1, h2⟩, r, hr => by
  rcases qK.1 hr with rfl | hr
  ·exact h1
  ·exact qkT h2 r hr
theorem On.place {l : List Ro} {W L : Int} {p : Pt} {r : Ro} (hp : p.1 ≠ 0) (h : On l W L p) (e : look l p.1 = some r) (ro : RollOk l W L r) : On l W L (qaz r p) := by
 obtain ⟨a0, a1, b0, b1⟩ := h
 obtain ⟨c1, c2, c3, c4, c5, c6, c7⟩ := ro.cut
 have h1 : (wn l W L p.1) = (r.2.2.2.1, qv r.2.2.2.2.2) := by unfold wn; rw [qm hp, e]
 rw [h1] at a1 b1
 have a1 : p.2.1 < r.2.2.2.1 := a1
 have b1 : p.2.2 < qv r.2.2.2.2.2 := b1
 obtain ⟨x, hx, i1, i2⟩ := qis c4.goods b0 b1
 have h2 := qkT c7 x hx
 obtain ⟨l1, l2, l3, l4⟩ := (c4.goods.mem x hx).lohi
 refine ⟨?_, ?_, ?_, ?_⟩
 ·show 0 ≤ (if r.2.2.2.2.1 = true then _ else _ : Int)
  split <;> omega
 ·show (if r.2.2.2.2.1 = true then _ else _ : Int) < (wn l W L r.2.1).1
  split <;> omega
 ·show 0 ≤ wb _ _; omega
 ·show wb _ _ < (wn l W L r.2.1).2; omega
def qgr (l : List Ro) : Nat → Pt → Pt
 | 0, p => p
 | n + 1, p => if p.1 = 0 then p else match look l p.1 with
  | none => p
  | some r => qgr l n (qaz r p)
end Go.AM
namespace Go.AM
open Go Go.Proofs
noncomputable section
abbrev qhc : Type := Int
def qkQ (r : qhc) : AV := .tup [.r (.v (Value.pointer none)), .r (.v (.int .i64 r))]
def qop (b : List T5.T) (d : T19.T) (e : Int) (r : qhc) : List (Nat × Blk) := []
abbrev qiq : Type := Int × Int × Int × List T5.T × (List (I.T × I.T))
def qkS (r : qiq) : AV := .tup [.ptr 0 0 0, .r (.v (.int .i64 r.1))]
def qnR (b : List T5.T) (d : T19.T) (e : Int) (r : qiq) : List (Nat × Blk) := [(0, .var 135 [.r (.v (.int .i64 r.2.1)), .r (.v (.int .i64 r.2.2.1)), .r (.ro T5 r.2.2.2.1), .own 1 0]), (0, .map false I I r.2.2.2.2)]
abbrev qqV : Type := qhc ⊕ qiq
def qKR (r : qqV) : AV := match r with
 | .inl a => qkQ a
 | .inr a => qkS a
def qNS (b : List T5.T) (d : T19.T) (e : Int) (r : qqV) : List (Nat × Blk) := match r with
 | .inl a => qop b d e a
 | .inr a => qnR b d e a
abbrev qrc (b : List T5.T) (d : T19.T) (e : Int) (r : qqV) : Prop := CC Tryz.prog 162 [ro T5 b, .agg (qy (qr T19 d)), ri e] [] (qKR r) (qNS b d e r)
abbrev qPq (b : List T5.T) (d : T19.T) (e : Int) (r : qhc) : Prop := CC Tryz.prog 162 [.r (.ro T5 b), .agg (qy (qr T19 d)), .r (.v (.int .i64 e))] [] (qkQ r) (qop b d e r)
abbrev qOg (b : List T5.T) (d : T19.T) (e : Int) (r : qiq) : Prop := CC Tryz.prog 162 [.r (.ro T5 b), .agg (qy (qr T19 d)), .r (.v (.int .i64 e))] [] (qkS r) (qnR b d e r)
def Z8 (k : Nat) (b : List T5.T) (d : T19.T) (e : Int) : Option qqV :=
 bif (Sum.isLeft (qae k b d)) then
 if ((Zc k b d).isSome) then
 bif (X7 k b d == (0 : Int) && e != 0) then
 none
 else
 if ((X7 k b d == (0 : Int) && e != 0) = false) then
 some (.inl (X7 k b d))
 else none
 else none
 else
 if ((Zc k b d).isSome) then
 bif ((wZ k b d).1 == (0 : Int) && e != 0) then
 if (((wZ k b d).1 == (0 : Int) && e != 0) = true) ∧ ((Xu k (wZ k b d).2.1 (wZ k b d).2.2.1 (wZ k b d).2.2.2.1 (wZ k b d).2.2.2.2 e).isSome) then
 bif (true && (!WA k (wZ k b d).2.1 (wZ k b d).2.2.1 (wZ k b d).2.2.2.1 (wZ k b d).2.2.2.2 e)) then
 some (.inl 7)
 else
 some (.inr ((wZ k b d).1, (wZ k b d).2.1, (wZ k b d).2.2.1, (wZ k b d).2.2.2.1, (wZ k b d).2.2.2.2))
 else none
 else
 if (((wZ k b d).1 == (0 : Int) && e != 0) = false) then
 some (.inr ((wZ k b d).1, (wZ k b d).2.1, (wZ k b d).2.2.1, (wZ k b d).2.2.2.1, (wZ k b d).2.2.2.2))
 else none
 else none
def qdr := fun k b d e => (Z8 k b d e).getD (.inl 0)
def qee (k : Nat) (b : List T5.T) (d : T19.T) (e : Int) : qhc := lft 0 (qdr k b d e)
def vb (k : Nat) (b : List T5.T) (d : T19.T) (e : Int) : qiq := rgt (0, 0, 0, [], []) (qdr k b d e)
def qPK (k : Nat) : Ke := (162, mo 3, fun
 | [.r (.ro i f), .agg g, .r (.v (.int .i64 e))], [] => (qE i T5 f).bind fun b => (qW [] T19 g).bind fun d => some (.two (qdr k b d e).isLeft (qkQ (qee k b d e), qop b d e (qee k b d e)) (qkS (vb k b d e), qnR b d e (vb k b d e)))
 | _, _ => none)
theorem qPr (k b d e r) (h : Z8 k b d e = some r): qrc b d e r := qN Tryz.f162 (go (qD [qsi k, qBl k]) [] [] [.autoB [6, 7] true []] (gT h (fun c h => qu h (fun q => qu6 q (by assumption)) fun h => gT h (fun c h => gZ h (.stuck 2009)) fun c h => qu h id fun h => gU2 h (.leaf (.tup [.r (.v (Value.pointer none)), .r (.v (.int .i64 7))]) []) fun h => gL h) fun c h => qu h (fun q => qxb q (by assumption)) fun h => gT h (fun c h => gN h (fun q => qf q.1 (qf (qtO q.2) qR)) fun h => gTl h fun c h => gL h) fun c h => qu h id fun h => gU2 h (.leaf (.tup [.r (.v (Value.pointer none)), .r (.v (.int .i64 7))]) []) fun h => gL h))
theorem qzt {k b d e} (h : (Z8 k b d e).isSome): qrc b d e (qdr k b d e) := qJ h (qPr k b d e)
theorem qMj {k : Nat} {b : List T5.T} {d : T19.T} {e : Int} (h : (Z8 k b d e).isSome = true) (hb : (qdr k b d e).isLeft = true) : qPq b d e (qee k b d e) := qGw (Φ := qrc b d e) (qzt h) hb
theorem qLq {k : Nat} {b : List T5.T} {d : T19.T} {e : Int} (h : (Z8 k b d e).isSome = true) (hb : (qdr k b d e).isLeft = false) : qOg b d e (vb k b d e) := qFo (Φ := qrc b d e) (qzt h) hb
def qsv (r : Int × Int × Int) : AV := .tup [ri r.1, ri r.2.1, ri r.2.2]
abbrev qAq (a : List T5.T) (b : T23.T) (d : Int) (r : Int × Int × Int) : Prop := CC Tryz.prog 103 [ro T5 a, .agg (qy (qr T23 b)), ri d] [] (qsv r) (nb r)
def qd8 (k : Nat) (a : List T5.T) (b : T23.T) (d : Int) : Option (Int × Int × Int) :=
 if ((qeU k a b.1 b.2).isSome) then
 bif (qfc k a b.1 b.2 != (0 : Int)) then
 some (0, 0, qfc k a b.1 b.2)
 else
 bif (d == 0) then
 some (b.1, b.2, 0)
 else
 if ((Vs k a (↑a.length : Int) d).isSome) then
 bif wa k a (↑a.length : Int) d < 0 then
 some (0, 0, 7)
 else
 if ((0 : Int) ≤ wa k a (↑a.length : Int) d) ∧ (wa k a (↑a.length : Int) d < a.length) ∧ ((0 : Int) ≤ wa k a (↑a.length : Int) d) ∧ (wa k a (↑a.length : Int) d < a.length) ∧ ((qaD k (a.getD (qt (wa k a (↑a.length : Int) d)) T5.dflt).2.2.2.2.2).isSome) then
 some ((a.getD (qt (wa k a (↑a.length : Int) d)) T5.dflt).2.2.2.1, Vm k (a.getD (qt (wa k a (↑a.length : Int) d)) T5.dflt).2.2.2.2.2, 0)
 else none
 else none
 else none
def qat := fun k a b d => (qd8 k a b d).getD (0, 0, 0)
def qLC (k : Nat) : Ke := (103, mo 3, fun
 | [.r (.ro g e), .agg f, .r (.v (.int .i64 d))], [] => (qE g T5 e).bind fun a => (qW [] T23 f).bind fun b => some (.one (qsv (qat k a b d), []))
 | _, _ => none)
theorem qLt (k a b d r) (h : qd8 k a b d = some r): qAq a b d r := qN Tryz.f103 (go (qD [qnQ k, qjm k, qMt k]) [] [] [.autoB [6, 7, 8] true []] (qu h qKX fun h => qB h fun h => qB h fun h => qu h qjr fun h => qB h fun h => gN h (fun q => qf q.1 (qf q.2.1 (qf q.2.2.1 (qf q.2.2.2.1 (qf (qox q.2.2.2.2) qR))))) fun h => gL h))
theorem qKb {k a b d} (h : (qd8 k a b d).isSome): qAq a b d (qat k a b d) := qJ h (qLt k a b d)
end
def Qh (l : List Ro) (W L id : Int) : Int := if w7 l W L ≠ 0 then w7 l W L else if id ≠ 0 ∧ look l id = none then 7 else 0
structure Kno (l : List Ro) (W L id : Int) : Prop where
 reg : Reg l W L
 kn : id = 0 ∨ ∃ q, look l id = some q
theorem Xh {l : List Ro} {W L id : Int} : Qh l W L id = 0 ↔ Kno l W L id := by
 unfold Qh
 constructor
 ·intro h
  by_cases h1 : w7 l W L = 0
  ·rw [qm (fun h : w7 l W L ≠ 0 => h h1)] at h
   refine ⟨qdD.1 h1, ?_⟩
   by_cases h2 : id = 0
   ·exact .inl h2
   ·right
    cases e : look l id with
    | none => rw [qd ⟨h2, e⟩] at h; omega
    | some q => exact ⟨q, rfl⟩
  ·rw [qd h1] at h; exact absurd h h1
 ·rintro ⟨h1, h2⟩
  rw [qm (fun h : w7 l W L ≠ 0 => h (qdD.2 h1)), qm (fun h : id ≠ 0 ∧ look l id = none => by
   rcases h2 with h2 | ⟨q, h2⟩
   ·exact h.1 h2
   ·rw [h2] at h; cases h.2)]
theorem qFp (k : Nat) (hk : 300000 ≤ k) (l : List Ro) (web : Int × Int) (id : Int) : (Qh l web.1 web.2 id ≠ 0 → Z8 k l web id = some (.inl (Qh l web.1 web.2 id))) ∧ (Qh l web.1 web.2 id = 0 → ∃ M, Qn M l ∧ Wl l ∧ Z8 k l web id = some (.inr (0, web.1, web.2, l, M))) := by
 obtain ⟨h1, h2⟩ := qGM k hk l web
 by_cases h : w7 l web.1 web.2 = 0
 ·obtain ⟨M, m1, m2, e⟩ := h2 h
  have hX : Z8 k l web id = bif ((0 : Int) == 0 && id != 0) then (if (((0 : Int) == 0 && id != 0) = true) ∧ ((Xu k web.1 web.2 l M id).isSome = true) then (bif (true && !WA k web.1 web.2 l M id) then some (.inl 7) else some (.inr (0, web.1, web.2, l, M))) else none) else (if (((0 : Int) == 0 && id != 0) = false) then some (.inr (0, web.1, web.2, l, M)) else none) := by
   unfold Z8 X7 wZ qae
   rw [e]; rfl
  have hkn : WA k web.1 web.2 l M id = (wd I id M).isSome := by unfold WA Xu; rfl
  rw [hX, hkn]
  unfold Qh
  rw [qm (fun h' : w7 l web.1 web.2 ≠ 0 => h' h)]
  by_cases h0 : id = 0
  ·rw [show ((0 : Int) == 0 && id != 0) = false by simp [h0], qg, qd rfl, qm (fun h' : id ≠ 0 ∧ look l id = none => h'.1 h0)]
   exact ⟨fun h => absurd rfl h, fun _ => ⟨M, m1, m2, rfl⟩⟩
  ·rw [show ((0 : Int) == 0 && id != 0) = true by simp [h0], qi, qd (show true = true ∧ (Xu k web.1 web.2 l M id).isSome = true from ⟨rfl, rfl⟩)]
   cases e : look l id with
   | none =>
    rw [(m1 id).none e, qd (show id ≠ 0 ∧ (none : Option Ro) = none from ⟨h0, rfl⟩)]
    exact ⟨fun _ => rfl, fun h => absurd h (by decide)⟩
   | some q =>
    obtain ⟨i, e1, e2, e3⟩ := (m1 id).some e
    rw [e1, qm (fun h : id ≠ 0 ∧ some q = none => nomatch h.2)]
    exact ⟨fun h => absurd rfl h, fun _ => ⟨M, m1, m2, rfl⟩⟩
 ·have hX : Z8 k l web id = bif (w7 l web.1 web.2 == 0 && id != 0) then none else if (w7 l web.1 web.2 == 0 && id != 0) = false then some (.inl (w7 l web.1 web.2)) else none := by
   unfold Z8 X7 wZ qae
   rw [h1 h]; rfl
  rw [hX]
  unfold Qh
  rw [qd h, show (w7 l web.1 web.2 == 0) = false from beq_false_of_ne h, wD, qg, qd rfl]
  exact ⟨fun _ => rfl, fun h' => absurd h' h⟩
def qcN (l : List Ro) (W L id : Int) : Int × Int × Int := if Qh l W L id ≠ 0 then (0, 0, Qh l W L id) else ((wn l W L id).1, (wn l W L id).2, 0)
theorem qs9 (k : Nat) (l : List Ro) (id : Int) (hp : l.length ≤ 100000) (hk : l.length < k) : ∃ o : Option Int, Vs k l (l.length : Int) id = some (o.getD (-1)) ∧ wa k l (l.length : Int) id = o.getD (-1) ∧ At l id o := by
 have := qaO k l [] id hp hk
 rw [qY] at this
 exact this
theorem Ya (k : Nat) (hk : 300000 ≤ k) (l : List Ro) (web : Int × Int) (id : Int) : qd8 k l web id = some (qcN l web.1 web.2 id) := by
 unfold qd8 qcN Qh
 rw [qgQ k hk, qql k hk, qb, qd rfl]
 by_cases h : w7 l web.1 web.2 = 0
 ·have reg := qdD.1 h
  have hn := reg.num
  rw [show (w7 l web.1 web.2 != 0) = false by simp [h], qg, qm (fun h' : w7 l web.1 web.2 ≠ 0 => h' h)]
  by_cases h0 : id = 0
  ·rw [show (id == 0) = true by simp [h0], qi, qm (fun h' : id ≠ 0 ∧ look l id = none => h'.1 h0), qm (fun h => h rfl)]
   unfold wn
   rw [qd h0]
  ·obtain ⟨o, o1, o2, o3⟩ := qs9 k l id (by omega) (by omega)
   rw [show (id == 0) = false by simp [h0], qg, o1, o2, qb, qd rfl]
   cases e : look l id with
   | none =>
    rw [o3.none e, qd (show id ≠ 0 ∧ (none : Option Ro) = none from ⟨h0, rfl⟩)]
    rfl
   | some q =>
    obtain ⟨x, e1, e2, e3⟩ := o3.some e
    have hq := (reg.ok.ro q (zt e).1).cut.chk
    have hx : (x : Int) < (l.length : Int) := by omega
    have hx0 : (0 : Int) ≤ (x : Int) := by omega
    rw [e1, qRI, qx (by omega : ¬ (x : Int) < 0), qg, qc, e3, XW k (by omega) _ hq, qcl k (by omega) _ hq, qd ⟨hx0, hx, hx0, hx, rfl⟩, qm (show ¬ (id ≠ 0 ∧ some q = none) from fun h => nomatch h.2), qm (fun h => h rfl)]
    unfold wn
    rw [qm h0, e]
 ·rw [show (w7 l web.1 web.2 != 0) = true from bne_iff_ne.2 h, qi, qd h, qd h]
theorem qcx (k : Nat) (hk : 300000 ≤ k) (l : List Ro) (web : Int × Int) (id : Int) : qat k l web id = qcN l web.1 web.2 id := by
 unfold qat; rw [Ya k hk l web id]; rfl
theorem Reg.wl {l : List Ro} {W L : Int} (h : Reg l W L) : Wl l := fun r hr => by
 have ro := h.ok.ro r hr
 obtain ⟨c1, c2, c3, c4, _⟩ := ro.cut
 have := h.small 512 r.2.1 (h.anc ro.parent)
 exact ⟨c1, c2, by omega, c4⟩
theorem qDH {l : List Ro} {W L id : Int} {r : Ro} (h0 : id ≠ 0) (e : look l id = some r) : wn l W L id = (r.2.2.2.1, qv r.2.2.2.2.2) := by
 unfold wn; rw [qm h0, e]
end Go.AM
namespace Go.AM
open Go Go.Proofs
noncomputable section
abbrev qH4 (a : T5.T) (r : Int) : Prop := CC Tryz.prog 76 [.agg (qy (qr T5 a))] [] (ri r) (nb r)
def qmP (k : Nat) (a : T5.T) : Option Int :=
 if ((qaV k a.2.2.2.2.2).isSome) then
 some ((X2 k a.2.2.2.2.2).1)
 else none
def qbc := fun k a => (qmP k a).getD 0
def qt8 (k : Nat) : Ke := (76, mo 1, fun
 | [.agg b], [] => (qW [] T5 b).bind fun a => some (.one (ri (qbc k a), []))
 | _, _ => none)
theorem qPd (k a r) (h : qmP k a = some r): qH4 a r := qN Tryz.f76 (go (qD [qta k]) [] [] [.autoB [2] true []] (qu h qsg fun h => gL h))
theorem qzk {k a} (h : (qmP k a).isSome): qH4 a (qbc k a) := qJ h (qPd k a)
abbrev qJl (a : T5.T) (r : Int) : Prop := CC Tryz.prog 77 [.agg (qy (qr T5 a))] [] (ri r) (nb r)
def qFs := fun y0 y1 y2 y3 => (⟨qI 30 [(3, ri y0), (8, ro T3 y1), (9, ri y2), (10, ri y3)], []⟩ : St)
def qeE (k : Nat) : Nat → Int → List T3.T → Int → Int → Option Int
 | 0, _, _, _, _ => none
 | j + 1, y0, y1, y2, y3 =>
 bif y3 < y2 then
 if (0 ≤ y3) ∧ (y3 < y1.length) then
 bif (y1.getD y3.toNat T3.dflt).2.2 then
 qeE k j (if qa .i64 (qa .i64 ((y1.getD y3.toNat T3.dflt).1 - (y1.getD y3.toNat T3.dflt).2.1) + 1) < if (y1.getD y3.toNat T3.dflt).1 < y0 then (y1.getD y3.toNat T3.dflt).1 else y0 then qa .i64 (qa .i64 ((y1.getD y3.toNat T3.dflt).1 - (y1.getD y3.toNat T3.dflt).2.1) + 1) else if (y1.getD y3.toNat T3.dflt).1 < y0 then (y1.getD y3.toNat T3.dflt).1 else y0) y1 y2 (qa .i64 (y3 + 1))
 else
 qeE k j (if (y1.getD y3.toNat T3.dflt).1 < y0 then (y1.getD y3.toNat T3.dflt).1 else y0) y1 y2 (qa .i64 (y3 + 1))
 else none
 else
 some y0
def qrw (k : Nat) (a : T5.T) : Option Int :=
 qeE k k 17179869184 a.2.2.2.2.2 (↑ (qe a.2.2.2.2.2) : Int) 0
def qyk := fun k a => (qrw k a).getD 0
def qOG (k : Nat) : Ke := (77, mo 1, fun
 | [.agg b], [] => (qW [] T5 b).bind fun a => some (.one (ri (qyk k a), []))
 | _, _ => none)
def qzr : List (Nat × List Cmd) := [(3, [.autoB [3, 8, 9, 10] false []])]
abbrev qRX := EP Tryz.f77 0 ri nb
theorem qBr (k) : ∀ j, (∀ y0 y1 y2 y3, qRX 3 (qFs y0 y1 y2 y3) (qeE k j y0 y1 y2 y3))
 | 0 => by intros; exact e0
 | j + 1 => by
  have ih := @qBr k j
  ·intro y0 y1 y2 y3 r h
   rw [qeE] at h
   exact go (qD []) [] qzr [.autoB [2] true []] (gS h (fun h => qS h fun h => gS h (fun h => gC h 3 (ih _ _ _ _ _)) fun h => gC h 3 (ih _ _ _ _ _)) fun h => gL h)
theorem qN8 (k a r) (h : qrw k a = some r): qJl a r := qN Tryz.f77 (go (qD []) [] qzr [.autoB [2] true []] (gC h 3 ((qBr k k) _ _ _ _ _)))
theorem qQU {k a} (h : (qrw k a).isSome): qJl a (qyk k a) := qJ h (qN8 k a)
def qtl (a : T17.T) (b : List T18.T) (d : List (I.T × (RTy.bool).T)) (r : Int) : List (Nat × Blk) := [(0, .var 140 (qy (qr T17 a) ++ [.own 1 0])), (0, .row 54 T18 b), (0, .map false I RTy.bool d)]
abbrev qH0 (a : T17.T) (b : List T18.T) (d : List (I.T × (RTy.bool).T)) (r : Int) : Prop := CC Tryz.prog 78 [.ptr 0 0 0, .own 2 0] [.var 140 (qy (qr T17 a) ++ [.own 1 0]), .row 54 T18 b, .map false I RTy.bool d] (ri r) (qtl a b d r)
def qG9 := fun a b d y0 y1 y2 y3 => (⟨qI 67 [(0, .ptr 0 0 0), (1, .own 2 0), (5, ri y0), (15, ro T5 y1), (16, ri y2), (17, ri y3)], [(0, 0, .var 140 (qy (qr T17 a) ++ [.own 1 0])), (1, 0, .row 54 T18 b), (2, 0, .map false I RTy.bool d)]⟩ : St)
def qBZ := fun a b d y0 y1 y2 y3 => (⟨qI 67 [(5, ri y0), (53, ro T14 y1), (54, ri y2), (55, ri y3)], [(0, 0, .var 140 (qy (qr T17 a) ++ [.own 1 0])), (1, 0, .row 54 T18 b), (2, 0, .map false I RTy.bool d)]⟩ : St)
mutual
def qd3 (k : Nat) (a : T17.T) (b : List T18.T) (d : List (I.T × (RTy.bool).T)) : Nat → Int → List T5.T → Int → Int → Option Int
 | 0, _, _, _, _ => none
 | j + 1, y0, y1, y2, y3 =>
 bif y3 < y2 then
 if (0 ≤ y3) ∧ (y3 < y1.length) then
 if ((qmP k (y1.getD y3.toNat T5.dflt)).isSome) then
 bif (! (wd I (y1.getD y3.toNat T5.dflt).1 d).getD false) then
 if (0 ≤ y3) ∧ (y3 < (↑ (qe a.2.2.2.2.2.2.2.2.2.2.2.2.1) : Int)) then
 qd3 k a b d j (qa .i64 (y0 + qa .i64 ((y1.getD y3.toNat T5.dflt).2.2.2.1 * qa .i64 (qbc k (y1.getD y3.toNat T5.dflt) - if (if qbc k (y1.getD y3.toNat T5.dflt) < qM a.2.2.2.2.2.2.2.2.2.2.2.2.1 y3.toNat I.dflt then qbc k (y1.getD y3.toNat T5.dflt) else qM a.2.2.2.2.2.2.2.2.2.2.2.2.1 y3.toNat I.dflt) > 0 then if qbc k (y1.getD y3.toNat T5.dflt) < qM a.2.2.2.2.2.2.2.2.2.2.2.2.1 y3.toNat I.dflt then qbc k (y1.getD y3.toNat T5.dflt) else qM a.2.2.2.2.2.2.2.2.2.2.2.2.1 y3.toNat I.dflt else 0)))) y1 y2 (qa .i64 (y3 + 1))
 else none
 else
 qd3 k a b d j y0 y1 y2 (qa .i64 (y3 + 1))
 else none
 else none
 else
 qgx k a b d j y0 a.2.2.2.2.2.2.2.2.2.2.2.2.2.2.2.2.2.2.2.2.1 (↑ (qe a.2.2.2.2.2.2.2.2.2.2.2.2.2.2.2.2.2.2.2.2.1) : Int) 0
def qgx (k : Nat) (a : T17.T) (b : List T18.T) (d : List (I.T × (RTy.bool).T)) : Nat → Int → List T14.T → Int → Int → Option Int
 | 0, _, _, _, _ => none
 | j + 1, y0, y1, y2, y3 =>
 bif y3 < y2 then
 if (0 ≤ y3) ∧ (y3 < y1.length) then
 qgx k a b d j (qa .i64 (y0 + if (if 206158430208000 < (y1.getD y3.toNat T14.dflt).2.2.2 then 206158430208000 else (y1.getD y3.toNat T14.dflt).2.2.2) > 0 then if 206158430208000 < (y1.getD y3.toNat T14.dflt).2.2.2 then 206158430208000 else (y1.getD y3.toNat T14.dflt).2.2.2 else 0)) y1 y2 (qa .i64 (y3 + 1))
 else none
 else
 some y0
end
def qq2 (k : Nat) (a : T17.T) (b : List T18.T) (d : List (I.T × (RTy.bool).T)) : Option Int :=
 qd3 k a b d k 0 a.2.2.2.2.2.2.2.2.2.2.2.1 (↑ (qe a.2.2.2.2.2.2.2.2.2.2.2.1) : Int) 0
def qfR := fun k a b d => (qq2 k a b d).getD 0
def qPH (k : Nat) : Ke := (78, fun
 | [.ptr _ _ _, .own _ _] => some [true, true, true, true, true]
 | _ => none, fun
 | [.ptr 0 0 0, .own 2 0], [.var 140 e, .row 54 tb_22_ qb_22, .map false kscrapped__ i f] => (qW [] T17 (e.take 22)).bind fun a => (qE tb_22_ T18 qb_22).bind fun b => (qmT kscrapped__ i I RTy.bool f).bind fun d => some (.one (ri (qfR k a b d), qtl a b d (qfR k a b d)))
 | _, _ => none)
def qzm : List (Nat × List Cmd) := [(3, [.autoB [0, 1, 5, 15, 16, 17] false []]), (10, [.autoB [5, 53, 54, 55] false []])]
abbrev qIX := fun a b d => EP Tryz.f78 3 ri (qtl a b d)
theorem qBS (k a b d) : ∀ j, (∀ {y0 y1 y2 y3}, qIX a b d 3 (qG9 a b d y0 y1 y2 y3) (qd3 k a b d j y0 y1 y2 y3)) ∧ (∀ {y0 y1 y2 y3}, qIX a b d 10 (qBZ a b d y0 y1 y2 y3) (qgx k a b d j y0 y1 y2 y3))
 | 0 => by and_intros <;> intros <;> exact e0
 | j + 1 => by
  have ih := @qBS k a b d j
  have g := @go (qD [qt8 k]) [] qzm [.autoB [4] true []]
  refine ⟨?_, ?_⟩
  ·intro y0 y1 y2 y3 r h
   rw [qd3] at h
   exact g (gS h (fun h => qS h fun h => qu h qzk fun h => gS h (fun h => qS h fun h => gD h 3 ih.1) fun h => gD h 3 ih.1) fun h => gD h 10 ih.2)
  ·intro y0 y1 y2 y3 r h
   rw [qgx] at h
   exact g (gS h (fun h => qS h fun h => gD h 10 ih.2) fun h => gL h)
theorem qOy (k a b d r) (h : qq2 k a b d = some r): qH0 a b d r := qN Tryz.f78 (go (qD [qt8 k]) [] qzm [.autoB [4] true []] (gD h 3 (qBS k a b d k).1))
theorem qOP {k a b d} (h : (qq2 k a b d).isSome): qH0 a b d (qfR k a b d) := qJ h (qOy k a b d)
abbrev qa1 : Type := T17.T × List T18.T
def qpj (r : qa1) : AV := .tup []
def qs3 (a : T17.T) (b : List T18.T) (r : qa1) : List (Nat × Blk) := [(0, .var 140 ((qy (qr T17 r.1)) ++ [.own 1 1])), (1, .row 54 T18 r.2)]
abbrev qHk (a : T17.T) (b : List T18.T) (r : qa1) : Prop := CC Tryz.prog 35 [.ptr 0 0 0] [.var 140 (qy (qr T17 a) ++ [.own 1 0]), .row 54 T18 b] (qpj r) (qs3 a b r)
def qFI := fun (a : T17.T) (b : List T18.T) y0 y1 y2 y3 y4 => (⟨qI 209 [(0, .ptr 0 0 0), (56, ro T5 y0), (57, ri y1), (58, ri y2)], [(0, 0, .var 140 ((qy (qr T17 y3)) ++ [.own 1 1])), (1, 1, .row 54 T18 y4)]⟩ : St)
def qCi := fun (a : T17.T) (b : List T18.T) y0 y1 y2 y3 y4 y5 y6 y7 y8 y9 y10 y11 => (⟨qI 209 [(0, .ptr 0 0 0), (3, ri y0), (4, .ptr 1000000 0 0), (5, ri y1), (6, rb y2), (56, ro T5 y3), (57, ri y4), (58, ri y5), (90, ro T5 y6), (91, ri y7), (92, ri y8)], [(0, 0, .var 140 ((qy (qr T17 y9)) ++ [.own 1 1])), (1, 1, .row 54 T18 y10), (1000000, 0, .var 47 (qy (qr T5 y11)))]⟩ : St)
def qEB := fun (a : T17.T) (b : List T18.T) y0 y1 y2 y3 y4 y5 => (⟨qI 209 [(0, .ptr 0 0 0), (9, .own 1000000 0), (132, ro T5 y0), (133, ri y1), (134, ri y2)], [(0, 0, .var 140 ((qy (qr T17 y3)) ++ [.own 1 1])), (1, 1, .row 54 T18 y4), (1000000, 0, .map false I RTy.bool y5)]⟩ : St)
def qC3 := fun (a : T17.T) (b : List T18.T) y0 y1 y2 y3 y4 y5 y6 => (⟨qI 209 [(0, .ptr 0 0 0), (9, .own 1000000 0), (12, .own 1000001 0), (147, ro I y0), (148, ri y1), (149, ri y2)], [(0, 0, .var 140 ((qy (qr T17 y3)) ++ [.own 1 1])), (1, 1, .row 54 T18 y4), (1000000, 0, .map false I RTy.bool y5), (1000001, 0, .map false I RTy.bool y6)]⟩ : St)
mutual
def qfh (k : Nat) (a : T17.T) (b : List T18.T) : Nat → List T5.T → Int → Int → T17.T → List T18.T → Option qa1
 | 0, _, _, _, _, _ => none
 | j + 1, y0, y1, y2, y3, y4 =>
 bif y2 < y1 then
 if (0 ≤ y2) ∧ (y2 < y0.length) then
 if ((qmP k (y0.getD y2.toNat T5.dflt)).isSome) then
 if (0 ≤ y2) ∧ (y2 < (↑ (qe y3.2.2.2.2.2.2.2.2.2.2.2.2.1) : Int)) ∧ (decide (qM y3.2.2.2.2.2.2.2.2.2.2.2.2.1 y2.toNat I.dflt ≥ (0 : Int)) = true → 0 ≤ y2) ∧ (decide (qM y3.2.2.2.2.2.2.2.2.2.2.2.2.1 y2.toNat I.dflt ≥ (0 : Int)) = true → y2 < (↑ (qe y3.2.2.2.2.2.2.2.2.2.2.2.2.1) : Int)) then
 Yv k a b j y2 (qbc k (y0.getD y2.toNat T5.dflt)) (decide (qM y3.2.2.2.2.2.2.2.2.2.2.2.2.1 y2.toNat I.dflt ≥ 0) && decide (qM y3.2.2.2.2.2.2.2.2.2.2.2.2.1 y2.toNat I.dflt ≤ qbc k (y0.getD y2.toNat T5.dflt))) y0 y1 y2 y3.2.2.2.2.2.2.2.2.2.2.2.1 (↑ (qe y3.2.2.2.2.2.2.2.2.2.2.2.1) : Int) 0 y3 y4 (y0.getD y2.toNat T5.dflt)
 else none
 else none
 else none
 else
 qfO k a b j y3.2.2.2.2.2.2.2.2.2.2.2.1 (↑ (qe y3.2.2.2.2.2.2.2.2.2.2.2.1) : Int) 0 y3 y4 ([])
def Yv (k : Nat) (a : T17.T) (b : List T18.T) : Nat → Int → Int → Bool → List T5.T → Int → Int → List T5.T → Int → Int → T17.T → List T18.T → T5.T → Option qa1
 | 0, _, _, _, _, _, _, _, _, _, _, _, _ => none
 | j + 1, y0, y1, y2, y3, y4, y5, y6, y7, y8, y9, y10, y11 =>
 bif y8 < y7 then
 if (0 ≤ y8) ∧ (y8 < y6.length) then
 bif y2 then
 bif ((y6.getD y8.toNat T5.dflt).2.1 != y11.1) then
 if (y2 = true) ∧ (((y6.getD y8.toNat T5.dflt).2.1 != y11.1) = true) then
 Yv k a b j y0 y1 (true && true) y3 y4 y5 y6 y7 (qa .i64 (y8 + 1)) y9 y10 y11
 else none
 else
 if (y2 = true) ∧ (((y6.getD y8.toNat T5.dflt).2.1 != y11.1) = false) ∧ ((qrw k (y6.getD y8.toNat T5.dflt)).isSome) ∧ (0 ≤ y0) ∧ (y0 < (↑ (qe y9.2.2.2.2.2.2.2.2.2.2.2.2.1) : Int)) then
 Yv k a b j y0 y1 (true && (false || decide (qyk k (y6.getD y8.toNat T5.dflt) ≥ qa .i64 (y1 - qM y9.2.2.2.2.2.2.2.2.2.2.2.2.1 y0.toNat I.dflt)))) y3 y4 y5 y6 y7 (qa .i64 (y8 + 1)) y9 y10 y11
 else none
 else
 if (y2 = false) then
 Yv k a b j y0 y1 false y3 y4 y5 y6 y7 (qa .i64 (y8 + 1)) y9 y10 y11
 else none
 else none
 else
 bif (!y2) then
 if ((wR k y9 y10 3 y11.1 1).isSome) then
 qfh k a b j y3 y4 (qa .i64 (y5 + 1)) ((q9 k y9 y10 3 y11.1 1).1) ((q9 k y9 y10 3 y11.1 1).2)
 else none
 else
 qfh k a b j y3 y4 (qa .i64 (y5 + 1)) y9 y10
def qfO (k : Nat) (a : T17.T) (b : List T18.T) : Nat → List T5.T → Int → Int → T17.T → List T18.T → (List (I.T × (RTy.bool).T)) → Option qa1
 | 0, _, _, _, _, _, _ => none
 | j + 1, y0, y1, y2, y3, y4, y5 =>
 bif y2 < y1 then
 if (0 ≤ y2) ∧ (y2 < y0.length) then
 qfO k a b j y0 y1 (qa .i64 (y2 + 1)) y3 y4 (vq I (y0.getD y2.toNat T5.dflt).1 true y5)
 else none
 else
 qct k a b j y3.2.2.2.2.2.2.2.2.2.2.2.2.2.1 (↑ (qe y3.2.2.2.2.2.2.2.2.2.2.2.2.2.1) : Int) 0 y3 y4 y5 ([])
def qct (k : Nat) (a : T17.T) (b : List T18.T) : Nat → List I.T → Int → Int → T17.T → List T18.T → (List (I.T × (RTy.bool).T)) → (List (I.T × (RTy.bool).T)) → Option qa1
 | 0, _, _, _, _, _, _, _ => none
 | j + 1, y0, y1, y2, y3, y4, y5, y6 =>
 bif y2 < y1 then
 if (0 ≤ y2) ∧ (y2 < y0.length) then
 bif (! (wd I (y0.getD y2.toNat I.dflt) y5).getD false || (wd I (y0.getD y2.toNat I.dflt) y6).getD false) then
 if ((wR k y3 y4 3 (y0.getD y2.toNat I.dflt) 2).isSome) then
 qct k a b j y0 y1 (qa .i64 (y2 + 1)) ((q9 k y3 y4 3 (y0.getD y2.toNat I.dflt) 2).1) ((q9 k y3 y4 3 (y0.getD y2.toNat I.dflt) 2).2) y5 (vq I (y0.getD y2.toNat I.dflt) true y6)
 else none
 else
 qct k a b j y0 y1 (qa .i64 (y2 + 1)) y3 y4 y5 (vq I (y0.getD y2.toNat I.dflt) true y6)
 else none
 else
 bif (decide (y3.2.2.2.1 < (0 : Int)) || decide (y3.2.2.2.1 > y3.2.2.1)) then
 if ((wR k y3 y4 3 0 3).isSome) then
 some ((q9 k y3 y4 3 0 3).1, (q9 k y3 y4 3 0 3).2)
 else none
 else
 if ((qq2 k y3 y4 y6).isSome) then
 bif (qa .i64 (qfR k y3 y4 y6 - qa .i64 (y3.2.1 * y3.2.2.2.1)) != (0 : Int)) then
 if ((wR k y3 y4 4 (qa .i64 (qfR k y3 y4 y6 - qa .i64 (y3.2.1 * y3.2.2.2.1))) 0).isSome) then
 some ((q9 k y3 y4 4 (qa .i64 (qfR k y3 y4 y6 - qa .i64 (y3.2.1 * y3.2.2.2.1))) 0).1, (q9 k y3 y4 4 (qa .i64 (qfR k y3 y4 y6 - qa .i64 (y3.2.1 * y3.2.2.2.1))) 0).2)
 else none
 else
 some (y3, y4)
 else none
end
def qnl (k : Nat) (a : T17.T) (b : List T18.T) : Option qa1 :=
 if ((qq1 k a.2.2.2.2.2.2.2.2.2.2.2.1 a.2.1 a.2.2.1).isSome) then
 bif (qiV k a.2.2.2.2.2.2.2.2.2.2.2.1 a.2.1 a.2.2.1 != (0 : Int)) then
 if ((wR k a b 3 0 (qiV k a.2.2.2.2.2.2.2.2.2.2.2.1 a.2.1 a.2.2.1)).isSome) then
 some ((q9 k a b 3 0 (qiV k a.2.2.2.2.2.2.2.2.2.2.2.1 a.2.1 a.2.2.1)).1, (q9 k a b 3 0 (qiV k a.2.2.2.2.2.2.2.2.2.2.2.1 a.2.1 a.2.2.1)).2)
 else none
 else
 bif ((↑ (qe a.2.2.2.2.2.2.2.2.2.2.2.2.1) : Int) != (↑ (qe a.2.2.2.2.2.2.2.2.2.2.2.1) : Int)) then
 if ((wR k a b 3 0 0).isSome) then
 some ((q9 k a b 3 0 0).1, (q9 k a b 3 0 0).2)
 else none
 else
 qfh k a b k a.2.2.2.2.2.2.2.2.2.2.2.1 (↑ (qe a.2.2.2.2.2.2.2.2.2.2.2.1) : Int) 0 a b
 else none
def qfs := fun k a b => (qnl k a b).getD ((T17).dflt, [])
def qmI (k : Nat) : Ke := (35, fun
 | [.ptr _ _ _] => some [true]
 | _ => none, fun
 | [.ptr 0 0 0], [.var 140 d, .row 54 tt_22_ qt_22] => (qW [] T17 (d.take 22)).bind fun a => (qE tt_22_ T18 qt_22).bind fun b => some (.one (qpj (qfs k a b), qs3 a b (qfs k a b)))
 | _, _ => none)
def qHZ (k : Nat) : Calld := qD [qPt k, qar k, qt8 k, qOG k, qPH k]
def qz7 : List (Nat × List Cmd) := [(6, [.autoB [0, 56, 57, 58] false [1]]), (11, [.autoB [0, 3, 4, 5, 6, 56, 57, 58, 90, 91, 92] false [1]]), (20, [.autoB [0, 9, 132, 133, 134] false [1]]), (26, [.autoB [0, 9, 12, 147, 148, 149] false [1]])]
abbrev qrp := fun a b => EP Tryz.f35 2 qpj (qs3 a b)
theorem qAd (k a b) : ∀ j, (∀ {y0 y1 y2 y3 y4}, qrp a b 6 (qFI a b y0 y1 y2 y3 y4) (qfh k a b j y0 y1 y2 y3 y4)) ∧ (∀ {y0 y1 y2 y3 y4 y5 y6 y7 y8 y9 y10 y11}, qrp a b 11 (qCi a b y0 y1 y2 y3 y4 y5 y6 y7 y8 y9 y10 y11) (Yv k a b j y0 y1 y2 y3 y4 y5 y6 y7 y8 y9 y10 y11)) ∧ (∀ {y0 y1 y2 y3 y4 y5}, qrp a b 20 (qEB a b y0 y1 y2 y3 y4 y5) (qfO k a b j y0 y1 y2 y3 y4 y5)) ∧ (∀ {y0 y1 y2 y3 y4 y5 y6}, qrp a b 26 (qC3 a b y0 y1 y2 y3 y4 y5 y6) (qct k a b j y0 y1 y2 y3 y4 y5 y6))
 | 0 => by and_intros <;> intros <;> exact e0
 | j + 1 => by
  have ih := @qAd k a b j
  have g := @go (qHZ k) [] qz7 [.autoB [] true [1]]
  refine ⟨?_, ?_, ?_, ?_⟩
  ·intro y0 y1 y2 y3 y4 r h
   rw [qfh] at h
   exact g (gS h (fun h => qS h fun h => qu h qzk fun h => gN h Xs fun h => gD h 11 ih.2.1) fun h => gD h 20 ih.2.2.1)
  ·intro y0 y1 y2 y3 y4 y5 y6 y7 y8 y9 y10 y11 r h
   rw [Yv] at h
   exact g (gS h (fun h => qS h fun h => gS h (fun h => gS h (fun h => qS h fun h => gD h 11 ih.2.1) fun h => gN h (fun q => qf q.1 (qf q.2.1 (qf (qQU q.2.2.1) (qf q.2.2.2.1 (qf q.2.2.2.2 qR))))) fun h => gD h 11 ih.2.1) fun h => qu h id fun h => gD h 11 ih.2.1) fun h => gS h (fun h => qu h wN fun h => gD h 6 ih.1) fun h => gD h 6 ih.1)
  ·intro y0 y1 y2 y3 y4 y5 r h
   rw [qfO] at h
   exact g (gS h (fun h => qS h fun h => gD h 20 ih.2.2.1) fun h => gD h 26 ih.2.2.2)
  ·intro y0 y1 y2 y3 y4 y5 y6 r h
   rw [qct] at h
   exact g (gS h (fun h => qS h fun h => gS h (fun h => qu h wN fun h => gD h 26 ih.2.2.2) fun h => gD h 26 ih.2.2.2) fun h => gS h (fun h => qu h wN fun h => gL h) fun h => gN h (fun q => qf (⟨rfl, ⟨rfl, ⟨rfl, trivial⟩⟩⟩ : qbd (0, .var 140 ((qy (qr T17 y3)) ++ [.own 1 1])) ∧ qbd (1, .row 54 T18 y4) ∧ qbd (0, .map false I RTy.bool y6) ∧ True) (qf (qOP q) qR)) fun h => gS h (fun h => qu h wN fun h => gL h) fun h => gL h)
theorem qRu (k a b r) (h : qnl k a b = some r): qHk a b r := qN Tryz.f35 (go (qHZ k) [] qz7 [.autoB [] true [1]] (qu h qNN fun h => gS h (fun h => qu h wN fun h => gL h) fun h => gS h (fun h => qu h wN fun h => gL h) fun h => gD h 6 (qAd k a b k).1))
theorem qDT {k a b} (h : (qnl k a b).isSome): qHk a b (qfs k a b) := qJ h (qRu k a b)
end
def wj (x : Int) (l : List Int) : Bool := l.any (fun y => y == x)
end Go.AM
namespace Go.AM
open Go Go.Proofs
noncomputable section
def qEd (r : T17.T) : AV := .sub 2 0 1 0 1
def qHp (a : T17.T) (b : List T18.T) (r : T17.T) : List (Nat × Blk) := [(0, .var 140 ((qy (qr T17 r)) ++ [.own 1 0])), (0, .row 54 T18 b), (0, .var 1 [.fn (Fn.func 35) [.ptr 0 0 0] []])]
abbrev qPG (a : T17.T) (b : List T18.T) (r : T17.T) : Prop := CC Tryz.prog 34 [.ptr 0 0 0] [.var 140 (qy (qr T17 a) ++ [.own 1 0]), .row 54 T18 b] (qEd r) (qHp a b r)
def qyH (k : Nat) (a : T17.T) (b : List T18.T) : Option T17.T :=
 some a
def qx3 := fun k a b => (qyH k a b).getD (T17).dflt
def qHA (k : Nat) : Ke := (34, fun
 | [.ptr _ _ _] => some [true]
 | _ => none, fun
 | [.ptr 0 0 0], [.var 140 d, .row 54 tx_22_ qx_22] => (qW [] T17 (d.take 22)).bind fun a => (qE tx_22_ T18 qx_22).bind fun b => some (.one (qEd (qx3 k a b), qHp a b (qx3 k a b)))
 | _, _ => none)
theorem qSx (k a b r) (h : qyH k a b = some r): qPG a b r := qN Tryz.f34 (go (qD [qmI k]) [] [] [.autoB [2] true []] (gL h))
theorem qRJ {k a b} (h : (qyH k a b).isSome): qPG a b (qx3 k a b) := qJ h (qSx k a b)
abbrev qno : Type := List T18.T × Int
def qo0 (r : qno) : AV := .tup [ro T18 r.1, ri r.2]
abbrev qIf (a : T17.T) (r : qno) : Prop := CC Tryz.prog 33 [.agg (qy (qr T17 a)), .r (.v (.func (.func 34) #[] #[]))] [] (qo0 r) (nb r)
def qsp := fun y0 y1 => (⟨qI 29 [(6, .ptr 1000000 0 0), (16, .sub 1000002 0 1 0 1), (17, ri 1), (18, ri 0)], [(1000000, 0, .var 140 ((qy (qr T17 y0)) ++ [.own 1000001 0])), (1000001, 0, .row 54 T18 y1), (1000002, 0, .var 1 [.fn (Fn.func 35) [.ptr 1000000 0 0] []])]⟩ : St)
def qtM := fun y0 y1 => (⟨qI 29 [(6, .ptr 1000000 0 0), (16, .sub 1000002 0 1 0 1), (17, ri 1), (18, ri 1)], [(1000000, 0, .var 140 ((qy (qr T17 y0)) ++ [.own 1000001 0])), (1000001, 0, .row 54 T18 y1), (1000002, 0, .var 1 [.fn (Fn.func 35) [.ptr 1000000 0 0] []])]⟩ : St)
mutual
def qd0 (k : Nat) : Nat → T17.T → List T18.T → Option qno
 | 0, _, _ => none
 | j + 1, y0, y1 =>
 if ((0 : Int) ≤ (0 : Int)) ∧ ((0 : Int) < (↑ (1 : Nat) : Int)) then
 if ((qnl k y0 y1).isSome) then
 qdK k j ((qfs k y0 y1).1) ((qfs k y0 y1).2)
 else none
 else none
def qdK (k : Nat) : Nat → T17.T → List T18.T → Option qno
 | 0, _, _ => none
 | j + 1, y0, y1 =>
 some (y1, 0)
end
def qrr (k : Nat) (a : T17.T) : Option qno :=
 if ((qaY k a).isSome) then
 bif (qcW k a) then
 some ([], 8)
 else
 if ((qyH k a []).isSome) then
 qd0 k k (qx3 k a []) ([])
 else none
 else none
def qqZ := fun k a => (qrr k a).getD ([], 0)
def qO5 (k : Nat) : Ke := (33, fun
 | [_, .r (.v (.func (.func 34) _ _))] => some [false, false]
 | _ => none, fun
 | [.agg b, .r (.v (.func (.func 34) _ _))], [] => (qW [] T17 b).bind fun a => some (.one (qo0 (qqZ k a), []))
 | _, _ => none)
def qH5 (k : Nat) : Calld := qD [qmL k, qmI k, qHA k]
def qBy : List (Nat × List Cmd) := [(5, [.key 18, .autoB [6, 16, 17, 18] false []])]
abbrev qIZ := EP Tryz.f33 0 qo0 nb
theorem qAU (k) : ∀ j, (∀ {y0 y1}, qIZ 5 (qsp y0 y1) (qd0 k j y0 y1)) ∧ (∀ {y0 y1}, qIZ 5 (qtM y0 y1) (qdK k j y0 y1))
 | 0 => by and_intros <;> intros <;> exact e0
 | j + 1 => by
  have ih := @qAU k j
  have g := @go (qH5 k) [] qBy [.frz 4 false (RTy.list T18), .autoB [4, 5] true []]
  refine ⟨?_, ?_⟩
  ·intro y0 y1 r h
   rw [qd0] at h
   exact g (gU1 h (.leaf (.tup [.r (.ro T18 y1), .r (.v (.int .i64 0))]) []) fun h => qS h fun h => qu h qDT fun h => gD h 20005 ih.2)
  ·intro y0 y1 r h
   rw [qdK] at h
   exact g (gU2 h (.stuck 5001) fun h => gL h)
theorem qQT (k a r) (h : qrr k a = some r): qIf a r := qN Tryz.f33 (go (qH5 k) [] qBy [.frz 4 false (RTy.list T18), .autoB [4, 5] true []] (qu h qmc fun h => qB h fun h => qu h qRJ fun h => gD h 10005 (qAU k k).1))
theorem qN9 {k a} (h : (qrr k a).isSome): qIf a (qqZ k a) := qJ h (qQT k a)
abbrev qGS : Type := List T18.T × Int
def qzU (r : qGS) : AV := .tup [ro T18 r.1, ri r.2]
abbrev qNT (a : T17.T) (r : qGS) : Prop := CC Tryz.prog 14 [.agg (qy (qr T17 a))] [] (qzU r) (nb r)
def qyB (k : Nat) (a : T17.T) : Option qGS :=
 if ((qrr k a).isSome) then
 some ((qqZ k a).1, (qqZ k a).2)
 else none
def qh2 := fun k a => (qyB k a).getD ([], 0)
def qRK (k : Nat) : Ke := (14, mo 1, fun
 | [.agg b], [] => (qW [] T17 b).bind fun a => some (.one (qzU (qh2 k a), []))
 | _, _ => none)
theorem qSf (k a r) (h : qyB k a = some r): qNT a r := qN Tryz.f14 (go (qD [qHA k, qO5 k]) [] [] [.frz 2 false (RTy.list T18), .autoB [2, 3] true []] (qu h qN9 fun h => gL h))
theorem qSa {k a} (h : (qyB k a).isSome): qNT a (qh2 k a) := qJ h (qSf k a)
end
def bs (b : T17.T) (f : List wO) : qa1 := (b, f)
theorem qkV (M : List (Int × Bool)) (a x : Int) : (wd I (β := Bool) x (vq I (β := Bool) a true M)).getD false = (a == x || (wd I (β := Bool) x M).getD false) := by
 rw [qqz]
 by_cases h : x = a
 ·rw [qd h, h, beq_self_eq_true, zX]; rfl
 ·rw [qm h, show (a == x) = false from beq_eq_false_iff_ne.2 (fun e => h e.symm), zn]
theorem qpN (x a : Int) (l : List Int) : wj x (l ++ [a]) = (a == x || wj x l) := by
 unfold wj
 rw [List.any_append, List.any_cons, List.any_nil, Bool.or_false, Bool.or_comm]
end Go.AM
namespace Go.AM
open Go Go.Proofs
noncomputable section
end
end Go.AM
namespace Go.AM
open Go Go.Proofs
noncomputable section
abbrev qDW (a : List I.T) (b : Int) (d : Int) (r : Bool) : Prop := CC Tryz.prog 45 [ro I a, ri b, ri d] [] (rb r) (nb r)
def qAD := fun y0 y1 y2 y3 => (⟨qI 19 [(0, ro I y0), (1, ri y1), (2, ri y2), (7, ri y3)], []⟩ : St)
def V2 (k : Nat) : Nat → List I.T → Int → Int → Int → Option Bool
 | 0, _, _, _, _ => none
 | j + 1, y0, y1, y2, y3 =>
 bif y3 < y1 then
 if (0 ≤ y3) ∧ (y3 < y0.length) then
 bif (y0.getD y3.toNat I.dflt == y2) then
 some true
 else
 V2 k j y0 y1 y2 (qa .i64 (y3 + 1))
 else none
 else
 some false
def Zg (k : Nat) (a : List I.T) (b : Int) (d : Int) : Option Bool :=
 V2 k k a b d 0
def Vp := fun k a b d => (Zg k a b d).getD false
def qiU (k : Nat) : Ke := (45, mo 3, fun
 | [.r (.ro f e), .r (.v (.int .i64 b)), .r (.v (.int .i64 d))], [] => (qE f I e).bind fun a => some (.one (rb (Vp k a b d), []))
 | _, _ => none)
def qv5 : List (Nat × List Cmd) := [(2, [.autoB [0, 1, 2, 7] false []])]
abbrev qQE := EP Tryz.f45 0 rb nb
theorem qwc (k) : ∀ j, (∀ y0 y1 y2 y3, qQE 2 (qAD y0 y1 y2 y3) (V2 k j y0 y1 y2 y3))
 | 0 => by intros; exact e0
 | j + 1 => by
  have ih := @qwc k j
  ·intro y0 y1 y2 y3 r h
   rw [V2] at h
   exact go (qD []) [] qv5 [.autoB [6] true []] (gS h (fun h => qS h fun h => qB h fun h => gC h 2 (ih _ _ _ _ _)) fun h => gL h)
theorem qL4 (k a b d r) (h : Zg k a b d = some r): qDW a b d r := qN Tryz.f45 (go (qD []) [] qv5 [.autoB [6] true []] (gC h 2 ((qwc k k) _ _ _ _ _)))
theorem qeg {k a b d} (h : (Zg k a b d).isSome): qDW a b d (Vp k a b d) := qJ h (qL4 k a b d)
end
end Go.AM
namespace Go.AM
open Go Go.Proofs
noncomputable section
def bs_H62_u51_0 : ByteArray := ByteArray.mk #[48, 49, 50, 51, 52, 53, 54, 55, 56, 57, 97, 98, 99, 100, 101, 102, 103, 104, 105, 106, 107, 108, 109, 110, 111, 112, 113, 114, 115, 116, 117, 118, 119, 120, 121, 122]
def bs_H62_u51_1 : ByteArray := ByteArray.mk #[48, 49, 50, 51, 52, 53, 54, 55, 56, 57, 97, 98, 99, 100, 101, 102, 103, 104, 105, 106, 107, 108, 109, 110, 111, 112, 113, 114, 115, 116, 117, 118, 119, 120, 121, 122]
def qw3 (r : ByteArray) : AV := .r (.v (.string r))
abbrev qJc (a : Int) (r : ByteArray) : Prop := CC Tryz.prog 204 [ri a] [] (qw3 r) (nb r)
def qrd (k : Nat) (a : Int) : Option ByteArray :=
 bif a < 10 then
 if (0 ≤ a) ∧ (a ≤ qa .i64 (a + 1)) ∧ (qa .i64 (a + 1) ≤ (↑ bs_H62_u51_0.size : Int)) then
 some (bs_H62_u51_1.extract a.toNat (qa .i64 (a + 1)).toNat)
 else none
 else
 if ((0 : Int) ≤ qa .i64 (a * 2)) ∧ (qa .i64 (a * 2) ≤ qa .i64 (qa .i64 (a * 2) + (2 : Int))) ∧ (qa .i64 (qa .i64 (a * 2) + (2 : Int)) ≤ (↑ (ByteArray.mk (([48, 48, 48, 49, 48, 50, 48, 51, 48, 52, 48, 53, 48, 54, 48, 55, 48, 56, 48, 57, 49, 48, 49, 49, 49, 50, 49, 51, 49, 52, 49, 53, 49, 54, 49, 55, 49, 56, 49, 57, 50, 48, 50, 49, 50, 50, 50, 51, 50, 52].append [50, 53, 50, 54, 50, 55, 50, 56, 50, 57, 51, 48, 51, 49, 51, 50, 51, 51, 51, 52, 51, 53, 51, 54, 51, 55, 51, 56, 51, 57, 52, 48, 52, 49, 52, 50, 52, 51, 52, 52, 52, 53, 52, 54, 52, 55, 52, 56, 52, 57]).append ([53, 48, 53, 49, 53, 50, 53, 51, 53, 52, 53, 53, 53, 54, 53, 55, 53, 56, 53, 57, 54, 48, 54, 49, 54, 50, 54, 51, 54, 52, 54, 53, 54, 54, 54, 55, 54, 56, 54, 57, 55, 48, 55, 49, 55, 50, 55, 51, 55, 52].append [55, 53, 55, 54, 55, 55, 55, 56, 55, 57, 56, 48, 56, 49, 56, 50, 56, 51, 56, 52, 56, 53, 56, 54, 56, 55, 56, 56, 56, 57, 57, 48, 57, 49, 57, 50, 57, 51, 57, 52, 57, 53, 57, 54, 57, 55, 57, 56, 57, 57])).toArray).size : Int)) then
 some ((ByteArray.mk (([48, 48, 48, 49, 48, 50, 48, 51, 48, 52, 48, 53, 48, 54, 48, 55, 48, 56, 48, 57, 49, 48, 49, 49, 49, 50, 49, 51, 49, 52, 49, 53, 49, 54, 49, 55, 49, 56, 49, 57, 50, 48, 50, 49, 50, 50, 50, 51, 50, 52].append [50, 53, 50, 54, 50, 55, 50, 56, 50, 57, 51, 48, 51, 49, 51, 50, 51, 51, 51, 52, 51, 53, 51, 54, 51, 55, 51, 56, 51, 57, 52, 48, 52, 49, 52, 50, 52, 51, 52, 52, 52, 53, 52, 54, 52, 55, 52, 56, 52, 57]).append ([53, 48, 53, 49, 53, 50, 53, 51, 53, 52, 53, 53, 53, 54, 53, 55, 53, 56, 53, 57, 54, 48, 54, 49, 54, 50, 54, 51, 54, 52, 54, 53, 54, 54, 54, 55, 54, 56, 54, 57, 55, 48, 55, 49, 55, 50, 55, 51, 55, 52].append [55, 53, 55, 54, 55, 55, 55, 56, 55, 57, 56, 48, 56, 49, 56, 50, 56, 51, 56, 52, 56, 53, 56, 54, 56, 55, 56, 56, 56, 57, 57, 48, 57, 49, 57, 50, 57, 51, 57, 52, 57, 53, 57, 54, 57, 55, 57, 56, 57, 57])).toArray).extract (qa .i64 (a * 2)).toNat (qa .i64 (qa .i64 (a * 2) + 2)).toNat)
 else none
def qx4 := fun k a => (qrd k a).getD ByteArray.empty
def qQO (k : Nat) : Ke := (204, mo 1, fun
 | [.r (.v (.int .i64 a))], [] => some (.one (qw3 (qx4 k a), []))
 | _, _ => none)
theorem qNs (k a r) (h : qrd k a = some r): qJc a r := qN Tryz.f204 (go (qD []) [] [] [.autoB [2] true []] (gS h (fun h => gN h Xn fun h => gL h) fun h => gN h Xn fun h => gL h))
theorem qQo {k a} (h : (qrd k a).isSome): qJc a (qx4 k a) := qJ h (qNs k a)
def qwv (r : ByteArray) : AV := .r (.v (.string r))
abbrev qH2 (a : Int) (b : Int) (r : ByteArray) : Prop := CC Tryz.prog 161 [ri a, ri b] [] (qwv r) (nb r)
def qra (k : Nat) (a : Int) (b : Int) : Option ByteArray :=
 bif (b == 10) then
 bif (decide (0 ≤ a) && decide (a < 100)) then
 if ((qrd k a).isSome) then
 some (qx4 k a)
 else none
 else
 bif a < 0 then
 none
 else
 none
 else
 none
def qyY := fun k a b => (qra k a b).getD ByteArray.empty
def qN4 (k : Nat) : Ke := (161, mo 2, fun
 | [.r (.v (.int .i64 a)), .r (.v (.int .i64 b))], [] => some (.one (qwv (qyY k a b), []))
 | _, _ => none)
theorem qRo (k a b r) (h : qra k a b = some r): qH2 a b r := qN Tryz.f161 (go (qD [qQO k]) [] [] [.autoB [4] true []] (gS h (fun h => gS h (fun h => qu h qQo fun h => gL h) fun h => gS h (fun h => gZ h (.stuck 2001)) fun h => gZ h (.stuck 2001)) fun h => gZ h (.stuck 2005)))
theorem qPh {k a b} (h : (qra k a b).isSome): qH2 a b (qyY k a b) := qJ h (qRo k a b)
def qu1 (r : ByteArray) : AV := .r (.v (.string r))
abbrev qIr (a : Int) (r : ByteArray) : Prop := CC Tryz.prog 111 [ri a] [] (qu1 r) (nb r)
def qqU (k : Nat) (a : Int) : Option ByteArray :=
 if ((qra k a 10).isSome) then
 some (qyY k a 10)
 else none
def qyG := fun k a => (qqU k a).getD ByteArray.empty
def qQg (k : Nat) : Ke := (111, mo 1, fun
 | [.r (.v (.int .i64 a))], [] => some (.one (qu1 (qyG k a), []))
 | _, _ => none)
theorem qPu (k a r) (h : qqU k a = some r): qIr a r := qN Tryz.f111 (go (qD [qN4 k]) [] [] [.autoB [2] true []] (qu h qPh fun h => gL h))
theorem qNo {k a} (h : (qqU k a).isSome): qIr a (qyG k a) := qJ h (qPu k a)
def qsP (r : ByteArray) : AV := .r (.v (.string r))
abbrev qBc (a : Int) (r : ByteArray) : Prop := CC Tryz.prog 64 [ri a] [] (qsP r) (nb r)
def qhy (k : Nat) (a : Int) : Option ByteArray :=
 if ((qqU k a).isSome) then
 some (qyG k a)
 else none
def qX := fun k a => (qhy k a).getD ByteArray.empty
def qJJ (k : Nat) : Ke := (64, mo 1, fun
 | [.r (.v (.int .i64 a))], [] => some (.one (qsP (qX k a), []))
 | _, _ => none)
theorem qKu (k a r) (h : qhy k a = some r): qBc a r := qN Tryz.f64 (go (qD [qQg k]) [] [] [.autoB [2] true []] (qu h qNo fun h => gL h))
theorem qvT {k a} (h : (qhy k a).isSome): qBc a (qX k a) := qJ h (qKu k a)
def bs_H62_u7_0 : ByteArray := ByteArray.mk #[115, 101, 99, 116, 105, 111, 110, 115, 58, 32, 101, 114, 114, 111, 114, 32]
def quB : ByteArray := ByteArray.mk #[115, 101, 99, 116, 105, 111, 110, 115, 58, 32, 101, 114, 114, 111, 114, 32]
def bs_H62_u7_2 : ByteArray := ByteArray.mk #[32, 100, 111, 101, 115, 32, 110, 111, 116, 32, 109, 97, 116, 99, 104, 58, 32, 101, 114, 114, 111, 114, 32]
def quI : ByteArray := ByteArray.mk #[32, 100, 111, 101, 115, 32, 110, 111, 116, 32, 109, 97, 116, 99, 104, 58, 32, 101, 114, 114, 111, 114, 32]
def bs_H62_u7_4 : ByteArray := ByteArray.mk #[116, 104, 101, 32, 97, 114, 101, 97, 32, 111, 102, 32, 116, 104, 101, 32, 119, 101, 98, 32, 105, 115, 32, 110, 111, 116, 32, 98, 97, 108, 97, 110, 99, 101, 100, 58, 32]
def quN : ByteArray := ByteArray.mk #[116, 104, 101, 32, 97, 114, 101, 97, 32, 111, 102, 32, 116, 104, 101, 32, 119, 101, 98, 32, 105, 115, 32, 110, 111, 116, 32, 98, 97, 108, 97, 110, 99, 101, 100, 58, 32]
def bs_H62_u7_6 : ByteArray := ByteArray.mk #[115, 104, 105, 112, 112, 101, 100, 32, 114, 111, 108, 108, 32]
def quO : ByteArray := ByteArray.mk #[115, 104, 105, 112, 112, 101, 100, 32, 114, 111, 108, 108, 32]
def bs_H62_u7_8 : ByteArray := ByteArray.mk #[32, 119, 97, 115, 32, 110, 111, 116, 32, 114, 101, 108, 101, 97, 115, 101, 100, 58, 32, 101, 114, 114, 111, 114, 32]
def quR : ByteArray := ByteArray.mk #[32, 119, 97, 115, 32, 110, 111, 116, 32, 114, 101, 108, 101, 97, 115, 101, 100, 58, 32, 101, 114, 114, 111, 114, 32]
def bs_H62_u7_10 : ByteArray := ByteArray.mk #[116, 104, 101, 32, 99, 114, 101, 100, 105, 116, 32, 111, 102, 32, 99, 108, 97, 105, 109, 32]
def bs_H62_u7_11 : ByteArray := ByteArray.mk #[32, 115, 104, 111, 117, 108, 100, 32, 98, 101, 32]
def qun : ByteArray := ByteArray.mk #[116, 104, 101, 32, 99, 114, 101, 100, 105, 116, 32, 111, 102, 32, 99, 108, 97, 105, 109, 32]
def qsJ : ByteArray := ByteArray.mk #[32, 115, 104, 111, 117, 108, 100, 32, 98, 101, 32]
def bs_H62_u7_14 : ByteArray := ByteArray.mk #[32, 99, 97, 110, 110, 111, 116, 32, 98, 101, 32, 115, 101, 116, 116, 108, 101, 100, 58, 32, 101, 114, 114, 111, 114, 32]
def qsX : ByteArray := ByteArray.mk #[32, 99, 97, 110, 110, 111, 116, 32, 98, 101, 32, 115, 101, 116, 116, 108, 101, 100, 58, 32, 101, 114, 114, 111, 114, 32]
def bs_H62_u7_16 : ByteArray := ByteArray.mk #[98, 114, 111, 107, 101, 58, 32, 101, 114, 114, 111, 114, 32]
def qsI : ByteArray := ByteArray.mk #[98, 114, 111, 107, 101, 58, 32, 101, 114, 114, 111, 114, 32]
def bs_H62_u7_18 : ByteArray := ByteArray.mk #[32, 105, 115, 32, 114, 101, 112, 101, 97, 116, 101, 100]
def qto : ByteArray := ByteArray.mk #[32, 105, 115, 32, 114, 101, 112, 101, 97, 116, 101, 100]
abbrev qGb : Type := ByteArray × Int
def qCd (r : qGb) : AV := .tup [.r (.v (.string r.1)), ri r.2]
abbrev qOR (a : T18.T) (r : qGb) : Prop := CC Tryz.prog 25 [.agg (qy (qr T18 a))] [] (qCd r) (nb r)
def qxL (k : Nat) (a : T18.T) : Option qGb :=
 if ((qhy k a.2.1).isSome) ∧ ((qhy k a.2.2).isSome) then
 bif (a.1 == (1 : Int)) then
 if ((↑ (bs_H62_u7_0.size + vd (qX k a.2.1)) : Int) ≤ IntKind.i64.max) ∧ ((↑ ((bs_H62_u7_0 ++ qX k a.2.1).size + (ByteArray.mk #[44, 32, 101, 110, 100, 32]).size) : Int) ≤ IntKind.i64.max) ∧ ((↑ ((bs_H62_u7_0 ++ qX k a.2.1 ++ (ByteArray.mk #[44, 32, 101, 110, 100, 32])).size + vd (qX k a.2.2)) : Int) ≤ IntKind.i64.max) then
 some (quB ++ qX k a.2.1 ++ (ByteArray.mk #[44, 32, 101, 110, 100, 32]) ++ qX k a.2.2, 0)
 else none
 else
 bif (a.1 == (2 : Int)) then
 if ((↑ ((ByteArray.mk #[114, 101, 101, 108, 32]).size + vd (qX k a.2.1)) : Int) ≤ IntKind.i64.max) ∧ ((↑ (((ByteArray.mk #[114, 101, 101, 108, 32]) ++ qX k a.2.1).size + bs_H62_u7_2.size) : Int) ≤ IntKind.i64.max) ∧ ((↑ (((ByteArray.mk #[114, 101, 101, 108, 32]) ++ qX k a.2.1 ++ bs_H62_u7_2).size + vd (qX k a.2.2)) : Int) ≤ IntKind.i64.max) then
 some ((ByteArray.mk #[114, 101, 101, 108, 32]) ++ qX k a.2.1 ++ quI ++ qX k a.2.2, 0)
 else none
 else
 bif (a.1 == (3 : Int)) then
 if ((↑ ((ByteArray.mk #[114, 111, 108, 108, 32]).size + vd (qX k a.2.1)) : Int) ≤ IntKind.i64.max) ∧ ((↑ (((ByteArray.mk #[114, 111, 108, 108, 32]) ++ qX k a.2.1).size + (ByteArray.mk #[58, 32, 101, 114, 114, 111, 114, 32]).size) : Int) ≤ IntKind.i64.max) ∧ ((↑ (((ByteArray.mk #[114, 111, 108, 108, 32]) ++ qX k a.2.1 ++ (ByteArray.mk #[58, 32, 101, 114, 114, 111, 114, 32])).size + vd (qX k a.2.2)) : Int) ≤ IntKind.i64.max) then
 some ((ByteArray.mk #[114, 111, 108, 108, 32]) ++ qX k a.2.1 ++ (ByteArray.mk #[58, 32, 101, 114, 114, 111, 114, 32]) ++ qX k a.2.2, 0)
 else none
 else
 bif (a.1 == (4 : Int)) then
 if ((↑ (bs_H62_u7_4.size + vd (qX k a.2.1)) : Int) ≤ IntKind.i64.max) then
 some (quN ++ qX k a.2.1, 0)
 else none
 else
 bif (a.1 == (5 : Int)) then
 if ((↑ ((ByteArray.mk #[111, 114, 100, 101, 114, 32]).size + vd (qX k a.2.1)) : Int) ≤ IntKind.i64.max) ∧ ((↑ (((ByteArray.mk #[111, 114, 100, 101, 114, 32]) ++ qX k a.2.1).size + (ByteArray.mk #[58, 32, 101, 114, 114, 111, 114, 32]).size) : Int) ≤ IntKind.i64.max) ∧ ((↑ (((ByteArray.mk #[111, 114, 100, 101, 114, 32]) ++ qX k a.2.1 ++ (ByteArray.mk #[58, 32, 101, 114, 114, 111, 114, 32])).size + vd (qX k a.2.2)) : Int) ≤ IntKind.i64.max) then
 some ((ByteArray.mk #[111, 114, 100, 101, 114, 32]) ++ qX k a.2.1 ++ (ByteArray.mk #[58, 32, 101, 114, 114, 111, 114, 32]) ++ qX k a.2.2, 0)
 else none
 else
 bif (a.1 == (6 : Int)) then
 if ((↑ (bs_H62_u7_6.size + vd (qX k a.2.1)) : Int) ≤ IntKind.i64.max) ∧ ((↑ ((bs_H62_u7_6 ++ qX k a.2.1).size + (ByteArray.mk #[58, 32, 101, 114, 114, 111, 114, 32]).size) : Int) ≤ IntKind.i64.max) ∧ ((↑ ((bs_H62_u7_6 ++ qX k a.2.1 ++ (ByteArray.mk #[58, 32, 101, 114, 114, 111, 114, 32])).size + vd (qX k a.2.2)) : Int) ≤ IntKind.i64.max) then
 some (quO ++ qX k a.2.1 ++ (ByteArray.mk #[58, 32, 101, 114, 114, 111, 114, 32]) ++ qX k a.2.2, 0)
 else none
 else
 bif (a.1 == (7 : Int)) then
 if ((↑ ((ByteArray.mk #[114, 111, 108, 108, 32]).size + vd (qX k a.2.1)) : Int) ≤ IntKind.i64.max) ∧ ((↑ (((ByteArray.mk #[114, 111, 108, 108, 32]) ++ qX k a.2.1).size + bs_H62_u7_8.size) : Int) ≤ IntKind.i64.max) ∧ ((↑ (((ByteArray.mk #[114, 111, 108, 108, 32]) ++ qX k a.2.1 ++ bs_H62_u7_8).size + vd (qX k a.2.2)) : Int) ≤ IntKind.i64.max) then
 some ((ByteArray.mk #[114, 111, 108, 108, 32]) ++ qX k a.2.1 ++ quR ++ qX k a.2.2, 0)
 else none
 else
 bif (a.1 == (8 : Int)) then
 if ((↑ (bs_H62_u7_10.size + vd (qX k a.2.1)) : Int) ≤ IntKind.i64.max) ∧ ((↑ ((bs_H62_u7_10 ++ qX k a.2.1).size + bs_H62_u7_11.size) : Int) ≤ IntKind.i64.max) ∧ ((↑ ((bs_H62_u7_10 ++ qX k a.2.1 ++ bs_H62_u7_11).size + vd (qX k a.2.2)) : Int) ≤ IntKind.i64.max) then
 some (qun ++ qX k a.2.1 ++ qsJ ++ qX k a.2.2, 0)
 else none
 else
 bif (a.1 == (9 : Int)) then
 if ((↑ ((ByteArray.mk #[99, 108, 97, 105, 109, 32]).size + vd (qX k a.2.1)) : Int) ≤ IntKind.i64.max) ∧ ((↑ (((ByteArray.mk #[99, 108, 97, 105, 109, 32]) ++ qX k a.2.1).size + bs_H62_u7_14.size) : Int) ≤ IntKind.i64.max) ∧ ((↑ (((ByteArray.mk #[99, 108, 97, 105, 109, 32]) ++ qX k a.2.1 ++ bs_H62_u7_14).size + vd (qX k a.2.2)) : Int) ≤ IntKind.i64.max) then
 some ((ByteArray.mk #[99, 108, 97, 105, 109, 32]) ++ qX k a.2.1 ++ qsX ++ qX k a.2.2, 0)
 else none
 else
 bif (a.1 == (10 : Int)) then
 if ((↑ (bs_H62_u7_16.size + vd (qX k a.2.1)) : Int) ≤ IntKind.i64.max) then
 some (qsI ++ qX k a.2.1, 0)
 else none
 else
 bif (a.1 == (11 : Int)) then
 if ((↑ ((ByteArray.mk #[112, 111, 115, 116, 105, 110, 103, 32]).size + vd (qX k a.2.1)) : Int) ≤ IntKind.i64.max) ∧ ((↑ (((ByteArray.mk #[112, 111, 115, 116, 105, 110, 103, 32]) ++ qX k a.2.1).size + (ByteArray.mk #[58, 32, 101, 114, 114, 111, 114, 32]).size) : Int) ≤ IntKind.i64.max) ∧ ((↑ (((ByteArray.mk #[112, 111, 115, 116, 105, 110, 103, 32]) ++ qX k a.2.1 ++ (ByteArray.mk #[58, 32, 101, 114, 114, 111, 114, 32])).size + vd (qX k a.2.2)) : Int) ≤ IntKind.i64.max) then
 some ((ByteArray.mk #[112, 111, 115, 116, 105, 110, 103, 32]) ++ qX k a.2.1 ++ (ByteArray.mk #[58, 32, 101, 114, 114, 111, 114, 32]) ++ qX k a.2.2, 0)
 else none
 else
 bif (a.1 == (12 : Int)) then
 if ((↑ ((ByteArray.mk #[112, 111, 115, 116, 105, 110, 103, 32]).size + vd (qX k a.2.1)) : Int) ≤ IntKind.i64.max) ∧ ((↑ (((ByteArray.mk #[112, 111, 115, 116, 105, 110, 103, 32]) ++ qX k a.2.1).size + bs_H62_u7_18.size) : Int) ≤ IntKind.i64.max) then
 some ((ByteArray.mk #[112, 111, 115, 116, 105, 110, 103, 32]) ++ qX k a.2.1 ++ qto, 0)
 else none
 else
 some (ByteArray.mk #[], 17)
 else none
def qxS := fun k a => (qxL k a).getD (ByteArray.empty, 0)
def qSp (k : Nat) : Ke := (25, mo 1, fun
 | [.agg b], [] => (qW [] T18 b).bind fun a => some (.one (qCd (qxS k a), []))
 | _, _ => none)
theorem qSn (k a r) (h : qxL k a = some r): qOR a r := qN Tryz.f25 (go (qD [qJJ k]) [] [] [.autoB [2, 3] true []] (gN h (fun q => qf (qvT q.1) (qf (qvT q.2) qR)) fun h => gS h (fun h => gN h Xn fun h => gL h) fun h => gS h (fun h => gN h Xn fun h => gL h) fun h => gS h (fun h => gN h Xn fun h => gL h) fun h => gS h (fun h => qu h id fun h => gL h) fun h => gS h (fun h => gN h Xn fun h => gL h) fun h => gS h (fun h => gN h Xn fun h => gL h) fun h => gS h (fun h => gN h Xn fun h => gL h) fun h => gS h (fun h => gN h Xn fun h => gL h) fun h => gS h (fun h => gN h Xn fun h => gL h) fun h => gS h (fun h => qu h id fun h => gL h) fun h => gS h (fun h => gN h Xn fun h => gL h) fun h => gS h (fun h => qS h fun h => gL h) fun h => gL h))
theorem qRS {k a} (h : (qxL k a).isSome): qOR a (qxS k a) := qJ h (qSn k a)
abbrev qIN (a : T8.T) (r : Int) : Prop := CC Tryz.prog 88 [.agg (qy (qr T8 a))] [] (ri r) (nb r)
def VF (k : Nat) (a : T8.T) : Option Int :=
 bif (decide (a.1 < (1 : Int)) || decide (a.1 > (1000000 : Int))) then
 some 1
 else
 bif (decide (a.2.1 < (0 : Int)) || decide (a.2.1 ≥ (16 : Int))) then
 some 22
 else
 bif (decide (a.2.2.1 < (1 : Int)) || decide (a.2.2.1 > (12000 : Int))) then
 some 20
 else
 bif (decide (a.2.2.2.1 < (1 : Int)) || decide (a.2.2.2.1 ≥ (2500 : Int)) || decide (a.2.2.2.2.1 ≤ a.2.2.2.1) || decide (a.2.2.2.2.1 > (2500 : Int))) then
 some 1
 else
 bif (decide (a.2.2.2.2.2.1 < (0 : Int)) || decide (a.2.2.2.2.2.1 > qa .i64 (a.2.2.2.2.1 - a.2.2.2.1)) || decide (a.2.2.2.2.2.2.1 < (1 : Int)) || decide (a.2.2.2.2.2.2.1 > (1000 : Int))) then
 some 1
 else
 bif (decide (a.2.2.2.2.2.2.2.1 < (0 : Int)) || decide (a.2.2.2.2.2.2.2.1 > (1000 : Int)) || decide (a.2.2.2.2.2.2.2.2.1 < (0 : Int)) || decide (a.2.2.2.2.2.2.2.2.1 > (1000 : Int))) then
 some 1
 else
 bif (decide (a.2.2.2.2.2.2.2.2.2.1 < (0 : Int)) || decide (a.2.2.2.2.2.2.2.2.2.1 > (8 : Int)) || decide (a.2.2.2.2.2.2.2.2.2.2.1 < (0 : Int)) || decide (a.2.2.2.2.2.2.2.2.2.2.1 > (100 : Int))) then
 some 1
 else
 bif (decide (a.2.2.2.2.2.2.2.2.2.2.2 < (0 : Int)) || decide (a.2.2.2.2.2.2.2.2.2.2.2 > (1000000000 : Int))) then
 some 1
 else
 some 0
def Y4 := fun k a => (VF k a).getD 0
def qAV (k : Nat) : Ke := (88, mo 1, fun
 | [.agg b], [] => (qW [] T8 b).bind fun a => some (.one (ri (Y4 k a), []))
 | _, _ => none)
theorem qRF (k a r) (h : VF k a = some r): qIN a r := qN Tryz.f88 (go (qD []) [] [] [.autoB [2] true []] (qB h fun h => qB h fun h => qB h fun h => qB h fun h => qB h fun h => qB h fun h => qB h fun h => qB h fun h => gL h))
theorem qAO {k a} (h : (VF k a).isSome): qIN a (Y4 k a) := qJ h (qRF k a)
abbrev qIA (a : List I.T) (b : Int) (r : Bool) : Prop := CC Tryz.prog 89 [ro I a, ri b] [] (rb r) (nb r)
def qGe := fun y0 y1 y2 y3 => (⟨qI 17 [(1, ri y0), (7, ro I y1), (8, ri y2), (9, ri y3)], []⟩ : St)
def YM (k : Nat) : Nat → Int → List I.T → Int → Int → Option Bool
 | 0, _, _, _, _ => none
 | j + 1, y0, y1, y2, y3 =>
 bif y3 < y2 then
 if (0 ≤ y3) ∧ (y3 < y1.length) then
 bif (y0 == y1.getD y3.toNat I.dflt) then
 some true
 else
 YM k j y0 y1 y2 (qa .i64 (y3 + 1))
 else none
 else
 some false
def VI (k : Nat) (a : List I.T) (b : Int) : Option Bool :=
 YM k k b a (↑a.length : Int) 0
def VL := fun k a b => (VI k a b).getD false
def qmB (k : Nat) : Ke := (89, mo 2, fun
 | [.r (.ro e d), .r (.v (.int .i64 b))], [] => (qE e I d).bind fun a => some (.one (rb (VL k a b), []))
 | _, _ => none)
def qBh : List (Nat × List Cmd) := [(2, [.autoB [1, 7, 8, 9] false []])]
abbrev qSs := EP Tryz.f89 0 rb nb
theorem qCb (k) : ∀ j, (∀ y0 y1 y2 y3, qSs 2 (qGe y0 y1 y2 y3) (YM k j y0 y1 y2 y3))
 | 0 => by intros; exact e0
 | j + 1 => by
  have ih := @qCb k j
  ·intro y0 y1 y2 y3 r h
   rw [YM] at h
   exact go (qD []) [] qBh [.autoB [4] true []] (gS h (fun h => qS h fun h => qB h fun h => gC h 2 (ih _ _ _ _ _)) fun h => gL h)
theorem qQ8 (k a b r) (h : VI k a b = some r): qIA a b r := qN Tryz.f89 (go (qD []) [] qBh [.autoB [4] true []] (gC h 2 ((qCb k k) _ _ _ _ _)))
theorem qcg {k a b} (h : (VI k a b).isSome): qIA a b (VL k a b) := qJ h (qQ8 k a b)
abbrev qBs (a : Int) (r : Bool) : Prop := CC Tryz.prog 214 [ri a] [] (rb r) (nb r)
def qb8 (k : Nat) (a : Int) : Option Bool :=
 some (decide (a ≥ 1) && decide (a ≤ 1000000))
def qhW := fun k a => (qb8 k a).getD false
def qwT (k : Nat) : Ke := (214, mo 1, fun
 | [.r (.v (.int .i64 a))], [] => some (.one (rb (qhW k a), []))
 | _, _ => none)
theorem qKt (k a r) (h : qb8 k a = some r): qBs a r := qN Tryz.f214 (go (qD []) [] [] [.autoB [2] true []] (gL h))
theorem qwF {k a} (h : (qb8 k a).isSome): qBs a (qhW k a) := qJ h (qKt k a)
abbrev qAC (a : T11.T) (r : Int) : Prop := CC Tryz.prog 176 [.agg (qy (qr T11 a))] [] (ri r) (nb r)
def qE6 := fun y0 y1 y2 => (⟨qI 38 [(28, ro I y0), (29, ri y1), (30, ri y2)], []⟩ : St)
def V7 (k : Nat) : Nat → List I.T → Int → Int → Option Int
 | 0, _, _, _ => none
 | j + 1, y0, y1, y2 =>
 bif y2 < y1 then
 if (0 ≤ y2) ∧ (y2 < y0.length) then
 if ((qb8 k (y0.getD y2.toNat I.dflt)).isSome) then
 bif (!qhW k (y0.getD y2.toNat I.dflt)) then
 some 1
 else
 V7 k j y0 y1 (qa .i64 (y2 + 1))
 else none
 else none
 else
 some 0
def qem (k : Nat) (a : T11.T) : Option Int :=
 if ((qb8 k a.1).isSome) then
 bif (!qhW k a.1 || decide (a.2.1 < (0 : Int)) || decide (a.2.1 > (2147483647 : Int))) then
 some 1
 else
 bif ((↑ (qe a.2.2) : Int) == (0 : Int)) then
 some 10
 else
 bif (↑ (qe a.2.2) : Int) > (512 : Int) then
 some 8
 else
 V7 k k a.2.2 (↑ (qe a.2.2) : Int) 0
 else none
def qeP := fun k a => (qem k a).getD 0
def qwq (k : Nat) : Ke := (176, mo 1, fun
 | [.agg b], [] => (qW [] T11 b).bind fun a => some (.one (ri (qeP k a), []))
 | _, _ => none)
def qwk : List (Nat × List Cmd) := [(8, [.autoB [28, 29, 30] false []])]
abbrev qQm := EP Tryz.f176 0 ri nb
theorem qwZ (k) : ∀ j, (∀ y0 y1 y2, qQm 8 (qE6 y0 y1 y2) (V7 k j y0 y1 y2))
 | 0 => by intros; exact e0
 | j + 1 => by
  have ih := @qwZ k j
  ·intro y0 y1 y2 r h
   rw [V7] at h
   exact go (qD [qwT k]) [] qwk [.autoB [2] true []] (gS h (fun h => qS h fun h => qu h qwF fun h => qB h fun h => gC h 8 (ih _ _ _ _)) fun h => gL h)
theorem qK1 (k a r) (h : qem k a = some r): qAC a r := qN Tryz.f176 (go (qD [qwT k]) [] qwk [.autoB [2] true []] (qu h qwF fun h => qB h fun h => qB h fun h => qB h fun h => gC h 8 ((qwZ k k) _ _ _ _)))
theorem qNb {k a} (h : (qem k a).isSome): qAC a (qeP k a) := qJ h (qK1 k a)
abbrev qA4 (a : List T11.T) (r : Int) : Prop := CC Tryz.prog 130 [ro T11 a] [] (ri r) (nb r)
def qDJ := fun y0 y1 y2 y3 => (⟨qI 84 [(0, ro T11 y0), (18, ro T11 y1), (19, ri y2), (20, ri y3)], []⟩ : St)
def qy3 := fun y0 y1 y2 y3 y4 y5 => (⟨qI 84 [(0, ro T11 y0), (6, .own 1000000 0), (7, .own 1000001 0), (32, ro T11 y1), (33, ri y2), (34, ri y3)], [(1000000, 0, .map false I RTy.bool y4), (1000001, 0, .map false I RTy.bool y5)]⟩ : St)
def qxF := fun y0 y1 y2 => (⟨qI 84 [(0, ro T11 y0), (7, .own 1000000 0), (10, ri y1)], [(1000000, 0, .map false I RTy.bool y2)]⟩ : St)
def qyu := fun y0 y1 y2 y3 => (⟨qI 84 [(7, .own 1000000 0), (64, ro T11 y0), (65, ri y1), (66, ri y2)], [(1000000, 0, .map false I RTy.bool y3)]⟩ : St)
def qxP := fun y0 y1 y2 y3 y4 y5 y6 => (⟨qI 84 [(7, .own 1000000 0), (64, ro T11 y0), (65, ri y1), (66, ri y2), (71, ro I y3), (72, ri y4), (73, ri y5)], [(1000000, 0, .map false I RTy.bool y6)]⟩ : St)
mutual
def VX (k : Nat) : Nat → List T11.T → List T11.T → Int → Int → Option Int
 | 0, _, _, _, _ => none
 | j + 1, y0, y1, y2, y3 =>
 bif y3 < y2 then
 if (0 ≤ y3) ∧ (y3 < y1.length) then
 if ((qem k (y1.getD y3.toNat T11.dflt)).isSome) then
 bif (qeP k (y1.getD y3.toNat T11.dflt) != (0 : Int)) then
 some (qeP k (y1.getD y3.toNat T11.dflt))
 else
 VX k j y0 y1 y2 (qa .i64 (y3 + 1))
 else none
 else none
 else
 Zu k j y0 y0 (↑y0.length : Int) 0 ([]) ([])
def Zu (k : Nat) : Nat → List T11.T → List T11.T → Int → Int → (List (I.T × (RTy.bool).T)) → (List (I.T × (RTy.bool).T)) → Option Int
 | 0, _, _, _, _, _, _ => none
 | j + 1, y0, y1, y2, y3, y4, y5 =>
 bif y3 < y2 then
 if (0 ≤ y3) ∧ (y3 < y1.length) then
 bif ((wd I (y1.getD y3.toNat T11.dflt).1 y4).getD false) then
 some 6
 else
 Zu k j y0 y1 y2 (qa .i64 (y3 + 1)) (vq I (y1.getD y3.toNat T11.dflt).1 true y4) y5
 else none
 else
 Wt k j y0 1 y5
def Wt (k : Nat) : Nat → List T11.T → Int → (List (I.T × (RTy.bool).T)) → Option Int
 | 0, _, _, _ => none
 | j + 1, y0, y1, y2 =>
 bif y1 < y0.length then
 if (0 ≤ y1) ∧ (y1 < y0.length) ∧ ((0 : Int) ≤ qa .i64 (y1 - 1)) ∧ (qa .i64 (y1 - 1) < (↑y0.length : Int)) then
 bif (y0.getD y1.toNat T11.dflt).2.1 < (y0.getD (qa .i64 (y1 - 1)).toNat T11.dflt).2.1 then
 some 9
 else
 Wt k j y0 (qa .i64 (y1 + 1)) y2
 else none
 else
 vX k j y0 (↑y0.length : Int) 0 y2
def vX (k : Nat) : Nat → List T11.T → Int → Int → (List (I.T × (RTy.bool).T)) → Option Int
 | 0, _, _, _, _ => none
 | j + 1, y0, y1, y2, y3 =>
 bif y2 < y1 then
 if (0 ≤ y2) ∧ (y2 < y0.length) then
 Zp k j y0 y1 y2 ((y0.getD y2.toNat T11.dflt).2.2) (↑ (qe (y0.getD y2.toNat T11.dflt).2.2) : Int) 0 y3
 else none
 else
 some 0
def Zp (k : Nat) : Nat → List T11.T → Int → Int → List I.T → Int → Int → (List (I.T × (RTy.bool).T)) → Option Int
 | 0, _, _, _, _, _, _, _ => none
 | j + 1, y0, y1, y2, y3, y4, y5, y6 =>
 bif y5 < y4 then
 if (0 ≤ y5) ∧ (y5 < y3.length) then
 bif ((wd I (y3.getD y5.toNat I.dflt) y6).getD false) then
 some 34
 else
 Zp k j y0 y1 y2 y3 y4 (qa .i64 (y5 + 1)) (vq I (y3.getD y5.toNat I.dflt) true y6)
 else none
 else
 vX k j y0 y1 (qa .i64 (y2 + 1)) y6
end
def qec (k : Nat) (a : List T11.T) : Option Int :=
 bif (↑a.length : Int) > (512 : Int) then
 some 8
 else
 VX k k a a (↑a.length : Int) 0
def qal := fun k a => (qec k a).getD 0
def qJy (k : Nat) : Ke := (130, mo 1, fun
 | [.r (.ro d b)], [] => (qE d T11 b).bind fun a => some (.one (ri (qal k a), []))
 | _, _ => none)
def qvv : List (Nat × List Cmd) := [(4, [.autoB [0, 18, 19, 20] false []]), (12, [.autoB [0, 6, 7, 32, 33, 34] false []]), (19, [.autoB [0, 7, 10] false []]), (24, [.autoB [7, 64, 65, 66] false []]), (27, [.autoB [7, 64, 65, 66, 71, 72, 73] false []])]
abbrev qhY := EP Tryz.f130 0 ri nb
theorem qwY (k) : ∀ j, (∀ {y0 y1 y2 y3}, qhY 4 (qDJ y0 y1 y2 y3) (VX k j y0 y1 y2 y3)) ∧ (∀ {y0 y1 y2 y3 y4 y5}, qhY 12 (qy3 y0 y1 y2 y3 y4 y5) (Zu k j y0 y1 y2 y3 y4 y5)) ∧ (∀ {y0 y1 y2}, qhY 19 (qxF y0 y1 y2) (Wt k j y0 y1 y2)) ∧ (∀ {y0 y1 y2 y3}, qhY 24 (qyu y0 y1 y2 y3) (vX k j y0 y1 y2 y3)) ∧ (∀ {y0 y1 y2 y3 y4 y5 y6}, qhY 27 (qxP y0 y1 y2 y3 y4 y5 y6) (Zp k j y0 y1 y2 y3 y4 y5 y6))
 | 0 => by and_intros <;> intros <;> exact e0
 | j + 1 => by
  have ih := @qwY k j
  have g := @go (qD [qwq k]) [] qvv [.autoB [2] true []]
  refine ⟨?_, ?_, ?_, ?_, ?_⟩
  ·intro y0 y1 y2 y3 r h
   rw [VX] at h
   exact g (gS h (fun h => qS h fun h => qu h qNb fun h => qB h fun h => gD h 4 ih.1) fun h => gD h 12 ih.2.1)
  ·intro y0 y1 y2 y3 y4 y5 r h
   rw [Zu] at h
   exact g (gS h (fun h => qS h fun h => qB h fun h => gD h 12 ih.2.1) fun h => gD h 19 ih.2.2.1)
  ·intro y0 y1 y2 r h
   rw [Wt] at h
   exact g (gS h (fun h => gN h Xs fun h => qB h fun h => gD h 19 ih.2.2.1) fun h => gD h 24 ih.2.2.2.1)
  ·intro y0 y1 y2 y3 r h
   rw [vX] at h
   exact g (gS h (fun h => qS h fun h => gD h 27 ih.2.2.2.2) fun h => gL h)
  ·intro y0 y1 y2 y3 y4 y5 y6 r h
   rw [Zp] at h
   exact g (gS h (fun h => qS h fun h => qB h fun h => gD h 27 ih.2.2.2.2) fun h => gD h 24 ih.2.2.2.1)
theorem qLX (k a r) (h : qec k a = some r): qA4 a r := qN Tryz.f130 (go (qD [qwq k]) [] qvv [.autoB [2] true []] (qB h fun h => gD h 4 (qwY k k).1))
theorem qLm {k a} (h : (qec k a).isSome): qA4 a (qal k a) := qJ h (qLX k a)
def qoK (r : T8.T × Bool) : AV := .tup [.agg (qy (qr T8 r.1)), rb r.2]
def qsC (a : T17.T) (b : List T18.T) (d : Int) (r : T8.T × Bool) : List (Nat × Blk) := [(0, .var 140 (qy (qr T17 a) ++ [.own 1 0])), (0, .row 54 T18 b)]
abbrev qHG (a : T17.T) (b : List T18.T) (d : Int) (r : T8.T × Bool) : Prop := CC Tryz.prog 131 [.ptr 0 0 0, ri d] [.var 140 (qy (qr T17 a) ++ [.own 1 0]), .row 54 T18 b] (qoK r) (qsC a b d r)
def qGq := fun a b (d : Int) y0 y1 y2 y3 y4 => (⟨qI 26 [(1, ri y0), (4, .ptr 1000000 0 0), (12, ro T9 y1), (13, ri y2), (14, ri y3)], [(0, 0, .var 140 (qy (qr T17 a) ++ [.own 1 0])), (1, 0, .row 54 T18 b), (1000000, 0, .var 72 (qy (qr T8 y4)))]⟩ : St)
def Yk (k : Nat) (a : T17.T) (b : List T18.T) (d : Int) : Nat → Int → List T9.T → Int → Int → T8.T → Option (T8.T × Bool)
 | 0, _, _, _, _, _ => none
 | j + 1, y0, y1, y2, y3, y4 =>
 bif y3 < y2 then
 if (0 ≤ y3) ∧ (y3 < y1.length) then
 if ((VI k (y1.getD y3.toNat T9.dflt).2.2.1 y0).isSome) then
 bif (VL k (y1.getD y3.toNat T9.dflt).2.2.1 y0) then
 some ((y1.getD y3.toNat T9.dflt).1, true)
 else
 Yk k a b d j y0 y1 y2 (qa .i64 (y3 + 1)) y4
 else none
 else none
 else
 some ((0, (0, (0, (0, (0, (0, (0, (0, (0, (0, (0, 0))))))))))), false)
def qje (k : Nat) (a : T17.T) (b : List T18.T) (d : Int) : Option (T8.T × Bool) :=
 Yk k a b d k d a.2.2.2.2.2.2.2.2.2.2.2.2.2.2.2.1 (↑ (qe a.2.2.2.2.2.2.2.2.2.2.2.2.2.2.2.1) : Int) 0 (0, (0, (0, (0, (0, (0, (0, (0, (0, (0, (0, 0)))))))))))
def XH := fun k a b d => (qje k a b d).getD ((T8).dflt, false)
def qOO (k : Nat) : Ke := (131, fun
 | [.ptr _ _ _, _] => some [true, false, true, true]
 | _ => none, fun
 | [.ptr 0 0 0, .r (.v (.int .i64 d))], [.var 140 e, .row 54 tb_22_ qb_22] => (qW [] T17 (e.take 22)).bind fun a => (qE tb_22_ T18 qb_22).bind fun b => some (.one (qoK (XH k a b d), qsC a b d (XH k a b d)))
 | _, _ => none)
def qDQ : List (Nat × List Cmd) := [(2, [.autoB [1, 4, 12, 13, 14] false []])]
abbrev qR4 := fun a b d => EP Tryz.f131 2 qoK (qsC a b d)
theorem qC4 (k a b d) : ∀ j, (∀ y0 y1 y2 y3 y4, qR4 a b d 2 (qGq a b d y0 y1 y2 y3 y4) (Yk k a b d j y0 y1 y2 y3 y4))
 | 0 => by intros; exact e0
 | j + 1 => by
  have ih := @qC4 k a b d j
  ·intro y0 y1 y2 y3 y4 r h
   rw [Yk] at h
   exact go (qD [qmB k]) [] qDQ [.autoB [4, 5] true []] (gS h (fun h => qS h fun h => qu h qcg fun h => qB h fun h => gC h 2 (ih _ _ _ _ _ _)) fun h => gL h)
theorem qOF (k a b d r) (h : qje k a b d = some r): qHG a b d r := qN Tryz.f131 (go (qD [qmB k]) [] qDQ [.autoB [4, 5] true []] (gC h 2 ((qC4 k a b d k) _ _ _ _ _ _)))
theorem qQa {k a b d} (h : (qje k a b d).isSome): qHG a b d (XH k a b d) := qJ h (qOF k a b d)
def qv0 (r : T4.T × Int) : AV := .tup [.agg (qy (qr T4 r.1)), ri r.2]
def qDO (a : Int) (b : Int) (d : List T5.T) (e : List (I.T × I.T)) (f : Int) (r : T4.T × Int) : List (Nat × Blk) := [(0, .var 135 [ri a, ri b, ro T5 d, .own 1 0]), (0, .map false I I e)]
abbrev qyq (a : Int) (b : Int) (d : List T5.T) (e : List (I.T × I.T)) (f : Int) (r : T4.T × Int) : Prop := CC Tryz.prog 163 [.ptr 0 0 0, ri f] [.var 135 [ri a, ri b, ro T5 d, .own 1 0], .map false I I e] (qv0 r) (qDO a b d e f r)
def Zb (g : Int → Int → List T5.T → (List (I.T × I.T)) → Int → Option (T4.T × Int)) (a : Int) (b : Int) (d : List T5.T) (e : List (I.T × I.T)) (f : Int) : (T4.T × Int) := (g a b d e f).getD ((T4).dflt, 0)
def zA : Nat → Int → Int → List T5.T → (List (I.T × I.T)) → Int → Option (T4.T × Int)
 | 0, _, _, _, _, _ => none
 | k + 1, a, b, d, e, f =>
 bif (f == (0 : Int)) then
 bif b > (0 : Int) then
 some ((0, (a, (false, [(0, b, false)]))), 0)
 else
 some ((0, (a, (false, []))), 0)
 else
 if ((0 : Int) ≤ (wd I f e).getD (0 : Int)) ∧ ((wd I f e).getD (0 : Int) < (↑d.length : Int)) then
 if ((zA k a b d e (d.getD (qt ((wd I f e).getD 0)) T5.dflt).2.1).isSome) then
 bif ((Zb (zA k) a b d e (d.getD (qt ((wd I f e).getD (0 : Int))) T5.dflt).2.1).2 != (0 : Int)) then
 some ((0, (0, (false, []))), (Zb (zA k) a b d e (d.getD (qt ((wd I f e).getD 0)) T5.dflt).2.1).2)
 else
 if ((qjA k (d.getD (qt ((wd I f e).getD 0)) T5.dflt).2.2.2.2.2 (Zb (zA k) a b d e (d.getD (qt ((wd I f e).getD 0)) T5.dflt).2.1).1.2.2.2).isSome) then
 bif ((qc9 k (d.getD (qt ((wd I f e).getD (0 : Int))) T5.dflt).2.2.2.2.2 (Zb (zA k) a b d e (d.getD (qt ((wd I f e).getD (0 : Int))) T5.dflt).2.1).1.2.2.2).2 != (0 : Int)) then
 some ((0, (0, (false, []))), (qc9 k (d.getD (qt ((wd I f e).getD 0)) T5.dflt).2.2.2.2.2 (Zb (zA k) a b d e (d.getD (qt ((wd I f e).getD 0)) T5.dflt).2.1).1.2.2.2).2)
 else
 bif (Zb (zA k) a b d e (d.getD (qt ((wd I f e).getD (0 : Int))) T5.dflt).2.1).1.2.2.1 then
 some ((qa .i64 (qa .i64 (qa .i64 ((Zb (zA k) a b d e (d.getD (qt ((wd I f e).getD 0)) T5.dflt).2.1).1.1 + (Zb (zA k) a b d e (d.getD (qt ((wd I f e).getD 0)) T5.dflt).2.1).1.2.1) - (d.getD (qt ((wd I f e).getD 0)) T5.dflt).2.2.1) - (d.getD (qt ((wd I f e).getD 0)) T5.dflt).2.2.2.1), ((d.getD (qt ((wd I f e).getD 0)) T5.dflt).2.2.2.1, (! (Zb (zA k) a b d e (d.getD (qt ((wd I f e).getD 0)) T5.dflt).2.1).1.2.2.1 == (d.getD (qt ((wd I f e).getD 0)) T5.dflt).2.2.2.2.1, (qc9 k (d.getD (qt ((wd I f e).getD 0)) T5.dflt).2.2.2.2.2 (Zb (zA k) a b d e (d.getD (qt ((wd I f e).getD 0)) T5.dflt).2.1).1.2.2.2).1))), 0)
 else
 some ((qa .i64 ((Zb (zA k) a b d e (d.getD (qt ((wd I f e).getD 0)) T5.dflt).2.1).1.1 + (d.getD (qt ((wd I f e).getD 0)) T5.dflt).2.2.1), ((d.getD (qt ((wd I f e).getD 0)) T5.dflt).2.2.2.1, (! (Zb (zA k) a b d e (d.getD (qt ((wd I f e).getD 0)) T5.dflt).2.1).1.2.2.1 == (d.getD (qt ((wd I f e).getD 0)) T5.dflt).2.2.2.2.1, (qc9 k (d.getD (qt ((wd I f e).getD 0)) T5.dflt).2.2.2.2.2 (Zb (zA k) a b d e (d.getD (qt ((wd I f e).getD 0)) T5.dflt).2.1).1.2.2.2).1))), 0)
 else none
 else none
 else none
def qbb := fun k a b d e f => (zA k a b d e f).getD ((T4).dflt, 0)
def qCe (k : Nat) : Ke := (163, fun
 | [.ptr _ _ _, _] => some [true, false]
 | _ => none, fun
 | [.ptr 0 0 0, .r (.v (.int .i64 f))], [.var 135 [.r (.v (.int .i64 a)), .r (.v (.int .i64 b)), .r (.ro tg_2_ qg_2), .own 1 0], .map false kg_3_ tg_3_ qg_3] => (qE tg_2_ T5 qg_2).bind fun d => (qmT kg_3_ tg_3_ I I qg_3).bind fun e => some (.one (qv0 (qbb k a b d e f), qDO a b d e f (qbb k a b d e f)))
 | _, _ => none)
theorem qAF : ∀ (k : Nat) (a : Int) (b : Int) (d : List T5.T) (e : List (I.T × I.T)) (f : Int) (r : T4.T × Int), zA k a b d e f = some r → qyq a b d e f r
 | 0, a, b, d, e, f, r, h => by simp [zA] at h
 | k + 1, a, b, d, e, f, r, h => by
  have ih : ∀ {a : Int} {b : Int} {d : List T5.T} {e : List (I.T × I.T)} {f : Int}, (zA k a b d e f).isSome = true → qyq a b d e f (qbb k a b d e f) := fun {a} {b} {d} {e} {f} h => qJ h (qAF k a b d e f)
  refine CC.of (fn := Tryz.f163) (by kernel_rfl) (by kernel_rfl) (by kernel_rfl) (by kernel_rfl) ?_
  rw [zA] at h
  exact go (qD [qQj k, qCe k]) [] [] [.frz 4 true T4, .autoB [4, 5] true []] (gS h (fun h => qB h fun h => gL h) fun h => qS h fun h => qu h (fun q => ih q) fun h => qB h fun h => qu h qNz fun h => qB h fun h => qB h fun h => gL h)
theorem qOA {k a b d e f} (h : (zA k a b d e f).isSome): qyq a b d e f (qbb k a b d e f) := qJ h (qAF k a b d e f)
abbrev qx7 : Type := T4.T × Int
def qxj (r : qx7) : AV := .tup [.agg (qy (qr T4 r.1)), ri r.2]
abbrev qIS (a : List T5.T) (b : T19.T) (d : Int) (r : qx7) : Prop := CC Tryz.prog 112 [ro T5 a, .agg (qy (qr T19 b)), ri d] [] (qxj r) (nb r)
def qfW (k : Nat) (a : List T5.T) (b : T19.T) (d : Int) : Option qx7 :=
 bif (Sum.isLeft (qdr k a b d)) then
 if ((Z8 k a b d).isSome) then
 bif (qee k a b d != 0) then
 some ((0, (0, (false, []))), qee k a b d)
 else
 none
 else none
 else
 if ((Z8 k a b d).isSome) then
 bif ((vb k a b d).1 != (0 : Int)) then
 some ((0, (0, (false, []))), (vb k a b d).1)
 else
 if ((zA k (vb k a b d).2.1 (vb k a b d).2.2.1 (vb k a b d).2.2.2.1 (vb k a b d).2.2.2.2 d).isSome) then
 some ((qbb k (vb k a b d).2.1 (vb k a b d).2.2.1 (vb k a b d).2.2.2.1 (vb k a b d).2.2.2.2 d).1, (qbb k (vb k a b d).2.1 (vb k a b d).2.2.1 (vb k a b d).2.2.2.1 (vb k a b d).2.2.2.2 d).2)
 else none
 else none
def zd := fun k a b d => (qfW k a b d).getD ((T4).dflt, 0)
def qE7 (k : Nat) : Ke := (112, mo 3, fun
 | [.r (.ro g e), .agg f, .r (.v (.int .i64 d))], [] => (qE g T5 e).bind fun a => (qW [] T19 f).bind fun b => some (.one (qxj (zd k a b d), []))
 | _, _ => none)
theorem qQy (k a b d r) (h : qfW k a b d = some r): qIS a b d r := qN Tryz.f112 (go (qD [qPK k, qCe k]) [] [] [.frz 6 true T4, .autoB [6, 7] true []] (gT h (fun c h => qu h (fun q => qMj q (by assumption)) fun h => gTl h fun c h => gZ h (.stuck 2002)) fun c h => qu h (fun q => qLq q (by assumption)) fun h => gTl h fun c h => qu h qOA fun h => gL h))
theorem qAQ {k a b d} (h : (qfW k a b d).isSome): qIS a b d (zd k a b d) := qJ h (qQy k a b d)
abbrev qDp (a : T28.T) (r : Bool) : Prop := CC Tryz.prog 177 [.agg (qy (qr T28 a))] [] (rb r) (nb r)
def qeh (k : Nat) (a : T28.T) : Option Bool :=
 bif (↑ (qe a.2.2.1) : Int) > (0 : Int) then
 if ((0 : Int) ≤ qa .i64 ((↑ (qe a.2.2.1) : Int) - (1 : Int))) ∧ (qa .i64 ((↑ (qe a.2.2.1) : Int) - (1 : Int)) < (↑ (qe a.2.2.1) : Int)) then
 some ((qM a.2.2.1 (qa .i64 ((↑ (qe a.2.2.1) : Int) - 1)).toNat T2.dflt).2.1 == a.2.1.2)
 else none
 else
 some (a.2.1.2 == 0)
def qhq := fun k a => (qeh k a).getD false
def qLZ (k : Nat) : Ke := (177, mo 1, fun
 | [.agg b], [] => (qW [] T28 b).bind fun a => some (.one (rb (qhq k a), []))
 | _, _ => none)
theorem qK2 (k a r) (h : qeh k a = some r): qDp a r := qN Tryz.f177 (go (qD []) [] [] [.autoB [2] true []] (gS h (fun h => qS h fun h => gL h) fun h => gL h))
theorem qKo {k a} (h : (qeh k a).isSome): qDp a (qhq k a) := qJ h (qK2 k a)
def qld (r : Int × Bool) : AV := .tup [ri r.1, rb r.2]
abbrev qBn (a : T28.T) (b : List T21.T) (r : Int × Bool) : Prop := CC Tryz.prog 178 [.agg (qy (qr T28 a)), ro T21 b] [] (qld r) (nb r)
def qDj := fun y0 y1 y2 y3 y4 y5 y6 => (⟨qI 54 [(2, .ptr 1000000 0 0), (6, ri y0), (7, rb y1), (8, rb y2), (15, ro T21 y3), (16, ri y4), (17, ri y5)], [(1000000, 0, .var 201 (qy (qr T28 y6)))]⟩ : St)
def qCS := fun y0 y1 y2 y3 y4 y5 y6 y7 y8 y9 => (⟨qI 54 [(2, .ptr 1000000 0 0), (6, ri y0), (7, rb y1), (8, rb y2), (15, ro T21 y3), (16, ri y4), (17, ri y5), (28, ro T2 y6), (29, ri y7), (30, ri y8)], [(1000000, 0, .var 201 (qy (qr T28 y9)))]⟩ : St)
mutual
def Xb (k : Nat) : Nat → Int → Bool → Bool → List T21.T → Int → Int → T28.T → Option (Int × Bool)
 | 0, _, _, _, _, _, _, _ => none
 | j + 1, y0, y1, y2, y3, y4, y5, y6 =>
 bif y5 < y4 then
 if (0 ≤ y5) ∧ (y5 < y3.length) then
 if ((qau k y6.2.2.1 (y3.getD y5.toNat T21.dflt)).isSome) then
 VZ k j y0 y1 y2 y3 y4 y5 ((wX k y6.2.2.1 (y3.getD y5.toNat T21.dflt)).1) (↑ (wX k y6.2.2.1 (y3.getD y5.toNat T21.dflt)).1.length : Int) 0 y6
 else none
 else none
 else
 some (y0, y1)
def VZ (k : Nat) : Nat → Int → Bool → Bool → List T21.T → Int → Int → List T2.T → Int → Int → T28.T → Option (Int × Bool)
 | 0, _, _, _, _, _, _, _, _, _, _ => none
 | j + 1, y0, y1, y2, y3, y4, y5, y6, y7, y8, y9 =>
 bif y8 < y7 then
 if (0 ≤ y8) ∧ (y8 < y6.length) then
 bif (!y2 && (y6.getD y8.toNat T2.dflt).2.2.2.1 != y0) then
 some (-1, false)
 else
 VZ k j ((y6.getD y8.toNat T2.dflt).2.2.2.1) (y1 && (y6.getD y8.toNat T2.dflt).2.2.1 == 1) false y3 y4 y5 y6 y7 (qa .i64 (y8 + 1)) y9
 else none
 else
 Xb k j y0 y1 y2 y3 y4 (qa .i64 (y5 + 1)) y9
end
def qiO (k : Nat) (a : T28.T) (b : List T21.T) : Option (Int × Bool) :=
 Xb k k (-1) true true b (↑b.length : Int) 0 a
def QA := fun k a b => (qiO k a b).getD (0, false)
def qLh (k : Nat) : Ke := (178, mo 2, fun
 | [.agg d, .r (.ro f e)], [] => (qW [] T28 d).bind fun a => (qE f T21 e).bind fun b => some (.one (qld (QA k a b), []))
 | _, _ => none)
def qws : List (Nat × List Cmd) := [(3, [.autoB [2, 6, 7, 8, 15, 16, 17] false []]), (7, [.autoB [2, 6, 7, 8, 15, 16, 17, 28, 29, 30] false []])]
abbrev qEM := EP Tryz.f178 0 qld nb
theorem qvH (k) : ∀ j, (∀ {y0 y1 y2 y3 y4 y5 y6}, qEM 3 (qDj y0 y1 y2 y3 y4 y5 y6) (Xb k j y0 y1 y2 y3 y4 y5 y6)) ∧ (∀ {y0 y1 y2 y3 y4 y5 y6 y7 y8 y9}, qEM 7 (qCS y0 y1 y2 y3 y4 y5 y6 y7 y8 y9) (VZ k j y0 y1 y2 y3 y4 y5 y6 y7 y8 y9))
 | 0 => by and_intros <;> intros <;> exact e0
 | j + 1 => by
  have ih := @qvH k j
  have g := @go (qD [qn7 k]) [] qws [.autoB [4, 5] true []]
  refine ⟨?_, ?_⟩
  ·intro y0 y1 y2 y3 y4 y5 y6 r h
   rw [Xb] at h
   exact g (gS h (fun h => qS h fun h => qu h qnD fun h => gD h 7 ih.2) fun h => gL h)
  ·intro y0 y1 y2 y3 y4 y5 y6 y7 y8 y9 r h
   rw [VZ] at h
   exact g (gS h (fun h => qS h fun h => qB h fun h => gD h 7 ih.2) fun h => gD h 3 ih.1)
theorem qL1 (k a b r) (h : qiO k a b = some r): qBn a b r := qN Tryz.f178 (go (qD [qn7 k]) [] qws [.autoB [4, 5] true []] (gD h 3 (qvH k k).1))
theorem qJ4 {k a b} (h : (qiO k a b).isSome): qBn a b (QA k a b) := qJ h (qL1 k a b)
abbrev qHM (a : Int) (b : Int) (r : Bool) : Prop := CC Tryz.prog 215 [ri a, ri b] [] (rb r) (nb r)
def qmH (k : Nat) (a : Int) (b : Int) : Option Bool :=
 some (decide (a ≥ 1) && decide (a ≤ 2500) && decide (b ≥ 1) && decide (b ≤ 5000))
def qrf := fun k a b => (qmH k a b).getD false
def qQ5 (k : Nat) : Ke := (215, mo 2, fun
 | [.r (.v (.int .i64 a)), .r (.v (.int .i64 b))], [] => some (.one (rb (qrf k a b), []))
 | _, _ => none)
theorem qQ9 (k a b r) (h : qmH k a b = some r): qHM a b r := qN Tryz.f215 (go (qD []) [] [] [.autoB [4] true []] (gL h))
theorem qQl {k a b} (h : (qmH k a b).isSome): qHM a b (qrf k a b) := qJ h (qQ9 k a b)
abbrev qI0 (a : Int) (b : Int) (d : Int) (r : Int) : Prop := CC Tryz.prog 218 [ri a, ri b, ri d] [] (ri r) (nb r)
def qjy (k : Nat) (a : Int) (b : Int) (d : Int) : Option Int :=
 if (qa .i64 ((1000000000 : Int) * d) ≠ (0 : Int)) then
 some (qa .i64 ((qa .i64 (3141592653 * qa .i64 (qa .i64 (qa .i64 (b * b) - qa .i64 (a * a)) * 250))).tdiv (qa .i64 (1000000000 * d))))
 else none
def qnt := fun k a b d => (qjy k a b d).getD 0
def qN5 (k : Nat) : Ke := (218, mo 3, fun
 | [.r (.v (.int .i64 a)), .r (.v (.int .i64 b)), .r (.v (.int .i64 d))], [] => some (.one (ri (qnt k a b d), []))
 | _, _ => none)
theorem qPO (k a b d r) (h : qjy k a b d = some r): qI0 a b d r := qN Tryz.f218 (go (qD []) [] [] [.autoB [6] true []] (qu h id fun h => gL h))
theorem qOJ {k a b d} (h : (qjy k a b d).isSome): qI0 a b d (qnt k a b d) := qJ h (qPO k a b d)
def qEf (a : Int) (b : Int) (d : Int) (e : Int) (r : Bool) : List (Nat × Blk) := [(0, .var 3 [ri b]), (0, .var 3 [ri d]), (0, .var 3 [ri e])]
abbrev qIH (a : Int) (b : Int) (d : Int) (e : Int) (r : Bool) : Prop := CC Tryz.prog 217 [ri a, .ptr 0 0 0, .ptr 1 0 0, .ptr 2 0 0] [.var 3 [ri b], .var 3 [ri d], .var 3 [ri e]] (rb r) (qEf a b d e r)
def qiZ (k : Nat) (a : Int) (b : Int) (d : Int) (e : Int) : Option Bool :=
 if ((qjy k b (qa .i64 (b + a)) d).isSome) then
 some (decide (qnt k b (qa .i64 (b + a)) d ≥ e))
 else none
def qjn := fun k a b d e => (qiZ k a b d e).getD false
def qug (k : Nat) : Ke := (217, fun
 | [_, .ptr _ _ _, .ptr _ _ _, .ptr _ _ _] => some [false, true, true, true]
 | _ => none, fun
 | [.r (.v (.int .i64 a)), .ptr 0 0 0, .ptr 1 0 0, .ptr 2 0 0], [.var 3 [.r (.v (.int .i64 b))], .var 3 [.r (.v (.int .i64 d))], .var 3 [.r (.v (.int .i64 e))]] => some (.one (rb (qjn k a b d e), qEf a b d e (qjn k a b d e)))
 | _, _ => none)
theorem qO1 (k a b d e r) (h : qiZ k a b d e = some r): qIH a b d e r := qN Tryz.f217 (go (qD [qN5 k]) [] [] [.autoB [5] true []] (qu h qOJ fun h => gL h))
theorem qPp {k a b d e} (h : (qiZ k a b d e).isSome): qIH a b d e (qjn k a b d e) := qJ h (qO1 k a b d e)
def qnX (a : Int) (b : Int) (d : Int) (e : Int) (r : Int) : List (Nat × Blk) := [(0, .var 3 [ri b]), (0, .var 3 [ri d]), (0, .var 3 [ri e])]
abbrev qCK (a : Int) (b : Int) (d : Int) (e : Int) (r : Int) : Prop := CC Tryz.prog 216 [ri a, .fn (.func 217) [] [.ptr 0 0 0, .ptr 1 0 0, .ptr 2 0 0]] [.var 3 [ri b], .var 3 [ri d], .var 3 [ri e]] (ri r) (qnX a b d e r)
def qCh := fun (a : Int) b d e y0 y1 => (⟨qI 26 [(1, .fn (Fn.func 217) [] [.ptr 0 0 0, .ptr 1 0 0, .ptr 2 0 0]), (5, ri y0), (6, ri y1)], [(0, 0, .var 3 [ri b]), (1, 0, .var 3 [ri d]), (2, 0, .var 3 [ri e])]⟩ : St)
def WE (k : Nat) (a : Int) (b : Int) (d : Int) (e : Int) : Nat → Int → Int → Option Int
 | 0, _, _ => none
 | j + 1, y0, y1 =>
 bif y0 < y1 then
 if ((qiZ k (qa .i64 ((IntKind.u64.wrap (qa .i64 (y0 + y1))).fdiv (2 ^ min (qt 1) IntKind.u64.bits))) b d e).isSome) then
 bif (!qjn k (qa .i64 ((IntKind.u64.wrap (qa .i64 (y0 + y1))).fdiv ((2 : Int) ^ min (qt (1 : Int)) IntKind.u64.bits))) b d e) then
 WE k a b d e j (qa .i64 (qa .i64 ((IntKind.u64.wrap (qa .i64 (y0 + y1))).fdiv (2 ^ min (qt 1) IntKind.u64.bits)) + 1)) y1
 else
 WE k a b d e j y0 (qa .i64 ((IntKind.u64.wrap (qa .i64 (y0 + y1))).fdiv (2 ^ min (qt 1) IntKind.u64.bits)))
 else none
 else
 some y0
def qha (k : Nat) (a : Int) (b : Int) (d : Int) (e : Int) : Option Int :=
 WE k a b d e k 0 a
def qcv := fun k a b d e => (qha k a b d e).getD 0
def qLi (k : Nat) : Ke := (216, fun
 | [_, .fn (.func 217) _ _] => some [false, true]
 | _ => none, fun
 | [.r (.v (.int .i64 a)), .fn (.func 217) [] [.ptr 0 0 0, .ptr 1 0 0, .ptr 2 0 0]], [.var 3 [.r (.v (.int .i64 b))], .var 3 [.r (.v (.int .i64 d))], .var 3 [.r (.v (.int .i64 e))]] => some (.one (ri (qcv k a b d e), qnX a b d e (qcv k a b d e)))
 | _, _ => none)
def qwj : List (Nat × List Cmd) := [(2, [.autoB [1, 5, 6] false []])]
abbrev qOT := fun a b d e => EP Tryz.f216 3 ri (qnX a b d e)
theorem qwP (k a b d e) : ∀ j, (∀ y0 y1, qOT a b d e 2 (qCh a b d e y0 y1) (WE k a b d e j y0 y1))
 | 0 => by intros; exact e0
 | j + 1 => by
  have ih := @qwP k a b d e j
  ·intro y0 y1 r h
   rw [WE] at h
   exact go (qD [qug k]) [] qwj [.autoB [4] true []] (gS h (fun h => qu h qPp fun h => gS h (fun h => gC h 2 (ih _ _ _)) fun h => gC h 2 (ih _ _ _)) fun h => gL h)
theorem qMS (k a b d e r) (h : qha k a b d e = some r): qCK a b d e r := qN Tryz.f216 (go (qD [qug k]) [] qwj [.autoB [4] true []] (gC h 2 ((qwP k a b d e k) _ _ _)))
theorem qMm {k a b d e} (h : (qha k a b d e).isSome): qCK a b d e (qcv k a b d e) := qJ h (qMS k a b d e)
def qw7 (r : Int × Int) : AV := .tup [ri r.1, ri r.2]
abbrev qJm (a : Int) (b : Int) (d : Int) (r : Int × Int) : Prop := CC Tryz.prog 179 [ri a, ri b, ri d] [] (qw7 r) (nb r)
def qjC (k : Nat) (a : Int) (b : Int) (d : Int) : Option (Int × Int) :=
 if ((qmH k a d).isSome) then
 bif (!qrf k a d || decide (b < 0) || decide (b > 17179869184)) then
 some (0, 1)
 else
 if ((qha k (qa .i64 (qa .i64 (2500 - a) + 1)) a d b).isSome) then
 bif qa .i64 (a + qcv k (qa .i64 (qa .i64 ((2500 : Int) - a) + (1 : Int))) a d b) > (2500 : Int) then
 some (0, 32)
 else
 some (qa .i64 (a + qcv k (qa .i64 (qa .i64 (2500 - a) + 1)) a d b), 0)
 else none
 else none
def qf4 := fun k a b d => (qjC k a b d).getD (0, 0)
def qOj (k : Nat) : Ke := (179, mo 3, fun
 | [.r (.v (.int .i64 a)), .r (.v (.int .i64 b)), .r (.v (.int .i64 d))], [] => some (.one (qw7 (qf4 k a b d), []))
 | _, _ => none)
theorem qPo (k a b d r) (h : qjC k a b d = some r): qJm a b d r := qN Tryz.f179 (go (qD [qQ5 k, qug k, qLi k]) [] [] [.autoB [6, 7] true []] (qu h qQl fun h => qB h fun h => qu h qMm fun h => qB h fun h => gL h))
theorem qOa {k a b d} (h : (qjC k a b d).isSome): qJm a b d (qf4 k a b d) := qJ h (qPo k a b d)
abbrev qDX (a : T6.T) (r : Int) : Prop := CC Tryz.prog 164 [.agg (qy (qr T6 a))] [] (ri r) (nb r)
def qiD (k : Nat) (a : T6.T) : Option Int :=
 bif (decide (a.1 < (0 : Int)) || decide (a.1 > a.2.1) || decide (a.2.1 > (12000 : Int)) || decide (a.2.2.1 < (0 : Int)) || decide (a.2.2.1 > a.2.2.2) || decide (a.2.2.2 > (17179869184 : Int))) then
 some 1
 else
 some 0
def qei := fun k a => (qiD k a).getD 0
def qvZ (k : Nat) : Ke := (164, mo 1, fun
 | [.agg b], [] => (qW [] T6 b).bind fun a => some (.one (ri (qei k a), []))
 | _, _ => none)
theorem qKp (k a r) (h : qiD k a = some r): qDX a r := qN Tryz.f164 (go (qD []) [] [] [.autoB [2] true []] (qB h fun h => gL h))
theorem qL8 {k a} (h : (qiD k a).isSome): qDX a (qei k a) := qJ h (qKp k a)
abbrev qHP (a : List T7.T) (r : Int) : Prop := CC Tryz.prog 113 [ro T7 a] [] (ri r) (nb r)
def qGu := fun y0 y1 y2 => (⟨qI 58 [(9, ro T7 y0), (10, ri y1), (11, ri y2)], []⟩ : St)
def Yq (k : Nat) : Nat → List T7.T → Int → Int → Option Int
 | 0, _, _, _ => none
 | j + 1, y0, y1, y2 =>
 bif y2 < y1 then
 if (0 ≤ y2) ∧ (y2 < y0.length) then
 if ((qiD k (y0.getD y2.toNat T7.dflt).1).isSome) then
 bif (qei k (y0.getD y2.toNat T7.dflt).1 != (0 : Int)) then
 some (qei k (y0.getD y2.toNat T7.dflt).1)
 else
 bif ((y0.getD y2.toNat T7.dflt).1.1 == (y0.getD y2.toNat T7.dflt).1.2.1 || (y0.getD y2.toNat T7.dflt).1.2.2.1 == (y0.getD y2.toNat T7.dflt).1.2.2.2) then
 some 10
 else
 bif (decide ((y0.getD y2.toNat T7.dflt).2.1 < (1 : Int)) || decide ((y0.getD y2.toNat T7.dflt).2.1 > (16 : Int)) || decide ((y0.getD y2.toNat T7.dflt).2.2 < (1 : Int)) || decide ((y0.getD y2.toNat T7.dflt).2.2 > (100 : Int))) then
 some 1
 else
 Yq k j y0 y1 (qa .i64 (y2 + 1))
 else none
 else none
 else
 some 0
def qjc (k : Nat) (a : List T7.T) : Option Int :=
 bif (↑a.length : Int) > (128 : Int) then
 some 8
 else
 Yq k k a (↑a.length : Int) 0
def qjU := fun k a => (qjc k a).getD 0
def qRi (k : Nat) : Ke := (113, mo 1, fun
 | [.r (.ro d b)], [] => (qE d T7 b).bind fun a => some (.one (ri (qjU k a), []))
 | _, _ => none)
def qA8 : List (Nat × List Cmd) := [(4, [.autoB [9, 10, 11] false []])]
abbrev qRL := EP Tryz.f113 0 ri nb
theorem qB1 (k) : ∀ j, (∀ y0 y1 y2, qRL 4 (qGu y0 y1 y2) (Yq k j y0 y1 y2))
 | 0 => by intros; exact e0
 | j + 1 => by
  have ih := @qB1 k j
  ·intro y0 y1 y2 r h
   rw [Yq] at h
   exact go (qD [qvZ k]) [] qA8 [.autoB [2] true []] (gS h (fun h => qS h fun h => qu h qL8 fun h => qB h fun h => qB h fun h => qB h fun h => gC h 4 (ih _ _ _ _)) fun h => gL h)
theorem qNW (k a r) (h : qjc k a = some r): qHP a r := qN Tryz.f113 (go (qD [qvZ k]) [] qA8 [.autoB [2] true []] (qB h fun h => gC h 4 ((qB1 k k) _ _ _ _)))
theorem qPN {k a} (h : (qjc k a).isSome): qHP a (qjU k a) := qJ h (qNW k a)
def qw5 (r : Int × Int) : AV := .tup [ri r.1, ri r.2]
abbrev qIn (a : T4.T) (b : Int) (d : Int) (r : Int × Int) : Prop := CC Tryz.prog 114 [.agg (qy (qr T4 a)), ri b, ri d] [] (qw5 r) (nb r)
def qjd (k : Nat) (a : T4.T) (b : Int) (d : Int) : Option (Int × Int) :=
 bif a.2.2.1 then
 some (qa .i64 (a.2.1 - qa .i64 (d - a.1)), qa .i64 (a.2.1 - qa .i64 (b - a.1)))
 else
 some (qa .i64 (b - a.1), qa .i64 (d - a.1))
def qm9 := fun k a b d => (qjd k a b d).getD (0, 0)
def qPR (k : Nat) : Ke := (114, mo 3, fun
 | [.agg e, .r (.v (.int .i64 b)), .r (.v (.int .i64 d))], [] => (qW [] T4 e).bind fun a => some (.one (qw5 (qm9 k a b d), []))
 | _, _ => none)
theorem qOf (k a b d r) (h : qjd k a b d = some r): qIn a b d r := qN Tryz.f114 (go (qD []) [] [] [.autoB [6, 7] true []] (qB h fun h => gL h))
theorem qPS {k a b d} (h : (qjd k a b d).isSome): qIn a b d (qm9 k a b d) := qJ h (qOf k a b d)
abbrev qnb : Type := List T21.T × Int
def qnC (r : qnb) : AV := .tup [ro T21 r.1, ri r.2]
abbrev qIl (a : List T3.T) (b : T21.T) (r : qnb) : Prop := CC Tryz.prog 115 [ro T3 a, .agg (qy (qr T21 b))] [] (qnC r) (nb r)
def qG3 := fun y0 y1 y2 y3 y4 y5 => (⟨qI 89 [(3, .ptr 1000000 0 0), (7, .own 1000001 0), (8, ri y0), (35, ro T3 y1), (36, ri y2), (37, ri y3)], [(1000000, 0, .var 91 (qy (qr T21 y4))), (1000001, 0, .row 91 T21 y5)]⟩ : St)
def qzx := fun y0 => (⟨qI 89 [(7, ro T21 y0)], []⟩ : St)
mutual
def Z9 (k : Nat) : Nat → Int → List T3.T → Int → Int → T21.T → List T21.T → Option qnb
 | 0, _, _, _, _, _, _ => none
 | j + 1, y0, y1, y2, y3, y4, y5 =>
 bif y3 < y2 then
 if (0 ≤ y3) ∧ (y3 < y1.length) then
 if ((qge k (y1.getD y3.toNat T3.dflt)).isSome) then
 bif (if y4.1 > (wp k (y1.getD y3.toNat T3.dflt)).1 then y4.1 else (wp k (y1.getD y3.toNat T3.dflt)).1) < if y4.2 < (wp k (y1.getD y3.toNat T3.dflt)).2 then y4.2 else (wp k (y1.getD y3.toNat T3.dflt)).2 then
 bif (y1.getD y3.toNat T3.dflt).2.2 then
 if ((y5.length + [(qa .i64 (y0 + qa .i64 ((wp k (y1.getD y3.toNat T3.dflt)).2 - if y4.2 < (wp k (y1.getD y3.toNat T3.dflt)).2 then y4.2 else (wp k (y1.getD y3.toNat T3.dflt)).2)), qa .i64 (qa .i64 (qa .i64 (y0 + qa .i64 ((wp k (y1.getD y3.toNat T3.dflt)).2 - if y4.2 < (wp k (y1.getD y3.toNat T3.dflt)).2 then y4.2 else (wp k (y1.getD y3.toNat T3.dflt)).2)) + if y4.2 < (wp k (y1.getD y3.toNat T3.dflt)).2 then y4.2 else (wp k (y1.getD y3.toNat T3.dflt)).2) - if y4.1 > (wp k (y1.getD y3.toNat T3.dflt)).1 then y4.1 else (wp k (y1.getD y3.toNat T3.dflt)).1))].length) * (16 : Nat) ≤ (140737488355328 : Nat)) then
 Z9 k j (qa .i64 (y0 + (y1.getD y3.toNat T3.dflt).2.1)) y1 y2 (qa .i64 (y3 + 1)) y4 (y5 ++ [(qa .i64 (y0 + qa .i64 ((wp k (y1.getD y3.toNat T3.dflt)).2 - if y4.2 < (wp k (y1.getD y3.toNat T3.dflt)).2 then y4.2 else (wp k (y1.getD y3.toNat T3.dflt)).2)), qa .i64 (qa .i64 (qa .i64 (y0 + qa .i64 ((wp k (y1.getD y3.toNat T3.dflt)).2 - if y4.2 < (wp k (y1.getD y3.toNat T3.dflt)).2 then y4.2 else (wp k (y1.getD y3.toNat T3.dflt)).2)) + if y4.2 < (wp k (y1.getD y3.toNat T3.dflt)).2 then y4.2 else (wp k (y1.getD y3.toNat T3.dflt)).2) - if y4.1 > (wp k (y1.getD y3.toNat T3.dflt)).1 then y4.1 else (wp k (y1.getD y3.toNat T3.dflt)).1))])
 else none
 else
 if ((y5.length + [(qa .i64 (y0 + qa .i64 ((if y4.1 > (wp k (y1.getD y3.toNat T3.dflt)).1 then y4.1 else (wp k (y1.getD y3.toNat T3.dflt)).1) - (wp k (y1.getD y3.toNat T3.dflt)).1)), qa .i64 (qa .i64 (qa .i64 (y0 + qa .i64 ((if y4.1 > (wp k (y1.getD y3.toNat T3.dflt)).1 then y4.1 else (wp k (y1.getD y3.toNat T3.dflt)).1) - (wp k (y1.getD y3.toNat T3.dflt)).1)) + if y4.2 < (wp k (y1.getD y3.toNat T3.dflt)).2 then y4.2 else (wp k (y1.getD y3.toNat T3.dflt)).2) - if y4.1 > (wp k (y1.getD y3.toNat T3.dflt)).1 then y4.1 else (wp k (y1.getD y3.toNat T3.dflt)).1))].length) * (16 : Nat) ≤ (140737488355328 : Nat)) then
 Z9 k j (qa .i64 (y0 + (y1.getD y3.toNat T3.dflt).2.1)) y1 y2 (qa .i64 (y3 + 1)) y4 (y5 ++ [(qa .i64 (y0 + qa .i64 ((if y4.1 > (wp k (y1.getD y3.toNat T3.dflt)).1 then y4.1 else (wp k (y1.getD y3.toNat T3.dflt)).1) - (wp k (y1.getD y3.toNat T3.dflt)).1)), qa .i64 (qa .i64 (qa .i64 (y0 + qa .i64 ((if y4.1 > (wp k (y1.getD y3.toNat T3.dflt)).1 then y4.1 else (wp k (y1.getD y3.toNat T3.dflt)).1) - (wp k (y1.getD y3.toNat T3.dflt)).1)) + if y4.2 < (wp k (y1.getD y3.toNat T3.dflt)).2 then y4.2 else (wp k (y1.getD y3.toNat T3.dflt)).2) - if y4.1 > (wp k (y1.getD y3.toNat T3.dflt)).1 then y4.1 else (wp k (y1.getD y3.toNat T3.dflt)).1))])
 else none
 else
 Z9 k j (qa .i64 (y0 + (y1.getD y3.toNat T3.dflt).2.1)) y1 y2 (qa .i64 (y3 + 1)) y4 y5
 else none
 else none
 else
 qfp k j y5
def qfp (k : Nat) : Nat → List T21.T → Option qnb
 | 0, _ => none
 | j + 1, y0 =>
 if ((qch k y0).isSome) then
 some ((qaH k y0).1, (qaH k y0).2)
 else none
end
def qjo (k : Nat) (a : List T3.T) (b : T21.T) : Option qnb :=
 if ((ZY k a).isSome) then
 bif (vD k a != (0 : Int)) then
 some ([], vD k a)
 else
 bif (decide (b.1 < (0 : Int)) || decide (b.1 > b.2) || decide (b.2 > (17179869184 : Int))) then
 some ([], 1)
 else
 Z9 k k 0 a (↑a.length : Int) 0 b ([])
 else none
def qdq := fun k a b => (qjo k a b).getD ([], 0)
def qNv (k : Nat) : Ke := (115, mo 2, fun
 | [.r (.ro f d), .agg e], [] => (qE f T3 d).bind fun a => (qW [] T21 e).bind fun b => some (.one (qnC (qdq k a b), []))
 | _, _ => none)
def qDL : List (Nat × List Cmd) := [(9, [.row 7 91 T21, .autoB [3, 7, 8, 35, 36, 37] false []]), (20, [.frz 7 false (RTy.list T21), .autoB [7] false []])]
abbrev qHH := EP Tryz.f115 0 qnC nb
theorem qCj (k) : ∀ j, (∀ {y0 y1 y2 y3 y4 y5}, qHH 9 (qG3 y0 y1 y2 y3 y4 y5) (Z9 k j y0 y1 y2 y3 y4 y5)) ∧ (∀ {y0}, qHH 20 (qzx y0) (qfp k j y0))
 | 0 => by and_intros <;> intros <;> exact e0
 | j + 1 => by
  have ih := @qCj k j
  have g := @go (qD [qbE k, qnm k, qjE k]) [20] qDL [.frz 4 false (RTy.list T21), .autoB [4, 5] true []]
  refine ⟨?_, ?_⟩
  ·intro y0 y1 y2 y3 y4 y5 r h
   rw [Z9] at h
   exact g (gS h (fun h => qS h fun h => qu h qCl fun h => gS h (fun h => gS h (fun h => qu h id fun h => gD h 9 ih.1) fun h => qu h id fun h => gD h 9 ih.1) fun h => gD h 9 ih.1) fun h => gD h 20 ih.2)
  ·intro y0 r h
   rw [qfp] at h
   exact g (qu h qwC fun h => gL h)
theorem qQr (k a b r) (h : qjo k a b = some r): qIl a b r := qN Tryz.f115 (go (qD [qbE k, qnm k, qjE k]) [20] qDL [.frz 4 false (RTy.list T21), .autoB [4, 5] true []] (qu h qcq fun h => qB h fun h => qB h fun h => gD h 9 (qCj k k).1))
theorem qO2 {k a b} (h : (qjo k a b).isSome): qIl a b (qdq k a b) := qJ h (qQr k a b)
abbrev qmh : Type := List T7.T × Int
def qoB (r : qmh) : AV := .tup [ro T7 r.1, ri r.2]
abbrev qJi (a : List T5.T) (b : T19.T) (d : List T7.T) (e : Int) (r : qmh) : Prop := CC Tryz.prog 67 [ro T5 a, .agg (qy (qr T19 b)), ro T7 d, ri e] [] (qoB r) (nb r)
def qFz := fun y0 y1 y2 y3 y4 => (⟨qI 111 [(10, .ptr 1000000 0 0), (13, .own 1000001 0), (37, ro T7 y0), (38, ri y1), (39, ri y2)], [(1000000, 0, .var 45 (qy (qr T4 y3))), (1000001, 0, .row 127 T7 y4)]⟩ : St)
def qBv := fun y0 y1 y2 y3 y4 y5 y6 y7 y8 y9 y10 => (⟨qI 111 [(10, .ptr 1000000 0 0), (13, .own 1000001 0), (15, .ptr 1000002 0 0), (16, ri y0), (17, ri y1), (37, ro T7 y2), (38, ri y3), (39, ri y4), (84, ro T21 y5), (85, ri y6), (86, ri y7)], [(1000000, 0, .var 45 (qy (qr T4 y8))), (1000001, 0, .row 127 T7 y9), (1000002, 0, .var 127 (qy (qr T7 y10)))]⟩ : St)
mutual
def Ve (k : Nat) : Nat → List T7.T → Int → Int → T4.T → List T7.T → Option qmh
 | 0, _, _, _, _, _ => none
 | j + 1, y0, y1, y2, y3, y4 =>
 bif y2 < y1 then
 if (0 ≤ y2) ∧ (y2 < y0.length) then
 bif (if y3.1 > (y0.getD y2.toNat T7.dflt).1.1 then y3.1 else (y0.getD y2.toNat T7.dflt).1.1) ≥ if qa .i64 (y3.1 + y3.2.1) < (y0.getD y2.toNat T7.dflt).1.2.1 then qa .i64 (y3.1 + y3.2.1) else (y0.getD y2.toNat T7.dflt).1.2.1 then
 Ve k j y0 y1 (qa .i64 (y2 + 1)) y3 y4
 else
 if ((qjd k y3 (if y3.1 > (y0.getD y2.toNat T7.dflt).1.1 then y3.1 else (y0.getD y2.toNat T7.dflt).1.1) (if qa .i64 (y3.1 + y3.2.1) < (y0.getD y2.toNat T7.dflt).1.2.1 then qa .i64 (y3.1 + y3.2.1) else (y0.getD y2.toNat T7.dflt).1.2.1)).isSome) then
 if ((qjo k y3.2.2.2 (y0.getD y2.toNat T7.dflt).1.2.2).isSome) then
 bif ((qdq k y3.2.2.2 (y0.getD y2.toNat T7.dflt).1.2.2).2 != (0 : Int)) then
 some ([], (qdq k y3.2.2.2 (y0.getD y2.toNat T7.dflt).1.2.2).2)
 else
 Zy k j ((qm9 k y3 (if y3.1 > (y0.getD y2.toNat T7.dflt).1.1 then y3.1 else (y0.getD y2.toNat T7.dflt).1.1) (if qa .i64 (y3.1 + y3.2.1) < (y0.getD y2.toNat T7.dflt).1.2.1 then qa .i64 (y3.1 + y3.2.1) else (y0.getD y2.toNat T7.dflt).1.2.1)).1) ((qm9 k y3 (if y3.1 > (y0.getD y2.toNat T7.dflt).1.1 then y3.1 else (y0.getD y2.toNat T7.dflt).1.1) (if qa .i64 (y3.1 + y3.2.1) < (y0.getD y2.toNat T7.dflt).1.2.1 then qa .i64 (y3.1 + y3.2.1) else (y0.getD y2.toNat T7.dflt).1.2.1)).2) y0 y1 y2 ((qdq k y3.2.2.2 (y0.getD y2.toNat T7.dflt).1.2.2).1) (↑ (qdq k y3.2.2.2 (y0.getD y2.toNat T7.dflt).1.2.2).1.length : Int) 0 y3 y4 (y0.getD y2.toNat T7.dflt)
 else none
 else none
 else none
 else
 bif (↑y4.length : Int) > (128 : Int) then
 some ([], 8)
 else
 some (y4, 0)
def Zy (k : Nat) : Nat → Int → Int → List T7.T → Int → Int → List T21.T → Int → Int → T4.T → List T7.T → T7.T → Option qmh
 | 0, _, _, _, _, _, _, _, _, _, _, _ => none
 | j + 1, y0, y1, y2, y3, y4, y5, y6, y7, y8, y9, y10 =>
 bif y7 < y6 then
 if (0 ≤ y7) ∧ (y7 < y5.length) then
 if ((y9.length + [((y0, y1, y5.getD y7.toNat T21.dflt), y10.2)].length) * (48 : Nat) ≤ (140737488355328 : Nat)) then
 Zy k j y0 y1 y2 y3 y4 y5 y6 (qa .i64 (y7 + 1)) y8 (y9 ++ [((y0, y1, y5.getD y7.toNat T21.dflt), y10.2)]) y10
 else none
 else none
 else
 Ve k j y2 y3 (qa .i64 (y4 + 1)) y8 y9
end
def qi9 (k : Nat) (a : List T5.T) (b : T19.T) (d : List T7.T) (e : Int) : Option qmh :=
 if ((qfW k a b e).isSome) then
 bif ((zd k a b e).2 != (0 : Int)) then
 some ([], (zd k a b e).2)
 else
 if ((qjc k d).isSome) then
 bif (qjU k d != (0 : Int)) then
 some ([], qjU k d)
 else
 Ve k k d (↑d.length : Int) 0 ((zd k a b e).1) ([])
 else none
 else none
def qc0 := fun k a b d e => (qi9 k a b d e).getD ([], 0)
def qDy (k : Nat) : Ke := (67, mo 4, fun
 | [.r (.ro m f), .agg l, .r (.ro n i), .r (.v (.int .i64 e))], [] => (qE m T5 f).bind fun a => (qW [] T19 l).bind fun b => (qE n T7 i).bind fun d => some (.one (qoB (qc0 k a b d e), []))
 | _, _ => none)
def qHX (k : Nat) : Calld := qD [qE7 k, qRi k, qPR k, qNv k]
def qDY : List (Nat × List Cmd) := [(9, [.row 13 127 T7, .autoB [10, 13, 37, 38, 39] false []]), (18, [.row 13 127 T7, .autoB [10, 13, 15, 16, 17, 37, 38, 39, 84, 85, 86] false []])]
abbrev qJn := EP Tryz.f67 0 qoB nb
theorem qCr (k) : ∀ j, (∀ {y0 y1 y2 y3 y4}, qJn 9 (qFz y0 y1 y2 y3 y4) (Ve k j y0 y1 y2 y3 y4)) ∧ (∀ {y0 y1 y2 y3 y4 y5 y6 y7 y8 y9 y10}, qJn 18 (qBv y0 y1 y2 y3 y4 y5 y6 y7 y8 y9 y10) (Zy k j y0 y1 y2 y3 y4 y5 y6 y7 y8 y9 y10))
 | 0 => by and_intros <;> intros <;> exact e0
 | j + 1 => by
  have ih := @qCr k j
  have g := @go (qHX k) [] qDY [.frz 8 false (RTy.list T7), .autoB [8, 9] true []]
  refine ⟨?_, ?_⟩
  ·intro y0 y1 y2 y3 y4 r h
   rw [Ve] at h
   exact g (gS h (fun h => qS h fun h => gS h (fun h => gD h 9 ih.1) fun h => qu h qPS fun h => qu h qO2 fun h => qB h fun h => gD h 18 ih.2) fun h => qB h fun h => gL h)
  ·intro y0 y1 y2 y3 y4 y5 y6 y7 y8 y9 y10 r h
   rw [Zy] at h
   exact g (gS h (fun h => qS h fun h => qu h id fun h => gD h 18 ih.2) fun h => gD h 9 ih.1)
theorem qNO (k a b d e r) (h : qi9 k a b d e = some r): qJi a b d e r := qN Tryz.f67 (go (qHX k) [] qDY [.frz 8 false (RTy.list T7), .autoB [8, 9] true []] (qu h qAQ fun h => qB h fun h => qu h qPN fun h => qB h fun h => gD h 9 (qCr k k).1))
theorem qQX {k a b d e} (h : (qi9 k a b d e).isSome): qJi a b d e (qc0 k a b d e) := qJ h (qNO k a b d e)
def qof (r : Int × Int) : AV := .tup [ri r.1, ri r.2]
abbrev qHJ (a : List T5.T) (b : T19.T) (d : List T7.T) (e : Int) (r : Int × Int) : Prop := CC Tryz.prog 180 [ro T5 a, .agg (qy (qr T19 b)), ro T7 d, ri e] [] (qof r) (nb r)
def qGQ := fun y0 y1 y2 y3 => (⟨qI 38 [(12, ri y0), (26, ro T7 y1), (27, ri y2), (28, ri y3)], []⟩ : St)
def YH (k : Nat) : Nat → Int → List T7.T → Int → Int → Option (Int × Int)
 | 0, _, _, _, _ => none
 | j + 1, y0, y1, y2, y3 =>
 bif y3 < y2 then
 if (0 ≤ y3) ∧ (y3 < y1.length) then
 YH k j (if (y1.getD y3.toNat T7.dflt).2.2 > y0 then (y1.getD y3.toNat T7.dflt).2.2 else y0) y1 y2 (qa .i64 (y3 + 1))
 else none
 else
 some (y0, 0)
def qjW (k : Nat) (a : List T5.T) (b : T19.T) (d : List T7.T) (e : Int) : Option (Int × Int) :=
 if ((qi9 k a b d e).isSome) then
 bif ((qc0 k a b d e).2 != (0 : Int)) then
 some (0, (qc0 k a b d e).2)
 else
 YH k k 0 ((qc0 k a b d e).1) (↑ (qc0 k a b d e).1.length : Int) 0
 else none
def qgk := fun k a b d e => (qjW k a b d e).getD (0, 0)
def qPW (k : Nat) : Ke := (180, mo 4, fun
 | [.r (.ro l f), .agg i, .r (.ro m g), .r (.v (.int .i64 e))], [] => (qE l T5 f).bind fun a => (qW [] T19 i).bind fun b => (qE m T7 g).bind fun d => some (.one (qof (qgk k a b d e), []))
 | _, _ => none)
def qAp : List (Nat × List Cmd) := [(6, [.autoB [12, 26, 27, 28] false []])]
abbrev qSe := EP Tryz.f180 0 qof nb
theorem qzM (k) : ∀ j, (∀ y0 y1 y2 y3, qSe 6 (qGQ y0 y1 y2 y3) (YH k j y0 y1 y2 y3))
 | 0 => by intros; exact e0
 | j + 1 => by
  have ih := @qzM k j
  ·intro y0 y1 y2 y3 r h
   rw [YH] at h
   exact go (qD [qDy k]) [] qAp [.autoB [8, 9] true []] (gS h (fun h => qS h fun h => gC h 6 (ih _ _ _ _ _)) fun h => gL h)
theorem qRl (k a b d e r) (h : qjW k a b d e = some r): qHJ a b d e r := qN Tryz.f180 (go (qD [qDy k]) [] qAp [.autoB [8, 9] true []] (qu h qQX fun h => qB h fun h => gC h 6 ((qzM k k) _ _ _ _ _)))
theorem qNB {k a b d e} (h : (qjW k a b d e).isSome): qHJ a b d e (qgk k a b d e) := qJ h (qRl k a b d e)
abbrev qr5 : Type := T22.T × Int
def qr7 (r : qr5) : AV := .tup [.agg (qy (qr T22 r.1)), ri r.2]
abbrev qz1 (a : T28.T) (b : Int) (r : qr5) : Prop := CC Tryz.prog 132 [.agg (qy (qr T28 a)), ri b] [] (qr7 r) (nb r)
def qbK (k : Nat) (a : T28.T) (b : Int) : Option qr5 :=
 if ((qfW k a.1 a.2.1 b).isSome) then
 bif ((zd k a.1 a.2.1 b).2 != (0 : Int)) then
 some ((0, (false, (0, (0, (0, 0))))), (zd k a.1 a.2.1 b).2)
 else
 bif (b == 0) then
 some ((0, (false, (0, (0, (0, 0))))), 7)
 else
 if ((Xw k a.2.2.1).isSome) then
 bif (QL k a.2.2.1 != (0 : Int)) then
 some ((0, (false, (0, (0, (0, 0))))), QL k a.2.2.1)
 else
 if ((qeh k a).isSome) then
 bif (!qhq k a) then
 some ((0, (false, (0, (0, (0, 0))))), 21)
 else
 if ((qfx k (zd k a.1 a.2.1 b).1.2.2.2).isSome) then
 bif ((zV k (zd k a.1 a.2.1 b).1.2.2.2).2 != (0 : Int)) then
 some ((0, (false, (0, (0, (0, 0))))), (zV k (zd k a.1 a.2.1 b).1.2.2.2).2)
 else
 if ((qiO k a (zV k (zd k a.1 a.2.1 b).1.2.2.2).1).isSome) then
 bif (decide ((QA k a (zV k (zd k a.1 a.2.1 b).1.2.2.2).1).1 < (0 : Int)) || decide ((QA k a (zV k (zd k a.1 a.2.1 b).1.2.2.2).1).1 ≥ (↑ (qe a.2.2.2.2.1) : Int))) then
 some ((0, (false, (0, (0, (0, 0))))), 22)
 else
 if ((qaV k (zd k a.1 a.2.1 b).1.2.2.2).isSome) then
 if ((0 : Int) ≤ (QA k a (zV k (zd k a.1 a.2.1 b).1.2.2.2).1).1) ∧ ((QA k a (zV k (zd k a.1 a.2.1 b).1.2.2.2).1).1 < (↑ (qe a.2.2.2.2.1) : Int)) ∧ ((qjC k a.2.2.2.2.2 (X2 k (zd k a.1 a.2.1 b).1.2.2.2).1 (qM a.2.2.2.2.1 (QA k a (zV k (zd k a.1 a.2.1 b).1.2.2.2).1).1.toNat T0.dflt).2.2.2.2.2.1).isSome) then
 bif ((qf4 k a.2.2.2.2.2 (X2 k (zd k a.1 a.2.1 b).1.2.2.2).1 (qM a.2.2.2.2.1 (QA k a (zV k (zd k a.1 a.2.1 b).1.2.2.2).1).1.toNat T0.dflt).2.2.2.2.2.1).2 != (0 : Int)) then
 some ((0, (false, (0, (0, (0, 0))))), (qf4 k a.2.2.2.2.2 (X2 k (zd k a.1 a.2.1 b).1.2.2.2).1 (qM a.2.2.2.2.1 (QA k a (zV k (zd k a.1 a.2.1 b).1.2.2.2).1).1.toNat T0.dflt).2.2.2.2.2.1).2)
 else
 if ((qjW k a.1 a.2.1 a.2.2.2.1 b).isSome) then
 bif ((qgk k a.1 a.2.1 a.2.2.2.1 b).2 != (0 : Int)) then
 some ((0, (false, (0, (0, (0, 0))))), (qgk k a.1 a.2.1 a.2.2.2.1 b).2)
 else
 some (((QA k a (zV k (zd k a.1 a.2.1 b).1.2.2.2).1).1, ((QA k a (zV k (zd k a.1 a.2.1 b).1.2.2.2).1).2, ((zd k a.1 a.2.1 b).1.2.1, ((qf4 k a.2.2.2.2.2 (X2 k (zd k a.1 a.2.1 b).1.2.2.2).1 (qM a.2.2.2.2.1 (QA k a (zV k (zd k a.1 a.2.1 b).1.2.2.2).1).1.toNat T0.dflt).2.2.2.2.2.1).1, (qa .i64 ((↑ (qe (zd k a.1 a.2.1 b).1.2.2.2) : Int) - 1), (qgk k a.1 a.2.1 a.2.2.2.1 b).1))))), 0)
 else none
 else none
 else none
 else none
 else none
 else none
 else none
 else none
def Qe := fun k a b => (qbK k a b).getD ((T22).dflt, 0)
def qMC (k : Nat) : Ke := (132, mo 2, fun
 | [.agg d, .r (.v (.int .i64 b))], [] => (qW [] T28 d).bind fun a => some (.one (qr7 (Qe k a b), []))
 | _, _ => none)
theorem qMp (k a b r) (h : qbK k a b = some r): qz1 a b r := qN Tryz.f132 (go (qD [qfk k, qta k, qC7 k, qE7 k, qLZ k, qLh k, qOj k, qPW k]) [] [] [.autoB [4, 5] true []] (qu h qAQ fun h => qB h fun h => qB h fun h => qu h qj6 fun h => qB h fun h => qu h qKo fun h => qB h fun h => qu h qDP fun h => qB h fun h => qu h qJ4 fun h => qB h fun h => qu h qsg fun h => gN h (fun q => qf q.1 (qf q.2.1 (qf (qOa q.2.2) qR))) fun h => qB h fun h => qu h qNB fun h => qB h fun h => gL h))
theorem qKC {k a b} (h : (qbK k a b).isSome): qz1 a b (Qe k a b) := qJ h (qMp k a b)
def qvt (r : T19.T) : AV := .agg (qy (qr T19 r))
def qD1 (a : T17.T) (b : List T18.T) (r : T19.T) : List (Nat × Blk) := [(0, .var 140 (qy (qr T17 a) ++ [.own 1 0])), (0, .row 54 T18 b)]
abbrev qHI (a : T17.T) (b : List T18.T) (r : T19.T) : Prop := CC Tryz.prog 144 [.ptr 0 0 0] [.var 140 (qy (qr T17 a) ++ [.own 1 0]), .row 54 T18 b] (qvt r) (qD1 a b r)
def qq5 (k : Nat) (a : T17.T) (b : List T18.T) : Option T19.T :=
 some (a.2.1, a.2.2.1)
def qna := fun k a b => (qq5 k a b).getD (T19).dflt
def qP9 (k : Nat) : Ke := (144, fun
 | [.ptr _ _ _] => some [true, true, true]
 | _ => none, fun
 | [.ptr 0 0 0], [.var 140 d, .row 54 tb_22_ qb_22] => (qW [] T17 (d.take 22)).bind fun a => (qE tb_22_ T18 qb_22).bind fun b => some (.one (qvt (qna k a b), qD1 a b (qna k a b)))
 | _, _ => none)
theorem qRh (k a b r) (h : qq5 k a b = some r): qHI a b r := qN Tryz.f144 (go (qD []) [] [] [.autoB [2] true []] (gL h))
theorem qOk {k a b} (h : (qq5 k a b).isSome): qHI a b (qna k a b) := qJ h (qRh k a b)
def qvm (r : T28.T) : AV := .agg (qy (qr T28 r))
def qD7 (a : T17.T) (b : List T18.T) (r : T28.T) : List (Nat × Blk) := [(0, .var 140 (qy (qr T17 a) ++ [.own 1 0])), (0, .row 54 T18 b)]
abbrev qJa (a : T17.T) (b : List T18.T) (r : T28.T) : Prop := CC Tryz.prog 133 [.ptr 0 0 0] [.var 140 (qy (qr T17 a) ++ [.own 1 0]), .row 54 T18 b] (qvm r) (qD7 a b r)
def qnd (k : Nat) (a : T17.T) (b : List T18.T) : Option T28.T :=
 if ((qq5 k a b).isSome) then
 some (a.2.2.2.2.2.2.2.2.2.2.2.1, (((qna k a b).1, (qna k a b).2), (a.2.2.2.2.2.2.2.2.2.1, (a.2.2.2.2.2.2.2.2.2.2.2.2.2.2.1, (a.2.2.2.2.2.2.2.1, a.2.2.2.2.2.1)))))
 else none
def Wx := fun k a b => (qnd k a b).getD (T28).dflt
def qRn (k : Nat) : Ke := (133, fun
 | [.ptr _ _ _] => some [true, true, true]
 | _ => none, fun
 | [.ptr 0 0 0], [.var 140 d, .row 54 tb_22_ qb_22] => (qW [] T17 (d.take 22)).bind fun a => (qE tb_22_ T18 qb_22).bind fun b => some (.one (qvm (Wx k a b), qD7 a b (Wx k a b)))
 | _, _ => none)
theorem qQp (k a b r) (h : qnd k a b = some r): qJa a b r := qN Tryz.f133 (go (qD [qP9 k]) [] [] [.frz 2 true T28, .autoB [2] true []] (gN h (fun q => qf (⟨rfl, ⟨rfl, trivial⟩⟩ : qbd (0, .var 140 ((qy (qr T17 a)) ++ [.own 1 0])) ∧ qbd (0, .row 54 T18 b) ∧ True) (qf (qOk q) qR)) fun h => gL h))
theorem qND {k a b} (h : (qnd k a b).isSome): qJa a b (Wx k a b) := qJ h (qQp k a b)
abbrev qDu (a : T32.T) (r : Bool) : Prop := CC Tryz.prog 256 [.agg (qy (qr T32 a))] [] (rb r) (nb r)
def qhD (k : Nat) (a : T32.T) : Option Bool :=
 some (a.1.1 != a.2.2.1)
def qtr := fun k a => (qhD k a).getD false
def qJK (k : Nat) : Ke := (256, mo 1, fun
 | [.agg b], [] => (qW [] T32 b).bind fun a => some (.one (rb (qtr k a), []))
 | _, _ => none)
theorem qLn (k a r) (h : qhD k a = some r): qDu a r := qN Tryz.f256 (go (qD []) [] [] [.autoB [2] true []] (gL h))
theorem qKr {k a} (h : (qhD k a).isSome): qDu a (qtr k a) := qJ h (qLn k a)
abbrev qD0 (a : T32.T) (r : Bool) : Prop := CC Tryz.prog 257 [.agg (qy (qr T32 a))] [] (rb r) (nb r)
def qic (k : Nat) (a : T32.T) : Option Bool :=
 some (!a.1.2.1)
def qrM := fun k a => (qic k a).getD false
def qKw (k : Nat) : Ke := (257, mo 1, fun
 | [.agg b], [] => (qW [] T32 b).bind fun a => some (.one (rb (qrM k a), []))
 | _, _ => none)
theorem qKN (k a r) (h : qic k a = some r): qD0 a r := qN Tryz.f257 (go (qD []) [] [] [.autoB [2] true []] (gL h))
theorem qJ7 {k a} (h : (qic k a).isSome): qD0 a (qrM k a) := qJ h (qKN k a)
abbrev qEy (a : T32.T) (r : Bool) : Prop := CC Tryz.prog 258 [.agg (qy (qr T32 a))] [] (rb r) (nb r)
def qiC (k : Nat) (a : T32.T) : Option Bool :=
 some (a.1.2.2.1 != a.2.2.2.1)
def qtn := fun k a => (qiC k a).getD false
def qLN (k : Nat) : Ke := (258, mo 1, fun
 | [.agg b], [] => (qW [] T32 b).bind fun a => some (.one (rb (qtn k a), []))
 | _, _ => none)
theorem qLc (k a r) (h : qiC k a = some r): qEy a r := qN Tryz.f258 (go (qD []) [] [] [.autoB [2] true []] (gL h))
theorem qNa {k a} (h : (qiC k a).isSome): qEy a (qtn k a) := qJ h (qLc k a)
abbrev qE1 (a : T32.T) (r : Bool) : Prop := CC Tryz.prog 259 [.agg (qy (qr T32 a))] [] (rb r) (nb r)
def qh5 (k : Nat) (a : T32.T) : Option Bool :=
 some (decide (a.1.2.2.2.1 < qa .i64 (a.2.2.2.2.2.1 - a.2.2.2.2.2.2.1)) || decide (a.1.2.2.2.1 > a.2.2.2.2.2.1))
def qs6 := fun k a => (qh5 k a).getD false
def qJI (k : Nat) : Ke := (259, mo 1, fun
 | [.agg b], [] => (qW [] T32 b).bind fun a => some (.one (rb (qs6 k a), []))
 | _, _ => none)
theorem qL6 (k a r) (h : qh5 k a = some r): qE1 a r := qN Tryz.f259 (go (qD []) [] [] [.autoB [2] true []] (gL h))
theorem qKH {k a} (h : (qh5 k a).isSome): qE1 a (qs6 k a) := qJ h (qL6 k a)
abbrev qFd (a : T32.T) (r : Bool) : Prop := CC Tryz.prog 260 [.agg (qy (qr T32 a))] [] (rb r) (nb r)
def qiE (k : Nat) (a : T32.T) : Option Bool :=
 some (decide (a.1.2.2.2.2.1 > a.2.2.2.2.2.2.2.2.2.2.1))
def qrO := fun k a => (qiE k a).getD false
def qLA (k : Nat) : Ke := (260, mo 1, fun
 | [.agg b], [] => (qW [] T32 b).bind fun a => some (.one (rb (qrO k a), []))
 | _, _ => none)
theorem qJN (k a r) (h : qiE k a = some r): qFd a r := qN Tryz.f260 (go (qD []) [] [] [.autoB [2] true []] (gL h))
theorem qNg {k a} (h : (qiE k a).isSome): qFd a (qrO k a) := qJ h (qJN k a)
abbrev qCv (a : T32.T) (r : Bool) : Prop := CC Tryz.prog 261 [.agg (qy (qr T32 a))] [] (rb r) (nb r)
def qiR (k : Nat) (a : T32.T) : Option Bool :=
 some (decide (a.1.2.2.2.2.2 > a.2.2.2.2.2.2.2.2.2.2.2.1))
def qsT := fun k a => (qiR k a).getD false
def qJ2 (k : Nat) : Ke := (261, mo 1, fun
 | [.agg b], [] => (qW [] T32 b).bind fun a => some (.one (rb (qsT k a), []))
 | _, _ => none)
theorem qMe (k a r) (h : qiR k a = some r): qCv a r := qN Tryz.f261 (go (qD []) [] [] [.autoB [2] true []] (gL h))
theorem qNf {k a} (h : (qiR k a).isSome): qCv a (qsT k a) := qJ h (qMe k a)
def vI (p : T32.T) : List (RTy.fn).T := [(Fn.func 256, [Value.agg (wu T32 p).toArray], []), (Fn.func 257, [Value.agg (wu T32 p).toArray], []), (Fn.func 258, [Value.agg (wu T32 p).toArray], []), (Fn.func 259, [Value.agg (wu T32 p).toArray], []), (Fn.func 260, [Value.agg (wu T32 p).toArray], []), (Fn.func 261, [Value.agg (wu T32 p).toArray], [])]
def qlg (r : List I.T × Int) : AV := .tup [ro I r.1, ri r.2]
abbrev qEE (a : T8.T) (b : T22.T) (r : List I.T × Int) : Prop := CC Tryz.prog 219 [.agg (qy (qr T8 a)), .agg (qy (qr T22 b))] [] (qlg r) (nb r)
def qqo := fun y0 y1 => (⟨qI 47 [(8, .own 1000000 0), (31, .own 1000001 0), (32, ri 6), (33, ri 0)], [(1000000, 0, .row 3 I y0), (1000001, 0, .row 40 .fn (vI y1))]⟩ : St)
def qqp := fun y0 y1 => (⟨qI 47 [(8, .own 1000000 0), (31, .own 1000001 0), (32, ri 6), (33, ri 1)], [(1000000, 0, .row 3 I y0), (1000001, 0, .row 40 .fn (vI y1))]⟩ : St)
def qqC := fun y0 y1 => (⟨qI 47 [(8, .own 1000000 0), (31, .own 1000001 0), (32, ri 6), (33, ri 2)], [(1000000, 0, .row 3 I y0), (1000001, 0, .row 40 .fn (vI y1))]⟩ : St)
def qqB := fun y0 y1 => (⟨qI 47 [(8, .own 1000000 0), (31, .own 1000001 0), (32, ri 6), (33, ri 3)], [(1000000, 0, .row 3 I y0), (1000001, 0, .row 40 .fn (vI y1))]⟩ : St)
def qqE := fun y0 y1 => (⟨qI 47 [(8, .own 1000000 0), (31, .own 1000001 0), (32, ri 6), (33, ri 4)], [(1000000, 0, .row 3 I y0), (1000001, 0, .row 40 .fn (vI y1))]⟩ : St)
def qqk := fun y0 y1 => (⟨qI 47 [(8, .own 1000000 0), (31, .own 1000001 0), (32, ri 6), (33, ri 5)], [(1000000, 0, .row 3 I y0), (1000001, 0, .row 40 .fn (vI y1))]⟩ : St)
def qqM := fun y0 y1 => (⟨qI 47 [(8, .own 1000000 0), (31, .own 1000001 0), (32, ri 6), (33, ri 6)], [(1000000, 0, .row 3 I y0), (1000001, 0, .row 40 .fn (vI y1))]⟩ : St)
mutual
def Q3 (k : Nat) : Nat → List I.T → T32.T → Option (List I.T × Int)
 | 0, _, _ => none
 | j + 1, y0, y1 =>
 if ((0 : Int) ≤ (0 : Int)) ∧ ((0 : Int) < (↑ (vI y1).length : Int)) then
 if ((qhD k y1).isSome) then
 bif (qtr k y1) then
 if ((y0.length + [qa .i64 ((1 : Int) + (0 : Int))].length) * (8 : Nat) ≤ (140737488355328 : Nat)) then
 vz k j (y0 ++ [qa .i64 (1 + 0)]) y1
 else none
 else
 vz k j y0 y1
 else none
 else none
def vz (k : Nat) : Nat → List I.T → T32.T → Option (List I.T × Int)
 | 0, _, _ => none
 | j + 1, y0, y1 =>
 if ((0 : Int) ≤ (1 : Int)) ∧ ((1 : Int) < (↑ (vI y1).length : Int)) then
 if ((qic k y1).isSome) then
 bif (qrM k y1) then
 if ((y0.length + [qa .i64 ((1 : Int) + (1 : Int))].length) * (8 : Nat) ≤ (140737488355328 : Nat)) then
 vt k j (y0 ++ [qa .i64 (1 + 1)]) y1
 else none
 else
 vt k j y0 y1
 else none
 else none
def vt (k : Nat) : Nat → List I.T → T32.T → Option (List I.T × Int)
 | 0, _, _ => none
 | j + 1, y0, y1 =>
 if ((0 : Int) ≤ (2 : Int)) ∧ ((2 : Int) < (↑ (vI y1).length : Int)) then
 if ((qiC k y1).isSome) then
 bif (qtn k y1) then
 if ((y0.length + [qa .i64 ((1 : Int) + (2 : Int))].length) * (8 : Nat) ≤ (140737488355328 : Nat)) then
 vo k j (y0 ++ [qa .i64 (1 + 2)]) y1
 else none
 else
 vo k j y0 y1
 else none
 else none
def vo (k : Nat) : Nat → List I.T → T32.T → Option (List I.T × Int)
 | 0, _, _ => none
 | j + 1, y0, y1 =>
 if ((0 : Int) ≤ (3 : Int)) ∧ ((3 : Int) < (↑ (vI y1).length : Int)) then
 if ((qh5 k y1).isSome) then
 bif (qs6 k y1) then
 if ((y0.length + [qa .i64 ((1 : Int) + (3 : Int))].length) * (8 : Nat) ≤ (140737488355328 : Nat)) then
 vp k j (y0 ++ [qa .i64 (1 + 3)]) y1
 else none
 else
 vp k j y0 y1
 else none
 else none
def vp (k : Nat) : Nat → List I.T → T32.T → Option (List I.T × Int)
 | 0, _, _ => none
 | j + 1, y0, y1 =>
 if ((0 : Int) ≤ (4 : Int)) ∧ ((4 : Int) < (↑ (vI y1).length : Int)) then
 if ((qiE k y1).isSome) then
 bif (qrO k y1) then
 if ((y0.length + [qa .i64 ((1 : Int) + (4 : Int))].length) * (8 : Nat) ≤ (140737488355328 : Nat)) then
 vv k j (y0 ++ [qa .i64 (1 + 4)]) y1
 else none
 else
 vv k j y0 y1
 else none
 else none
def vv (k : Nat) : Nat → List I.T → T32.T → Option (List I.T × Int)
 | 0, _, _ => none
 | j + 1, y0, y1 =>
 if ((0 : Int) ≤ (5 : Int)) ∧ ((5 : Int) < (↑ (vI y1).length : Int)) then
 if ((qiR k y1).isSome) then
 bif (qsT k y1) then
 if ((y0.length + [qa .i64 ((1 : Int) + (5 : Int))].length) * (8 : Nat) ≤ (140737488355328 : Nat)) then
 Qi k j (y0 ++ [qa .i64 (1 + 5)]) y1
 else none
 else
 Qi k j y0 y1
 else none
 else none
def Qi (k : Nat) : Nat → List I.T → T32.T → Option (List I.T × Int)
 | 0, _, _ => none
 | j + 1, y0, y1 =>
 some (y0, 0)
end
def qea (k : Nat) (a : T8.T) (b : T22.T) : Option (List I.T × Int) :=
 if ((VF k a).isSome) then
 bif (Y4 k a != (0 : Int)) then
 some ([], Y4 k a)
 else
 Q3 k k ([]) (b, a)
 else none
def qbR := fun k a b => (qea k a b).getD ([], 0)
def qwL (k : Nat) : Ke := (219, mo 2, fun
 | [.agg e, .agg d], [] => (qW [] T8 e).bind fun a => (qW [] T22 d).bind fun b => some (.one (qlg (qbR k a b), []))
 | _, _ => none)
def qBm (k : Nat) : Calld := qD [qAV k, qJK k, qKw k, qLN k, qJI k, qLA k, qJ2 k]
def qwe : List (Nat × List Cmd) := [(7, [.key 33, .row 8 3 I, .autoB [8, 31, 32, 33] false []])]
abbrev qbx := EP Tryz.f219 0 qlg nb
theorem qvu (k) : ∀ j, (∀ {y0 y1}, qbx 7 (qqo y0 y1) (Q3 k j y0 y1)) ∧ (∀ {y0 y1}, qbx 7 (qqp y0 y1) (vz k j y0 y1)) ∧ (∀ {y0 y1}, qbx 7 (qqC y0 y1) (vt k j y0 y1)) ∧ (∀ {y0 y1}, qbx 7 (qqB y0 y1) (vo k j y0 y1)) ∧ (∀ {y0 y1}, qbx 7 (qqE y0 y1) (vp k j y0 y1)) ∧ (∀ {y0 y1}, qbx 7 (qqk y0 y1) (vv k j y0 y1)) ∧ (∀ {y0 y1}, qbx 7 (qqM y0 y1) (Qi k j y0 y1))
 | 0 => by and_intros <;> intros <;> exact e0
 | j + 1 => by
  have ih := @qvu k j
  have g := @go (qBm k) [] qwe [.frz 4 false (RTy.list I), .autoB [4, 5] true []]
  refine ⟨?_, ?_, ?_, ?_, ?_, ?_, ?_⟩
  ·intro y0 y1 r h
   rw [Q3] at h
   exact g (gU1 h (.leaf (.tup [.r (.ro I y0), .r (.v (.int .i64 0))]) []) fun h => qS h fun h => qu h qKr fun h => gS h (fun h => qu h id fun h => gD h 20007 ih.2.1) fun h => gD h 20007 ih.2.1)
  ·intro y0 y1 r h
   rw [vz] at h
   exact g (gU1 h (.leaf (.tup [.r (.ro I y0), .r (.v (.int .i64 0))]) []) fun h => qS h fun h => qu h qJ7 fun h => gS h (fun h => qu h id fun h => gD h 30007 ih.2.2.1) fun h => gD h 30007 ih.2.2.1)
  ·intro y0 y1 r h
   rw [vt] at h
   exact g (gU1 h (.leaf (.tup [.r (.ro I y0), .r (.v (.int .i64 0))]) []) fun h => qS h fun h => qu h qNa fun h => gS h (fun h => qu h id fun h => gD h 40007 ih.2.2.2.1) fun h => gD h 40007 ih.2.2.2.1)
  ·intro y0 y1 r h
   rw [vo] at h
   exact g (gU1 h (.leaf (.tup [.r (.ro I y0), .r (.v (.int .i64 0))]) []) fun h => qS h fun h => qu h qKH fun h => gS h (fun h => qu h id fun h => gD h 50007 ih.2.2.2.2.1) fun h => gD h 50007 ih.2.2.2.2.1)
  ·intro y0 y1 r h
   rw [vp] at h
   exact g (gU1 h (.leaf (.tup [.r (.ro I y0), .r (.v (.int .i64 0))]) []) fun h => qS h fun h => qu h qNg fun h => gS h (fun h => qu h id fun h => gD h 60007 ih.2.2.2.2.2.1) fun h => gD h 60007 ih.2.2.2.2.2.1)
  ·intro y0 y1 r h
   rw [vv] at h
   exact g (gU1 h (.leaf (.tup [.r (.ro I y0), .r (.v (.int .i64 0))]) []) fun h => qS h fun h => qu h qNf fun h => gS h (fun h => qu h id fun h => gD h 70007 ih.2.2.2.2.2.2) fun h => gD h 70007 ih.2.2.2.2.2.2)
  ·intro y0 y1 r h
   rw [Qi] at h
   exact g (gU2 h (.need [(0 : Int) ≤ (6 : Int), (6 : Int) < (↑ (vI y1).length : Int)] (.stuck 2001)) fun h => gL h)
theorem qLy (k a b r) (h : qea k a b = some r): qEE a b r := qN Tryz.f219 (go (qBm k) [] qwe [.frz 4 false (RTy.list I), .autoB [4, 5] true []] (qu h qAO fun h => qB h fun h => gD h 10007 (qvu k k).1))
theorem qLf {k a b} (h : (qea k a b).isSome): qEE a b (qbR k a b) := qJ h (qLy k a b)
abbrev qEX (a : List T10.T) (r : Int) : Prop := CC Tryz.prog 220 [ro T10 a] [] (ri r) (nb r)
def qAR := fun y0 y1 y2 => (⟨qI 42 [(8, ro T10 y0), (9, ri y1), (10, ri y2)], []⟩ : St)
def V6 (k : Nat) : Nat → List T10.T → Int → Int → Option Int
 | 0, _, _, _ => none
 | j + 1, y0, y1, y2 =>
 bif y2 < y1 then
 if (0 ≤ y2) ∧ (y2 < y0.length) then
 bif (decide ((y0.getD y2.toNat T10.dflt).1 < (1 : Int)) || decide ((y0.getD y2.toNat T10.dflt).1 > (1000000 : Int))) then
 some 1
 else
 bif (decide ((y0.getD y2.toNat T10.dflt).2.1 < (1 : Int)) || decide ((y0.getD y2.toNat T10.dflt).2.1 > (6 : Int))) then
 some 17
 else
 bif (decide ((y0.getD y2.toNat T10.dflt).2.2 < (0 : Int)) || decide ((y0.getD y2.toNat T10.dflt).2.2 > (2147483647 : Int))) then
 some 1
 else
 V6 k j y0 y1 (qa .i64 (y2 + 1))
 else none
 else
 some 0
def qeN (k : Nat) (a : List T10.T) : Option Int :=
 bif (↑a.length : Int) > (512 : Int) then
 some 8
 else
 V6 k k a (↑a.length : Int) 0
def qfe := fun k a => (qeN k a).getD 0
def qvE (k : Nat) : Ke := (220, mo 1, fun
 | [.r (.ro d b)], [] => (qE d T10 b).bind fun a => some (.one (ri (qfe k a), []))
 | _, _ => none)
def qwV : List (Nat × List Cmd) := [(4, [.autoB [8, 9, 10] false []])]
abbrev qQd := EP Tryz.f220 0 ri nb
theorem qu4 (k) : ∀ j, (∀ y0 y1 y2, qQd 4 (qAR y0 y1 y2) (V6 k j y0 y1 y2))
 | 0 => by intros; exact e0
 | j + 1 => by
  have ih := @qu4 k j
  ·intro y0 y1 y2 r h
   rw [V6] at h
   exact go (qD []) [] qwV [.autoB [2] true []] (gS h (fun h => qS h fun h => qB h fun h => qB h fun h => qB h fun h => gC h 4 (ih _ _ _ _)) fun h => gL h)
theorem qKs (k a r) (h : qeN k a = some r): qEX a r := qN Tryz.f220 (go (qD []) [] qwV [.autoB [2] true []] (qB h fun h => gC h 4 ((qu4 k k) _ _ _ _)))
theorem qJS {k a} (h : (qeN k a).isSome): qEX a (qfe k a) := qJ h (qKs k a)
def qkX (r : List I.T × Int) : AV := .tup [ro I r.1, ri r.2]
abbrev qEz (a : T8.T) (b : T22.T) (d : Int) (e : List T10.T) (r : List I.T × Int) : Prop := CC Tryz.prog 181 [.agg (qy (qr T8 a)), .agg (qy (qr T22 b)), ri d, ro T10 e] [] (qkX r) (nb r)
def qAi := fun y0 y1 y2 y3 y4 y5 => (⟨qI 64 [(2, ri y0), (10, ro I y1), (13, .own 1000000 0), (34, ro T10 y2), (35, ri y3), (36, ri y4)], [(1000000, 0, .map false I RTy.bool y5)]⟩ : St)
def qx9 := fun y0 y1 y2 y3 y4 => (⟨qI 64 [(13, .own 1000000 0), (16, .own 1000001 0), (48, ro I y0), (49, ri y1), (50, ri y2)], [(1000000, 0, .map false I RTy.bool y3), (1000001, 0, .row 3 I y4)]⟩ : St)
mutual
def ZK (k : Nat) : Nat → Int → List I.T → List T10.T → Int → Int → (List (I.T × (RTy.bool).T)) → Option (List I.T × Int)
 | 0, _, _, _, _, _, _ => none
 | j + 1, y0, y1, y2, y3, y4, y5 =>
 bif y4 < y3 then
 if (0 ≤ y4) ∧ (y4 < y2.length) then
 bif ((y2.getD y4.toNat T10.dflt).1 == y0) then
 ZK k j y0 y1 y2 y3 (qa .i64 (y4 + 1)) (vq I (y2.getD y4.toNat T10.dflt).2.1 true y5)
 else
 ZK k j y0 y1 y2 y3 (qa .i64 (y4 + 1)) y5
 else none
 else
 Wj k j y1 (↑y1.length : Int) 0 y5 ([])
def Wj (k : Nat) : Nat → List I.T → Int → Int → (List (I.T × (RTy.bool).T)) → List I.T → Option (List I.T × Int)
 | 0, _, _, _, _, _ => none
 | j + 1, y0, y1, y2, y3, y4 =>
 bif y2 < y1 then
 if (0 ≤ y2) ∧ (y2 < y0.length) then
 bif (! (wd I (y0.getD y2.toNat I.dflt) y3).getD false) then
 if ((y4.length + [y0.getD y2.toNat I.dflt].length) * (8 : Nat) ≤ (140737488355328 : Nat)) then
 Wj k j y0 y1 (qa .i64 (y2 + 1)) y3 (y4 ++ [y0.getD y2.toNat I.dflt])
 else none
 else
 Wj k j y0 y1 (qa .i64 (y2 + 1)) y3 y4
 else none
 else
 some (y4, 0)
end
def qeo (k : Nat) (a : T8.T) (b : T22.T) (d : Int) (e : List T10.T) : Option (List I.T × Int) :=
 if ((qea k a b).isSome) then
 bif ((qbR k a b).2 != (0 : Int)) then
 some ([], (qbR k a b).2)
 else
 if ((qeN k e).isSome) then
 bif (qfe k e != (0 : Int)) then
 some ([], qfe k e)
 else
 ZK k k d ((qbR k a b).1) e (↑e.length : Int) 0 ([])
 else none
 else none
def qb1 := fun k a b d e => (qeo k a b d e).getD ([], 0)
def qMo (k : Nat) : Ke := (181, mo 4, fun
 | [.agg l, .agg f, .r (.v (.int .i64 d)), .r (.ro m i)], [] => (qW [] T8 l).bind fun a => (qW [] T22 f).bind fun b => (qE m T10 i).bind fun e => some (.one (qkX (qb1 k a b d e), []))
 | _, _ => none)
def qvP : List (Nat × List Cmd) := [(9, [.autoB [2, 10, 13, 34, 35, 36] false []]), (16, [.row 16 3 I, .autoB [13, 16, 48, 49, 50] false []])]
abbrev qAP := EP Tryz.f181 0 qkX nb
theorem qwl (k) : ∀ j, (∀ {y0 y1 y2 y3 y4 y5}, qAP 9 (qAi y0 y1 y2 y3 y4 y5) (ZK k j y0 y1 y2 y3 y4 y5)) ∧ (∀ {y0 y1 y2 y3 y4}, qAP 16 (qx9 y0 y1 y2 y3 y4) (Wj k j y0 y1 y2 y3 y4))
 | 0 => by and_intros <;> intros <;> exact e0
 | j + 1 => by
  have ih := @qwl k j
  have g := @go (qD [qwL k, qvE k]) [] qvP [.frz 8 false (RTy.list I), .autoB [8, 9] true []]
  refine ⟨?_, ?_⟩
  ·intro y0 y1 y2 y3 y4 y5 r h
   rw [ZK] at h
   exact g (gS h (fun h => qS h fun h => gS h (fun h => gD h 9 ih.1) fun h => gD h 9 ih.1) fun h => gD h 16 ih.2)
  ·intro y0 y1 y2 y3 y4 r h
   rw [Wj] at h
   exact g (gS h (fun h => qS h fun h => gS h (fun h => qu h id fun h => gD h 16 ih.2) fun h => gD h 16 ih.2) fun h => gL h)
theorem qMl (k a b d e r) (h : qeo k a b d e = some r): qEz a b d e r := qN Tryz.f181 (go (qD [qwL k, qvE k]) [] qvP [.frz 8 false (RTy.list I), .autoB [8, 9] true []] (qu h qLf fun h => qB h fun h => qu h qJS fun h => qB h fun h => gD h 9 (qwl k k).1))
theorem qLg {k a b d e} (h : (qeo k a b d e).isSome): qEz a b d e (qb1 k a b d e) := qJ h (qMl k a b d e)
abbrev qEn (a : T8.T) (b : T22.T) (d : Int) (e : List T10.T) (r : Int) : Prop := CC Tryz.prog 134 [.agg (qy (qr T8 a)), .agg (qy (qr T22 b)), ri d, ro T10 e] [] (ri r) (nb r)
def qeR (k : Nat) (a : T8.T) (b : T22.T) (d : Int) (e : List T10.T) : Option Int :=
 if ((qeo k a b d e).isSome) then
 bif ((qb1 k a b d e).2 != (0 : Int)) then
 some ((qb1 k a b d e).2)
 else
 bif (↑ (qb1 k a b d e).1.length : Int) > (0 : Int) then
 some 31
 else
 some 0
 else none
def qas := fun k a b d e => (qeR k a b d e).getD 0
def qLG (k : Nat) : Ke := (134, mo 4, fun
 | [.agg i, .agg f, .r (.v (.int .i64 d)), .r (.ro l g)], [] => (qW [] T8 i).bind fun a => (qW [] T22 f).bind fun b => (qE l T10 g).bind fun e => some (.one (ri (qas k a b d e), []))
 | _, _ => none)
theorem qLz (k a b d e r) (h : qeR k a b d e = some r): qEn a b d e r := qN Tryz.f134 (go (qD [qMo k]) [] [] [.autoB [8] true []] (qu h qLg fun h => qB h fun h => qB h fun h => gL h))
theorem qJE {k a b d e} (h : (qeR k a b d e).isSome): qEn a b d e (qas k a b d e) := qJ h (qLz k a b d e)
abbrev qcZ : Type := T17.T × List T18.T
def qoD (r : qcZ) : AV := .tup []
def qr1 (a : T17.T) (b : List T18.T) (r : qcZ) : List (Nat × Blk) := [(0, .var 140 ((qy (qr T17 r.1)) ++ [.own 1 1])), (1, .row 54 T18 r.2)]
abbrev qIz (a : T17.T) (b : List T18.T) (r : qcZ) : Prop := CC Tryz.prog 90 [.ptr 0 0 0] [.var 140 (qy (qr T17 a) ++ [.own 1 0]), .row 54 T18 b] (qoD r) (qr1 a b r)
def qGk := fun (a : T17.T) (b : List T18.T) y0 y1 y2 y3 y4 y5 => (⟨qI 111 [(0, .ptr 0 0 0), (3, .own 1000000 0), (31, ro T11 y0), (32, ri y1), (33, ri y2)], [(0, 0, .var 140 ((qy (qr T17 y3)) ++ [.own 1 1])), (1, 1, .row 54 T18 y4), (1000000, 0, .row 3 I y5)]⟩ : St)
def qGH := fun (a : T17.T) (b : List T18.T) y0 y1 y2 y3 y4 y5 y6 y7 y8 => (⟨qI 111 [(0, .ptr 0 0 0), (3, .own 1000000 0), (31, ro T11 y0), (32, ri y1), (33, ri y2), (38, ro I y3), (39, ri y4), (40, ri y5)], [(0, 0, .var 140 ((qy (qr T17 y6)) ++ [.own 1 1])), (1, 1, .row 54 T18 y7), (1000000, 0, .row 3 I y8)]⟩ : St)
def qE5 := fun (a : T17.T) (b : List T18.T) y0 y1 y2 y3 y4 y5 => (⟨qI 111 [(0, .ptr 0 0 0), (3, .own 1000000 0), (89, ro T9 y0), (90, ri y1), (91, ri y2)], [(0, 0, .var 140 ((qy (qr T17 y3)) ++ [.own 1 1])), (1, 1, .row 54 T18 y4), (1000000, 0, .row 3 I y5)]⟩ : St)
def qEa := fun (a : T17.T) (b : List T18.T) y0 y1 y2 y3 y4 y5 y6 y7 y8 => (⟨qI 111 [(0, .ptr 0 0 0), (3, .own 1000000 0), (89, ro T9 y0), (90, ri y1), (91, ri y2), (96, ro I y3), (97, ri y4), (98, ri y5)], [(0, 0, .var 140 ((qy (qr T17 y6)) ++ [.own 1 1])), (1, 1, .row 54 T18 y7), (1000000, 0, .row 3 I y8)]⟩ : St)
mutual
def Z2 (k : Nat) (a : T17.T) (b : List T18.T) : Nat → List T11.T → Int → Int → T17.T → List T18.T → List I.T → Option qcZ
 | 0, _, _, _, _, _, _ => none
 | j + 1, y0, y1, y2, y3, y4, y5 =>
 bif y2 < y1 then
 if (0 ≤ y2) ∧ (y2 < y0.length) then
 Qv k a b j y0 y1 y2 ((y0.getD y2.toNat T11.dflt).2.2) (↑ (qe (y0.getD y2.toNat T11.dflt).2.2) : Int) 0 y3 y4 y5
 else none
 else
 ZR k a b j y3.2.2.2.2.2.2.2.2.2.2.2.2.2.2.2.1 (↑ (qe y3.2.2.2.2.2.2.2.2.2.2.2.2.2.2.2.1) : Int) 0 y3 y4 y5
def Qv (k : Nat) (a : T17.T) (b : List T18.T) : Nat → List T11.T → Int → Int → List I.T → Int → Int → T17.T → List T18.T → List I.T → Option qcZ
 | 0, _, _, _, _, _, _, _, _, _ => none
 | j + 1, y0, y1, y2, y3, y4, y5, y6, y7, y8 =>
 bif y5 < y4 then
 if (0 ≤ y5) ∧ (y5 < y3.length) then
 if ((y8.length + [y3.getD y5.toNat I.dflt].length) * (8 : Nat) ≤ (140737488355328 : Nat)) then
 if ((qje k y6 y7 (y3.getD y5.toNat I.dflt)).isSome) then
 bif (! (XH k y6 y7 (y3.getD y5.toNat I.dflt)).2) then
 if ((wR k y6 y7 6 (y3.getD y5.toNat I.dflt) 1).isSome) then
 Qv k a b j y0 y1 y2 y3 y4 (qa .i64 (y5 + 1)) ((q9 k y6 y7 6 (y3.getD y5.toNat I.dflt) 1).1) ((q9 k y6 y7 6 (y3.getD y5.toNat I.dflt) 1).2) (y8 ++ [y3.getD y5.toNat I.dflt])
 else none
 else
 if ((qnd k y6 y7).isSome) ∧ ((qbK k (Wx k y6 y7) (y3.getD y5.toNat I.dflt)).isSome) then
 bif ((Qe k (Wx k y6 y7) (y3.getD y5.toNat I.dflt)).2 == (0 : Int)) then
 if ((qeR k (XH k y6 y7 (y3.getD y5.toNat I.dflt)).1 (Qe k (Wx k y6 y7) (y3.getD y5.toNat I.dflt)).1 (y3.getD y5.toNat I.dflt) y6.2.2.2.2.2.2.2.2.2.2.2.2.2.2.2.2.1).isSome) then
 bif (qas k (XH k y6 y7 (y3.getD y5.toNat I.dflt)).1 (Qe k (Wx k y6 y7) (y3.getD y5.toNat I.dflt)).1 (y3.getD y5.toNat I.dflt) y6.2.2.2.2.2.2.2.2.2.2.2.2.2.2.2.2.1 != (0 : Int)) then
 if ((wR k y6 y7 7 (y3.getD y5.toNat I.dflt) (qas k (XH k y6 y7 (y3.getD y5.toNat I.dflt)).1 (Qe k (Wx k y6 y7) (y3.getD y5.toNat I.dflt)).1 (y3.getD y5.toNat I.dflt) y6.2.2.2.2.2.2.2.2.2.2.2.2.2.2.2.2.1)).isSome) then
 Qv k a b j y0 y1 y2 y3 y4 (qa .i64 (y5 + 1)) ((q9 k y6 y7 7 (y3.getD y5.toNat I.dflt) (qas k (XH k y6 y7 (y3.getD y5.toNat I.dflt)).1 (Qe k (Wx k y6 y7) (y3.getD y5.toNat I.dflt)).1 (y3.getD y5.toNat I.dflt) y6.2.2.2.2.2.2.2.2.2.2.2.2.2.2.2.2.1)).1) ((q9 k y6 y7 7 (y3.getD y5.toNat I.dflt) (qas k (XH k y6 y7 (y3.getD y5.toNat I.dflt)).1 (Qe k (Wx k y6 y7) (y3.getD y5.toNat I.dflt)).1 (y3.getD y5.toNat I.dflt) y6.2.2.2.2.2.2.2.2.2.2.2.2.2.2.2.2.1)).2) (y8 ++ [y3.getD y5.toNat I.dflt])
 else none
 else
 Qv k a b j y0 y1 y2 y3 y4 (qa .i64 (y5 + 1)) y6 y7 (y8 ++ [y3.getD y5.toNat I.dflt])
 else none
 else
 bif ((Qe k (Wx k y6 y7) (y3.getD y5.toNat I.dflt)).2 != (0 : Int)) then
 if ((wR k y6 y7 7 (y3.getD y5.toNat I.dflt) (Qe k (Wx k y6 y7) (y3.getD y5.toNat I.dflt)).2).isSome) then
 Qv k a b j y0 y1 y2 y3 y4 (qa .i64 (y5 + 1)) ((q9 k y6 y7 7 (y3.getD y5.toNat I.dflt) (Qe k (Wx k y6 y7) (y3.getD y5.toNat I.dflt)).2).1) ((q9 k y6 y7 7 (y3.getD y5.toNat I.dflt) (Qe k (Wx k y6 y7) (y3.getD y5.toNat I.dflt)).2).2) (y8 ++ [y3.getD y5.toNat I.dflt])
 else none
 else
 Qv k a b j y0 y1 y2 y3 y4 (qa .i64 (y5 + 1)) y6 y7 (y8 ++ [y3.getD y5.toNat I.dflt])
 else none
 else none
 else none
 else none
 else
 Z2 k a b j y0 y1 (qa .i64 (y2 + 1)) y6 y7 y8
def ZR (k : Nat) (a : T17.T) (b : List T18.T) : Nat → List T9.T → Int → Int → T17.T → List T18.T → List I.T → Option qcZ
 | 0, _, _, _, _, _, _ => none
 | j + 1, y0, y1, y2, y3, y4, y5 =>
 bif y2 < y1 then
 if (0 ≤ y2) ∧ (y2 < y0.length) then
 ZP k a b j y0 y1 y2 ((y0.getD y2.toNat T9.dflt).2.2.1) (↑ (qe (y0.getD y2.toNat T9.dflt).2.2.1) : Int) 0 y3 y4 y5
 else none
 else
 some (y3, y4)
def ZP (k : Nat) (a : T17.T) (b : List T18.T) : Nat → List T9.T → Int → Int → List I.T → Int → Int → T17.T → List T18.T → List I.T → Option qcZ
 | 0, _, _, _, _, _, _, _, _, _ => none
 | j + 1, y0, y1, y2, y3, y4, y5, y6, y7, y8 =>
 bif y5 < y4 then
 if (0 ≤ y5) ∧ (y5 < y3.length) then
 if ((VI k y8 (y3.getD y5.toNat I.dflt)).isSome) then
 bif (!VL k y8 (y3.getD y5.toNat I.dflt)) then
 if ((wR k y6 y7 6 (y3.getD y5.toNat I.dflt) 2).isSome) then
 ZP k a b j y0 y1 y2 y3 y4 (qa .i64 (y5 + 1)) ((q9 k y6 y7 6 (y3.getD y5.toNat I.dflt) 2).1) ((q9 k y6 y7 6 (y3.getD y5.toNat I.dflt) 2).2) y8
 else none
 else
 ZP k a b j y0 y1 y2 y3 y4 (qa .i64 (y5 + 1)) y6 y7 y8
 else none
 else none
 else
 ZR k a b j y0 y1 (qa .i64 (y2 + 1)) y6 y7 y8
end
def qj2 (k : Nat) (a : T17.T) (b : List T18.T) : Option qcZ :=
 if ((qec k a.2.2.2.2.2.2.2.2.2.2.2.2.2.2.2.2.2.1).isSome) then
 bif (qal k a.2.2.2.2.2.2.2.2.2.2.2.2.2.2.2.2.2.1 != (0 : Int)) then
 if ((wR k a b 6 0 (qal k a.2.2.2.2.2.2.2.2.2.2.2.2.2.2.2.2.2.1)).isSome) then
 some ((q9 k a b 6 0 (qal k a.2.2.2.2.2.2.2.2.2.2.2.2.2.2.2.2.2.1)).1, (q9 k a b 6 0 (qal k a.2.2.2.2.2.2.2.2.2.2.2.2.2.2.2.2.2.1)).2)
 else none
 else
 Z2 k a b k a.2.2.2.2.2.2.2.2.2.2.2.2.2.2.2.2.2.1 (↑ (qe a.2.2.2.2.2.2.2.2.2.2.2.2.2.2.2.2.2.1) : Int) 0 a b ([])
 else none
def qfJ := fun k a b => (qj2 k a b).getD ((T17).dflt, [])
def qRz (k : Nat) : Ke := (90, fun
 | [.ptr _ _ _] => some [true]
 | _ => none, fun
 | [.ptr 0 0 0], [.var 140 d, .row 54 tb_22_ qb_22] => (qW [] T17 (d.take 22)).bind fun a => (qE tb_22_ T18 qb_22).bind fun b => some (.one (qoD (qfJ k a b), qr1 a b (qfJ k a b)))
 | _, _ => none)
def qHw (k : Nat) : Calld := qD [qar k, qmB k, qJy k, qOO k, qMC k, qRn k, qLG k]
def qBP : List (Nat × List Cmd) := [(5, [.row 3 3 I, .autoB [0, 3, 31, 32, 33] false [1]]), (8, [.row 3 3 I, .autoB [0, 3, 31, 32, 33, 38, 39, 40] false [1]]), (22, [.autoB [0, 3, 89, 90, 91] false [1]]), (25, [.autoB [0, 3, 89, 90, 91, 96, 97, 98] false [1]])]
abbrev qrh := fun a b => EP Tryz.f90 2 qoD (qr1 a b)
theorem qEq (k a b) : ∀ j, (∀ {y0 y1 y2 y3 y4 y5}, qrh a b 5 (qGk a b y0 y1 y2 y3 y4 y5) (Z2 k a b j y0 y1 y2 y3 y4 y5)) ∧ (∀ {y0 y1 y2 y3 y4 y5 y6 y7 y8}, qrh a b 8 (qGH a b y0 y1 y2 y3 y4 y5 y6 y7 y8) (Qv k a b j y0 y1 y2 y3 y4 y5 y6 y7 y8)) ∧ (∀ {y0 y1 y2 y3 y4 y5}, qrh a b 22 (qE5 a b y0 y1 y2 y3 y4 y5) (ZR k a b j y0 y1 y2 y3 y4 y5)) ∧ (∀ {y0 y1 y2 y3 y4 y5 y6 y7 y8}, qrh a b 25 (qEa a b y0 y1 y2 y3 y4 y5 y6 y7 y8) (ZP k a b j y0 y1 y2 y3 y4 y5 y6 y7 y8))
 | 0 => by and_intros <;> intros <;> exact e0
 | j + 1 => by
  have ih := @qEq k a b j
  have g := @go (qHw k) [] qBP [.autoB [] true [1]]
  refine ⟨?_, ?_, ?_, ?_⟩
  ·intro y0 y1 y2 y3 y4 y5 r h
   rw [Z2] at h
   exact g (gS h (fun h => qS h fun h => gD h 8 ih.2.1) fun h => gD h 22 ih.2.2.1)
  ·intro y0 y1 y2 y3 y4 y5 y6 y7 y8 r h
   rw [Qv] at h
   exact g (gS h (fun h => qS h fun h => qu h id fun h => gN h (fun q => qf (⟨rfl, ⟨rfl, trivial⟩⟩ : qbd (0, .var 140 ((qy (qr T17 y6)) ++ [.own 1 1])) ∧ qbd (1, .row 54 T18 y7) ∧ True) (qf (qQa q) qR)) fun h => gS h (fun h => qu h wN fun h => gD h 8 ih.2.1) fun h => gN h (fun q => qf (⟨rfl, ⟨rfl, trivial⟩⟩ : qbd (0, .var 140 ((qy (qr T17 y6)) ++ [.own 1 1])) ∧ qbd (1, .row 54 T18 y7) ∧ True) (qf (qND q.1) (qf (qKC q.2) qR))) fun h => gS h (fun h => qu h qJE fun h => gS h (fun h => qu h wN fun h => gD h 8 ih.2.1) fun h => gD h 8 ih.2.1) fun h => gS h (fun h => qu h wN fun h => gD h 8 ih.2.1) fun h => gD h 8 ih.2.1) fun h => gD h 5 ih.1)
  ·intro y0 y1 y2 y3 y4 y5 r h
   rw [ZR] at h
   exact g (gS h (fun h => qS h fun h => gD h 25 ih.2.2.2) fun h => gL h)
  ·intro y0 y1 y2 y3 y4 y5 y6 y7 y8 r h
   rw [ZP] at h
   exact g (gS h (fun h => qS h fun h => qu h qcg fun h => gS h (fun h => qu h wN fun h => gD h 25 ih.2.2.2) fun h => gD h 25 ih.2.2.2) fun h => gD h 22 ih.2.2.1)
theorem qOX (k a b r) (h : qj2 k a b = some r): qIz a b r := qN Tryz.f90 (go (qHw k) [] qBP [.autoB [] true [1]] (qu h qLm fun h => gS h (fun h => qu h wN fun h => gL h) fun h => gD h 5 (qEq k a b k).1))
theorem qNl {k a b} (h : (qj2 k a b).isSome): qIz a b (qfJ k a b) := qJ h (qOX k a b)
abbrev YS : Type := T17.T × List T18.T
def qou (r : YS) : AV := .tup []
def qts (a : T17.T) (b : List T18.T) (r : YS) : List (Nat × Blk) := [(0, .var 140 ((qy (qr T17 r.1)) ++ [.own 1 1])), (1, .row 54 T18 r.2)]
abbrev qI5 (a : T17.T) (b : List T18.T) (r : YS) : Prop := CC Tryz.prog 48 [.ptr 0 0 0] [.var 140 (qy (qr T17 a) ++ [.own 1 0]), .row 54 T18 b] (qou r) (qts a b r)
def qFJ := fun (a : T17.T) (b : List T18.T) y0 y1 y2 y3 y4 y5 => (⟨qI 121 [(0, .ptr 0 0 0), (2, .own 1000000 0), (15, ro T9 y0), (16, ri y1), (17, ri y2)], [(0, 0, .var 140 ((qy (qr T17 y3)) ++ [.own 1 1])), (1, 1, .row 54 T18 y4), (1000000, 0, .row 3 I y5)]⟩ : St)
def qBQ := fun (a : T17.T) (b : List T18.T) y0 y1 y2 y3 y4 y5 y6 y7 => (⟨qI 121 [(0, .ptr 0 0 0), (2, .own 1000000 0), (4, .ptr 1000001 0 0), (5, ri y0), (15, ro T9 y1), (16, ri y2), (17, ri y3)], [(0, 0, .var 140 ((qy (qr T17 y4)) ++ [.own 1 1])), (1, 1, .row 54 T18 y5), (1000000, 0, .row 3 I y6), (1000001, 0, .var 74 (qy (qr T9 y7)))]⟩ : St)
def qEY := fun (a : T17.T) (b : List T18.T) y0 y1 y2 y3 y4 y5 y6 y7 => (⟨qI 121 [(0, .ptr 0 0 0), (2, .own 1000000 0), (4, .ptr 1000001 0 0), (5, ri y0), (15, ro T9 y1), (16, ri y2), (17, ri y3)], [(0, 0, .var 140 ((qy (qr T17 y4)) ++ [.own 1 1])), (1, 1, .row 54 T18 y5), (1000000, 0, .row 3 I y6), (1000001, 0, .var 74 (qy (qr T9 y7)))]⟩ : St)
def qCg := fun (a : T17.T) (b : List T18.T) y0 y1 y2 y3 y4 y5 y6 y7 y8 y9 y10 => (⟨qI 121 [(0, .ptr 0 0 0), (2, .own 1000000 0), (4, .ptr 1000001 0 0), (5, ri y0), (15, ro T9 y1), (16, ri y2), (17, ri y3), (66, ro I y4), (67, ri y5), (68, ri y6)], [(0, 0, .var 140 ((qy (qr T17 y7)) ++ [.own 1 1])), (1, 1, .row 54 T18 y8), (1000000, 0, .row 3 I y9), (1000001, 0, .var 74 (qy (qr T9 y10)))]⟩ : St)
def qCx := fun (a : T17.T) (b : List T18.T) y0 y1 y2 y3 y4 y5 y6 y7 y8 y9 y10 => (⟨qI 121 [(0, .ptr 0 0 0), (2, .own 1000000 0), (4, .ptr 1000001 0 0), (5, ri y0), (15, ro T9 y1), (16, ri y2), (17, ri y3), (89, ro I y4), (90, ri y5), (91, ri y6)], [(0, 0, .var 140 ((qy (qr T17 y7)) ++ [.own 1 1])), (1, 1, .row 54 T18 y8), (1000000, 0, .row 3 I y9), (1000001, 0, .var 74 (qy (qr T9 y10)))]⟩ : St)
def qzz := fun (a : T17.T) (b : List T18.T) y0 y1 y2 y3 y4 y5 y6 y7 y8 y9 y10 y11 y12 => (⟨qI 121 [(0, .ptr 0 0 0), (2, .own 1000000 0), (4, .ptr 1000001 0 0), (5, ri y0), (9, ri y1), (10, ri y2), (15, ro T9 y3), (16, ri y4), (17, ri y5), (89, ro I y6), (90, ri y7), (91, ri y8)], [(0, 0, .var 140 ((qy (qr T17 y9)) ++ [.own 1 1])), (1, 1, .row 54 T18 y10), (1000000, 0, .row 3 I y11), (1000001, 0, .var 74 (qy (qr T9 y12)))]⟩ : St)
mutual
def WZ (k : Nat) (a : T17.T) (b : List T18.T) : Nat → List T9.T → Int → Int → T17.T → List T18.T → List I.T → Option YS
 | 0, _, _, _, _, _, _ => none
 | j + 1, y0, y1, y2, y3, y4, y5 =>
 bif y2 < y1 then
 if (0 ≤ y2) ∧ (y2 < y0.length) then
 if ((VF k (y0.getD y2.toNat T9.dflt).1).isSome) then
 bif (Y4 k (y0.getD y2.toNat T9.dflt).1 != (0 : Int)) then
 if ((wR k y3 y4 5 (y0.getD y2.toNat T9.dflt).1.1 (Y4 k (y0.getD y2.toNat T9.dflt).1)).isSome) then
 Zj k a b j ((y0.getD y2.toNat T9.dflt).1.1) y0 y1 y2 ((q9 k y3 y4 5 (y0.getD y2.toNat T9.dflt).1.1 (Y4 k (y0.getD y2.toNat T9.dflt).1)).1) ((q9 k y3 y4 5 (y0.getD y2.toNat T9.dflt).1.1 (Y4 k (y0.getD y2.toNat T9.dflt).1)).2) y5 (y0.getD y2.toNat T9.dflt)
 else none
 else
 bif (↑ (qe (y0.getD y2.toNat T9.dflt).2.1) : Int) > qa .i64 ((y0.getD y2.toNat T9.dflt).1.2.2.2.2.2.2.1 + (y0.getD y2.toNat T9.dflt).1.2.2.2.2.2.2.2.1) then
 if ((wR k y3 y4 5 (y0.getD y2.toNat T9.dflt).1.1 32).isSome) then
 Ym k a b j ((y0.getD y2.toNat T9.dflt).1.1) y0 y1 y2 ((q9 k y3 y4 5 (y0.getD y2.toNat T9.dflt).1.1 32).1) ((q9 k y3 y4 5 (y0.getD y2.toNat T9.dflt).1.1 32).2) y5 (y0.getD y2.toNat T9.dflt)
 else none
 else
 Ym k a b j ((y0.getD y2.toNat T9.dflt).1.1) y0 y1 y2 y3 y4 y5 (y0.getD y2.toNat T9.dflt)
 else none
 else none
 else
 if ((qj2 k y3 y4).isSome) then
 some ((qfJ k y3 y4).1, (qfJ k y3 y4).2)
 else none
def Ym (k : Nat) (a : T17.T) (b : List T18.T) : Nat → Int → List T9.T → Int → Int → T17.T → List T18.T → List I.T → T9.T → Option YS
 | 0, _, _, _, _, _, _, _, _ => none
 | j + 1, y0, y1, y2, y3, y4, y5, y6, y7 =>
 bif (y7.2.2.2 && decide ((↑ (qe y7.2.2.1) : Int) < qa .i64 (y7.1.2.2.2.2.2.2.1 - y7.1.2.2.2.2.2.2.2.2.1))) then
 if ((wR k y4 y5 5 y0 29).isSome) then
 Zj k a b j y0 y1 y2 y3 ((q9 k y4 y5 5 y0 29).1) ((q9 k y4 y5 5 y0 29).2) y6 y7
 else none
 else
 Zj k a b j y0 y1 y2 y3 y4 y5 y6 y7
def Zj (k : Nat) (a : T17.T) (b : List T18.T) : Nat → Int → List T9.T → Int → Int → T17.T → List T18.T → List I.T → T9.T → Option YS
 | 0, _, _, _, _, _, _, _, _ => none
 | j + 1, y0, y1, y2, y3, y4, y5, y6, y7 =>
 WB k a b j y0 y1 y2 y3 y7.2.1 (↑ (qe y7.2.1) : Int) 0 y4 y5 y6 y7
def WB (k : Nat) (a : T17.T) (b : List T18.T) : Nat → Int → List T9.T → Int → Int → List I.T → Int → Int → T17.T → List T18.T → List I.T → T9.T → Option YS
 | 0, _, _, _, _, _, _, _, _, _, _, _ => none
 | j + 1, y0, y1, y2, y3, y4, y5, y6, y7, y8, y9, y10 =>
 bif y6 < y5 then
 if (0 ≤ y6) ∧ (y6 < y4.length) then
 bif (VL k y9 (y4.getD y6.toNat I.dflt)) then
 if ((VI k y9 (y4.getD y6.toNat I.dflt)).isSome) ∧ (VL k y9 (y4.getD y6.toNat I.dflt) = true) then
 if ((wR k y7 y8 5 y0 6).isSome) then
 WB k a b j y0 y1 y2 y3 y4 y5 (qa .i64 (y6 + 1)) ((q9 k y7 y8 5 y0 6).1) ((q9 k y7 y8 5 y0 6).2) y9 y10
 else none
 else none
 else
 if ((VI k y9 (y4.getD y6.toNat I.dflt)).isSome) ∧ (VL k y9 (y4.getD y6.toNat I.dflt) = false) ∧ ((0 : Int) ≤ (0 : Int)) ∧ (0 ≤ y6) ∧ (y6 ≤ (↑ (qe y10.2.1) : Int)) ∧ ((VI k (qdv (y6.toNat - qt 0) (qaJ (qt 0) y10.2.1)) (y4.getD y6.toNat I.dflt)).isSome) then
 bif (false || VL k (qdv (y6.toNat - qt (0 : Int)) (qaJ (qt (0 : Int)) y10.2.1)) (y4.getD y6.toNat I.dflt)) then
 if ((wR k y7 y8 5 y0 6).isSome) then
 WB k a b j y0 y1 y2 y3 y4 y5 (qa .i64 (y6 + 1)) ((q9 k y7 y8 5 y0 6).1) ((q9 k y7 y8 5 y0 6).2) y9 y10
 else none
 else
 WB k a b j y0 y1 y2 y3 y4 y5 (qa .i64 (y6 + 1)) y7 y8 y9 y10
 else none
 else none
 else
 WJ k a b j y0 y1 y2 y3 y10.2.2.1 (↑ (qe y10.2.2.1) : Int) 0 y7 y8 y9 y10
def WJ (k : Nat) (a : T17.T) (b : List T18.T) : Nat → Int → List T9.T → Int → Int → List I.T → Int → Int → T17.T → List T18.T → List I.T → T9.T → Option YS
 | 0, _, _, _, _, _, _, _, _, _, _, _ => none
 | j + 1, y0, y1, y2, y3, y4, y5, y6, y7, y8, y9, y10 =>
 bif y6 < y5 then
 if (0 ≤ y6) ∧ (y6 < y4.length) then
 if ((VI k y10.2.1 (y4.getD y6.toNat I.dflt)).isSome) then
 bif (!VL k y10.2.1 (y4.getD y6.toNat I.dflt)) then
 if ((wR k y7 y8 5 y0 7).isSome) then
 YG k a b j y0 y6 (y4.getD y6.toNat I.dflt) y1 y2 y3 y4 y5 y6 ((q9 k y7 y8 5 y0 7).1) ((q9 k y7 y8 5 y0 7).2) y9 y10
 else none
 else
 YG k a b j y0 y6 (y4.getD y6.toNat I.dflt) y1 y2 y3 y4 y5 y6 y7 y8 y9 y10
 else none
 else none
 else
 if ((y9.length + qe y10.2.1) * (8 : Nat) ≤ (140737488355328 : Nat)) then
 WZ k a b j y1 y2 (qa .i64 (y3 + 1)) y7 y8 (y9 ++ y10.2.1)
 else none
def YG (k : Nat) (a : T17.T) (b : List T18.T) : Nat → Int → Int → Int → List T9.T → Int → Int → List I.T → Int → Int → T17.T → List T18.T → List I.T → T9.T → Option YS
 | 0, _, _, _, _, _, _, _, _, _, _, _, _, _ => none
 | j + 1, y0, y1, y2, y3, y4, y5, y6, y7, y8, y9, y10, y11, y12 =>
 if ((0 : Int) ≤ (0 : Int)) ∧ (0 ≤ y1) ∧ (y1 ≤ (↑ (qe y12.2.2.1) : Int)) ∧ ((VI k (qdv (y1.toNat - qt 0) (qaJ (qt 0) y12.2.2.1)) y2).isSome) then
 bif (VL k (qdv (y1.toNat - qt (0 : Int)) (qaJ (qt (0 : Int)) y12.2.2.1)) y2) then
 if ((wR k y9 y10 5 y0 6).isSome) then
 WJ k a b j y0 y3 y4 y5 y6 y7 (qa .i64 (y8 + 1)) ((q9 k y9 y10 5 y0 6).1) ((q9 k y9 y10 5 y0 6).2) y11 y12
 else none
 else
 WJ k a b j y0 y3 y4 y5 y6 y7 (qa .i64 (y8 + 1)) y9 y10 y11 y12
 else none
end
def qf3 (k : Nat) (a : T17.T) (b : List T18.T) : Option YS :=
 WZ k a b k a.2.2.2.2.2.2.2.2.2.2.2.2.2.2.2.1 (↑ (qe a.2.2.2.2.2.2.2.2.2.2.2.2.2.2.2.1) : Int) 0 a b ([])
def qa8 := fun k a b => (qf3 k a b).getD ((T17).dflt, [])
def qmw (k : Nat) : Ke := (48, fun
 | [.ptr _ _ _] => some [true]
 | _ => none, fun
 | [.ptr 0 0 0], [.var 140 d, .row 54 tb_22_ qb_22] => (qW [] T17 (d.take 22)).bind fun a => (qE tb_22_ T18 qb_22).bind fun b => some (.one (qou (qa8 k a b), qts a b (qa8 k a b)))
 | _, _ => none)
def qJq (k : Nat) : Calld := qD [qar k, qAV k, qmB k, qRz k]
def qzF : List (Nat × List Cmd) := [(2, [.row 2 3 I, .autoB [0, 2, 15, 16, 17] false [1]]), (10, [.autoB [0, 2, 4, 5, 15, 16, 17] false [1]]), (12, [.autoB [0, 2, 4, 5, 15, 16, 17] false [1]]), (13, [.autoB [0, 2, 4, 5, 15, 16, 17, 66, 67, 68] false [1]]), (19, [.autoB [0, 2, 4, 5, 15, 16, 17, 89, 90, 91] false [1]]), (23, [.autoB [0, 2, 4, 5, 9, 10, 15, 16, 17, 89, 90, 91] false [1]])]
abbrev qiY := fun a b => EE Tryz.f48 2 qou (qts a b)
theorem qBR (k a b) : ∀ j, (∀ {y0 y1 y2 y3 y4 y5}, qiY a b (Qc Tryz.f48 2) (qFJ a b y0 y1 y2 y3 y4 y5) (WZ k a b j y0 y1 y2 y3 y4 y5)) ∧ (∀ {y0 y1 y2 y3 y4 y5 y6 y7}, qiY a b (Qc Tryz.f48 10) (qBQ a b y0 y1 y2 y3 y4 y5 y6 y7) (Ym k a b j y0 y1 y2 y3 y4 y5 y6 y7)) ∧ (∀ {y0 y1 y2 y3 y4 y5 y6 y7}, qiY a b (Qc Tryz.f48 12) (qEY a b y0 y1 y2 y3 y4 y5 y6 y7) (Zj k a b j y0 y1 y2 y3 y4 y5 y6 y7)) ∧ (∀ {y0 y1 y2 y3 y4 y5 y6 y7 y8 y9 y10}, qiY a b (Qc Tryz.f48 13) (qCg a b y0 y1 y2 y3 y4 y5 y6 y7 y8 y9 y10) (WB k a b j y0 y1 y2 y3 y4 y5 y6 y7 y8 y9 y10)) ∧ (∀ {y0 y1 y2 y3 y4 y5 y6 y7 y8 y9 y10}, qiY a b (Qc Tryz.f48 19) (qCx a b y0 y1 y2 y3 y4 y5 y6 y7 y8 y9 y10) (WJ k a b j y0 y1 y2 y3 y4 y5 y6 y7 y8 y9 y10)) ∧ (∀ {y0 y1 y2 y3 y4 y5 y6 y7 y8 y9 y10 y11 y12}, qiY a b (Qc Tryz.f48 23) (qzz a b y0 y1 y2 y3 y4 y5 y6 y7 y8 y9 y10 y11 y12) (YG k a b j y0 y1 y2 y3 y4 y5 y6 y7 y8 y9 y10 y11 y12))
 | 0 => by and_intros <;> intros <;> exact e0
 | j + 1 => by
  have ih := @qBR k a b j
  have g := @go (qJq k) [10, 12, 23] qzF [.autoB [] true [1]]
  refine ⟨?_, ?_, ?_, ?_, ?_, ?_⟩
  ·intro y0 y1 y2 y3 y4 y5 r h
   rw [WZ] at h
   exact g (gS h (fun h => qS h fun h => qu h qAO fun h => gS h (fun h => qu h wN fun h => gD h 12 ih.2.2.1) fun h => gS h (fun h => qu h wN fun h => gD h 10 ih.2.1) fun h => gD h 10 ih.2.1) fun h => qu h qNl fun h => gL h)
  ·intro y0 y1 y2 y3 y4 y5 y6 y7 r h
   rw [Ym] at h
   exact g (gS h (fun h => qu h wN fun h => gD h 12 ih.2.2.1) fun h => gD h 12 ih.2.2.1)
  ·intro y0 y1 y2 y3 y4 y5 y6 y7 r h
   rw [Zj] at h
   exact g (gD h 13 ih.2.2.2.1)
  ·intro y0 y1 y2 y3 y4 y5 y6 y7 y8 y9 y10 r h
   rw [WB] at h
   exact g (gS h (fun h => qS h fun h => gS h (fun h => gN h (fun q => qf (qcg q.1) (qf q.2 qR)) fun h => gU1 h (.cut 13 (Qc Tryz.f48 13) ⟨qI 121 [(0, .ptr 0 0 0), (2, .own 1000000 0), (4, .ptr 1000001 0 0), (5, .r (.v (.int .i64 y0))), (15, .r (.ro T9 y1)), (16, .r (.v (.int .i64 y2))), (17, .r (.v (.int .i64 y3))), (66, .r (.ro I y4)), (67, .r (.v (.int .i64 y5))), (68, .r (.v (.int .i64 (qa .i64 (y6 + 1)))))], [(0, 0, .var 140 ((qy (qr T17 y7)) ++ [.own 1 1])), (1, 1, .row 54 T18 y8), (1000000, 0, .row 3 I y9), (1000001, 0, .var 74 (qy (qr T9 y10)))]⟩) fun h => qu h wN fun h => gD h 13 ih.2.2.2.1) fun h => gN h (fun q => qf (qcg q.1) (qf q.2.1 (qf q.2.2.1 (qf q.2.2.2.1 (qf q.2.2.2.2.1 (qf (qcg q.2.2.2.2.2) qR)))))) fun h => gS h (fun h => qu h wN fun h => gD h 13 ih.2.2.2.1) fun h => gD h 13 ih.2.2.2.1) fun h => gD h 19 ih.2.2.2.2.1)
  ·intro y0 y1 y2 y3 y4 y5 y6 y7 y8 y9 y10 r h
   rw [WJ] at h
   exact g (gS h (fun h => qS h fun h => qu h qcg fun h => gS h (fun h => qu h wN fun h => gD h 23 ih.2.2.2.2.2) fun h => gD h 23 ih.2.2.2.2.2) fun h => qu h id fun h => gD h 2 ih.1)
  ·intro y0 y1 y2 y3 y4 y5 y6 y7 y8 y9 y10 y11 y12 r h
   rw [YG] at h
   exact g (gN h (fun q => qf q.1 (qf q.2.1 (qf q.2.2.1 (qf (qcg q.2.2.2) qR)))) fun h => gS h (fun h => qu h wN fun h => gD h 19 ih.2.2.2.2.1) fun h => gD h 19 ih.2.2.2.2.1)
theorem qRd (k a b r) (h : qf3 k a b = some r): qI5 a b r := qN Tryz.f48 (go (qJq k) [10, 12, 23] qzF [.autoB [] true [1]] (gD h 2 (qBR k a b k).1))
theorem qDb {k a b} (h : (qf3 k a b).isSome): qI5 a b (qa8 k a b) := qJ h (qRd k a b)
abbrev qng : Type := T17.T × List T18.T
def qos (r : qng) : AV := .tup []
def qtq (a : T17.T) (b : List T18.T) (r : qng) : List (Nat × Blk) := [(0, .var 140 ((qy (qr T17 r.1)) ++ [.own 1 1])), (1, .row 54 T18 r.2)]
abbrev qJe (a : T17.T) (b : List T18.T) (r : qng) : Prop := CC Tryz.prog 57 [.ptr 0 0 0] [.var 140 (qy (qr T17 a) ++ [.own 1 0]), .row 54 T18 b] (qos r) (qtq a b r)
def qFV := fun (a : T17.T) (b : List T18.T) y0 y1 y2 y3 y4 => (⟨qI 74 [(0, .ptr 0 0 0), (37, ro T12 y0), (38, ri y1), (39, ri y2)], [(0, 0, .var 140 ((qy (qr T17 y3)) ++ [.own 1 1])), (1, 1, .row 54 T18 y4)]⟩ : St)
def qpb (k : Nat) (a : T17.T) (b : List T18.T) : Nat → List T12.T → Int → Int → T17.T → List T18.T → Option qng
 | 0, _, _, _, _, _ => none
 | j + 1, y0, y1, y2, y3, y4 =>
 bif y2 < y1 then
 if (0 ≤ y2) ∧ (y2 < y0.length) then
 none
 else none
 else
 some (y3, y4)
def qq8 (k : Nat) (a : T17.T) (b : List T18.T) : Option qng :=
 bif ((↑ (qe a.2.2.2.2.2.2.2.2.2.2.2.2.2.2.2.2.2.2.1) : Int) != (↑ (qe a.2.2.2.2.2.2.2.2.2.2.2.2.2.2.2.2.2.2.2.1) : Int)) then
 if ((wR k a b 8 (↑ (qe a.2.2.2.2.2.2.2.2.2.2.2.2.2.2.2.2.2.2.1) : Int) (↑ (qe a.2.2.2.2.2.2.2.2.2.2.2.2.2.2.2.2.2.2.2.1) : Int)).isSome) then
 some ((q9 k a b 8 (↑ (qe a.2.2.2.2.2.2.2.2.2.2.2.2.2.2.2.2.2.2.1) : Int) (↑ (qe a.2.2.2.2.2.2.2.2.2.2.2.2.2.2.2.2.2.2.2.1) : Int)).1, (q9 k a b 8 (↑ (qe a.2.2.2.2.2.2.2.2.2.2.2.2.2.2.2.2.2.2.1) : Int) (↑ (qe a.2.2.2.2.2.2.2.2.2.2.2.2.2.2.2.2.2.2.2.1) : Int)).2)
 else none
 else
 qpb k a b k a.2.2.2.2.2.2.2.2.2.2.2.2.2.2.2.2.2.2.1 (↑ (qe a.2.2.2.2.2.2.2.2.2.2.2.2.2.2.2.2.2.2.1) : Int) 0 a b
def qmk := fun k a b => (qq8 k a b).getD ((T17).dflt, [])
def qA1 (k : Nat) : Ke := (57, fun
 | [.ptr _ _ _] => some [true]
 | _ => none, fun
 | [.ptr 0 0 0], [.var 140 d, .row 54 tb_22_ qb_22] => (qW [] T17 (d.take 22)).bind fun a => (qE tb_22_ T18 qb_22).bind fun b => some (.one (qos (qmk k a b), qtq a b (qmk k a b)))
 | _, _ => none)
def qAB : List (Nat × List Cmd) := [(3, [.autoB [0, 37, 38, 39] false [1]])]
abbrev qSb := fun a b => EP Tryz.f57 2 qos (qtq a b)
theorem qAu (k a b) : ∀ j, (∀ y0 y1 y2 y3 y4, qSb a b 3 (qFV a b y0 y1 y2 y3 y4) (qpb k a b j y0 y1 y2 y3 y4))
 | 0 => by intros; exact e0
 | j + 1 => by
  have ih := @qAu k a b j
  ·intro y0 y1 y2 y3 y4 r h
   rw [qpb] at h
   exact go (qD [qar k]) [] qAB [.autoB [] true [1]] (gS h (fun h => qS h fun h => gZ h (.stuck 2002)) fun h => gL h)
theorem qPT (k a b r) (h : qq8 k a b = some r): qJe a b r := qN Tryz.f57 (go (qD [qar k]) [] qAB [.autoB [] true [1]] (gS h (fun h => qu h wN fun h => gL h) fun h => gC h 3 ((qAu k a b k) _ _ _ _ _ _)))
theorem qQR {k a b} (h : (qq8 k a b).isSome): qJe a b (qmk k a b) := qJ h (qPT k a b)
abbrev qIQ (a : List T14.T) (b : Int) (r : Int) : Prop := CC Tryz.prog 105 [ro T14 a, ri b] [] (ri r) (nb r)
def qFQ := fun y0 y1 y2 y3 => (⟨qI 72 [(0, ro T14 y0), (1, ri y1), (20, ri y2), (21, ri y3)], []⟩ : St)
def qBJ := fun y0 y1 y2 y3 y4 => (⟨qI 72 [(0, ro T14 y0), (1, ri y1), (7, ri y2), (34, ri y3), (35, ri y4)], []⟩ : St)
mutual
def qoA (k : Nat) : Nat → List T14.T → Int → Int → Int → Option Int
 | 0, _, _, _, _ => none
 | j + 1, y0, y1, y2, y3 =>
 bif y3 < y2 then
 none
 else
 qk0 k j y0 y1 0 (↑y0.length : Int) 0
def qk0 (k : Nat) : Nat → List T14.T → Int → Int → Int → Int → Option Int
 | 0, _, _, _, _, _ => none
 | j + 1, y0, y1, y2, y3, y4 =>
 bif y4 < y3 then
 if (0 ≤ y4) ∧ (y4 < y0.length) then
 if (decide (y4 > 0) = true → (0 : Int) ≤ qa .i64 (y4 - 1)) ∧ (decide (y4 > 0) = true → qa .i64 (y4 - 1) < (↑y0.length : Int)) then
 bif (decide (y4 > 0) && decide ((y0.getD y4.toNat T14.dflt).1 < (y0.getD (qa .i64 (y4 - 1)).toNat T14.dflt).1)) then
 some 9
 else
 bif ((y0.getD y4.toNat T14.dflt).2.1 == (6 : Int) && decide ((y0.getD y4.toNat T14.dflt).2.2.1 > y2)) then
 some 19
 else
 none
 else none
 else none
 else
 some 0
end
def qq9 (k : Nat) (a : List T14.T) (b : Int) : Option Int :=
 bif (decide (b < 0) || decide (b > 1099511627776)) then
 some 1
 else
 bif (↑a.length : Int) > (512 : Int) then
 some 8
 else
 qoA k k a b (↑a.length : Int) 0
def qcP := fun k a b => (qq9 k a b).getD 0
def qD3 (k : Nat) : Ke := (105, mo 2, fun
 | [.r (.ro e d), .r (.v (.int .i64 b))], [] => (qE e T14 d).bind fun a => some (.one (ri (qcP k a b), []))
 | _, _ => none)
def qzK : List (Nat × List Cmd) := [(6, [.autoB [0, 1, 20, 21] false []]), (14, [.autoB [0, 1, 7, 34, 35] false []])]
abbrev qII := EP Tryz.f105 0 ri nb
theorem qAj (k) : ∀ j, (∀ {y0 y1 y2 y3}, qII 6 (qFQ y0 y1 y2 y3) (qoA k j y0 y1 y2 y3)) ∧ (∀ {y0 y1 y2 y3 y4}, qII 14 (qBJ y0 y1 y2 y3 y4) (qk0 k j y0 y1 y2 y3 y4))
 | 0 => by and_intros <;> intros <;> exact e0
 | j + 1 => by
  have ih := @qAj k j
  have g := @go (qD []) [] qzK [.autoB [4] true []]
  refine ⟨?_, ?_⟩
  ·intro y0 y1 y2 y3 r h
   rw [qoA] at h
   exact g (gS h (fun h => gZ h (.stuck 2004)) fun h => gD h 14 ih.2)
  ·intro y0 y1 y2 y3 y4 r h
   rw [qk0] at h
   exact g (gS h (fun h => qS h fun h => qS h fun h => qB h fun h => qB h fun h => gZ h (.stuck 2002)) fun h => gL h)
theorem qOr (k a b r) (h : qq9 k a b = some r): qIQ a b r := qN Tryz.f105 (go (qD []) [] qzK [.autoB [4] true []] (qB h fun h => qB h fun h => gD h 6 (qAj k k).1))
theorem qPa {k a b} (h : (qq9 k a b).isSome): qIQ a b (qcP k a b) := qJ h (qOr k a b)
abbrev qdc : Type := T17.T × List T18.T
def qnP (r : qdc) : AV := .tup []
def qth (a : T17.T) (b : List T18.T) (r : qdc) : List (Nat × Blk) := [(0, .var 140 ((qy (qr T17 r.1)) ++ [.own 1 1])), (1, .row 54 T18 r.2)]
abbrev qIG (a : T17.T) (b : List T18.T) (r : qdc) : Prop := CC Tryz.prog 60 [.ptr 0 0 0] [.var 140 (qy (qr T17 a) ++ [.own 1 0]), .row 54 T18 b] (qnP r) (qth a b r)
def qGF := fun (a : T17.T) (b : List T18.T) y0 y1 y2 y3 y4 y5 y6 => (⟨qI 120 [(0, .ptr 0 0 0), (3, ri y0), (4, .own 1000000 0), (32, ro T16 y1), (33, ri y2), (34, ri y3)], [(0, 0, .var 140 ((qy (qr T17 y4)) ++ [.own 1 1])), (1, 1, .row 54 T18 y5), (1000000, 0, .map false I RTy.bool y6)]⟩ : St)
def qzX := fun (a : T17.T) (b : List T18.T) y0 y1 y2 y3 y4 y5 => (⟨qI 120 [(0, .ptr 0 0 0), (3, ri y0), (78, ro T11 y1), (79, ri y2), (80, ri y3)], [(0, 0, .var 140 ((qy (qr T17 y4)) ++ [.own 1 1])), (1, 1, .row 54 T18 y5)]⟩ : St)
def qB4 := fun (a : T17.T) (b : List T18.T) y0 y1 y2 y3 y4 y5 y6 y7 y8 => (⟨qI 120 [(0, .ptr 0 0 0), (3, ri y0), (78, ro T11 y1), (79, ri y2), (80, ri y3), (85, ro I y4), (86, ri y5), (87, ri y6)], [(0, 0, .var 140 ((qy (qr T17 y7)) ++ [.own 1 1])), (1, 1, .row 54 T18 y8)]⟩ : St)
def qz6 := fun (a : T17.T) (b : List T18.T) y0 y1 y2 y3 y4 y5 => (⟨qI 120 [(0, .ptr 0 0 0), (3, ri y0), (102, ro T13 y1), (103, ri y2), (104, ri y3)], [(0, 0, .var 140 ((qy (qr T17 y4)) ++ [.own 1 1])), (1, 1, .row 54 T18 y5)]⟩ : St)
mutual
def qjh (k : Nat) (a : T17.T) (b : List T18.T) : Nat → Int → List T16.T → Int → Int → T17.T → List T18.T → (List (I.T × (RTy.bool).T)) → Option qdc
 | 0, _, _, _, _, _, _, _ => none
 | j + 1, y0, y1, y2, y3, y4, y5, y6 =>
 bif y3 < y2 then
 if (0 ≤ y3) ∧ (y3 < y1.length) then
 none
 else none
 else
 qfL k a b j y0 y4.2.2.2.2.2.2.2.2.2.2.2.2.2.2.2.2.2.1 (↑ (qe y4.2.2.2.2.2.2.2.2.2.2.2.2.2.2.2.2.2.1) : Int) 0 y4 y5
def qfL (k : Nat) (a : T17.T) (b : List T18.T) : Nat → Int → List T11.T → Int → Int → T17.T → List T18.T → Option qdc
 | 0, _, _, _, _, _, _ => none
 | j + 1, y0, y1, y2, y3, y4, y5 =>
 bif y3 < y2 then
 if (0 ≤ y3) ∧ (y3 < y1.length) then
 qlr k a b j y0 y1 y2 y3 ((y1.getD y3.toNat T11.dflt).2.2) (↑ (qe (y1.getD y3.toNat T11.dflt).2.2) : Int) 0 y4 y5
 else none
 else
 qgq k a b j y0 y4.2.2.2.2.2.2.2.2.2.2.2.2.2.2.2.2.2.2.2.1 (↑ (qe y4.2.2.2.2.2.2.2.2.2.2.2.2.2.2.2.2.2.2.2.1) : Int) 0 y4 y5
def qlr (k : Nat) (a : T17.T) (b : List T18.T) : Nat → Int → List T11.T → Int → Int → List I.T → Int → Int → T17.T → List T18.T → Option qdc
 | 0, _, _, _, _, _, _, _, _, _ => none
 | j + 1, y0, y1, y2, y3, y4, y5, y6, y7, y8 =>
 bif y6 < y5 then
 if (0 ≤ y6) ∧ (y6 < y4.length) then
 none
 else none
 else
 qfL k a b j y0 y1 y2 (qa .i64 (y3 + 1)) y7 y8
def qgq (k : Nat) (a : T17.T) (b : List T18.T) : Nat → Int → List T13.T → Int → Int → T17.T → List T18.T → Option qdc
 | 0, _, _, _, _, _, _ => none
 | j + 1, y0, y1, y2, y3, y4, y5 =>
 bif y3 < y2 then
 if (0 ≤ y3) ∧ (y3 < y1.length) then
 qgq k a b j (qa .i64 (y0 + if (if 1000000000000 < (y1.getD y3.toNat T13.dflt).2.2.2 then 1000000000000 else (y1.getD y3.toNat T13.dflt).2.2.2) > 0 then if 1000000000000 < (y1.getD y3.toNat T13.dflt).2.2.2 then 1000000000000 else (y1.getD y3.toNat T13.dflt).2.2.2 else 0)) y1 y2 (qa .i64 (y3 + 1)) y4 y5
 else none
 else
 bif (y0 != 0) then
 if ((wR k y4 y5 11 0 y0).isSome) then
 some ((q9 k y4 y5 11 0 y0).1, (q9 k y4 y5 11 0 y0).2)
 else none
 else
 some (y4, y5)
end
def qrm (k : Nat) (a : T17.T) (b : List T18.T) : Option qdc :=
 if ((qq9 k a.2.2.2.2.2.2.2.2.2.2.2.2.2.2.2.2.2.2.2.2.1 1099511627776).isSome) then
 bif (qcP k a.2.2.2.2.2.2.2.2.2.2.2.2.2.2.2.2.2.2.2.2.1 (1099511627776 : Int) != (0 : Int)) then
 if ((wR k a b 10 (qcP k a.2.2.2.2.2.2.2.2.2.2.2.2.2.2.2.2.2.2.2.2.1 1099511627776) 0).isSome) then
 qjh k a b k 0 ((q9 k a b 10 (qcP k a.2.2.2.2.2.2.2.2.2.2.2.2.2.2.2.2.2.2.2.2.1 1099511627776) 0).1.2.2.2.2.2.2.2.2.2.2.2.2.2.2.2.2.2.2.2.2.2) (↑ (qe (q9 k a b 10 (qcP k a.2.2.2.2.2.2.2.2.2.2.2.2.2.2.2.2.2.2.2.2.1 1099511627776) 0).1.2.2.2.2.2.2.2.2.2.2.2.2.2.2.2.2.2.2.2.2.2) : Int) 0 ((q9 k a b 10 (qcP k a.2.2.2.2.2.2.2.2.2.2.2.2.2.2.2.2.2.2.2.2.1 1099511627776) 0).1) ((q9 k a b 10 (qcP k a.2.2.2.2.2.2.2.2.2.2.2.2.2.2.2.2.2.2.2.2.1 1099511627776) 0).2) ([])
 else none
 else
 qjh k a b k 0 a.2.2.2.2.2.2.2.2.2.2.2.2.2.2.2.2.2.2.2.2.2 (↑ (qe a.2.2.2.2.2.2.2.2.2.2.2.2.2.2.2.2.2.2.2.2.2) : Int) 0 a b ([])
 else none
def qmX := fun k a b => (qrm k a b).getD ((T17).dflt, [])
def qBw (k : Nat) : Ke := (60, fun
 | [.ptr _ _ _] => some [true]
 | _ => none, fun
 | [.ptr 0 0 0], [.var 140 d, .row 54 tb_22_ qb_22] => (qW [] T17 (d.take 22)).bind fun a => (qE tb_22_ T18 qb_22).bind fun b => some (.one (qnP (qmX k a b), qth a b (qmX k a b)))
 | _, _ => none)
def qAN : List (Nat × List Cmd) := [(6, [.autoB [0, 3, 4, 32, 33, 34] false [1]]), (14, [.autoB [0, 3, 4, 6, 32, 33, 34, 56, 57, 58] false [1]]), (22, [.autoB [0, 3, 78, 79, 80] false [1]]), (25, [.autoB [0, 3, 78, 79, 80, 85, 86, 87] false [1]]), (31, [.autoB [0, 3, 102, 103, 104] false [1]])]
abbrev qre := fun a b => EP Tryz.f60 2 qnP (qth a b)
theorem qrK (k a b) : ∀ j, (∀ {y0 y1 y2 y3 y4 y5 y6}, qre a b 6 (qGF a b y0 y1 y2 y3 y4 y5 y6) (qjh k a b j y0 y1 y2 y3 y4 y5 y6)) ∧ (∀ {y0 y1 y2 y3 y4 y5}, qre a b 22 (qzX a b y0 y1 y2 y3 y4 y5) (qfL k a b j y0 y1 y2 y3 y4 y5)) ∧ (∀ {y0 y1 y2 y3 y4 y5 y6 y7 y8}, qre a b 25 (qB4 a b y0 y1 y2 y3 y4 y5 y6 y7 y8) (qlr k a b j y0 y1 y2 y3 y4 y5 y6 y7 y8)) ∧ (∀ {y0 y1 y2 y3 y4 y5}, qre a b 31 (qz6 a b y0 y1 y2 y3 y4 y5) (qgq k a b j y0 y1 y2 y3 y4 y5))
 | 0 => by and_intros <;> intros <;> exact e0
 | j + 1 => by
  have ih := @qrK k a b j
  have g := @go (qD [qar k, qD3 k]) [] qAN [.autoB [] true [1]]
  refine ⟨?_, ?_, ?_, ?_⟩
  ·intro y0 y1 y2 y3 y4 y5 y6 r h
   rw [qjh] at h
   exact g (gS h (fun h => qS h fun h => gZ h (.stuck 2001)) fun h => gD h 22 ih.2.1)
  ·intro y0 y1 y2 y3 y4 y5 r h
   rw [qfL] at h
   exact g (gS h (fun h => qS h fun h => gD h 25 ih.2.2.1) fun h => gD h 31 ih.2.2.2)
  ·intro y0 y1 y2 y3 y4 y5 y6 y7 y8 r h
   rw [qlr] at h
   exact g (gS h (fun h => qS h fun h => gZ h (.stuck 2003)) fun h => gD h 22 ih.2.1)
  ·intro y0 y1 y2 y3 y4 y5 r h
   rw [qgq] at h
   exact g (gS h (fun h => qS h fun h => gD h 31 ih.2.2.2) fun h => gS h (fun h => qu h wN fun h => gL h) fun h => gL h)
theorem qRp (k a b r) (h : qrm k a b = some r): qIG a b r := qN Tryz.f60 (go (qD [qar k, qD3 k]) [] qAN [.autoB [] true [1]] (qu h qPa fun h => gS h (fun h => qu h wN fun h => gD h 6 (qrK k a b k).1) fun h => gD h 6 (qrK k a b k).1))
theorem qQN {k a b} (h : (qrm k a b).isSome): qIG a b (qmX k a b) := qJ h (qRp k a b)
def qDK (r : T17.T) : AV := .sub 2 0 1 0 5
def qHx (a : T17.T) (b : List T18.T) (r : T17.T) : List (Nat × Blk) := [(0, .var 140 ((qy (qr T17 r)) ++ [.own 1 0])), (0, .row 54 T18 b), (0, .var 1 [.fn (Fn.func 37) [.ptr 0 0 0] [], .fn (Fn.func 35) [.ptr 0 0 0] [], .fn (Fn.func 48) [.ptr 0 0 0] [], .fn (Fn.func 57) [.ptr 0 0 0] [], .fn (Fn.func 60) [.ptr 0 0 0] []])]
abbrev qQW (a : T17.T) (b : List T18.T) (r : T17.T) : Prop := CC Tryz.prog 66 [.ptr 0 0 0] [.var 140 (qy (qr T17 a) ++ [.own 1 0]), .row 54 T18 b] (qDK r) (qHx a b r)
def qzh (k : Nat) (a : T17.T) (b : List T18.T) : Option T17.T :=
 some a
def qxO := fun k a b => (qzh k a b).getD (T17).dflt
def qI7 (k : Nat) : Ke := (66, fun
 | [.ptr _ _ _] => some [true]
 | _ => none, fun
 | [.ptr 0 0 0], [.var 140 d, .row 54 tx_22_ qx_22] => (qW [] T17 (d.take 22)).bind fun a => (qE tx_22_ T18 qx_22).bind fun b => some (.one (qDK (qxO k a b), qHx a b (qxO k a b)))
 | _, _ => none)
theorem qR2 (k a b r) (h : qzh k a b = some r): qQW a b r := qN Tryz.f66 (go (qD [qmI k, ql2 k, qmw k, qA1 k, qBw k]) [] [] [.autoB [2] true []] (gL h))
theorem qRV {k a b} (h : (qzh k a b).isSome): qQW a b (qxO k a b) := qJ h (qR2 k a b)
abbrev qa6 : Type := List T18.T × Int
def qok (r : qa6) : AV := .tup [ro T18 r.1, ri r.2]
abbrev qHt (a : T17.T) (r : qa6) : Prop := CC Tryz.prog 33 [.agg (qy (qr T17 a)), .r (.v (.func (.func 66) #[] #[]))] [] (qok r) (nb r)
def qrU := fun y0 y1 => (⟨qI 29 [(6, .ptr 1000000 0 0), (16, .sub 1000002 0 1 0 5), (17, ri 5), (18, ri 0)], [(1000000, 0, .var 140 ((qy (qr T17 y0)) ++ [.own 1000001 0])), (1000001, 0, .row 54 T18 y1), (1000002, 0, .var 1 [.fn (Fn.func 37) [.ptr 1000000 0 0] [], .fn (Fn.func 35) [.ptr 1000000 0 0] [], .fn (Fn.func 48) [.ptr 1000000 0 0] [], .fn (Fn.func 57) [.ptr 1000000 0 0] [], .fn (Fn.func 60) [.ptr 1000000 0 0] []])]⟩ : St)
def qsj := fun y0 y1 => (⟨qI 29 [(6, .ptr 1000000 0 0), (16, .sub 1000002 0 1 0 5), (17, ri 5), (18, ri 1)], [(1000000, 0, .var 140 ((qy (qr T17 y0)) ++ [.own 1000001 0])), (1000001, 0, .row 54 T18 y1), (1000002, 0, .var 1 [.fn (Fn.func 37) [.ptr 1000000 0 0] [], .fn (Fn.func 35) [.ptr 1000000 0 0] [], .fn (Fn.func 48) [.ptr 1000000 0 0] [], .fn (Fn.func 57) [.ptr 1000000 0 0] [], .fn (Fn.func 60) [.ptr 1000000 0 0] []])]⟩ : St)
def qrB := fun y0 y1 => (⟨qI 29 [(6, .ptr 1000000 0 0), (16, .sub 1000002 0 1 0 5), (17, ri 5), (18, ri 2)], [(1000000, 0, .var 140 ((qy (qr T17 y0)) ++ [.own 1000001 0])), (1000001, 0, .row 54 T18 y1), (1000002, 0, .var 1 [.fn (Fn.func 37) [.ptr 1000000 0 0] [], .fn (Fn.func 35) [.ptr 1000000 0 0] [], .fn (Fn.func 48) [.ptr 1000000 0 0] [], .fn (Fn.func 57) [.ptr 1000000 0 0] [], .fn (Fn.func 60) [.ptr 1000000 0 0] []])]⟩ : St)
def qr8 := fun y0 y1 => (⟨qI 29 [(6, .ptr 1000000 0 0), (16, .sub 1000002 0 1 0 5), (17, ri 5), (18, ri 3)], [(1000000, 0, .var 140 ((qy (qr T17 y0)) ++ [.own 1000001 0])), (1000001, 0, .row 54 T18 y1), (1000002, 0, .var 1 [.fn (Fn.func 37) [.ptr 1000000 0 0] [], .fn (Fn.func 35) [.ptr 1000000 0 0] [], .fn (Fn.func 48) [.ptr 1000000 0 0] [], .fn (Fn.func 57) [.ptr 1000000 0 0] [], .fn (Fn.func 60) [.ptr 1000000 0 0] []])]⟩ : St)
def qus := fun y0 y1 => (⟨qI 29 [(6, .ptr 1000000 0 0), (16, .sub 1000002 0 1 0 5), (17, ri 5), (18, ri 4)], [(1000000, 0, .var 140 ((qy (qr T17 y0)) ++ [.own 1000001 0])), (1000001, 0, .row 54 T18 y1), (1000002, 0, .var 1 [.fn (Fn.func 37) [.ptr 1000000 0 0] [], .fn (Fn.func 35) [.ptr 1000000 0 0] [], .fn (Fn.func 48) [.ptr 1000000 0 0] [], .fn (Fn.func 57) [.ptr 1000000 0 0] [], .fn (Fn.func 60) [.ptr 1000000 0 0] []])]⟩ : St)
def qt5 := fun y0 y1 => (⟨qI 29 [(6, .ptr 1000000 0 0), (16, .sub 1000002 0 1 0 5), (17, ri 5), (18, ri 5)], [(1000000, 0, .var 140 ((qy (qr T17 y0)) ++ [.own 1000001 0])), (1000001, 0, .row 54 T18 y1), (1000002, 0, .var 1 [.fn (Fn.func 37) [.ptr 1000000 0 0] [], .fn (Fn.func 35) [.ptr 1000000 0 0] [], .fn (Fn.func 48) [.ptr 1000000 0 0] [], .fn (Fn.func 57) [.ptr 1000000 0 0] [], .fn (Fn.func 60) [.ptr 1000000 0 0] []])]⟩ : St)
mutual
def qdW (k : Nat) : Nat → T17.T → List T18.T → Option qa6
 | 0, _, _ => none
 | j + 1, y0, y1 =>
 if ((0 : Int) ≤ (0 : Int)) ∧ ((0 : Int) < (↑ (5 : Nat) : Int)) then
 if ((qlS k y0 y1).isSome) then
 qdY k j ((qgm k y0 y1).1) ((qgm k y0 y1).2)
 else none
 else none
def qdY (k : Nat) : Nat → T17.T → List T18.T → Option qa6
 | 0, _, _ => none
 | j + 1, y0, y1 =>
 if ((0 : Int) ≤ (1 : Int)) ∧ ((1 : Int) < (↑ (5 : Nat) : Int)) then
 if ((qnl k y0 y1).isSome) then
 qdA k j ((qfs k y0 y1).1) ((qfs k y0 y1).2)
 else none
 else none
def qdA (k : Nat) : Nat → T17.T → List T18.T → Option qa6
 | 0, _, _ => none
 | j + 1, y0, y1 =>
 if ((0 : Int) ≤ (2 : Int)) ∧ ((2 : Int) < (↑ (5 : Nat) : Int)) then
 if ((qf3 k y0 y1).isSome) then
 qdQ k j ((qa8 k y0 y1).1) ((qa8 k y0 y1).2)
 else none
 else none
def qdQ (k : Nat) : Nat → T17.T → List T18.T → Option qa6
 | 0, _, _ => none
 | j + 1, y0, y1 =>
 if ((0 : Int) ≤ (3 : Int)) ∧ ((3 : Int) < (↑ (5 : Nat) : Int)) then
 if ((qq8 k y0 y1).isSome) then
 qdJ k j ((qmk k y0 y1).1) ((qmk k y0 y1).2)
 else none
 else none
def qdJ (k : Nat) : Nat → T17.T → List T18.T → Option qa6
 | 0, _, _ => none
 | j + 1, y0, y1 =>
 if ((0 : Int) ≤ (4 : Int)) ∧ ((4 : Int) < (↑ (5 : Nat) : Int)) then
 if ((qrm k y0 y1).isSome) then
 qdB k j ((qmX k y0 y1).1) ((qmX k y0 y1).2)
 else none
 else none
def qdB (k : Nat) : Nat → T17.T → List T18.T → Option qa6
 | 0, _, _ => none
 | j + 1, y0, y1 =>
 some (y1, 0)
end
def qq0 (k : Nat) (a : T17.T) : Option qa6 :=
 if ((qaY k a).isSome) then
 bif (qcW k a) then
 some ([], 8)
 else
 if ((qzh k a []).isSome) then
 qdW k k (qxO k a []) ([])
 else none
 else none
def qrj := fun k a => (qq0 k a).getD ([], 0)
def qRa (k : Nat) : Ke := (33, fun
 | [_, .r (.v (.func (.func 66) _ _))] => some [false, false]
 | _ => none, fun
 | [.agg b, .r (.v (.func (.func 66) _ _))], [] => (qW [] T17 b).bind fun a => some (.one (qok (qrj k a), []))
 | _, _ => none)
def qHN (k : Nat) : Calld := qD [qmL k, qmI k, ql2 k, qmw k, qA1 k, qBw k, qI7 k]
def qDm : List (Nat × List Cmd) := [(5, [.key 18, .autoB [6, 16, 17, 18] false []])]
abbrev qjI := EP Tryz.f33 0 qok nb
theorem qA7 (k) : ∀ j, (∀ {y0 y1}, qjI 5 (qrU y0 y1) (qdW k j y0 y1)) ∧ (∀ {y0 y1}, qjI 5 (qsj y0 y1) (qdY k j y0 y1)) ∧ (∀ {y0 y1}, qjI 5 (qrB y0 y1) (qdA k j y0 y1)) ∧ (∀ {y0 y1}, qjI 5 (qr8 y0 y1) (qdQ k j y0 y1)) ∧ (∀ {y0 y1}, qjI 5 (qus y0 y1) (qdJ k j y0 y1)) ∧ (∀ {y0 y1}, qjI 5 (qt5 y0 y1) (qdB k j y0 y1))
 | 0 => by and_intros <;> intros <;> exact e0
 | j + 1 => by
  have ih := @qA7 k j
  have g := @go (qHN k) [] qDm [.frz 4 false (RTy.list T18), .autoB [4, 5] true []]
  refine ⟨?_, ?_, ?_, ?_, ?_, ?_⟩
  ·intro y0 y1 r h
   rw [qdW] at h
   exact g (gU1 h (.leaf (.tup [.r (.ro T18 y1), .r (.v (.int .i64 0))]) []) fun h => qS h fun h => qu h qCn fun h => gD h 20005 ih.2.1)
  ·intro y0 y1 r h
   rw [qdY] at h
   exact g (gU1 h (.leaf (.tup [.r (.ro T18 y1), .r (.v (.int .i64 0))]) []) fun h => qS h fun h => qu h qDT fun h => gD h 30005 ih.2.2.1)
  ·intro y0 y1 r h
   rw [qdA] at h
   exact g (gU1 h (.leaf (.tup [.r (.ro T18 y1), .r (.v (.int .i64 0))]) []) fun h => qS h fun h => qu h qDb fun h => gD h 40005 ih.2.2.2.1)
  ·intro y0 y1 r h
   rw [qdQ] at h
   exact g (gU1 h (.leaf (.tup [.r (.ro T18 y1), .r (.v (.int .i64 0))]) []) fun h => qS h fun h => qu h qQR fun h => gD h 50005 ih.2.2.2.2.1)
  ·intro y0 y1 r h
   rw [qdJ] at h
   exact g (gU1 h (.leaf (.tup [.r (.ro T18 y1), .r (.v (.int .i64 0))]) []) fun h => qS h fun h => qu h qQN fun h => gD h 60005 ih.2.2.2.2.2)
  ·intro y0 y1 r h
   rw [qdB] at h
   exact g (gU2 h (.stuck 5001) fun h => gL h)
theorem qN2 (k a r) (h : qq0 k a = some r): qHt a r := qN Tryz.f33 (go (qHN k) [] qDm [.frz 4 false (RTy.list T18), .autoB [4, 5] true []] (qu h qmc fun h => qB h fun h => qu h qRV fun h => gD h 10005 (qA7 k k).1))
theorem qRB {k a} (h : (qq0 k a).isSome): qHt a (qrj k a) := qJ h (qN2 k a)
abbrev qGW : Type := List T18.T × Int
def qCF (r : qGW) : AV := .tup [ro T18 r.1, ri r.2]
abbrev qQe (a : T17.T) (r : qGW) : Prop := CC Tryz.prog 28 [.agg (qy (qr T17 a))] [] (qCF r) (nb r)
def qyN (k : Nat) (a : T17.T) : Option qGW :=
 if ((qq0 k a).isSome) then
 some ((qrj k a).1, (qrj k a).2)
 else none
def qxv := fun k a => (qyN k a).getD ([], 0)
def qR8 (k : Nat) : Ke := (28, mo 1, fun
 | [.agg b], [] => (qW [] T17 b).bind fun a => some (.one (qCF (qxv k a), []))
 | _, _ => none)
theorem qSq (k a r) (h : qyN k a = some r): qQe a r := qN Tryz.f28 (go (qD [qI7 k, qRa k]) [] [] [.frz 2 false (RTy.list T18), .autoB [2, 3] true []] (qu h qRB fun h => gL h))
theorem qSI {k a} (h : (qyN k a).isSome): qQe a (qxv k a) := qJ h (qSq k a)
def qvb (r : T17.T) : AV := .agg (qy (qr T17 r))
abbrev qJf (a : Int) (r : T17.T) : Prop := CC Tryz.prog 32 [ri a] [] (qvb r) (nb r)
def qjw (k : Nat) (a : Int) : Option T17.T :=
 some (0, (10, (100, (100, (10, (0, (0, ([], ([], ([(0, 100, 1, 0, 0)], ([], ([(1, 0, 0, 10, false, [(0, 100, false)])], ([a], ([], ([], ([], ([], ([], ([], ([], ([], [])))))))))))))))))))))
def qZ := fun k a => (qjw k a).getD (T17).dflt
def qNH (k : Nat) : Ke := (32, mo 1, fun
 | [.r (.v (.int .i64 a))], [] => some (.one (qvb (qZ k a), []))
 | _, _ => none)
theorem qRC (k a r) (h : qjw k a = some r): qJf a r := qN Tryz.f32 (go (qD []) [] [] [.frz 2 true T17, .autoB [2] true []] (gL h))
theorem qtb {k a} (h : (qjw k a).isSome): qJf a (qZ k a) := qJ h (qRC k a)
def bs_H62_u72_0 : ByteArray := ByteArray.mk #[114, 111, 108, 108, 32, 55, 58, 32, 101, 114, 114, 111, 114, 32, 49]
def qoF (r : Bool) : AV := rb r
def qrZ  (r : Bool) : List (Nat × Blk) := []
def qsh  : List AV := []
def qvN  : List Blk := []
abbrev qx2  (r : Bool) : Prop := CC Tryz.prog 13 (qsh ) (qvN ) (qoF r) (qrZ  r)
def qgA (k : Nat)  : Option Bool :=
 if ((qjw k 0).isSome) ∧ ((qyN k (qZ k 0)).isSome) then
 if ((qjw k 30).isSome) ∧ ((qyB k (qZ k 30)).isSome) then
 if ((qjw k 0).isSome) then
 if ((qxQ k ((qZ k 0).1, (qZ k 0).2.1, (qZ k 0).2.2.1, (qZ k 0).2.2.2.1, (qZ k 0).2.2.2.2.1, (qZ k 0).2.2.2.2.2.1, (qZ k 0).2.2.2.2.2.2.1, (qZ k 0).2.2.2.2.2.2.2.1, (qZ k 0).2.2.2.2.2.2.2.2.1, (qZ k 0).2.2.2.2.2.2.2.2.2.1, (qZ k 0).2.2.2.2.2.2.2.2.2.2.1, [], [], (qZ k 0).2.2.2.2.2.2.2.2.2.2.2.2.2)).isSome) then
 if ((qxL k (3, 7, 1)).isSome) then
 bif ((qxv k (qZ k (0 : Int))).2 != (0 : Int) || (qh2 k (qZ k (30 : Int))).2 != (0 : Int) || (qoC k ((qZ k (0 : Int)).1, (qZ k (0 : Int)).2.1, (qZ k (0 : Int)).2.2.1, (qZ k (0 : Int)).2.2.2.1, (qZ k (0 : Int)).2.2.2.2.1, (qZ k (0 : Int)).2.2.2.2.2.1, (qZ k (0 : Int)).2.2.2.2.2.2.1, (qZ k (0 : Int)).2.2.2.2.2.2.2.1, (qZ k (0 : Int)).2.2.2.2.2.2.2.2.1, (qZ k (0 : Int)).2.2.2.2.2.2.2.2.2.1, (qZ k (0 : Int)).2.2.2.2.2.2.2.2.2.2.1, [], [], (qZ k (0 : Int)).2.2.2.2.2.2.2.2.2.2.2.2.2)).2 != (0 : Int) || (qxS k ((3 : Int), (7 : Int), (1 : Int))).2 != (0 : Int) || (↑ (qxv k (qZ k (0 : Int))).1.length : Int) != (0 : Int) || (↑ (qh2 k (qZ k (30 : Int))).1.length : Int) != (1 : Int) || (↑ (qoC k ((qZ k (0 : Int)).1, (qZ k (0 : Int)).2.1, (qZ k (0 : Int)).2.2.1, (qZ k (0 : Int)).2.2.2.1, (qZ k (0 : Int)).2.2.2.2.1, (qZ k (0 : Int)).2.2.2.2.2.1, (qZ k (0 : Int)).2.2.2.2.2.2.1, (qZ k (0 : Int)).2.2.2.2.2.2.2.1, (qZ k (0 : Int)).2.2.2.2.2.2.2.2.1, (qZ k (0 : Int)).2.2.2.2.2.2.2.2.2.1, (qZ k (0 : Int)).2.2.2.2.2.2.2.2.2.2.1, [], [], (qZ k (0 : Int)).2.2.2.2.2.2.2.2.2.2.2.2.2)).1.length : Int) != (1 : Int)) then
 some false
 else
 if ((0 : Int) ≤ (0 : Int)) ∧ ((0 : Int) < (↑ (qh2 k (qZ k (30 : Int))).1.length : Int)) ∧ (Vo T18 ((qh2 k (qZ k (30 : Int))).1.getD (qt (0 : Int)) T18.dflt) ((4 : Int), (-300 : Int), (0 : Int)) = true → (0 : Int) ≤ (0 : Int)) ∧ (Vo T18 ((qh2 k (qZ k (30 : Int))).1.getD (qt (0 : Int)) T18.dflt) ((4 : Int), (-300 : Int), (0 : Int)) = true → (0 : Int) < (↑ (qoC k ((qZ k (0 : Int)).1, (qZ k (0 : Int)).2.1, (qZ k (0 : Int)).2.2.1, (qZ k (0 : Int)).2.2.2.1, (qZ k (0 : Int)).2.2.2.2.1, (qZ k (0 : Int)).2.2.2.2.2.1, (qZ k (0 : Int)).2.2.2.2.2.2.1, (qZ k (0 : Int)).2.2.2.2.2.2.2.1, (qZ k (0 : Int)).2.2.2.2.2.2.2.2.1, (qZ k (0 : Int)).2.2.2.2.2.2.2.2.2.1, (qZ k (0 : Int)).2.2.2.2.2.2.2.2.2.2.1, [], [], (qZ k (0 : Int)).2.2.2.2.2.2.2.2.2.2.2.2.2)).1.length : Int)) then
 some (Vo T18 ((qh2 k (qZ k 30)).1.getD (qt 0) T18.dflt) (4, (-300), 0) && Vo T18 ((qoC k ((qZ k 0).1, (qZ k 0).2.1, (qZ k 0).2.2.1, (qZ k 0).2.2.2.1, (qZ k 0).2.2.2.2.1, (qZ k 0).2.2.2.2.2.1, (qZ k 0).2.2.2.2.2.2.1, (qZ k 0).2.2.2.2.2.2.2.1, (qZ k 0).2.2.2.2.2.2.2.2.1, (qZ k 0).2.2.2.2.2.2.2.2.2.1, (qZ k 0).2.2.2.2.2.2.2.2.2.2.1, [], [], (qZ k 0).2.2.2.2.2.2.2.2.2.2.2.2.2)).1.getD (qt 0) T18.dflt) (2, 0, 0) && (qxS k (3, 7, 1)).1.toList == bs_H62_u72_0.toList)
 else none
 else none
 else none
 else none
 else none
 else none
def YT := fun k => (qgA k ).getD false
def qOD (k : Nat) : Ke := (13, mo 0, fun
 | [], [] => some (.one (qoF (YT k ), qrZ  (YT k )))
 | _, _ => none)
theorem qPX (k r) (h : qgA k  = some r): qx2  r := qN Tryz.f13 (go (qD [qRK k, qSF k, qSp k, qR8 k, qNH k]) [] [] [.autoB [0] true []] (gN h (fun q => qf (qtb q.1) (qf (qSI q.2) qR)) fun h => gN h (fun q => qf (qtb q.1) (qf (qSa q.2) qR)) fun h => qu h (fun q => qtb q) fun h => qu h (fun q => qRR q) fun h => qu h (fun q => qRS q) fun h => gT h (fun c h => gL h) fun c h => gN h (fun q => Xs q) fun h => gL h))
theorem qBz {k} (h : (qgA k ).isSome): qx2  (YT k ) := qJ (Φ := qx2 ) h (qPX k )
abbrev qI6 (a : List T18.T) (b : List T18.T) (r : Bool) : Prop := CC Tryz.prog 17 [ro T18 a, ro T18 b] [] (rb r) (nb r)
def qGx := fun y0 y1 y2 y3 => (⟨qI 26 [(0, ro T18 y0), (1, ro T18 y1), (12, ri y2), (13, ri y3)], []⟩ : St)
def YK (k : Nat) : Nat → List T18.T → List T18.T → Int → Int → Option Bool
 | 0, _, _, _, _ => none
 | j + 1, y0, y1, y2, y3 =>
 bif y3 < y2 then
 if (0 ≤ y3) ∧ (y3 < y0.length) ∧ (0 ≤ y3) ∧ (y3 < y1.length) then
 bif (!Vo T18 (y0.getD y3.toNat T18.dflt) (y1.getD y3.toNat T18.dflt)) then
 some false
 else
 YK k j y0 y1 y2 (qa .i64 (y3 + 1))
 else none
 else
 some true
def qcM (k : Nat) (a : List T18.T) (b : List T18.T) : Option Bool :=
 bif ((↑a.length : Int) != (↑b.length : Int)) then
 some false
 else
 YK k k a b (↑a.length : Int) 0
def qa0 := fun k a b => (qcM k a b).getD false
def qOM (k : Nat) : Ke := (17, mo 2, fun
 | [.r (.ro f d), .r (.ro g e)], [] => (qE f T18 d).bind fun a => (qE g T18 e).bind fun b => some (.one (rb (qa0 k a b), []))
 | _, _ => none)
def qDo : List (Nat × List Cmd) := [(4, [.autoB [0, 1, 12, 13] false []])]
abbrev qSl := EP Tryz.f17 0 rb nb
theorem qDC (k) : ∀ j, (∀ y0 y1 y2 y3, qSl 4 (qGx y0 y1 y2 y3) (YK k j y0 y1 y2 y3))
 | 0 => by intros; exact e0
 | j + 1 => by
  have ih := @qDC k j
  ·intro y0 y1 y2 y3 r h
   rw [YK] at h
   exact go (qD []) [] qDo [.autoB [4] true []] (gS h (fun h => gN h Xs fun h => qB h fun h => gC h 4 (ih _ _ _ _ _)) fun h => gL h)
theorem qRq (k a b r) (h : qcM k a b = some r): qI6 a b r := qN Tryz.f17 (go (qD []) [] qDo [.autoB [4] true []] (qB h fun h => gC h 4 ((qDC k k) _ _ _ _ _)))
theorem qzo {k a b} (h : (qcM k a b).isSome): qI6 a b (qa0 k a b) := qJ h (qRq k a b)
end
end Go.AM
namespace Go.AM
open Go Go.Proofs
noncomputable section
end
theorem qPE (p : wO) : Vo T18 p p = true := by
 show ((p.1 == p.1) && ((p.2.1 == p.2.1) && (p.2.2 == p.2.2))) = true
 rw [beq_self_eq_true, beq_self_eq_true, beq_self_eq_true]; rfl
theorem qyd (k : Nat) (l : List wO) (hl : l.length ≤ 1000000) : ∀ (d i j : Nat), i + d = l.length → d < j → YK k j l l (l.length : Int) (i : Int) = some true := by
 intro d
 induction d with
 | zero =>
  intro i j hi hj
  obtain ⟨j, rfl⟩ := qQ (by omega : 0 < j)
  rw [YK, qx (by omega : ¬ (i : Int) < (l.length : Int)), qg]
 | succ d ih =>
  intro i j hi hj
  obtain ⟨j, rfl⟩ := qQ (by omega : 0 < j)
  rw [YK, qA (by omega : (i : Int) < (l.length : Int)), qi, qd ⟨by omega, by omega, by omega, by omega⟩, qF i (by omega), qPE]
  exact ih (i + 1) j (by omega) (by omega)
theorem qms (k : Nat) (l : List wO) (hl : l.length ≤ 1000000) (hk : l.length < k) : qcM k l l = some true := by
 unfold qcM
 rw [bne_self_eq_false, qg]
 exact qyd k l hl l.length 0 k (by omega) (by omega)
theorem qyM (k : Nat) (l : List wO) (hl : l.length ≤ 1000000) (hk : l.length < k) : qa0 k l l = true := by
 unfold qa0; rw [qms k l hl hk]; rfl
theorem qJv (k : Nat) (hk : 100 ≤ k) (b : T17.T) (hw : Wf T17 b) : ∃ r : Bool, qgC k b = some r ∧ (r = false → GB b) :=
 qKc k hk b (hw.2.2.2.2.2.2.2.2.2.2.2.2.2.2.2.1).1 (hw.2.2.2.2.2.2.2.2.2.2.2.2.2.2.2.2.2.1).1 (hw.2.2.2.2.2.2.2.2.2.2.2.1).1 (hw.2.2.2.2.2.2.2.2.1).1
theorem qM0 : qgA 400000 = some true := by kernel_rfl
theorem qSw (k : Nat) (l : List Int) (x : Int) (n : Nat) (hn : n ≤ l.length) (hb : n ≤ 100000) : ∀ (d i j : Nat), i + d = n → d < j → V2 k j l (n : Int) x (i : Int) = some (wj x ((l.drop i).take d)) := by
 intro d
 induction d with
 | zero =>
  intro i j hi hj
  obtain ⟨j, rfl⟩ := qQ (by omega : 0 < j)
  rw [V2, qx (by omega : ¬ (i : Int) < (n : Int)), qg, List.take_zero]; rfl
 | succ d ih =>
  intro i j hi hj
  obtain ⟨j, rfl⟩ := qQ (by omega : 0 < j)
  rw [V2, qA (by omega : (i : Int) < (n : Int)), qi, qd ⟨by omega, by omega⟩, qc, qF i (by omega), qq l i I.dflt (by omega), List.take_succ_cons, ih (i + 1) j (by omega) (by omega)]
  show _ = some (l.getD i I.dflt == x || wj x _)
  cases (l.getD i I.dflt == x) <;> rfl
theorem qm7 (k : Nat) (l : List Int) (x : Int) (n : Nat) (hn : n ≤ l.length) (hb : n ≤ 100000) (hk : n < k) : Zg k l (n : Int) x = some (wj x (l.take n)) := by
 unfold Zg
 exact qSw k l x n hn hb n 0 k (by omega) hk
theorem qq3 (k : Nat) (l : List Int) (x : Int) (n : Nat) (hn : n ≤ l.length) (hb : n ≤ 100000) (hk : n < k) : Vp k l (n : Int) x = wj x (l.take n) := by
 unfold Vp; rw [qm7 k l x n hn hb hk]; rfl
end Go.AM
namespace Go.AM
open Go Go.Proofs
noncomputable section
abbrev qDE (a : T8.T) (r : Int) : Prop := CC Tryz.prog 91 [.agg (qy (qr T8 a))] [] (ri r) (nb r)
def qaF (k : Nat) (a : T8.T) : Option Int :=
 bif (decide (a.1 < (1 : Int)) || decide (a.1 > (1000000 : Int))) then
 some 1
 else
 bif (decide (a.2.1 < (0 : Int)) || decide (a.2.1 ≥ (16 : Int))) then
 some 22
 else
 bif (decide (a.2.2.1 < (1 : Int)) || decide (a.2.2.1 > (12000 : Int))) then
 some 20
 else
 bif (decide (a.2.2.2.1 < (1 : Int)) || decide (a.2.2.2.1 ≥ (2500 : Int)) || decide (a.2.2.2.2.1 ≤ a.2.2.2.1) || decide (a.2.2.2.2.1 > (2500 : Int)) || decide (a.2.2.2.2.2.1 < (0 : Int)) || decide (a.2.2.2.2.2.1 > qa .i64 (a.2.2.2.2.1 - a.2.2.2.1))) then
 some 1
 else
 bif (decide (a.2.2.2.2.2.2.1 < (1 : Int)) || decide (a.2.2.2.2.2.2.1 > (1000 : Int)) || decide (a.2.2.2.2.2.2.2.1 < (0 : Int)) || decide (a.2.2.2.2.2.2.2.1 > (1000 : Int)) || decide (a.2.2.2.2.2.2.2.2.1 < (0 : Int)) || decide (a.2.2.2.2.2.2.2.2.1 > (1000 : Int))) then
 some 1
 else
 bif (decide (a.2.2.2.2.2.2.2.2.2.1 < (0 : Int)) || decide (a.2.2.2.2.2.2.2.2.2.1 > (8 : Int)) || decide (a.2.2.2.2.2.2.2.2.2.2.1 < (0 : Int)) || decide (a.2.2.2.2.2.2.2.2.2.2.1 > (100 : Int)) || decide (a.2.2.2.2.2.2.2.2.2.2.2 < (0 : Int)) || decide (a.2.2.2.2.2.2.2.2.2.2.2 > (1000000000 : Int))) then
 some 1
 else
 some 0
def ZL := fun k a => (qaF k a).getD 0
def qja (k : Nat) : Ke := (91, mo 1, fun
 | [.agg b], [] => (qW [] T8 b).bind fun a => some (.one (ri (ZL k a), []))
 | _, _ => none)
theorem qMv (k a r) (h : qaF k a = some r): qDE a r := qN Tryz.f91 (go (qD []) [] [] [.autoB [2] true []] (qB h fun h => qB h fun h => qB h fun h => qB h fun h => qB h fun h => qB h fun h => gL h))
theorem qv8 {k a} (h : (qaF k a).isSome): qDE a (ZL k a) := qJ h (qMv k a)
abbrev qDe (a : List I.T) (b : Int) (r : Bool) : Prop := CC Tryz.prog 93 [ro I a, ri b] [] (rb r) (nb r)
def qBx := fun y0 y1 y2 => (⟨qI 18 [(0, ro I y0), (1, ri y1), (5, ri y2)], []⟩ : St)
def V0 (k : Nat) : Nat → List I.T → Int → Int → Option Bool
 | 0, _, _, _ => none
 | j + 1, y0, y1, y2 =>
 bif y2 < y0.length then
 if (0 ≤ y2) ∧ (y2 < y0.length) then
 bif (y0.getD y2.toNat I.dflt == y1) then
 some true
 else
 V0 k j y0 y1 (qa .i64 (y2 + 1))
 else none
 else
 some false
def qaq (k : Nat) (a : List I.T) (b : Int) : Option Bool :=
 V0 k k a b 0
def qb0 := fun k a b => (qaq k a b).getD false
def qj1 (k : Nat) : Ke := (93, mo 2, fun
 | [.r (.ro e d), .r (.v (.int .i64 b))], [] => (qE e I d).bind fun a => some (.one (rb (qb0 k a b), []))
 | _, _ => none)
def qwM : List (Nat × List Cmd) := [(2, [.autoB [0, 1, 5] false []])]
abbrev qN0 := EP Tryz.f93 0 rb nb
theorem qwQ (k) : ∀ j, (∀ y0 y1 y2, qN0 2 (qBx y0 y1 y2) (V0 k j y0 y1 y2))
 | 0 => by intros; exact e0
 | j + 1 => by
  have ih := @qwQ k j
  ·intro y0 y1 y2 r h
   rw [V0] at h
   exact go (qD []) [] qwM [.autoB [4] true []] (gS h (fun h => qS h fun h => qB h fun h => gC h 2 (ih _ _ _ _)) fun h => gL h)
theorem qMB (k a b r) (h : qaq k a b = some r): qDe a b r := qN Tryz.f93 (go (qD []) [] qwM [.autoB [4] true []] (gC h 2 ((qwQ k k) _ _ _ _)))
theorem qo4 {k a b} (h : (qaq k a b).isSome): qDe a b (qb0 k a b) := qJ h (qMB k a b)
end
theorem qFu {α : Type} (a b : Bool) (x y : α) : (bif (a || b) then x else y) = bif a then x else bif b then x else y := by cases a <;> rfl
theorem qFK (k : Nat) (o : T8.T) : qaF k o = VF k o := by
 unfold qaF VF
 simp only [qFu]
def Q4 (o : T8.T) : Int := (VF 0 o).getD 0
theorem qho {c : Bool} {a : Int} {x : Option Int} (h : x = some (x.getD 0)) : (bif c then some a else x) = some ((bif c then some a else x).getD 0) := by
 cases c
 ·exact h
 ·rfl
theorem qjt (k : Nat) (o : T8.T) : VF k o = some (Q4 o) := by
 show VF 0 o = some ((VF 0 o).getD 0)
 unfold VF
 exact qho (qho (qho (qho (qho (qho (qho (qho rfl)))))))
theorem qwy (k : Nat) (o : T8.T) : Y4 k o = Q4 o := by unfold Y4; rw [qjt]; rfl
theorem qkG (k : Nat) (o : T8.T) : qaF k o = some (Q4 o) := by rw [qFK, qjt]
theorem qrJ (k : Nat) (o : T8.T) : ZL k o = Q4 o := by unfold ZL; rw [qkG]; rfl
theorem qTl (k : Nat) (x : Int) (l : List Int) (hl : l.length ≤ 1000000) : ∀ (d i j : Nat), i + d = l.length → d < j → YM k j x l (l.length : Int) (i : Int) = some (wj x (l.drop i)) := by
 intro d
 induction d with
 | zero =>
  intro i j hi hj
  obtain ⟨j, rfl⟩ := qQ (by omega : 0 < j)
  rw [YM, qx (by omega : ¬ (i : Int) < (l.length : Int)), qg, qh (by omega)]; rfl
 | succ d ih =>
  intro i j hi hj
  obtain ⟨j, rfl⟩ := qQ (by omega : 0 < j)
  rw [YM, qA (by omega : (i : Int) < (l.length : Int)), qi, qd ⟨by omega, by omega⟩, qc, qF i (by omega), qq l i I.dflt (by omega), ih (i + 1) j (by omega) (by omega)]
  have hb : (x == l.getD i I.dflt) = (l.getD i I.dflt == x) := by
   by_cases h : x = l.getD i I.dflt
   ·rw [beq_iff_eq.2 h]; exact (beq_iff_eq.2 h.symm).symm
   ·rw [beq_eq_false_iff_ne.2 h]; exact (beq_eq_false_iff_ne.2 (fun e => h e.symm)).symm
  rw [hb]
  show _ = some (l.getD i I.dflt == x || wj x (l.drop (i + 1)))
  cases (l.getD i I.dflt == x) <;> rfl
theorem qlt (k : Nat) (l : List Int) (x : Int) (hl : l.length ≤ 1000000) (hk : l.length < k) : VI k l x = some (wj x l) := by
 unfold VI
 exact qTl k x l hl l.length 0 k (by omega) hk
theorem qoQ (k : Nat) (l : List Int) (x : Int) (hl : l.length ≤ 1000000) (hk : l.length < k) : VL k l x = wj x l := by
 unfold VL; rw [qlt k l x hl hk]; rfl
theorem qO3 (k : Nat) (x : Int) (l : List Int) (hl : l.length ≤ 1000000) : ∀ (d i j : Nat), i + d = l.length → d < j → V0 k j l x (i : Int) = some (wj x (l.drop i)) := by
 intro d
 induction d with
 | zero =>
  intro i j hi hj
  obtain ⟨j, rfl⟩ := qQ (by omega : 0 < j)
  rw [V0, qx (by omega : ¬ (i : Int) < (l.length : Int)), qg, qh (by omega)]; rfl
 | succ d ih =>
  intro i j hi hj
  obtain ⟨j, rfl⟩ := qQ (by omega : 0 < j)
  rw [V0, qA (by omega : (i : Int) < (l.length : Int)), qi, qd ⟨by omega, by omega⟩, qc, qF i (by omega), qq l i I.dflt (by omega), ih (i + 1) j (by omega) (by omega)]
  show _ = some (l.getD i I.dflt == x || wj x (l.drop (i + 1)))
  cases (l.getD i I.dflt == x) <;> rfl
theorem qnr (k : Nat) (l : List Int) (x : Int) (hl : l.length ≤ 1000000) (hk : l.length < k) : qaq k l x = some (wj x l) := by
 unfold qaq
 exact qO3 k x l hl l.length 0 k (by omega) hk
theorem qtx (k : Nat) (l : List Int) (x : Int) (hl : l.length ≤ 1000000) (hk : l.length < k) : qb0 k l x = wj x l := by
 unfold qb0; rw [qnr k l x hl hk]; rfl
end Go.AM
namespace Go.AM
open Go Go.Proofs
noncomputable section
def qkD (r : List I.T × Int) : AV := .tup [ro I r.1, ri r.2]
abbrev qAh (a : T8.T) (b : T22.T) (r : List I.T × Int) : Prop := CC Tryz.prog 140 [.agg (qy (qr T8 a)), .agg (qy (qr T22 b))] [] (qkD r) (nb r)
def qB8 := fun y0 y1 y2 => (⟨qI 70 [(2, .ptr 1000000 0 0), (3, .ptr 1000001 0 0), (7, .own 1000002 0)], [(1000000, 0, .var 72 (qy (qr T8 y0))), (1000001, 0, .var 103 (qy (qr T22 y1))), (1000002, 0, .row 3 I y2)]⟩ : St)
def qBY := fun y0 y1 y2 => (⟨qI 70 [(2, .ptr 1000000 0 0), (3, .ptr 1000001 0 0), (7, .own 1000002 0)], [(1000000, 0, .var 72 (qy (qr T8 y0))), (1000001, 0, .var 103 (qy (qr T22 y1))), (1000002, 0, .row 3 I y2)]⟩ : St)
def qy5 := fun y0 y1 y2 => (⟨qI 70 [(2, .ptr 1000000 0 0), (3, .ptr 1000001 0 0), (7, .own 1000002 0)], [(1000000, 0, .var 72 (qy (qr T8 y0))), (1000001, 0, .var 103 (qy (qr T22 y1))), (1000002, 0, .row 3 I y2)]⟩ : St)
def qyL := fun y0 y1 y2 => (⟨qI 70 [(2, .ptr 1000000 0 0), (3, .ptr 1000001 0 0), (7, .own 1000002 0)], [(1000000, 0, .var 72 (qy (qr T8 y0))), (1000001, 0, .var 103 (qy (qr T22 y1))), (1000002, 0, .row 3 I y2)]⟩ : St)
def qx8 := fun y0 y1 y2 => (⟨qI 70 [(2, .ptr 1000000 0 0), (3, .ptr 1000001 0 0), (7, .own 1000002 0)], [(1000000, 0, .var 72 (qy (qr T8 y0))), (1000001, 0, .var 103 (qy (qr T22 y1))), (1000002, 0, .row 3 I y2)]⟩ : St)
def qyD := fun y0 => (⟨qI 70 [(7, .own 1000000 0)], [(1000000, 0, .row 3 I y0)]⟩ : St)
mutual
def WD (k : Nat) : Nat → T8.T → T22.T → List I.T → Option (List I.T × Int)
 | 0, _, _, _ => none
 | j + 1, y0, y1, y2 =>
 bif (!y1.2.1) then
 if ((y2.length + [(2 : Int)].length) * (8 : Nat) ≤ (140737488355328 : Nat)) then
 Zh k j y0 y1 (y2 ++ [2])
 else none
 else
 Zh k j y0 y1 y2
def Zh (k : Nat) : Nat → T8.T → T22.T → List I.T → Option (List I.T × Int)
 | 0, _, _, _ => none
 | j + 1, y0, y1, y2 =>
 bif (y1.2.2.1 != y0.2.2.1) then
 if ((y2.length + [(3 : Int)].length) * (8 : Nat) ≤ (140737488355328 : Nat)) then
 Wn k j y0 y1 (y2 ++ [3])
 else none
 else
 Wn k j y0 y1 y2
def Wn (k : Nat) : Nat → T8.T → T22.T → List I.T → Option (List I.T × Int)
 | 0, _, _, _ => none
 | j + 1, y0, y1, y2 =>
 bif (decide (y1.2.2.2.1 < qa .i64 (y0.2.2.2.2.1 - y0.2.2.2.2.2.1)) || decide (y1.2.2.2.1 > y0.2.2.2.2.1)) then
 if ((y2.length + [(4 : Int)].length) * (8 : Nat) ≤ (140737488355328 : Nat)) then
 Wu k j y0 y1 (y2 ++ [4])
 else none
 else
 Wu k j y0 y1 y2
def Wu (k : Nat) : Nat → T8.T → T22.T → List I.T → Option (List I.T × Int)
 | 0, _, _, _ => none
 | j + 1, y0, y1, y2 =>
 bif y1.2.2.2.2.1 > y0.2.2.2.2.2.2.2.2.2.1 then
 if ((y2.length + [(5 : Int)].length) * (8 : Nat) ≤ (140737488355328 : Nat)) then
 Wp k j y0 y1 (y2 ++ [5])
 else none
 else
 Wp k j y0 y1 y2
def Wp (k : Nat) : Nat → T8.T → T22.T → List I.T → Option (List I.T × Int)
 | 0, _, _, _ => none
 | j + 1, y0, y1, y2 =>
 bif y1.2.2.2.2.2 > y0.2.2.2.2.2.2.2.2.2.2.1 then
 if ((y2.length + [(6 : Int)].length) * (8 : Nat) ≤ (140737488355328 : Nat)) then
 ZE k j (y2 ++ [6])
 else none
 else
 ZE k j y2
def ZE (k : Nat) : Nat → List I.T → Option (List I.T × Int)
 | 0, _ => none
 | j + 1, y0 =>
 some (y0, 0)
end
def qd4 (k : Nat) (a : T8.T) (b : T22.T) : Option (List I.T × Int) :=
 if ((qaF k a).isSome) then
 bif (ZL k a != (0 : Int)) then
 some ([], ZL k a)
 else
 bif (b.1 != a.2.1) then
 if ([(1 : Int)].length * (8 : Nat) ≤ (140737488355328 : Nat)) then
 WD k k a b ([1])
 else none
 else
 WD k k a b ([])
 else none
def qce := fun k a b => (qd4 k a b).getD ([], 0)
def qxs (k : Nat) : Ke := (140, mo 2, fun
 | [.agg e, .agg d], [] => (qW [] T8 e).bind fun a => (qW [] T22 d).bind fun b => some (.one (qkD (qce k a b), []))
 | _, _ => none)
def qwu : List (Nat × List Cmd) := [(7, [.row 7 3 I, .autoB [2, 3, 7] false []]), (9, [.autoB [2, 3, 7] false []]), (11, [.autoB [2, 3, 7] false []]), (13, [.autoB [2, 3, 7] false []]), (15, [.autoB [2, 3, 7] false []]), (17, [.autoB [7] false []])]
abbrev qeF := EP Tryz.f140 0 qkD nb
theorem qo8 (k) : ∀ j, (∀ {y0 y1 y2}, qeF 7 (qB8 y0 y1 y2) (WD k j y0 y1 y2)) ∧ (∀ {y0 y1 y2}, qeF 9 (qBY y0 y1 y2) (Zh k j y0 y1 y2)) ∧ (∀ {y0 y1 y2}, qeF 11 (qy5 y0 y1 y2) (Wn k j y0 y1 y2)) ∧ (∀ {y0 y1 y2}, qeF 13 (qyL y0 y1 y2) (Wu k j y0 y1 y2)) ∧ (∀ {y0 y1 y2}, qeF 15 (qx8 y0 y1 y2) (Wp k j y0 y1 y2)) ∧ (∀ {y0}, qeF 17 (qyD y0) (ZE k j y0))
 | 0 => by and_intros <;> intros <;> exact e0
 | j + 1 => by
  have ih := @qo8 k j
  have g := @go (qD [qja k]) [7, 9, 11, 13, 15, 17] qwu [.frz 4 false (RTy.list I), .autoB [4, 5] true []]
  refine ⟨?_, ?_, ?_, ?_, ?_, ?_⟩
  ·intro y0 y1 y2 r h
   rw [WD] at h
   exact g (gS h (fun h => qu h id fun h => gD h 9 ih.2.1) fun h => gD h 9 ih.2.1)
  ·intro y0 y1 y2 r h
   rw [Zh] at h
   exact g (gS h (fun h => qu h id fun h => gD h 11 ih.2.2.1) fun h => gD h 11 ih.2.2.1)
  ·intro y0 y1 y2 r h
   rw [Wn] at h
   exact g (gS h (fun h => qu h id fun h => gD h 13 ih.2.2.2.1) fun h => gD h 13 ih.2.2.2.1)
  ·intro y0 y1 y2 r h
   rw [Wu] at h
   exact g (gS h (fun h => qu h id fun h => gD h 15 ih.2.2.2.2.1) fun h => gD h 15 ih.2.2.2.2.1)
  ·intro y0 y1 y2 r h
   rw [Wp] at h
   exact g (gS h (fun h => qu h id fun h => gD h 17 ih.2.2.2.2.2) fun h => gD h 17 ih.2.2.2.2.2)
  ·intro y0 r h
   rw [ZE] at h
   exact g (gL h)
theorem qL7 (k a b r) (h : qd4 k a b = some r): qAh a b r := qN Tryz.f140 (go (qD [qja k]) [7, 9, 11, 13, 15, 17] qwu [.frz 4 false (RTy.list I), .autoB [4, 5] true []] (qu h qv8 fun h => qB h fun h => gS h (fun h => qu h id fun h => gD h 7 (qo8 k k).1) fun h => gD h 7 (qo8 k k).1))
theorem qMK {k a b} (h : (qd4 k a b).isSome): qAh a b (qce k a b) := qJ h (qL7 k a b)
def qlN (r : List I.T × Int) : AV := .tup [ro I r.1, ri r.2]
abbrev qDV (a : T8.T) (b : T22.T) (d : Int) (e : List T10.T) (r : List I.T × Int) : Prop := CC Tryz.prog 100 [.agg (qy (qr T8 a)), .agg (qy (qr T22 b)), ri d, ro T10 e] [] (qlN r) (nb r)
def qAk := fun y0 y1 y2 y3 => (⟨qI 121 [(2, ri y0), (3, ro T10 y1), (10, ro I y2), (12, ri y3)], []⟩ : St)
def qym := fun y0 y1 y2 y3 y4 => (⟨qI 121 [(2, ri y0), (3, ro T10 y1), (10, ro I y2), (13, .own 1000000 0), (14, ri y3)], [(1000000, 0, .row 3 I y4)]⟩ : St)
def qy7 := fun y0 y1 y2 y3 y4 y5 y6 => (⟨qI 121 [(2, ri y0), (3, ro T10 y1), (10, ro I y2), (13, .own 1000000 0), (14, ri y3), (15, rb y4), (16, ri y5)], [(1000000, 0, .row 3 I y6)]⟩ : St)
mutual
def VS (k : Nat) : Nat → Int → List T10.T → List I.T → Int → Option (List I.T × Int)
 | 0, _, _, _, _ => none
 | j + 1, y0, y1, y2, y3 =>
 bif y3 < y1.length then
 if (0 ≤ y3) ∧ (y3 < y1.length) ∧ (decide ((y1.getD y3.toNat T10.dflt).1 < (1 : Int)) = false → 0 ≤ y3) ∧ (decide ((y1.getD y3.toNat T10.dflt).1 < (1 : Int)) = false → y3 < y1.length) then
 bif (decide ((y1.getD y3.toNat T10.dflt).1 < (1 : Int)) || decide ((y1.getD y3.toNat T10.dflt).1 > (1000000 : Int))) then
 some ([], 1)
 else
 if (0 ≤ y3) ∧ (y3 < y1.length) ∧ (decide ((y1.getD y3.toNat T10.dflt).2.1 < (1 : Int)) = false → 0 ≤ y3) ∧ (decide ((y1.getD y3.toNat T10.dflt).2.1 < (1 : Int)) = false → y3 < y1.length) then
 bif (decide ((y1.getD y3.toNat T10.dflt).2.1 < (1 : Int)) || decide ((y1.getD y3.toNat T10.dflt).2.1 > (6 : Int))) then
 some ([], 17)
 else
 if (0 ≤ y3) ∧ (y3 < y1.length) ∧ (decide ((y1.getD y3.toNat T10.dflt).2.2 < (0 : Int)) = false → 0 ≤ y3) ∧ (decide ((y1.getD y3.toNat T10.dflt).2.2 < (0 : Int)) = false → y3 < y1.length) then
 bif (decide ((y1.getD y3.toNat T10.dflt).2.2 < (0 : Int)) || decide ((y1.getD y3.toNat T10.dflt).2.2 > (2147483647 : Int))) then
 some ([], 1)
 else
 VS k j y0 y1 y2 (qa .i64 (y3 + 1))
 else none
 else none
 else none
 else
 QC k j y0 y1 y2 0 ([])
def QC (k : Nat) : Nat → Int → List T10.T → List I.T → Int → List I.T → Option (List I.T × Int)
 | 0, _, _, _, _, _ => none
 | j + 1, y0, y1, y2, y3, y4 =>
 bif y3 < y2.length then
 Zs k j y0 y1 y2 y3 false 0 y4
 else
 some (y4, 0)
def Zs (k : Nat) : Nat → Int → List T10.T → List I.T → Int → Bool → Int → List I.T → Option (List I.T × Int)
 | 0, _, _, _, _, _, _, _ => none
 | j + 1, y0, y1, y2, y3, y4, y5, y6 =>
 bif y5 < y1.length then
 if (y4 = false → 0 ≤ y5) ∧ (y4 = false → y5 < y1.length) ∧ (y4 = false → ((y1.getD y5.toNat T10.dflt).1 == y0) = true → 0 ≤ y5) ∧ (y4 = false → ((y1.getD y5.toNat T10.dflt).1 == y0) = true → y5 < y1.length) ∧ (y4 = false → ((y1.getD y5.toNat T10.dflt).1 == y0) = true → 0 ≤ y3) ∧ (y4 = false → ((y1.getD y5.toNat T10.dflt).1 == y0) = true → y3 < y2.length) then
 Zs k j y0 y1 y2 y3 (y4 || (y1.getD y5.toNat T10.dflt).1 == y0 && (y1.getD y5.toNat T10.dflt).2.1 == y2.getD y3.toNat I.dflt) (qa .i64 (y5 + 1)) y6
 else none
 else
 bif (!y4) then
 if (0 ≤ y3) ∧ (y3 < y2.length) ∧ ((y6.length + [y2.getD y3.toNat I.dflt].length) * (8 : Nat) ≤ (140737488355328 : Nat)) then
 QC k j y0 y1 y2 (qa .i64 (y3 + 1)) (y6 ++ [y2.getD y3.toNat I.dflt])
 else none
 else
 QC k j y0 y1 y2 (qa .i64 (y3 + 1)) y6
end
def qes (k : Nat) (a : T8.T) (b : T22.T) (d : Int) (e : List T10.T) : Option (List I.T × Int) :=
 if ((qd4 k a b).isSome) then
 bif ((qce k a b).2 != (0 : Int)) then
 some ([], (qce k a b).2)
 else
 bif (↑e.length : Int) > (512 : Int) then
 some ([], 8)
 else
 VS k k d e ((qce k a b).1) 0
 else none
def qbz := fun k a b d e => (qes k a b d e).getD ([], 0)
def qKS (k : Nat) : Ke := (100, mo 4, fun
 | [.agg l, .agg f, .r (.v (.int .i64 d)), .r (.ro m i)], [] => (qW [] T8 l).bind fun a => (qW [] T22 f).bind fun b => (qE m T10 i).bind fun e => some (.one (qlN (qbz k a b d e), []))
 | _, _ => none)
def qwK : List (Nat × List Cmd) := [(7, [.autoB [2, 3, 10, 12] false []]), (17, [.row 13 3 I, .autoB [2, 3, 10, 13, 14] false []]), (21, [.autoB [2, 3, 10, 13, 14, 15, 16] false []])]
abbrev qsw := EP Tryz.f100 0 qlN nb
theorem quZ (k) : ∀ j, (∀ {y0 y1 y2 y3}, qsw 7 (qAk y0 y1 y2 y3) (VS k j y0 y1 y2 y3)) ∧ (∀ {y0 y1 y2 y3 y4}, qsw 17 (qym y0 y1 y2 y3 y4) (QC k j y0 y1 y2 y3 y4)) ∧ (∀ {y0 y1 y2 y3 y4 y5 y6}, qsw 21 (qy7 y0 y1 y2 y3 y4 y5 y6) (Zs k j y0 y1 y2 y3 y4 y5 y6))
 | 0 => by and_intros <;> intros <;> exact e0
 | j + 1 => by
  have ih := @quZ k j
  have g := @go (qD [qxs k]) [] qwK [.frz 8 false (RTy.list I), .autoB [8, 9] true []]
  refine ⟨?_, ?_, ?_⟩
  ·intro y0 y1 y2 y3 r h
   rw [VS] at h
   exact g (gS h (fun h => gN h Xs fun h => qB h fun h => gN h Xs fun h => qB h fun h => gN h Xs fun h => qB h fun h => gD h 7 ih.1) fun h => gD h 17 ih.2.1)
  ·intro y0 y1 y2 y3 y4 r h
   rw [QC] at h
   exact g (gS h (fun h => gD h 21 ih.2.2) fun h => gL h)
  ·intro y0 y1 y2 y3 y4 y5 y6 r h
   rw [Zs] at h
   exact g (gS h (fun h => gN h (fun q => qf q.1 (qf q.2.1 (qf q.2.2.1 (qf q.2.2.2.1 (qf q.2.2.2.2.1 (qf q.2.2.2.2.2 qR)))))) fun h => gD h 21 ih.2.2) fun h => gS h (fun h => gN h Xn fun h => gD h 17 ih.2.1) fun h => gD h 17 ih.2.1)
theorem qKn (k a b d e r) (h : qes k a b d e = some r): qDV a b d e r := qN Tryz.f100 (go (qD [qxs k]) [] qwK [.frz 8 false (RTy.list I), .autoB [8, 9] true []] (qu h qMK fun h => qB h fun h => qB h fun h => gD h 7 (quZ k k).1))
theorem qK7 {k a b d e} (h : (qes k a b d e).isSome): qDV a b d e (qbz k a b d e) := qJ h (qKn k a b d e)
abbrev qDs (a : T8.T) (b : T22.T) (d : Int) (e : List T10.T) (r : Int) : Prop := CC Tryz.prog 54 [.agg (qy (qr T8 a)), .agg (qy (qr T22 b)), ri d, ro T10 e] [] (ri r) (nb r)
def qe3 (k : Nat) (a : T8.T) (b : T22.T) (d : Int) (e : List T10.T) : Option Int :=
 if ((qes k a b d e).isSome) then
 bif ((qbz k a b d e).2 != (0 : Int)) then
 some ((qbz k a b d e).2)
 else
 bif (↑ (qbz k a b d e).1.length : Int) > (0 : Int) then
 some 31
 else
 some 0
 else none
def qb7 := fun k a b d e => (qe3 k a b d e).getD 0
def qKE (k : Nat) : Ke := (54, mo 4, fun
 | [.agg i, .agg f, .r (.v (.int .i64 d)), .r (.ro l g)], [] => (qW [] T8 i).bind fun a => (qW [] T22 f).bind fun b => (qE l T10 g).bind fun e => some (.one (ri (qb7 k a b d e), []))
 | _, _ => none)
theorem qKj (k a b d e r) (h : qe3 k a b d e = some r): qDs a b d e r := qN Tryz.f54 (go (qD [qKS k]) [] [] [.autoB [8] true []] (qu h qK7 fun h => qB h fun h => qB h fun h => gL h))
theorem qMM {k a b d e} (h : (qe3 k a b d e).isSome): qDs a b d e (qb7 k a b d e) := qJ h (qKj k a b d e)
end
abbrev vY := T8.T
abbrev Q7 := T22.T
abbrev Wv := T10.T
def jd (c : Bool) (n : Int) (l : List Int) : List Int := bif c then l ++ [n] else l
def jdS (o : vY) (f : Q7) : List Int :=
 jd (decide (f.2.2.2.2.2 > o.2.2.2.2.2.2.2.2.2.2.1)) 6 (jd (decide (f.2.2.2.2.1 > o.2.2.2.2.2.2.2.2.2.1)) 5 (jd (decide (f.2.2.2.1 < qa .i64 (o.2.2.2.2.1 - o.2.2.2.2.2.1)) || decide (f.2.2.2.1 > o.2.2.2.2.1)) 4 (jd (f.2.2.1 != o.2.2.1) 3 (jd (!f.2.1) 2 (jd (f.1 != o.2.1) 1 [])))))
theorem ZF (c : Bool) (n : Int) (l : List Int) : (jd c n l).length ≤ l.length + 1 := by
 unfold jd; cases c <;> simp
def Vg (o : vY) (f : Q7) : List Int × Int := if Q4 o ≠ 0 then ([], Q4 o) else (jdS o f, 0)
theorem qMD (o : vY) (f : Q7) : (jdS o f).length ≤ 6 := by
 unfold jdS
 have h1 := ZF (f.1 != o.2.1) 1 []
 have h2 := ZF (!f.2.1) 2 (jd (f.1 != o.2.1) 1 [])
 have h3 := ZF (f.2.2.1 != o.2.2.1) 3 (jd (!f.2.1) 2 (jd (f.1 != o.2.1) 1 []))
 have h4 := ZF (decide (f.2.2.2.1 < qa .i64 (o.2.2.2.2.1 - o.2.2.2.2.2.1)) || decide (f.2.2.2.1 > o.2.2.2.2.1)) 4 (jd (f.2.2.1 != o.2.2.1) 3 (jd (!f.2.1) 2 (jd (f.1 != o.2.1) 1 [])))
 have h5 := ZF (decide (f.2.2.2.2.1 > o.2.2.2.2.2.2.2.2.2.1)) 5 (jd (decide (f.2.2.2.1 < qa .i64 (o.2.2.2.2.1 - o.2.2.2.2.2.1)) || decide (f.2.2.2.1 > o.2.2.2.2.1)) 4 (jd (f.2.2.1 != o.2.2.1) 3 (jd (!f.2.1) 2 (jd (f.1 != o.2.1) 1 []))))
 have h6 := ZF (decide (f.2.2.2.2.2 > o.2.2.2.2.2.2.2.2.2.2.1)) 6 (jd (decide (f.2.2.2.2.1 > o.2.2.2.2.2.2.2.2.2.1)) 5 (jd (decide (f.2.2.2.1 < qa .i64 (o.2.2.2.2.1 - o.2.2.2.2.2.1)) || decide (f.2.2.2.1 > o.2.2.2.2.1)) 4 (jd (f.2.2.1 != o.2.2.1) 3 (jd (!f.2.1) 2 (jd (f.1 != o.2.1) 1 [])))))
 simp only [List.length_nil] at h1
 omega
theorem We {α : Type} {c : Bool} {n : Int} {y : List Int} {g : List Int → Option α} (h : y.length ≤ 20) : (bif c then (if ((y.length + [n].length) * (8 : Nat) ≤ (140737488355328 : Nat)) then g (y ++ [n]) else none) else g y) = g (jd c n y) := by
 unfold jd
 cases c
 ·rfl
 ·rw [qi, qi, qd (by simp only [qk]; omega)]
theorem jp1 (k j : Nat) (y : List Int) (h : T32.T) (hy : y.length ≤ 20) : Q3 k (j + 1) y h = vz k j (jd (h.1.1 != h.2.2.1) 1 y) h := by
 rw [Q3, qd ⟨by decide, by show (0 : Int) < ((6 : Nat) : Int); decide⟩, qd (show (qhD k h).isSome = true from rfl)]
 exact We (n := 1) (g := fun y => vz k j y h) hy
theorem jp2 (k j : Nat) (y : List Int) (h : T32.T) (hy : y.length ≤ 20) : vz k (j + 1) y h = vt k j (jd (!h.1.2.1) 2 y) h := by
 rw [vz, qd ⟨by decide, by show (1 : Int) < ((6 : Nat) : Int); decide⟩, qd (show (qic k h).isSome = true from rfl)]
 exact We (n := 2) (g := fun y => vt k j y h) hy
theorem jp3 (k j : Nat) (y : List Int) (h : T32.T) (hy : y.length ≤ 20) : vt k (j + 1) y h = vo k j (jd (h.1.2.2.1 != h.2.2.2.1) 3 y) h := by
 rw [vt, qd ⟨by decide, by show (2 : Int) < ((6 : Nat) : Int); decide⟩, qd (show (qiC k h).isSome = true from rfl)]
 exact We (n := 3) (g := fun y => vo k j y h) hy
theorem jp4 (k j : Nat) (y : List Int) (h : T32.T) (hy : y.length ≤ 20) : vo k (j + 1) y h = vp k j (jd (decide (h.1.2.2.2.1 < qa .i64 (h.2.2.2.2.2.1 - h.2.2.2.2.2.2.1)) || decide (h.1.2.2.2.1 > h.2.2.2.2.2.1)) 4 y) h := by
 rw [vo, qd ⟨by decide, by show (3 : Int) < ((6 : Nat) : Int); decide⟩, qd (show (qh5 k h).isSome = true from rfl)]
 exact We (n := 4) (g := fun y => vp k j y h) hy
theorem jp5 (k j : Nat) (y : List Int) (h : T32.T) (hy : y.length ≤ 20) : vp k (j + 1) y h = vv k j (jd (decide (h.1.2.2.2.2.1 > h.2.2.2.2.2.2.2.2.2.2.1)) 5 y) h := by
 rw [vp, qd ⟨by decide, by show (4 : Int) < ((6 : Nat) : Int); decide⟩, qd (show (qiE k h).isSome = true from rfl)]
 exact We (n := 5) (g := fun y => vv k j y h) hy
theorem jp6 (k j : Nat) (y : List Int) (h : T32.T) (hy : y.length ≤ 20) : vv k (j + 1) y h = Qi k j (jd (decide (h.1.2.2.2.2.2 > h.2.2.2.2.2.2.2.2.2.2.2.1)) 6 y) h := by
 rw [vv, qd ⟨by decide, by show (5 : Int) < ((6 : Nat) : Int); decide⟩, qd (show (qiR k h).isSome = true from rfl)]
 exact We (n := 6) (g := fun y => Qi k j y h) hy
theorem qQM (o : vY) (f : Q7) : ((jd (f.1 != o.2.1) 1 []).length ≤ 20 ∧ (jd (!f.2.1) 2 (jd (f.1 != o.2.1) 1 [])).length ≤ 20 ∧ (jd (f.2.2.1 != o.2.2.1) 3 (jd (!f.2.1) 2 (jd (f.1 != o.2.1) 1 []))).length ≤ 20 ∧ (jd (decide (f.2.2.2.1 < qa .i64 (o.2.2.2.2.1 - o.2.2.2.2.2.1)) || decide (f.2.2.2.1 > o.2.2.2.2.1)) 4 (jd (f.2.2.1 != o.2.2.1) 3 (jd (!f.2.1) 2 (jd (f.1 != o.2.1) 1 [])))).length ≤ 20 ∧ (jd (decide (f.2.2.2.2.1 > o.2.2.2.2.2.2.2.2.2.1)) 5 (jd (decide (f.2.2.2.1 < qa .i64 (o.2.2.2.2.1 - o.2.2.2.2.2.1)) || decide (f.2.2.2.1 > o.2.2.2.2.1)) 4 (jd (f.2.2.1 != o.2.2.1) 3 (jd (!f.2.1) 2 (jd (f.1 != o.2.1) 1 []))))).length ≤ 20) := by
 have h1 := ZF (f.1 != o.2.1) 1 []
 have h2 := ZF (!f.2.1) 2 (jd (f.1 != o.2.1) 1 [])
 have h3 := ZF (f.2.2.1 != o.2.2.1) 3 (jd (!f.2.1) 2 (jd (f.1 != o.2.1) 1 []))
 have h4 := ZF (decide (f.2.2.2.1 < qa .i64 (o.2.2.2.2.1 - o.2.2.2.2.2.1)) || decide (f.2.2.2.1 > o.2.2.2.2.1)) 4 (jd (f.2.2.1 != o.2.2.1) 3 (jd (!f.2.1) 2 (jd (f.1 != o.2.1) 1 [])))
 have h5 := ZF (decide (f.2.2.2.2.1 > o.2.2.2.2.2.2.2.2.2.1)) 5 (jd (decide (f.2.2.2.1 < qa .i64 (o.2.2.2.2.1 - o.2.2.2.2.2.1)) || decide (f.2.2.2.1 > o.2.2.2.2.1)) 4 (jd (f.2.2.1 != o.2.2.1) 3 (jd (!f.2.1) 2 (jd (f.1 != o.2.1) 1 []))))
 simp only [List.length_nil] at h1
 omega
theorem qxl (k : Nat) (hk : 10 ≤ k) (o : vY) (f : Q7) : qea k o f = some (Vg o f) := by
 unfold qea Vg
 rw [qjt, qwy, qb, qd rfl]
 by_cases h : Q4 o = 0
 ·obtain ⟨h1, h2, h3, h4, h5⟩ := qQM o f
  obtain ⟨k', hk'⟩ : ∃ q, k = q + 7 := ⟨k - 7, by omega⟩
  rw [show (Q4 o != (0 : Int)) = false by rw [h]; rfl, qg]
  show Q3 k k [] (f, o) = some (if Q4 o ≠ 0 then _ else _)
  rw [qm (fun x => x h)]
  conv => lhs; arg 2; rw [hk']
  rw [jp1 k _ [] (f, o) (by simp), jp2 k _ _ (f, o) h1, jp3 k _ _ (f, o) h2, jp4 k _ _ (f, o) h3, jp5 k _ _ (f, o) h4, jp6 k _ _ (f, o) h5, Qi]
  rfl
 ·rw [bne_iff_ne.2 h, qi, qd h]
theorem qKv (k : Nat) (hk : 10 ≤ k) (o : vY) (f : Q7) : qbR k o f = Vg o f := by unfold qbR; rw [qxl k hk]; rfl
theorem jr7 (k j : Nat) (o : vY) (f : Q7) (y : List Int) (hy : y.length ≤ 20) : WD k (j + 1) o f y = Zh k j o f (jd (!f.2.1) 2 y) := by rw [WD]; exact We (g := fun y => Zh k j o f y) hy
theorem jr9 (k j : Nat) (o : vY) (f : Q7) (y : List Int) (hy : y.length ≤ 20) : Zh k (j + 1) o f y = Wn k j o f (jd (f.2.2.1 != o.2.2.1) 3 y) := by rw [Zh]; exact We (g := fun y => Wn k j o f y) hy
theorem qTd (k j : Nat) (o : vY) (f : Q7) (y : List Int) (hy : y.length ≤ 20) : Wn k (j + 1) o f y = Wu k j o f (jd (decide (f.2.2.2.1 < qa .i64 (o.2.2.2.2.1 - o.2.2.2.2.2.1)) || decide (f.2.2.2.1 > o.2.2.2.2.1)) 4 y) := by rw [Wn]; exact We (g := fun y => Wu k j o f y) hy
theorem qS6 (k j : Nat) (o : vY) (f : Q7) (y : List Int) (hy : y.length ≤ 20) : Wu k (j + 1) o f y = Wp k j o f (jd (decide (f.2.2.2.2.1 > o.2.2.2.2.2.2.2.2.2.1)) 5 y) := by rw [Wu]; exact We (g := fun y => Wp k j o f y) hy
theorem qTb (k j : Nat) (o : vY) (f : Q7) (y : List Int) (hy : y.length ≤ 20) : Wp k (j + 1) o f y = ZE k j (jd (decide (f.2.2.2.2.2 > o.2.2.2.2.2.2.2.2.2.2.1)) 6 y) := by rw [Wp]; exact We (g := fun y => ZE k j y) hy
theorem qt9 (k : Nat) (hk : 10 ≤ k) (o : vY) (f : Q7) : qd4 k o f = some (Vg o f) := by
 unfold qd4 Vg
 rw [qkG, qrJ, qb, qd rfl]
 by_cases h : Q4 o = 0
 ·obtain ⟨h1, h2, h3, h4, h5⟩ := qQM o f
  obtain ⟨k', hk'⟩ : ∃ q, k = q + 6 := ⟨k - 6, by omega⟩
  rw [show (Q4 o != (0 : Int)) = false by rw [h]; rfl, qg]
  have e : (bif (f.1 != o.2.1) then (if ([(1 : Int)].length * (8 : Nat) ≤ (140737488355328 : Nat)) then WD k k o f [1] else none) else WD k k o f []) = WD k k o f (jd (f.1 != o.2.1) 1 []) := by
   unfold jd
   cases (f.1 != o.2.1)
   ·rfl
   ·rw [qi, qi, qd (by decide)]; rfl
  refine Eq.trans e ?_
  rw [qm (fun x => x h)]
  conv => lhs; arg 2; rw [hk']
  rw [jr7 k _ o f _ h1, jr9 k _ o f _ h2, qTd k _ o f _ h3, qS6 k _ o f _ h4, qTb k _ o f _ h5, ZE]
  rfl
 ·rw [bne_iff_ne.2 h, qi, qd h]
theorem qGs (k : Nat) (hk : 10 ≤ k) (o : vY) (f : Q7) : qce k o f = Vg o f := by unfold qce; rw [qt9 k hk]; rfl
theorem qvX (o : vY) (f : Q7) : (Vg o f).1.length ≤ 6 := by
 unfold Vg; split
 ·simp
 ·exact qMD o f
def wv1 (w : Wv) : Int := bif (decide (w.1 < (1 : Int)) || decide (w.1 > (1000000 : Int))) then 1 else bif (decide (w.2.1 < (1 : Int)) || decide (w.2.1 > (6 : Int))) then 17 else bif (decide (w.2.2 < (0 : Int)) || decide (w.2.2 > (2147483647 : Int))) then 1 else 0
def Ye : List Wv → Int
 | [] => 0
 | w :: t => bif wv1 w != 0 then wv1 w else Ye t
def XB (roll : Int) (l : List Wv) (n : Int) : Bool := l.any fun w => w.1 == roll && w.2.1 == n
def unw (roll : Int) (l : List Wv) (q : List Int) : List Int := q.filter fun n => !XB roll l n
theorem qMw (k : Nat) (l : List Wv) (hl : l.length ≤ 40) : ∀ (d i j : Nat), i + d = l.length → d < j → V6 k j l (l.length : Int) (i : Int) = some (Ye (l.drop i)) := by
 intro d
 induction d with
 | zero =>
  intro i j hi hj
  obtain ⟨j, rfl⟩ := qQ (by omega : 0 < j)
  rw [V6, qx (by omega : ¬ (i : Int) < (l.length : Int)), qg, qh (by omega)]; rfl
 | succ d ih =>
  intro i j hi hj
  obtain ⟨j, rfl⟩ := qQ (by omega : 0 < j)
  rw [V6, qA (by omega : (i : Int) < (l.length : Int)), qi, qd ⟨by omega, by omega⟩, qc, qF i (by omega), ih (i + 1) j (by omega) (by omega), qq l i T10.dflt (by omega), Ye]
  unfold wv1
  cases (decide ((l.getD i T10.dflt).1 < (1 : Int)) || decide ((l.getD i T10.dflt).1 > (1000000 : Int)))
  ·cases (decide ((l.getD i T10.dflt).2.1 < (1 : Int)) || decide ((l.getD i T10.dflt).2.1 > (6 : Int)))
   ·cases (decide ((l.getD i T10.dflt).2.2 < (0 : Int)) || decide ((l.getD i T10.dflt).2.2 > (2147483647 : Int))) <;> rfl
   ·rfl
  ·rfl
theorem qxt (k : Nat) (hk : 100 ≤ k) (l : List Wv) (hl : l.length ≤ 40) : qeN k l = some (Ye l) := by
 unfold qeN
 rw [qx (by omega : ¬ (l.length : Int) > 512), qg]
 exact qMw k l hl l.length 0 k (by omega) (by omega)
theorem qJw (k : Nat) (hk : 100 ≤ k) (l : List Wv) (hl : l.length ≤ 40) : qfe k l = Ye l := by unfold qfe; rw [qxt k hk l hl]; rfl
theorem qMy (k : Nat) (roll : Int) (l : List Wv) (q : List Int) (hq : q.length ≤ 6) (M : List (Int × Bool)) (hM : ∀ x, (wd I (β := Bool) x M).getD false = XB roll l x) : ∀ (d i j : Nat) (out : List Int), i + d = q.length → d < j → out.length ≤ i →
  Wj k j q (q.length : Int) (i : Int) M out = some (out ++ unw roll l (q.drop i), 0) := by
 intro d
 induction d with
 | zero =>
  intro i j out hi hj ho
  obtain ⟨j, rfl⟩ := qQ (by omega : 0 < j)
  rw [Wj, qx (by omega : ¬ (i : Int) < (q.length : Int)), qg, qh (by omega)]
  show some (out, (0 : Int)) = some (out ++ [], 0)
  rw [qY]
 | succ d ih =>
  intro i j out hi hj ho
  obtain ⟨j, rfl⟩ := qQ (by omega : 0 < j)
  rw [Wj, qA (by omega : (i : Int) < (q.length : Int)), qi, qd ⟨by omega, by omega⟩, qc, qF i (by omega), ih (i + 1) j out (by omega) (by omega) (by omega), ih (i + 1) j (out ++ [q.getD i I.dflt]) (by omega) (by omega) (by rw [qn, qk]; omega), qd (by simp only [qk]; omega), qq q i I.dflt (by omega)]
  unfold unw
  rw [List.filter_cons]
  show (bif !(wd I (β := Bool) (q.getD i I.dflt) M).getD false then _ else _) = _
  rw [hM]
  cases XB roll l (q.getD i I.dflt)
  ·rw [qd1, qi, qd rfl, qw]; rfl
  ·rw [vB, qg, qm (fun h => by cases h)]
theorem qQi (k : Nat) (roll : Int) (l0 : List Wv) (hl : l0.length ≤ 40) (q : List Int) (hq : q.length ≤ 6) : ∀ (d i j : Nat) (M : List (Int × Bool)), i + d = l0.length → d + 20 < j → (∀ x, (wd I (β := Bool) x M).getD false = XB roll (l0.take i) x) →
  ZK k j roll q l0 (l0.length : Int) (i : Int) M = some (unw roll l0 q, 0) := by
 intro d
 induction d with
 | zero =>
  intro i j M hi hj hM
  obtain ⟨j, rfl⟩ := qQ (by omega : 0 < j)
  rw [wI (by omega)] at hM
  rw [ZK, qx (by omega : ¬ (i : Int) < (l0.length : Int)), qg]
  exact qMy k roll l0 q hq M hM q.length 0 j [] (by omega) (by omega) (by simp)
 | succ d ih =>
  intro i j M hi hj hM
  obtain ⟨j, rfl⟩ := qQ (by omega : 0 < j)
  have htk : l0.take (i + 1) = l0.take i ++ [l0.getD i T10.dflt] := wU l0 i T10.dflt (by omega)
  have hw : ∀ x, XB roll (l0.take (i + 1)) x = (XB roll (l0.take i) x || ((l0.getD i T10.dflt).1 == roll && (l0.getD i T10.dflt).2.1 == x)) := fun x => by
   rw [htk]
   unfold XB
   rw [List.any_append, List.any_cons, List.any_nil, Bool.or_false]
  rw [ZK, qA (by omega : (i : Int) < (l0.length : Int)), qi, qd ⟨by omega, by omega⟩, qc, qF i (by omega)]
  cases hc : ((l0.getD i T10.dflt).1 == roll)
  ·rw [qg]
   exact ih (i + 1) j M (by omega) (by omega) fun x => by rw [hw x, hc, wD, Bool.or_false]; exact hM x
  ·rw [qi]
   exact ih (i + 1) j _ (by omega) (by omega) fun x => by rw [qkV, hM x, hw x, hc, ww, Bool.or_comm]
def QJ (o : vY) (f : Q7) (roll : Int) (l : List Wv) : List Int × Int := if (Vg o f).2 ≠ 0 then ([], (Vg o f).2) else if Ye l ≠ 0 then ([], Ye l) else (unw roll l (Vg o f).1, 0)
theorem qvc {o : vY} {f : Q7} {roll : Int} {l : List Wv} (h : (Vg o f).2 ≠ 0) : QJ o f roll l = ([], (Vg o f).2) := by unfold QJ; rw [qd h]
theorem qwf {o : vY} {f : Q7} {roll : Int} {l : List Wv} (h : (Vg o f).2 = 0) (h2 : Ye l ≠ 0) : QJ o f roll l = ([], Ye l) := by unfold QJ; rw [qm (fun x => x h), qd h2]
theorem qv3 {o : vY} {f : Q7} {roll : Int} {l : List Wv} (h : (Vg o f).2 = 0) (h2 : Ye l = 0) : QJ o f roll l = (unw roll l (Vg o f).1, 0) := by unfold QJ; rw [qm (fun x => x h), qm (fun x => x h2)]
theorem qpX (k : Nat) (hk : 200 ≤ k) (o : vY) (f : Q7) (roll : Int) (l : List Wv) (hl : l.length ≤ 40) : qeo k o f roll l = some (QJ o f roll l) := by
 unfold qeo
 rw [qxl k (by omega), qKv k (by omega), qxt k (by omega) l hl, qJw k (by omega) l hl, qb, qd rfl]
 by_cases h : (Vg o f).2 = 0
 ·rw [show ((Vg o f).2 != (0 : Int)) = false by rw [h]; rfl, qg, qb, qd rfl]
  by_cases h2 : Ye l = 0
  ·rw [qv3 h h2, show (Ye l != (0 : Int)) = false by rw [h2]; rfl, qg]
   exact qQi k roll l hl (Vg o f).1 (qvX o f) l.length 0 k [] (by omega) (by omega) (fun x => rfl)
  ·rw [qwf h h2, bne_iff_ne.2 h2, qi]
 ·rw [qvc h, bne_iff_ne.2 h, qi]
theorem qAx (k : Nat) (hk : 200 ≤ k) (o : vY) (f : Q7) (roll : Int) (l : List Wv) (hl : l.length ≤ 40) : qb1 k o f roll l = QJ o f roll l := by unfold qb1; rw [qpX k hk o f roll l hl]; rfl
def qf5 (o : vY) (f : Q7) (roll : Int) (l : List Wv) : Int := bif (QJ o f roll l).2 != 0 then (QJ o f roll l).2 else bif decide (((QJ o f roll l).1.length : Int) > 0) then 31 else 0
theorem qpz (k : Nat) (hk : 200 ≤ k) (o : vY) (f : Q7) (roll : Int) (l : List Wv) (hl : l.length ≤ 40) : qeR k o f roll l = some (qf5 o f roll l) := by
 unfold qeR qf5
 rw [qpX k hk o f roll l hl, qAx k hk o f roll l hl, qb, qd rfl]
 cases ((QJ o f roll l).2 != 0)
 ·cases decide (((QJ o f roll l).1.length : Int) > 0) <;> rfl
 ·rfl
theorem qzW (k : Nat) (hk : 200 ≤ k) (o : vY) (f : Q7) (roll : Int) (l : List Wv) (hl : l.length ≤ 40) : qas k o f roll l = qf5 o f roll l := by unfold qas; rw [qpz k hk o f roll l hl]; rfl
theorem qGC (k : Nat) (roll : Int) (l : List Wv) (hl : l.length ≤ 40) (q : List Int) (c : Nat) (hc : c < q.length) (hq : q.length ≤ 6) (out : List Int) (ho : out.length ≤ 6) : ∀ (d i j : Nat) (y : Bool), i + d = l.length →
  Zs k (d + 1 + j) roll l q (c : Int) y (i : Int) out = QC k j roll l q ((c + 1 : Nat) : Int) (bif (y || XB roll (l.drop i) (q.getD c I.dflt)) then out else out ++ [q.getD c I.dflt]) := by
 have c3 : (0 : Int) ≤ (c : Int) := by omega
 have c4 : (c : Int) < (q.length : Int) := by omega
 intro d
 induction d with
 | zero =>
  intro i j y hi
  rw [show 0 + 1 + j = j + 1 by omega, Zs, qx (by omega : ¬ (i : Int) < (l.length : Int)), qg, qh (by omega), qc, qd ⟨c3, c4, by simp only [qk]; omega⟩, qF c (by omega)]
  cases y <;> rfl
 | succ d ih =>
  intro i j y hi
  have h3 : (0 : Int) ≤ (i : Int) := by omega
  have h4 : (i : Int) < (l.length : Int) := by omega
  rw [show d + 1 + 1 + j = (d + 1 + j) + 1 by omega, Zs, qA h4, qi, qd ⟨fun _ => h3, fun _ => h4, fun _ _ => h3, fun _ _ => h4, fun _ _ => c3, fun _ _ => c4⟩, qc, qc, qF i (by omega), ih (i + 1) j _ (by omega), qq l i T10.dflt (by omega), Bool.or_assoc]
  rfl
theorem qF9 (k : Nat) (roll : Int) (l : List Wv) (hl : l.length ≤ 40) (q : List Int) (hq : q.length ≤ 6) : ∀ (d c j : Nat) (out : List Int), c + d = q.length → d * 50 < j → out.length ≤ c →
  QC k j roll l q (c : Int) out = some (out ++ unw roll l (q.drop c), 0) := by
 intro d
 induction d with
 | zero =>
  intro c j out hc hj ho
  obtain ⟨j, rfl⟩ := qQ (by omega : 0 < j)
  rw [QC, qx (by omega : ¬ (c : Int) < (q.length : Int)), qg, qh (by omega)]
  show some (out, (0 : Int)) = some (out ++ [], 0)
  rw [qY]
 | succ d ih =>
  intro c j out hc hj ho
  rw [qTX] at hj
  generalize hz : d * 50 = z at *
  obtain ⟨j, rfl⟩ : ∃ q, j = (l.length + 1 + q) + 1 := ⟨j - l.length - 2, by omega⟩
  have h21 := qGC k roll l hl q c (by omega) hq out (by omega) l.length 0 j false (by omega)
  rw [wm, zn] at h21
  rw [show ((0 : Nat) : Int) = 0 from rfl] at h21
  rw [QC, qA (by omega : (c : Int) < (q.length : Int)), qi, h21, qq q c I.dflt (by omega)]
  unfold unw
  rw [List.filter_cons]
  cases XB roll l (q.getD c I.dflt)
  ·rw [qg, qd1, qd rfl, ih (c + 1) j _ (by omega) (by omega) (by rw [qn, qk]; omega), qw]
   rfl
  ·rw [qi, vB, qm (fun h => by cases h), ih (c + 1) j out (by omega) (by omega) (by omega)]
   rfl
theorem qNc (k : Nat) (roll : Int) (l : List Wv) (hl : l.length ≤ 40) (q : List Int) (hq : q.length ≤ 6) : ∀ (d i j : Nat), i + d = l.length → d + 310 < j →
  VS k j roll l q (i : Int) = some (bif Ye (l.drop i) != 0 then ([], Ye (l.drop i)) else (unw roll l q, 0)) := by
 intro d
 induction d with
 | zero =>
  intro i j hi hj
  obtain ⟨j, rfl⟩ := qQ (by omega : 0 < j)
  rw [VS, qx (by omega : ¬ (i : Int) < (l.length : Int)), qg, qh (by omega), Ye, bne_self_eq_false, qg]
  exact qF9 k roll l hl q hq q.length 0 j [] (by omega) (by omega) (by simp)
 | succ d ih =>
  intro i j hi hj
  obtain ⟨j, rfl⟩ := qQ (by omega : 0 < j)
  have h3 : (0 : Int) ≤ (i : Int) := by omega
  have h4 : (i : Int) < (l.length : Int) := by omega
  rw [VS, qA h4, qi, qd ⟨h3, h4, fun _ => h3, fun _ => h4⟩, qd ⟨h3, h4, fun _ => h3, fun _ => h4⟩, qd ⟨h3, h4, fun _ => h3, fun _ => h4⟩, qc, qF i (by omega), ih (i + 1) j (by omega) (by omega), qq l i T10.dflt (by omega), Ye]
  unfold wv1
  cases (decide ((l.getD i T10.dflt).1 < (1 : Int)) || decide ((l.getD i T10.dflt).1 > (1000000 : Int)))
  ·cases (decide ((l.getD i T10.dflt).2.1 < (1 : Int)) || decide ((l.getD i T10.dflt).2.1 > (6 : Int)))
   ·cases (decide ((l.getD i T10.dflt).2.2 < (0 : Int)) || decide ((l.getD i T10.dflt).2.2 > (2147483647 : Int))) <;> rfl
   ·rfl
  ·rfl
theorem qmz (k : Nat) (hk : 400 ≤ k) (o : vY) (f : Q7) (roll : Int) (l : List Wv) (hl : l.length ≤ 40) : qes k o f roll l = some (QJ o f roll l) := by
 unfold qes
 rw [qt9 k (by omega), qGs k (by omega), qb, qd rfl, qx (by omega : ¬ (l.length : Int) > 512), qg]
 by_cases h : (Vg o f).2 = 0
 ·have h7 := qNc k roll l hl (Vg o f).1 (qvX o f) l.length 0 k (by omega) (by omega)
  rw [wm] at h7
  rw [show ((0 : Nat) : Int) = 0 from rfl] at h7
  rw [show ((Vg o f).2 != (0 : Int)) = false by rw [h]; rfl, qg, h7]
  by_cases h2 : Ye l = 0
  ·rw [qv3 h h2, show (Ye l != (0 : Int)) = false by rw [h2]; rfl, qg]
  ·rw [qwf h h2, bne_iff_ne.2 h2, qi]
 ·rw [qvc h, bne_iff_ne.2 h, qi]
theorem qxz (k : Nat) (hk : 400 ≤ k) (o : vY) (f : Q7) (roll : Int) (l : List Wv) (hl : l.length ≤ 40) : qbz k o f roll l = QJ o f roll l := by unfold qbz; rw [qmz k hk o f roll l hl]; rfl
theorem qm1 (k : Nat) (hk : 400 ≤ k) (o : vY) (f : Q7) (roll : Int) (l : List Wv) (hl : l.length ≤ 40) : qe3 k o f roll l = some (qf5 o f roll l) := by
 unfold qe3 qf5
 rw [qmz k hk o f roll l hl, qxz k hk o f roll l hl, qb, qd rfl]
 cases ((QJ o f roll l).2 != 0)
 ·cases decide (((QJ o f roll l).1.length : Int) > 0) <;> rfl
 ·rfl
theorem qxE (k : Nat) (hk : 400 ≤ k) (o : vY) (f : Q7) (roll : Int) (l : List Wv) (hl : l.length ≤ 40) : qb7 k o f roll l = qf5 o f roll l := by unfold qb7; rw [qm1 k hk o f roll l hl]; rfl
end Go.AM
namespace Go.AM
open Go Go.Proofs
noncomputable section
abbrev qEu (a : T11.T) (r : Int) : Prop := CC Tryz.prog 92 [.agg (qy (qr T11 a))] [] (ri r) (nb r)
def qAJ := fun y0 y1 => (⟨qI 51 [(1, .ptr 1000000 0 0), (3, ri y0)], [(1000000, 0, .var 76 (qy (qr T11 y1)))]⟩ : St)
def V5 (k : Nat) : Nat → Int → T11.T → Option Int
 | 0, _, _ => none
 | j + 1, y0, y1 =>
 bif y0 < (↑ (qe y1.2.2) : Int) then
 if (0 ≤ y0) ∧ (y0 < (↑ (qe y1.2.2) : Int)) ∧ (decide (qM y1.2.2 y0.toNat I.dflt < (1 : Int)) = false → 0 ≤ y0) ∧ (decide (qM y1.2.2 y0.toNat I.dflt < (1 : Int)) = false → y0 < (↑ (qe y1.2.2) : Int)) then
 bif (decide (qM y1.2.2 y0.toNat I.dflt < (1 : Int)) || decide (qM y1.2.2 y0.toNat I.dflt > (1000000 : Int))) then
 some 1
 else
 V5 k j (qa .i64 (y0 + 1)) y1
 else none
 else
 some 0
def qfj (k : Nat) (a : T11.T) : Option Int :=
 bif (decide (a.1 < (1 : Int)) || decide (a.1 > (1000000 : Int)) || decide (a.2.1 < (0 : Int)) || decide (a.2.1 > (2147483647 : Int))) then
 some 1
 else
 bif ((↑ (qe a.2.2) : Int) == (0 : Int)) then
 some 10
 else
 bif (↑ (qe a.2.2) : Int) > (512 : Int) then
 some 8
 else
 V5 k k 0 a
def qeI := fun k a => (qfj k a).getD 0
def qwr (k : Nat) : Ke := (92, mo 1, fun
 | [.agg b], [] => (qW [] T11 b).bind fun a => some (.one (ri (qeI k a), []))
 | _, _ => none)
def qwA : List (Nat × List Cmd) := [(8, [.autoB [1, 3] false []])]
abbrev qOz := EP Tryz.f92 0 ri nb
theorem quY (k) : ∀ j, (∀ y0 y1, qOz 8 (qAJ y0 y1) (V5 k j y0 y1))
 | 0 => by intros; exact e0
 | j + 1 => by
  have ih := @quY k j
  ·intro y0 y1 r h
   rw [V5] at h
   exact go (qD []) [] qwA [.autoB [2] true []] (gS h (fun h => gN h Xs fun h => qB h fun h => gC h 8 (ih _ _ _)) fun h => gL h)
theorem qLa (k a r) (h : qfj k a = some r): qEu a r := qN Tryz.f92 (go (qD []) [] qwA [.autoB [2] true []] (qB h fun h => qB h fun h => qB h fun h => gC h 8 ((quY k k) _ _ _)))
theorem qMH {k a} (h : (qfj k a).isSome): qEu a (qeI k a) := qJ h (qLa k a)
abbrev qBe (a : List T11.T) (r : Int) : Prop := CC Tryz.prog 50 [ro T11 a] [] (ri r) (nb r)
def qAI := fun y0 y1 => (⟨qI 104 [(0, ro T11 y0), (3, ri y1)], []⟩ : St)
def qy8 := fun y0 y1 y2 => (⟨qI 104 [(0, ro T11 y0), (5, .own 1000000 0), (6, ri y1)], [(1000000, 0, .row 3 I y2)]⟩ : St)
def qxZ := fun y0 y1 => (⟨qI 104 [(0, ro T11 y0), (7, ri y1)], []⟩ : St)
def qxJ := fun y0 y1 y2 => (⟨qI 104 [(0, ro T11 y0), (8, .own 1000000 0), (9, ri y1)], [(1000000, 0, .row 3 I y2)]⟩ : St)
def qy0 := fun y0 y1 y2 y3 => (⟨qI 104 [(0, ro T11 y0), (8, .own 1000000 0), (9, ri y1), (10, ri y2)], [(1000000, 0, .row 3 I y3)]⟩ : St)
mutual
def VY (k : Nat) : Nat → List T11.T → Int → Option Int
 | 0, _, _ => none
 | j + 1, y0, y1 =>
 bif y1 < y0.length then
 if (0 ≤ y1) ∧ (y1 < y0.length) ∧ ((qfj k (y0.getD y1.toNat T11.dflt)).isSome) then
 bif (qeI k (y0.getD y1.toNat T11.dflt) != (0 : Int)) then
 some (qeI k (y0.getD y1.toNat T11.dflt))
 else
 VY k j y0 (qa .i64 (y1 + 1))
 else none
 else
 Zw k j y0 0 ([])
def Zw (k : Nat) : Nat → List T11.T → Int → List I.T → Option Int
 | 0, _, _, _ => none
 | j + 1, y0, y1, y2 =>
 bif y1 < y0.length then
 if (0 ≤ y1) ∧ (y1 < y0.length) ∧ ((qaq k y2 (y0.getD y1.toNat T11.dflt).1).isSome) then
 bif (qb0 k y2 (y0.getD y1.toNat T11.dflt).1) then
 some 6
 else
 if (0 ≤ y1) ∧ (y1 < y0.length) ∧ ((y2.length + [(y0.getD y1.toNat T11.dflt).1].length) * (8 : Nat) ≤ (140737488355328 : Nat)) then
 Zw k j y0 (qa .i64 (y1 + 1)) (y2 ++ [(y0.getD y1.toNat T11.dflt).1])
 else none
 else none
 else
 Wi k j y0 1
def Wi (k : Nat) : Nat → List T11.T → Int → Option Int
 | 0, _, _ => none
 | j + 1, y0, y1 =>
 bif y1 < y0.length then
 if (0 ≤ y1) ∧ (y1 < y0.length) ∧ ((0 : Int) ≤ qa .i64 (y1 - 1)) ∧ (qa .i64 (y1 - 1) < (↑y0.length : Int)) then
 bif (y0.getD y1.toNat T11.dflt).2.1 < (y0.getD (qa .i64 (y1 - 1)).toNat T11.dflt).2.1 then
 some 9
 else
 Wi k j y0 (qa .i64 (y1 + 1))
 else none
 else
 vW k j y0 0 ([])
def vW (k : Nat) : Nat → List T11.T → Int → List I.T → Option Int
 | 0, _, _, _ => none
 | j + 1, y0, y1, y2 =>
 bif y1 < y0.length then
 Zt k j y0 y1 0 y2
 else
 some 0
def Zt (k : Nat) : Nat → List T11.T → Int → Int → List I.T → Option Int
 | 0, _, _, _, _ => none
 | j + 1, y0, y1, y2, y3 =>
 if (0 ≤ y1) ∧ (y1 < y0.length) then
 bif y2 < (↑ (qe (y0.getD y1.toNat T11.dflt).2.2) : Int) then
 if (0 ≤ y1) ∧ (y1 < y0.length) ∧ (0 ≤ y2) ∧ (y2 < (↑ (qe (y0.getD y1.toNat T11.dflt).2.2) : Int)) ∧ ((qaq k y3 (qM (y0.getD y1.toNat T11.dflt).2.2 y2.toNat I.dflt)).isSome) then
 bif (qb0 k y3 (qM (y0.getD y1.toNat T11.dflt).2.2 y2.toNat I.dflt)) then
 some 34
 else
 if (0 ≤ y1) ∧ (y1 < y0.length) ∧ (0 ≤ y2) ∧ (y2 < (↑ (qe (y0.getD y1.toNat T11.dflt).2.2) : Int)) ∧ ((y3.length + [qM (y0.getD y1.toNat T11.dflt).2.2 y2.toNat I.dflt].length) * (8 : Nat) ≤ (140737488355328 : Nat)) then
 Zt k j y0 y1 (qa .i64 (y2 + 1)) (y3 ++ [qM (y0.getD y1.toNat T11.dflt).2.2 y2.toNat I.dflt])
 else none
 else none
 else
 vW k j y0 (qa .i64 (y1 + 1)) y3
 else none
end
def qbI (k : Nat) (a : List T11.T) : Option Int :=
 bif (↑a.length : Int) > (512 : Int) then
 some 8
 else
 VY k k a 0
def XA := fun k a => (qbI k a).getD 0
def qoq (k : Nat) : Ke := (50, mo 1, fun
 | [.r (.ro d b)], [] => (qE d T11 b).bind fun a => some (.one (ri (XA k a), []))
 | _, _ => none)
def qwG : List (Nat × List Cmd) := [(4, [.autoB [0, 3] false []]), (11, [.row 5 3 I, .autoB [0, 5, 6] false []]), (17, [.autoB [0, 7] false []]), (23, [.row 8 3 I, .autoB [0, 8, 9] false []]), (26, [.row 8 3 I, .autoB [0, 8, 9, 10] false []])]
abbrev qix := EP Tryz.f50 0 ri nb
theorem qvI (k) : ∀ j, (∀ {y0 y1}, qix 4 (qAI y0 y1) (VY k j y0 y1)) ∧ (∀ {y0 y1 y2}, qix 11 (qy8 y0 y1 y2) (Zw k j y0 y1 y2)) ∧ (∀ {y0 y1}, qix 17 (qxZ y0 y1) (Wi k j y0 y1)) ∧ (∀ {y0 y1 y2}, qix 23 (qxJ y0 y1 y2) (vW k j y0 y1 y2)) ∧ (∀ {y0 y1 y2 y3}, qix 26 (qy0 y0 y1 y2 y3) (Zt k j y0 y1 y2 y3))
 | 0 => by and_intros <;> intros <;> exact e0
 | j + 1 => by
  have ih := @qvI k j
  have g := @go (qD [qwr k, qj1 k]) [] qwG [.autoB [2] true []]
  refine ⟨?_, ?_, ?_, ?_, ?_⟩
  ·intro y0 y1 r h
   rw [VY] at h
   exact g (gS h (fun h => gN h (fun q => qf q.1 (qf q.2.1 (qf (qMH q.2.2) qR))) fun h => qB h fun h => gD h 4 ih.1) fun h => gD h 11 ih.2.1)
  ·intro y0 y1 y2 r h
   rw [Zw] at h
   exact g (gS h (fun h => gN h (fun q => qf q.1 (qf q.2.1 (qf (qo4 q.2.2) qR))) fun h => qB h fun h => gN h Xn fun h => gD h 11 ih.2.1) fun h => gD h 17 ih.2.2.1)
  ·intro y0 y1 r h
   rw [Wi] at h
   exact g (gS h (fun h => gN h Xs fun h => qB h fun h => gD h 17 ih.2.2.1) fun h => gD h 23 ih.2.2.2.1)
  ·intro y0 y1 y2 r h
   rw [vW] at h
   exact g (gS h (fun h => gD h 26 ih.2.2.2.2) fun h => gL h)
  ·intro y0 y1 y2 y3 r h
   rw [Zt] at h
   exact g (qS h fun h => gS h (fun h => gN h (fun q => qf q.1 (qf q.2.1 (qf q.2.2.1 (qf q.2.2.2.1 (qf (qo4 q.2.2.2.2) qR))))) fun h => qB h fun h => gN h (fun q => qf q.1 (qf q.2.1 (qf q.2.2.1 (qf q.2.2.2.1 (qf q.2.2.2.2 qR))))) fun h => gD h 26 ih.2.2.2.2) fun h => gD h 23 ih.2.2.2.1)
theorem qMb (k a r) (h : qbI k a = some r): qBe a r := qN Tryz.f50 (go (qD [qwr k, qj1 k]) [] qwG [.autoB [2] true []] (qB h fun h => gD h 4 (qvI k k).1))
theorem qvW {k a} (h : (qbI k a).isSome): qBe a (XA k a) := qJ h (qMb k a)
end
end Go.AM
