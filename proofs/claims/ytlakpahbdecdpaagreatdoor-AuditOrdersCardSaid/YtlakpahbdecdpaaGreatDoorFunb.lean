/- Contracts of the functions that the law reaches, and the plain law. -/
import Derived.Test.YtlakpahbdecdpaaGreatDoorFuna
set_option linter.unusedVariables false
set_option linter.unusedSimpArgs false
set_option linter.unusedSectionVars false
open Bool renaming and_eq_true → qj, and_false → qHb, false_and → wD, false_eq_true → qG, false_or → zn, not_false → qd1, not_true → vB, or_eq_false_iff → WN, or_eq_true → qJr, true_and → ww, true_or → zX
open Int renaming le_refl → Wg, toNat → qt, toNat_natCast → qc
open List renaming all_eq_true → vA, append_assoc → qw, append_nil → qY, cons_append → qpk, drop → qaJ, drop_of_length_le → qh, drop_zero → wm, length → qe, length_append → qn, length_cons → wc, length_singleton → qk, length_take → Qt, mem_append → zW, mem_cons → qK, nil_append → qH, pairwise_cons → zK, take → qdv, take_append_drop → qnA, take_of_length_le → wI
open Nat renaming le_refl → qT
open Option renaming getD_some → qRI, isSome_some → qb
open Go.IntKind renaming wrap → qa
namespace Go.AM
open Go Go.Proofs
noncomputable section
def qnM (r : List T3.T × Int) : AV := .tup [ro T3 r.1, ri r.2]
abbrev qIL (a : List T3.T) (b : List T3.T) (r : List T3.T × Int) : Prop := CC Tryz.prog 135 [ro T3 a, ro T3 b] [] (qnM r) (nb r)
def qFG := fun y0 y1 y2 y3 => (⟨qI 101 [(0, ro T3 y0), (1, ro T3 y1), (8, ro T3 y2), (9, ri y3)], []⟩ : St)
def qCW := fun y0 y1 y2 y3 y4 => (⟨qI 101 [(0, ro T3 y0), (1, ro T3 y1), (8, ro T3 y2), (9, ri y3), (10, .ptr 1000000 0 0)], [(1000000, 0, .var 49 (qy (qr T3 y4)))]⟩ : St)
mutual
def W2 (k : Nat) : Nat → List T3.T → List T3.T → List T3.T → Int → Option (List T3.T × Int)
 | 0, _, _, _, _ => none
 | j + 1, y0, y1, y2, y3 =>
 bif y3 < y0.length then
 if (0 ≤ y3) ∧ (y3 < y0.length) then
 Qf k j y0 y1 y2 y3 (y0.getD y3.toNat T3.dflt)
 else none
 else
 if ((qdi k y2).isSome) then
 some ((qcS k y2).1, (qcS k y2).2)
 else none
def Qf (k : Nat) : Nat → List T3.T → List T3.T → List T3.T → Int → T3.T → Option (List T3.T × Int)
 | 0, _, _, _, _, _ => none
 | j + 1, y0, y1, y2, y3, y4 =>
 bif y4.2.1 > (0 : Int) then
 if ((VH k y1 y4.1).isSome) then
 bif (qO k y1 y4.1).1 < (0 : Int) then
 some ([], 21)
 else
 if ((0 : Int) ≤ (qO k y1 y4.1).1) ∧ ((qO k y1 y4.1).1 < (↑y1.length : Int)) then
 bif y4.2.2 then
 if ((VE k (y1.getD (qO k y1 y4.1).1.toNat T3.dflt) (qO k y1 y4.1).2).isSome) ∧ ((qgi k y2 (zi k (y1.getD (qO k y1 y4.1).1.toNat T3.dflt) (qO k y1 y4.1).2, if qa .i64 ((qO k y1 y4.1).2 + 1) < y4.2.1 then qa .i64 ((qO k y1 y4.1).2 + 1) else y4.2.1, ! (y1.getD (qO k y1 y4.1).1.toNat T3.dflt).2.2 && decide ((if qa .i64 ((qO k y1 y4.1).2 + 1) < y4.2.1 then qa .i64 ((qO k y1 y4.1).2 + 1) else y4.2.1) > 1))).isSome) then
 bif ((if qa .i64 ((qO k y1 y4.1).2 + (1 : Int)) < y4.2.1 then qa .i64 ((qO k y1 y4.1).2 + (1 : Int)) else y4.2.1) == y4.2.1) then
 W2 k j y0 y1 (qcJ k y2 (zi k (y1.getD (qO k y1 y4.1).1.toNat T3.dflt) (qO k y1 y4.1).2, if qa .i64 ((qO k y1 y4.1).2 + 1) < y4.2.1 then qa .i64 ((qO k y1 y4.1).2 + 1) else y4.2.1, ! (y1.getD (qO k y1 y4.1).1.toNat T3.dflt).2.2 && decide ((if qa .i64 ((qO k y1 y4.1).2 + 1) < y4.2.1 then qa .i64 ((qO k y1 y4.1).2 + 1) else y4.2.1) > 1))) (qa .i64 (y3 + 1))
 else
 if ((VE k y4 (if qa .i64 ((qO k y1 y4.1).2 + 1) < y4.2.1 then qa .i64 ((qO k y1 y4.1).2 + 1) else y4.2.1)).isSome) then
 Qf k j y0 y1 (qcJ k y2 (zi k (y1.getD (qO k y1 y4.1).1.toNat T3.dflt) (qO k y1 y4.1).2, if qa .i64 ((qO k y1 y4.1).2 + 1) < y4.2.1 then qa .i64 ((qO k y1 y4.1).2 + 1) else y4.2.1, ! (y1.getD (qO k y1 y4.1).1.toNat T3.dflt).2.2 && decide ((if qa .i64 ((qO k y1 y4.1).2 + 1) < y4.2.1 then qa .i64 ((qO k y1 y4.1).2 + 1) else y4.2.1) > 1))) y3 (zi k y4 (if qa .i64 ((qO k y1 y4.1).2 + 1) < y4.2.1 then qa .i64 ((qO k y1 y4.1).2 + 1) else y4.2.1), (qa .i64 (y4.2.1 - if qa .i64 ((qO k y1 y4.1).2 + 1) < y4.2.1 then qa .i64 ((qO k y1 y4.1).2 + 1) else y4.2.1), y4.2.2))
 else none
 else none
 else
 if ((VE k (y1.getD (qO k y1 y4.1).1.toNat T3.dflt) (qO k y1 y4.1).2).isSome) ∧ ((qgi k y2 (zi k (y1.getD (qO k y1 y4.1).1.toNat T3.dflt) (qO k y1 y4.1).2, if qa .i64 ((y1.getD (qO k y1 y4.1).1.toNat T3.dflt).2.1 - (qO k y1 y4.1).2) < y4.2.1 then qa .i64 ((y1.getD (qO k y1 y4.1).1.toNat T3.dflt).2.1 - (qO k y1 y4.1).2) else y4.2.1, (y1.getD (qO k y1 y4.1).1.toNat T3.dflt).2.2 && decide ((if qa .i64 ((y1.getD (qO k y1 y4.1).1.toNat T3.dflt).2.1 - (qO k y1 y4.1).2) < y4.2.1 then qa .i64 ((y1.getD (qO k y1 y4.1).1.toNat T3.dflt).2.1 - (qO k y1 y4.1).2) else y4.2.1) > 1))).isSome) then
 bif ((if qa .i64 ((y1.getD (qO k y1 y4.1).1.toNat T3.dflt).2.1 - (qO k y1 y4.1).2) < y4.2.1 then qa .i64 ((y1.getD (qO k y1 y4.1).1.toNat T3.dflt).2.1 - (qO k y1 y4.1).2) else y4.2.1) == y4.2.1) then
 W2 k j y0 y1 (qcJ k y2 (zi k (y1.getD (qO k y1 y4.1).1.toNat T3.dflt) (qO k y1 y4.1).2, if qa .i64 ((y1.getD (qO k y1 y4.1).1.toNat T3.dflt).2.1 - (qO k y1 y4.1).2) < y4.2.1 then qa .i64 ((y1.getD (qO k y1 y4.1).1.toNat T3.dflt).2.1 - (qO k y1 y4.1).2) else y4.2.1, (y1.getD (qO k y1 y4.1).1.toNat T3.dflt).2.2 && decide ((if qa .i64 ((y1.getD (qO k y1 y4.1).1.toNat T3.dflt).2.1 - (qO k y1 y4.1).2) < y4.2.1 then qa .i64 ((y1.getD (qO k y1 y4.1).1.toNat T3.dflt).2.1 - (qO k y1 y4.1).2) else y4.2.1) > 1))) (qa .i64 (y3 + 1))
 else
 if ((VE k y4 (if qa .i64 ((y1.getD (qO k y1 y4.1).1.toNat T3.dflt).2.1 - (qO k y1 y4.1).2) < y4.2.1 then qa .i64 ((y1.getD (qO k y1 y4.1).1.toNat T3.dflt).2.1 - (qO k y1 y4.1).2) else y4.2.1)).isSome) then
 Qf k j y0 y1 (qcJ k y2 (zi k (y1.getD (qO k y1 y4.1).1.toNat T3.dflt) (qO k y1 y4.1).2, if qa .i64 ((y1.getD (qO k y1 y4.1).1.toNat T3.dflt).2.1 - (qO k y1 y4.1).2) < y4.2.1 then qa .i64 ((y1.getD (qO k y1 y4.1).1.toNat T3.dflt).2.1 - (qO k y1 y4.1).2) else y4.2.1, (y1.getD (qO k y1 y4.1).1.toNat T3.dflt).2.2 && decide ((if qa .i64 ((y1.getD (qO k y1 y4.1).1.toNat T3.dflt).2.1 - (qO k y1 y4.1).2) < y4.2.1 then qa .i64 ((y1.getD (qO k y1 y4.1).1.toNat T3.dflt).2.1 - (qO k y1 y4.1).2) else y4.2.1) > 1))) y3 (zi k y4 (if qa .i64 ((y1.getD (qO k y1 y4.1).1.toNat T3.dflt).2.1 - (qO k y1 y4.1).2) < y4.2.1 then qa .i64 ((y1.getD (qO k y1 y4.1).1.toNat T3.dflt).2.1 - (qO k y1 y4.1).2) else y4.2.1), (qa .i64 (y4.2.1 - if qa .i64 ((y1.getD (qO k y1 y4.1).1.toNat T3.dflt).2.1 - (qO k y1 y4.1).2) < y4.2.1 then qa .i64 ((y1.getD (qO k y1 y4.1).1.toNat T3.dflt).2.1 - (qO k y1 y4.1).2) else y4.2.1), y4.2.2))
 else none
 else none
 else none
 else none
 else
 W2 k j y0 y1 y2 (qa .i64 (y3 + 1))
end
def qfI (k : Nat) (a : List T3.T) (b : List T3.T) : Option (List T3.T × Int) :=
 if ((Vc k a).isSome) then
 bif (vR k a != (0 : Int)) then
 some ([], vR k a)
 else
 if ((Vc k b).isSome) then
 bif (vR k b != (0 : Int)) then
 some ([], vR k b)
 else
 W2 k k a b ([]) 0
 else none
 else none
def Y0 := fun k a b => (qfI k a b).getD ([], 0)
def qNU (k : Nat) : Ke := (135, mo 2, fun
 | [.r (.ro f d), .r (.ro i e)], [] => (qE f T3 d).bind fun a => (qE i T3 e).bind fun b => some (.one (qnM (Y0 k a b), []))
 | _, _ => none)
def qIE (k : Nat) : Calld := qD [qd5 k, qiz k, qP0 k, qPP k, qOv k]
def qEL : List (Nat × List Cmd) := [(9, [.frz 8 false (RTy.list T3), .autoB [0, 1, 8, 9] false []]), (12, [.autoB [0, 1, 8, 9, 10] false []])]
abbrev qIa := EP Tryz.f135 0 qnM nb
theorem qEs (k) : ∀ j, (∀ {y0 y1 y2 y3}, qIa 9 (qFG y0 y1 y2 y3) (W2 k j y0 y1 y2 y3)) ∧ (∀ {y0 y1 y2 y3 y4}, qIa 12 (qCW y0 y1 y2 y3 y4) (Qf k j y0 y1 y2 y3 y4))
 | 0 => by and_intros <;> intros <;> exact e0
 | j + 1 => by
  have ih := @qEs k j
  have g := @go (qIE k) [] qEL [.frz 4 false (RTy.list T3), .autoB [4, 5] true []]
  refine ⟨?_, ?_⟩
  ·intro y0 y1 y2 y3 r h
   rw [W2] at h
   exact g (gS h (fun h => qS h fun h => gD h 12 ih.2) fun h => qu h qQu fun h => gL h)
  ·intro y0 y1 y2 y3 y4 r h
   rw [Qf] at h
   exact g (gS h (fun h => qu h qP5 fun h => qB h fun h => qS h fun h => gS h (fun h => gN h (fun q => qf (qcj q.1) (qf (qD6 q.2) qR)) fun h => gS h (fun h => gD h 9 ih.1) fun h => qu h qcj fun h => gD h 12 ih.2) fun h => gN h (fun q => qf (qcj q.1) (qf (qD6 q.2) qR)) fun h => gS h (fun h => gD h 9 ih.1) fun h => qu h qcj fun h => gD h 12 ih.2) fun h => gD h 9 ih.1)
theorem qPA (k a b r) (h : qfI k a b = some r): qIL a b r := qN Tryz.f135 (go (qIE k) [] qEL [.frz 4 false (RTy.list T3), .autoB [4, 5] true []] (qu h qb2 fun h => qB h fun h => qu h qb2 fun h => qB h fun h => gD h 9 (qEs k k).1))
theorem qAM {k a b} (h : (qfI k a b).isSome): qIL a b (Y0 k a b) := qJ h (qPA k a b)
abbrev qHY (a : List T21.T) (r : Int) : Prop := CC Tryz.prog 222 [ro T21 a] [] (ri r) (nb r)
def qG1 := fun y0 y1 => (⟨qI 40 [(0, ro T21 y0), (3, ri y1)], []⟩ : St)
def qbr (k : Nat) : Nat → List T21.T → Int → Option Int
 | 0, _, _ => none
 | j + 1, y0, y1 =>
 bif y1 < y0.length then
 if (0 ≤ y1) ∧ (y1 < y0.length) ∧ (decide ((y0.getD y1.toNat T21.dflt).1 < (0 : Int)) = false → 0 ≤ y1) ∧ (decide ((y0.getD y1.toNat T21.dflt).1 < (0 : Int)) = false → y1 < y0.length) ∧ (decide ((y0.getD y1.toNat T21.dflt).1 < (0 : Int)) = false → 0 ≤ y1) ∧ (decide ((y0.getD y1.toNat T21.dflt).1 < (0 : Int)) = false → y1 < y0.length) ∧ ((decide ((y0.getD y1.toNat T21.dflt).1 < (0 : Int)) || decide ((y0.getD y1.toNat T21.dflt).1 > (y0.getD y1.toNat T21.dflt).2)) = false → 0 ≤ y1) ∧ ((decide ((y0.getD y1.toNat T21.dflt).1 < (0 : Int)) || decide ((y0.getD y1.toNat T21.dflt).1 > (y0.getD y1.toNat T21.dflt).2)) = false → y1 < y0.length) then
 bif (decide ((y0.getD y1.toNat T21.dflt).1 < (0 : Int)) || decide ((y0.getD y1.toNat T21.dflt).1 > (y0.getD y1.toNat T21.dflt).2) || decide ((y0.getD y1.toNat T21.dflt).2 > (17179869184 : Int))) then
 some 1
 else
 qbr k j y0 (qa .i64 (y1 + 1))
 else none
 else
 some 0
def qgD (k : Nat) (a : List T21.T) : Option Int :=
 bif (↑a.length : Int) > (256 : Int) then
 some 8
 else
 qbr k k a 0
def qdb := fun k a => (qgD k a).getD 0
def qP7 (k : Nat) : Ke := (222, mo 1, fun
 | [.r (.ro d b)], [] => (qE d T21 b).bind fun a => some (.one (ri (qdb k a), []))
 | _, _ => none)
def qDc : List (Nat × List Cmd) := [(4, [.autoB [0, 3] false []])]
abbrev qR1 := EP Tryz.f222 0 ri nb
theorem qDz (k) : ∀ j, (∀ y0 y1, qR1 4 (qG1 y0 y1) (qbr k j y0 y1))
 | 0 => by intros; exact e0
 | j + 1 => by
  have ih := @qDz k j
  ·intro y0 y1 r h
   rw [qbr] at h
   exact go (qD []) [] qDc [.autoB [2] true []] (gS h (fun h => gN h (fun q => qf q.1 (qf q.2.1 (qf q.2.2.1 (qf q.2.2.2.1 (qf q.2.2.2.2.1 (qf q.2.2.2.2.2.1 (qf q.2.2.2.2.2.2.1 (qf q.2.2.2.2.2.2.2 qR)))))))) fun h => qB h fun h => gC h 4 (ih _ _ _)) fun h => gL h)
theorem qOb (k a r) (h : qgD k a = some r): qHY a r := qN Tryz.f222 (go (qD []) [] qDc [.autoB [2] true []] (qB h fun h => gC h 4 ((qDz k k) _ _ _)))
theorem qz5 {k a} (h : (qgD k a).isSome): qHY a (qdb k a) := qJ h (qOb k a)
abbrev qHQ (a : List T21.T) (b : Int) (r : Bool) : Prop := CC Tryz.prog 234 [ro T21 a, ri b] [] (rb r) (nb r)
def qF4 := fun y0 y1 y2 => (⟨qI 28 [(0, ro T21 y0), (1, ri y1), (5, ri y2)], []⟩ : St)
def qbk (k : Nat) : Nat → List T21.T → Int → Int → Option Bool
 | 0, _, _, _ => none
 | j + 1, y0, y1, y2 =>
 bif y2 < y0.length then
 if (0 ≤ y2) ∧ (y2 < y0.length) ∧ (decide ((y0.getD y2.toNat T21.dflt).1 ≤ y1) = true → 0 ≤ y2) ∧ (decide ((y0.getD y2.toNat T21.dflt).1 ≤ y1) = true → y2 < y0.length) then
 bif (decide ((y0.getD y2.toNat T21.dflt).1 ≤ y1) && decide (y1 < (y0.getD y2.toNat T21.dflt).2)) then
 some true
 else
 qbk k j y0 y1 (qa .i64 (y2 + 1))
 else none
 else
 some false
def qjG (k : Nat) (a : List T21.T) (b : Int) : Option Bool :=
 qbk k k a b 0
def qac := fun k a b => (qjG k a b).getD false
def qC0 (k : Nat) : Ke := (234, mo 2, fun
 | [.r (.ro e d), .r (.v (.int .i64 b))], [] => (qE e T21 d).bind fun a => some (.one (rb (qac k a b), []))
 | _, _ => none)
def qCI : List (Nat × List Cmd) := [(2, [.autoB [0, 1, 5] false []])]
abbrev qSm := EP Tryz.f234 0 rb nb
theorem qzV (k) : ∀ j, (∀ y0 y1 y2, qSm 2 (qF4 y0 y1 y2) (qbk k j y0 y1 y2))
 | 0 => by intros; exact e0
 | j + 1 => by
  have ih := @qzV k j
  ·intro y0 y1 y2 r h
   rw [qbk] at h
   exact go (qD []) [] qCI [.autoB [4] true []] (gS h (fun h => gN h Xs fun h => qB h fun h => gC h 2 (ih _ _ _ _)) fun h => gL h)
theorem qRx (k a b r) (h : qjG k a b = some r): qHQ a b r := qN Tryz.f234 (go (qD []) [] qCI [.autoB [4] true []] (gC h 2 ((qzV k k) _ _ _ _)))
theorem qDM {k a b} (h : (qjG k a b).isSome): qHQ a b (qac k a b) := qJ h (qRx k a b)
def qn9 (r : List I.T) : AV := ro I r
abbrev qHV (a : List I.T) (b : Int) (r : List I.T) : Prop := CC Tryz.prog 280 [ro I a, ri b] [] (qn9 r) (nb r)
def qFY := fun y0 y1 y2 => (⟨qI 48 [(0, ro I y0), (1, ri y1), (5, ri y2)], []⟩ : St)
def qbp (k : Nat) : Nat → List I.T → Int → Int → Option (List I.T)
 | 0, _, _, _ => none
 | j + 1, y0, y1, y2 =>
 if (decide (y2 < y0.length) = true → 0 ≤ y2) ∧ (decide (y2 < y0.length) = true → y2 < y0.length) then
 bif (decide (y2 < y0.length) && decide (y0.getD y2.toNat I.dflt < y1)) then
 qbp k j y0 y1 (qa .i64 (y2 + 1))
 else
 if (decide (y2 < y0.length) = true → 0 ≤ y2) ∧ (decide (y2 < y0.length) = true → y2 < y0.length) then
 bif (decide (y2 < y0.length) && y0.getD y2.toNat I.dflt == y1) then
 some y0
 else
 if ((0 : Int) ≤ (0 : Int)) ∧ (0 ≤ y2) ∧ (y2 ≤ y0.length) ∧ (((0 : Nat) + (qdv (y2.toNat - qt (0 : Int)) (qaJ (qt (0 : Int)) y0)).length) * (8 : Nat) ≤ (140737488355328 : Nat)) then
 if ((([] ++ qdv (y2.toNat - qt (0 : Int)) (qaJ (qt (0 : Int)) y0)).length + [y1].length) * (8 : Nat) ≤ (140737488355328 : Nat)) then
 if (0 ≤ y2) ∧ (y2 ≤ y0.length) ∧ ((↑y0.length : Int) ≤ (↑y0.length : Int)) ∧ ((([] ++ qdv (y2.toNat - qt (0 : Int)) (qaJ (qt (0 : Int)) y0) ++ [y1]).length + (qdv ((↑y0.length : Int).toNat - y2.toNat) (qaJ y2.toNat y0)).length) * (8 : Nat) ≤ (140737488355328 : Nat)) then
 some ([] ++ qdv (y2.toNat - qt 0) (qaJ (qt 0) y0) ++ [y1] ++ qdv ((↑y0.length : Int).toNat - y2.toNat) (qaJ y2.toNat y0))
 else none
 else none
 else none
 else none
 else none
def qcA (k : Nat) (a : List I.T) (b : Int) : Option (List I.T) :=
 qbp k k a b 0
def YW := fun k a b => (qcA k a b).getD []
def qDv (k : Nat) : Ke := (280, mo 2, fun
 | [.r (.ro e d), .r (.v (.int .i64 b))], [] => (qE e I d).bind fun a => some (.one (qn9 (YW k a b), []))
 | _, _ => none)
def qCG : List (Nat × List Cmd) := [(2, [.autoB [0, 1, 5] false []])]
abbrev qRU := EP Tryz.f280 0 qn9 nb
theorem qC8 (k) : ∀ j, (∀ y0 y1 y2, qRU 2 (qFY y0 y1 y2) (qbp k j y0 y1 y2))
 | 0 => by intros; exact e0
 | j + 1 => by
  have ih := @qC8 k j
  ·intro y0 y1 y2 r h
   rw [qbp] at h
   exact go (qD []) [] qCG [.frz 4 false (RTy.list I), .autoB [4] true []] (qS h fun h => gS h (fun h => gC h 2 (ih _ _ _ _)) fun h => qS h fun h => qB h fun h => gN h Xs fun h => qu h id fun h => gN h Xs fun h => gL h)
theorem qOZ (k a b r) (h : qcA k a b = some r): qHV a b r := qN Tryz.f280 (go (qD []) [] qCG [.frz 4 false (RTy.list I), .autoB [4] true []] (gC h 2 ((qC8 k k) _ _ _ _)))
theorem qmS {k a b} (h : (qcA k a b).isSome): qHV a b (YW k a b) := qJ h (qOZ k a b)
def qol (r : List I.T) : AV := ro I r
abbrev qIM (a : List T21.T) (b : List T21.T) (r : List I.T) : Prop := CC Tryz.prog 262 [ro T21 a, ro T21 b] [] (qol r) (nb r)
def qFh := fun y0 y1 y2 y3 => (⟨qI 47 [(0, ro T21 y0), (1, ro T21 y1), (5, ro I y2), (6, ri y3)], []⟩ : St)
def qF5 := fun y0 y1 y2 => (⟨qI 47 [(1, ro T21 y0), (5, ro I y1), (7, ri y2)], []⟩ : St)
mutual
def qbi (k : Nat) : Nat → List T21.T → List T21.T → List I.T → Int → Option (List I.T)
 | 0, _, _, _, _ => none
 | j + 1, y0, y1, y2, y3 =>
 bif y3 < y0.length then
 if (0 ≤ y3) ∧ (y3 < y0.length) ∧ ((qcA k y2 (y0.getD y3.toNat T21.dflt).1).isSome) ∧ (0 ≤ y3) ∧ (y3 < y0.length) ∧ ((qcA k (YW k y2 (y0.getD y3.toNat T21.dflt).1) (y0.getD y3.toNat T21.dflt).2).isSome) then
 qbi k j y0 y1 (YW k (YW k y2 (y0.getD y3.toNat T21.dflt).1) (y0.getD y3.toNat T21.dflt).2) (qa .i64 (y3 + 1))
 else none
 else
 qef k j y1 y2 0
def qef (k : Nat) : Nat → List T21.T → List I.T → Int → Option (List I.T)
 | 0, _, _, _ => none
 | j + 1, y0, y1, y2 =>
 bif y2 < y0.length then
 if (0 ≤ y2) ∧ (y2 < y0.length) ∧ ((qcA k y1 (y0.getD y2.toNat T21.dflt).1).isSome) ∧ (0 ≤ y2) ∧ (y2 < y0.length) ∧ ((qcA k (YW k y1 (y0.getD y2.toNat T21.dflt).1) (y0.getD y2.toNat T21.dflt).2).isSome) then
 qef k j y0 (YW k (YW k y1 (y0.getD y2.toNat T21.dflt).1) (y0.getD y2.toNat T21.dflt).2) (qa .i64 (y2 + 1))
 else none
 else
 some y1
end
def qm6 (k : Nat) (a : List T21.T) (b : List T21.T) : Option (List I.T) :=
 qbi k k a b ([]) 0
def qmR := fun k a b => (qm6 k a b).getD []
def qBt (k : Nat) : Ke := (262, mo 2, fun
 | [.r (.ro f d), .r (.ro i e)], [] => (qE f T21 d).bind fun a => (qE i T21 e).bind fun b => some (.one (qol (qmR k a b), []))
 | _, _ => none)
def qD2 : List (Nat × List Cmd) := [(3, [.frz 5 false (RTy.list I), .autoB [0, 1, 5, 6] false []]), (7, [.autoB [1, 5, 7] false []])]
abbrev qIo := EP Tryz.f262 0 qol nb
theorem qBI (k) : ∀ j, (∀ {y0 y1 y2 y3}, qIo 3 (qFh y0 y1 y2 y3) (qbi k j y0 y1 y2 y3)) ∧ (∀ {y0 y1 y2}, qIo 7 (qF5 y0 y1 y2) (qef k j y0 y1 y2))
 | 0 => by and_intros <;> intros <;> exact e0
 | j + 1 => by
  have ih := @qBI k j
  have g := @go (qD [qDv k]) [] qD2 [.frz 4 false (RTy.list I), .autoB [4] true []]
  refine ⟨?_, ?_⟩
  ·intro y0 y1 y2 y3 r h
   rw [qbi] at h
   exact g (gS h (fun h => gN h (fun q => qf q.1 (qf q.2.1 (qf (qmS q.2.2.1) (qf q.2.2.2.1 (qf q.2.2.2.2.1 (qf (qmS q.2.2.2.2.2) qR)))))) fun h => gD h 3 ih.1) fun h => gD h 7 ih.2)
  ·intro y0 y1 y2 r h
   rw [qef] at h
   exact g (gS h (fun h => gN h (fun q => qf q.1 (qf q.2.1 (qf (qmS q.2.2.1) (qf q.2.2.2.1 (qf q.2.2.2.2.1 (qf (qmS q.2.2.2.2.2) qR)))))) fun h => gD h 7 ih.2) fun h => gL h)
theorem qP3 (k a b r) (h : qm6 k a b = some r): qIM a b r := qN Tryz.f262 (go (qD [qDv k]) [] qD2 [.frz 4 false (RTy.list I), .autoB [4] true []] (gD h 3 (qBI k k).1))
theorem qO6 {k a b} (h : (qm6 k a b).isSome): qIM a b (qmR k a b) := qJ h (qP3 k a b)
def qoX (r : List T21.T) : AV := ro T21 r
abbrev qHc (a : List T21.T) (b : List T21.T) (d : Int) (r : List T21.T) : Prop := CC Tryz.prog 223 [ro T21 a, ro T21 b, ri d] [] (qoX r) (nb r)
def qG2 := fun y0 y1 y2 y3 y4 y5 => (⟨qI 107 [(0, ro T21 y0), (1, ro T21 y1), (2, ri y2), (7, ro I y3), (8, .own 1000000 0), (9, ri y4)], [(1000000, 0, .row 91 T21 y5)]⟩ : St)
def Qw (k : Nat) : Nat → List T21.T → List T21.T → Int → List I.T → Int → List T21.T → Option (List T21.T)
 | 0, _, _, _, _, _, _ => none
 | j + 1, y0, y1, y2, y3, y4, y5 =>
 bif qa .i64 (y4 + 1) < (↑y3.length : Int) then
 if (0 ≤ y4) ∧ (y4 < y3.length) ∧ ((qjG k y0 (y3.getD y4.toNat I.dflt)).isSome) ∧ (0 ≤ y4) ∧ (y4 < y3.length) ∧ ((qjG k y1 (y3.getD y4.toNat I.dflt)).isSome) then
 bif (y2 == 0 && (!qac k y0 (y3.getD y4.toNat I.dflt)) && (!qac k y1 (y3.getD y4.toNat I.dflt)) || y2 == 1 && (! (qac k y0 (y3.getD y4.toNat I.dflt) && qac k y1 (y3.getD y4.toNat I.dflt))) || y2 == 2 && (!qac k y0 (y3.getD y4.toNat I.dflt) || qac k y1 (y3.getD y4.toNat I.dflt))) then
 Qw k j y0 y1 y2 y3 (qa .i64 (y4 + 1)) y5
 else
 if (decide (qa .i64 ((↑y5.length : Int) - (1 : Int)) ≥ (0 : Int)) = true → (0 : Int) ≤ qa .i64 ((↑y5.length : Int) - (1 : Int))) ∧ (decide (qa .i64 ((↑y5.length : Int) - (1 : Int)) ≥ (0 : Int)) = true → qa .i64 ((↑y5.length : Int) - (1 : Int)) < (↑y5.length : Int)) ∧ (decide (qa .i64 ((↑y5.length : Int) - (1 : Int)) ≥ (0 : Int)) = true → 0 ≤ y4) ∧ (decide (qa .i64 ((↑y5.length : Int) - (1 : Int)) ≥ (0 : Int)) = true → y4 < y3.length) then
 bif (decide (qa .i64 ((↑y5.length : Int) - (1 : Int)) ≥ (0 : Int)) && (y5.getD (qa .i64 ((↑y5.length : Int) - (1 : Int))).toNat T21.dflt).2 == y3.getD y4.toNat I.dflt) then
 if ((0 : Int) ≤ qa .i64 (y4 + 1)) ∧ (qa .i64 (y4 + 1) < (↑y3.length : Int)) ∧ ((0 : Int) ≤ qa .i64 ((↑y5.length : Int) - (1 : Int))) ∧ (qa .i64 ((↑y5.length : Int) - (1 : Int)) < (↑y5.length : Int)) then
 Qw k j y0 y1 y2 y3 (qa .i64 (y4 + 1)) (y5.set (qa .i64 ((↑y5.length : Int) - 1)).toNat ((y5.getD (qa .i64 ((↑y5.length : Int) - 1)).toNat T21.dflt).1, y3.getD (qa .i64 (y4 + 1)).toNat I.dflt))
 else none
 else
 if (0 ≤ y4) ∧ (y4 < y3.length) ∧ ((0 : Int) ≤ qa .i64 (y4 + 1)) ∧ (qa .i64 (y4 + 1) < (↑y3.length : Int)) ∧ ((y5.length + [(y3.getD y4.toNat I.dflt, y3.getD (qa .i64 (y4 + 1)).toNat I.dflt)].length) * (16 : Nat) ≤ (140737488355328 : Nat)) then
 Qw k j y0 y1 y2 y3 (qa .i64 (y4 + 1)) (y5 ++ [(y3.getD y4.toNat I.dflt, y3.getD (qa .i64 (y4 + 1)).toNat I.dflt)])
 else none
 else none
 else none
 else
 some y5
def qi5 (k : Nat) (a : List T21.T) (b : List T21.T) (d : Int) : Option (List T21.T) :=
 if ((qm6 k a b).isSome) then
 Qw k k a b d (qmR k a b) 0 ([])
 else none
def qjv := fun k a b d => (qi5 k a b d).getD []
def qQ4 (k : Nat) : Ke := (223, mo 3, fun
 | [.r (.ro g e), .r (.ro i f), .r (.v (.int .i64 d))], [] => (qE g T21 e).bind fun a => (qE i T21 f).bind fun b => some (.one (qoX (qjv k a b d), []))
 | _, _ => none)
def qCH : List (Nat × List Cmd) := [(4, [.row 8 91 T21, .autoB [0, 1, 2, 7, 8, 9] false []])]
abbrev qSv := EP Tryz.f223 0 qoX nb
theorem qEC (k) : ∀ j, (∀ y0 y1 y2 y3 y4 y5, qSv 4 (qG2 y0 y1 y2 y3 y4 y5) (Qw k j y0 y1 y2 y3 y4 y5))
 | 0 => by intros; exact e0
 | j + 1 => by
  have ih := @qEC k j
  ·intro y0 y1 y2 y3 y4 y5 r h
   rw [Qw] at h
   exact go (qD [qC0 k, qBt k]) [] qCH [.frz 6 false (RTy.list T21), .autoB [6] true []] (gS h (fun h => gN h (fun q => qf q.1 (qf q.2.1 (qf (qDM q.2.2.1) (qf q.2.2.2.1 (qf q.2.2.2.2.1 (qf (qDM q.2.2.2.2.2) qR)))))) fun h => gS h (fun h => gC h 4 (ih _ _ _ _ _ _ _)) fun h => gN h Xs fun h => gS h (fun h => gN h Xs fun h => gC h 4 (ih _ _ _ _ _ _ _)) fun h => gN h (fun q => qf q.1 (qf q.2.1 (qf q.2.2.1 (qf q.2.2.2.1 (qf q.2.2.2.2 qR))))) fun h => gC h 4 (ih _ _ _ _ _ _ _)) fun h => gL h)
theorem qRv (k a b d r) (h : qi5 k a b d = some r): qHc a b d r := qN Tryz.f223 (go (qD [qC0 k, qBt k]) [] qCH [.frz 6 false (RTy.list T21), .autoB [6] true []] (qu h qO6 fun h => gC h 4 ((qEC k k) _ _ _ _ _ _ _)))
theorem qRD {k a b d} (h : (qi5 k a b d).isSome): qHc a b d (qjv k a b d) := qJ h (qRv k a b d)
abbrev qyX : Type := List T21.T × Int
def qwH (r : qyX) : AV := .tup [ro T21 r.1, ri r.2]
abbrev qHU (a : List T21.T) (b : List T21.T) (d : Int) (r : qyX) : Prop := CC Tryz.prog 185 [ro T21 a, ro T21 b, ri d] [] (qwH r) (nb r)
def qjx (k : Nat) (a : List T21.T) (b : List T21.T) (d : Int) : Option qyX :=
 if ((qgD k a).isSome) then
 bif (qdb k a != (0 : Int)) then
 some ([], qdb k a)
 else
 if ((qgD k b).isSome) then
 bif (qdb k b != (0 : Int)) then
 some ([], qdb k b)
 else
 if ((qi5 k a b d).isSome) then
 bif (↑ (qe (qjv k a b d)) : Int) > (256 : Int) then
 some ([], 8)
 else
 some (qjv k a b d, 0)
 else none
 else none
 else none
def qju := fun k a b d => (qjx k a b d).getD ([], 0)
def qQ7 (k : Nat) : Ke := (185, mo 3, fun
 | [.r (.ro g e), .r (.ro i f), .r (.v (.int .i64 d))], [] => (qE g T21 e).bind fun a => (qE i T21 f).bind fun b => some (.one (qwH (qju k a b d), []))
 | _, _ => none)
theorem qPZ (k a b d r) (h : qjx k a b d = some r): qHU a b d r := qN Tryz.f185 (go (qD [qP7 k, qQ4 k]) [] [] [.frz 6 false (RTy.list T21), .autoB [6, 7] true []] (qu h qz5 fun h => qB h fun h => qu h qz5 fun h => qB h fun h => qu h qRD fun h => qB h fun h => gL h))
theorem qPU {k a b d} (h : (qjx k a b d).isSome): qHU a b d (qju k a b d) := qJ h (qPZ k a b d)
abbrev qyp : Type := List T21.T × Int
def qvG (r : qyp) : AV := .tup [ro T21 r.1, ri r.2]
abbrev qHv (a : List T21.T) (r : qyp) : Prop := CC Tryz.prog 137 [ro T21 a] [] (qvG r) (nb r)
def qcT (k : Nat) (a : List T21.T) : Option qyp :=
 if ((qjx k a [] 0).isSome) then
 some ((qju k a [] 0).1, (qju k a [] 0).2)
 else none
def YX := fun k a => (qcT k a).getD ([], 0)
def qiN (k : Nat) : Ke := (137, mo 1, fun
 | [.r (.ro d b)], [] => (qE d T21 b).bind fun a => some (.one (qvG (YX k a), []))
 | _, _ => none)
theorem qNx (k a r) (h : qcT k a = some r): qHv a r := qN Tryz.f137 (go (qD [qQ7 k]) [] [] [.frz 2 false (RTy.list T21), .autoB [2, 3] true []] (qu h qPU fun h => gL h))
theorem qsm {k a} (h : (qcT k a).isSome): qHv a (YX k a) := qJ h (qNx k a)
def qn0 (r : List T21.T × Int) : AV := .tup [ro T21 r.1, ri r.2]
abbrev qIb (a : List T3.T) (r : List T21.T × Int) : Prop := CC Tryz.prog 95 [ro T3 a] [] (qn0 r) (nb r)
def qGB := fun y0 y1 y2 => (⟨qI 51 [(0, ro T3 y0), (5, .own 1000000 0), (6, ri y1)], [(1000000, 0, .row 91 T21 y2)]⟩ : St)
def qAn := fun y0 => (⟨qI 51 [(5, ro T21 y0)], []⟩ : St)
mutual
def qbl (k : Nat) : Nat → List T3.T → Int → List T21.T → Option (List T21.T × Int)
 | 0, _, _, _ => none
 | j + 1, y0, y1, y2 =>
 bif y1 < y0.length then
 if (0 ≤ y1) ∧ (y1 < y0.length) ∧ (0 ≤ y1) ∧ (y1 < y0.length) ∧ (0 ≤ y1) ∧ (y1 < y0.length) ∧ ((VE k (y0.getD y1.toNat T3.dflt) (qa .i64 ((y0.getD y1.toNat T3.dflt).2.1 - 1))).isSome) then
 if ((y2.length + [(if zi k (y0.getD y1.toNat T3.dflt) (qa .i64 ((y0.getD y1.toNat T3.dflt).2.1 - (1 : Int))) < (y0.getD y1.toNat T3.dflt).1 then zi k (y0.getD y1.toNat T3.dflt) (qa .i64 ((y0.getD y1.toNat T3.dflt).2.1 - (1 : Int))) else (y0.getD y1.toNat T3.dflt).1, qa .i64 ((if zi k (y0.getD y1.toNat T3.dflt) (qa .i64 ((y0.getD y1.toNat T3.dflt).2.1 - (1 : Int))) > (y0.getD y1.toNat T3.dflt).1 then zi k (y0.getD y1.toNat T3.dflt) (qa .i64 ((y0.getD y1.toNat T3.dflt).2.1 - (1 : Int))) else (y0.getD y1.toNat T3.dflt).1) + (1 : Int)))].length) * (16 : Nat) ≤ (140737488355328 : Nat)) then
 qbl k j y0 (qa .i64 (y1 + 1)) (y2 ++ [(if zi k (y0.getD y1.toNat T3.dflt) (qa .i64 ((y0.getD y1.toNat T3.dflt).2.1 - 1)) < (y0.getD y1.toNat T3.dflt).1 then zi k (y0.getD y1.toNat T3.dflt) (qa .i64 ((y0.getD y1.toNat T3.dflt).2.1 - 1)) else (y0.getD y1.toNat T3.dflt).1, qa .i64 ((if zi k (y0.getD y1.toNat T3.dflt) (qa .i64 ((y0.getD y1.toNat T3.dflt).2.1 - 1)) > (y0.getD y1.toNat T3.dflt).1 then zi k (y0.getD y1.toNat T3.dflt) (qa .i64 ((y0.getD y1.toNat T3.dflt).2.1 - 1)) else (y0.getD y1.toNat T3.dflt).1) + 1))])
 else none
 else none
 else
 qfP k j y2
def qfP (k : Nat) : Nat → List T21.T → Option (List T21.T × Int)
 | 0, _ => none
 | j + 1, y0 =>
 if ((qcT k y0).isSome) then
 some ((YX k y0).1, (YX k y0).2)
 else none
end
def qdf (k : Nat) (a : List T3.T) : Option (List T21.T × Int) :=
 if ((Vc k a).isSome) then
 bif (vR k a != (0 : Int)) then
 some ([], vR k a)
 else
 qbl k k a 0 ([])
 else none
def XE := fun k a => (qdf k a).getD ([], 0)
def qAc (k : Nat) : Ke := (95, mo 1, fun
 | [.r (.ro d b)], [] => (qE d T3 b).bind fun a => some (.one (qn0 (XE k a), []))
 | _, _ => none)
def qIP (k : Nat) : Calld := qD [qd5 k, qiz k, qiN k]
def qCa : List (Nat × List Cmd) := [(6, [.row 5 91 T21, .autoB [0, 5, 6] false []]), (10, [.frz 5 false (RTy.list T21), .autoB [5] false []])]
abbrev qH9 := EP Tryz.f95 0 qn0 nb
theorem qAb (k) : ∀ j, (∀ {y0 y1 y2}, qH9 6 (qGB y0 y1 y2) (qbl k j y0 y1 y2)) ∧ (∀ {y0}, qH9 10 (qAn y0) (qfP k j y0))
 | 0 => by and_intros <;> intros <;> exact e0
 | j + 1 => by
  have ih := @qAb k j
  have g := @go (qIP k) [10] qCa [.frz 2 false (RTy.list T21), .autoB [2, 3] true []]
  refine ⟨?_, ?_⟩
  ·intro y0 y1 y2 r h
   rw [qbl] at h
   exact g (gS h (fun h => gN h (fun q => qf q.1 (qf q.2.1 (qf q.2.2.1 (qf q.2.2.2.1 (qf q.2.2.2.2.1 (qf q.2.2.2.2.2.1 (qf (qcj q.2.2.2.2.2.2) qR))))))) fun h => qu h id fun h => gD h 6 ih.1) fun h => gD h 10 ih.2)
  ·intro y0 r h
   rw [qfP] at h
   exact g (qu h qsm fun h => gL h)
theorem qQz (k a r) (h : qdf k a = some r): qIb a r := qN Tryz.f95 (go (qIP k) [10] qCa [.frz 2 false (RTy.list T21), .autoB [2, 3] true []] (qu h qb2 fun h => qB h fun h => gD h 6 (qAb k k).1))
theorem qtE {k a} (h : (qdf k a).isSome): qIb a (XE k a) := qJ h (qQz k a)
def qo2 (r : Int × Int) : AV := .tup [ri r.1, ri r.2]
abbrev qIy (a : List T21.T) (r : Int × Int) : Prop := CC Tryz.prog 175 [ro T21 a] [] (qo2 r) (nb r)
def qGV := fun y0 y1 y2 y3 => (⟨qI 34 [(4, ro T21 y0), (5, ri y1), (6, ri y2), (7, ri y3)], []⟩ : St)
def qbs (k : Nat) : Nat → List T21.T → Int → Int → Int → Option (Int × Int)
 | 0, _, _, _, _ => none
 | j + 1, y0, y1, y2, y3 =>
 bif y3 < y0.length then
 if (0 ≤ y3) ∧ (y3 < y0.length) ∧ (0 ≤ y3) ∧ (y3 < y0.length) then
 qbs k j y0 y1 (qa .i64 (qa .i64 (y2 + (y0.getD y3.toNat T21.dflt).2) - (y0.getD y3.toNat T21.dflt).1)) (qa .i64 (y3 + 1))
 else none
 else
 some (y2, y1)
def qj4 (k : Nat) (a : List T21.T) : Option (Int × Int) :=
 if ((qcT k a).isSome) then
 qbs k k ((YX k a).1) ((YX k a).2) 0 0
 else none
def qdu := fun k a => (qj4 k a).getD (0, 0)
def qNV (k : Nat) : Ke := (175, mo 1, fun
 | [.r (.ro d b)], [] => (qE d T21 b).bind fun a => some (.one (qo2 (qdu k a), []))
 | _, _ => none)
def qBM : List (Nat × List Cmd) := [(4, [.autoB [4, 5, 6, 7] false []])]
abbrev qSu := EP Tryz.f175 0 qo2 nb
theorem qCN (k) : ∀ j, (∀ y0 y1 y2 y3, qSu 4 (qGV y0 y1 y2 y3) (qbs k j y0 y1 y2 y3))
 | 0 => by intros; exact e0
 | j + 1 => by
  have ih := @qCN k j
  ·intro y0 y1 y2 y3 r h
   rw [qbs] at h
   exact go (qD [qiN k]) [] qBM [.autoB [2, 3] true []] (gS h (fun h => gN h Xs fun h => gC h 4 (ih _ _ _ _ _)) fun h => gL h)
theorem qP4 (k a r) (h : qj4 k a = some r): qIy a r := qN Tryz.f175 (go (qD [qiN k]) [] qBM [.autoB [2, 3] true []] (qu h qsm fun h => gC h 4 ((qCN k k) _ _ _ _ _)))
theorem qOH {k a} (h : (qj4 k a).isSome): qIy a (qdu k a) := qJ h (qP4 k a)
abbrev qH7 (a : List T3.T) (r : Bool) : Prop := CC Tryz.prog 128 [ro T3 a] [] (rb r) (nb r)
def qdj (k : Nat) (a : List T3.T) : Option Bool :=
 if ((Vc k a).isSome) then
 bif (vR k a != (0 : Int)) then
 some false
 else
 if ((qdf k a).isSome) then
 if ((qj4 k (XE k a).1).isSome) then
 bif ((qdu k (XE k a).1).2 == (0 : Int)) then
 if (((qdu k (XE k a).1).2 == (0 : Int)) = true) ∧ ((qfm k a).isSome) then
 some (true && (qdu k (XE k a).1).1 == qjp k a)
 else none
 else
 if (((qdu k (XE k a).1).2 == (0 : Int)) = false) then
 some false
 else none
 else none
 else none
 else none
def qf8 := fun k a => (qdj k a).getD false
def qNX (k : Nat) : Ke := (128, mo 1, fun
 | [.r (.ro d b)], [] => (qE d T3 b).bind fun a => some (.one (rb (qf8 k a), []))
 | _, _ => none)
theorem qQf (k a r) (h : qdj k a = some r): qH7 a r := qN Tryz.f128 (go (qD [qrW k, qd5 k, qAc k, qNV k]) [] [] [.autoB [2] true []] (qu h qb2 fun h => qB h fun h => qu h qtE fun h => qu h qOH fun h => gS h (fun h => gN h (fun q => qf q.1 (qf (qEg q.2) qR)) fun h => gL h) fun h => qu h id fun h => gL h))
theorem qAs {k a} (h : (qdj k a).isSome): qH7 a (qf8 k a) := qJ h (qQf k a)
end
theorem QQ (k : Nat) (r : Rn) (x : Int) (h1 : -4611686018427387904 ≤ r.1) (h2 : r.1 ≤ 4611686018427387903) (h3 : -4611686018427387904 ≤ x) (h4 : x ≤ 4611686018427387903) : Y8 k r x = some (wh r x) := by
 unfold Y8 wh
 cases r.2.2
 ·rw [qg, qo (by omega) (by omega), qm (by decide)]
 ·rw [qi, qo (by omega) (by omega), qd rfl]
theorem W4 (k : Nat) (r : Rn) (x : Int) (h1 : -4611686018427387904 ≤ r.1) (h2 : r.1 ≤ 4611686018427387903) (h3 : -4611686018427387904 ≤ x) (h4 : x ≤ 4611686018427387903) : vk k r x = wh r x := by
 unfold vk; rw [QQ k r x h1 h2 h3 h4]; rfl
theorem zu (k : Nat) (r : Rn) (x : Int) (h1 : -4611686018427387904 ≤ r.1) (h2 : r.1 ≤ 4611686018427387903) (h3 : -4611686018427387904 ≤ x) (h4 : x ≤ 4611686018427387903) : VE k r x = some (wh r x) := by
 unfold VE wh
 cases r.2.2
 ·rw [qg, qo (by omega) (by omega), qm (by decide)]
 ·rw [qi, qo (by omega) (by omega), qd rfl]
theorem zG (k : Nat) (r : Rn) (x : Int) (h1 : -4611686018427387904 ≤ r.1) (h2 : r.1 ≤ 4611686018427387903) (h3 : -4611686018427387904 ≤ x) (h4 : x ≤ 4611686018427387903) : zi k r x = wh r x := by
 unfold zi; rw [zu k r x h1 h2 h3 h4]; rfl
theorem qhU {r : Rn} : good r ↔ ¬ ((decide (r.2.1 < 1) || decide (r.2.1 > 17179869184) || decide (r.1 < 0) || decide (r.1 ≥ 17179869184)) = true) ∧ ¬ ((r.2.2 && decide (r.1 - r.2.1 + 1 < 0) || (!r.2.2) && decide (r.1 + r.2.1 > 17179869184)) = true) := by
 unfold good
 simp only [qJr, decide_eq_true_eq, qj, Bool.not_eq_true', not_or, not_and]
 constructor
 ·rintro ⟨h1, h2, h3, h4, h5, h6⟩
  refine ⟨⟨⟨⟨by omega, by omega⟩, by omega⟩, by omega⟩, fun h => ?_, fun h => ?_⟩
  ·have := h5 h; omega
  ·have := h6 h; omega
 ·rintro ⟨⟨⟨⟨h1, h2⟩, h3⟩, h4⟩, h5, h6⟩
  refine ⟨by omega, by omega, by omega, by omega, fun h => ?_, fun h => ?_⟩
  ·have := h5 h; omega
  ·have := h6 h; omega
def qcI : Int → List Rn → Int
 | n, [] => if n > 17179869184 then 21 else 0
 | n, r :: t => if good r then qcI (n + r.2.1) t else 1
theorem qsc : ∀ (m : List Rn) (n : Int), qcI n m = if goods m then (if n + qv m > 17179869184 then 21 else 0) else 1
 | [], n => by simp [qcI, goods, qv]
 | r :: t, n => by
  unfold qcI
  by_cases h : good r
  ·rw [qd h, qsc t]
   by_cases h2 : goods t
   ·rw [qd h2, qd (show goods (r :: t) from ⟨h, h2⟩)]
    rw [show n + qv (r :: t) = n + r.2.1 + qv t by simp only [qv]; omega]
   ·rw [qm h2, qm (fun h3 : goods (r :: t) => h2 h3.2)]
  ·rw [qm h, qm (fun h3 : goods (r :: t) => h h3.1)]
theorem qO9 (m : List Rn) : chk m = if m.length > 256 then 8 else qcI 0 m := by
 unfold chk; rw [qsc, Int.zero_add]
theorem quG (k : Nat) (m : List Rn) (hm : m.length ≤ 256) : ∀ (j i : Nat) (n : Int), i ≤ m.length → m.length - i < j → 0 ≤ n → n ≤ (i : Int) * 17179869184 →
  qbu k j n m (m.length : Int) (i : Int) = some (qcI n (m.drop i)) := by
 intro j
 induction j with
 | zero => intros; omega
 | succ j ih =>
  intro i n hi hj h0 hn
  unfold qbu
  by_cases h : i < m.length
  ·rw [qA (by omega : (i : Int) < (m.length : Int)), qi, qd ⟨by omega, by omega⟩, qq m i T3.dflt h]
   rw [qc]
   unfold qcI
   by_cases hg : good (m.getD i T3.dflt)
   ·obtain ⟨t1, t2⟩ := qhU.1 hg
    have hr := hg
    obtain ⟨g1, g2, g3, g4, _, _⟩ := hr
    rw [qd hg, Bool.eq_false_iff.2 t1, qg, qo (i := (m.getD i T3.dflt).fst - (m.getD i T3.dflt).snd.fst) (by omega) (by omega), qo (i := (m.getD i T3.dflt).fst - (m.getD i T3.dflt).snd.fst + 1) (by omega) (by omega), qo (i := (m.getD i T3.dflt).fst + (m.getD i T3.dflt).snd.fst) (by omega) (by omega), Bool.eq_false_iff.2 t2, qg, qo (i := n + (m.getD i T3.dflt).snd.fst) (by omega) (by omega), qF i (by omega)]
    exact ih (i + 1) _ (by omega) (by omega) (by omega) (by omega)
   ·rw [qm hg]
    by_cases t1 : (decide ((m.getD i T3.dflt).2.1 < 1) || decide ((m.getD i T3.dflt).2.1 > 17179869184) || decide ((m.getD i T3.dflt).1 < 0) || decide ((m.getD i T3.dflt).1 ≥ 17179869184)) = true
    ·rw [t1, qi]
    ·have t2 := fun t2 => hg (qhU.2 ⟨t1, t2⟩)
     have t2 := Classical.not_not.1 t2
     have t3 := t1
     simp only [qJr, decide_eq_true_eq, not_or] at t3
     obtain ⟨⟨⟨q1, q2⟩, q3⟩, q4⟩ := t3
     rw [Bool.eq_false_iff.2 t1, qg, qo (i := (m.getD i T3.dflt).fst - (m.getD i T3.dflt).snd.fst) (by omega) (by omega), qo (i := (m.getD i T3.dflt).fst - (m.getD i T3.dflt).snd.fst + 1) (by omega) (by omega), qo (i := (m.getD i T3.dflt).fst + (m.getD i T3.dflt).snd.fst) (by omega) (by omega), t2, qi]
  ·rw [qx (by omega : ¬ (i : Int) < (m.length : Int)), qg, zh m i (by omega)]
   unfold qcI
   by_cases h : n > 17179869184
   ·rw [qA h, qi, qd h]
   ·rw [qx h, qg, qm h]
theorem QN (k : Nat) (hk : 300 ≤ k) (m : List Rn) : ZY k m = some (chk m) := by
 unfold ZY
 rw [qO9]
 by_cases h : m.length > 256
 ·rw [qA (by omega : (m.length : Int) > 256), qi, qd h]
 ·rw [qx (by omega : ¬ (m.length : Int) > 256), qg, qm h]
  exact quG k m (by omega) k 0 0 (by omega) (by omega) (by omega) (by omega)
theorem W5 (k : Nat) (hk : 300 ≤ k) (m : List Rn) : vD k m = chk m := by
 unfold vD; rw [QN k hk]; rfl
theorem qt7 (k : Nat) (m : List Rn) (hg : goods m) (hm : m.length ≤ 1000) : ∀ (j i : Nat) (n : Int), i ≤ m.length → m.length - i < j → 0 ≤ n → n ≤ (i : Int) * 17179869184 →
  qbm k j n m (m.length : Int) (i : Int) = some (n + qv (m.drop i)) := by
 intro j
 induction j with
 | zero => intros; omega
 | succ j ih =>
  intro i n hi hj h0 hn
  unfold qbm
  by_cases h : i < m.length
  ·have hgr : good (m.getD i T3.dflt) := hg.mem _ (by simp [h])
   rw [qA (by omega : (i : Int) < (m.length : Int)), qi, qd ⟨by omega, by omega⟩, qq m i T3.dflt h]
   rw [qc]
   generalize m.getD i T3.dflt = r at hgr
   obtain ⟨g1, g2, _⟩ := hgr
   rw [qo (i := n + r.snd.fst) (by omega) (by omega), qF i (by omega), ih (i + 1) _ (by omega) (by omega) (by omega) (by omega)]
   simp only [qv, Int.add_assoc]
  ·rw [qx (by omega : ¬ (i : Int) < (m.length : Int)), qg, zh m i (by omega)]
   simp [qv]
theorem XY (k : Nat) (m : List Rn) (hg : goods m) (hm : m.length ≤ 1000) (hk : m.length < k) : qdl k m = some (qv m) := by
 unfold qdl
 have := qt7 k m hg hm k 0 0 (by omega) (by omega) (by omega) (by omega)
 rw [Int.zero_add] at this
 exact this
theorem qbX (k : Nat) (m : List Rn) (hg : goods m) (hm : m.length ≤ 1000) (hk : m.length < k) : qfN k m = qv m := by
 unfold qfN; rw [XY k m hg hm hk]; rfl
theorem qh3 (k : Nat) (r : Rn) : qjY k r = some (decide (good r)) := by
 unfold qjY
 by_cases t1 : (decide (r.2.1 < 1) || decide (r.2.1 > 17179869184) || decide (r.1 < 0) || decide (r.1 ≥ 17179869184)) = true
 ·rw [t1, qi, qx (fun h => (qhU.1 h).1 t1)]
 ·rw [Bool.eq_false_iff.2 t1, qg]
  have t3 := t1
  simp only [qJr, decide_eq_true_eq, not_or] at t3
  obtain ⟨⟨⟨q1, q2⟩, q3⟩, q4⟩ := t3
  rw [qo (i := r.fst - r.snd.fst) (by omega) (by omega), qo (i := r.fst - r.snd.fst + 1) (by omega) (by omega), qo (i := r.fst + r.snd.fst) (by omega) (by omega)]
  cases hb : r.snd.snd
  ·rw [qg]
   congr 1
   apply decide_eq_decide.2
   constructor
   ·intro h
    exact ⟨by omega, by omega, by omega, by omega, fun e => by simp [hb] at e, fun _ => h⟩
   ·rintro ⟨_, _, _, _, _, h⟩
    exact h hb
  ·rw [qi]
   congr 1
   apply decide_eq_decide.2
   constructor
   ·intro h
    exact ⟨by omega, by omega, by omega, by omega, fun _ => h, fun e => by simp [hb] at e⟩
   ·rintro ⟨_, _, _, _, h, _⟩
    exact h hb
theorem qtZ (k : Nat) (r : Rn) : qmW k r = decide (good r) := by
 unfold qmW; rw [qh3]; rfl
theorem qn1 (k : Nat) (m : List Rn) (hg : goods m) (hm : m.length ≤ 1000) : ∀ (j i : Nat) (n : Int), i ≤ m.length → m.length - i < j → 0 ≤ n → n ≤ (i : Int) * 17179869184 →
  qbj k j m n (i : Int) = some (n + qv (m.drop i)) := by
 intro j
 induction j with
 | zero => intros; omega
 | succ j ih =>
  intro i n hi hj h0 hn
  unfold qbj
  by_cases h : i < m.length
  ·have hgr : good (m.getD i T3.dflt) := hg.mem _ (by simp [h])
   rw [qA (by omega : (i : Int) < (m.length : Int)), qi, qd ⟨by omega, by omega⟩, qq m i T3.dflt h]
   rw [qc]
   generalize m.getD i T3.dflt = r at hgr
   obtain ⟨g1, g2, _⟩ := hgr
   rw [qo (i := n + r.snd.fst) (by omega) (by omega), qF i (by omega), ih (i + 1) _ (by omega) (by omega) (by omega) (by omega)]
   simp only [qv, Int.add_assoc]
  ·rw [qx (by omega : ¬ (i : Int) < (m.length : Int)), qg, zh m i (by omega)]
   simp [qv]
theorem YN (k : Nat) (m : List Rn) (hg : goods m) (hm : m.length ≤ 1000) (hk : m.length < k) : qfm k m = some (qv m) := by
 unfold qfm
 have := qn1 k m hg hm k 0 0 (by omega) (by omega) (by omega) (by omega)
 rw [Int.zero_add] at this
 exact this
theorem qeH (k : Nat) (m : List Rn) (hg : goods m) (hm : m.length ≤ 1000) (hk : m.length < k) : qjp k m = qv m := by
 unfold qjp; rw [YN k m hg hm hk]; rfl
theorem qqN (k : Nat) (hk : 300 ≤ k) (m : List Rn) (hm : m.length ≤ 256) : ∀ (j i : Nat), i ≤ m.length → m.length - i < j → goods (m.take i) →
  qbt k j m (i : Int) = some (if goods m then (if qv m > 17179869184 then 21 else 0) else 1) := by
 intro j
 induction j with
 | zero => intros; omega
 | succ j ih =>
  intro i hi hj hg
  unfold qbt
  by_cases h : i < m.length
  ·rw [qA (by omega : (i : Int) < (m.length : Int)), qi, qh3, qtZ, qd ⟨by omega, by omega, rfl⟩, qc]
   have hmem : m.getD i T3.dflt ∈ m := by simp [h]
   have htk : m.take (i + 1) = m.take i ++ [m.getD i T3.dflt] := by
    rw [List.take_add_one]; simp [h]
   by_cases hgr : good (m.getD i T3.dflt)
   ·rw [qA hgr, vB, qg, qF i (by omega)]
    exact ih (i + 1) (by omega) (by omega) (by rw [htk, Qg]; exact ⟨hg, hgr, trivial⟩)
   ·rw [qx hgr, qd1, qi, qm (fun hgs => hgr (goods.mem hgs _ hmem))]
  ·have : m.take i = m := wI (by omega)
   rw [this] at hg
   rw [qx (by omega : ¬ (i : Int) < (m.length : Int)), qg, YN k m hg (by omega) (by omega), qeH k m hg (by omega) (by omega), qb, qd rfl, qd hg]
   by_cases h : qv m > 17179869184
   ·rw [qA h, qi, qd h]
   ·rw [qx h, qg, qm h]
theorem vM (k : Nat) (hk : 300 ≤ k) (m : List Rn) : Vc k m = some (chk m) := by
 unfold Vc chk
 by_cases h : m.length > 256
 ·rw [qA (by omega : (m.length : Int) > 256), qi, qd h]
 ·rw [qx (by omega : ¬ (m.length : Int) > 256), qg, qm h]
  exact qqN k hk m (by omega) k 0 (by omega) (by omega) (by simp [goods])
theorem Qu (k : Nat) (hk : 300 ≤ k) (m : List Rn) : vR k m = chk m := by
 unfold vR; rw [vM k hk]; rfl
def Bnd (r : Rn) : Prop := -1125899906842624 ≤ r.1 ∧ r.1 ≤ 1125899906842624 ∧ 0 ≤ r.2.1 ∧ r.2.1 ≤ 1125899906842624
theorem good.bnd {r : Rn} (h : good r) : Bnd r := by
 obtain ⟨h1, h2, h3, h4, _⟩ := h
 exact ⟨by omega, by omega, by omega, by omega⟩
theorem qkO (r : Rn) (h : ¬ r.2.1 < 1) : vm [] r = [wG r 0 r.2.1] := by
 unfold vm; rw [qm h]; rfl
theorem qiI (pre : List Rn) (c r : Rn) (h : ¬ r.2.1 < 1) : vm (pre ++ [c]) r = (bif apart c r then pre ++ [c] ++ [wG r 0 r.2.1]
   else bif decide (r.2.1 > 1) && !(r.2.2 == (wC c r == -1)) then pre ++ [(c.1, c.2.1 + 1, wC c r == -1), wG r 1 (r.2.1 - 1)]
   else pre ++ [(c.1, c.2.1 + r.2.1, wC c r == -1)]) := by
 unfold vm; rw [qm h]; simp
theorem qie (b : List Rn) (r : Rn) (h : r.2.1 < 1) : vm b r = b := by unfold vm; rw [qd h]
theorem qrR (r : Rn) (n : Int) : wG (wG r 1 n) 0 n = wG r 1 n := by
 unfold wG
 have e : wh (wh r 1, n, r.2.2 && decide (n > 1)) 0 = wh r 1 := by
  unfold wh; cases r.2.2 && decide (n > 1) <;> simp
 rw [e]
 simp
theorem qwD {r : Rn} (h : Bnd r) {x n : Int} (h0 : 0 ≤ x) (h1 : x ≤ r.2.1) (h2 : 0 ≤ n) (h3 : n ≤ r.2.1) : -2251799813685248 ≤ (wG r x n).1 ∧ (wG r x n).1 ≤ 2251799813685248 ∧ (wG r x n).2.1 = n := by
 obtain ⟨b1, b2, b3, b4⟩ := h
 unfold wG wh
 refine ⟨?_, ?_, rfl⟩ <;> cases r.2.2 <;> simp only [qG, if_false, if_true] <;> omega
theorem qmA {c r : Rn} (hc : 1 ≤ c.2.1) (h1 : apart c r = false) (h3 : (r.2.2 == (wC c r == -1)) = false) : apart (c.1, c.2.1 + 1, wC c r == -1) (wG r 1 (r.2.1 - 1)) = true := by
 obtain ⟨ca, cl, cb⟩ := c
 obtain ⟨ra, rl, rb⟩ := r
 unfold apart at h1
 simp only [WN] at h1
 obtain ⟨h1, h2⟩ := h1
 have hs : wC (ca, cl, cb) (ra, rl, rb) = 1 ∨ wC (ca, cl, cb) (ra, rl, rb) = -1 := by
  generalize wC (ca, cl, cb) (ra, rl, rb) = s at h1
  by_cases e1 : s = 1
  ·exact .inl e1
  ·by_cases e2 : s = -1
   ·exact .inr e2
   ·simp [e1, e2] at h1
 have hcl : (1 : Int) ≤ cl := hc
 unfold apart
 rw [qJr]
 right
 rw [qj]
 refine ⟨qA (show cl + 1 > 1 by omega), ?_⟩
 rcases hs with hs | hs
 ·rw [hs] at h2 h3
  have hrb : rb = true := by cases rb <;> simp_all
  subst hrb
  have hcb : cl > 1 → cb = false := fun h => by
   rw [qA (show (ca, cl, cb).2.1 > 1 from h), ww] at h2
   cases cb
   ·rfl
   ·simp at h2
  rw [hs]
  have e : wC (ca, cl + 1, (1 : Int) == -1) (wG (ra, rl, true) 1 (rl - 1)) = -1 := by
   unfold wC wh at hs
   unfold wC wG wh
   simp only [show ((1 : Int) == -1) = false from rfl, qG, if_false, if_true] at hs ⊢
   by_cases hl : cl > 1
   ·rw [hcb hl] at hs; simp only [qG, if_false] at hs; omega
   ·cases cb <;> simp only [qG, if_false, if_true] at hs <;> omega
  show (!((wC (ca, cl + 1, (1 : Int) == -1) (wG (ra, rl, true) 1 (rl - 1)) == -1) == ((1 : Int) == -1))) = true
  rw [e]; rfl
 ·rw [hs] at h2 h3
  have hrb : rb = false := by cases rb <;> simp_all
  subst hrb
  have hcb : cl > 1 → cb = true := fun h => by
   rw [qA (show (ca, cl, cb).2.1 > 1 from h), ww] at h2
   cases cb
   ·simp at h2
   ·rfl
  rw [hs]
  have e : wC (ca, cl + 1, (-1 : Int) == -1) (wG (ra, rl, false) 1 (rl - 1)) = 1 := by
   unfold wC wh at hs
   unfold wC wG wh
   simp only [show ((-1 : Int) == -1) = true from rfl, qG, if_false, if_true] at hs ⊢
   by_cases hl : cl > 1
   ·rw [hcb hl] at hs; simp only [if_true] at hs; omega
   ·cases cb <;> simp only [qG, if_false, if_true] at hs <;> omega
  show (!((wC (ca, cl + 1, (-1 : Int) == -1) (wG (ra, rl, false) 1 (rl - 1)) == -1) == ((-1 : Int) == -1))) = true
  rw [e]; rfl
theorem WH (k : Nat) (r : Rn) (x n : Int) (h1 : -4611686018427387904 ≤ r.1) (h2 : r.1 ≤ 4611686018427387903) (h3 : -4611686018427387904 ≤ x) (h4 : x ≤ 4611686018427387903) : XQ k r x n = some (wG r x n) := by
 unfold XQ wG
 rw [QQ k r x h1 h2 h3 h4, W4 k r x h1 h2 h3 h4]; rfl
theorem Z5 (k : Nat) (r : Rn) (x n : Int) (h1 : -4611686018427387904 ≤ r.1) (h2 : r.1 ≤ 4611686018427387903) (h3 : -4611686018427387904 ≤ x) (h4 : x ≤ 4611686018427387903) : QX k r x n = wG r x n := by
 unfold QX; rw [WH k r x n h1 h2 h3 h4]; rfl
theorem Y5 (k : Nat) (r : Rn) (x n : Int) (h1 : -4611686018427387904 ≤ r.1) (h2 : r.1 ≤ 4611686018427387903) (h3 : -4611686018427387904 ≤ x) (h4 : x ≤ 4611686018427387903) : qaT k r x n = some (wG r x n) := by
 unfold qaT wG
 rw [zu k r x h1 h2 h3 h4, zG k r x h1 h2 h3 h4]; rfl
theorem qdU (k : Nat) (r : Rn) (x n : Int) (h1 : -4611686018427387904 ≤ r.1) (h2 : r.1 ≤ 4611686018427387903) (h3 : -4611686018427387904 ≤ x) (h4 : x ≤ 4611686018427387903) : Y6 k r x n = wG r x n := by
 unfold Y6; rw [Y5 k r x n h1 h2 h3 h4]; rfl
theorem qfB (pre : List Rn) (c : Rn) (h : pre.length < 4611686018427387904) : (qa .i64 (((pre ++ [c]).length : Int) - 1)).toNat = pre.length := by
 rw [qn, qk, qo (by omega) (by omega)]; omega
theorem qfw (pre : List Rn) (c d : Rn) : (pre ++ [c]).getD pre.length d = c := by simp
theorem qf9 (pre : List Rn) (c d : Rn) : (pre ++ [c]).set pre.length d = pre ++ [d] := by simp
theorem qku (k : Nat) (pre : List Rn) (c r : Rn) (hl : pre.length ≤ 1000000000) (hr : ¬ r.2.1 < 1) (b1 : -9007199254740992 ≤ r.1 ∧ r.1 ≤ 9007199254740992) (hc : -9007199254740992 ≤ c.1 ∧ c.1 ≤ 9007199254740992 ∧ 1 ≤ c.2.1 ∧ c.2.1 ≤ 9007199254740992) (ha : apart c r = true) :
  va (k + 1) (pre ++ [c]) r = some (pre ++ [c] ++ [wG r 0 r.2.1]) := by
 have hi := qfB pre c (by omega)
 have hlen : (pre ++ [c]).length = pre.length + 1 := by simp
 have hst : qa .i64 (r.fst - wh c (c.snd.fst - 1)) = wC c r := by
  unfold wC
  refine qo ?_ ?_ <;> unfold wh <;> cases c.2.2 <;> simp only [qG, if_false, if_true] <;> omega
 unfold va
 rw [qx hr, qg, show (((pre ++ [c]).length : Int) == 0) = false by rw [hlen]; exact Vk (by omega), qg, hi, qfw]
 rw [qo (i := c.snd.fst - 1) (by omega) (by omega), QQ k c _ (by omega) (by omega) (by omega) (by omega), W4 k c _ (by omega) (by omega) (by omega) (by omega), hst]
 rw [qd (by rw [hlen, qo (by omega) (by omega)]; exact ⟨by omega, by omega⟩), qb, qd rfl]
 have ha' : ((wC c r != 1 && wC c r != -1) || decide (c.snd.fst > 1) && !((wC c r == -1) == c.snd.snd)) = true := ha
 rw [ha', qi, WH k r 0 _ (by omega) (by omega) (by omega) (by omega), Z5 k r 0 _ (by omega) (by omega) (by omega) (by omega), qd ⟨rfl, by rw [hlen, qk]; omega⟩]
theorem qhL (k : Nat) (hk : 4 ≤ k) (b : List Rn) (r : Rn) (hl : b.length ≤ 1000000000) (hr : Bnd r) (hb : ∀ c ∈ b, Bnd c ∧ 1 ≤ c.2.1) : va k b r = some (vm b r) := by
 obtain ⟨k, rfl⟩ := qQ (by omega : 0 < k)
 obtain ⟨r1, r2, r3, r4⟩ := hr
 by_cases h0 : r.2.1 < 1
 ·rw [qie _ _ h0]; unfold va; rw [qA h0, qi]
 rcases List.eq_nil_or_concat b with rfl | ⟨pre, c, rfl⟩
 ·rw [qkO _ h0]
  unfold va
  rw [qx h0, qg, show ((([] : List Rn).length : Int) == 0) = true from rfl, qi, WH k r 0 _ (by omega) (by omega) (by omega) (by omega), Z5 k r 0 _ (by omega) (by omega) (by omega) (by omega), qd ⟨rfl, by simp⟩]
  rfl
 rw [List.concat_eq_append] at *
 obtain ⟨⟨c1, c2, c3, c4⟩, c5⟩ := hb c (by simp)
 have hlen : (pre ++ [c]).length = pre.length + 1 := by simp
 rw [qiI _ _ _ h0]
 cases ha : apart c r with
 | true =>
  rw [qi]
  exact qku k pre c r (by omega) h0 ⟨by omega, by omega⟩ ⟨by omega, by omega, by omega, by omega⟩ ha
 | false =>
 rw [qg]
 have hi := qfB pre c (by omega)
 have hst : qa .i64 (r.fst - wh c (c.snd.fst - 1)) = wC c r := by
  unfold wC
  refine qo ?_ ?_ <;> unfold wh <;> cases c.2.2 <;> simp only [qG, if_false, if_true] <;> omega
 have ha' : ((wC c r != 1 && wC c r != -1) || decide (c.snd.fst > 1) && !((wC c r == -1) == c.snd.snd)) = false := ha
 unfold va
 rw [qx h0, qg, show (((pre ++ [c]).length : Int) == 0) = false by rw [hlen]; exact Vk (by omega), qg, hi, qfw]
 rw [qo (i := c.snd.fst - 1) (by omega) (by omega), QQ k c _ (by omega) (by omega) (by omega) (by omega), W4 k c _ (by omega) (by omega) (by omega) (by omega), hst]
 have hidx : (0 : Int) ≤ qa .i64 (((pre ++ [c]).length : Int) - 1) ∧ qa .i64 (((pre ++ [c]).length : Int) - 1) < ((pre ++ [c]).length : Int) := by
  rw [hlen, qo (by omega) (by omega)]; exact ⟨by omega, by omega⟩
 rw [qd hidx, qb, qd rfl, ha', qg]
 rw [qo (i := c.snd.fst + r.snd.fst) (by omega) (by omega), qo (i := c.snd.fst + 1) (by omega) (by omega), qo (i := r.snd.fst - r.snd.fst) (by omega) (by omega), qo (i := r.snd.fst - 1) (by omega) (by omega), qf9, qf9]
 rw [WH k r r.snd.fst _ (by omega) (by omega) (by omega) (by omega), Z5 k r r.snd.fst _ (by omega) (by omega) (by omega) (by omega), WH k r 1 _ (by omega) (by omega) (by omega) (by omega), Z5 k r 1 _ (by omega) (by omega) (by omega) (by omega)]
 obtain ⟨k, rfl⟩ := qQ (by omega : 0 < k)
 have z : ∀ (b : List Rn) (r : Rn), r.2.1 < 1 → va (k + 1) b r = some b := fun b r h => by
  unfold va; rw [qA h, qi]
 have w : ∀ (b b' : List Rn) (r : Rn), va (k + 1) b r = some b' → qq7 (va (k + 1)) b r = b' := fun b b' r h => by
  unfold qq7; rw [h]; rfl
 by_cases hone : r.2.1 > 1
 ·rw [qA hone, ww, ww]
  cases hd : (r.snd.snd == (wC c r == -1)) with
  | true =>
   rw [qi, vB, qg, qd hidx]
   have e := z (pre ++ [(c.fst, c.snd.fst + r.snd.fst, wC c r == -1)]) (wG r r.snd.fst (r.snd.fst - r.snd.fst)) (by show r.snd.fst - r.snd.fst < 1; omega)
   rw [w _ _ _ e, e, qd ⟨rfl, rfl⟩]
  | false =>
   rw [qg, qd1, qi, qd hidx]
   obtain ⟨p1, p2, p3⟩ := qwD (r := r) ⟨r1, r2, r3, r4⟩ (x := 1) (n := r.2.1 - 1) (by omega) (by omega) (by omega) (by omega)
   have e := qku k pre (c.fst, c.snd.fst + 1, wC c r == -1) (wG r 1 (r.snd.fst - 1)) (by omega) (by rw [p3]; omega) ⟨by omega, by omega⟩ ⟨by show -9007199254740992 ≤ c.1; omega, by show c.1 ≤ 9007199254740992; omega, by show 1 ≤ c.2.1 + 1; omega, by show c.2.1 + 1 ≤ 9007199254740992; omega⟩ (qmA c5 ha hd)
   rw [p3, qrR] at e
   rw [w _ _ _ e, e, qd ⟨rfl, rfl⟩]
   simp
 ·have h1 : r.2.1 = 1 := by omega
  rw [qx hone, wD, wD, qg, qg, qd hidx]
  have e := z (pre ++ [(c.fst, c.snd.fst + 1, wC c r == -1)]) (wG r 1 (r.snd.fst - 1)) (by show r.snd.fst - 1 < 1; omega)
  rw [w _ _ _ e, e, qd ⟨rfl, rfl⟩, h1]
theorem qpK (k : Nat) (hk : 4 ≤ k) (b : List Rn) (r : Rn) (hl : b.length ≤ 1000000000) (hr : Bnd r) (hb : ∀ c ∈ b, Bnd c ∧ 1 ≤ c.2.1) : qcF k b r = vm b r := by
 unfold qcF; rw [qhL k hk b r hl hr hb]; rfl
theorem qgG (k j : Nat) (pre : List Rn) (c r : Rn) (hl : pre.length ≤ 1000000000) (hr : ¬ r.2.1 < 1) (b1 : -9007199254740992 ≤ r.1 ∧ r.1 ≤ 9007199254740992) (hc : -9007199254740992 ≤ c.1 ∧ c.1 ≤ 9007199254740992 ∧ 1 ≤ c.2.1 ∧ c.2.1 ≤ 9007199254740992) (ha : apart c r = true) :
  Q5 k (j + 1) r (pre ++ [c]) = some (pre ++ [c] ++ [wG r 0 r.2.1]) := by
 have hi := qfB pre c (by omega)
 have hlen : (pre ++ [c]).length = pre.length + 1 := by simp
 have hst : qa .i64 (r.fst - wh c (c.snd.fst - 1)) = wC c r := by
  unfold wC
  refine qo ?_ ?_ <;> unfold wh <;> cases c.2.2 <;> simp only [qG, if_false, if_true] <;> omega
 have hidx : (0 : Int) ≤ qa .i64 (((pre ++ [c]).length : Int) - 1) ∧ qa .i64 (((pre ++ [c]).length : Int) - 1) < ((pre ++ [c]).length : Int) := by
  rw [hlen, qo (by omega) (by omega)]; exact ⟨by omega, by omega⟩
 unfold Q5
 rw [qA (by omega : r.snd.fst > 0), qi, qx (by omega : ¬ qa .i64 (((pre ++ [c]).length : Int) - 1) < 0), qg, hi, qfw]
 rw [qo (i := c.snd.fst - 1) (by omega) (by omega), zu k c _ (by omega) (by omega) (by omega) (by omega), zG k c _ (by omega) (by omega) (by omega) (by omega), hst]
 rw [qd hidx, qb, qd rfl]
 have ha' : ((wC c r != 1 && wC c r != -1) || decide (c.snd.fst > 1) && !(c.snd.snd == (wC c r == -1))) = true := by
  rw [Bool.beq_comm]; exact ha
 rw [ha', qi, Y5 k r 0 _ (by omega) (by omega) (by omega) (by omega), qdU k r 0 _ (by omega) (by omega) (by omega) (by omega), qd ⟨rfl, by rw [hlen, qk]; omega⟩]
theorem qui (k j : Nat) (b : List Rn) (r : Rn) (hl : b.length ≤ 1000000000) (hr : Bnd r) (hb : ∀ c ∈ b, Bnd c ∧ 1 ≤ c.2.1) : Q5 k (j + 2) r b = some (vm b r) := by
 obtain ⟨r1, r2, r3, r4⟩ := hr
 by_cases h0 : r.2.1 < 1
 ·rw [qie _ _ h0]; unfold Q5; rw [qx (by omega : ¬ r.snd.fst > 0), qg]
 rcases List.eq_nil_or_concat b with rfl | ⟨pre, c, rfl⟩
 ·rw [qkO _ h0]
  unfold Q5
  rw [qA (by omega : r.snd.fst > 0), qi, show qa .i64 ((([] : List Rn).length : Int) - 1) = -1 by rw [List.length_nil, qo (by omega) (by omega)]; rfl, qA (by omega : (-1 : Int) < 0), qi, Y5 k r 0 _ (by omega) (by omega) (by omega) (by omega), qdU k r 0 _ (by omega) (by omega) (by omega) (by omega), qd ⟨rfl, by simp⟩]
  rfl
 rw [List.concat_eq_append] at *
 obtain ⟨⟨c1, c2, c3, c4⟩, c5⟩ := hb c (by simp)
 have hlen : (pre ++ [c]).length = pre.length + 1 := by simp
 rw [qiI _ _ _ h0]
 cases ha : apart c r with
 | true =>
  rw [qi]
  exact qgG k (j + 1) pre c r (by omega) h0 ⟨by omega, by omega⟩ ⟨by omega, by omega, by omega, by omega⟩ ha
 | false =>
 rw [qg]
 have hi := qfB pre c (by omega)
 have hst : qa .i64 (r.fst - wh c (c.snd.fst - 1)) = wC c r := by
  unfold wC
  refine qo ?_ ?_ <;> unfold wh <;> cases c.2.2 <;> simp only [qG, if_false, if_true] <;> omega
 have ha' : ((wC c r != 1 && wC c r != -1) || decide (c.snd.fst > 1) && !(c.snd.snd == (wC c r == -1))) = false := by
  rw [Bool.beq_comm]; exact ha
 have hidx : (0 : Int) ≤ qa .i64 (((pre ++ [c]).length : Int) - 1) ∧ qa .i64 (((pre ++ [c]).length : Int) - 1) < ((pre ++ [c]).length : Int) := by
  rw [hlen, qo (by omega) (by omega)]; exact ⟨by omega, by omega⟩
 rw [Q5]
 rw [qA (by omega : r.snd.fst > 0), qi, qx (by omega : ¬ qa .i64 (((pre ++ [c]).length : Int) - 1) < 0), qg, hi, qfw]
 rw [qo (i := c.snd.fst - 1) (by omega) (by omega), zu k c _ (by omega) (by omega) (by omega) (by omega), zG k c _ (by omega) (by omega) (by omega) (by omega), hst]
 rw [qd hidx, qb, qd rfl, ha', qg]
 rw [qo (i := c.snd.fst + r.snd.fst) (by omega) (by omega), qo (i := c.snd.fst + 1) (by omega) (by omega), qo (i := r.snd.fst - r.snd.fst) (by omega) (by omega), qo (i := r.snd.fst - 1) (by omega) (by omega), qf9, qf9]
 rw [Y5 k r 1 _ (by omega) (by omega) (by omega) (by omega), qdU k r 1 _ (by omega) (by omega) (by omega) (by omega)]
 cases hd : (decide (r.snd.fst > 1) && !(r.snd.snd == (wC c r == -1))) with
 | true =>
  rw [qi, qi, qd hidx]
  simp only [qj, decide_eq_true_eq] at hd
  obtain ⟨hone, hd⟩ := hd
  have hd : (r.2.2 == (wC c r == -1)) = false := by
   cases e : (r.2.2 == (wC c r == -1)) with
   | false => rfl
   | true => rw [show r.snd.snd = r.2.2 from rfl, e] at hd; cases hd
  rw [show ((1 : Int) == r.snd.fst) = false by exact Vk (by omega), qg, qb, qd rfl]
  obtain ⟨p1, p2, p3⟩ := qwD (r := r) ⟨r1, r2, r3, r4⟩ (x := 1) (n := r.2.1 - 1) (by omega) (by omega) (by omega) (by omega)
  have e := qgG k j pre (c.fst, c.snd.fst + 1, wC c r == -1) (wG r 1 (r.snd.fst - 1)) (by omega) (by rw [p3]; omega) ⟨by omega, by omega⟩ ⟨by show -9007199254740992 ≤ c.1; omega, by show c.1 ≤ 9007199254740992; omega, by show 1 ≤ c.2.1 + 1; omega, by show c.2.1 + 1 ≤ 9007199254740992; omega⟩ (qmA c5 ha hd)
  rw [p3, qrR] at e
  rw [e]
  simp
 | false =>
  rw [qg, qg, qd hidx, beq_self_eq_true, qi]
theorem XT (k : Nat) (hk : 4 ≤ k) (b : List Rn) (r : Rn) (hl : b.length ≤ 1000000000) (hr : Bnd r) (hb : ∀ c ∈ b, Bnd c ∧ 1 ≤ c.2.1) : qgi k b r = some (vm b r) := by
 unfold qgi
 rw [qd (by omega), qH]
 obtain ⟨j, rfl⟩ : ∃ m, k = m + 2 := ⟨k - 2, by omega⟩
 exact qui _ j b r hl hr hb
theorem qcs (k : Nat) (hk : 4 ≤ k) (b : List Rn) (r : Rn) (hl : b.length ≤ 1000000000) (hr : Bnd r) (hb : ∀ c ∈ b, Bnd c ∧ 1 ≤ c.2.1) : qcJ k b r = vm b r := by
 unfold qcJ; rw [XT k hk b r hl hr hb]; rfl
end Go.AM
namespace Go.AM
open Go
theorem YR {r : Rn} : good r ↔ 1 ≤ r.2.1 ∧ 0 ≤ lo r ∧ hi r < 17179869184 := by
 unfold good lo hi
 cases r.2.2
 ·simp only [qG, if_false]
  constructor
  ·rintro ⟨h1, h2, h3, h4, _, h6⟩
   have := h6 trivial
   omega
  ·rintro ⟨h1, h2, h3⟩
   refine ⟨by omega, by omega, by omega, by omega, fun h => h.elim, fun _ => by omega⟩
 ·simp only [if_true]
  constructor
  ·rintro ⟨h1, h2, h3, h4, h5, _⟩
   have := h5 trivial
   omega
  ·rintro ⟨h1, h2, h3⟩
   refine ⟨by omega, by omega, by omega, by omega, fun _ => by omega, fun h => by cases h⟩
theorem zC : ∀ (a b : List Rn) (x : Int), goods a → 0 ≤ x → wb (a ++ b) x = if x < qv a then wb a x else wb b (x - qv a)
 | [], b, x, _, h0 => by simp only [qH, qv, qm (by omega : ¬ x < 0), Int.sub_zero]
 | r :: t, b, x, hg, h0 => by
  have hr := hg.1.1
  have ht := zf hg.2
  show (if x < r.2.1 then wh r x else wb (t ++ b) (x - r.2.1)) = if x < r.2.1 + qv t then (if x < r.2.1 then wh r x else wb t (x - r.2.1)) else wb b (x - (r.2.1 + qv t))
  by_cases h : x < r.2.1
  ·rw [qd h, qd (by omega), qd h]
  ·rw [qm h, zC t b _ hg.2 (by omega)]
   by_cases h2 : x - r.2.1 < qv t
   ·rw [qd h2, qd (by omega), qm h]
   ·rw [qm h2, qm (by omega), Int.sub_sub]
theorem qd9 {r : Rn} {x n y : Int} (h0 : 0 ≤ y) (h1 : y < n) : wh (wG r x n) y = wh r (x + y) := by
 unfold wG wh
 by_cases h : n > 1
 ·rw [qA h, Bool.and_true]
  cases r.2.2 <;> simp only [qG, if_false, if_true] <;> omega
 ·have : y = 0 := by omega
  subst this
  cases r.2.2 && decide (n > 1) <;> simp
theorem qcb {r : Rn} (h : good r) {x n : Int} (h0 : 0 ≤ x) (h1 : 1 ≤ n) (h2 : x + n ≤ r.2.1) : good (wG r x n) := by
 rw [YR] at h ⊢
 obtain ⟨g1, g2, g3⟩ := h
 have e1 := qjb (r := r) (x := x) (by omega) (by omega)
 have e2 := qjb (r := r) (x := x + n - 1) (by omega) (by omega)
 refine ⟨h1, ?_, ?_⟩
 ·unfold wG lo
  by_cases h : n > 1
  ·rw [qA h, Bool.and_true]
   unfold wh at e1 e2 ⊢
   cases hb : r.2.2 <;> rw [hb] at e1 e2 <;> simp only [qG, if_false, if_true] at e1 e2 ⊢ <;> omega
  ·rw [qx h, qHb]
   simp only [qG, if_false]; omega
 ·unfold wG hi
  by_cases h : n > 1
  ·rw [qA h, Bool.and_true]
   unfold wh at e1 e2 ⊢
   cases hb : r.2.2 <;> rw [hb] at e1 e2 <;> simp only [qG, if_false, if_true] at e1 e2 ⊢ <;> omega
  ·rw [qx h, qHb]
   simp only [qG, if_false]; omega
theorem qOY {c r : Rn} (h : apart c r = false) : wC c r = 1 ∨ wC c r = -1 := by
 unfold apart at h
 simp only [WN] at h
 generalize wC c r = s at h
 by_cases e1 : s = 1
 ·exact .inl e1
 ·by_cases e2 : s = -1
  ·exact .inr e2
  ·have := h.1; simp [e1, e2] at this
theorem qM6 {c r : Rn} (h : apart c r = false) (hc : c.2.1 > 1) : c.2.2 = (wC c r == -1) := by
 unfold apart at h
 simp only [WN] at h
 have h2 := h.2
 rw [qA hc, ww] at h2
 cases e : c.2.2 <;> cases e2 : (wC c r == -1) <;> simp_all
theorem qgp {c r : Rn} (hc : 1 ≤ c.2.1) (h : apart c r = false) {n : Int} (hn : n > 1 → r.2.2 = (wC c r == -1)) {x : Int} (h0 : 0 ≤ x) (h1 : x < c.2.1 + n) :
  wh (c.1, c.2.1 + n, wC c r == -1) x = if x < c.2.1 then wh c x else wh r (x - c.2.1) := by
 have hb := qM6 (c := c) (r := r) h
 have hstp : wC c r = r.1 - wh c (c.2.1 - 1) := rfl
 rcases qOY h with hs | hs
 ·rw [hs] at hb hn hstp ⊢
  have hf : ((1 : Int) == -1) = false := rfl
  rw [hf] at hb hn ⊢
  unfold wh at hstp ⊢
  simp only [qG, if_false]
  by_cases hx : x < c.2.1
  ·rw [qd hx]
   by_cases hc1 : c.2.1 > 1
   ·rw [hb hc1]; simp
   ·have : x = 0 := by omega
    subst this; cases c.2.2 <;> simp
  ·rw [qm hx]
   have e1 : r.1 = c.1 + c.2.1 := by
    by_cases hc1 : c.2.1 > 1
    ·rw [hb hc1] at hstp; simp only [qG, if_false] at hstp; omega
    ·cases e : c.2.2 <;> rw [e] at hstp <;> simp only [qG, if_false, if_true] at hstp <;> omega
   by_cases hn1 : n > 1
   ·rw [hn hn1]; simp only [qG, if_false]; omega
   ·cases r.2.2 <;> simp only [qG, if_false, if_true] <;> omega
 ·rw [hs] at hb hn hstp ⊢
  have hf : ((-1 : Int) == -1) = true := rfl
  rw [hf] at hb hn ⊢
  unfold wh at hstp ⊢
  simp only [if_true]
  by_cases hx : x < c.2.1
  ·rw [qd hx]
   by_cases hc1 : c.2.1 > 1
   ·rw [hb hc1]; simp
   ·have : x = 0 := by omega
    subst this; cases c.2.2 <;> simp
  ·rw [qm hx]
   have e1 : r.1 = c.1 - c.2.1 := by
    by_cases hc1 : c.2.1 > 1
    ·rw [hb hc1] at hstp; simp only [if_true] at hstp; omega
    ·cases e : c.2.2 <;> rw [e] at hstp <;> simp only [qG, if_false, if_true] at hstp <;> omega
   by_cases hn1 : n > 1
   ·rw [hn hn1]; simp only [if_true]; omega
   ·cases r.2.2 <;> simp only [qG, if_false, if_true] <;> omega
theorem qhm {r : Rn} (h1 : 1 ≤ r.2.1) (a : 0 ≤ wh r 0 ∧ wh r 0 < 17179869184) (b : 0 ≤ wh r (r.2.1 - 1) ∧ wh r (r.2.1 - 1) < 17179869184) : good r := by
 rw [YR]
 unfold wh at a b
 unfold lo hi
 cases hb : r.2.2 <;> rw [hb] at a b <;> simp only [qG, if_false, if_true] at a b ⊢ <;> omega
theorem qfH {r : Rn} (h : good r) {x : Int} (h0 : 0 ≤ x) (h1 : x < r.2.1) : 0 ≤ wh r x ∧ wh r x < 17179869184 := by
 have := qjb (r := r) h0 h1
 have h := YR.1 h
 omega
theorem qpD {c r : Rn} (hc : good c) (hr : good r) (h : apart c r = false) {n : Int} (hn0 : 1 ≤ n) (hn1 : n ≤ r.2.1) (hn : n > 1 → r.2.2 = (wC c r == -1)) : good (c.1, c.2.1 + n, wC c r == -1) := by
 have hc1 := hc.1
 refine qhm (by show 1 ≤ c.2.1 + n; omega) ?_ ?_
 ·rw [qgp hc1 h hn (by omega) (by omega), qd (by omega)]
  exact qfH hc (by omega) (by omega)
 ·show 0 ≤ wh (c.1, c.2.1 + n, wC c r == -1) (c.2.1 + n - 1) ∧ wh (c.1, c.2.1 + n, wC c r == -1) (c.2.1 + n - 1) < 17179869184
  rw [qgp hc1 h hn (by omega) (by omega), qm (by omega)]
  exact qfH hr (by omega) (by omega)
theorem Xp (b : List Rn) (r : Rn) (hb : goods b) (hr : good r) : goods (vm b r) ∧ qv (vm b r) = qv b + r.2.1 ∧ ∀ x, 0 ≤ x → x < qv b + r.2.1 → wb (vm b r) x = wb (b ++ [r]) x := by
 have hr1 := hr.1
 have last1 : ∀ (x : Int), x < r.2.1 → wb [r] x = wh r x := fun x h => by simp only [wb, qd h]
 have p0 : ∀ x, 0 ≤ x → x < r.2.1 → wh (wG r 0 r.2.1) x = wh r x := fun x h0 h1 => by rw [qd9 h0 h1, Int.zero_add]
 have hp : good (wG r 0 r.2.1) := qcb hr (by omega) hr1 (by omega)
 have new : ∀ b : List Rn, goods b → goods (b ++ [wG r 0 r.2.1]) ∧ qv (b ++ [wG r 0 r.2.1]) = qv b + r.2.1 ∧ ∀ x, 0 ≤ x → x < qv b + r.2.1 → wb (b ++ [wG r 0 r.2.1]) x = wb (b ++ [r]) x := fun b hb => by
  refine ⟨(Qg _ _).2 ⟨hb, hp, trivial⟩, ?_, fun x h0 h1 => ?_⟩
  ·rw [W0]; simp only [qv]; show qv b + (r.2.1 + 0) = _; omega
  ·rw [zC _ _ _ hb h0, zC _ _ _ hb h0]
   by_cases h : x < qv b
   ·rw [qd h, qd h]
   ·rw [qm h, qm h, last1 _ (by omega)]
    have hlt : x - qv b < (wG r 0 r.2.1).2.1 := by show x - qv b < r.2.1; omega
    simp only [wb, qd hlt]
    exact p0 _ (by omega) (by omega)
 have h0 : ¬ r.2.1 < 1 := by omega
 rcases List.eq_nil_or_concat b with rfl | ⟨pre, c, rfl⟩
 ·unfold vm
  rw [qm h0]
  exact new [] trivial
 rw [List.concat_eq_append] at *
 obtain ⟨hpre, hc, _⟩ := (Qg _ _).1 hb
 have hc1 := hc.1
 have hlc : qv (pre ++ [c]) = qv pre + c.2.1 := by rw [W0]; simp only [qv]; omega
 have e : vm (pre ++ [c]) r = (bif apart c r then pre ++ [c] ++ [wG r 0 r.2.1]
   else bif decide (r.2.1 > 1) && !(r.2.2 == (wC c r == -1)) then pre ++ [(c.1, c.2.1 + 1, wC c r == -1), wG r 1 (r.2.1 - 1)]
   else pre ++ [(c.1, c.2.1 + r.2.1, wC c r == -1)]) := by
  unfold vm; rw [qm h0]; simp
 rw [e]
 cases ha : apart c r with
 | true => rw [qi]; exact new _ hb
 | false =>
 rw [qg]
 have old : ∀ x, 0 ≤ x → x < qv (pre ++ [c]) + r.2.1 → wb (pre ++ [c] ++ [r]) x = if x < qv pre then wb pre x else if x - qv pre < c.2.1 then wh c (x - qv pre) else wh r (x - qv pre - c.2.1) := fun x hx0 hx1 => by
  rw [qw, zC _ _ _ hpre hx0]
  by_cases h : x < qv pre
  ·rw [qd h, qd h]
  ·rw [qm h, qm h]
   simp only [qpk, qH, wb]
   by_cases h2 : x - qv pre < c.2.1
   ·rw [qd h2, qd h2]
   ·rw [qm h2, qm h2, qd (by omega)]
 cases hd : (decide (r.2.1 > 1) && !(r.2.2 == (wC c r == -1))) with
 | true =>
  rw [qi]
  simp only [qj, decide_eq_true_eq] at hd
  have hn : (1 : Int) > 1 → r.2.2 = (wC c r == -1) := fun h => by omega
  have hg := qpD hc hr ha (n := 1) (by omega) (by omega) hn
  have hq : good (wG r 1 (r.2.1 - 1)) := qcb hr (by omega) (by omega) (by omega)
  refine ⟨(Qg _ _).2 ⟨hpre, hg, hq, trivial⟩, ?_, fun x hx0 hx1 => ?_⟩
  ·rw [W0, hlc]
   simp only [qv]
   show qv pre + (c.2.1 + 1 + (r.2.1 - 1 + 0)) = _
   omega
  ·rw [old x hx0 hx1, zC _ _ _ hpre hx0]
   by_cases h : x < qv pre
   ·rw [qd h, qd h]
   ·rw [qm h, qm h]
    simp only [wb]
    show (if x - qv pre < c.2.1 + 1 then _ else if x - qv pre - (c.2.1 + 1) < r.2.1 - 1 then _ else _) = _
    by_cases h2 : x - qv pre < c.2.1 + 1
    ·rw [qd h2, qgp hc1 ha hn (by omega) h2]
    ·rw [qm h2, qd (by omega), qm (by omega), qd9 (by omega) (by omega)]
     congr 1; omega
 | false =>
  rw [qg]
  have hn : r.2.1 > 1 → r.2.2 = (wC c r == -1) := fun h => by
   rw [qA h, ww] at hd
   cases e : r.2.2 <;> cases e2 : (wC c r == -1) <;> simp_all
  have hg := qpD hc hr ha (n := r.2.1) (by omega) (by omega) hn
  refine ⟨(Qg _ _).2 ⟨hpre, hg, trivial⟩, ?_, fun x hx0 hx1 => ?_⟩
  ·rw [W0, hlc]
   simp only [qv]
   show qv pre + (c.2.1 + r.2.1 + 0) = _
   omega
  ·rw [old x hx0 hx1, zC _ _ _ hpre hx0]
   by_cases h : x < qv pre
   ·rw [qd h, qd h]
   ·rw [qm h, qm h]
    simp only [wb]
    show (if x - qv pre < c.2.1 + r.2.1 then _ else _) = _
    rw [qd (by omega), qgp hc1 ha hn (by omega) (by omega)]
theorem qcC : ∀ (l b : List Rn), goods b → goods l → goods (zl b l) ∧ qv (zl b l) = qv b + qv l ∧ ∀ x, 0 ≤ x → x < qv b + qv l → wb (zl b l) x = wb (b ++ l) x
 | [], b, hb, _ => by simp [zl, qv, hb]
 | r :: t, b, hb, ⟨hr, ht⟩ => by
  obtain ⟨a1, a2, a3⟩ := Xp b r hb hr
  obtain ⟨b1, b2, b3⟩ := qcC t (vm b r) a1 ht
  have hr1 := hr.1
  have hb0 := zf hb
  have ht0 := zf ht
  refine ⟨b1, by show qv (zl (vm b r) t) = _; rw [b2, a2]; simp only [qv]; omega, fun x h0 h1 => ?_⟩
  show wb (zl (vm b r) t) x = _
  simp only [qv] at h1
  rw [b3 x h0 (by rw [a2]; omega), zC _ _ _ a1 h0, a2, show b ++ r :: t = b ++ [r] ++ t by simp, zC (b ++ [r]) _ _ ((Qg _ _).2 ⟨hb, hr, trivial⟩) h0, W0, show qv [r] = r.2.1 by simp [qv]]
  by_cases h : x < qv b + r.2.1
  ·rw [qd h, qd h, a3 x h0 h]
  ·rw [qm h, qm h]
theorem Vy : ∀ (m : List Rn) (a b : Int), goods m → a < b → b ≤ qv m → 0 ≤ b →
  goods (wg m a b) ∧ qv (wg m a b) = b - max a 0 ∧ ∀ x, 0 ≤ x → x < b - max a 0 → wb (wg m a b) x = wb m (max a 0 + x)
 | [], a, b, _, h1, h2, h3 => by
  simp only [qv] at h2
  refine ⟨trivial, by simp only [wg, qv]; omega, fun x h0 hx => by omega⟩
 | r :: t, a, b, ⟨hr, ht⟩, h1, h2, h3 => by
  have hr1 := hr.1
  have ht0 := zf ht
  simp only [qv] at h2
  by_cases hb : b - r.2.1 ≤ 0
  ·-- the end lies within the first run
   have hnil : wg t (a - r.2.1) (b - r.2.1) = [] := by
    have : ∀ (t : List Rn) (a b : Int), b ≤ 0 → goods t → wg t a b = [] := fun t => by
     induction t with
     | nil => intros; rfl
     | cons u v ih =>
      intro a b hb hg
      have := hg.1.1
      simp only [wg]
      rw [qm (by omega), ih _ _ (by omega) hg.2]; rfl
    exact this t _ _ hb ht
   simp only [wg, hnil, qY]
   by_cases hc : max a 0 < min b r.2.1
   ·rw [qd hc]
    refine ⟨⟨qcb hr (by omega) (by omega) (by omega), trivial⟩, ?_, fun x h0 hx => ?_⟩
    ·simp only [qv]; show min b r.2.1 - max a 0 + 0 = _; omega
    ·have hlt : x < min b r.2.1 - max a 0 := by omega
     show (if x < min b r.2.1 - max a 0 then wh (wG r (max a 0) (min b r.2.1 - max a 0)) x else 0) = if max a 0 + x < r.2.1 then wh r (max a 0 + x) else wb t (max a 0 + x - r.2.1)
     rw [qd hlt, qd9 h0 hlt, qd (by omega)]
   ·rw [qm hc]
    refine ⟨trivial, by simp only [qv]; omega, fun x h0 hx => by omega⟩
  ·obtain ⟨i1, i2, i3⟩ := Vy t (a - r.2.1) (b - r.2.1) ht (by omega) (by omega) (by omega)
   simp only [wg]
   by_cases hc : max a 0 < min b r.2.1
   ·rw [qd hc]
    refine ⟨⟨qcb hr (by omega) (by omega) (by omega), i1⟩, ?_, fun x h0 hx => ?_⟩
    ·simp only [qpk, qH, qv, i2]; show min b r.2.1 - max a 0 + _ = _; omega
    ·simp only [qpk, qH, wb]
     show (if x < min b r.2.1 - max a 0 then _ else wb _ (x - (min b r.2.1 - max a 0))) = _
     by_cases hx2 : x < min b r.2.1 - max a 0
     ·rw [qd hx2, qd9 h0 hx2, qd (by omega)]
     ·rw [qm hx2, i3 _ (by omega) (by omega), qm (by omega)]
      congr 1; omega
   ·rw [qm hc, qH]
    refine ⟨i1, by rw [i2]; omega, fun x h0 hx => ?_⟩
    rw [i3 x h0 (by omega)]
    simp only [wb]
    rw [qm (by omega)]
    congr 1; omega
theorem qpA {p : Rn} (h : good p) : good (vL p) ∧ (vL p).2.1 = p.2.1 ∧ ∀ x, 0 ≤ x → x < p.2.1 → wh (vL p) x = wh p (p.2.1 - 1 - x) := by
 have h1 := h.1
 have hi : ∀ x, 0 ≤ x → x < p.2.1 → wh (vL p) x = wh p (p.2.1 - 1 - x) := fun x h0 hx => by
  unfold vL wh
  by_cases hl : p.2.1 > 1
  ·rw [qA hl, Bool.and_true]
   cases p.2.2 <;> simp only [qd1, vB, qG, if_false, if_true] <;> omega
  ·have : x = 0 := by omega
   subst this
   rw [qx hl, qHb]
   simp
 refine ⟨qhm h1 ?_ ?_, rfl, hi⟩
 ·rw [hi 0 (by omega) (by omega)]; exact qfH h (by omega) (by omega)
 ·show 0 ≤ wh (vL p) (p.2.1 - 1) ∧ wh (vL p) (p.2.1 - 1) < 17179869184
  rw [hi _ (by omega) (by omega)]; exact qfH h (by omega) (by omega)
theorem qp2 : ∀ (l : List Rn), goods l → goods (l.reverse.map vL) ∧ qv (l.reverse.map vL) = qv l ∧ ∀ x, 0 ≤ x → x < qv l → wb (l.reverse.map vL) x = wb l (qv l - 1 - x)
 | [], _ => ⟨trivial, rfl, fun x _ h => by simp only [qv] at h; omega⟩
 | r :: t, ⟨hr, ht⟩ => by
  obtain ⟨i1, i2, i3⟩ := qp2 t ht
  obtain ⟨r1, r2, r3⟩ := qpA hr
  have hr1 := hr.1
  have ht0 := zf ht
  have e : (r :: t).reverse.map vL = t.reverse.map vL ++ [vL r] := by simp
  rw [e]
  refine ⟨(Qg _ _).2 ⟨i1, r1, trivial⟩, ?_, fun x h0 hx => ?_⟩
  ·rw [W0, i2]; simp only [qv, r2]; omega
  ·simp only [qv] at hx ⊢
   rw [zC _ _ _ i1 h0, i2]
   simp only [wb, r2]
   by_cases h : x < qv t
   ·rw [qd h, i3 x h0 h, qm (by omega)]
    congr 1; omega
   ·rw [qm h, qd (by omega), qd (by omega), r3 _ (by omega) (by omega)]
    congr 1; omega
theorem Vf (outer : List Rn) (r : Rn) (ho : goods outer) (hr : good r) (hh : hi r < qv outer) :
  goods (steps outer r) ∧ qv (steps outer r) = r.2.1 ∧ ∀ x, 0 ≤ x → x < r.2.1 → wb (steps outer r) x = wb outer (wh r x) := by
 obtain ⟨l1, l2, l3, l4⟩ := hr.lohi
 have hr1 := hr.1
 unfold steps
 unfold lo at l1 l2 l4
 unfold hi at l2 l3 l4 hh
 cases hb : r.2.2
 ·rw [hb] at l1 l2 l3 l4 hh
  simp only [qG, if_false] at l1 l2 l3 l4 hh ⊢
  obtain ⟨p1, p2, p3⟩ := Vy outer r.1 (r.1 + r.2.1) ho (by omega) (by omega) (by omega)
  refine ⟨p1, by rw [p2]; omega, fun x h0 hx => ?_⟩
  rw [p3 x h0 (by omega)]
  unfold wh
  rw [hb]
  simp only [qG, if_false]
  congr 1; omega
 ·rw [hb] at l1 l2 l3 l4 hh
  simp only [if_true] at l1 l2 l3 l4 hh ⊢
  obtain ⟨p1, p2, p3⟩ := Vy outer (r.1 - r.2.1 + 1) (r.1 + 1) ho (by omega) (by omega) (by omega)
  obtain ⟨q1, q2, q3⟩ := qp2 _ p1
  refine ⟨q1, by rw [q2, p2]; omega, fun x h0 hx => ?_⟩
  rw [q3 x h0 (by omega), p3 _ (by omega) (by omega), p2]
  unfold wh
  rw [hb]
  simp only [if_true]
  congr 1; omega
theorem ql6 (outer : List Rn) (ho : goods outer) : ∀ (inner b : List Rn), goods inner → fitsIn (qv outer) inner → goods b →
  goods (inner.foldl (fun b r => zl b (steps outer r)) b) ∧ qv (inner.foldl (fun b r => zl b (steps outer r)) b) = qv b + qv inner ∧
  ∀ x, 0 ≤ x → x < qv b + qv inner → wb (inner.foldl (fun b r => zl b (steps outer r)) b) x = if x < qv b then wb b x else wb outer (wb inner (x - qv b))
 | [], b, _, _, hb => ⟨hb, by simp [qv], fun x h0 h1 => by simp only [qv, Int.add_zero] at h1; simp only [List.foldl_nil]; rw [qd h1]⟩
 | r :: t, b, ⟨hr, ht⟩, ⟨hf, hft⟩, hb => by
  obtain ⟨s1, s2, s3⟩ := Vf outer r ho hr hf
  obtain ⟨a1, a2, a3⟩ := qcC (steps outer r) b hb s1
  obtain ⟨i1, i2, i3⟩ := ql6 outer ho t (zl b (steps outer r)) ht hft a1
  have hr1 := hr.1
  have ht0 := zf ht
  simp only [List.foldl_cons, qv]
  refine ⟨i1, by rw [i2, a2, s2]; omega, fun x h0 hx => ?_⟩
  rw [i3 x h0 (by rw [a2, s2]; omega), a2, s2]
  by_cases h : x < qv b + r.2.1
  ·rw [qd h, a3 x h0 (by rw [s2]; omega), zC _ _ _ hb h0]
   by_cases h2 : x < qv b
   ·rw [qd h2, qd h2]
   ·rw [qm h2, qm h2, s3 _ (by omega) (by omega)]
    simp only [wb]
    rw [qd (by omega)]
  ·rw [qm h, qm (by omega)]
   simp only [wb]
   rw [qm (by omega)]
   congr 2; omega
theorem qCs {inner outer m : List Rn} (h : Xv inner outer = (m, 0)) : Chk inner ∧ Chk outer ∧ fitsIn (qv outer) inner ∧ Chk m ∧ qv m = qv inner ∧ ∀ x, 0 ≤ x → x < qv inner → wb m x = wb outer (wb inner x) := by
 unfold Xv at h
 by_cases h1 : chk inner ≠ 0
 ·rw [qd h1] at h; exact absurd (congrArg Prod.snd h) h1
 rw [qm h1] at h
 by_cases h2 : chk outer ≠ 0
 ·rw [qd h2] at h; exact absurd (congrArg Prod.snd h) h2
 rw [qm h2] at h
 by_cases h3 : ¬ fitsIn (qv outer) inner
 ·rw [qd h3] at h; exact absurd (congrArg Prod.snd h) (fun e => by cases e)
 rw [qm h3] at h
 by_cases h4 : (XJ inner outer).length > 256
 ·rw [qd h4] at h; exact absurd (congrArg Prod.snd h) (fun e => by cases e)
 rw [qm h4] at h
 have h1 := wW.1 (Classical.not_not.1 h1)
 have h2 := wW.1 (Classical.not_not.1 h2)
 have h3 := Classical.not_not.1 h3
 have e : XJ inner outer = m := congrArg Prod.fst h
 obtain ⟨c1, c2, c3⟩ := ql6 outer h2.goods inner [] h1.goods h3 trivial
 have c1 : goods (XJ inner outer) := c1
 have c2 : qv (XJ inner outer) = 0 + qv inner := c2
 rw [e] at c1 c2 h4
 refine ⟨h1, h2, h3, ⟨by omega, c1, by rw [c2]; have := h1.tot; omega⟩, by omega, fun x h0 hx => ?_⟩
 have := c3 x h0 (by simp only [qv]; omega)
 have this : wb (XJ inner outer) x = _ := this
 rw [e] at this
 rw [this]
 simp only [qv, qm (by omega : ¬ x < 0), Int.sub_zero]
theorem goods.bnds {b : List Rn} (h : goods b) : ∀ c ∈ b, Bnd c ∧ 1 ≤ c.2.1 := fun c hc => ⟨(h.mem c hc).bnd, (h.mem c hc).1⟩
theorem Yi (b : List Rn) (r : Rn) : (vm b r).length ≤ b.length + 1 := by
 by_cases h0 : r.2.1 < 1
 ·rw [qie _ _ h0]; omega
 rcases List.eq_nil_or_concat b with rfl | ⟨pre, c, rfl⟩
 ·rw [qkO _ h0]; simp
 rw [List.concat_eq_append, qiI _ _ _ h0]
 cases apart c r
 ·rw [qg]
  cases decide (r.2.1 > 1) && !(r.2.2 == (wC c r == -1))
  ·rw [qg]; simp
  ·rw [qi]; simp
 ·rw [qi]; simp
theorem qlz : ∀ (l b : List Rn), (zl b l).length ≤ b.length + l.length
 | [], b => by simp [zl]
 | r :: t, b => by
  have h1 := Yi b r
  have h2 := qlz t (vm b r)
  have : zl b (r :: t) = zl (vm b r) t := rfl
  rw [this]; simp only [wc]; omega
theorem XI : ∀ (m : List Rn) (a b : Int), (wg m a b).length ≤ m.length
 | [], _, _ => qT _
 | r :: t, a, b => by
  have := XI t (a - r.2.1) (b - r.2.1)
  simp only [wg, qn, wc]
  split <;> simp <;> omega
theorem quP (b l m : List Rn) : zl b (l ++ m) = zl (zl b l) m := by unfold zl; rw [List.foldl_append]
theorem qs0 (r : Rn) (f t a : Int) : (if a > f then a else f) - a = max (f - a) 0 ∧ (if a + r.2.1 < t then a + r.2.1 else t) - (if a > f then a else f) = min (t - a) r.2.1 - max (f - a) 0 ∧ ((if a > f then a else f) < (if a + r.2.1 < t then a + r.2.1 else t) ↔ max (f - a) 0 < min (t - a) r.2.1) := by
 refine ⟨?_, ?_, ?_⟩ <;> split <;> (try split) <;> omega
structure EachOk (m : List Rn) (f t : Int) : Prop where
 goods : goods m
 len : m.length ≤ 300
 f0 : -1125899906842624 ≤ f ∧ f ≤ 1125899906842624
 t0 : -1125899906842624 ≤ t ∧ t ≤ 1125899906842624
theorem qoL (k : Nat) (hk : 4 ≤ k) (m0 : List Rn) (f0 t0 : Int) (b0 : List Rn) (m : List Rn) (f t : Int) (ok : EachOk m f t) : ∀ (j i : Nat) (a : Int) (b : List Rn), i ≤ m.length → m.length - i < j → 0 ≤ a → a ≤ (i : Int) * 17179869184 → goods b → b.length ≤ 100000000 + i →
  Yl k m0 f0 t0 b0 j f t a m (m.length : Int) (i : Int) b = some (zl b (wg (m.drop i) (f - a) (t - a))) := by
 obtain ⟨hg, hm, ⟨f1, f2⟩, t1, t2⟩ := ok
 intro j
 induction j with
 | zero => intros; omega
 | succ j ih =>
  intro i a b hi hj h0 ha hb hbl
  rw [Yl]
  by_cases h : i < m.length
  ·have hgr : good (m.getD i T3.dflt) := hg.mem _ (by simp [h])
   rw [qA (by omega : (i : Int) < (m.length : Int)), qi, qd ⟨by omega, by omega⟩, qq m i T3.dflt h, qc]
   generalize m.getD i T3.dflt = r at hgr
   have hgr' := hgr
   obtain ⟨g1, g2, g3, g4, _⟩ := hgr
   obtain ⟨e1, e2, e3⟩ := qs0 r f t a
   have m1 : -9223372036854775808 ≤ (if a > f then a else f) - a := by split <;> omega
   have m2 : (if a > f then a else f) - a < 9223372036854775808 := by split <;> omega
   have m3 : -9223372036854775808 ≤ (if a + r.snd.fst < t then a + r.snd.fst else t) - (if a > f then a else f) := by split <;> split <;> omega
   have m4 : (if a + r.snd.fst < t then a + r.snd.fst else t) - (if a > f then a else f) < 9223372036854775808 := by split <;> split <;> omega
   rw [qo (i := a + r.snd.fst) (by omega) (by omega), qo m1 m2, qo m3 m4, qF i (by omega), e1, e2]
   have hrec : f - a - r.2.1 = f - (a + r.snd.fst) := by omega
   have hrec2 : t - a - r.2.1 = t - (a + r.snd.fst) := by omega
   by_cases hc : max (f - a) 0 < min (t - a) r.2.1
   ·have hp := qcb hgr' (x := max (f - a) 0) (n := min (t - a) r.2.1 - max (f - a) 0) (by omega) (by omega) (by omega)
    rw [qA (e3.2 hc), qi, WH k r _ _ (by omega) (by omega) (by omega) (by omega), Z5 k r _ _ (by omega) (by omega) (by omega) (by omega)]
    rw [qhL k hk b _ (by omega) hp.bnd hb.bnds, qpK k hk b _ (by omega) hp.bnd hb.bnds, qd ⟨rfl, rfl⟩]
    rw [ih (i + 1) _ _ (by omega) (by omega) (by omega) (by omega) (Xp b _ hb hp).1 (by have := Yi b (wG r (max (f - a) 0) (min (t - a) r.snd.fst - max (f - a) 0)); omega)]
    rw [wg, qd hc, quP, hrec, hrec2]
    rfl
   ·rw [qx (fun x => hc (e3.1 x)), qg, ih (i + 1) _ _ (by omega) (by omega) (by omega) (by omega) hb (by omega), wg, qm hc, qH, hrec, hrec2]
  ·rw [qx (by omega : ¬ (i : Int) < (m.length : Int)), qg, zh m i (by omega)]
   rfl
theorem qe9 (k : Nat) (hk : 304 ≤ k) (m : List Rn) (f t : Int) (ok : EachOk m f t) (b : List Rn) (hb : goods b) (hbl : b.length ≤ 100000000) : qjX k m f t b = some (zl b (wg m f t)) := by
 unfold qjX
 have := qoL k (by omega) m f t b m f t ok k 0 0 b (by omega) (by have := ok.len; omega) (by omega) (by omega) hb (by omega)
 rw [Int.sub_zero, Int.sub_zero] at this
 exact this
theorem qnV (k : Nat) (hk : 304 ≤ k) (m : List Rn) (f t : Int) (ok : EachOk m f t) (b : List Rn) (hb : goods b) (hbl : b.length ≤ 100000000) : qi2 k m f t b = zl b (wg m f t) := by
 unfold qi2; rw [qe9 k hk m f t ok b hb hbl]; rfl
theorem qlB (k : Nat) (m0 : List Rn) (f0 t0 : Int) (b0 : List Rn) (m : List Rn) (f t : Int) (ok : EachOk m f t) : ∀ (j i : Nat) (a : Int) (b : List Rn), i ≤ m.length → m.length - i < j → 0 ≤ a → a ≤ (i : Int) * 17179869184 → b.length ≤ 100000000 + i →
  YD k m0 f0 t0 b0 j f t a m (m.length : Int) (i : Int) b = some (b ++ wg (m.drop i) (f - a) (t - a)) := by
 obtain ⟨hg, hm, ⟨f1, f2⟩, t1, t2⟩ := ok
 intro j
 induction j with
 | zero => intros; omega
 | succ j ih =>
  intro i a b hi hj h0 ha hbl
  rw [YD]
  by_cases h : i < m.length
  ·have hgr : good (m.getD i T3.dflt) := hg.mem _ (by simp [h])
   rw [qA (by omega : (i : Int) < (m.length : Int)), qi, qd ⟨by omega, by omega⟩, qq m i T3.dflt h, qc]
   generalize m.getD i T3.dflt = r at hgr
   obtain ⟨g1, g2, g3, g4, _⟩ := hgr
   obtain ⟨e1, e2, e3⟩ := qs0 r f t a
   have m1 : -9223372036854775808 ≤ (if a > f then a else f) - a := by split <;> omega
   have m2 : (if a > f then a else f) - a < 9223372036854775808 := by split <;> omega
   have m3 : -9223372036854775808 ≤ (if a + r.snd.fst < t then a + r.snd.fst else t) - (if a > f then a else f) := by split <;> split <;> omega
   have m4 : (if a + r.snd.fst < t then a + r.snd.fst else t) - (if a > f then a else f) < 9223372036854775808 := by split <;> split <;> omega
   rw [qo (i := a + r.snd.fst) (by omega) (by omega), qo m1 m2, qo m3 m4, qF i (by omega), e1, e2]
   have hrec : f - a - r.2.1 = f - (a + r.snd.fst) := by omega
   have hrec2 : t - a - r.2.1 = t - (a + r.snd.fst) := by omega
   by_cases hc : max (f - a) 0 < min (t - a) r.2.1
   ·rw [qA (e3.2 hc), qi, WH k r _ _ (by omega) (by omega) (by omega) (by omega), Z5 k r _ _ (by omega) (by omega) (by omega) (by omega)]
    have ec : ∀ p : Rn, qjJ k p b = some (b ++ [p]) := fun p => by
     unfold qjJ
     rw [qd (by rw [qk]; omega)]
    have ev : ∀ p : Rn, qi4 k p b = b ++ [p] := fun p => by unfold qi4; rw [ec]; rfl
    rw [ec, ev, qd ⟨rfl, rfl⟩, ih (i + 1) _ _ (by omega) (by omega) (by omega) (by omega) (by rw [qn, qk]; omega), wg, qd hc, hrec, hrec2]
    simp
   ·rw [qx (fun x => hc (e3.1 x)), qg, ih (i + 1) _ _ (by omega) (by omega) (by omega) (by omega) (by omega), wg, qm hc, qH, hrec, hrec2]
  ·rw [qx (by omega : ¬ (i : Int) < (m.length : Int)), qg, zh m i (by omega)]
   simp [wg]
theorem qcn (k : Nat) (hk : 304 ≤ k) (m : List Rn) (f t : Int) (ok : EachOk m f t) : qjg k m f t [] = some (wg m f t) := by
 unfold qjg
 have := qlB k m f t [] m f t ok k 0 0 [] (by omega) (by have := ok.len; omega) (by omega) (by omega) (by simp)
 rw [Int.sub_zero, Int.sub_zero, qH] at this
 exact this
theorem qlJ (k : Nat) (hk : 304 ≤ k) (m : List Rn) (f t : Int) (ok : EachOk m f t) : qfu k m f t [] = wg m f t := by
 unfold qfu; rw [qcn k hk m f t ok]; rfl
theorem qnE (k : Nat) (hk : 4 ≤ k) (m0 b0 : List Rn) (m : List Rn) (hg : goods m) (hm : m.length ≤ 300) : ∀ (j i : Nat) (b : List Rn), i ≤ m.length → i < j → goods b → b.length ≤ 100000000 + (m.length - i) →
  qbq k m0 b0 j m ((i : Int) - 1) b = some (zl b ((m.take i).reverse.map vL)) := by
 intro j
 induction j with
 | zero => intros; omega
 | succ j ih =>
  intro i b hi hj hb hbl
  rw [qbq]
  cases i with
  | zero =>
   rw [qx (by omega), qg]
   rfl
  | succ i =>
   have hlt : i < m.length := by omega
   have hgr : good (m.getD i T3.dflt) := hg.mem _ (by simp [hlt])
   rw [show ((i + 1 : Nat) : Int) - 1 = (i : Int) by omega, qA (by omega), qi, qd ⟨by omega, by omega⟩, qc, wU m i T3.dflt hlt]
   generalize m.getD i T3.dflt = r at hgr
   obtain ⟨q1, _, _⟩ := qpA hgr
   obtain ⟨g1, g2, g3, g4, _⟩ := hgr
   have er : (wh r (r.snd.fst - 1), r.snd.fst, !r.snd.snd && decide (r.snd.fst > 1)) = vL r := rfl
   rw [qo (i := r.snd.fst - 1) (by omega) (by omega), qo (i := (i : Int) - 1) (by omega) (by omega), QQ k r _ (by omega) (by omega) (by omega) (by omega), W4 k r _ (by omega) (by omega) (by omega) (by omega), er]
   rw [qhL k hk b _ (by omega) q1.bnd hb.bnds, qpK k hk b _ (by omega) q1.bnd hb.bnds, qd ⟨rfl, rfl⟩]
   rw [ih i _ (by omega) (by omega) (Xp b _ hb q1).1 (by have := Yi b (vL r); omega)]
   simp only [List.reverse_append, List.reverse_cons, List.reverse_nil, qH, qpk, List.map_cons]
   rfl
theorem qd7 (k : Nat) (hk : 304 ≤ k) (m : List Rn) (hg : goods m) (hm : m.length ≤ 300) (b : List Rn) (hb : goods b) (hbl : b.length ≤ 100000000) : qjF k m b = some (zl b (m.reverse.map vL)) := by
 unfold qjF
 rw [qo (by omega) (by omega), qnE k (by omega) m b m hg hm k m.length b (by omega) (by omega) hb (by omega), List.take_length]
theorem qnY (k : Nat) (hk : 304 ≤ k) (m : List Rn) (hg : goods m) (hm : m.length ≤ 300) (b : List Rn) (hb : goods b) (hbl : b.length ≤ 100000000) : qiX k m b = zl b (m.reverse.map vL) := by
 unfold qiX; rw [qd7 k hk m hg hm b hb hbl]; rfl
theorem qlx {r : Rn} (h : good r) : (if wh r (r.2.1 - 1) > r.1 then wh r (r.2.1 - 1) else r.1) = hi r := by
 have h1 := h.1
 unfold wh hi
 cases r.2.2 <;> simp only [qG, if_false, if_true] <;> split <;> omega
theorem qtH {r : Rn} (h : good r) : (if wh r (r.2.1 - 1) < r.1 then wh r (r.2.1 - 1) else r.1) = lo r := by
 have h1 := h.1
 unfold wh lo
 cases r.2.2 <;> simp only [qG, if_false, if_true] <;> split <;> omega
theorem qqi (outer : List Rn) (r : Rn) : (steps outer r).length ≤ outer.length := by
 unfold steps
 split
 ·simp only [List.length_map, List.length_reverse]; exact XI _ _ _
 ·exact XI _ _ _
theorem qlO (k : Nat) (hk : 700 ≤ k) (inner outer : List Rn) (hin : Chk inner) (ho : Chk outer) (hf : fitsIn (qv outer) inner) : ∀ (j i : Nat) (b : List Rn), i ≤ inner.length → inner.length - i < j → goods b → b.length ≤ i * 256 →
  ZM k j outer inner (inner.length : Int) (i : Int) b = some (if ((inner.drop i).foldl (fun b r => zl b (steps outer r)) b).length > 256 then ([], 8) else ((inner.drop i).foldl (fun b r => zl b (steps outer r)) b, 0)) := by
 have hil := hin.len
 have hol := ho.len
 have fitmem : ∀ {n : Int} {l : List Rn}, fitsIn n l → ∀ r ∈ l, hi r < n := fun {n l} => by
  induction l with
  | nil => intro _ r hr; simp at hr
  | cons u v ih =>
   rintro ⟨h1, h2⟩ r hr
   rcases qK.1 hr with rfl | hr
   ·exact h1
   ·exact ih h2 r hr
 intro j
 induction j with
 | zero => intros; omega
 | succ j ih =>
  intro i b hi hj hb hbl
  rw [ZM]
  by_cases h : i < inner.length
  ·have hmem : inner.getD i T3.dflt ∈ inner := by simp [h]
   have hgr : good (inner.getD i T3.dflt) := hin.goods.mem _ hmem
   have hfr := fitmem hf _ hmem
   rw [qA (by omega : (i : Int) < (inner.length : Int)), qi, qd ⟨by omega, by omega⟩, qq inner i T3.dflt h, qc]
   generalize inner.getD i T3.dflt = r at hgr hfr
   have hgr' := hgr
   obtain ⟨g1, g2, g3, g4, _⟩ := hgr
   obtain ⟨s1, s2, s3⟩ := Vf outer r ho.goods hgr' hfr
   have hsl := qqi outer r
   have hal := qlz (steps outer r) b
   have hag := (qcC (steps outer r) b hb s1).1
   rw [List.foldl_cons]
   cases hbk : r.snd.snd with
   | false =>
    have es : steps outer r = wg outer r.1 (r.1 + r.2.1) := by unfold steps; rw [show r.2.2 = r.snd.snd from rfl, hbk, qm (by decide)]
    have ok : EachOk outer r.fst (r.fst + r.snd.fst) := ⟨ho.goods, by omega, ⟨by omega, by omega⟩, by omega, by omega⟩
    rw [qd1, qi, qo (i := r.fst + r.snd.fst) (by omega) (by omega), qe9 k (by omega) outer _ _ ok b hb (by omega), qnV k (by omega) outer _ _ ok b hb (by omega), qb, qd rfl, qF i (by omega), ← es]
    exact ih (i + 1) _ (by omega) (by omega) hag (by omega)
   | true =>
    have es : steps outer r = ((wg outer (r.1 - r.2.1 + 1) (r.1 + 1)).reverse).map vL := by unfold steps; rw [show r.2.2 = r.snd.snd from rfl, hbk, qd rfl]
    have ok : EachOk outer (r.fst - r.snd.fst + 1) (r.fst + 1) := ⟨ho.goods, by omega, ⟨by omega, by omega⟩, by omega, by omega⟩
    have hpl := XI outer (r.fst - r.snd.fst + 1) (r.fst + 1)
    have hpg : goods (wg outer (r.fst - r.snd.fst + 1) (r.fst + 1)) := (Vy outer _ _ ho.goods (by omega) (by
     unfold Go.AM.hi at hfr
     rw [show r.2.2 = r.snd.snd from rfl, hbk, qd rfl] at hfr
     omega) (by omega)).1
    rw [vB, qg, qo (i := r.fst - r.snd.fst) (by omega) (by omega), qo (i := r.fst - r.snd.fst + 1) (by omega) (by omega), qo (i := r.fst + 1) (by omega) (by omega), qcn k (by omega) outer _ _ ok, qlJ k (by omega) outer _ _ ok, qb, qd rfl]
    rw [qd7 k (by omega) _ hpg (by omega) b hb (by omega), qnY k (by omega) _ hpg (by omega) b hb (by omega), qb, qd rfl, qF i (by omega), ← es]
    exact ih (i + 1) _ (by omega) (by omega) hag (by omega)
  ·rw [qx (by omega : ¬ (i : Int) < (inner.length : Int)), qg, zh inner i (by omega)]
   rw [List.foldl_nil]
   by_cases hl : b.length > 256
   ·have e : XU k b = some (.inl 8) := by
     unfold XU; rw [qA (by omega), qi]
    have ev : X8 k b = .inl 8 := by unfold X8; rw [e]; rfl
    have ea : qeD k b = 8 := by unfold qeD; rw [ev]; rfl
    rw [ev, e, ea, qd hl]; rfl
   ·have e : XU k b = some (.inr 0) := by
     unfold XU; rw [qx (by omega), qg]
    have ev : X8 k b = .inr 0 := by unfold X8; rw [e]; rfl
    have ea : qe6 k b = 0 := by unfold qe6; rw [ev]; rfl
    rw [ev, e, ea, qm hl]; rfl
theorem qom (k : Nat) (hk : 700 ≤ k) (inner outer : List Rn) (hin : Chk inner) (ho : Chk outer) (hf0 : fitsIn (qv outer) inner → ∀ j, inner.length < j → ZM k j outer inner (inner.length : Int) 0 [] = some (if (XJ inner outer).length > 256 then ([], 8) else (XJ inner outer, 0))) : ∀ (j i : Nat), i ≤ inner.length → inner.length - i + inner.length + 1 < j → fitsIn (qv outer) (inner.take i) →
  qbg k j inner outer (qv outer) inner (inner.length : Int) (i : Int) = some (if ¬ fitsIn (qv outer) inner then ([], 21) else if (XJ inner outer).length > 256 then ([], 8) else (XJ inner outer, 0)) := by
 have hil := hin.len
 have fitapp : ∀ {n : Int} (a b : List Rn), fitsIn n (a ++ b) ↔ fitsIn n a ∧ fitsIn n b := fun {n} a b => by
  induction a with
  | nil => simp [fitsIn]
  | cons u v ih => simp only [qpk, fitsIn, ih]; exact and_assoc.symm
 intro j
 induction j with
 | zero => intros; omega
 | succ j ih =>
  intro i hi hj hf
  rw [qbg]
  by_cases h : i < inner.length
  ·have hmem : inner.getD i T3.dflt ∈ inner := by simp [h]
   have hgr : good (inner.getD i T3.dflt) := hin.goods.mem _ hmem
   have htk := wU inner i T3.dflt h
   have hdr := qq inner i T3.dflt h
   rw [qA (by omega : (i : Int) < (inner.length : Int)), qi, qd ⟨by omega, by omega⟩, qc]
   generalize inner.getD i T3.dflt = r at hgr htk hdr
   have hgr' := hgr
   obtain ⟨g1, g2, g3, g4, _⟩ := hgr
   rw [qo (i := r.snd.fst - 1) (by omega) (by omega), QQ k r _ (by omega) (by omega) (by omega) (by omega), W4 k r _ (by omega) (by omega) (by omega) (by omega), qb, qd rfl, qlx hgr']
   by_cases hlt : Go.AM.hi r < qv outer
   ·rw [qx (by omega : ¬ Go.AM.hi r ≥ qv outer), qg, qF i (by omega)]
    exact ih (i + 1) (by omega) (by omega) (by rw [htk, fitapp]; exact ⟨hf, hlt, trivial⟩)
   ·rw [qA (by omega : Go.AM.hi r ≥ qv outer), qi, qd]
    intro hfit
    have : inner = inner.take i ++ inner.drop i := (qnA i inner).symm
    rw [this, fitapp, hdr] at hfit
    exact hlt hfit.2.1
  ·have : inner.take i = inner := wI (by omega)
   rw [this] at hf
   rw [qx (by omega : ¬ (i : Int) < (inner.length : Int)), qg, qm (Classical.not_not.2 hf)]
   exact hf0 hf j (by omega)
theorem qgS (k : Nat) (hk : 700 ≤ k) (inner outer : List Rn) : qjA k inner outer = some (Xv inner outer) := by
 unfold qjA Xv
 rw [QN k (by omega), W5 k (by omega), QN k (by omega), W5 k (by omega), qb, qb, qd rfl]
 by_cases h1 : chk inner = 0
 ·rw [show (chk inner != 0) = false by simp [h1], qg, qd rfl, qm (fun h : chk inner ≠ 0 => h h1)]
  by_cases h2 : chk outer = 0
  ·have c1 := wW.1 h1
   have c2 := wW.1 h2
   have l1 := c1.len
   have l2 := c2.len
   rw [show (chk outer != 0) = false by simp [h2], qg, qm (fun h : chk outer ≠ 0 => h h2), XY k outer c2.goods (by omega) (by omega), qbX k outer c2.goods (by omega) (by omega), qb, qd rfl]
   exact qom k hk inner outer c1 c2 (fun hf j hj => qlO k hk inner outer c1 c2 hf j 0 [] (by omega) (by omega) trivial (by simp)) k 0 (by omega) (by omega) (by simp [fitsIn])
  ·rw [show (chk outer != 0) = true by simp [h2], qi, qd h2]
 ·rw [show (chk inner != 0) = true by simp [h1], qi, qd h1]
theorem qqT (k : Nat) (hk : 700 ≤ k) (inner outer : List Rn) : qc9 k inner outer = Xv inner outer := by
 unfold qc9; rw [qgS k hk]; rfl
end Go.AM
namespace Go.AM
open Go
def Qz : List Rn → Int → Option (Rn × Int)
 | [], _ => none
 | r :: t, x => if x < r.2.1 then some (r, x) else Qz t (x - r.2.1)
theorem qf0 : ∀ {m : List Rn} {x : Int}, goods m → 0 ≤ x → x < qv m → ∃ o p, Qz m x = some (o, p) ∧ good o ∧ 0 ≤ p ∧ p < o.2.1 ∧ p ≤ x ∧ wb m x = wh o p
 | [], x, _, h0, h1 => by simp only [qv] at h1; omega
 | r :: t, x, ⟨hr, ht⟩, h0, h1 => by
  simp only [qv] at h1
  have hr1 := hr.1
  by_cases h : x < r.2.1
  ·exact ⟨r, x, by unfold Qz; rw [qd h], hr, h0, h, by omega, by unfold wb; rw [qd h]⟩
  ·obtain ⟨o, p, h2, h3, h4, h5, h6, h7⟩ := qf0 (m := t) (x := x - r.2.1) ht (by omega) (by omega)
   exact ⟨o, p, by unfold Qz; rw [qm h]; exact h2, h3, h4, h5, by omega, by unfold wb; rw [qm h]; exact h7⟩
theorem qlC : ∀ {m : List Rn} {x : Int}, goods m → qv m ≤ x → Qz m x = none
 | [], x, _, _ => rfl
 | r :: t, x, ⟨hr, ht⟩, h => by
  simp only [qv] at h
  have := hr.1
  have := zf ht
  unfold Qz
  rw [qm (by omega)]
  exact qlC ht (by omega)
theorem qnk : ∀ (m : List Rn) (a a' b : Int), goods m → a ≤ 0 → a' ≤ 0 → wg m a b = wg m a' b
 | [], _, _, _, _, _, _ => rfl
 | r :: t, a, a', b, ⟨hr, ht⟩, h1, h2 => by
  have := hr.1
  unfold wg
  rw [qnk t (a - r.2.1) (a' - r.2.1) (b - r.2.1) ht (by omega) (by omega), show max a 0 = max a' 0 by omega]
theorem Yb : ∀ (m : List Rn) (a b : Int), goods m → b ≤ max a 0 → wg m a b = []
 | [], _, _, _, _ => rfl
 | r :: t, a, b, ⟨hr, ht⟩, h => by
  have := hr.1
  unfold wg
  rw [qm (by omega), Yb t _ _ ht (by omega)]; rfl
theorem qa3 : ∀ (m : List Rn) (a b : Int) (o : Rn) (p : Int), goods m → 0 ≤ a → a < b → Qz m a = some (o, p) → wg m a b = wG o p (min (b - a) (o.2.1 - p)) :: wg m (a + min (b - a) (o.2.1 - p)) b
 | [], a, b, o, p, _, _, _, h => by simp [Qz] at h
 | r :: t, a, b, o, p, ⟨hr, ht⟩, h0, h1, h => by
  have hr1 := hr.1
  unfold Qz at h
  by_cases hx : a < r.2.1
  ·rw [qd hx] at h
   simp only [Option.some.injEq, Prod.mk.injEq] at h
   obtain ⟨rfl, rfl⟩ := h
   rw [wg, qd (by omega), wg, qm (by omega), qH, qnk t (a - r.2.1) (a + min (b - a) (r.2.1 - a) - r.2.1) _ ht (by omega) (by omega)]
   rw [show max a 0 = a by omega, show min b r.2.1 - a = min (b - a) (r.2.1 - a) by omega]
   rfl
  ·rw [qm hx] at h
   have ih := qa3 t (a - r.2.1) (b - r.2.1) o p ht (by omega) (by omega) h
   have hp : 0 ≤ min (b - a) (o.2.1 - p) := by
    have : ∀ {m : List Rn} {x : Int} {o p}, Qz m x = some (o, p) → p < o.2.1 := fun {m} => by
     induction m with
     | nil => intro x o p h; simp [Qz] at h
     | cons u v ih =>
      intro x o p h
      unfold Qz at h
      by_cases q : x < u.2.1
      ·rw [qd q] at h; simp only [Option.some.injEq, Prod.mk.injEq] at h; obtain ⟨rfl, rfl⟩ := h; exact q
      ·rw [qm q] at h; exact ih h
    have := this h
    omega
   rw [wg, qm (by omega), qH, ih, wg, qm (by omega), qH]
   rw [show b - r.2.1 - (a - r.2.1) = b - a by omega, show a - r.2.1 + min (b - a) (o.2.1 - p) = a + min (b - a) (o.2.1 - p) - r.2.1 by omega]
theorem qCR {m : List Rn} : ∀ {x : Int} {o p}, goods m → 0 ≤ x → Qz m x = some (o, p) → good o ∧ 0 ≤ p ∧ p < o.2.1 ∧ p ≤ x := by
 induction m with
 | nil => intro x o p _ _ h; simp [Qz] at h
 | cons u v ih =>
  intro x o p hg h0 h
  unfold Qz at h
  by_cases q : x < u.2.1
  ·rw [qd q] at h; simp only [Option.some.injEq, Prod.mk.injEq] at h; obtain ⟨rfl, rfl⟩ := h; exact ⟨hg.1, h0, q, Wg _⟩
  ·rw [qm q] at h
   have := hg.1.1
   obtain ⟨a, b, c, d⟩ := ih hg.2 (by omega) h
   exact ⟨a, b, c, by omega⟩
theorem qlZ : ∀ (m : List Rn) (l a : Int) (o : Rn) (p : Int), goods m → max l 0 ≤ a → Qz m a = some (o, p) → wg m l (a + 1) = wg m l (a + 1 - min (a + 1 - max l 0) (p + 1)) ++ [wG o (p + 1 - min (a + 1 - max l 0) (p + 1)) (min (a + 1 - max l 0) (p + 1))]
 | [], l, a, o, p, _, _, h => by simp [Qz] at h
 | r :: t, l, a, o, p, ⟨hr, ht⟩, h0, h => by
  have hr1 := hr.1
  unfold Qz at h
  by_cases hx : a < r.2.1
  ·rw [qd hx] at h
   simp only [Option.some.injEq, Prod.mk.injEq] at h
   obtain ⟨rfl, rfl⟩ := h
   rw [wg, qd (by omega), Yb t _ _ ht (by omega), Yb (r :: t) _ _ ⟨hr, ht⟩ (by omega)]
   rw [show min (a + 1 - max l 0) (a + 1) = a + 1 - max l 0 by omega, show min (a + 1) r.2.1 - max l 0 = a + 1 - max l 0 by omega, show a + 1 - (a + 1 - max l 0) = max l 0 by omega]
   rfl
  ·rw [qm hx] at h
   obtain ⟨_, q1, q2, q3⟩ := qCR ht (by omega) h
   have ih := qlZ t (l - r.2.1) (a - r.2.1) o p ht (by omega) h
   have e : min (a - r.2.1 + 1 - max (l - r.2.1) 0) (p + 1) = min (a + 1 - max l 0) (p + 1) := by omega
   rw [e] at ih
   rw [wg, show a + 1 - r.2.1 = a - r.2.1 + 1 by omega, ih, wg, show a + 1 - min (a + 1 - max l 0) (p + 1) - r.2.1 = a - r.2.1 + 1 - min (a + 1 - max l 0) (p + 1) by omega]
   rw [show min (a + 1) r.2.1 = r.2.1 by omega, show min (a + 1 - min (a + 1 - max l 0) (p + 1)) r.2.1 = r.2.1 by omega, qw]
theorem qzw {outer : List Rn} {r o : Rn} {p : Int} (ho : goods outer) (hr : 1 ≤ r.2.1) (h0 : 0 ≤ r.1) (hb : r.2.2 = false) (h : Qz outer r.1 = some (o, p)) :
  steps outer r = wG o p (min r.2.1 (o.2.1 - p)) :: steps outer (r.1 + min r.2.1 (o.2.1 - p), r.2.1 - min r.2.1 (o.2.1 - p), false) := by
 unfold steps
 rw [hb, qm (by decide), qm (fun e : false = true => by cases e), qa3 outer r.1 (r.1 + r.2.1) o p ho h0 (by omega) h]
 rw [show r.1 + r.2.1 - r.1 = r.2.1 by omega]
 show _ = _ :: wg outer (r.1 + min r.2.1 (o.2.1 - p)) (r.1 + min r.2.1 (o.2.1 - p) + (r.2.1 - min r.2.1 (o.2.1 - p)))
 rw [show r.1 + min r.2.1 (o.2.1 - p) + (r.2.1 - min r.2.1 (o.2.1 - p)) = r.1 + r.2.1 by omega]
theorem qAK {outer : List Rn} {r o : Rn} {p : Int} (ho : goods outer) (hr : 1 ≤ r.2.1) (h0 : 0 ≤ r.1 - r.2.1 + 1) (hb : r.2.2 = true) (h : Qz outer r.1 = some (o, p)) :
  steps outer r = (wh o p, min r.2.1 (p + 1), !o.2.2 && decide (min r.2.1 (p + 1) > 1)) :: steps outer (r.1 - min r.2.1 (p + 1), r.2.1 - min r.2.1 (p + 1), true) := by
 obtain ⟨_, q1, q2, q3⟩ := qCR ho (by omega) h
 have e := qlZ outer (r.1 - r.2.1 + 1) r.1 o p ho (by omega) h
 rw [show r.1 + 1 - max (r.1 - r.2.1 + 1) 0 = r.2.1 by omega] at e
 unfold steps
 rw [hb, qd rfl, qd rfl, e, List.reverse_append, List.map_append]
 show _ = _ :: ((wg outer (r.1 - min r.2.1 (p + 1) - (r.2.1 - min r.2.1 (p + 1)) + 1) (r.1 - min r.2.1 (p + 1) + 1)).reverse).map vL
 rw [show r.1 - min r.2.1 (p + 1) - (r.2.1 - min r.2.1 (p + 1)) + 1 = r.1 - r.2.1 + 1 by omega, show r.1 - min r.2.1 (p + 1) + 1 = r.1 + 1 - min r.2.1 (p + 1) by omega]
 have e2 : vL (wG o (p + 1 - min r.2.1 (p + 1)) (min r.2.1 (p + 1))) = (wh o p, min r.2.1 (p + 1), !o.2.2 && decide (min r.2.1 (p + 1) > 1)) := by
  generalize hn : min r.2.1 (p + 1) = n
  have hn1 : 1 ≤ n := by omega
  unfold vL
  show (wh (wG o (p + 1 - n) n) (n - 1), n, !(o.2.2 && decide (n > 1)) && decide (n > 1)) = _
  rw [qd9 (by omega) (by omega), show p + 1 - n + (n - 1) = p by omega]
  congr 2
  cases o.2.2 <;> cases decide (n > 1) <;> rfl
 rw [show ([wG o (p + 1 - min r.2.1 (p + 1)) (min r.2.1 (p + 1))].reverse.map vL) = [vL (wG o (p + 1 - min r.2.1 (p + 1)) (min r.2.1 (p + 1)))] from rfl, e2]
 rfl
theorem qpT (outer : List Rn) (ho : goods outer) (x : Int) (b : Bool) : steps outer (x, 0, b) = [] := by
 unfold steps
 cases b
 ·rw [qm (by simp)]
  exact Yb outer _ _ ho (by show x + 0 ≤ max x 0; omega)
 ·rw [qd rfl, Yb outer _ _ ho (by show x + 1 ≤ max (x - 0 + 1) 0; omega)]; rfl
theorem qqx (k : Nat) (m : List Rn) (hg : goods m) (hm : m.length ≤ 300) : ∀ (j i : Nat) (x : Int), i ≤ m.length → m.length - i < j → 0 ≤ x → x ≤ 1125899906842624 →
  (∀ o p, Qz (m.drop i) x = some (o, p) → ∃ q : Nat, q < m.length ∧ m.getD q T3.dflt = o ∧ Yz k j m x (i : Int) = some ((q : Int), p)) ∧
  (Qz (m.drop i) x = none → Yz k j m x (i : Int) = some (-1, 0)) := by
 intro j
 induction j with
 | zero => intros; omega
 | succ j ih =>
  intro i x hi hj h0 h1
  rw [Yz]
  by_cases h : i < m.length
  ·have hgr : good (m.getD i T3.dflt) := hg.mem _ (by simp [h])
   have hgr1 := hgr.1
   have hgr2 := hgr.2.1
   rw [qA (by omega : (i : Int) < (m.length : Int)), qA (by omega : x ≥ 0), Bool.and_true, qi, qd ⟨by omega, by omega⟩, qq m i T3.dflt h, qc, Qz]
   by_cases hx : x < (m.getD i T3.dflt).2.1
   ·rw [qA hx, qi, qd hx]
    refine ⟨fun o p e => ?_, fun e => by cases e⟩
    simp only [Option.some.injEq, Prod.mk.injEq] at e
    obtain ⟨e1, rfl⟩ := e
    exact ⟨i, h, e1, rfl⟩
   ·rw [qx hx, qg, qm hx, qd ⟨by omega, by omega⟩, qo (by omega) (by omega), qF i (by omega)]
    exact ih (i + 1) _ (by omega) (by omega) (by omega) (by omega)
  ·rw [qx (by omega : ¬ (i : Int) < (m.length : Int)), wD, qg, zh m i (by omega)]
   exact ⟨fun o p e => by simp [Qz] at e, fun _ => rfl⟩
theorem VK (k : Nat) (hk : 304 ≤ k) (m : List Rn) (hg : goods m) (hm : m.length ≤ 300) (x : Int) (h0 : 0 ≤ x) (h1 : x ≤ 1125899906842624) :
  (∀ o p, Qz m x = some (o, p) → ∃ q : Nat, q < m.length ∧ m.getD q T3.dflt = o ∧ VH k m x = some ((q : Int), p) ∧ qO k m x = ((q : Int), p)) ∧
  (Qz m x = none → VH k m x = some (-1, 0) ∧ qO k m x = (-1, 0)) := by
 obtain ⟨a, b⟩ := qqx k m hg hm k 0 x (by omega) (by omega) h0 h1
 refine ⟨fun o p e => ?_, fun e => ?_⟩
 ·obtain ⟨q, q1, q2, q3⟩ := a o p e
  have q3 : VH k m x = some ((q : Int), p) := q3
  exact ⟨q, q1, q2, q3, by unfold qO; rw [q3]; rfl⟩
 ·have q3 : VH k m x = some (-1, 0) := b e
  exact ⟨q3, by unfold qO; rw [q3]; rfl⟩
theorem qnz (a b : Int) : (if a < b then a else b) = min b a := by split <;> omega
theorem qht (k : Nat) (hk : 304 ≤ k) (inner outer : List Rn) (i : Int) (ho : Chk outer) : ∀ (n : Nat) (r : Rn) (out : List Rn) (j : Nat), (steps outer r).length = n → good r → hi r < qv outer → goods out → out.length + n ≤ 100000000 →
  Qf k (j + n) inner outer out i r = W2 k j inner outer (zl out (steps outer r)) (qa .i64 (i + 1)) := by
 have hol := ho.len
 have hot := ho.tot
 intro n
 induction n with
 | zero =>
  intro r out j hn hr hh hg hl
  have := (Vf outer r ho.goods hr hh).2.1
  have h2 := hr.1
  have h3 : steps outer r = [] := List.eq_nil_of_length_eq_zero hn
  rw [h3] at this
  have this : (0 : Int) = r.2.1 := this
  omega
 | succ n ih =>
  intro r out j hn hr hh hg hl
  have hr1 := hr.1
  obtain ⟨l1, l2, l3, l4⟩ := hr.lohi
  have hbd : 0 ≤ r.1 ∧ r.1 < qv outer := by
   unfold Go.AM.hi at hh l2
   unfold lo at l1 l2
   cases hb : r.2.2 <;> rw [hb] at hh l1 l2 <;> simp only [qG, if_false, if_true] at hh l1 l2 <;> omega
  obtain ⟨o, p, e1, go, p0, p1, p2, _⟩ := qf0 ho.goods hbd.1 hbd.2
  obtain ⟨q, q1, q2, q3, q4⟩ := (VK k hk outer ho.goods (by omega) r.1 hbd.1 (by omega)).1 o p e1
  have go' := go
  obtain ⟨g1, g2, g3, g4, _⟩ := go
  obtain ⟨w1, w2, w3, w4, _⟩ := hr
  rw [show j + (n + 1) = (j + n) + 1 by omega, Qf]
  have q3' : VH k outer r.fst = some ((q : Int), p) := q3
  have q4' : qO k outer r.fst = ((q : Int), p) := q4
  rw [qA (by omega : r.snd.fst > 0), qi, q3', q4', qb, qd rfl]
  show (bif decide ((q : Int) < 0) then _ else _) = _
  rw [qx (by omega), qg]
  show (if (0 : Int) ≤ (q : Int) ∧ (q : Int) < (outer.length : Int) then _ else _) = _
  rw [qd ⟨by omega, by omega⟩]
  have q2' : outer.getD ((q : Int), p).fst.toNat T3.dflt = o := by show outer.getD ((q : Int)).toNat _ = o; rw [qc]; exact q2
  rw [q2']
  show (bif r.snd.snd then _ else _) = _
  simp only []
  rw [zu k o p (by omega) (by omega) (by omega) (by omega), zG k o p (by omega) (by omega) (by omega) (by omega)]
  rw [qo (i := p + 1) (by omega) (by omega), qo (i := o.snd.fst - p) (by omega) (by omega), qnz, qnz]
  cases hb : r.snd.snd with
  | true =>
   have hb : r.2.2 = true := hb
   rw [qi]
   have est := qAK (outer := outer) (r := r) (o := o) (p := p) ho.goods hr1 (by unfold lo at l1; rw [hb, qd rfl] at l1; omega) hb e1
   obtain ⟨s1, s2, s3⟩ := Vf outer r ho.goods ⟨w1, w2, w3, w4, by assumption⟩ hh
   rw [est] at hn s1 ⊢
   have hp1 := s1.1
   have hlo : 0 ≤ r.1 - r.2.1 + 1 := by unfold lo at l1; rw [hb, qd rfl] at l1; exact l1
   have hhi : r.1 < qv outer := hbd.2
   generalize hc : min r.2.1 (p + 1) = c at hn s1 est hp1 ⊢
   have hc1 : 1 ≤ c := by omega
   have hc2 : c ≤ r.2.1 := by omega
   rw [XT k (by omega) out _ (by omega) hp1.bnd hg.bnds, qcs k (by omega) out _ (by omega) hp1.bnd hg.bnds, qd ⟨rfl, rfl⟩]
   have hag := (Xp out _ hg hp1).1
   have hal := Yi out (wh o p, c, !o.2.2 && decide (c > 1))
   have eadd : ∀ t, zl out ((wh o p, c, !o.2.2 && decide (c > 1)) :: t) = zl (vm out (wh o p, c, !o.2.2 && decide (c > 1))) t := fun _ => rfl
   rw [eadd]
   by_cases hlast : c = r.2.1
   ·have hz : steps outer (r.1 - c, r.2.1 - c, true) = [] := by
     rw [show r.2.1 - c = 0 by omega]
     exact qpT outer ho.goods _ _
    rw [hz] at hn ⊢
    have : n = 0 := by simp at hn; omega
    subst this
    rw [show (c == r.snd.fst) = true by simp [hlast], qi]
    rfl
   ·have ei : wh r c = r.1 - c := by unfold wh; rw [hb, qd rfl]
    rw [show (c == r.snd.fst) = false by exact Vk hlast, qg, zu k r c (by omega) (by omega) (by omega) (by omega), zG k r c (by omega) (by omega) (by omega) (by omega), qb, qd rfl, qo (by omega) (by omega), ei]
    exact ih (r.1 - c, r.2.1 - c, true) _ j (by simpa using hn) (by
     rw [YR]
     refine ⟨by show 1 ≤ r.2.1 - c; omega, ?_, ?_⟩
     ·show 0 ≤ (r.1 - c) - (r.2.1 - c) + 1; omega
     ·show r.1 - c < 17179869184; omega) (by show r.1 - c < qv outer; omega) hag (by omega)
  | false =>
   have hb : r.2.2 = false := hb
   rw [qg]
   have est := qzw (outer := outer) (r := r) (o := o) (p := p) ho.goods hr1 hbd.1 hb e1
   obtain ⟨s1, s2, s3⟩ := Vf outer r ho.goods ⟨w1, w2, w3, w4, by assumption⟩ hh
   rw [est] at hn s1 ⊢
   have hp1 := s1.1
   have hhi : r.1 + r.2.1 - 1 < qv outer := by unfold Go.AM.hi at hh; rw [hb, qm (by decide)] at hh; exact hh
   generalize hc : min r.2.1 (o.2.1 - p) = c at hn s1 est hp1 ⊢
   have hc1 : 1 ≤ c := by omega
   have hc2 : c ≤ r.2.1 := by omega
   have ep : (wh o p, c, o.snd.snd && decide (c > 1)) = wG o p c := rfl
   rw [ep, XT k (by omega) out _ (by omega) hp1.bnd hg.bnds, qcs k (by omega) out _ (by omega) hp1.bnd hg.bnds, qd ⟨rfl, rfl⟩]
   have hag := (Xp out _ hg hp1).1
   have hal := Yi out (wG o p c)
   have eadd : ∀ t, zl out (wG o p c :: t) = zl (vm out (wG o p c)) t := fun _ => rfl
   rw [eadd]
   by_cases hlast : c = r.2.1
   ·have hz : steps outer (r.1 + c, r.2.1 - c, false) = [] := by
     rw [show r.2.1 - c = 0 by omega]
     exact qpT outer ho.goods _ _
    rw [hz] at hn ⊢
    have : n = 0 := by simp at hn; omega
    subst this
    rw [show (c == r.snd.fst) = true by simp [hlast], qi]
    rfl
   ·have ei : wh r c = r.1 + c := by unfold wh; rw [hb, qm (by decide)]
    rw [show (c == r.snd.fst) = false by exact Vk hlast, qg, zu k r c (by omega) (by omega) (by omega) (by omega), zG k r c (by omega) (by omega) (by omega) (by omega), qb, qd rfl, qo (by omega) (by omega), ei]
    exact ih (r.1 + c, r.2.1 - c, false) _ j (by simpa using hn) (by
     rw [YR]
     refine ⟨by show 1 ≤ r.2.1 - c; omega, ?_, ?_⟩
     ·show 0 ≤ r.1 + c; omega
     ·show r.1 + c + (r.2.1 - c) - 1 < 17179869184; omega) (by show r.1 + c + (r.2.1 - c) - 1 < qv outer; omega) hag (by omega)
theorem qg9 (k : Nat) (hk : 304 ≤ k) (inner outer : List Rn) (i : Int) (ho : Chk outer) : ∀ (n : Nat) (r : Rn) (out : List Rn) (j : Nat), (r.1 < qv outer → (wg outer r.1 (qv outer)).length ≤ n) → good r → qv outer ≤ hi r → goods out → out.length + n ≤ 100000000 →
  Qf k (j + n + 1) inner outer out i r = some ([], 21) := by
 have hol := ho.len
 have hot := ho.tot
 intro n
 induction n with
 | zero =>
  intro r out j hn hr hh hg hl
  obtain ⟨w1, w2, w3, w4, _⟩ := hr
  have hge : qv outer ≤ r.1 := by
   rcases Int.lt_or_le r.1 (qv outer) with h | h
   ·have := hn h
    obtain ⟨o, p, e1, _⟩ := qf0 ho.goods w3 h
    rw [qa3 outer r.1 (qv outer) o p ho.goods w3 h e1] at this
    simp at this
   ·exact h
  obtain ⟨q3, q4⟩ := (VK k hk outer ho.goods (by omega) r.1 w3 (by omega)).2 (qlC ho.goods hge)
  rw [Qf]
  have q3' : VH k outer r.fst = some (-1, 0) := q3
  have q4' : qO k outer r.fst = (-1, 0) := q4
  rw [qA (by omega : r.snd.fst > 0), qi, q3', q4', qb, qd rfl]
  rfl
 | succ n ih =>
  intro r out j hn hr hh hg hl
  have hr1 := hr.1
  have hr0 := hr
  obtain ⟨w1, w2, w3, w4, _⟩ := hr
  rcases Int.lt_or_le r.1 (qv outer) with hlt | hge
  ·-- forward
   have hb : r.2.2 = false := by
    cases hb : r.2.2 with
    | false => rfl
    | true => unfold Go.AM.hi at hh; rw [hb, qd rfl] at hh; omega
   have hh2 : qv outer ≤ r.1 + r.2.1 - 1 := by unfold Go.AM.hi at hh; rw [hb, qm (by decide)] at hh; exact hh
   obtain ⟨o, p, e1, go, p0, p1, p2, _⟩ := qf0 ho.goods w3 hlt
   obtain ⟨q, q1, q2, q3, q4⟩ := (VK k hk outer ho.goods (by omega) r.1 w3 (by omega)).1 o p e1
   have hpc := qa3 outer r.1 (qv outer) o p ho.goods w3 hlt e1
   have hlen := (Vy outer r.1 (qv outer) ho.goods hlt (Wg _) (by omega))
   have hn' := hn hlt
   rw [hpc] at hn' hlen
   have hpl : min (qv outer - r.1) (o.2.1 - p) = o.2.1 - p := by
    have h1 := hlen.2.1
    have h2 := zf hlen.1.2
    simp only [qv] at h1
    have h3 : (wG o p (min (qv outer - r.fst) (o.snd.fst - p))).2.1 = min (qv outer - r.fst) (o.snd.fst - p) := rfl
    rw [h3] at h1
    have h4 : ∀ {m : List Rn} {x : Int} {o p}, goods m → Qz m x = some (o, p) → o.2.1 - p ≤ qv m - x := fun {m} => by
     induction m with
     | nil => intro x o p _ h; simp [Qz] at h
     | cons u v ih =>
      intro x o p hg h
      unfold Qz at h
      have hv := zf hg.2
      by_cases q : x < u.2.1
      ·rw [qd q] at h; simp only [Option.some.injEq, Prod.mk.injEq] at h; obtain ⟨rfl, rfl⟩ := h; simp only [qv]; omega
      ·rw [qm q] at h
       have := ih hg.2 h
       simp only [qv]; omega
    have := h4 ho.goods e1
    omega
   rw [hpl] at hn' hlen
   obtain ⟨g1, g2, g3, g4, _⟩ := go
   rw [show j + (n + 1) + 1 = (j + n + 1) + 1 by omega, Qf]
   have q3' : VH k outer r.fst = some ((q : Int), p) := q3
   have q4' : qO k outer r.fst = ((q : Int), p) := q4
   rw [qA (by omega : r.snd.fst > 0), qi, q3', q4', qb, qd rfl]
   show (bif decide ((q : Int) < 0) then _ else _) = _
   rw [qx (by omega), qg]
   show (if (0 : Int) ≤ (q : Int) ∧ (q : Int) < (outer.length : Int) then _ else _) = _
   rw [qd ⟨by omega, by omega⟩]
   have q2' : outer.getD ((q : Int), p).fst.toNat T3.dflt = o := by show outer.getD ((q : Int)).toNat _ = o; rw [qc]; exact q2
   rw [q2']
   show (bif r.snd.snd then _ else _) = _
   simp only []
   rw [zu k o p (by omega) (by omega) (by omega) (by omega), zG k o p (by omega) (by omega) (by omega) (by omega)]
   rw [qo (i := p + 1) (by omega) (by omega), qo (i := o.snd.fst - p) (by omega) (by omega), qnz, qnz]
   rw [show r.snd.snd = false from hb, qg, show min r.snd.fst (o.snd.fst - p) = o.snd.fst - p by omega]
   have ep : (wh o p, o.snd.fst - p, o.snd.snd && decide (o.snd.fst - p > 1)) = wG o p (o.snd.fst - p) := rfl
   have hp1 : good (wG o p (o.snd.fst - p)) := hlen.1.1
   have hag := (Xp out _ hg hp1).1
   have hal := Yi out (wG o p (o.snd.fst - p))
   rw [ep, XT k (by omega) out _ (by omega) hp1.bnd hg.bnds, qcs k (by omega) out _ (by omega) hp1.bnd hg.bnds, qd ⟨rfl, rfl⟩]
   have ei : wh r (o.snd.fst - p) = r.1 + (o.snd.fst - p) := by unfold wh; rw [hb, qm (by decide)]
   have h2 : o.2.1 - p ≤ qv outer - r.1 := by omega
   rw [show (o.snd.fst - p == r.snd.fst) = false by exact Vk (by omega), qg, zu k r _ (by omega) (by omega) (by omega) (by omega), zG k r _ (by omega) (by omega) (by omega) (by omega), qb, qd rfl, qo (by omega) (by omega), ei]
   refine ih (r.1 + (o.snd.fst - p), r.2.1 - (o.snd.fst - p), false) _ j (fun _ => by simpa using hn') ?_ ?_ hag (by omega)
   ·have := hr0.lohi
    unfold lo Go.AM.hi at this
    rw [hb] at this
    simp only [qG, if_false] at this
    rw [YR]
    refine ⟨by show 1 ≤ r.2.1 - (o.snd.fst - p); omega, ?_, ?_⟩
    ·show 0 ≤ r.1 + (o.snd.fst - p); omega
    ·show r.1 + (o.snd.fst - p) + (r.2.1 - (o.snd.fst - p)) - 1 < 17179869184; omega
   ·show qv outer ≤ r.1 + (o.snd.fst - p) + (r.2.1 - (o.snd.fst - p)) - 1
    omega
  ·obtain ⟨q3, q4⟩ := (VK k hk outer ho.goods (by omega) r.1 w3 (by omega)).2 (qlC ho.goods hge)
   rw [Qf]
   have q3' : VH k outer r.fst = some (-1, 0) := q3
   have q4' : qO k outer r.fst = (-1, 0) := q4
   rw [qA (by omega : r.snd.fst > 0), qi, q3', q4', qb, qd rfl]
   rfl
theorem fitsIn.mem {n : Int} : ∀ {l : List Rn}, fitsIn n l → ∀ r ∈ l, hi r < n
 | [], _, r, hr => by simp at hr
 | u :: v, ⟨h1, h2⟩, r, hr => by
  rcases qK.1 hr with rfl | hr
  ·exact h1
  ·exact fitsIn.mem h2 r hr
set_option maxRecDepth 20000 in
theorem qkL (k : Nat) (hk : 304 ≤ k) (inner outer : List Rn) (hin : Chk inner) (ho : Chk outer) : ∀ (d i : Nat) (out : List Rn) (j : Nat), inner.length - i = d → i ≤ inner.length → goods out → out.length ≤ i * 256 → d * 258 < j →
  W2 k j inner outer out (i : Int) = some (if ¬ fitsIn (qv outer) (inner.drop i) then ([], 21) else if ((inner.drop i).foldl (fun b r => zl b (steps outer r)) out).length > 256 then ([], 8) else ((inner.drop i).foldl (fun b r => zl b (steps outer r)) out, 0)) := by
 have hil := hin.len
 have hol := ho.len
 intro d
 induction d with
 | zero =>
  intro i out j hd hi hg hl hj
  obtain ⟨j, rfl⟩ := qQ (by omega : 0 < j)
  rw [W2, qx (by omega : ¬ (i : Int) < (inner.length : Int)), qg, zh inner i (by omega), List.foldl_nil, qm (fun h : ¬ fitsIn (qv outer) [] => h trivial)]
  by_cases h : out.length > 256
  ·have e : qdi k out = some ([], 8) := by
    unfold qdi; rw [qA (by omega), qi]
   have ev : qcS k out = ([], 8) := by unfold qcS; rw [e]; rfl
   rw [e, ev, qd h]; rfl
  ·have e : qdi k out = some (out, 0) := by
    unfold qdi; rw [qx (by omega), qg]
   have ev : qcS k out = (out, 0) := by unfold qcS; rw [e]; rfl
   rw [e, ev, qm h]; rfl
 | succ d ih =>
  intro i out j hd hi hg hl hj
  obtain ⟨j, rfl⟩ := qQ (by omega : 0 < j)
  have h : i < inner.length := by omega
  have hmem : inner.getD i T3.dflt ∈ inner := by simp [h]
  have hgr : good (inner.getD i T3.dflt) := hin.goods.mem _ hmem
  rw [W2, qA (by omega : (i : Int) < (inner.length : Int)), qi, qd ⟨by omega, by omega⟩, qq inner i T3.dflt h, qc]
  generalize inner.getD i T3.dflt = r at hgr
  rw [List.foldl_cons]
  have hsl := qqi outer r
  have hal := qlz (steps outer r) out
  rcases Int.lt_or_le (Go.AM.hi r) (qv outer) with hh | hh
  ·obtain ⟨s1, s2, s3⟩ := Vf outer r ho.goods hgr hh
   obtain ⟨j', rfl⟩ : ∃ m, j = m + (steps outer r).length := ⟨j - (steps outer r).length, by omega⟩
   have hb1 : (zl out (steps outer r)).length ≤ (i + 1) * 256 := by omega
   have hb2 : d * 258 < j' := by omega
   have e1 := qht k hk inner outer (i : Int) ho (steps outer r).length r out j' rfl hgr hh hg (by omega)
   have e2 := ih (i + 1) (zl out (steps outer r)) j' (by omega) (by omega) (qcC _ out hg s1).1 hb1 hb2
   rw [e1, qF i (by omega), e2]
   by_cases hf : fitsIn (qv outer) (inner.drop (i + 1))
   ·rw [qm (fun h : ¬ fitsIn (qv outer) (inner.drop (i + 1)) => h hf), qm (fun h : ¬ fitsIn (qv outer) (r :: inner.drop (i + 1)) => h ⟨hh, hf⟩)]
   ·rw [qd hf, qd (fun h : fitsIn (qv outer) (r :: inner.drop (i + 1)) => hf h.2)]
  ·have hpl : (wg outer r.1 (qv outer)).length ≤ 256 := by have := XI outer r.1 (qv outer); omega
   obtain ⟨j', rfl⟩ : ∃ m, j = m + 256 + 1 := ⟨j - 257, by omega⟩
   have e1 := qg9 k hk inner outer (i : Int) ho 256 r out j' (fun _ => hpl) hgr hh hg (by omega)
   rw [e1, qd (fun h : fitsIn (qv outer) (r :: inner.drop (i + 1)) => by have := h.1; omega)]
theorem qdg (k : Nat) (hk : 70000 ≤ k) (inner outer : List Rn) : qfI k inner outer = some (Xv inner outer) := by
 unfold qfI Xv
 rw [vM k (by omega), Qu k (by omega), vM k (by omega), Qu k (by omega), qb, qb, qd rfl]
 by_cases h1 : chk inner = 0
 ·rw [show (chk inner != 0) = false by simp [h1], qg, qd rfl, qm (fun h : chk inner ≠ 0 => h h1)]
  by_cases h2 : chk outer = 0
  ·have c1 := wW.1 h1
   have c2 := wW.1 h2
   have l1 := c1.len
   rw [show (chk outer != 0) = false by simp [h2], qg, qm (fun h : chk outer ≠ 0 => h h2)]
   have := qkL k (by omega) inner outer c1 c2 inner.length 0 [] k (by omega) (by omega) trivial (by simp) (by omega)
   exact this
  ·rw [show (chk outer != 0) = true by simp [h2], qi, qd h2]
 ·rw [show (chk inner != 0) = true by simp [h1], qi, qd h1]
theorem qmx (k : Nat) (hk : 70000 ≤ k) (inner outer : List Rn) : Y0 k inner outer = Xv inner outer := by
 unfold Y0; rw [qdg k hk]; rfl
end Go.AM
namespace Go.AM
open Go
theorem qcR : ∀ (l : List Sp) (b : Int), (∀ s ∈ l, b ≤ s.1) → l.Pairwise (fun x y => x.1 ≤ y.1) → Asc b l
 | [], _, _, _ => trivial
 | s :: t, b, h, hp => by
  obtain ⟨h1, h2⟩ := zK.1 hp
  exact ⟨h s (by simp), qcR t s.1 (fun u hu => h1 u hu) h2⟩
def nf (l : List Sp) : List Sp := jn0 (WU l)
theorem In.small {l : List Sp} (h : In 0 17179869184 l) : ∀ x ∈ l, Vt x.1 := fun x hx => by
 obtain ⟨a, b, c⟩ := h.mem x hx
 exact ⟨a, by omega⟩
theorem qCw {l : List Sp} (h : In 0 17179869184 l) : Asc 0 (WU l) :=
 qcR _ 0 (fun s hs => (h.mem s ((QV h.small).mem_iff.1 hs)).1) qqH
theorem qjB {l : List Sp} (h : In 0 17179869184 l) : Nr (-1) (nf l) := qEt _ _ (qCw h)
theorem qr2 {l : List Sp} (h : In 0 17179869184 l) (x : Int) : Qq (nf l) x ↔ Qq l x := by
 unfold nf
 rw [qwI _ 0 x (qCw h), qGP (QV h.small)]
theorem qcX {l : List Sp} (h : In 0 17179869184 l) : In 0 17179869184 (nf l) :=
 qCQ _ (In.of fun s hs => h.mem s ((QV h.small).mem_iff.1 hs))
theorem qcd {l : List Sp} (h : In 0 17179869184 l) : (nf l).length ≤ l.length := by
 have := qvf (WU l)
 rw [(QV h.small).length_eq] at this
 exact this
theorem qvy {l m : List Sp} (h : In 0 17179869184 l) (hm : Nr (-1) m) (he : ∀ x, Qq m x ↔ Qq l x) : m = nf l :=
 Nr.uniq hm (qjB h) fun x => (he x).trans (qr2 h x).symm
theorem qot {l : List Sp} (h : In 0 17179869184 l) (hn : Nr (-1) l) : nf l = l := (qvy h hn fun _ => Iff.rfl).symm
def zN (l : List Sp) : Int := if l.length > 256 then 8 else if l.all (fun s => decide (0 ≤ s.1 ∧ s.1 ≤ s.2 ∧ s.2 ≤ 17179869184)) = true then 0 else 1
theorem ZT {l : List Sp} : zN l = 0 ↔ l.length ≤ 256 ∧ In 0 17179869184 l := by
 unfold zN
 constructor
 ·intro h
  by_cases h1 : l.length > 256
  ·rw [qd h1] at h; omega
  ·rw [qm h1] at h
   by_cases h2 : l.all (fun s => decide (0 ≤ s.1 ∧ s.1 ≤ s.2 ∧ s.2 ≤ 17179869184)) = true
   ·exact ⟨by omega, In.of fun s hs => of_decide_eq_true (vA.1 h2 s hs)⟩
   ·rw [qm h2] at h; omega
 ·rintro ⟨h1, h2⟩
  rw [qm (by omega), qd (vA.2 fun s hs => qA (h2.mem s hs))]
def WM (l : List Sp) : List Sp × Int := if zN l ≠ 0 then ([], zN l) else (nf l, 0)
def qaC (l : List Sp) : Int × Int := if zN l ≠ 0 then (0, zN l) else (tot (nf l), 0)
end Go.AM
namespace Go.AM
open Go
def WQ : List Int → Int → List Int
 | [], n => [n]
 | x :: t, n => if x < n then x :: WQ t n else if x = n then x :: t else n :: x :: t
theorem qj0 : ∀ (l : List Int) (n x : Int), x ∈ WQ l n ↔ x = n ∨ x ∈ l
 | [], n, x => by simp [WQ]
 | y :: t, n, x => by
  unfold WQ
  by_cases h : y < n
  ·rw [qd h]; simp only [qK, qj0 t n x]
   constructor
   ·rintro (h | h | h) <;> simp [h]
   ·rintro (h | h | h) <;> simp [h]
  ·rw [qm h]
   by_cases h2 : y = n
   ·rw [qd h2]; simp only [qK]; subst h2
    constructor
    ·intro h; exact .inr h
    ·rintro (h | h)
     ·exact .inl h
     ·exact h
   ·rw [qm h2]; simp
theorem qfv : ∀ (l : List Int) (n : Int), l.Pairwise (· < ·) → (WQ l n).Pairwise (· < ·)
 | [], n, _ => by simp [WQ]
 | y :: t, n, hp => by
  obtain ⟨h1, h2⟩ := zK.1 hp
  unfold WQ
  by_cases h : y < n
  ·rw [qd h]
   refine zK.2 ⟨fun x hx => ?_, qfv t n h2⟩
   rcases (qj0 t n x).1 hx with rfl | hx
   ·exact h
   ·exact h1 x hx
  ·rw [qm h]
   by_cases h2 : y = n
   ·rw [qd h2]; exact hp
   ·rw [qm h2]
    refine zK.2 ⟨fun x hx => ?_, hp⟩
    rcases qK.1 hx with rfl | hx
    ·omega
    ·have := h1 x hx; omega
theorem qff : ∀ (l : List Int) (n : Int), (WQ l n).length ≤ l.length + 1
 | [], n => by simp [WQ]
 | y :: t, n => by
  unfold WQ
  split
  ·have := qff t n; simp; omega
  ·split <;> simp
def QZ : List Int → List Sp → List Int
 | acc, [] => acc
 | acc, s :: t => QZ (WQ (WQ acc s.1) s.2) t
theorem qqa : ∀ (l : List Sp) (acc : List Int) (x : Int), x ∈ QZ acc l ↔ x ∈ acc ∨ ∃ s ∈ l, x = s.1 ∨ x = s.2
 | [], acc, x => by simp [QZ]
 | s :: t, acc, x => by
  rw [QZ, qqa t, qj0, qj0]
  simp only [qK]
  constructor
  ·rintro ((h | h | h) | ⟨u, hu, h⟩)
   ·exact .inr ⟨s, .inl rfl, .inr h⟩
   ·exact .inr ⟨s, .inl rfl, .inl h⟩
   ·exact .inl h
   ·exact .inr ⟨u, .inr hu, h⟩
  ·rintro (h | ⟨u, rfl | hu, h | h⟩)
   ·exact .inl (.inr (.inr h))
   ·exact .inl (.inr (.inl h))
   ·exact .inl (.inl h)
   ·exact .inr ⟨u, hu, .inl h⟩
   ·exact .inr ⟨u, hu, .inr h⟩
theorem qhP : ∀ (l : List Sp) (acc : List Int), acc.Pairwise (· < ·) → (QZ acc l).Pairwise (· < ·)
 | [], acc, h => h
 | s :: t, acc, h => qhP t _ (qfv _ _ (qfv _ _ h))
theorem qp0 : ∀ (l : List Sp) (acc : List Int), (QZ acc l).length ≤ acc.length + 2 * l.length
 | [], acc => by simp [QZ]
 | s :: t, acc => by
  have h1 := qp0 t (WQ (WQ acc s.1) s.2)
  have h2 := qff (WQ acc s.1) s.2
  have h3 := qff acc s.1
  rw [QZ]; simp only [wc]; omega
def ZO (l : List Sp) (x : Int) : Bool := l.any fun s => decide (s.1 ≤ x) && decide (x < s.2)
theorem qtP (l : List Sp) (x : Int) : ZO l x = true ↔ Qq l x := by
 rw [v8]
 unfold ZO
 simp only [List.any_eq_true, qj, decide_eq_true_eq]
def Yp (a : List Sp) : Sp → List Int → List Sp
 | c, x :: y :: t => if ZO a x = true then (if c.2 = x then Yp a (c.1, y) (y :: t) else c :: Yp a (x, y) (y :: t)) else Yp a c (y :: t)
 | c, _ => [c]
def qip (a : List Sp) : List Int → List Sp
 | x :: y :: t => if ZO a x = true then Yp a (x, y) (y :: t) else qip a (y :: t)
 | _ => []
def seg (a : List Sp) : List Int → Int → Prop
 | x :: y :: t, z => (ZO a x = true ∧ x ≤ z ∧ z < y) ∨ seg a (y :: t) z
 | _, _ => False
theorem qjD (a : List Sp) : ∀ (l : List Int) (c : Sp) (b : Int), b < c.1 → c.1 < c.2 → l.Pairwise (· < ·) → (∀ x ∈ l, c.2 ≤ x) → Nr b (Yp a c l)
 | [], c, b, h1, h2, _, _ => ⟨h1, h2, trivial⟩
 | [x], c, b, h1, h2, _, _ => ⟨h1, h2, trivial⟩
 | x :: y :: t, c, b, h1, h2, hp, hc => by
  obtain ⟨p1, p2⟩ := zK.1 hp
  have hxy := p1 y (by simp)
  have hcx := hc x (by simp)
  have hyt : ∀ u ∈ y :: t, y ≤ u := fun u hu => by
   rcases qK.1 hu with rfl | hu
   ·exact Wg _
   ·have := (zK.1 p2).1 u hu; omega
  unfold Yp
  by_cases q : ZO a x = true
  ·rw [qd q]
   by_cases q2 : c.2 = x
   ·rw [qd q2]; exact qjD a (y :: t) (c.1, y) b h1 (by show c.1 < y; omega) p2 hyt
   ·rw [qm q2]; exact ⟨h1, h2, qjD a (y :: t) (x, y) c.2 (by show c.2 < x; omega) hxy p2 hyt⟩
  ·rw [qm q]; exact qjD a (y :: t) c b h1 h2 p2 fun u hu => by have := hyt u hu; omega
theorem qgt (a : List Sp) : ∀ (l : List Int) (c : Sp) (z : Int), l.Pairwise (· < ·) → (∀ x ∈ l, c.2 ≤ x) → c.1 < c.2 → (Qq (Yp a c l) z ↔ (c.1 ≤ z ∧ z < c.2) ∨ seg a l z)
 | [], c, z, _, _, _ => by simp [Yp, Qq, seg]
 | [x], c, z, _, _, _ => by simp [Yp, Qq, seg]
 | x :: y :: t, c, z, hp, hc, h2 => by
  obtain ⟨p1, p2⟩ := zK.1 hp
  have hxy := p1 y (by simp)
  have hcx := hc x (by simp)
  have hyt : ∀ u ∈ y :: t, y ≤ u := fun u hu => by
   rcases qK.1 hu with rfl | hu
   ·exact Wg _
   ·have := (zK.1 p2).1 u hu; omega
  unfold Yp seg
  by_cases q : ZO a x = true
  ·rw [qd q]
   by_cases q2 : c.2 = x
   ·rw [qd q2, qgt a (y :: t) (c.1, y) z p2 hyt (by show c.1 < y; omega)]
    constructor
    ·rintro (h | h)
     ·have h : c.1 ≤ z ∧ z < y := h
      by_cases q3 : z < c.2
      ·exact .inl ⟨h.1, q3⟩
      ·exact .inr (.inl ⟨q, by omega, h.2⟩)
     ·exact .inr (.inr h)
    ·rintro (h | ⟨_, h⟩ | h)
     ·exact .inl ⟨h.1, by show z < y; omega⟩
     ·exact .inl ⟨by show c.1 ≤ z; omega, h.2⟩
     ·exact .inr h
   ·rw [qm q2]
    show (c.1 ≤ z ∧ z < c.2) ∨ Qq (Yp a (x, y) (y :: t)) z ↔ _
    rw [qgt a (y :: t) (x, y) z p2 hyt hxy]
    constructor
    ·rintro (h | h | h)
     ·exact .inl h
     ·exact .inr (.inl ⟨q, h⟩)
     ·exact .inr (.inr h)
    ·rintro (h | ⟨_, h⟩ | h)
     ·exact .inl h
     ·exact .inr (.inl h)
     ·exact .inr (.inr h)
  ·rw [qm q, qgt a (y :: t) c z p2 (fun u hu => by have := hyt u hu; omega) h2]
   constructor
   ·rintro (h | h)
    ·exact .inl h
    ·exact .inr (.inr h)
   ·rintro (h | ⟨h, _⟩ | h)
    ·exact .inl h
    ·exact absurd h q
    ·exact .inr h
theorem qxh (a : List Sp) : ∀ (l : List Int) (b : Int), l.Pairwise (· < ·) → (∀ x ∈ l, b < x) → Nr b (qip a l)
 | [], b, _, _ => trivial
 | [x], b, _, _ => trivial
 | x :: y :: t, b, hp, hb => by
  obtain ⟨p1, p2⟩ := zK.1 hp
  have hxy := p1 y (by simp)
  have hyt : ∀ u ∈ y :: t, y ≤ u := fun u hu => by
   rcases qK.1 hu with rfl | hu
   ·exact Wg _
   ·have := (zK.1 p2).1 u hu; omega
  unfold qip
  by_cases q : ZO a x = true
  ·rw [qd q]; exact qjD a (y :: t) (x, y) b (hb x (by simp)) hxy p2 hyt
  ·rw [qm q]; exact qxh a (y :: t) b p2 fun u hu => hb u (by simp [hu])
theorem qsK (a : List Sp) : ∀ (l : List Int) (z : Int), l.Pairwise (· < ·) → (Qq (qip a l) z ↔ seg a l z)
 | [], z, _ => Iff.rfl
 | [x], z, _ => Iff.rfl
 | x :: y :: t, z, hp => by
  obtain ⟨p1, p2⟩ := zK.1 hp
  have hxy := p1 y (by simp)
  have hyt : ∀ u ∈ y :: t, y ≤ u := fun u hu => by
   rcases qK.1 hu with rfl | hu
   ·exact Wg _
   ·have := (zK.1 p2).1 u hu; omega
  unfold qip seg
  by_cases q : ZO a x = true
  ·rw [qd q, qgt a (y :: t) (x, y) z p2 hyt hxy]
   constructor
   ·rintro (h | h)
    ·exact .inl ⟨q, h⟩
    ·exact .inr h
   ·rintro (⟨_, h⟩ | h)
    ·exact .inl h
    ·exact .inr h
  ·rw [qm q, qsK a (y :: t) z p2]
   exact ⟨.inr, fun h => h.elim (fun h => absurd h.1 q) id⟩
theorem qv4 (a : List Sp) (h0 : ∀ s ∈ a, s.1 ≤ s.2) : ∀ (l : List Int) (z : Int), l.Pairwise (· < ·) → (∀ s ∈ a, s.1 ≤ z → z < s.2 → (s.2 ∈ l ∧ (s.1 ∈ l ∨ ∀ x ∈ l, s.1 ≤ x))) → (∀ s ∈ a, ∀ x ∈ l, s.1 ≤ x → x < s.2 → s.2 ∈ l) → (∀ x ∈ l, z < x) ∨ (seg a l z ↔ Qq a z)
 | [], z, _, h, _ => .inl (by simp)
 | [x], z, _, h, _ => by
  by_cases hz : z < x
  ·left; simpa using hz
  ·right
   refine ⟨fun h => h.elim, fun hh => ?_⟩
   obtain ⟨s, hs, h1, h2⟩ := (v8 a z).1 hh
   obtain ⟨k1, k2⟩ := h s hs h1 h2
   have : s.2 = x := by simpa using k1
   omega
 | x :: y :: t, z, hp, h, h' => by
  obtain ⟨p1, p2⟩ := zK.1 hp
  have hxy := p1 y (by simp)
  have hyt : ∀ u ∈ y :: t, y ≤ u := fun u hu => by
   rcases qK.1 hu with rfl | hu
   ·exact Wg _
   ·have := (zK.1 p2).1 u hu; omega
  by_cases hz : z < x
  ·left
   intro u hu
   rcases qK.1 hu with rfl | hu
   ·exact hz
   ·have := hyt u hu; omega
  ·right
   by_cases hzy : z < y
   ·-- between x and y
    have hno : ¬ seg a (y :: t) z := by
     have : ∀ (l : List Int), (∀ u ∈ l, z < u) → ¬ seg a l z := fun l => by
      induction l with
      | nil => intro _ h; exact h
      | cons u v ih =>
       intro hu hs
       cases v with
       | nil => exact hs
       | cons w r =>
        rcases hs with ⟨_, h1, _⟩ | hs
        ·have := hu u (by simp); omega
        ·exact ih (fun q hq => hu q (by simp [hq])) hs
     exact this _ fun u hu => by have := hyt u hu; omega
    constructor
    ·rintro (⟨h1, h2, h3⟩ | h1)
     ·obtain ⟨s, hs, k1, k2⟩ := (v8 a x).1 ((qtP a x).1 h1)
      have k3 := h' s hs x (by simp) k1 k2
      have : y ≤ s.2 := by
       rcases qK.1 k3 with e | e
       ·omega
       ·exact hyt _ e
      exact (v8 a z).2 ⟨s, hs, by omega, by omega⟩
     ·exact absurd h1 hno
    ·intro hh
     obtain ⟨s, hs, k1, k2⟩ := (v8 a z).1 hh
     obtain ⟨k3, k4⟩ := h s hs k1 k2
     left
     refine ⟨(qtP a x).2 ((v8 a x).2 ⟨s, hs, ?_, by omega⟩), by omega, hzy⟩
     rcases k4 with k4 | k4
     ·rcases qK.1 k4 with e | e
      ·omega
      ·have := hyt _ e; omega
     ·exact k4 x (by simp)
   ·have ih := qv4 a h0 (y :: t) z p2 (fun s hs k1 k2 => by
     obtain ⟨k3, k4⟩ := h s hs k1 k2
     refine ⟨?_, ?_⟩
     ·rcases qK.1 k3 with e | e
      ·omega
      ·exact e
     ·rcases k4 with k4 | k4
      ·rcases qK.1 k4 with e | e
       ·exact .inr fun u hu => by have := hyt u hu; omega
       ·exact .inl e
      ·exact .inr fun u hu => k4 u (by simp [hu])) (fun s hs u hu k1 k2 => by
     rcases qK.1 (h' s hs u (by simp [hu]) k1 k2) with e | e
     ·have := hyt u hu; omega
     ·exact e)
    have hsame : seg a (x :: y :: t) z ↔ seg a (y :: t) z := by
     show (ZO a x = true ∧ x ≤ z ∧ z < y) ∨ seg a (y :: t) z ↔ _
     exact ⟨fun h => h.elim (fun h => absurd h.2.2 hzy) id, .inr⟩
    rcases ih with ih | ih
    ·exact absurd (ih y (by simp)) hzy
    ·exact hsame.trans ih
theorem qQL {l : List Sp} (h : In 0 17179869184 l) : qip l (QZ [] l) = nf l := by
 have hs := qhP l [] List.Pairwise.nil
 have hm : ∀ x, x ∈ QZ [] l ↔ ∃ s ∈ l, x = s.1 ∨ x = s.2 := fun x => by rw [qqa]; simp
 refine qvy h (qxh l _ (-1) hs fun x hx => ?_) fun z => ?_
 ·obtain ⟨s, hs, hx⟩ := (hm x).1 hx
  have := h.mem s hs
  rcases hx with rfl | rfl <;> omega
 ·rw [qsK l _ z hs]
  rcases qv4 l (fun s hs => (h.mem s hs).2.1) (QZ [] l) z hs (fun s hs _ _ => ⟨(hm _).2 ⟨s, hs, .inr rfl⟩, .inl ((hm _).2 ⟨s, hs, .inl rfl⟩)⟩) (fun s hs x _ _ _ => (hm _).2 ⟨s, hs, .inr rfl⟩) with k | k
  ·constructor
   ·intro hseg
    exfalso
    have : ∀ (m : List Int), (∀ u ∈ m, z < u) → ¬ seg l m z := fun m => by
     induction m with
     | nil => intro _ h; exact h
     | cons u v ih =>
      intro hu hs
      cases v with
      | nil => exact hs
      | cons w r =>
       rcases hs with ⟨_, h1, _⟩ | hs
       ·have := hu u (by simp); omega
       ·exact ih (fun q hq => hu q (by simp [hq])) hs
    exact this _ k hseg
   ·intro hh
    obtain ⟨s, hs, k1, k2⟩ := (v8 l z).1 hh
    have := k _ ((hm s.1).2 ⟨s, hs, .inl rfl⟩)
    omega
  ·exact k
theorem qBF (a b : Sp) : Vo T21 a b = decide (a = b) := by
 show ((a.1 == b.1) && (a.2 == b.2)) = _
 by_cases h1 : a.1 = b.1 <;> by_cases h2 : a.2 = b.2 <;> simp [h1, h2, Prod.ext_iff]
theorem qrL (k : Nat) (l : List Sp) (hl : l.length ≤ 256) : ∀ (j i : Nat), i ≤ l.length → l.length - i < j →
  Yh k j l (l.length : Int) (i : Int) = some (if (l.drop i).all (fun s => decide (0 ≤ s.1 ∧ s.1 ≤ s.2 ∧ s.2 ≤ 17179869184)) = true then 0 else 1) := by
 intro j
 induction j with
 | zero => intros; omega
 | succ j ih =>
  intro i hi hj
  rw [Yh]
  by_cases h : i < l.length
  ·rw [qA (by omega : (i : Int) < (l.length : Int)), qi, qd ⟨by omega, by omega⟩, qq l i T21.dflt h, qc, List.all_cons]
   generalize l.getD i T21.dflt = s
   by_cases hs : 0 ≤ s.1 ∧ s.1 ≤ s.2 ∧ s.2 ≤ 17179869184
   ·rw [qx (by omega : ¬ s.fst < 0), qx (by omega : ¬ s.fst > s.snd), qx (by omega : ¬ s.snd > 17179869184), Bool.or_self, Bool.or_self, qg, qF i (by omega), ih (i + 1) (by omega) (by omega), qA hs, ww]
   ·have : (decide (s.fst < 0) || decide (s.fst > s.snd) || decide (s.snd > 17179869184)) = true := by
     by_cases a : s.fst < 0
     ·rw [qA a]; rfl
     ·by_cases b : s.fst > s.snd
      ·rw [qA b, Bool.or_true]; rfl
      ·rw [qA (by omega : s.snd > 17179869184), Bool.or_true]
    rw [this, qi, qx hs, wD, qm (by decide)]
  ·rw [qx (by omega : ¬ (i : Int) < (l.length : Int)), qg, zh l i (by omega)]
   rfl
theorem X6 (k : Nat) (hk : 300 ≤ k) (l : List Sp) : qay k l = some (zN l) := by
 unfold qay zN
 by_cases h : l.length > 256
 ·rw [qA (by omega : (l.length : Int) > 256), qi, qd h]
 ·rw [qx (by omega : ¬ (l.length : Int) > 256), qg, qm h]
  exact qrL k l (by omega) k 0 (by omega) (by omega)
theorem qcw (k : Nat) (hk : 300 ≤ k) (l : List Sp) : VA k l = zN l := by
 unfold VA; rw [X6 k hk]; rfl
theorem qpQ (pre : List Sp) (c : Sp) (h : pre.length < 4611686018427387904) : (qa .i64 (((pre ++ [c]).length : Int) - 1)).toNat = pre.length := by
 rw [qn, qk, qo (by omega) (by omega)]; omega
theorem qqe (pre : List Sp) (c d : Sp) : (pre ++ [c]).getD pre.length d = c := by simp
theorem qpw (pre : List Sp) (c d : Sp) : (pre ++ [c]).set pre.length d = pre ++ [d] := by simp
theorem qqL (k : Nat) (l : List Sp) (hl : l.length ≤ 100000) : ∀ (j i : Nat), i ≤ l.length → l.length - i < j →
  (∀ last : Sp, last.1 ≥ last.2 → vK k j (l.length : Int) (i : Int) [] last l = some (jn0 (l.drop i))) ∧
  (∀ (pre : List Sp) (c last : Sp), pre.length ≤ i → (last.1 ≥ last.2 ∨ last.2 ≤ c.2) → vK k j (l.length : Int) (i : Int) (pre ++ [c]) last l = some (pre ++ jn c (l.drop i))) := by
 intro j
 induction j with
 | zero => intros; omega
 | succ j ih =>
  intro i hi hj
  by_cases h : i < l.length
  ·refine ⟨fun last hla => ?_, fun pre c last hp hla => ?_⟩
   ·rw [vK, qA (by omega : (i : Int) < (l.length : Int)), qi, qd ⟨by omega, by omega⟩, qq l i T21.dflt h, qc, qBF, jn0]
    obtain ⟨ih1, ih2⟩ := ih (i + 1) (by omega) (by omega)
    generalize l.getD i T21.dflt = s at *
    by_cases q : s.1 ≥ s.2
    ·rw [qA q, zX, qi, qd q, qF i (by omega)]
     exact ih1 s q
    ·have hne : ¬ s = last := fun e => q (e ▸ hla)
     rw [qx q, qx hne, zn, qg, qm q, qF i (by omega)]
     rw [qd ⟨fun e => (by simp at e), fun e => (by simp at e)⟩]
     show (bif decide ((0 : Int) > 0) && _ then _ else _) = _
     rw [qx (by omega), wD, qg, qd (by simp), qH]
     exact ih2 [] s s (by simp) (.inr (Wg _))
   ·rw [vK, qA (by omega : (i : Int) < (l.length : Int)), qi, qd ⟨by omega, by omega⟩, qq l i T21.dflt h, qc, qBF, jn]
    obtain ⟨ih1, ih2⟩ := ih (i + 1) (by omega) (by omega)
    generalize l.getD i T21.dflt = s at *
    have hlen : (pre ++ [c]).length = pre.length + 1 := by simp
    by_cases q : s.1 ≥ s.2
    ·rw [qA q, zX, qi, qd q, qF i (by omega)]
     exact ih2 pre c s (by omega) (.inl q)
    ·rw [qm q, qx q, zn]
     by_cases he : s = last
     ·have h2 : s.2 ≤ c.2 := by
       subst he
       rcases hla with h | h
       ·exact absurd h q
       ·exact h
      rw [qA he, qi, qF i (by omega), qd (by omega), qm (by omega)]
      exact ih2 pre c s (by omega) (.inr h2)
     ·have hidx : (0 : Int) ≤ qa .i64 (((pre ++ [c]).length : Int) - 1) ∧ qa .i64 (((pre ++ [c]).length : Int) - 1) < ((pre ++ [c]).length : Int) := by
       rw [hlen, qo (by omega) (by omega)]; exact ⟨by omega, by omega⟩
      rw [qx he, qg, qd ⟨fun _ => hidx.1, fun _ => hidx.2⟩, qA (by rw [hlen]; omega), ww, qpQ pre c (by omega), qqe, qpw, qF i (by omega)]
      by_cases q2 : s.1 ≤ c.2
      ·rw [qA q2, qi, qd ⟨hidx.1, hidx.2, hidx.1, hidx.2⟩, qd q2]
       exact ih2 pre (c.1, if s.2 > c.2 then s.2 else c.2) s (by omega) (.inr (by show s.2 ≤ if s.2 > c.2 then s.2 else c.2; split <;> omega))
      ·rw [qx q2, qg, qd (by rw [hlen, qk]; omega), qm q2]
       rw [ih2 (pre ++ [c]) s s (by simp; omega) (.inr (Wg _))]
       simp
  ·have hd := zh l i (by omega)
   refine ⟨fun last hla => ?_, fun pre c last hp hla => ?_⟩
   ·rw [vK, qx (by omega : ¬ (i : Int) < (l.length : Int)), qg, hd]; rfl
   ·rw [vK, qx (by omega : ¬ (i : Int) < (l.length : Int)), qg, hd]; rfl
theorem WR (k : Nat) (l : List Sp) (h : In 0 17179869184 l) (hl : l.length ≤ 100000) (hk : l.length < k) : XF k l = some (nf l) := by
 have e1 : qca k l = some l := by
  unfold qca; rw [qd (by omega)]
 have v1 : qam k l = l := by unfold qam; rw [e1]; rfl
 have e2 : qbO k l = some (WU l) := by
  unfold qbO
  rw [qd ⟨vA.2 fun x hx => qA (h.small x hx), by omega⟩, qur h.small]
 have v2 : qbL k l = WU l := by unfold qbL; rw [e2]; rfl
 have hlen := (QV h.small).length_eq
 unfold XF
 rw [e1, v1, e2, v2, qb, qb, qd rfl, qd rfl]
 exact (qqL k (WU l) (by omega) k 0 (by omega) (by omega)).1 (0, 0) (Wg _)
theorem VG (k : Nat) (l : List Sp) (h : In 0 17179869184 l) (hl : l.length ≤ 100000) (hk : l.length < k) : vQ k l = nf l := by
 unfold vQ; rw [WR k l h hl hk]; rfl
def we : List Sp → List Int
 | [] => []
 | s :: t => s.1 :: s.2 :: we t
theorem qaE : ∀ l : List Sp, (we l).length = 2 * l.length
 | [] => rfl
 | s :: t => by simp only [we, wc, qaE t]; omega
theorem qhV : ∀ (l : List Sp) (p : Nat), p < l.length → (we l).getD (2 * p) 0 = (l.getD p (0, 0)).1
 | s :: t, 0, _ => rfl
 | s :: t, p + 1, h => by
  have := qhV t p (by simpa using h)
  rw [show 2 * (p + 1) = 2 * p + 1 + 1 by omega]
  simpa [we] using this
theorem qpH : ∀ (l : List Sp) (p : Nat), p < l.length → (we l).getD (2 * p + 1) 0 = (l.getD p (0, 0)).2
 | s :: t, 0, _ => rfl
 | s :: t, p + 1, h => by
  have := qpH t p (by simpa using h)
  rw [show 2 * (p + 1) + 1 = 2 * p + 1 + 1 + 1 by omega]
  simpa [we] using this
theorem qhx : ∀ (a b : List Sp), we (a ++ b) = we a ++ we b
 | [], b => rfl
 | s :: t, b => by simp [we, qhx t b]
theorem qh1 : ∀ {b : Int} {l : List Sp}, Nr b l → (we l).Pairwise (fun x y => x ≤ y) ∧ ∀ x ∈ we l, b ≤ x
 | _, [], _ => ⟨List.Pairwise.nil, by simp [we]⟩
 | b, s :: t, ⟨h1, h2, h3⟩ => by
  obtain ⟨i1, i2⟩ := qh1 h3
  refine ⟨zK.2 ⟨fun x hx => ?_, zK.2 ⟨fun x hx => i2 x hx, i1⟩⟩, fun x hx => ?_⟩
  ·rcases qK.1 hx with rfl | hx
   ·omega
   ·have := i2 x hx; omega
  ·rcases qK.1 hx with rfl | hx
   ·omega
   ·rcases qK.1 hx with rfl | hx
    ·omega
    ·have := i2 x hx; omega
theorem Nr.get : ∀ {b : Int} {l : List Sp}, Nr b l → ∀ (p : Nat), p < l.length → (l.getD p (0, 0)).1 < (l.getD p (0, 0)).2 ∧ (p + 1 < l.length → (l.getD p (0, 0)).2 < (l.getD (p + 1) (0, 0)).1)
 | _, [], _, p, h => by simp at h
 | b, s :: t, ⟨h1, h2, h3⟩, 0, h => by
  refine ⟨h2, fun h' => ?_⟩
  cases t with
  | nil => simp at h'
  | cons u v => exact h3.1
 | b, s :: t, ⟨h1, h2, h3⟩, p + 1, h => by
  have := Nr.get h3 p (by simpa using h)
  simpa using this
theorem qqt (k j : Nat) (a : List Sp) (h : In 0 17179869184 a) (hn : Nr (-1) a) (hl : a.length ≤ 256) (hk : 300 ≤ k) : qax k (j + 1) a = some (a, 0) := by
 rw [qax, WR k a h (by omega) (by omega), VG k a h (by omega) (by omega), qot h hn, qb, qd rfl, qx (by omega), qg]
theorem qqJ (k : Nat) (hk : 300 ≤ k) (a : List Sp) (h : In 0 17179869184 a) (hn : Nr (-1) a) (hl : a.length ≤ 256) : ∀ (d p : Nat) (j : Nat), a.length - p = d → p ≤ a.length → 7 * d + 2 ≤ j →
  zp k j a [] (p : Int) 0 ((we a).length : Int) ((2 * p : Nat) : Int) (we a) (a.take p) = some (a, 0) := by
 intro d
 induction d with
 | zero =>
  intro p j hd hp hj
  obtain ⟨j, rfl⟩ : ∃ m, j = m + 2 := ⟨j - 2, by omega⟩
  have hpa : p = a.length := by omega
  subst hpa
  rw [zp, qaE, qx (by omega), qg, List.take_length]
  exact qqt k j a h hn hl hk
 | succ d ih =>
  intro p j hd hp hj
  obtain ⟨j, rfl⟩ : ∃ m, j = m + 7 := ⟨j - 7, by omega⟩
  have hpl : p < a.length := by omega
  have hEl := qaE a
  have e1 := qhV a p hpl
  have e2 := qpH a p hpl
  obtain ⟨n1, n2⟩ := hn.get p hpl
  have htk := wU a p (0, 0) hpl
  have hd0 : T21.dflt = ((0, 0) : Sp) := rfl
  have hz : (RTy.int IntKind.i64).dflt = (0 : Int) := rfl
  generalize hs : a.getD p (0, 0) = s at *
  have b18 : zp k (j + 7) a [] (p : Int) 0 ((we a).length : Int) ((2 * p : Nat) : Int) (we a) (a.take p) = zo k (j + 6) a [] (p : Int) 0 ((2 * p : Nat) : Int) s.1 ((we a).length : Int) ((2 * p : Nat) : Int) (we a) (a.take p) := by
   rw [show j + 7 = (j + 6) + 1 by omega, zp, qA (by omega), qi, qd ⟨by omega, by omega⟩, qc, hz, e1]
  have b20 : zo k (j + 6) a [] (p : Int) 0 ((2 * p : Nat) : Int) s.1 ((we a).length : Int) ((2 * p : Nat) : Int) (we a) (a.take p) = zJ k (j + 5) a [] (p : Int) 0 ((2 * p : Nat) : Int) s.1 ((we a).length : Int) ((2 * p : Nat) : Int) (we a) (a.take p) := by
   rw [show j + 6 = (j + 5) + 1 by omega, zo, qd ⟨fun _ => by omega, fun _ => by omega⟩, qc, hd0, hs, qx (by omega : ¬ s.2 ≤ s.1), qHb, qg]
  have b22 : zJ k (j + 5) a [] (p : Int) 0 ((2 * p : Nat) : Int) s.1 ((we a).length : Int) ((2 * p : Nat) : Int) (we a) (a.take p) = zp k (j + 4) a [] (p : Int) 0 ((we a).length : Int) ((2 * p + 1 : Nat) : Int) (we a) (a.take (p + 1)) := by
   rw [show j + 5 = (j + 4) + 1 by omega, zJ, qd ⟨fun e => by simp at e, fun e => by simp at e⟩, show (decide ((0 : Int) < (([] : List Sp).length : Int)) && _) = false from rfl, qg, qF (2 * p) (by omega)]
   rw [qd ⟨fun _ => by omega, fun _ => by omega⟩, qc, hz, e2, show ((((2 * p + 1 : Nat) : Int) == ((we a).length : Int)) = false) from Vk (by omega), show (s.2 == s.1) = false from Vk (by omega), Bool.or_self, qg]
   rw [qc, hd0, hs, qA (by omega : (p : Int) < (a.length : Int)), qA (by omega : s.fst ≤ s.1), Bool.and_self]
   have ek : ∀ b, qhK k true b = true := fun b => rfl
   have ef : ∀ b, qeQ k true b = some true := fun b => rfl
   rw [ek, ef, qd ⟨fun _ => by omega, fun _ => by omega, fun e => by simp at e, fun e => by simp at e, rfl⟩, qi, qd ⟨by omega, by omega, by rw [qk, Qt]; omega⟩, htk]
  have c18 : zp k (j + 4) a [] (p : Int) 0 ((we a).length : Int) ((2 * p + 1 : Nat) : Int) (we a) (a.take (p + 1)) = zo k (j + 3) a [] (p : Int) 0 ((2 * p + 1 : Nat) : Int) s.2 ((we a).length : Int) ((2 * p + 1 : Nat) : Int) (we a) (a.take (p + 1)) := by
   rw [show j + 4 = (j + 3) + 1 by omega, zp, qA (by omega), qi, qd ⟨by omega, by omega⟩, qc, hz, e2]
  have c20 : zo k (j + 3) a [] (p : Int) 0 ((2 * p + 1 : Nat) : Int) s.2 ((we a).length : Int) ((2 * p + 1 : Nat) : Int) (we a) (a.take (p + 1)) = zo k (j + 2) a [] ((p + 1 : Nat) : Int) 0 ((2 * p + 1 : Nat) : Int) s.2 ((we a).length : Int) ((2 * p + 1 : Nat) : Int) (we a) (a.take (p + 1)) := by
   rw [show j + 3 = (j + 2) + 1 by omega, zo, qd ⟨fun _ => by omega, fun _ => by omega⟩, qc, hd0, hs, qA (by omega : s.snd ≤ s.2), qA (by omega : (p : Int) < (a.length : Int)), Bool.and_self, qi, qF p (by omega)]
  by_cases hlast : p + 1 < a.length
  ·have n2 := n2 hlast
   have e3 := qhV a (p + 1) hlast
   obtain ⟨m1, _⟩ := hn.get (p + 1) hlast
   generalize hu : a.getD (p + 1) (0, 0) = u at *
   have d20 : zo k (j + 2) a [] ((p + 1 : Nat) : Int) 0 ((2 * p + 1 : Nat) : Int) s.2 ((we a).length : Int) ((2 * p + 1 : Nat) : Int) (we a) (a.take (p + 1)) = zJ k (j + 1) a [] ((p + 1 : Nat) : Int) 0 ((2 * p + 1 : Nat) : Int) s.2 ((we a).length : Int) ((2 * p + 1 : Nat) : Int) (we a) (a.take (p + 1)) := by
    rw [show j + 2 = (j + 1) + 1 by omega, zo, qd ⟨fun _ => by omega, fun _ => by omega⟩, qc, hd0, hu, qx (by omega : ¬ u.2 ≤ s.2), qHb, qg]
   have d22 : zJ k (j + 1) a [] ((p + 1 : Nat) : Int) 0 ((2 * p + 1 : Nat) : Int) s.2 ((we a).length : Int) ((2 * p + 1 : Nat) : Int) (we a) (a.take (p + 1)) = zp k j a [] ((p + 1 : Nat) : Int) 0 ((we a).length : Int) ((2 * (p + 1) : Nat) : Int) (we a) (a.take (p + 1)) := by
    rw [zJ, qd ⟨fun e => by simp at e, fun e => by simp at e⟩, show (decide ((0 : Int) < (([] : List Sp).length : Int)) && _) = false from rfl, qg, qF (2 * p + 1) (by omega), show 2 * p + 1 + 1 = 2 * (p + 1) by omega]
    rw [qd ⟨fun _ => by omega, fun _ => by omega⟩, qc, hz, e3, show ((((2 * (p + 1) : Nat) : Int) == ((we a).length : Int)) = false) from Vk (by omega), show (u.1 == s.2) = false from Vk (by omega), Bool.or_self, qg]
    rw [qc, hd0, hu, qx (by omega : ¬ u.fst ≤ s.2), qHb]
    have ek : ∀ b, qhK k false b = false := fun b => rfl
    have ef : ∀ b, qeQ k false b = some false := fun b => rfl
    rw [ek, ef, qd ⟨fun _ => by omega, fun _ => by omega, fun e => by simp at e, fun e => by simp at e, rfl⟩, qg]
   rw [b18, b20, b22, c18, c20, d20, d22]
   exact ih (p + 1) j (by omega) (by omega) (by omega)
  ·have hpa : p + 1 = a.length := by omega
   have d20 : zo k (j + 2) a [] ((p + 1 : Nat) : Int) 0 ((2 * p + 1 : Nat) : Int) s.2 ((we a).length : Int) ((2 * p + 1 : Nat) : Int) (we a) (a.take (p + 1)) = zJ k (j + 1) a [] ((p + 1 : Nat) : Int) 0 ((2 * p + 1 : Nat) : Int) s.2 ((we a).length : Int) ((2 * p + 1 : Nat) : Int) (we a) (a.take (p + 1)) := by
    rw [show j + 2 = (j + 1) + 1 by omega, zo, qd ⟨fun _ => by omega, fun e => of_decide_eq_true e⟩, qx (by omega : ¬ ((p + 1 : Nat) : Int) < (a.length : Int)), wD, qg]
   have d22 : zJ k (j + 1) a [] ((p + 1 : Nat) : Int) 0 ((2 * p + 1 : Nat) : Int) s.2 ((we a).length : Int) ((2 * p + 1 : Nat) : Int) (we a) (a.take (p + 1)) = zp k j a [] ((p + 1 : Nat) : Int) 0 ((we a).length : Int) ((2 * (p + 1) : Nat) : Int) (we a) (a.take (p + 1)) := by
    rw [zJ, qd ⟨fun e => by simp at e, fun e => by simp at e⟩, show (decide ((0 : Int) < (([] : List Sp).length : Int)) && _) = false from rfl, qg, qF (2 * p + 1) (by omega), show 2 * p + 1 + 1 = 2 * (p + 1) by omega]
    have hq : (((2 * (p + 1) : Nat) : Int) == ((we a).length : Int)) = true := by simp only [beq_iff_eq]; omega
    rw [hq, qd (show (true = false → (0 : Int) ≤ ((2 * (p + 1) : Nat) : Int)) ∧ (true = false → ((2 * (p + 1) : Nat) : Int) < ((we a).length : Int)) from ⟨fun e => (by cases e), fun e => (by cases e)⟩), zX, qi]
   rw [b18, b20, b22, c18, c20, d20, d22]
   exact ih (p + 1) j (by omega) (by omega) (by omega)
theorem qqv (k : Nat) (hk : 10 ≤ k) (a : List Sp) (hl : a.length ≤ 1000) : qeL k [a, []] = some a := by
 obtain ⟨k, rfl⟩ : ∃ m, k = m + 10 := ⟨k - 10, by omega⟩
 have hg : qbF (k + 10) (a.length : Int) = some [] := by
  unfold qbF; rw [qd ⟨by omega, by omega⟩]
 have hv : qeY (k + 10) (a.length : Int) = [] := by unfold qeY; rw [hg]; rfl
 have L2 : (([a, []] : List (List Sp)).length : Int) = 2 := rfl
 unfold qeL
 rw [L2]
 rw [WL, L2, qA (by omega), qi, qd (show (0 : Int) ≤ 0 ∧ (0 : Int) < 2 from ⟨by omega, by omega⟩)]
 show (bif decide (qa .i64 (0 + (a.length : Int)) < 0) then none else WL (k + 10) (k + 9) [a, []] (qa .i64 (0 + (a.length : Int))) [a, []] 2 (qa .i64 (0 + 1))) = _
 rw [qo (i := 0 + (a.length : Int)) (by omega) (by omega), Int.zero_add, qx (by omega), qg, show qa .i64 (0 + 1) = 1 from qF 0 (by omega)]
 rw [WL, L2, qA (by omega), qi, qd (show (0 : Int) ≤ 1 ∧ (1 : Int) < 2 from ⟨by omega, by omega⟩)]
 show (bif decide (qa .i64 ((a.length : Int) + (0 : Int)) < 0) then none else WL (k + 10) (k + 8) [a, []] (qa .i64 ((a.length : Int) + (0 : Int))) [a, []] 2 (qa .i64 (1 + 1))) = _
 rw [qo (i := (a.length : Int) + (0 : Int)) (by omega) (by omega), Int.add_zero, qx (by omega), qg, show qa .i64 (1 + 1) = 2 from qF 1 (by omega)]
 rw [WL, qx (by omega), qg, hg, hv, qb, qd rfl]
 rw [L2, QB, L2, qA (by omega), qi, qd (show (0 : Int) ≤ 0 ∧ (0 : Int) < 2 from ⟨by omega, by omega⟩)]
 show (if (([] : List Sp).length + a.length) * 16 ≤ 140737488355328 then QB (k + 10) (k + 6) [a, []] 2 (qa .i64 (0 + 1)) ([] ++ a) else none) = _
 rw [qd (show (([] : List Sp).length + a.length) * 16 ≤ 140737488355328 by rw [List.length_nil]; omega), show qa .i64 (0 + 1) = 1 from qF 0 (by omega)]
 rw [QB, L2, qA (by omega), qi, qd (show (0 : Int) ≤ 1 ∧ (1 : Int) < 2 from ⟨by omega, by omega⟩)]
 show (if (([] ++ a : List Sp).length + ([] : List Sp).length) * 16 ≤ 140737488355328 then QB (k + 10) (k + 5) [a, []] 2 (qa .i64 (1 + 1)) ([] ++ a ++ []) else none) = _
 rw [qd (show (([] ++ a : List Sp).length + ([] : List Sp).length) * 16 ≤ 140737488355328 by rw [List.length_nil, qH]; omega), show qa .i64 (1 + 1) = 2 from qF 1 (by omega)]
 rw [QB, qx (by omega), qg]
 show some ([] ++ a ++ []) = some a
 simp
theorem qqj (k : Nat) (hk : 300 ≤ k) (a : List Sp) (h : In 0 17179869184 a) (hn : Nr (-1) a) (hl : a.length ≤ 256) : ∀ (j i : Nat), i ≤ a.length → (a.length - i) + (7 * a.length + 3) ≤ j →
  Xg k j a [] (a.length : Int) (i : Int) (we (a.take i)) a = some (a, 0) := by
 intro j
 induction j with
 | zero => intros; omega
 | succ j ih =>
  intro i hi hj
  rw [Xg]
  by_cases h' : i < a.length
  ·rw [qA (by omega : (i : Int) < (a.length : Int)), qi, qd ⟨by omega, by omega⟩, qc, qd (by rw [qaE, Qt]; show (2 * min i a.length + 2) * 8 ≤ _; omega), qF i (by omega)]
   have := ih (i + 1) (by omega) (by omega)
   rw [wU a i (0, 0) h', qhx] at this
   exact this
  ·have hs : qbN k (we a) = some (we a) := by
    unfold qbN
    rw [qd (by rw [qaE]; omega), qu8, List.mergeSort_of_pairwise]
    exact (qh1 hn).1.imp fun h => qA h
   have hv : qbA k (we a) = we a := by unfold qbA; rw [hs]; rfl
   rw [qx (by omega : ¬ (i : Int) < (a.length : Int)), qg, wI (by omega), hs, hv, qb, qd rfl]
   exact qqJ k hk a h hn hl a.length 0 j (by omega) (by omega) (by omega)
theorem qdX (k : Nat) (hk : 2100 ≤ k) (l : List Sp) : qch k l = some (WM l) := by
 have e : qfb k l [] = some (WM l) := by
  unfold qfb WM
  rw [X6 k (by omega), qcw k (by omega), X6 k (by omega), qcw k (by omega), qb, qd rfl]
  by_cases h1 : zN l = 0
  ·obtain ⟨l1, l2⟩ := ZT.1 h1
   have hnl := qcd l2
   have h0 : In 0 17179869184 ([] : List Sp) := trivial
   rw [show (zN l != 0) = false by simp [h1], qg, qm (fun h : zN l ≠ 0 => h h1), qb, qd rfl, show (zN [] != 0) = false from rfl, qg]
   rw [WR k l l2 (by omega) (by omega), VG k l l2 (by omega) (by omega), WR k [] h0 (by simp) (by simp; omega), VG k [] h0 (by simp) (by simp; omega), qot h0 trivial, qd ⟨rfl, rfl⟩]
   have hc := qqv k (by omega) (nf l) (by omega)
   have hv : qbD k [nf l, []] = nf l := by unfold qbD; rw [hc]; rfl
   rw [hc, hv, qb, qd rfl]
   exact qqj k (by omega) (nf l) (qcX l2) (qjB l2) (by omega) k 0 (by omega) (by omega)
  ·rw [show (zN l != 0) = true by simp [h1], qi, qd h1]
 have ev : qeq k l [] = WM l := by unfold qeq; rw [e]; rfl
 unfold qch
 rw [e, ev]; rfl
theorem qkl (k : Nat) (hk : 2100 ≤ k) (l : List Sp) : qaH k l = WM l := by
 unfold qaH; rw [qdX k hk]; rfl
theorem qtG (k : Nat) (a : List Sp) (h : In 0 17179869184 a) (hl : a.length ≤ 256) : ∀ (j i : Nat) (n : Int), i ≤ a.length → a.length - i < j → 0 ≤ n → n ≤ (i : Int) * 17179869184 →
  YJ k j n a (a.length : Int) (i : Int) = some (n + tot (a.drop i), 0) := by
 intro j
 induction j with
 | zero => intros; omega
 | succ j ih =>
  intro i n hi hj h0 h1
  rw [YJ]
  by_cases h' : i < a.length
  ·have hm := h.mem (a.getD i T21.dflt) (by simp [h'])
   rw [qA (by omega : (i : Int) < (a.length : Int)), qi, qd ⟨by omega, by omega⟩, qq a i T21.dflt h', qc]
   generalize a.getD i T21.dflt = s at hm
   rw [qo (i := s.snd - s.fst) (by omega) (by omega), qo (i := n + (s.snd - s.fst)) (by omega) (by omega), qF i (by omega), ih (i + 1) _ (by omega) (by omega) (by omega) (by omega), tot, Int.add_assoc]
  ·rw [qx (by omega : ¬ (i : Int) < (a.length : Int)), qg, zh a i (by omega)]
   simp [tot]
theorem qhz (k : Nat) (hk : 300 ≤ k) (l : List Sp) : qb5 k l = some (qaC l) := by
 unfold qb5 qaC
 rw [X6 k (by omega), qcw k (by omega), qb, qd rfl]
 by_cases h1 : zN l = 0
 ·obtain ⟨l1, l2⟩ := ZT.1 h1
  have hnl := qcd l2
  rw [show (zN l != 0) = false by simp [h1], qg, qm (fun h : zN l ≠ 0 => h h1), WR k l l2 (by omega) (by omega), VG k l l2 (by omega) (by omega), qb, qd rfl]
  have := qtG k (nf l) (qcX l2) (by omega) k 0 0 (by omega) (by omega) (by omega) (by omega)
  rw [Int.zero_add] at this
  exact this
 ·rw [show (zN l != 0) = true by simp [h1], qi, qd h1]
theorem qt3 (k : Nat) (hk : 300 ≤ k) (l : List Sp) : Yc k l = qaC l := by
 unfold Yc; rw [qhz k hk]; rfl
theorem qqy (k : Nat) (l : List Sp) (hl : l.length ≤ 256) : ∀ (j i : Nat), i ≤ l.length → l.length - i < j →
  qbr k j l (i : Int) = some (if (l.drop i).all (fun s => decide (0 ≤ s.1 ∧ s.1 ≤ s.2 ∧ s.2 ≤ 17179869184)) = true then 0 else 1) := by
 intro j
 induction j with
 | zero => intros; omega
 | succ j ih =>
  intro i hi hj
  rw [qbr]
  by_cases h : i < l.length
  ·rw [qA (by omega : (i : Int) < (l.length : Int)), qi, qd (by (repeat' apply And.intro) <;> (intros; omega)), qq l i T21.dflt h, qc, List.all_cons]
   generalize l.getD i T21.dflt = s
   by_cases hs : 0 ≤ s.1 ∧ s.1 ≤ s.2 ∧ s.2 ≤ 17179869184
   ·rw [qx (by omega : ¬ s.fst < 0), qx (by omega : ¬ s.fst > s.snd), qx (by omega : ¬ s.snd > 17179869184), Bool.or_self, Bool.or_self, qg, qF i (by omega), ih (i + 1) (by omega) (by omega), qA hs, ww]
   ·have : (decide (s.fst < 0) || decide (s.fst > s.snd) || decide (s.snd > 17179869184)) = true := by
     by_cases a : s.fst < 0
     ·rw [qA a]; rfl
     ·by_cases b : s.fst > s.snd
      ·rw [qA b, Bool.or_true]; rfl
      ·rw [qA (by omega : s.snd > 17179869184), Bool.or_true]
    rw [this, qi, qx hs, wD, qm (by decide)]
  ·rw [qx (by omega : ¬ (i : Int) < (l.length : Int)), qg, zh l i (by omega)]
   rfl
theorem qaM (k : Nat) (hk : 300 ≤ k) (l : List Sp) : qgD k l = some (zN l) := by
 unfold qgD zN
 by_cases h : l.length > 256
 ·rw [qA (by omega : (l.length : Int) > 256), qi, qd h]
 ·rw [qx (by omega : ¬ (l.length : Int) > 256), qg, qm h]
  exact qqy k l (by omega) k 0 (by omega) (by omega)
theorem qg3 (k : Nat) (hk : 300 ≤ k) (l : List Sp) : qdb k l = zN l := by
 unfold qdb; rw [qaM k hk]; rfl
theorem qs4 (k : Nat) (l : List Int) (hl : l.length ≤ 10000) (n : Int) : ∀ (j i : Nat), i ≤ l.length → l.length - i < j →
  qbp k j l n (i : Int) = some (l.take i ++ WQ (l.drop i) n) := by
 intro j
 induction j with
 | zero => intros; omega
 | succ j ih =>
  intro i hi hj
  have hz : I.dflt = (0 : Int) := rfl
  have tk : ([] ++ qdv ((i : Int).toNat - qt 0) (qaJ (qt 0) l) : List Int) = l.take i := by
   rw [qc, show qt 0 = 0 from rfl]; simp
  have dk : qdv ((l.length : Int).toNat - (i : Int).toNat) (qaJ (i : Int).toNat l) = l.drop i := by
   rw [qc, qc]; exact wI (by rw [List.length_drop]; omega)
  rw [qbp]
  rw [qd (show (decide ((i : Int) < (l.length : Int)) = true → (0 : Int) ≤ (i : Int)) ∧ (decide ((i : Int) < (l.length : Int)) = true → (i : Int) < (l.length : Int)) from ⟨fun _ => by omega, fun e => of_decide_eq_true e⟩)]
  have fin : (if ((0 : Int) ≤ (0 : Int)) ∧ ((0 : Int) ≤ (i : Int)) ∧ ((i : Int) ≤ (l.length : Int)) ∧ (((0 : Nat) + (qdv ((i : Int).toNat - qt (0 : Int)) (qaJ (qt (0 : Int)) l)).length) * (8 : Nat) ≤ (140737488355328 : Nat)) then
       if ((([] ++ qdv ((i : Int).toNat - qt (0 : Int)) (qaJ (qt (0 : Int)) l)).length + [n].length) * (8 : Nat) ≤ (140737488355328 : Nat)) then
        if ((0 : Int) ≤ (i : Int)) ∧ ((i : Int) ≤ (l.length : Int)) ∧ ((l.length : Int) ≤ (l.length : Int)) ∧ ((([] ++ qdv ((i : Int).toNat - qt (0 : Int)) (qaJ (qt (0 : Int)) l) ++ [n]).length + (qdv ((l.length : Int).toNat - (i : Int).toNat) (qaJ (i : Int).toNat l)).length) * (8 : Nat) ≤ (140737488355328 : Nat)) then
         some ([] ++ qdv ((i : Int).toNat - qt 0) (qaJ (qt 0) l) ++ [n] ++ qdv ((l.length : Int).toNat - (i : Int).toNat) (qaJ (i : Int).toNat l))
        else none
       else none
      else none) = some (l.take i ++ [n] ++ l.drop i) := by
   have e0 : qdv ((i : Int).toNat - qt 0) (qaJ (qt 0) l) = l.take i := by rw [← tk]; rfl
   rw [dk, e0, qH]
   rw [qd ⟨by omega, by omega, by omega, by rw [Qt]; omega⟩, qd (by rw [Qt, qk]; omega), qd ⟨by omega, by omega, by omega, by rw [qn, Qt, qk, List.length_drop]; omega⟩]
  rw [fin]
  by_cases h : i < l.length
  ·rw [qA (by omega : (i : Int) < (l.length : Int)), ww, ww, qd ⟨fun _ => by omega, fun _ => by omega⟩, qc, hz, qq l i 0 h, WQ]
   by_cases h1 : l.getD i 0 < n
   ·rw [qA h1, qi, qd h1, qF i (by omega), ih (i + 1) (by omega) (by omega), wU l i 0 h]
    simp
   ·rw [qx h1, qg, qm h1]
    by_cases h2 : l.getD i 0 = n
    ·rw [show (l.getD i 0 == n) = true from beq_iff_eq.2 h2, qi, qd h2, ← qq l i 0 h, qnA]
    ·rw [show (l.getD i 0 == n) = false from Vk h2, qg, qm h2]
     simp
  ·rw [qx (by omega : ¬ (i : Int) < (l.length : Int)), wD, wD, qg, qd ⟨fun e => (by cases e), fun e => (by cases e)⟩, qg, zh l i (by omega)]
   simp [WQ]
theorem qcr (k : Nat) (l : List Int) (hl : l.length ≤ 10000) (hk : l.length < k) (n : Int) : qcA k l n = some (WQ l n) := qs4 k l hl n k 0 (by omega) (by omega)
theorem qhu (k : Nat) (l : List Int) (hl : l.length ≤ 10000) (hk : l.length < k) (n : Int) : YW k l n = WQ l n := by
 unfold YW; rw [qcr k l hl hk]; rfl
theorem qry (k : Nat) (hk : 2000 ≤ k) (a : List Sp) (hl : a.length ≤ 256) : ∀ (j i : Nat) (acc : List Int), i ≤ a.length → a.length - i + 1 < j → acc.length ≤ 2 * i →
  qbi k j a [] acc (i : Int) = some (QZ acc (a.drop i)) := by
 intro j
 induction j with
 | zero => intros; omega
 | succ j ih =>
  intro i acc hi hj ha
  rw [qbi]
  by_cases h : i < a.length
  ·rw [qA (by omega : (i : Int) < (a.length : Int)), qi, qq a i T21.dflt h, qc, QZ]
   generalize a.getD i T21.dflt = s
   have h1 := qff acc s.1
   have h2 := qff (WQ acc s.1) s.2
   rw [qcr k acc (by omega) (by omega), qhu k acc (by omega) (by omega), qcr k (WQ acc s.fst) (by omega) (by omega), qhu k (WQ acc s.fst) (by omega) (by omega), qd ⟨by omega, by omega, rfl, by omega, by omega, rfl⟩, qF i (by omega)]
   exact ih (i + 1) _ (by omega) (by omega) (by omega)
  ·obtain ⟨j, rfl⟩ := qQ (by omega : 0 < j)
   rw [qx (by omega : ¬ (i : Int) < (a.length : Int)), qg, zh a i (by omega), qef]
   rfl
theorem qhZ (k : Nat) (hk : 2000 ≤ k) (a : List Sp) (hl : a.length ≤ 256) : qm6 k a [] = some (QZ [] a) := qry k hk a hl k 0 [] (by omega) (by omega) (by simp)
theorem qs2 (k : Nat) (hk : 2000 ≤ k) (a : List Sp) (hl : a.length ≤ 256) : qmR k a [] = QZ [] a := by
 unfold qmR; rw [qhZ k hk a hl]; rfl
theorem quH (k : Nat) (a : List Sp) (hl : a.length ≤ 10000) (x : Int) : ∀ (j i : Nat), i ≤ a.length → a.length - i < j →
  qbk k j a x (i : Int) = some (ZO (a.drop i) x) := by
 intro j
 induction j with
 | zero => intros; omega
 | succ j ih =>
  intro i hi hj
  rw [qbk]
  by_cases h : i < a.length
  ·rw [qA (by omega : (i : Int) < (a.length : Int)), qi, qd ⟨by omega, by omega, fun _ => by omega, fun _ => by omega⟩, qq a i T21.dflt h, qc]
   generalize a.getD i T21.dflt = s
   show _ = some ((decide (s.1 ≤ x) && decide (x < s.2)) || ZO (a.drop (i + 1)) x)
   cases hc : (decide (s.fst ≤ x) && decide (x < s.snd))
   ·rw [qg, zn, qF i (by omega)]
    exact ih (i + 1) (by omega) (by omega)
   ·rw [qi, zX]
  ·rw [qx (by omega : ¬ (i : Int) < (a.length : Int)), qg, zh a i (by omega)]
   rfl
theorem Vr (k : Nat) (a : List Sp) (hl : a.length ≤ 10000) (hk : a.length < k) (x : Int) : qjG k a x = some (ZO a x) := quH k a hl x k 0 (by omega) (by omega)
theorem Y3 (k : Nat) (a : List Sp) (hl : a.length ≤ 10000) (hk : a.length < k) (x : Int) : qac k a x = ZO a x := by
 unfold qac; rw [Vr k a hl hk]; rfl
theorem qnf (k : Nat) (hk : 300 ≤ k) (a : List Sp) (hl : a.length ≤ 256) (c : List Int) (hc : c.length ≤ 10000) : ∀ (j i : Nat), i ≤ c.length → c.length - i < j →
  Qw k j a [] 0 c (i : Int) [] = some (qip a (c.drop i)) ∧
  ∀ (pre : List Sp) (l : Sp), pre.length ≤ i → Qw k j a [] 0 c (i : Int) (pre ++ [l]) = some (pre ++ Yp a l (c.drop i)) := by
 intro j
 induction j with
 | zero => intros; omega
 | succ j ih =>
  intro i hi hj
  have hz : I.dflt = (0 : Int) := rfl
  by_cases h : i + 1 < c.length
  ·obtain ⟨ih1, ih2⟩ := ih (i + 1) (by omega) (by omega)
   have hd1 := qq c i 0 (by omega)
   have hd2 := qq c (i + 1) 0 h
   rw [hd2] at hd1 ih1 ih2
   generalize hx : c.getD i 0 = x at *
   generalize hy : c.getD (i + 1) 0 = y at *
   have hskip : ∀ b : Bool, ((0 : Int) == 0 && !b && !false || (0 : Int) == 1 && !(b && false) || (0 : Int) == 2 && (!b || false)) = !b := fun b => by cases b <;> rfl
   have hno : ZO ([] : List Sp) x = false := rfl
   refine ⟨?_, fun pre l hp => ?_⟩
   ·rw [Qw, qF i (by omega), qA (by omega), qi, qc, qc, hz, hx, hy, Vr k a (by omega) (by omega), Y3 k a (by omega) (by omega), Vr k [] (by simp) (by simp; omega), Y3 k [] (by simp) (by simp; omega), hno, qd ⟨by omega, by omega, rfl, by omega, by omega, rfl⟩, hskip, hd1, qip]
    cases hb : ZO a x
    ·rw [qd1, qi, qm (by decide)]; exact ih1
    ·rw [vB, qg, qd rfl]
     have hm : qa .i64 ((([] : List Sp).length : Int) - 1) = -1 := by rw [List.length_nil, qo (by omega) (by omega)]; rfl
     rw [hm, qd (show (decide ((-1 : Int) ≥ 0) = true → (0 : Int) ≤ -1) ∧ (decide ((-1 : Int) ≥ 0) = true → (-1 : Int) < (([] : List Sp).length : Int)) ∧ (decide ((-1 : Int) ≥ 0) = true → (0 : Int) ≤ (i : Int)) ∧ (decide ((-1 : Int) ≥ 0) = true → (i : Int) < (c.length : Int)) from ⟨fun e => (by cases e), fun e => (by cases e), fun e => (by cases e), fun e => (by cases e)⟩), show decide ((-1 : Int) ≥ 0) = false from rfl, wD, qg]
     rw [qd ⟨by omega, by omega, by omega, by omega, by simp⟩, qH]
     have := ih2 [] (x, y) (by simp)
     simpa using this
   ·have hlen : (pre ++ [l]).length = pre.length + 1 := by simp
    have hidx : (0 : Int) ≤ qa .i64 (((pre ++ [l]).length : Int) - 1) ∧ qa .i64 (((pre ++ [l]).length : Int) - 1) < ((pre ++ [l]).length : Int) := by
     rw [hlen, qo (by omega) (by omega)]; exact ⟨by omega, by omega⟩
    rw [Qw, qF i (by omega), qA (by omega), qi, qc, qc, hz, hx, hy, Vr k a (by omega) (by omega), Y3 k a (by omega) (by omega), Vr k [] (by simp) (by simp; omega), Y3 k [] (by simp) (by simp; omega), hno, qd ⟨by omega, by omega, rfl, by omega, by omega, rfl⟩, hskip, hd1, Yp]
    cases hb : ZO a x
    ·rw [qd1, qi, qm (by decide)]; exact ih2 pre l (by omega)
    ·rw [vB, qg, qd rfl, qA hidx.1, ww, qpQ pre l (by omega), qqe, qpw]
     rw [qd ⟨fun _ => hidx.1, fun _ => hidx.2, fun _ => by omega, fun _ => by omega⟩]
     by_cases hq : l.2 = x
     ·rw [show (l.snd == x) = true by simp [hq], qi, qd ⟨by omega, by omega, hidx.1, hidx.2⟩, qd hq]
      exact ih2 pre (l.1, y) (by omega)
     ·rw [show (l.snd == x) = false from Vk hq, qg, qd ⟨by omega, by omega, by omega, by omega, by rw [hlen, qk]; omega⟩, qm hq]
      rw [ih2 (pre ++ [l]) (x, y) (by simp; omega)]
      simp
  ·have hstop : decide (qa .i64 ((i : Int) + 1) < (c.length : Int)) = false := by rw [qF i (by omega)]; exact qx (by omega)
   have hd : c.drop i = [] ∨ ∃ x, c.drop i = [x] := by
    by_cases h2 : i < c.length
    ·right
     rw [qq c i 0 h2, zh c (i + 1) (by omega)]
     exact ⟨_, rfl⟩
    ·left; exact zh c i (by omega)
   refine ⟨?_, fun pre l hp => ?_⟩
   ·rw [Qw, hstop, qg]
    rcases hd with e | ⟨x, e⟩ <;> rw [e] <;> rfl
   ·rw [Qw, hstop, qg]
    rcases hd with e | ⟨x, e⟩ <;> rw [e] <;> rfl
theorem X9 (k : Nat) (hk : 2000 ≤ k) (l : List Sp) : qcT k l = some (WM l) := by
 have e : qjx k l [] 0 = some (WM l) := by
  unfold qjx WM
  rw [qaM k (by omega), qg3 k (by omega), qaM k (by omega), qg3 k (by omega), qb, qd rfl]
  by_cases h1 : zN l = 0
  ·obtain ⟨l1, l2⟩ := ZT.1 h1
   have hnl := qcd l2
   have hcl := qp0 l []
   rw [show (zN l != 0) = false by simp [h1], qg, qm (fun h : zN l ≠ 0 => h h1), qb, qd rfl, show (zN [] != 0) = false from rfl, qg]
   have ec : qi5 k l [] 0 = some (nf l) := by
    unfold qi5
    rw [qhZ k hk l l1, qs2 k hk l l1, qb, qd rfl]
    have := (qnf k (by omega) l l1 (QZ [] l) (by simp at hcl; omega) k 0 (by omega) (by simp at hcl; omega)).1
    rw [wm, qQL l2] at this
    exact this
   have ev : qjv k l [] 0 = nf l := by unfold qjv; rw [ec]; rfl
   rw [ec, ev, qb, qd rfl, qx (by omega), qg]
  ·rw [show (zN l != 0) = true by simp [h1], qi, qd h1]
 have ev : qju k l [] 0 = WM l := by unfold qju; rw [e]; rfl
 unfold qcT
 rw [e, ev]; rfl
theorem qbJ (k : Nat) (hk : 2000 ≤ k) (l : List Sp) : YX k l = WM l := by
 unfold YX; rw [X9 k hk]; rfl
theorem qgX (k : Nat) (a : List Sp) (e : Int) (h : In 0 17179869184 a) (hl : a.length ≤ 256) : ∀ (j i : Nat) (n : Int), i ≤ a.length → a.length - i < j → 0 ≤ n → n ≤ (i : Int) * 17179869184 →
  qbs k j a e n (i : Int) = some (n + tot (a.drop i), e) := by
 intro j
 induction j with
 | zero => intros; omega
 | succ j ih =>
  intro i n hi hj h0 h1
  rw [qbs]
  by_cases h' : i < a.length
  ·have hm := h.mem (a.getD i T21.dflt) (by simp [h'])
   rw [qA (by omega : (i : Int) < (a.length : Int)), qi, qd ⟨by omega, by omega, by omega, by omega⟩, qq a i T21.dflt h', qc]
   generalize a.getD i T21.dflt = s at hm
   rw [qo (i := n + s.snd) (by omega) (by omega), qo (i := n + s.snd - s.fst) (by omega) (by omega), qF i (by omega), ih (i + 1) _ (by omega) (by omega) (by omega) (by omega), tot]
   congr 2; omega
  ·rw [qx (by omega : ¬ (i : Int) < (a.length : Int)), qg, zh a i (by omega)]
   simp [tot]
theorem qgH (k : Nat) (hk : 2000 ≤ k) (l : List Sp) : qj4 k l = some (qaC l) := by
 unfold qj4 qaC
 rw [X9 k hk, qbJ k hk, qb, qd rfl]
 unfold WM
 by_cases h1 : zN l = 0
 ·obtain ⟨l1, l2⟩ := ZT.1 h1
  have hnl := qcd l2
  rw [qm (fun h : zN l ≠ 0 => h h1), qm (fun h : zN l ≠ 0 => h h1)]
  have := qgX k (nf l) 0 (qcX l2) (by omega) k 0 0 (by omega) (by omega) (by omega) (by omega)
  rw [Int.zero_add] at this
  exact this
 ·rw [qd h1, qd h1]
  have := qgX k [] (zN l) trivial (by simp) k 0 0 (by simp) (by simp; omega) (by omega) (by omega)
  exact this
theorem qqn (k : Nat) (hk : 2000 ≤ k) (l : List Sp) : qdu k l = qaC l := by
 unfold qdu; rw [qgH k hk]; rfl
end Go.AM
namespace Go.AM
open Go
abbrev Ch := Int × Int × Bool × List Rn   -- Left, Width, Turn, Runs
abbrev Ro := Int × Int × Ch               -- ID, Parent, Cut
abbrev Pt := Int × Int × Int              -- Roll, Across, Along
def look (l : List Ro) (id : Int) : Option Ro := l.find? fun r => r.1 == id
def Vz (m : List Rn) : List Sp × Int := if chk m ≠ 0 then ([], chk m) else (nf (m.map vZ), 0)
def vh (m : List Rn) : Bool := decide (chk m = 0) && (tot (nf (m.map vZ)) == qv m)
def wn (l : List Ro) (W L id : Int) : Int × Int := if id = 0 then (W, L) else match look l id with
 | some r => (r.2.2.2.1, qv r.2.2.2.2.2)
 | none => (0, 0)
def qlG (c : Ch) (w n : Int) : Int :=
 if c.1 < 0 ∨ c.2.1 < 1 ∨ c.1 > w ∨ c.2.1 > w - c.1 then 20 else if chk c.2.2.2 ≠ 0 then chk c.2.2.2 else if c.2.2.2 = [] then 10
 else if vh c.2.2.2 = false then 12 else if fitsIn n c.2.2.2 then 0 else 21
def vG (p : List Ro) (W L : Int) (r : Ro) : Int :=
 if r.1 < 1 ∨ r.1 > 1000000 then 1 else if r.2.1 ≠ 0 ∧ look p r.2.1 = none then 7 else qlG r.2.2 (wn p W L r.2.1).1 (wn p W L r.2.1).2
def VJ (a b : List Rn) : Bool := a.any fun x => b.any fun y => decide (lo x ≤ hi y) && decide (lo y ≤ hi x)
def VP (a b : Ch) : Bool := (decide (a.1 < b.1 + b.2.1) && decide (b.1 < a.1 + a.2.1)) && VJ a.2.2.2 b.2.2.2
def QE (p : List Ro) (r : Ro) : Bool := p.any fun b => (r.2.1 == b.2.1) && VP r.2.2 b.2.2
def w9 (W L : Int) : List Ro → List Ro → Int
 | _, [] => 0
 | p, r :: t => if vG p W L r ≠ 0 then vG p W L r else w9 W L (p ++ [r]) t
def vC : List Ro → List Ro → Bool
 | _, [] => false
 | p, r :: t => (look p r.1).isSome || vC (p ++ [r]) t
def ze : List Ro → List Ro → Bool
 | _, [] => false
 | p, r :: t => QE p r || ze (p ++ [r]) t
def w7 (l : List Ro) (W L : Int) : Int :=
 if W < 1 ∨ W > 12000 ∨ L < 0 ∨ L > 17179869184 then 1 else if l.length > 512 then 8 else if w9 W L [] l ≠ 0 then w9 W L [] l
 else if vC [] l = true then 6 else if ze [] l = true then 12 else 0
theorem QU (a b : List Ro) (id : Int) : look (a ++ b) id = (look a id).or (look b id) := by
 unfold look; exact List.find?_append
theorem zt {l : List Ro} {id : Int} {r : Ro} (h : look l id = some r) : r ∈ l ∧ r.1 = id := by
 unfold look at h
 exact ⟨List.mem_of_find?_eq_some h, by have := List.find?_some h; simpa using this⟩
structure CutOk (c : Ch) (w n : Int) : Prop where
 left : 0 ≤ c.1
 width : 1 ≤ c.2.1
 right : c.1 + c.2.1 ≤ w
 chk : Chk c.2.2.2
 ne : c.2.2.2 ≠ []
 single : vh c.2.2.2 = true
 fits : fitsIn n c.2.2.2
theorem qpm {c : Ch} {w n : Int} : qlG c w n = 0 ↔ CutOk c w n := by
 unfold qlG
 constructor
 ·intro h
  by_cases h1 : c.1 < 0 ∨ c.2.1 < 1 ∨ c.1 > w ∨ c.2.1 > w - c.1
  ·rw [qd h1] at h; omega
  ·rw [qm h1] at h
   by_cases h2 : chk c.2.2.2 ≠ 0
   ·rw [qd h2] at h; exact absurd h h2
   ·rw [qm h2] at h
    by_cases h3 : c.2.2.2 = []
    ·rw [qd h3] at h; omega
    ·rw [qm h3] at h
     by_cases h4 : vh c.2.2.2 = false
     ·rw [qd h4] at h; omega
     ·rw [qm h4] at h
      by_cases h5 : fitsIn n c.2.2.2
      ·exact ⟨by omega, by omega, by omega, wW.1 (Classical.not_not.1 h2), h3, by simpa using h4, h5⟩
      ·rw [qm h5] at h; omega
 ·rintro ⟨h1, h2, h3, h4, h5, h6, h7⟩
  rw [qm (by omega), qm (fun h => h (wW.2 h4)), qm h5, qm (by simp [h6]), qd h7]
structure FitOk (p : List Ro) (W L : Int) (r : Ro) : Prop where
 id0 : 1 ≤ r.1
 id1 : r.1 ≤ 1000000
 parent : r.2.1 = 0 ∨ ∃ q, look p r.2.1 = some q
 cut : CutOk r.2.2 (wn p W L r.2.1).1 (wn p W L r.2.1).2
theorem qgf {p : List Ro} {W L : Int} {r : Ro} : vG p W L r = 0 ↔ FitOk p W L r := by
 unfold vG
 constructor
 ·intro h
  by_cases h1 : r.1 < 1 ∨ r.1 > 1000000
  ·rw [qd h1] at h; omega
  ·rw [qm h1] at h
   by_cases h2 : r.2.1 ≠ 0 ∧ look p r.2.1 = none
   ·rw [qd h2] at h; omega
   ·rw [qm h2] at h
    refine ⟨by omega, by omega, ?_, qpm.1 h⟩
    by_cases h3 : r.2.1 = 0
    ·exact .inl h3
    ·right
     cases h4 : look p r.2.1 with
     | none => exact absurd ⟨h3, h4⟩ h2
     | some q => exact ⟨q, rfl⟩
 ·rintro ⟨h1, h2, h3, h4⟩
  rw [qm (by omega), qm (fun h => by
   rcases h3 with h3 | ⟨q, h3⟩
   ·exact h.1 h3
   ·rw [h3] at h; cases h.2), qpm.2 h4]
inductive Okp (W L : Int) : List Ro → Prop
 | nil : Okp W L []
 | snoc (p : List Ro) (r : Ro) (h : Okp W L p) (f : FitOk p W L r) (n : look p r.1 = none) (c : QE p r = false) : Okp W L (p ++ [r])
structure Reg (l : List Ro) (W L : Int) : Prop where
 w : 1 ≤ W ∧ W ≤ 12000
 len : 0 ≤ L ∧ L ≤ 17179869184
 num : l.length ≤ 512
 ok : Okp W L l
theorem qzC {W L : Int} : ∀ (t p : List Ro), Okp W L p → w9 W L p t = 0 → vC p t = false → ze p t = false → Okp W L (p ++ t)
 | [], p, h, _, _, _ => by simpa using h
 | r :: t, p, h, he, hd, hc => by
  rw [w9] at he
  rw [vC, WN] at hd
  rw [ze, WN] at hc
  have hf : vG p W L r = 0 := by
   by_cases q : vG p W L r = 0
   ·exact q
   ·rw [qd q] at he; exact absurd he q
  rw [qm (fun h => h hf)] at he
  have := qzC t (p ++ [r]) (.snoc p r h (qgf.1 hf) (by cases e : look p r.1 <;> simp_all) hc.1) he hd.2 hc.2
  simpa using this
theorem qP8 {W L : Int} {l : List Ro} (h : Okp W L l) : ∀ (t p : List Ro), l = p ++ t → w9 W L p t = 0 ∧ vC p t = false ∧ ze p t = false := by
 induction h with
 | nil =>
  intro t p e
  have : t = [] ∧ p = [] := by
   have := e.symm
   simp at this
   exact ⟨this.2, this.1⟩
  obtain ⟨rfl, rfl⟩ := this
  exact ⟨rfl, rfl, rfl⟩
 | snoc q r h f n c ih =>
  intro t p e
  rcases List.eq_nil_or_concat t with rfl | ⟨t', r', rfl⟩
  ·exact ⟨rfl, rfl, rfl⟩
  ·rw [List.concat_eq_append] at *
   rw [← qw] at e
   obtain ⟨e1, e2⟩ := List.append_inj' e rfl
   simp only [List.cons.injEq, and_true] at e2
   subst e2
   obtain ⟨i1, i2, i3⟩ := ih t' p e1
   have key : ∀ (t' p : List Ro), w9 W L p t' = 0 → vC p t' = false → ze p t' = false → vG (p ++ t') W L r = 0 → look (p ++ t') r.1 = none → QE (p ++ t') r = false → w9 W L p (t' ++ [r]) = 0 ∧ vC p (t' ++ [r]) = false ∧ ze p (t' ++ [r]) = false := fun t' => by
    induction t' with
    | nil =>
     intro p _ _ _ a b c
     rw [qY] at a b c
     rw [qH, w9, vC, ze, qm (fun h => h a), b, c]
     exact ⟨rfl, rfl, rfl⟩
    | cons u v ih =>
     intro p a1 a2 a3 a4 a5 a6
     rw [w9] at a1
     rw [vC, WN] at a2
     rw [ze, WN] at a3
     have hf : vG p W L u = 0 := by
      by_cases q : vG p W L u = 0
      ·exact q
      ·rw [qd q] at a1; exact absurd a1 q
     rw [qm (fun h => h hf)] at a1
     have e3 : p ++ u :: v = p ++ [u] ++ v := by simp
     rw [e3] at a4 a5 a6
     obtain ⟨b1, b2, b3⟩ := ih (p ++ [u]) a1 a2.2 a3.2 a4 a5 a6
     rw [qpk, w9, vC, ze, qm (fun h => h hf), a2.1, a3.1]
     exact ⟨b1, b2, b3⟩
   rw [e1] at f n c
   exact key t' p i1 i2 i3 (qgf.2 f) n c
theorem qdD {l : List Ro} {W L : Int} : w7 l W L = 0 ↔ Reg l W L := by
 unfold w7
 constructor
 ·intro h
  by_cases h1 : W < 1 ∨ W > 12000 ∨ L < 0 ∨ L > 17179869184
  ·rw [qd h1] at h; omega
  ·rw [qm h1] at h
   by_cases h2 : l.length > 512
   ·rw [qd h2] at h; omega
   ·rw [qm h2] at h
    by_cases h3 : w9 W L [] l ≠ 0
    ·rw [qd h3] at h; exact absurd h h3
    ·rw [qm h3] at h
     by_cases h4 : vC [] l = true
     ·rw [qd h4] at h; omega
     ·rw [qm h4] at h
      by_cases h5 : ze [] l = true
      ·rw [qd h5] at h; omega
      ·have := qzC l [] (W := W) (L := L) .nil (Classical.not_not.1 h3) (by simpa using h4) (by simpa using h5)
       exact ⟨by omega, by omega, by omega, by simpa using this⟩
 ·rintro ⟨h1, h2, h3, h4⟩
  obtain ⟨a, b, c⟩ := qP8 h4 l [] rfl
  rw [qm (by omega), qm (by omega), qm (fun h => h a), qm (by rw [b]; decide), qm (by rw [c]; decide)]
theorem qmO {m : List Rn} (h : goods m) : In 0 17179869184 (m.map vZ) := In.of fun s hs => by
 obtain ⟨r, hr, rfl⟩ := List.mem_map.1 hs
 obtain ⟨a, b, c, d⟩ := (h.mem r hr).lohi
 exact ⟨a, by show lo r ≤ hi r + 1; omega, by show hi r + 1 ≤ _; omega⟩
theorem qps {m : List Rn} (h : Chk m) : WM (m.map vZ) = (nf (m.map vZ), 0) := by
 unfold WM
 rw [qm (fun e => e (ZT.2 ⟨by rw [List.length_map]; exact h.len, qmO h.goods⟩))]
theorem qpB {m : List Rn} (h : Chk m) : qaC (nf (m.map vZ)) = (tot (nf (m.map vZ)), 0) := by
 have hi := qmO h.goods
 have hl := qcd hi
 have hm := h.len
 rw [List.length_map] at hl
 unfold qaC
 rw [qm (fun e => e (ZT.2 ⟨by omega, qcX hi⟩)), qot (qcX hi) (qjB hi)]
theorem qci (k : Nat) (r : Rn) (h : good r) : qge k r = some (vZ r) := by
 have h' := h
 obtain ⟨g1, g2, g3, g4, _⟩ := h'
 obtain ⟨l1, l2, l3, l4⟩ := h.lohi
 unfold qge
 rw [qo (i := r.snd.fst - 1) (by omega) (by omega), QQ k r _ (by omega) (by omega) (by omega) (by omega), W4 k r _ (by omega) (by omega) (by omega) (by omega), qlx h, qtH h, qo (by omega) (by omega)]
 rfl
theorem qhl (k : Nat) (r : Rn) (h : good r) : wp k r = vZ r := by
 unfold wp; rw [qci k r h]; rfl
theorem quA (k : Nat) (hk : 2100 ≤ k) (m : List Rn) (hc : Chk m) : ∀ (j i : Nat), i ≤ m.length → m.length - i + 1 < j →
  qbo k j m (m.length : Int) (i : Int) ((m.take i).map vZ) = some (nf (m.map vZ), 0) := by
 have hml := hc.len
 intro j
 induction j with
 | zero => intros; omega
 | succ j ih =>
  intro i hi hj
  rw [qbo]
  by_cases h : i < m.length
  ·have hgr : good (m.getD i T3.dflt) := hc.goods.mem _ (by simp [h])
   have ht := wU m i T3.dflt h
   have := ih (i + 1) (by omega) (by omega)
   rw [ht, List.map_append] at this
   rw [qA (by omega : (i : Int) < (m.length : Int)), qi, qd ⟨by omega, by omega⟩, qc, qci k _ hgr, qhl k _ hgr, qd ⟨rfl, by rw [List.length_map, Qt, qk]; omega⟩, qF i (by omega)]
   exact this
  ·obtain ⟨j, rfl⟩ := qQ (by omega : 0 < j)
   rw [qx (by omega : ¬ (i : Int) < (m.length : Int)), qg, wI (by omega), qfn, qdX k hk, qkl k hk, qps hc]
   rfl
theorem qdF (k : Nat) (hk : 2100 ≤ k) (m : List Rn) : qfx k m = some (Vz m) := by
 unfold qfx Vz
 rw [QN k (by omega), W5 k (by omega), qb, qd rfl]
 by_cases h1 : chk m = 0
 ·have hc := wW.1 h1
  have hml := hc.len
  rw [show (chk m != 0) = false by simp [h1], qg, qm (fun h : chk m ≠ 0 => h h1)]
  exact quA k hk m hc k 0 (by omega) (by omega)
 ·rw [show (chk m != 0) = true by simp [h1], qi, qd h1]
theorem qkc (k : Nat) (hk : 2100 ≤ k) (m : List Rn) : zV k m = Vz m := by
 unfold zV; rw [qdF k hk]; rfl
theorem qhp (k : Nat) (hk : 2100 ≤ k) (m : List Rn) : qcD k m = some (vh m) := by
 unfold qcD vh
 rw [qdF k hk, qkc k hk, qb, qd rfl]
 unfold Vz
 by_cases h1 : chk m = 0
 ·have hc := wW.1 h1
  have hml := hc.len
  rw [qm (fun h : chk m ≠ 0 => h h1), qA h1, ww]
  show (bif (0 : Int) != 0 then _ else _) = _
  rw [show ((0 : Int) != 0) = false from rfl, qg]
  show (if (qb5 k (nf (m.map vZ))).isSome = true then _ else none) = _
  rw [qhz k (by omega)]
  show (bif ((Yc k (nf (m.map vZ))).snd == 0) then _ else _) = _
  rw [qt3 k (by omega), qpB hc, XY k m hc.goods (by omega) (by omega), qbX k m hc.goods (by omega) (by omega)]
  rfl
 ·rw [qd h1, qx h1, wD]
  show (bif chk m != 0 then some false else _) = _
  rw [show (chk m != 0) = true by simp [h1], qi]
theorem qtC (k : Nat) (hk : 2100 ≤ k) (m : List Rn) : qgl k m = vh m := by
 unfold qgl; rw [qhp k hk]; rfl
theorem qqI (k : Nat) (hk : 2100 ≤ k) (m : List Rn) (hc : Chk m) : ∀ (j i : Nat), i ≤ m.length → m.length - i + 1 < j →
  qbl k j m (i : Int) ((m.take i).map vZ) = some (nf (m.map vZ), 0) := by
 have hml := hc.len
 intro j
 induction j with
 | zero => intros; omega
 | succ j ih =>
  intro i hi hj
  rw [qbl]
  by_cases h : i < m.length
  ·have hgr : good (m.getD i T3.dflt) := hc.goods.mem _ (by simp [h])
   have ht := wU m i T3.dflt h
   have := ih (i + 1) (by omega) (by omega)
   rw [ht, List.map_append] at this
   rw [qA (by omega : (i : Int) < (m.length : Int)), qi, qc]
   generalize m.getD i T3.dflt = r at hgr this
   have h' := hgr
   obtain ⟨g1, g2, g3, g4, _⟩ := h'
   obtain ⟨l1, l2, l3, l4⟩ := hgr.lohi
   rw [qo (i := r.snd.fst - 1) (by omega) (by omega), zu k r _ (by omega) (by omega) (by omega) (by omega), zG k r _ (by omega) (by omega) (by omega) (by omega), qlx hgr, qtH hgr, qo (i := Go.AM.hi r + 1) (by omega) (by omega), qd ⟨by omega, by omega, by omega, by omega, by omega, by omega, rfl⟩, qd (by rw [List.length_map, Qt, qk]; omega), qF i (by omega)]
   exact this
  ·obtain ⟨j, rfl⟩ := qQ (by omega : 0 < j)
   rw [qx (by omega : ¬ (i : Int) < (m.length : Int)), qg, wI (by omega), qfP, X9 k (by omega), qbJ k (by omega), qps hc]
   rfl
theorem qaN (k : Nat) (hk : 2100 ≤ k) (m : List Rn) : qdf k m = some (Vz m) := by
 unfold qdf Vz
 rw [vM k (by omega), Qu k (by omega), qb, qd rfl]
 by_cases h1 : chk m = 0
 ·have hc := wW.1 h1
  have hml := hc.len
  rw [show (chk m != 0) = false by simp [h1], qg, qm (fun h : chk m ≠ 0 => h h1)]
  exact qqI k hk m hc k 0 (by omega) (by omega)
 ·rw [show (chk m != 0) = true by simp [h1], qi, qd h1]
theorem qg6 (k : Nat) (hk : 2100 ≤ k) (m : List Rn) : XE k m = Vz m := by
 unfold XE; rw [qaN k hk]; rfl
theorem qen (k : Nat) (hk : 2100 ≤ k) (m : List Rn) : qdj k m = some (vh m) := by
 unfold qdj vh
 rw [vM k (by omega), Qu k (by omega), qb, qd rfl]
 by_cases h1 : chk m = 0
 ·have hc := wW.1 h1
  have hml := hc.len
  rw [show (chk m != 0) = false by simp [h1], qg, qA h1, ww, qaN k hk, qg6 k hk]
  unfold Vz
  rw [qm (fun h : chk m ≠ 0 => h h1), qgH k (by omega), qqn k (by omega), qpB hc, YN k m hc.goods (by omega) (by omega), qeH k m hc.goods (by omega) (by omega)]
  rfl
 ·rw [show (chk m != 0) = true by simp [h1], qi, qx h1, wD]
theorem qpa (k : Nat) (hk : 2100 ≤ k) (m : List Rn) : qf8 k m = vh m := by
 unfold qf8; rw [qen k hk]; rfl
end Go.AM
namespace Go.AM
open Go Go.Proofs
noncomputable section
def qwt (r : Int × Int) : AV := .tup [ri r.1, ri r.2]
abbrev qHf (a : T3.T) (r : Int × Int) : Prop := CC Tryz.prog 121 [.agg (qy (qr T3 a))] [] (qwt r) (nb r)
def qdh (k : Nat) (a : T3.T) : Option (Int × Int) :=
 bif a.2.2 then
 some (qa .i64 (qa .i64 (a.1 - a.2.1) + 1), a.1)
 else
 some (a.1, qa .i64 (qa .i64 (a.1 + a.2.1) - 1))
def qaZ := fun k a => (qdh k a).getD (0, 0)
def qrN (k : Nat) : Ke := (121, mo 1, fun
 | [.agg b], [] => (qW [] T3 b).bind fun a => some (.one (qwt (qaZ k a), []))
 | _, _ => none)
theorem qRe (k a r) (h : qdh k a = some r): qHf a r := qN Tryz.f121 (go (qD []) [] [] [.autoB [2, 3] true []] (qB h fun h => gL h))
theorem qud {k a} (h : (qdh k a).isSome): qHf a (qaZ k a) := qJ h (qRe k a)
abbrev qHo (a : T4.T) (b : T4.T) (r : Bool) : Prop := CC Tryz.prog 73 [.agg (qy (qr T4 a)), .agg (qy (qr T4 b))] [] (rb r) (nb r)
def qFU := fun y0 y1 y2 y3 => (⟨qI 65 [(3, .ptr 1000000 0 0), (32, ro T3 y0), (33, ri y1), (34, ri y2)], [(1000000, 0, .var 45 (qy (qr T4 y3)))]⟩ : St)
def qG4 := fun y0 y1 y2 y3 y4 y5 y6 y7 y8 => (⟨qI 65 [(3, .ptr 1000000 0 0), (7, ri y0), (8, ri y1), (32, ro T3 y2), (33, ri y3), (34, ri y4), (44, ro T3 y5), (45, ri y6), (46, ri y7)], [(1000000, 0, .var 45 (qy (qr T4 y8)))]⟩ : St)
mutual
def Xl (k : Nat) : Nat → List T3.T → Int → Int → T4.T → Option Bool
 | 0, _, _, _, _ => none
 | j + 1, y0, y1, y2, y3 =>
 bif y2 < y1 then
 if (0 ≤ y2) ∧ (y2 < y0.length) then
 if ((qdh k (y0.getD y2.toNat T3.dflt)).isSome) then
 YO k j ((qaZ k (y0.getD y2.toNat T3.dflt)).1) ((qaZ k (y0.getD y2.toNat T3.dflt)).2) y0 y1 y2 y3.2.2.2 (↑ (qe y3.2.2.2) : Int) 0 y3
 else none
 else none
 else
 some false
def YO (k : Nat) : Nat → Int → Int → List T3.T → Int → Int → List T3.T → Int → Int → T4.T → Option Bool
 | 0, _, _, _, _, _, _, _, _, _ => none
 | j + 1, y0, y1, y2, y3, y4, y5, y6, y7, y8 =>
 bif y7 < y6 then
 if (0 ≤ y7) ∧ (y7 < y5.length) then
 if ((qdh k (y5.getD y7.toNat T3.dflt)).isSome) then
 bif (decide (y0 ≤ (qaZ k (y5.getD y7.toNat T3.dflt)).2) && decide ((qaZ k (y5.getD y7.toNat T3.dflt)).1 ≤ y1)) then
 some true
 else
 YO k j y0 y1 y2 y3 y4 y5 y6 (qa .i64 (y7 + 1)) y8
 else none
 else none
 else
 Xl k j y2 y3 (qa .i64 (y4 + 1)) y8
end
def qi8 (k : Nat) (a : T4.T) (b : T4.T) : Option Bool :=
 bif (decide (qa .i64 (a.1 + a.2.1) ≤ b.1) || decide (qa .i64 (b.1 + b.2.1) ≤ a.1)) then
 some false
 else
 Xl k k a.2.2.2 (↑ (qe a.2.2.2) : Int) 0 b
def qnc := fun k a b => (qi8 k a b).getD false
def qOU (k : Nat) : Ke := (73, mo 2, fun
 | [.agg d, .agg e], [] => (qW [] T4 d).bind fun a => (qW [] T4 e).bind fun b => some (.one (rb (qnc k a b), []))
 | _, _ => none)
def qDh : List (Nat × List Cmd) := [(4, [.autoB [3, 32, 33, 34] false []]), (8, [.autoB [3, 7, 8, 32, 33, 34, 44, 45, 46] false []])]
abbrev qIJ := EP Tryz.f73 0 rb nb
theorem qzs (k) : ∀ j, (∀ {y0 y1 y2 y3}, qIJ 4 (qFU y0 y1 y2 y3) (Xl k j y0 y1 y2 y3)) ∧ (∀ {y0 y1 y2 y3 y4 y5 y6 y7 y8}, qIJ 8 (qG4 y0 y1 y2 y3 y4 y5 y6 y7 y8) (YO k j y0 y1 y2 y3 y4 y5 y6 y7 y8))
 | 0 => by and_intros <;> intros <;> exact e0
 | j + 1 => by
  have ih := @qzs k j
  have g := @go (qD [qrN k]) [] qDh [.autoB [4] true []]
  refine ⟨?_, ?_⟩
  ·intro y0 y1 y2 y3 r h
   rw [Xl] at h
   exact g (gS h (fun h => qS h fun h => qu h qud fun h => gD h 8 ih.2) fun h => gL h)
  ·intro y0 y1 y2 y3 y4 y5 y6 y7 y8 r h
   rw [YO] at h
   exact g (gS h (fun h => qS h fun h => qu h qud fun h => qB h fun h => gD h 8 ih.2) fun h => gD h 4 ih.1)
theorem qOV (k a b r) (h : qi8 k a b = some r): qHo a b r := qN Tryz.f73 (go (qD [qrN k]) [] qDh [.autoB [4] true []] (qB h fun h => gD h 4 (qzs k k).1))
theorem qNR {k a b} (h : (qi8 k a b).isSome): qHo a b (qnc k a b) := qJ h (qOV k a b)
def qsY (r : Int × Int) : AV := .tup [ri r.1, ri r.2]
abbrev qCf (a : T3.T) (r : Int × Int) : Prop := CC Tryz.prog 129 [.agg (qy (qr T3 a))] [] (qsY r) (nb r)
def qav (k : Nat) (a : T3.T) : Option (Int × Int) :=
 bif a.2.2 then
 some (qa .i64 (qa .i64 (a.1 - a.2.1) + 1), a.1)
 else
 some (a.1, qa .i64 (qa .i64 (a.1 + a.2.1) - 1))
def X4 := fun k a => (qav k a).getD (0, 0)
def qow (k : Nat) : Ke := (129, mo 1, fun
 | [.agg b], [] => (qW [] T3 b).bind fun a => some (.one (qsY (X4 k a), []))
 | _, _ => none)
theorem qJF (k a r) (h : qav k a = some r): qCf a r := qN Tryz.f129 (go (qD []) [] [] [.autoB [2, 3] true []] (qB h fun h => gL h))
theorem qoZ {k a} (h : (qav k a).isSome): qCf a (X4 k a) := qJ h (qJF k a)
abbrev qB7 (a : List T3.T) (b : List T3.T) (r : Bool) : Prop := CC Tryz.prog 87 [ro T3 a, ro T3 b] [] (rb r) (nb r)
def qEp := fun y0 y1 y2 => (⟨qI 47 [(0, ro T3 y0), (1, ro T3 y1), (5, ri y2)], []⟩ : St)
def qDN := fun y0 y1 y2 y3 => (⟨qI 47 [(0, ro T3 y0), (1, ro T3 y1), (5, ri y2), (6, ri y3)], []⟩ : St)
mutual
def Zo (k : Nat) : Nat → List T3.T → List T3.T → Int → Option Bool
 | 0, _, _, _ => none
 | j + 1, y0, y1, y2 =>
 bif y2 < y0.length then
 V8 k j y0 y1 y2 0
 else
 some false
def V8 (k : Nat) : Nat → List T3.T → List T3.T → Int → Int → Option Bool
 | 0, _, _, _, _ => none
 | j + 1, y0, y1, y2, y3 =>
 bif y3 < y1.length then
 if (0 ≤ y2) ∧ (y2 < y0.length) ∧ ((qav k (y0.getD y2.toNat T3.dflt)).isSome) then
 if (0 ≤ y3) ∧ (y3 < y1.length) ∧ ((qav k (y1.getD y3.toNat T3.dflt)).isSome) then
 bif (decide ((X4 k (y0.getD y2.toNat T3.dflt)).1 ≤ (X4 k (y1.getD y3.toNat T3.dflt)).2) && decide ((X4 k (y1.getD y3.toNat T3.dflt)).1 ≤ (X4 k (y0.getD y2.toNat T3.dflt)).2)) then
 some true
 else
 V8 k j y0 y1 y2 (qa .i64 (y3 + 1))
 else none
 else none
 else
 Zo k j y0 y1 (qa .i64 (y2 + 1))
end
def qe7 (k : Nat) (a : List T3.T) (b : List T3.T) : Option Bool :=
 Zo k k a b 0
def qhi := fun k a b => (qe7 k a b).getD false
def qLE (k : Nat) : Ke := (87, mo 2, fun
 | [.r (.ro f d), .r (.ro i e)], [] => (qE f T3 d).bind fun a => (qE i T3 e).bind fun b => some (.one (rb (qhi k a b), []))
 | _, _ => none)
def qvA : List (Nat × List Cmd) := [(2, [.autoB [0, 1, 5] false []]), (5, [.autoB [0, 1, 5, 6] false []])]
abbrev qDa := EP Tryz.f87 0 rb nb
theorem qvQ (k) : ∀ j, (∀ {y0 y1 y2}, qDa 2 (qEp y0 y1 y2) (Zo k j y0 y1 y2)) ∧ (∀ {y0 y1 y2 y3}, qDa 5 (qDN y0 y1 y2 y3) (V8 k j y0 y1 y2 y3))
 | 0 => by and_intros <;> intros <;> exact e0
 | j + 1 => by
  have ih := @qvQ k j
  have g := @go (qD [qow k]) [] qvA [.autoB [4] true []]
  refine ⟨?_, ?_⟩
  ·intro y0 y1 y2 r h
   rw [Zo] at h
   exact g (gS h (fun h => gD h 5 ih.2) fun h => gL h)
  ·intro y0 y1 y2 y3 r h
   rw [V8] at h
   exact g (gS h (fun h => gN h (fun q => qf q.1 (qf q.2.1 (qf (qoZ q.2.2) qR))) fun h => gN h (fun q => qf q.1 (qf q.2.1 (qf (qoZ q.2.2) qR))) fun h => qB h fun h => gD h 5 ih.2) fun h => gD h 2 ih.1)
theorem qJ9 (k a b r) (h : qe7 k a b = some r): qB7 a b r := qN Tryz.f87 (go (qD [qow k]) [] qvA [.autoB [4] true []] (gD h 2 (qvQ k k).1))
theorem qK6 {k a b} (h : (qe7 k a b).isSome): qB7 a b (qhi k a b) := qJ h (qJ9 k a b)
abbrev qAg (a : List T5.T) (b : Int) (d : Int) (r : Int) : Prop := CC Tryz.prog 46 [ro T5 a, ri b, ri d] [] (ri r) (nb r)
def qA0 := fun y0 y1 y2 y3 => (⟨qI 21 [(0, ro T5 y0), (1, ri y1), (2, ri y2), (7, ri y3)], []⟩ : St)
def ZH (k : Nat) : Nat → List T5.T → Int → Int → Int → Option Int
 | 0, _, _, _, _ => none
 | j + 1, y0, y1, y2, y3 =>
 bif y3 < y1 then
 if (0 ≤ y3) ∧ (y3 < y0.length) then
 bif ((y0.getD y3.toNat T5.dflt).1 == y2) then
 some y3
 else
 ZH k j y0 y1 y2 (qa .i64 (y3 + 1))
 else none
 else
 some (-1)
def Vs (k : Nat) (a : List T5.T) (b : Int) (d : Int) : Option Int :=
 ZH k k a b d 0
def wa := fun k a b d => (Vs k a b d).getD 0
def qjm (k : Nat) : Ke := (46, mo 3, fun
 | [.r (.ro f e), .r (.v (.int .i64 b)), .r (.v (.int .i64 d))], [] => (qE f T5 e).bind fun a => some (.one (ri (wa k a b d), []))
 | _, _ => none)
def qvB : List (Nat × List Cmd) := [(2, [.autoB [0, 1, 2, 7] false []])]
abbrev qPg := EP Tryz.f46 0 ri nb
theorem qxi (k) : ∀ j, (∀ y0 y1 y2 y3, qPg 2 (qA0 y0 y1 y2 y3) (ZH k j y0 y1 y2 y3))
 | 0 => by intros; exact e0
 | j + 1 => by
  have ih := @qxi k j
  ·intro y0 y1 y2 y3 r h
   rw [ZH] at h
   exact go (qD []) [] qvB [.autoB [6] true []] (gS h (fun h => qS h fun h => qB h fun h => gC h 2 (ih _ _ _ _ _)) fun h => gL h)
theorem qMY (k a b d r) (h : Vs k a b d = some r): qAg a b d r := qN Tryz.f46 (go (qD []) [] qvB [.autoB [6] true []] (gC h 2 ((qxi k k) _ _ _ _ _)))
theorem qjr {k a b d} (h : (Vs k a b d).isSome): qAg a b d (wa k a b d) := qJ h (qMY k a b d)
abbrev qzj (a : List T3.T) (r : Int) : Prop := CC Tryz.prog 43 [ro T3 a] [] (ri r) (nb r)
def qA2 := fun y0 y1 y2 => (⟨qI 19 [(0, ro T3 y0), (3, ri y1), (4, ri y2)], []⟩ : St)
def Yt (k : Nat) : Nat → List T3.T → Int → Int → Option Int
 | 0, _, _, _ => none
 | j + 1, y0, y1, y2 =>
 bif y2 < y0.length then
 if (0 ≤ y2) ∧ (y2 < y0.length) then
 Yt k j y0 (qa .i64 (y1 + (y0.getD y2.toNat T3.dflt).2.1)) (qa .i64 (y2 + 1))
 else none
 else
 some y1
def qaD (k : Nat) (a : List T3.T) : Option Int :=
 Yt k k a 0 0
def Vm := fun k a => (qaD k a).getD 0
def qnQ (k : Nat) : Ke := (43, mo 1, fun
 | [.r (.ro d b)], [] => (qE d T3 b).bind fun a => some (.one (ri (Vm k a), []))
 | _, _ => none)
def qwE : List (Nat × List Cmd) := [(3, [.autoB [0, 3, 4] false []])]
abbrev qNP := EP Tryz.f43 0 ri nb
theorem qwh (k) : ∀ j, (∀ y0 y1 y2, qNP 3 (qA2 y0 y1 y2) (Yt k j y0 y1 y2))
 | 0 => by intros; exact e0
 | j + 1 => by
  have ih := @qwh k j
  ·intro y0 y1 y2 r h
   rw [Yt] at h
   exact go (qD []) [] qwE [.autoB [2] true []] (gS h (fun h => qS h fun h => gC h 3 (ih _ _ _ _)) fun h => gL h)
theorem qMx (k a r) (h : qaD k a = some r): qzj a r := qN Tryz.f43 (go (qD []) [] qwE [.autoB [2] true []] (gC h 3 ((qwh k k) _ _ _ _)))
theorem qox {k a} (h : (qaD k a).isSome): qzj a (Vm k a) := qJ h (qMx k a)
def qu3 (r : Int × Int) : AV := .tup [ri r.1, ri r.2]
abbrev qIe (a : List T3.T) (r : Int × Int) : Prop := CC Tryz.prog 122 [ro T3 a] [] (qu3 r) (nb r)
def qaV (k : Nat) (a : List T3.T) : Option (Int × Int) :=
 if ((ZY k a).isSome) then
 bif (vD k a != (0 : Int)) then
 some (0, vD k a)
 else
 if ((qdl k a).isSome) then
 some (qfN k a, 0)
 else none
 else none
def X2 := fun k a => (qaV k a).getD (0, 0)
def qta (k : Nat) : Ke := (122, mo 1, fun
 | [.r (.ro d b)], [] => (qE d T3 b).bind fun a => some (.one (qu3 (X2 k a), []))
 | _, _ => none)
theorem qQH (k a r) (h : qaV k a = some r): qIe a r := qN Tryz.f122 (go (qD [qbE k, qtk k]) [] [] [.autoB [2, 3] true []] (qu h qcq fun h => qB h fun h => qu h qrX fun h => gL h))
theorem qsg {k a} (h : (qaV k a).isSome): qIe a (X2 k a) := qJ h (qQH k a)
end
theorem w8 {α : Type} (l : List α) (i : Nat) (d : α) (h : i < l.length) : l.getD i d ∈ l := by simp [h]
theorem YB {α : Type} (p t : List α) (i : Nat) (d : α) (h : i < p.length) : (p ++ t).getD i d = p.getD i d := by simp [List.getElem?_append_left h]
theorem qFS {α : Type} (p : List α) (i : Nat) (d e : α) (h : i < p.length) : p.getD i d = p.getD i e := by simp [h]
theorem X1 (k : Nat) (r : Rn) (h : good r) : qdh k r = some (lo r, Go.AM.hi r) := by
 obtain ⟨h1, h2, h3, h4, h5, h6⟩ := h
 unfold qdh lo Go.AM.hi
 cases hb : r.2.2
 ·have := h6 hb
  rw [qg, qo (i := r.1 + r.2.1) (by omega) (by omega), qo (by omega) (by omega)]; rfl
 ·have := h5 hb
  rw [qi, qo (i := r.1 - r.2.1) (by omega) (by omega), qo (by omega) (by omega)]; rfl
theorem qbw (k : Nat) (r : Rn) (h : good r) : qaZ k r = (lo r, Go.AM.hi r) := by
 unfold qaZ; rw [X1 k r h]; rfl
theorem Xt (k : Nat) (r : Rn) (h : good r) : qav k r = some (lo r, Go.AM.hi r) := by
 obtain ⟨h1, h2, h3, h4, h5, h6⟩ := h
 unfold qav lo Go.AM.hi
 cases hb : r.2.2
 ·have := h6 hb
  rw [qg, qo (i := r.1 + r.2.1) (by omega) (by omega), qo (by omega) (by omega)]; rfl
 ·have := h5 hb
  rw [qi, qo (i := r.1 - r.2.1) (by omega) (by omega), qo (by omega) (by omega)]; rfl
theorem qbQ (k : Nat) (r : Rn) (h : good r) : X4 k r = (lo r, Go.AM.hi r) := by
 unfold X4; rw [Xt k r h]; rfl
def Z0 (x y : Rn) : Bool := decide (lo x ≤ Go.AM.hi y) && decide (lo y ≤ Go.AM.hi x)
theorem qgh (a b : List Rn) : VJ a b = a.any fun x => b.any fun y => Z0 x y := rfl
theorem qqR (k : Nat) (x : Rn) (a : List Rn) (la i : Int) (c : Ch) (m : List Rn) (hm : goods m) (hl : m.length ≤ 256) : ∀ (d q n : Nat), q + d = m.length →
  YO k (n + d + 1) (lo x) (Go.AM.hi x) a la i m (m.length : Int) (q : Int) c = if (m.drop q).any (Z0 x) = true then some true else Xl k n a la (qa .i64 (i + 1)) c := by
 intro d
 induction d with
 | zero =>
  intro q n hq
  rw [YO, qx (by omega : ¬ (q : Int) < (m.length : Int)), qg, qh (by omega), List.any_nil, qm (by decide)]
 | succ d ih =>
  intro q n hq
  have hg : good (m.getD q T3.dflt) := hm.mem _ (w8 _ _ _ (by omega))
  rw [show n + (d + 1) + 1 = (n + d + 1) + 1 from rfl, YO, qA (by omega : (q : Int) < (m.length : Int)), qi, qd ⟨by omega, by omega⟩, qc, X1 k _ hg, qbw k _ hg, qb, qd rfl, qq m q T3.dflt (by omega), List.any_cons, qF q (by omega), ih (q + 1) n (by omega)]
  show (bif Z0 x (m.getD q T3.dflt) then _ else _) = _
  cases Z0 x (m.getD q T3.dflt)
  ·rw [qg, zn]
  ·rw [qi, zX, qd rfl]
set_option maxRecDepth 20000 in
theorem qqq (k : Nat) (a : List Rn) (ha : goods a) (hl : a.length ≤ 256) (c : Ch) (hc : goods c.2.2.2) (hcl : c.2.2.2.length ≤ 256) : ∀ (d i j : Nat), i + d = a.length → d * 258 < j →
  Xl k j a (a.length : Int) (i : Int) c = some (VJ (a.drop i) c.2.2.2) := by
 intro d
 induction d with
 | zero =>
  intro i j hi hj
  obtain ⟨j, rfl⟩ := qQ (by omega : 0 < j)
  rw [Xl, qx (by omega : ¬ (i : Int) < (a.length : Int)), qg, qh (by omega)]
  rfl
 | succ d ih =>
  intro i j hi hj
  obtain ⟨j, rfl⟩ : ∃ q, j = (q + c.2.2.2.length + 1) + 1 := ⟨j - c.2.2.2.length - 2, by omega⟩
  have hg : good (a.getD i T3.dflt) := ha.mem _ (w8 _ _ _ (by omega))
  have h8 := qqR k (a.getD i T3.dflt) a (a.length : Int) (i : Int) c c.2.2.2 hc hcl c.2.2.2.length 0 j (by omega)
  rw [Xl, qA (by omega : (i : Int) < (a.length : Int)), qi, qd ⟨by omega, by omega⟩, qc, X1 k _ hg, qbw k _ hg, qb, qd rfl, qq a i T3.dflt (by omega), qgh, List.any_cons]
  refine (h8.trans ?_)
  rw [wm, qF i (by omega), ih (i + 1) j (by omega) (by omega), qgh]
  by_cases h : (c.2.2.2.any (Z0 (a.getD i T3.dflt))) = true
  ·rw [qd h, show (c.2.2.2.any fun y => Z0 (a.getD i T3.dflt) y) = true from h, zX]
  ·rw [qm h, show (c.2.2.2.any fun y => Z0 (a.getD i T3.dflt) y) = false from by simpa using h, zn]
structure Small (c : Ch) : Prop where
 l0 : 0 ≤ c.1
 w0 : 1 ≤ c.2.1
 r0 : c.1 + c.2.1 ≤ 12000
 chk : Chk c.2.2.2
theorem qgF (k : Nat) (hk : 70000 ≤ k) (a b : Ch) (ha : Small a) (hb : Small b) : qi8 k a b = some (VP a b) := by
 obtain ⟨a1, a2, a3, a4⟩ := ha
 obtain ⟨b1, b2, b3, b4⟩ := hb
 unfold qi8 VP
 rw [qo (i := a.1 + a.2.1) (by omega) (by omega), qo (i := b.1 + b.2.1) (by omega) (by omega)]
 by_cases h1 : a.1 + a.2.1 ≤ b.1
 ·rw [qA h1, zX, qi, qx (by omega : ¬ b.1 < a.1 + a.2.1), qHb, wD]
 ·by_cases h2 : b.1 + b.2.1 ≤ a.1
  ·rw [qA h2, Bool.or_true, qi, qx (by omega : ¬ a.1 < b.1 + b.2.1), wD, wD]
  ·rw [qx h1, qx h2, Bool.or_false, qg, qA (by omega : b.1 < a.1 + a.2.1), qA (by omega : a.1 < b.1 + b.2.1), Bool.and_true, ww]
   have h1 := a4.len
   exact qqq k a.2.2.2 a4.goods h1 b b4.goods b4.len a.2.2.2.length 0 k (by omega) (by omega)
theorem qqS (k : Nat) (hk : 70000 ≤ k) (a b : Ch) (ha : Small a) (hb : Small b) : qnc k a b = VP a b := by
 unfold qnc; rw [qgF k hk a b ha hb]; rfl
theorem quq (k : Nat) (a m : List Rn) (ha : goods a) (i : Nat) (hi : i < a.length) (hm : goods m) (hl : m.length ≤ 256) : ∀ (d q n : Nat), q + d = m.length →
  V8 k (n + d + 1) a m (i : Int) (q : Int) = if (m.drop q).any (Z0 (a.getD i T3.dflt)) = true then some true else Zo k n a m (qa .i64 ((i : Int) + 1)) := by
 intro d
 have hx : good (a.getD i T3.dflt) := ha.mem _ (w8 _ _ _ (by omega))
 induction d with
 | zero =>
  intro q n hq
  rw [V8, qx (by omega : ¬ (q : Int) < (m.length : Int)), qg, qh (by omega), List.any_nil, qm (by decide)]
 | succ d ih =>
  intro q n hq
  have hg : good (m.getD q T3.dflt) := hm.mem _ (w8 _ _ _ (by omega))
  rw [show n + (d + 1) + 1 = (n + d + 1) + 1 from rfl, V8, qA (by omega : (q : Int) < (m.length : Int)), qi, qc, qc, Xt k _ hx, qbQ k _ hx, Xt k _ hg, qbQ k _ hg, qd ⟨by omega, by omega, rfl⟩, qd ⟨by omega, by omega, rfl⟩, qq m q T3.dflt (by omega), List.any_cons, qF q (by omega), ih (q + 1) n (by omega)]
  show (bif Z0 (a.getD i T3.dflt) (m.getD q T3.dflt) then _ else _) = _
  cases Z0 (a.getD i T3.dflt) (m.getD q T3.dflt)
  ·rw [qg, zn]
  ·rw [qi, zX, qd rfl]
set_option maxRecDepth 20000 in
theorem qsd (k : Nat) (a m : List Rn) (ha : goods a) (hl : a.length ≤ 256) (hm : goods m) (hml : m.length ≤ 256) : ∀ (d i j : Nat), i + d = a.length → d * 258 < j →
  Zo k j a m (i : Int) = some (VJ (a.drop i) m) := by
 intro d
 induction d with
 | zero =>
  intro i j hi hj
  obtain ⟨j, rfl⟩ := qQ (by omega : 0 < j)
  rw [Zo, qx (by omega : ¬ (i : Int) < (a.length : Int)), qg, qh (by omega)]
  rfl
 | succ d ih =>
  intro i j hi hj
  obtain ⟨j, rfl⟩ : ∃ q, j = (q + m.length + 1) + 1 := ⟨j - m.length - 2, by omega⟩
  have h8 := quq k a m ha i (by omega) hm hml m.length 0 j (by omega)
  rw [Zo, qA (by omega : (i : Int) < (a.length : Int)), qi, qq a i T3.dflt (by omega), qgh, List.any_cons]
  refine (h8.trans ?_)
  rw [wm, qF i (by omega), ih (i + 1) j (by omega) (by omega), qgh]
  by_cases h : (m.any (Z0 (a.getD i T3.dflt))) = true
  ·rw [qd h, show (m.any fun y => Z0 (a.getD i T3.dflt) y) = true from h, zX]
  ·rw [qm h, show (m.any fun y => Z0 (a.getD i T3.dflt) y) = false from by simpa using h, zn]
theorem qiL (k : Nat) (hk : 70000 ≤ k) (a b : List Rn) (ha : Chk a) (hb : Chk b) : qe7 k a b = some (VJ a b) := by
 unfold qe7
 have h1 := ha.len
 exact qsd k a b ha.goods h1 hb.goods hb.len a.length 0 k (by omega) (by omega)
theorem qsr (k : Nat) (hk : 70000 ≤ k) (a b : List Rn) (ha : Chk a) (hb : Chk b) : qhi k a b = VJ a b := by
 unfold qhi; rw [qiL k hk a b ha hb]; rfl
theorem qcm (k : Nat) (hk : 2100 ≤ k) (m : List Rn) (h : Chk m) : qaV k m = some (qv m, 0) := by
 have h1 := h.len
 unfold qaV
 rw [QN k (by omega), W5 k (by omega), qb, qd rfl, wW.2 h]
 show (if _ then _ else _) = _
 rw [XY k m h.goods (by omega) (by omega), qbX k m h.goods (by omega) (by omega)]
 rfl
theorem qih (k : Nat) (hk : 2100 ≤ k) (m : List Rn) (h : Chk m) : X2 k m = (qv m, 0) := by
 unfold X2; rw [qcm k hk m h]; rfl
theorem qsW (k : Nat) (m : List Rn) (hg : goods m) (hm : m.length ≤ 1000) : ∀ (j i : Nat) (n : Int), i ≤ m.length → m.length - i < j → 0 ≤ n → n ≤ (i : Int) * 17179869184 →
  Yt k j m n (i : Int) = some (n + qv (m.drop i)) := by
 intro j
 induction j with
 | zero => intros; omega
 | succ j ih =>
  intro i n hi hj h0 h1
  rw [Yt]
  by_cases h : i < m.length
  ·have hgr : good (m.getD i T3.dflt) := hg.mem _ (w8 _ _ _ (by omega))
   obtain ⟨g1, g2, g3, g4, _⟩ := hgr
   rw [qA (by omega : (i : Int) < (m.length : Int)), qi, qd ⟨by omega, by omega⟩, qc, qF i (by omega), qo (by omega) (by omega), ih (i + 1) _ (by omega) (by omega) (by omega) (by omega), qq m i T3.dflt h, qv, Int.add_assoc]
  ·rw [qx (by omega : ¬ (i : Int) < (m.length : Int)), qg, qh (by omega), qv, Int.add_zero]
theorem XW (k : Nat) (hk : 2100 ≤ k) (m : List Rn) (h : Chk m) : qaD k m = some (qv m) := by
 have h1 := h.len
 unfold qaD
 refine (qsW k m h.goods (by omega) k 0 0 (by omega) (by omega) (by omega) (by omega)).trans ?_
 rw [wm, Int.zero_add]
theorem qcl (k : Nat) (hk : 2100 ≤ k) (m : List Rn) (h : Chk m) : Vm k m = qv m := by
 unfold Vm; rw [XW k hk m h]; rfl
def At (p : List Ro) (id : Int) (i : Option Int) : Prop := match look p id with
 | none => i = none
 | some r => ∃ q : Nat, i = some (q : Int) ∧ q < p.length ∧ ∀ d, p.getD q d = r
theorem At.none {p : List Ro} {id : Int} {i : Option Int} (h : At p id i) (e : look p id = .none) : i = .none := by
 unfold At at h; rw [e] at h; exact h
theorem At.some {p : List Ro} {id : Int} {i : Option Int} {r : Ro} (h : At p id i) (e : look p id = .some r) : ∃ q : Nat, i = .some (q : Int) ∧ q < p.length ∧ ∀ d, p.getD q d = r := by
 unfold At at h; rw [e] at h; exact h
theorem qpU (id v : Int) (x : Int) : ∀ M : List (Int × Int), wd I x (vq I id v M) = if x = id then some v else wd I x M
 | [] => by
  show (bif (x == id) then some v else none) = _
  by_cases h : x = id
  ·rw [show (x == id) = true by simp [h], qd h]; rfl
  ·rw [show (x == id) = false by simp [h], qm h]; rfl
 | p :: t => by
  unfold vq
  by_cases h : id = p.1
  ·rw [show VB I id p.1 = true from by show (id == p.1) = true; simp [h], qi]
   show (bif (x == id) then some v else wd I x t) = _
   by_cases h2 : x = id
   ·simp [h2]
   ·rw [qm h2, show (x == id) = false by simp [h2], qg, wd, show VB I x p.1 = false from by show (x == p.1) = false; rw [← h]; simp [h2], qg]
  ·rw [show VB I id p.1 = false from by show (id == p.1) = false; simp [h], qg, wd, qpU id v x t]
   show (bif (x == p.1) then some p.2 else _) = if _ then _ else (bif (x == p.1) then some p.2 else _)
   by_cases h2 : x = id
   ·rw [qd h2, qd h2, show (x == p.1) = false by rw [h2]; simp [h], qg]
   ·rw [qm h2, qm h2]
def Qn (M : List (Int × Int)) (p : List Ro) : Prop := ∀ id, At p id (wd I id M)
theorem qzD : Qn [] [] := fun id => by unfold At look; rfl
theorem qAo {M : List (Int × Int)} {p : List Ro} (h : Qn M p) (r : Ro) (hr : (look p r.1).isSome = true) : Qn M (p ++ [r]) := fun id => by
 have h1 := h id
 unfold At at *
 rw [QU]
 cases e : look p id with
 | some q =>
  rw [e] at h1
  obtain ⟨i, h2, h3, h4⟩ := h1
  exact ⟨i, h2, by rw [qn]; omega, fun d => by rw [YB _ _ _ _ h3]; exact h4 d⟩
 | none =>
  rw [e] at h1
  have : r.1 ≠ id := fun e2 => by rw [e2, e] at hr; cases hr
  rw [Option.none_or, show look [r] id = none by unfold look; simp [this]]
  exact h1
theorem qz3 {M : List (Int × Int)} {p : List Ro} (h : Qn M p) (r : Ro) (hr : look p r.1 = none) : Qn (vq I r.1 (p.length : Int) M) (p ++ [r]) := fun id => by
 have h1 := h id
 rw [qpU]
 unfold At at *
 rw [QU]
 by_cases hi : id = r.1
 ·rw [qd hi, hi, hr, Option.none_or, show look [r] r.1 = some r by unfold look; simp]
  exact ⟨p.length, rfl, by simp, fun d => by simp⟩
 ·rw [qm hi]
  cases e : look p id with
  | some q =>
   rw [e] at h1
   obtain ⟨i, h2, h3, h4⟩ := h1
   exact ⟨i, h2, by rw [qn]; omega, fun d => by rw [YB _ _ _ _ h3]; exact h4 d⟩
  | none =>
   rw [e] at h1
   rw [Option.none_or, show look [r] id = none by unfold look; simp [Ne.symm hi]]
   exact h1
theorem qqP (k : Nat) (p t : List Ro) (id : Int) (hp : p.length ≤ 100000) : ∀ (d i j : Nat), i + d = p.length → d < j → look (p.take i) id = none →
  ∃ o : Option Int, ZH k j (p ++ t) (p.length : Int) id (i : Int) = some (o.getD (-1)) ∧ At p id o := by
 intro d
 induction d with
 | zero =>
  intro i j hi hj hn
  obtain ⟨j, rfl⟩ := qQ (by omega : 0 < j)
  rw [ZH, qx (by omega : ¬ (i : Int) < (p.length : Int)), qg]
  rw [wI (by omega)] at hn
  exact ⟨none, rfl, by unfold At; rw [hn]⟩
 | succ d ih =>
  intro i j hi hj hn
  obtain ⟨j, rfl⟩ := qQ (by omega : 0 < j)
  have hl : (p ++ t).length = p.length + t.length := qn
  rw [ZH, qA (by omega : (i : Int) < (p.length : Int)), qi, qd ⟨by omega, by omega⟩, qc, YB _ _ _ _ (by omega)]
  have ht := wU p i T5.dflt (by omega)
  by_cases h : (p.getD i T5.dflt).1 = id
  ·rw [show ((p.getD i T5.dflt).fst == id) = true from beq_iff_eq.2 h, qi]
   refine ⟨some (i : Int), rfl, ?_⟩
   have e : look p id = some (p.getD i T5.dflt) := by
    have e2 : look (p.drop i) id = some (p.getD i T5.dflt) := by
     rw [qq p i T5.dflt (by omega)]
     unfold look
     rw [List.find?_cons_of_pos (by exact beq_iff_eq.2 h)]
    have e3 := QU (p.take i) (p.drop i) id
    rw [qnA, hn, Option.none_or, e2] at e3
    exact e3
   unfold At
   rw [e]
   exact ⟨i, rfl, by omega, fun d => qFS _ _ _ _ (by omega)⟩
  ·rw [show ((p.getD i T5.dflt).fst == id) = false from beq_false_of_ne h, qg, qF i (by omega)]
   refine ih (i + 1) j (by omega) (by omega) ?_
   rw [ht, QU, hn, Option.none_or]
   unfold look
   simp only [List.find?_cons, List.find?_nil]
   rw [show ((p.getD i T5.dflt).1 == id) = false from beq_false_of_ne h]
theorem qaO (k : Nat) (p t : List Ro) (id : Int) (hp : p.length ≤ 100000) (hk : p.length < k) : ∃ o : Option Int, Vs k (p ++ t) (p.length : Int) id = some (o.getD (-1)) ∧ wa k (p ++ t) (p.length : Int) id = o.getD (-1) ∧ At p id o := by
 obtain ⟨o, h1, h2⟩ := qqP k p t id hp p.length 0 k (by omega) (by omega) (by unfold look; rfl)
 exact ⟨o, h1, by unfold wa Vs; rw [show ZH k k (p ++ t) (p.length : Int) id 0 = _ from h1]; rfl, h2⟩
end Go.AM
namespace Go.AM
open Go Go.Proofs
noncomputable section
def qB2 (a : Int) (b : Int) (d : List T5.T) (e : List (I.T × I.T)) (f : Int) (r : Bool) : List (Nat × Blk) := [(0, .var 135 [ri a, ri b, ro T5 d, .own 1 0]), (0, .map false I I e)]
abbrev qJg (a : Int) (b : Int) (d : List T5.T) (e : List (I.T × I.T)) (f : Int) (r : Bool) : Prop := CC Tryz.prog 72 [.ptr 0 0 0, ri f] [.var 135 [ri a, ri b, ro T5 d, .own 1 0], .map false I I e] (rb r) (qB2 a b d e f r)
def Xu (k : Nat) (a : Int) (b : Int) (d : List T5.T) (e : List (I.T × I.T)) (f : Int) : Option Bool :=
 some ((wd I f e).isSome)
def WA := fun k a b d e f => (Xu k a b d e f).getD false
def qsi (k : Nat) : Ke := (72, fun
 | [.ptr _ _ _, _] => some [true, false]
 | _ => none, fun
 | [.ptr 0 0 0, .r (.v (.int .i64 f))], [.var 135 [.r (.v (.int .i64 a)), .r (.v (.int .i64 b)), .r (.ro tg_2_ qg_2), .own 1 0], .map false kg_3_ tg_3_ qg_3] => (qE tg_2_ T5 qg_2).bind fun d => (qmT kg_3_ tg_3_ I I qg_3).bind fun e => some (.one (rb (WA k a b d e f), qB2 a b d e f (WA k a b d e f)))
 | _, _ => none)
theorem qNL (k a b d e f r) (h : Xu k a b d e f = some r): qJg a b d e f r := qN Tryz.f72 (go (qD []) [] [] [.autoB [4] true []] (gL h))
theorem qtO {k a b d e f} (h : (Xu k a b d e f).isSome): qJg a b d e f (WA k a b d e f) := qJ h (qNL k a b d e f)
def qwx (r : Int × Int) : AV := .tup [ri r.1, ri r.2]
def qCO (a : Int) (b : Int) (d : List T5.T) (e : List (I.T × I.T)) (f : Int) (r : Int × Int) : List (Nat × Blk) := [(0, .var 135 [ri a, ri b, ro T5 d, .own 1 0]), (0, .map false I I e)]
abbrev qHz (a : Int) (b : Int) (d : List T5.T) (e : List (I.T × I.T)) (f : Int) (r : Int × Int) : Prop := CC Tryz.prog 118 [.ptr 0 0 0, ri f] [.var 135 [ri a, ri b, ro T5 d, .own 1 0], .map false I I e] (qwx r) (qCO a b d e f r)
def qfz (k : Nat) (a : Int) (b : Int) (d : List T5.T) (e : List (I.T × I.T)) (f : Int) : Option (Int × Int) :=
 bif (f == 0) then
 some (a, b)
 else
 if ((0 : Int) ≤ (wd I f e).getD (0 : Int)) ∧ ((wd I f e).getD (0 : Int) < (↑d.length : Int)) then
 if ((qaV k (d.getD (qt ((wd I f e).getD 0)) T5.dflt).2.2.2.2.2).isSome) then
 some ((d.getD (qt ((wd I f e).getD 0)) T5.dflt).2.2.2.1, (X2 k (d.getD (qt ((wd I f e).getD 0)) T5.dflt).2.2.2.2.2).1)
 else none
 else none
def X5 := fun k a b d e f => (qfz k a b d e f).getD (0, 0)
def qQP (k : Nat) : Ke := (118, fun
 | [.ptr _ _ _, _] => some [true, false]
 | _ => none, fun
 | [.ptr 0 0 0, .r (.v (.int .i64 f))], [.var 135 [.r (.v (.int .i64 a)), .r (.v (.int .i64 b)), .r (.ro tg_2_ qg_2), .own 1 0], .map false kg_3_ tg_3_ qg_3] => (qE tg_2_ T5 qg_2).bind fun d => (qmT kg_3_ tg_3_ I I qg_3).bind fun e => some (.one (qwx (X5 k a b d e f), qCO a b d e f (X5 k a b d e f)))
 | _, _ => none)
theorem qOc (k a b d e f r) (h : qfz k a b d e f = some r): qHz a b d e f r := qN Tryz.f118 (go (qD [qta k]) [] [] [.autoB [4, 5] true []] (qB h fun h => qS h fun h => qu h qsg fun h => gL h))
theorem qDU {k a b d e f} (h : (qfz k a b d e f).isSome): qHz a b d e f (X5 k a b d e f) := qJ h (qOc k a b d e f)
def qul (a : Int) (b : Int) (d : List T5.T) (e : List (I.T × I.T)) (f : T5.T) (r : Int) : List (Nat × Blk) := [(0, .var 135 [ri a, ri b, ro T5 d, .own 1 0]), (0, .map false I I e)]
abbrev qHy (a : Int) (b : Int) (d : List T5.T) (e : List (I.T × I.T)) (f : T5.T) (r : Int) : Prop := CC Tryz.prog 71 [.ptr 0 0 0, .agg (qy (qr T5 f))] [.var 135 [ri a, ri b, ro T5 d, .own 1 0], .map false I I e] (ri r) (qul a b d e f r)
def qBL := fun a b d e (f : T5.T) y0 y1 y2 y3 => (⟨qI 93 [(6, ri y0), (78, ro T3 y1), (79, ri y2), (80, ri y3)], [(0, 0, .var 135 [ri a, ri b, ro T5 d, .own 1 0]), (1, 0, .map false I I e)]⟩ : St)
def WK (k : Nat) (a : Int) (b : Int) (d : List T5.T) (e : List (I.T × I.T)) (f : T5.T) : Nat → Int → List T3.T → Int → Int → Option Int
 | 0, _, _, _, _ => none
 | j + 1, y0, y1, y2, y3 =>
 bif y3 < y2 then
 if (0 ≤ y3) ∧ (y3 < y1.length) then
 if ((qdh k (y1.getD y3.toNat T3.dflt)).isSome) then
 bif (qaZ k (y1.getD y3.toNat T3.dflt)).2 ≥ y0 then
 some 21
 else
 WK k a b d e f j y0 y1 y2 (qa .i64 (y3 + 1))
 else none
 else none
 else
 some 0
def qjQ (k : Nat) (a : Int) (b : Int) (d : List T5.T) (e : List (I.T × I.T)) (f : T5.T) : Option Int :=
 bif (decide (f.1 < (1 : Int)) || decide (f.1 > (1000000 : Int))) then
 some 1
 else
 bif (f.2.1 != (0 : Int)) then
 if ((f.2.1 != (0 : Int)) = true) ∧ ((Xu k a b d e f.2.1).isSome) then
 bif (true && (!WA k a b d e f.2.1)) then
 some 7
 else
 if ((qfz k a b d e f.2.1).isSome) then
 bif (decide (f.2.2.1 < (0 : Int)) || decide (f.2.2.2.1 < (1 : Int)) || decide (f.2.2.1 > (X5 k a b d e f.2.1).1) || decide (f.2.2.2.1 > qa .i64 ((X5 k a b d e f.2.1).1 - f.2.2.1))) then
 some 20
 else
 if ((ZY k f.2.2.2.2.2).isSome) then
 bif (vD k f.2.2.2.2.2 != (0 : Int)) then
 some (vD k f.2.2.2.2.2)
 else
 bif ((↑ (qe f.2.2.2.2.2) : Int) == (0 : Int)) then
 some 10
 else
 if ((qcD k f.2.2.2.2.2).isSome) then
 bif (!qgl k f.2.2.2.2.2) then
 some 12
 else
 WK k a b d e f k ((X5 k a b d e f.2.1).2) f.2.2.2.2.2 (↑ (qe f.2.2.2.2.2) : Int) 0
 else none
 else none
 else none
 else none
 else
 if ((f.2.1 != (0 : Int)) = false) then
 if ((qfz k a b d e f.2.1).isSome) then
 bif (decide (f.2.2.1 < (0 : Int)) || decide (f.2.2.2.1 < (1 : Int)) || decide (f.2.2.1 > (X5 k a b d e f.2.1).1) || decide (f.2.2.2.1 > qa .i64 ((X5 k a b d e f.2.1).1 - f.2.2.1))) then
 some 20
 else
 if ((ZY k f.2.2.2.2.2).isSome) then
 bif (vD k f.2.2.2.2.2 != (0 : Int)) then
 some (vD k f.2.2.2.2.2)
 else
 bif ((↑ (qe f.2.2.2.2.2) : Int) == (0 : Int)) then
 some 10
 else
 if ((qcD k f.2.2.2.2.2).isSome) then
 bif (!qgl k f.2.2.2.2.2) then
 some 12
 else
 WK k a b d e f k ((X5 k a b d e f.2.1).2) f.2.2.2.2.2 (↑ (qe f.2.2.2.2.2) : Int) 0
 else none
 else none
 else none
 else none
def qfM := fun k a b d e f => (qjQ k a b d e f).getD 0
def qPk (k : Nat) : Ke := (71, fun
 | [.ptr _ _ _, _] => some [true, false]
 | _ => none, fun
 | [.ptr 0 0 0, .agg g], [.var 135 [.r (.v (.int .i64 a)), .r (.v (.int .i64 b)), .r (.ro tg_2_ qg_2), .own 1 0], .map false kg_3_ tg_3_ qg_3] => (qW [] T5 g).bind fun f => (qE tg_2_ T5 qg_2).bind fun d => (qmT kg_3_ tg_3_ I I qg_3).bind fun e => some (.one (ri (qfM k a b d e f), qul a b d e f (qfM k a b d e f)))
 | _, _ => none)
def qI8 (k : Nat) : Calld := qD [qsi k, qbE k, qQP k, qQ0 k, qrN k]
def qDg : List (Nat × List Cmd) := [(17, [.autoB [6, 78, 79, 80] false []])]
abbrev qSi := fun a b d e f => EP Tryz.f71 2 ri (qul a b d e f)
theorem qsz (k a b d e f) : ∀ j, (∀ y0 y1 y2 y3, qSi a b d e f 17 (qBL a b d e f y0 y1 y2 y3) (WK k a b d e f j y0 y1 y2 y3))
 | 0 => by intros; exact e0
 | j + 1 => by
  have ih := @qsz k a b d e f j
  ·intro y0 y1 y2 y3 r h
   rw [WK] at h
   exact go (qI8 k) [] qDg [.autoB [4] true []] (gS h (fun h => qS h fun h => qu h qud fun h => qB h fun h => gC h 17 (ih _ _ _ _ _)) fun h => gL h)
theorem qQG (k a b d e f r) (h : qjQ k a b d e f = some r): qHy a b d e f r := qN Tryz.f71 (go (qI8 k) [] qDg [.autoB [4] true []] (qB h fun h => gS h (fun h => gN h (fun q => qf q.1 (qf (qtO q.2) qR)) fun h => qB h fun h => qu h qDU fun h => qB h fun h => qu h qcq fun h => qB h fun h => qB h fun h => qu h qED fun h => qB h fun h => gC h 17 ((qsz k a b d e f k) _ _ _ _ _)) fun h => qu h id fun h => gU2 h (.leaf (.r (.v (.int .i64 7))) [(0, .var 135 [.r (.v (.int .i64 a)), .r (.v (.int .i64 b)), .r (.ro T5 d), .own 1 0]), (0, .map false I I e)]) fun h => qu h qDU fun h => qB h fun h => qu h qcq fun h => qB h fun h => qB h fun h => qu h qED fun h => qB h fun h => gC h 17 ((qsz k a b d e f k) _ _ _ _ _)))
theorem qRH {k a b d e f} (h : (qjQ k a b d e f).isSome): qHy a b d e f (qfM k a b d e f) := qJ h (qQG k a b d e f)
abbrev qh6 : Type := Int
def qk2 (r : qh6) : AV := .tup [.r (.v (Value.pointer none)), .r (.v (.int .i64 r))]
def qnT (b : List T5.T) (d : T19.T) (r : qh6) : List (Nat × Blk) := []
abbrev qik : Type := Int × Int × Int × List T5.T × (List (I.T × I.T))
def qlM (r : qik) : AV := .tup [.ptr 0 0 0, .r (.v (.int .i64 r.1))]
def qpd (b : List T5.T) (d : T19.T) (r : qik) : List (Nat × Blk) := [(0, .var 135 [.r (.v (.int .i64 r.2.1)), .r (.v (.int .i64 r.2.2.1)), .r (.ro T5 r.2.2.2.1), .own 1 0]), (0, .map false I I r.2.2.2.2)]
abbrev qfV : Type := qh6 ⊕ qik
def qwd (r : qfV) : AV := match r with
 | .inl a => qk2 a
 | .inr a => qlM a
def qAl (b : List T5.T) (d : T19.T) (r : qfV) : List (Nat × Blk) := match r with
 | .inl a => qnT b d a
 | .inr a => qpd b d a
abbrev qri (b : List T5.T) (d : T19.T) (r : qfV) : Prop := CC Tryz.prog 31 [ro T5 b, .agg (qy (qr T19 d))] [] (qwd r) (qAl b d r)
abbrev qQC (b : List T5.T) (d : T19.T) (r : qh6) : Prop := CC Tryz.prog 31 [.r (.ro T5 b), .agg (qy (qr T19 d))] [] (qk2 r) (qnT b d r)
abbrev qNp (b : List T5.T) (d : T19.T) (r : qik) : Prop := CC Tryz.prog 31 [.r (.ro T5 b), .agg (qy (qr T19 d))] [] (qlM r) (qpd b d r)
def qF8 := fun y0 y1 y2 y3 y4 y5 y6 y7 y8 => (⟨qI 97 [(0, ro T5 y0), (6, .ptr 1000000 0 0), (7, rb y1), (41, ro T5 y2), (42, ri y3), (43, ri y4)], [(1000000, 0, .var 135 [ri y5, ri y6, ro T5 y7, .own 1000001 0]), (1000001, 0, .map false I I y8)]⟩ : St)
def qDR := fun y0 y1 y2 y3 y4 y5 y6 y7 => (⟨qI 97 [(0, ro T5 y0), (6, .ptr 1000000 0 0), (67, ro T5 y1), (68, ri y2), (69, ri y3)], [(1000000, 0, .var 135 [ri y4, ri y5, ro T5 y6, .own 1000001 0]), (1000001, 0, .map false I I y7)]⟩ : St)
def qAE := fun y0 y1 y2 y3 y4 y5 y6 y7 y8 y9 y10 y11 => (⟨qI 97 [(0, ro T5 y0), (6, .ptr 1000000 0 0), (12, .ptr 1000002 0 0), (67, ro T5 y1), (68, ri y2), (69, ri y3), (76, ro T5 y4), (77, ri y5), (78, ri y6)], [(1000000, 0, .var 135 [ri y7, ri y8, ro T5 y9, .own 1000001 0]), (1000001, 0, .map false I I y10), (1000002, 0, .var 47 (qy (qr T5 y11)))]⟩ : St)
mutual
def Qb (k : Nat) : Nat → List T5.T → Bool → List T5.T → Int → Int → Int → Int → List T5.T → (List (I.T × I.T)) → Option qfV
 | 0, _, _, _, _, _, _, _, _, _ => none
 | j + 1, y0, y1, y2, y3, y4, y5, y6, y7, y8 =>
 bif y4 < y3 then
 if (0 ≤ y4) ∧ (y4 < y2.length) then
 if ((qjQ k y5 y6 y7 y8 (y2.getD y4.toNat T5.dflt)).isSome) then
 bif (qfM k y5 y6 y7 y8 (y2.getD y4.toNat T5.dflt) != (0 : Int)) then
 some (.inl (qfM k y5 y6 y7 y8 (y2.getD y4.toNat T5.dflt)))
 else
 if ((Xu k y5 y6 y7 y8 (y2.getD y4.toNat T5.dflt).1).isSome) then
 bif (WA k y5 y6 y7 y8 (y2.getD y4.toNat T5.dflt).1) then
 Qb k j y0 true y2 y3 (qa .i64 (y4 + 1)) y5 y6 y7 y8
 else
 Qb k j y0 y1 y2 y3 (qa .i64 (y4 + 1)) y5 y6 y7 (vq I (y2.getD y4.toNat T5.dflt).1 y4 y8)
 else none
 else none
 else none
 else
 bif y1 then
 some (.inl 6)
 else
 Zr k j y0 y0 (↑y0.length : Int) 0 y5 y6 y7 y8
def Zr (k : Nat) : Nat → List T5.T → List T5.T → Int → Int → Int → Int → List T5.T → (List (I.T × I.T)) → Option qfV
 | 0, _, _, _, _, _, _, _, _ => none
 | j + 1, y0, y1, y2, y3, y4, y5, y6, y7 =>
 bif y3 < y2 then
 if (0 ≤ y3) ∧ (y3 < y1.length) then
 if ((0 : Int) ≤ (0 : Int)) ∧ (0 ≤ y3) ∧ (y3 ≤ y0.length) then
 Zq k j y0 y1 y2 y3 (qdv (y3.toNat - qt 0) (qaJ (qt 0) y0)) (↑ (qdv (y3.toNat - qt 0) (qaJ (qt 0) y0)).length : Int) 0 y4 y5 y6 y7 (y1.getD y3.toNat T5.dflt)
 else none
 else none
 else
 some (.inr (0, y4, y5, y6, y7))
def Zq (k : Nat) : Nat → List T5.T → List T5.T → Int → Int → List T5.T → Int → Int → Int → Int → List T5.T → (List (I.T × I.T)) → T5.T → Option qfV
 | 0, _, _, _, _, _, _, _, _, _, _, _, _ => none
 | j + 1, y0, y1, y2, y3, y4, y5, y6, y7, y8, y9, y10, y11 =>
 bif y6 < y5 then
 if (0 ≤ y6) ∧ (y6 < y4.length) then
 bif (y11.2.1 == (y4.getD y6.toNat T5.dflt).2.1) then
 if ((y11.2.1 == (y4.getD y6.toNat T5.dflt).2.1) = true) ∧ ((qi8 k y11.2.2 (y4.getD y6.toNat T5.dflt).2.2).isSome) then
 bif (true && qnc k y11.2.2 (y4.getD y6.toNat T5.dflt).2.2) then
 some (.inl 12)
 else
 Zq k j y0 y1 y2 y3 y4 y5 (qa .i64 (y6 + 1)) y7 y8 y9 y10 y11
 else none
 else
 if ((y11.2.1 == (y4.getD y6.toNat T5.dflt).2.1) = false) then
 Zq k j y0 y1 y2 y3 y4 y5 (qa .i64 (y6 + 1)) y7 y8 y9 y10 y11
 else none
 else none
 else
 Zr k j y0 y1 y2 (qa .i64 (y3 + 1)) y7 y8 y9 y10
end
def Zc (k : Nat) (b : List T5.T) (d : T19.T) : Option qfV :=
 bif (decide (d.1 < (1 : Int)) || decide (d.1 > (12000 : Int)) || decide (d.2 < (0 : Int)) || decide (d.2 > (17179869184 : Int))) then
 some (.inl 1)
 else
 bif (↑b.length : Int) > (512 : Int) then
 some (.inl 8)
 else
 Qb k k b false b (↑b.length : Int) 0 d.1 d.2 b ([])
def qae := fun k b d => (Zc k b d).getD (.inl 0)
def X7 (k : Nat) (b : List T5.T) (d : T19.T) : qh6 := lft 0 (qae k b d)
def wZ (k : Nat) (b : List T5.T) (d : T19.T) : qik := rgt (0, 0, 0, [], []) (qae k b d)
def qBl (k : Nat) : Ke := (31, mo 2, fun
 | [.r (.ro i e), .agg f], [] => (qE i T5 e).bind fun b => (qW [] T19 f).bind fun d => some (.two (qae k b d).isLeft (qk2 (X7 k b d), qnT b d (X7 k b d)) (qlM (wZ k b d), qpd b d (wZ k b d)))
 | _, _ => none)
def qIi (k : Nat) : Calld := qD [qsi k, qPk k, qOU k]
def qBd : List (Nat × List Cmd) := [(8, [.autoB [0, 6, 7, 41, 42, 43] false []]), (20, [.autoB [0, 6, 67, 68, 69] false []]), (23, [.autoB [0, 6, 12, 67, 68, 69, 76, 77, 78] false []])]
abbrev qzb := fun b d => EP Tryz.f31 0 qwd (qAl b d)
theorem qBK (k b d) : ∀ j, (∀ {y0 y1 y2 y3 y4 y5 y6 y7 y8}, qzb b d 8 (qF8 y0 y1 y2 y3 y4 y5 y6 y7 y8) (Qb k j y0 y1 y2 y3 y4 y5 y6 y7 y8)) ∧ (∀ {y0 y1 y2 y3 y4 y5 y6 y7}, qzb b d 20 (qDR y0 y1 y2 y3 y4 y5 y6 y7) (Zr k j y0 y1 y2 y3 y4 y5 y6 y7)) ∧ (∀ {y0 y1 y2 y3 y4 y5 y6 y7 y8 y9 y10 y11}, qzb b d 23 (qAE y0 y1 y2 y3 y4 y5 y6 y7 y8 y9 y10 y11) (Zq k j y0 y1 y2 y3 y4 y5 y6 y7 y8 y9 y10 y11))
 | 0 => by and_intros <;> intros <;> exact e0
 | j + 1 => by
  have ih := @qBK k b d j
  have g := @go (qIi k) [] qBd [.autoB [4, 5] true []]
  refine ⟨?_, ?_, ?_⟩
  ·intro y0 y1 y2 y3 y4 y5 y6 y7 y8 r h
   rw [Qb] at h
   exact g (gS h (fun h => qS h fun h => qu h qRH fun h => qB h fun h => qu h qtO fun h => gS h (fun h => gD h 8 ih.1) fun h => gD h 8 ih.1) fun h => qB h fun h => gD h 20 ih.2.1)
  ·intro y0 y1 y2 y3 y4 y5 y6 y7 r h
   rw [Zr] at h
   exact g (gS h (fun h => qS h fun h => gN h Xn fun h => gD h 23 ih.2.2) fun h => gL h)
  ·intro y0 y1 y2 y3 y4 y5 y6 y7 y8 y9 y10 y11 r h
   rw [Zq] at h
   exact g (gS h (fun h => qS h fun h => gS h (fun h => gN h (fun q => qf q.1 (qf (qNR q.2) qR)) fun h => qB h fun h => gD h 23 ih.2.2) fun h => qu h id fun h => gU2 h (.leaf (.tup [.r (.v (Value.pointer none)), .r (.v (.int .i64 12))]) []) fun h => gD h 23 ih.2.2) fun h => gD h 20 ih.2.1)
theorem qPC (k b d r) (h : Zc k b d = some r): qri b d r := qN Tryz.f31 (go (qIi k) [] qBd [.autoB [4, 5] true []] (qB h fun h => qB h fun h => gD h 8 (qBK k b d k).1))
theorem qD4 {k b d} (h : (Zc k b d).isSome): qri b d (qae k b d) := qJ h (qPC k b d)
theorem qu6 {k : Nat} {b : List T5.T} {d : T19.T} (h : (Zc k b d).isSome = true) (hb : (qae k b d).isLeft = true) : qQC b d (X7 k b d) := qGw (Φ := qri b d) (qD4 h) hb
theorem qxb {k : Nat} {b : List T5.T} {d : T19.T} (h : (Zc k b d).isSome = true) (hb : (qae k b d).isLeft = false) : qNp b d (wZ k b d) := qFo (Φ := qri b d) (qD4 h) hb
abbrev qJk (a : List T5.T) (b : Int) (d : Int) (r : Int) : Prop := CC Tryz.prog 12 [ro T5 a, ri b, ri d] [] (ri r) (nb r)
def qq1 (k : Nat) (a : List T5.T) (b : Int) (d : Int) : Option Int :=
 bif (Sum.isLeft (qae k a (b, d))) then
 if ((Zc k a (b, d)).isSome) then
 some (X7 k a (b, d))
 else none
 else
 if ((Zc k a (b, d)).isSome) then
 some ((wZ k a (b, d)).1)
 else none
def qiV := fun k a b d => (qq1 k a b d).getD 0
def qPt (k : Nat) : Ke := (12, mo 3, fun
 | [.r (.ro f e), .r (.v (.int .i64 b)), .r (.v (.int .i64 d))], [] => (qE f T5 e).bind fun a => some (.one (ri (qiV k a b d), []))
 | _, _ => none)
theorem qOp (k a b d r) (h : qq1 k a b d = some r): qJk a b d r := qN Tryz.f12 (go (qD [qBl k]) [] [] [.autoB [6] true []] (gT h (fun c h => qu h (fun q => qu6 q (by assumption)) fun h => gL h) fun c h => qu h (fun q => qxb q (by assumption)) fun h => gL h))
theorem qNN {k a b d} (h : (qq1 k a b d).isSome): qJk a b d (qiV k a b d) := qJ h (qOp k a b d)
end
def Wl (p : List Ro) : Prop := ∀ r ∈ p, Small r.2.2
theorem Wl.size {p : List Ro} {W L : Int} (h : Wl p) (hW : 0 ≤ W ∧ W ≤ 12000) (id : Int) : 0 ≤ (wn p W L id).1 ∧ (wn p W L id).1 ≤ 12000 := by
 unfold wn
 by_cases h0 : id = 0
 ·rw [qd h0]; exact hW
 ·rw [qm h0]
  cases e : look p id with
  | none => exact ⟨by decide, by decide⟩
  | some q =>
   obtain ⟨a, b, c, _⟩ := h q (zt e).1
   exact ⟨by show 0 ≤ q.2.2.2.1; omega, by show q.2.2.2.1 ≤ _; omega⟩
theorem Wl.snoc {p : List Ro} {W L : Int} {r : Ro} (h : Wl p) (hW : 0 ≤ W ∧ W ≤ 12000) (f : vG p W L r = 0) : Wl (p ++ [r]) := by
 obtain ⟨_, _, _, c⟩ := qgf.1 f
 obtain ⟨s1, s2⟩ := h.size (L := L) hW r.2.1
 intro q hq
 rcases zW.1 hq with hq | hq
 ·exact h q hq
 ·rw [List.mem_singleton] at hq
  subst hq
  have := c.right
  exact ⟨c.left, c.width, by omega, c.chk⟩
theorem qft (k : Nat) (hk : 2100 ≤ k) (W L : Int) (p t : List Ro) (M : List (Int × Int)) (id : Int) (hp : Wl p) (hM : Qn M p) (h : id = 0 ∨ ∃ q, look p id = some q) : qfz k W L (p ++ t) M id = some (wn p W L id) := by
 unfold qfz wn
 by_cases h0 : id = 0
 ·rw [qd h0, show (id == 0) = true from beq_iff_eq.2 h0, qi]
 ·rw [qm h0, show (id == 0) = false from beq_false_of_ne h0, qg]
  rcases h with h | ⟨q, h⟩
  ·exact absurd h h0
  ·obtain ⟨i, e1, e2, e3⟩ := (hM id).some h
   have hl : (p ++ t).length = p.length + t.length := qn
   have hs := hp q (zt h).1
   have hi : (i : Int) < ((p ++ t).length : Int) := by omega
   rw [e1, qRI, qd ⟨by omega, hi⟩, qc, YB _ _ _ _ e2, e3, h]
   show (if (qaV k q.2.2.2.2.2).isSome = true then some (q.2.2.2.1, (X2 k q.2.2.2.2.2).1) else none) = _
   rw [qcm k hk _ hs.chk, qih k hk _ hs.chk]
   rfl
theorem qm3 (k : Nat) (hk : 2100 ≤ k) (W L : Int) (p t : List Ro) (M : List (Int × Int)) (id : Int) (hp : Wl p) (hM : Qn M p) (h : id = 0 ∨ ∃ q, look p id = some q) : X5 k W L (p ++ t) M id = wn p W L id := by
 unfold X5; rw [qft k hk W L p t M id hp hM h]; rfl
theorem quQ (k : Nat) (W L : Int) (l : List Ro) (M : List (Int × Int)) (r : Ro) (n : Int) (m : List Rn) (hm : goods m) (hl : m.length ≤ 256) : ∀ (d i j : Nat), i + d = m.length → d < j →
  WK k W L l M r j n m (m.length : Int) (i : Int) = some (if fitsIn n (m.drop i) then 0 else 21) := by
 intro d
 induction d with
 | zero =>
  intro i j hi hj
  obtain ⟨j, rfl⟩ := qQ (by omega : 0 < j)
  rw [WK, qx (by omega : ¬ (i : Int) < (m.length : Int)), qg, qh (by omega), qd (by trivial)]
 | succ d ih =>
  intro i j hi hj
  obtain ⟨j, rfl⟩ := qQ (by omega : 0 < j)
  have hg : good (m.getD i T3.dflt) := hm.mem _ (w8 _ _ _ (by omega))
  rw [WK, qA (by omega : (i : Int) < (m.length : Int)), qi, qd ⟨by omega, by omega⟩, qc, X1 k _ hg, qbw k _ hg, qb, qd rfl, qq m i T3.dflt (by omega), qF i (by omega)]
  show (bif decide (Go.AM.hi (m.getD i T3.dflt) ≥ n) then _ else _) = _
  by_cases h : Go.AM.hi (m.getD i T3.dflt) ≥ n
  ·rw [qA h, qi, qm (fun e : fitsIn n (m.getD i T3.dflt :: m.drop (i + 1)) => by have := e.1; omega)]
  ·rw [qx h, qg, ih (i + 1) j (by omega) (by omega)]
   by_cases h2 : fitsIn n (m.drop (i + 1))
   ·rw [qd h2, qd (show fitsIn n (m.getD i T3.dflt :: m.drop (i + 1)) from ⟨by omega, h2⟩)]
   ·rw [qm h2, qm (fun e : fitsIn n (m.getD i T3.dflt :: m.drop (i + 1)) => h2 e.2)]
theorem qtc (c : Ch) (w : Int) (hw : 0 ≤ w ∧ w ≤ 12000) : (decide (c.1 < (0 : Int)) || decide (c.2.1 < (1 : Int)) || decide (c.1 > w) || decide (c.2.1 > qa .i64 (w - c.1))) = decide (c.1 < 0 ∨ c.2.1 < 1 ∨ c.1 > w ∨ c.2.1 > w - c.1) := by
 by_cases h1 : c.1 < 0
 ·rw [qA h1, zX, zX, zX, qA (Or.inl h1)]
 ·by_cases h2 : c.2.1 < 1
  ·rw [qA h2, Bool.or_true, zX, zX, qA (Or.inr (Or.inl h2))]
  ·by_cases h3 : c.1 > w
   ·rw [qA h3, Bool.or_true, zX, qA (Or.inr (Or.inr (Or.inl h3)))]
   ·rw [qx h1, qx h2, qx h3, qo (by omega) (by omega), Bool.or_false, Bool.or_false, zn]
    by_cases h4 : c.2.1 > w - c.1
    ·rw [qA h4, qA (Or.inr (Or.inr (Or.inr h4)))]
    ·rw [qx h4, qx (by omega)]
theorem qgY (k : Nat) (hk : 2100 ≤ k) (W L : Int) (l : List Ro) (M : List (Int × Int)) (r : Ro) (c : Ch) (w n : Int) (hw : 0 ≤ w ∧ w ≤ 12000) :
  (bif (decide (c.1 < (0 : Int)) || decide (c.2.1 < (1 : Int)) || decide (c.1 > w) || decide (c.2.1 > qa .i64 (w - c.1))) then some 20
   else if ((ZY k c.2.2.2).isSome = true) then
    bif (vD k c.2.2.2 != (0 : Int)) then some (vD k c.2.2.2)
    else bif ((↑ (qe c.2.2.2) : Int) == (0 : Int)) then some 10
    else if ((qcD k c.2.2.2).isSome = true) then
     bif (!qgl k c.2.2.2) then some 12
     else WK k W L l M r k n c.2.2.2 ((↑ (qe c.2.2.2) : Int)) 0
    else none
   else none) = some (qlG c w n) := by
 unfold qlG
 rw [qtc c w hw, QN k (by omega), W5 k (by omega), qb, qd rfl, qhp k hk, qtC k hk, qb, qd rfl]
 by_cases h1 : c.1 < 0 ∨ c.2.1 < 1 ∨ c.1 > w ∨ c.2.1 > w - c.1
 ·rw [qA h1, qi, qd h1]
 ·rw [qx h1, qg, qm h1]
  by_cases h2 : chk c.2.2.2 = 0
  ·have hc := wW.1 h2
   have hl := hc.len
   rw [show (chk c.2.2.2 != 0) = false by simp [h2], qg, qm (fun h : chk c.2.2.2 ≠ 0 => h h2)]
   by_cases h3 : c.2.2.2 = []
   ·rw [h3, qd rfl]; rfl
   ·rw [qm h3, show (((qe c.2.2.2 : Nat) : Int) == 0) = false from beq_false_of_ne (fun e => h3 (List.length_eq_zero_iff.1 (by omega))), qg]
    cases h4 : vh c.2.2.2
    ·rfl
    ·rw [vB, qg, qm (by decide)]
     refine (quQ k W L l M r n c.2.2.2 hc.goods hl c.2.2.2.length 0 k (by omega) (by omega)).trans ?_
     rw [wm]
  ·rw [show (chk c.2.2.2 != 0) = true by simp [h2], qi, qd h2]
theorem qmo (k : Nat) (hk : 2100 ≤ k) (W L : Int) (hW : 0 ≤ W ∧ W ≤ 12000) (p t : List Ro) (M : List (Int × Int)) (r : Ro) (hp : Wl p) (hM : Qn M p) : qjQ k W L (p ++ t) M r = some (vG p W L r) := by
 unfold qjQ vG
 by_cases h1 : r.1 < 1 ∨ r.1 > 1000000
 ·rw [qd h1, show (decide (r.1 < 1) || decide (r.1 > 1000000)) = true by simpa using h1, qi]
 ·rw [qm h1, show (decide (r.1 < 1) || decide (r.1 > 1000000)) = false by simp; omega, qg]
  have hs := hp.size (L := L) hW r.2.1
  by_cases h2 : r.2.1 = 0
  ·rw [show (r.2.1 != 0) = false by simp [h2], qg, qd rfl, qm (fun h : r.2.1 ≠ 0 ∧ look p r.2.1 = none => h.1 h2), qft k hk W L p t M r.2.1 hp hM (.inl h2), qm3 k hk W L p t M r.2.1 hp hM (.inl h2), qb, qd rfl]
   exact qgY k hk W L (p ++ t) M r r.2.2 _ _ hs
  ·have hkn : WA k W L (p ++ t) M r.2.1 = (wd I r.2.1 M).isSome := by unfold WA Xu; rfl
   rw [show (r.2.1 != 0) = true by simp [h2], qi, qd ⟨rfl, rfl⟩, hkn, ww]
   cases e : look p r.2.1 with
   | none => rw [(hM r.2.1).none e, qd (show r.2.1 ≠ 0 ∧ (none : Option Ro) = none from ⟨h2, rfl⟩)]; rfl
   | some q =>
    obtain ⟨i, e1, e2, e3⟩ := (hM r.2.1).some e
    rw [e1, qm (show ¬ (r.2.1 ≠ 0 ∧ some q = none) from fun h => nomatch h.2), qb, vB, qg, qft k hk W L p t M r.2.1 hp hM (.inr ⟨q, e⟩), qm3 k hk W L p t M r.2.1 hp hM (.inr ⟨q, e⟩), qb, qd rfl]
    exact qgY k hk W L (p ++ t) M r r.2.2 _ _ hs
theorem qx5 (k : Nat) (hk : 2100 ≤ k) (W L : Int) (hW : 0 ≤ W ∧ W ≤ 12000) (p t : List Ro) (M : List (Int × Int)) (r : Ro) (hp : Wl p) (hM : Qn M p) : qfM k W L (p ++ t) M r = vG p W L r := by
 unfold qfM; rw [qmo k hk W L hW p t M r hp hM]; rfl
theorem quM (k : Nat) (hk : 70000 ≤ k) (l : List Ro) (n i W L : Int) (M : List (Int × Int)) (r : Ro) (hr : Small r.2.2) (p : List Ro) (hp : Wl p) (hpl : p.length ≤ 512) : ∀ (d q m : Nat), q + d = p.length →
  Zq k (m + d + 1) l l n i p (p.length : Int) (q : Int) W L l M r = if QE (p.drop q) r = true then some (.inl 12) else Zr k m l l n (qa .i64 (i + 1)) W L l M := by
 intro d
 induction d with
 | zero =>
  intro q m hq
  rw [Zq, qx (by omega : ¬ (q : Int) < (p.length : Int)), qg, qh (by omega), qm (by unfold QE; rw [List.any_nil]; decide)]
 | succ d ih =>
  intro q m hq
  have hs : Small (p.getD q T5.dflt).2.2 := hp _ (w8 _ _ _ (by omega))
  have hc : QE (p.drop q) r = ((r.2.1 == (p.getD q T5.dflt).2.1) && VP r.2.2 (p.getD q T5.dflt).2.2 || QE (p.drop (q + 1)) r) := by
   unfold QE; rw [qq p q T5.dflt (by omega), List.any_cons]
  rw [show m + (d + 1) + 1 = (m + d + 1) + 1 from rfl, Zq, qA (by omega : (q : Int) < (p.length : Int)), qi, qd ⟨by omega, by omega⟩, qc, qF q (by omega), ih (q + 1) m (by omega), hc]
  cases e : (r.2.1 == (p.getD q T5.dflt).2.1)
  ·rw [qg, qd rfl, wD, zn]
  ·rw [qi, ww, qqS k hk _ _ hr hs, qd ⟨rfl, by rw [qgF k hk _ _ hr hs]; rfl⟩, ww]
   cases VP r.2.2 (p.getD q T5.dflt).2.2
   ·rw [qg, zn]
   ·rfl
set_option maxRecDepth 20000 in
theorem quw (k : Nat) (hk : 70000 ≤ k) (l : List Ro) (W L : Int) (M : List (Int × Int)) (hl : Wl l) (hll : l.length ≤ 512) : ∀ (d i j : Nat), i + d = l.length → d * 514 < j →
  Zr k j l l (l.length : Int) (i : Int) W L l M = if ze (l.take i) (l.drop i) = true then some (.inl 12) else some (.inr (0, W, L, l, M)) := by
 intro d
 induction d with
 | zero =>
  intro i j hi hj
  obtain ⟨j, rfl⟩ := qQ (by omega : 0 < j)
  rw [Zr, qx (by omega : ¬ (i : Int) < (l.length : Int)), qg, qh (by omega), ze, qm (by decide)]
 | succ d ih =>
  intro i j hi hj
  obtain ⟨j, rfl⟩ : ∃ q, j = (q + (l.take i).length + 1) + 1 := ⟨j - (l.take i).length - 2, by rw [Qt]; omega⟩
  rw [Qt] at hj
  have hs : Small (l.getD i T5.dflt).2.2 := hl _ (w8 _ _ _ (by omega))
  have h23 := quM k hk l (l.length : Int) (i : Int) W L M (l.getD i T5.dflt) hs (l.take i) (fun r hr => hl r (List.mem_of_mem_take hr)) (by rw [Qt]; omega) (l.take i).length 0 j (by omega)
  rw [Zr, qA (by omega : (i : Int) < (l.length : Int)), qi, qd ⟨by omega, by omega⟩, qd ⟨by omega, by omega, by omega⟩, qc, Int.toNat_zero, wm, Nat.sub_zero]
  refine h23.trans ?_
  rw [wm, qF i (by omega), ih (i + 1) j (by omega) (by omega), qq l i T5.dflt (by omega), ze, wU l i T5.dflt (by omega)]
  cases QE (l.take i) (l.getD i T5.dflt)
  ·rw [qm (by decide), zn]
  ·rfl
theorem qzf (k : Nat) (hk : 300000 ≤ k) (l : List Ro) (W L : Int) (hW : 0 ≤ W ∧ W ≤ 12000) (hll : l.length ≤ 512) : ∀ (d i j : Nat) (dup : Bool) (M : List (Int × Int)), i + d = l.length → d + 1 + 263168 < j → Qn M (l.take i) → Wl (l.take i) →
  ∃ M', (w9 W L (l.take i) (l.drop i) = 0 → Qn M' l ∧ Wl l) ∧ Qb k j l dup l (l.length : Int) (i : Int) W L l M =
   if w9 W L (l.take i) (l.drop i) ≠ 0 then some (.inl (w9 W L (l.take i) (l.drop i))) else if (dup || vC (l.take i) (l.drop i)) = true then some (.inl 6) else if ze [] l = true then some (.inl 12) else some (.inr (0, W, L, l, M')) := by
 intro d
 induction d with
 | zero =>
  intro i j dup M hi hj hM hw
  obtain ⟨j, rfl⟩ := qQ (by omega : 0 < j)
  have h20 := quw k (by omega) l W L M (by rw [wI (by omega)] at hw; exact hw) hll l.length 0 j (by omega) (by omega)
  rw [wI (by omega : l.length ≤ i)] at hM hw
  refine ⟨M, fun _ => ⟨hM, hw⟩, ?_⟩
  rw [Qb, qx (by omega : ¬ (i : Int) < (l.length : Int)), qg, qh (by omega), w9, qm (fun h => h rfl), vC, Bool.or_false]
  cases dup
  ·rw [qg, qm (by decide)]
   exact h20
  ·rfl
 | succ d ih =>
  intro i j dup M hi hj hM hw
  obtain ⟨j, rfl⟩ := qQ (by omega : 0 < j)
  have hf := qmo k (by omega) W L hW (l.take i) (l.drop i) M (l.getD i T5.dflt) hw hM
  have hv := qx5 k (by omega) W L hW (l.take i) (l.drop i) M (l.getD i T5.dflt) hw hM
  rw [qnA] at hf hv
  have hkn : WA k W L l M (l.getD i T5.dflt).1 = (wd I (l.getD i T5.dflt).1 M).isSome := by unfold WA Xu; rfl
  have ht := wU l i T5.dflt (by omega)
  by_cases h1 : vG (l.take i) W L (l.getD i T5.dflt) = 0
  ·have hw2 : Wl (l.take (i + 1)) := by rw [ht]; exact hw.snoc hW h1
   cases e : look (l.take i) (l.getD i T5.dflt).1 with
   | none =>
    have hM2 : Qn (vq I (l.getD i T5.dflt).1 (i : Int) M) (l.take (i + 1)) := by
     have := qz3 hM (l.getD i T5.dflt) e
     rw [ht]
     rw [Qt, show min i l.length = i by omega] at this
     exact this
    obtain ⟨M', m1, m2⟩ := ih (i + 1) j dup _ (by omega) (by omega) hM2 hw2
    rw [ht] at m1 m2
    rw [qq l i T5.dflt (by omega), w9, qm (fun h => h h1), vC, e]
    refine ⟨M', m1, ?_⟩
    rw [Qb, qA (by omega : (i : Int) < (l.length : Int)), qi, qd ⟨by omega, by omega⟩, qc, hf, hv, qb, qd rfl, h1]
    show (bif WA k W L l M (l.getD i T5.dflt).1 then _ else _) = _
    rw [hkn, (hM _).none e, qF i (by omega)]
    exact m2
   | some q =>
    have hM2 : Qn M (l.take (i + 1)) := by
     have := qAo hM (l.getD i T5.dflt) (by rw [e]; rfl)
     rw [ht]
     exact this
    obtain ⟨M', m1, m2⟩ := ih (i + 1) j true _ (by omega) (by omega) hM2 hw2
    rw [ht] at m1 m2
    rw [qq l i T5.dflt (by omega), w9, qm (fun h => h h1), vC, e]
    refine ⟨M', m1, ?_⟩
    obtain ⟨a, b, _, _⟩ := (hM _).some e
    rw [Qb, qA (by omega : (i : Int) < (l.length : Int)), qi, qd ⟨by omega, by omega⟩, qc, hf, hv, qb, qd rfl, h1]
    show (bif WA k W L l M (l.getD i T5.dflt).1 then _ else _) = _
    rw [hkn, b, qF i (by omega), qb, qb, zX, Bool.or_true]
    rw [zX] at m2
    exact m2
  ·rw [qq l i T5.dflt (by omega), w9, qd h1]
   refine ⟨M, fun h => absurd h h1, ?_⟩
   rw [Qb, qA (by omega : (i : Int) < (l.length : Int)), qi, qd ⟨by omega, by omega⟩, qc, hf, hv, qb, qd rfl, show (vG (l.take i) W L (l.getD i T5.dflt) != 0) = true from bne_iff_ne.2 h1, qi, qd h1]
theorem qGM (k : Nat) (hk : 300000 ≤ k) (l : List Ro) (web : Int × Int) : (w7 l web.1 web.2 ≠ 0 → Zc k l web = some (.inl (w7 l web.1 web.2))) ∧ (w7 l web.1 web.2 = 0 → ∃ M, Qn M l ∧ Wl l ∧ Zc k l web = some (.inr (0, web.1, web.2, l, M))) := by
 obtain ⟨W, L⟩ := web
 show (w7 l W L ≠ 0 → Zc k l (W, L) = some (.inl (w7 l W L))) ∧ (w7 l W L = 0 → ∃ M, Qn M l ∧ Wl l ∧ Zc k l (W, L) = some (.inr (0, W, L, l, M)))
 unfold Zc w7
 show ((if _ then _ else _ : Int) ≠ 0 → (bif decide (W < (1 : Int)) || decide (W > (12000 : Int)) || decide (L < (0 : Int)) || decide (L > (17179869184 : Int)) then some (.inl 1) else bif _ then _ else Qb k k l false l (l.length : Int) 0 W L l []) = _) ∧ (_ → ∃ M, Qn M l ∧ Wl l ∧ (bif decide (W < (1 : Int)) || decide (W > (12000 : Int)) || decide (L < (0 : Int)) || decide (L > (17179869184 : Int)) then some (.inl 1) else bif _ then _ else Qb k k l false l (l.length : Int) 0 W L l []) = _)
 by_cases h1 : W < 1 ∨ W > 12000 ∨ L < 0 ∨ L > 17179869184
 ·rw [qd h1, show (decide (W < (1 : Int)) || decide (W > (12000 : Int)) || decide (L < (0 : Int)) || decide (L > (17179869184 : Int))) = true by simp; omega]
  exact ⟨fun _ => rfl, fun h => absurd h (by decide)⟩
 ·rw [qm h1, show (decide (W < (1 : Int)) || decide (W > (12000 : Int)) || decide (L < (0 : Int)) || decide (L > (17179869184 : Int))) = false by simp; omega, qg]
  by_cases h2 : l.length > 512
  ·rw [qd h2, qA (by omega : (l.length : Int) > 512)]
   exact ⟨fun _ => rfl, fun h => absurd h (by decide)⟩
  ·rw [qm h2, qx (by omega : ¬ (l.length : Int) > 512), qg]
   obtain ⟨M, m1, m2⟩ := qzf k hk l W L (by omega) (by omega) l.length 0 k false [] (by omega) (by omega) (by rw [List.take_zero]; exact qzD) (fun r hr => by simp at hr)
   rw [List.take_zero, wm, zn] at m2
   rw [List.take_zero, wm] at m1
   rw [show Qb k k l false l (l.length : Int) 0 W L l [] = _ from m2]
   by_cases h3 : w9 W L [] l = 0
   ·rw [qm (fun h : w9 W L [] l ≠ 0 => h h3), qm (fun h : w9 W L [] l ≠ 0 => h h3)]
    have ff : ¬ (false = true) := Bool.false_ne_true
    have tt : true = true := rfl
    cases vC [] l
    ·rw [qm ff, qm ff]
     cases ze [] l
     ·rw [qm ff, qm ff]
      exact ⟨fun h => absurd rfl h, fun _ => ⟨M, (m1 h3).1, (m1 h3).2, rfl⟩⟩
     ·rw [qd tt, qd tt]
      exact ⟨fun _ => rfl, fun h => absurd h (by decide)⟩
    ·rw [qd tt, qd tt]
     exact ⟨fun _ => rfl, fun h => absurd h (by decide)⟩
   ·rw [qd h3, qd h3]
    exact ⟨fun _ => rfl, fun h => absurd h h3⟩
end Go.AM
