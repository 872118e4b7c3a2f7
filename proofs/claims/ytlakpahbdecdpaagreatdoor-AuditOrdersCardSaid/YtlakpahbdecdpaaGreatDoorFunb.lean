/- Contracts of the functions that the law reaches, and the plain law. -/
import Derived.Test.YtlakpahbdecdpaaGreatDoorFuna
set_option linter.unusedVariables false
set_option linter.unusedSimpArgs false
set_option linter.unusedSectionVars false
open Bool renaming and_eq_true → qj, and_false → qHb, false_and → wD, false_eq_true → qG, false_or → zn, not_false → qd1, not_true → vB, or_eq_false_iff → WN, or_eq_true → qJr, true_and → ww, true_or → zX
open Int renaming le_refl → Wg, toNat → qt, toNat_natCast → qc
open List renaming all_eq_true → vA, append_assoc → qw, append_nil → qY, cons_append → qpk, drop → qaJ, drop_of_length_le → qh, drop_zero → wm, length → qe, length_append → qn, length_cons → wc, length_singleton → qk, length_take → Qt, mem_append → zW, mem_cons → qK, nil_append → qH, pairwise_cons → zK, take → qdv, take_append_drop → qnA, take_of_length_le → wI
open Nat renaming le_refl → qT
open Option renaming getD_some → qRI, isSome_some → qb
open Go.IntKind renaming wrap → qa
namespace Go.AM
open Go Go.Proofs
noncomputable section
def qnC (r : List T3.T × Int) : AV := .tup [ro T3 r.1, ri r.2]
abbrev qJl (a : List T3.T) (b : List T3.T) (r : List T3.T × Int) : Prop := CC Tryz.prog 135 [ro T3 a, ro T3 b] [] (qnC r) (nb r)
def qFr := fun y0 y1 y2 y3 => (⟨qI 101 [(0, ro T3 y0), (1, ro T3 y1), (8, ro T3 y2), (9, ri y3)], []⟩ : St)
def qBk := fun y0 y1 y2 y3 y4 => (⟨qI 101 [(0, ro T3 y0), (1, ro T3 y1), (8, ro T3 y2), (9, ri y3), (10, .ptr 1000000 0 0)], [(1000000, 0, .var 49 (qy (qr T3 y4)))]⟩ : St)
mutual
def WY (k : Nat) : Nat → List T3.T → List T3.T → List T3.T → Int → Option (List T3.T × Int)
 | 0, _, _, _, _ => none
 | j + 1, y0, y1, y2, y3 =>
 bif y3 < y0.length then
 if (0 ≤ y3) ∧ (y3 < y0.length) then
 Qj k j y0 y1 y2 y3 (y0.getD y3.toNat T3.dflt)
 else none
 else
 if ((qcK k y2).isSome) then
 some ((qde k y2).1, (qde k y2).2)
 else none
def Qj (k : Nat) : Nat → List T3.T → List T3.T → List T3.T → Int → T3.T → Option (List T3.T × Int)
 | 0, _, _, _, _, _ => none
 | j + 1, y0, y1, y2, y3, y4 =>
 bif y4.2.1 > (0 : Int) then
 if ((VG k y1 y4.1).isSome) then
 bif (qO k y1 y4.1).1 < (0 : Int) then
 some ([], 21)
 else
 if ((0 : Int) ≤ (qO k y1 y4.1).1) ∧ ((qO k y1 y4.1).1 < (↑y1.length : Int)) then
 bif y4.2.2 then
 if ((VF k (y1.getD (qO k y1 y4.1).1.toNat T3.dflt) (qO k y1 y4.1).2).isSome) ∧ ((qft k y2 (zi k (y1.getD (qO k y1 y4.1).1.toNat T3.dflt) (qO k y1 y4.1).2, if qa .i64 ((qO k y1 y4.1).2 + 1) < y4.2.1 then qa .i64 ((qO k y1 y4.1).2 + 1) else y4.2.1, ! (y1.getD (qO k y1 y4.1).1.toNat T3.dflt).2.2 && decide ((if qa .i64 ((qO k y1 y4.1).2 + 1) < y4.2.1 then qa .i64 ((qO k y1 y4.1).2 + 1) else y4.2.1) > 1))).isSome) then
 bif ((if qa .i64 ((qO k y1 y4.1).2 + (1 : Int)) < y4.2.1 then qa .i64 ((qO k y1 y4.1).2 + (1 : Int)) else y4.2.1) == y4.2.1) then
 WY k j y0 y1 (qc9 k y2 (zi k (y1.getD (qO k y1 y4.1).1.toNat T3.dflt) (qO k y1 y4.1).2, if qa .i64 ((qO k y1 y4.1).2 + 1) < y4.2.1 then qa .i64 ((qO k y1 y4.1).2 + 1) else y4.2.1, ! (y1.getD (qO k y1 y4.1).1.toNat T3.dflt).2.2 && decide ((if qa .i64 ((qO k y1 y4.1).2 + 1) < y4.2.1 then qa .i64 ((qO k y1 y4.1).2 + 1) else y4.2.1) > 1))) (qa .i64 (y3 + 1))
 else
 if ((VF k y4 (if qa .i64 ((qO k y1 y4.1).2 + 1) < y4.2.1 then qa .i64 ((qO k y1 y4.1).2 + 1) else y4.2.1)).isSome) then
 Qj k j y0 y1 (qc9 k y2 (zi k (y1.getD (qO k y1 y4.1).1.toNat T3.dflt) (qO k y1 y4.1).2, if qa .i64 ((qO k y1 y4.1).2 + 1) < y4.2.1 then qa .i64 ((qO k y1 y4.1).2 + 1) else y4.2.1, ! (y1.getD (qO k y1 y4.1).1.toNat T3.dflt).2.2 && decide ((if qa .i64 ((qO k y1 y4.1).2 + 1) < y4.2.1 then qa .i64 ((qO k y1 y4.1).2 + 1) else y4.2.1) > 1))) y3 (zi k y4 (if qa .i64 ((qO k y1 y4.1).2 + 1) < y4.2.1 then qa .i64 ((qO k y1 y4.1).2 + 1) else y4.2.1), (qa .i64 (y4.2.1 - if qa .i64 ((qO k y1 y4.1).2 + 1) < y4.2.1 then qa .i64 ((qO k y1 y4.1).2 + 1) else y4.2.1), y4.2.2))
 else none
 else none
 else
 if ((VF k (y1.getD (qO k y1 y4.1).1.toNat T3.dflt) (qO k y1 y4.1).2).isSome) ∧ ((qft k y2 (zi k (y1.getD (qO k y1 y4.1).1.toNat T3.dflt) (qO k y1 y4.1).2, if qa .i64 ((y1.getD (qO k y1 y4.1).1.toNat T3.dflt).2.1 - (qO k y1 y4.1).2) < y4.2.1 then qa .i64 ((y1.getD (qO k y1 y4.1).1.toNat T3.dflt).2.1 - (qO k y1 y4.1).2) else y4.2.1, (y1.getD (qO k y1 y4.1).1.toNat T3.dflt).2.2 && decide ((if qa .i64 ((y1.getD (qO k y1 y4.1).1.toNat T3.dflt).2.1 - (qO k y1 y4.1).2) < y4.2.1 then qa .i64 ((y1.getD (qO k y1 y4.1).1.toNat T3.dflt).2.1 - (qO k y1 y4.1).2) else y4.2.1) > 1))).isSome) then
 bif ((if qa .i64 ((y1.getD (qO k y1 y4.1).1.toNat T3.dflt).2.1 - (qO k y1 y4.1).2) < y4.2.1 then qa .i64 ((y1.getD (qO k y1 y4.1).1.toNat T3.dflt).2.1 - (qO k y1 y4.1).2) else y4.2.1) == y4.2.1) then
 WY k j y0 y1 (qc9 k y2 (zi k (y1.getD (qO k y1 y4.1).1.toNat T3.dflt) (qO k y1 y4.1).2, if qa .i64 ((y1.getD (qO k y1 y4.1).1.toNat T3.dflt).2.1 - (qO k y1 y4.1).2) < y4.2.1 then qa .i64 ((y1.getD (qO k y1 y4.1).1.toNat T3.dflt).2.1 - (qO k y1 y4.1).2) else y4.2.1, (y1.getD (qO k y1 y4.1).1.toNat T3.dflt).2.2 && decide ((if qa .i64 ((y1.getD (qO k y1 y4.1).1.toNat T3.dflt).2.1 - (qO k y1 y4.1).2) < y4.2.1 then qa .i64 ((y1.getD (qO k y1 y4.1).1.toNat T3.dflt).2.1 - (qO k y1 y4.1).2) else y4.2.1) > 1))) (qa .i64 (y3 + 1))
 else
 if ((VF k y4 (if qa .i64 ((y1.getD (qO k y1 y4.1).1.toNat T3.dflt).2.1 - (qO k y1 y4.1).2) < y4.2.1 then qa .i64 ((y1.getD (qO k y1 y4.1).1.toNat T3.dflt).2.1 - (qO k y1 y4.1).2) else y4.2.1)).isSome) then
 Qj k j y0 y1 (qc9 k y2 (zi k (y1.getD (qO k y1 y4.1).1.toNat T3.dflt) (qO k y1 y4.1).2, if qa .i64 ((y1.getD (qO k y1 y4.1).1.toNat T3.dflt).2.1 - (qO k y1 y4.1).2) < y4.2.1 then qa .i64 ((y1.getD (qO k y1 y4.1).1.toNat T3.dflt).2.1 - (qO k y1 y4.1).2) else y4.2.1, (y1.getD (qO k y1 y4.1).1.toNat T3.dflt).2.2 && decide ((if qa .i64 ((y1.getD (qO k y1 y4.1).1.toNat T3.dflt).2.1 - (qO k y1 y4.1).2) < y4.2.1 then qa .i64 ((y1.getD (qO k y1 y4.1).1.toNat T3.dflt).2.1 - (qO k y1 y4.1).2) else y4.2.1) > 1))) y3 (zi k y4 (if qa .i64 ((y1.getD (qO k y1 y4.1).1.toNat T3.dflt).2.1 - (qO k y1 y4.1).2) < y4.2.1 then qa .i64 ((y1.getD (qO k y1 y4.1).1.toNat T3.dflt).2.1 - (qO k y1 y4.1).2) else y4.2.1), (qa .i64 (y4.2.1 - if qa .i64 ((y1.getD (qO k y1 y4.1).1.toNat T3.dflt).2.1 - (qO k y1 y4.1).2) < y4.2.1 then qa .i64 ((y1.getD (qO k y1 y4.1).1.toNat T3.dflt).2.1 - (qO k y1 y4.1).2) else y4.2.1), y4.2.2))
 else none
 else none
 else none
 else none
 else
 WY k j y0 y1 y2 (qa .i64 (y3 + 1))
end
def qf4 (k : Nat) (a : List T3.T) (b : List T3.T) : Option (List T3.T × Int) :=
 if ((Z6 k a).isSome) then
 bif (vS k a != (0 : Int)) then
 some ([], vS k a)
 else
 if ((Z6 k b).isSome) then
 bif (vS k b != (0 : Int)) then
 some ([], vS k b)
 else
 WY k k a b ([]) 0
 else none
 else none
def YX := fun k a b => (qf4 k a b).getD ([], 0)
def qOx (k : Nat) : Ke := (135, mo 2, fun
 | [.r (.ro f d), .r (.ro i e)], [] => (qE f T3 d).bind fun a => (qE i T3 e).bind fun b => some (.one (qnC (YX k a b), []))
 | _, _ => none)
def qIo (k : Nat) : Calld := qD [qeb k, qh5 k, qOq k, qNJ k, qNF k]
def qzK : List (Nat × List Cmd) := [(9, [.frz 8 false (RTy.list T3), .autoB [0, 1, 8, 9] false []]), (12, [.autoB [0, 1, 8, 9, 10] false []])]
abbrev qIt := EP Tryz.f135 0 qnC nb
theorem qDn (k) : ∀ j, (∀ {y0 y1 y2 y3}, qIt 9 (qFr y0 y1 y2 y3) (WY k j y0 y1 y2 y3)) ∧ (∀ {y0 y1 y2 y3 y4}, qIt 12 (qBk y0 y1 y2 y3 y4) (Qj k j y0 y1 y2 y3 y4))
 | 0 => by and_intros <;> intros <;> exact e0
 | j + 1 => by
  have ih := @qDn k j
  have g := @go (qIo k) [] qzK [.frz 4 false (RTy.list T3), .autoB [4, 5] true []]
  refine ⟨?_, ?_⟩
  ·intro y0 y1 y2 y3 r h
   rw [WY] at h
   exact g (gS h (fun h => qS h fun h => gD h 12 ih.2) fun h => qu h qPt fun h => gL h)
  ·intro y0 y1 y2 y3 y4 r h
   rw [Qj] at h
   exact g (gS h (fun h => qu h qPX fun h => qB h fun h => qS h fun h => gS h (fun h => gN h (fun q => qf (qcf q.1) (qf (qBl q.2) qR)) fun h => gS h (fun h => gD h 9 ih.1) fun h => qu h qcf fun h => gD h 12 ih.2) fun h => gN h (fun q => qf (qcf q.1) (qf (qBl q.2) qR)) fun h => gS h (fun h => gD h 9 ih.1) fun h => qu h qcf fun h => gD h 12 ih.2) fun h => gD h 9 ih.1)
theorem qNv (k a b r) (h : qf4 k a b = some r): qJl a b r := qN Tryz.f135 (go (qIo k) [] qzK [.frz 4 false (RTy.list T3), .autoB [4, 5] true []] (qu h qbV fun h => qB h fun h => qu h qbV fun h => qB h fun h => gD h 9 (qDn k k).1))
theorem qCS {k a b} (h : (qf4 k a b).isSome): qJl a b (YX k a b) := qJ h (qNv k a b)
abbrev qIJ (a : List T21.T) (r : Int) : Prop := CC Tryz.prog 222 [ro T21 a] [] (ri r) (nb r)
def qGq := fun y0 y1 => (⟨qI 40 [(0, ro T21 y0), (3, ri y1)], []⟩ : St)
def qbt (k : Nat) : Nat → List T21.T → Int → Option Int
 | 0, _, _ => none
 | j + 1, y0, y1 =>
 bif y1 < y0.length then
 if (0 ≤ y1) ∧ (y1 < y0.length) ∧ (decide ((y0.getD y1.toNat T21.dflt).1 < (0 : Int)) = false → 0 ≤ y1) ∧ (decide ((y0.getD y1.toNat T21.dflt).1 < (0 : Int)) = false → y1 < y0.length) ∧ (decide ((y0.getD y1.toNat T21.dflt).1 < (0 : Int)) = false → 0 ≤ y1) ∧ (decide ((y0.getD y1.toNat T21.dflt).1 < (0 : Int)) = false → y1 < y0.length) ∧ ((decide ((y0.getD y1.toNat T21.dflt).1 < (0 : Int)) || decide ((y0.getD y1.toNat T21.dflt).1 > (y0.getD y1.toNat T21.dflt).2)) = false → 0 ≤ y1) ∧ ((decide ((y0.getD y1.toNat T21.dflt).1 < (0 : Int)) || decide ((y0.getD y1.toNat T21.dflt).1 > (y0.getD y1.toNat T21.dflt).2)) = false → y1 < y0.length) then
 bif (decide ((y0.getD y1.toNat T21.dflt).1 < (0 : Int)) || decide ((y0.getD y1.toNat T21.dflt).1 > (y0.getD y1.toNat T21.dflt).2) || decide ((y0.getD y1.toNat T21.dflt).2 > (17179869184 : Int))) then
 some 1
 else
 qbt k j y0 (qa .i64 (y1 + 1))
 else none
 else
 some 0
def qfH (k : Nat) (a : List T21.T) : Option Int :=
 bif (↑a.length : Int) > (256 : Int) then
 some 8
 else
 qbt k k a 0
def qdb := fun k a => (qfH k a).getD 0
def qP3 (k : Nat) : Ke := (222, mo 1, fun
 | [.r (.ro d b)], [] => (qE d T21 b).bind fun a => some (.one (ri (qdb k a), []))
 | _, _ => none)
def qzz : List (Nat × List Cmd) := [(4, [.autoB [0, 3] false []])]
abbrev qRJ := EP Tryz.f222 0 ri nb
theorem qE0 (k) : ∀ j, (∀ y0 y1, qRJ 4 (qGq y0 y1) (qbt k j y0 y1))
 | 0 => by intros; exact e0
 | j + 1 => by
  have ih := @qE0 k j
  ·intro y0 y1 r h
   rw [qbt] at h
   exact go (qD []) [] qzz [.autoB [2] true []] (gS h (fun h => gN h (fun q => qf q.1 (qf q.2.1 (qf q.2.2.1 (qf q.2.2.2.1 (qf q.2.2.2.2.1 (qf q.2.2.2.2.2.1 (qf q.2.2.2.2.2.2.1 (qf q.2.2.2.2.2.2.2 qR)))))))) fun h => qB h fun h => gC h 4 (ih _ _ _)) fun h => gL h)
theorem qQO (k a r) (h : qfH k a = some r): qIJ a r := qN Tryz.f222 (go (qD []) [] qzz [.autoB [2] true []] (qB h fun h => gC h 4 ((qE0 k k) _ _ _)))
theorem qCZ {k a} (h : (qfH k a).isSome): qIJ a (qdb k a) := qJ h (qQO k a)
abbrev qIp (a : List T21.T) (b : Int) (r : Bool) : Prop := CC Tryz.prog 234 [ro T21 a, ri b] [] (rb r) (nb r)
def qFo := fun y0 y1 y2 => (⟨qI 28 [(0, ro T21 y0), (1, ri y1), (5, ri y2)], []⟩ : St)
def qbn (k : Nat) : Nat → List T21.T → Int → Int → Option Bool
 | 0, _, _, _ => none
 | j + 1, y0, y1, y2 =>
 bif y2 < y0.length then
 if (0 ≤ y2) ∧ (y2 < y0.length) ∧ (decide ((y0.getD y2.toNat T21.dflt).1 ≤ y1) = true → 0 ≤ y2) ∧ (decide ((y0.getD y2.toNat T21.dflt).1 ≤ y1) = true → y2 < y0.length) then
 bif (decide ((y0.getD y2.toNat T21.dflt).1 ≤ y1) && decide (y1 < (y0.getD y2.toNat T21.dflt).2)) then
 some true
 else
 qbn k j y0 y1 (qa .i64 (y2 + 1))
 else none
 else
 some false
def qj7 (k : Nat) (a : List T21.T) (b : Int) : Option Bool :=
 qbn k k a b 0
def YV := fun k a b => (qj7 k a b).getD false
def qzm (k : Nat) : Ke := (234, mo 2, fun
 | [.r (.ro e d), .r (.v (.int .i64 b))], [] => (qE e T21 d).bind fun a => some (.one (rb (YV k a b), []))
 | _, _ => none)
def qDa : List (Nat × List Cmd) := [(2, [.autoB [0, 1, 5] false []])]
abbrev qR8 := EP Tryz.f234 0 rb nb
theorem qEw (k) : ∀ j, (∀ y0 y1 y2, qR8 2 (qFo y0 y1 y2) (qbn k j y0 y1 y2))
 | 0 => by intros; exact e0
 | j + 1 => by
  have ih := @qEw k j
  ·intro y0 y1 y2 r h
   rw [qbn] at h
   exact go (qD []) [] qDa [.autoB [4] true []] (gS h (fun h => gN h Xo fun h => qB h fun h => gC h 2 (ih _ _ _ _)) fun h => gL h)
theorem qNP (k a b r) (h : qj7 k a b = some r): qIp a b r := qN Tryz.f234 (go (qD []) [] qDa [.autoB [4] true []] (gC h 2 ((qEw k k) _ _ _ _)))
theorem qBV {k a b} (h : (qj7 k a b).isSome): qIp a b (YV k a b) := qJ h (qNP k a b)
def qob (r : List I.T) : AV := ro I r
abbrev qIh (a : List I.T) (b : Int) (r : List I.T) : Prop := CC Tryz.prog 280 [ro I a, ri b] [] (qob r) (nb r)
def qFh := fun y0 y1 y2 => (⟨qI 48 [(0, ro I y0), (1, ri y1), (5, ri y2)], []⟩ : St)
def qbq (k : Nat) : Nat → List I.T → Int → Int → Option (List I.T)
 | 0, _, _, _ => none
 | j + 1, y0, y1, y2 =>
 if (decide (y2 < y0.length) = true → 0 ≤ y2) ∧ (decide (y2 < y0.length) = true → y2 < y0.length) then
 bif (decide (y2 < y0.length) && decide (y0.getD y2.toNat I.dflt < y1)) then
 qbq k j y0 y1 (qa .i64 (y2 + 1))
 else
 if (decide (y2 < y0.length) = true → 0 ≤ y2) ∧ (decide (y2 < y0.length) = true → y2 < y0.length) then
 bif (decide (y2 < y0.length) && y0.getD y2.toNat I.dflt == y1) then
 some y0
 else
 if ((0 : Int) ≤ (0 : Int)) ∧ (0 ≤ y2) ∧ (y2 ≤ y0.length) ∧ (((0 : Nat) + (qdv (y2.toNat - qt (0 : Int)) (qaJ (qt (0 : Int)) y0)).length) * (8 : Nat) ≤ (140737488355328 : Nat)) then
 if ((([] ++ qdv (y2.toNat - qt (0 : Int)) (qaJ (qt (0 : Int)) y0)).length + [y1].length) * (8 : Nat) ≤ (140737488355328 : Nat)) then
 if (0 ≤ y2) ∧ (y2 ≤ y0.length) ∧ ((↑y0.length : Int) ≤ (↑y0.length : Int)) ∧ ((([] ++ qdv (y2.toNat - qt (0 : Int)) (qaJ (qt (0 : Int)) y0) ++ [y1]).length + (qdv ((↑y0.length : Int).toNat - y2.toNat) (qaJ y2.toNat y0)).length) * (8 : Nat) ≤ (140737488355328 : Nat)) then
 some ([] ++ qdv (y2.toNat - qt 0) (qaJ (qt 0) y0) ++ [y1] ++ qdv ((↑y0.length : Int).toNat - y2.toNat) (qaJ y2.toNat y0))
 else none
 else none
 else none
 else none
 else none
def qcL (k : Nat) (a : List I.T) (b : Int) : Option (List I.T) :=
 qbq k k a b 0
def qaf := fun k a b => (qcL k a b).getD []
def qA8 (k : Nat) : Ke := (280, mo 2, fun
 | [.r (.ro e d), .r (.v (.int .i64 b))], [] => (qE e I d).bind fun a => some (.one (qob (qaf k a b), []))
 | _, _ => none)
def qBv : List (Nat × List Cmd) := [(2, [.autoB [0, 1, 5] false []])]
abbrev qSv := EP Tryz.f280 0 qob nb
theorem qE8 (k) : ∀ j, (∀ y0 y1 y2, qSv 2 (qFh y0 y1 y2) (qbq k j y0 y1 y2))
 | 0 => by intros; exact e0
 | j + 1 => by
  have ih := @qE8 k j
  ·intro y0 y1 y2 r h
   rw [qbq] at h
   exact go (qD []) [] qBv [.frz 4 false (RTy.list I), .autoB [4] true []] (qS h fun h => gS h (fun h => gC h 2 (ih _ _ _ _)) fun h => qS h fun h => qB h fun h => gN h Xo fun h => qu h id fun h => gN h Xo fun h => gL h)
theorem qP5 (k a b r) (h : qcL k a b = some r): qIh a b r := qN Tryz.f280 (go (qD []) [] qBv [.frz 4 false (RTy.list I), .autoB [4] true []] (gC h 2 ((qE8 k k) _ _ _ _)))
theorem qmT {k a b} (h : (qcL k a b).isSome): qIh a b (qaf k a b) := qJ h (qP5 k a b)
def qol (r : List I.T) : AV := ro I r
abbrev qIR (a : List T21.T) (b : List T21.T) (r : List I.T) : Prop := CC Tryz.prog 262 [ro T21 a, ro T21 b] [] (qol r) (nb r)
def qFD := fun y0 y1 y2 y3 => (⟨qI 47 [(0, ro T21 y0), (1, ro T21 y1), (5, ro I y2), (6, ri y3)], []⟩ : St)
def qF9 := fun y0 y1 y2 => (⟨qI 47 [(1, ro T21 y0), (5, ro I y1), (7, ri y2)], []⟩ : St)
mutual
def qbu (k : Nat) : Nat → List T21.T → List T21.T → List I.T → Int → Option (List I.T)
 | 0, _, _, _, _ => none
 | j + 1, y0, y1, y2, y3 =>
 bif y3 < y0.length then
 if (0 ≤ y3) ∧ (y3 < y0.length) ∧ ((qcL k y2 (y0.getD y3.toNat T21.dflt).1).isSome) ∧ (0 ≤ y3) ∧ (y3 < y0.length) ∧ ((qcL k (qaf k y2 (y0.getD y3.toNat T21.dflt).1) (y0.getD y3.toNat T21.dflt).2).isSome) then
 qbu k j y0 y1 (qaf k (qaf k y2 (y0.getD y3.toNat T21.dflt).1) (y0.getD y3.toNat T21.dflt).2) (qa .i64 (y3 + 1))
 else none
 else
 qeB k j y1 y2 0
def qeB (k : Nat) : Nat → List T21.T → List I.T → Int → Option (List I.T)
 | 0, _, _, _ => none
 | j + 1, y0, y1, y2 =>
 bif y2 < y0.length then
 if (0 ≤ y2) ∧ (y2 < y0.length) ∧ ((qcL k y1 (y0.getD y2.toNat T21.dflt).1).isSome) ∧ (0 ≤ y2) ∧ (y2 < y0.length) ∧ ((qcL k (qaf k y1 (y0.getD y2.toNat T21.dflt).1) (y0.getD y2.toNat T21.dflt).2).isSome) then
 qeB k j y0 (qaf k (qaf k y1 (y0.getD y2.toNat T21.dflt).1) (y0.getD y2.toNat T21.dflt).2) (qa .i64 (y2 + 1))
 else none
 else
 some y1
end
def qnh (k : Nat) (a : List T21.T) (b : List T21.T) : Option (List I.T) :=
 qbu k k a b ([]) 0
def qnl := fun k a b => (qnh k a b).getD []
def qC7 (k : Nat) : Ke := (262, mo 2, fun
 | [.r (.ro f d), .r (.ro i e)], [] => (qE f T21 d).bind fun a => (qE i T21 e).bind fun b => some (.one (qol (qnl k a b), []))
 | _, _ => none)
def qEb : List (Nat × List Cmd) := [(3, [.frz 5 false (RTy.list I), .autoB [0, 1, 5, 6] false []]), (7, [.autoB [1, 5, 7] false []])]
abbrev qHc := EP Tryz.f262 0 qol nb
theorem qDP (k) : ∀ j, (∀ {y0 y1 y2 y3}, qHc 3 (qFD y0 y1 y2 y3) (qbu k j y0 y1 y2 y3)) ∧ (∀ {y0 y1 y2}, qHc 7 (qF9 y0 y1 y2) (qeB k j y0 y1 y2))
 | 0 => by and_intros <;> intros <;> exact e0
 | j + 1 => by
  have ih := @qDP k j
  have g := @go (qD [qA8 k]) [] qEb [.frz 4 false (RTy.list I), .autoB [4] true []]
  refine ⟨?_, ?_⟩
  ·intro y0 y1 y2 y3 r h
   rw [qbu] at h
   exact g (gS h (fun h => gN h (fun q => qf q.1 (qf q.2.1 (qf (qmT q.2.2.1) (qf q.2.2.2.1 (qf q.2.2.2.2.1 (qf (qmT q.2.2.2.2.2) qR)))))) fun h => gD h 3 ih.1) fun h => gD h 7 ih.2)
  ·intro y0 y1 y2 r h
   rw [qeB] at h
   exact g (gS h (fun h => gN h (fun q => qf q.1 (qf q.2.1 (qf (qmT q.2.2.1) (qf q.2.2.2.1 (qf q.2.2.2.2.1 (qf (qmT q.2.2.2.2.2) qR)))))) fun h => gD h 7 ih.2) fun h => gL h)
theorem qOv (k a b r) (h : qnh k a b = some r): qIR a b r := qN Tryz.f262 (go (qD [qA8 k]) [] qEb [.frz 4 false (RTy.list I), .autoB [4] true []] (gD h 3 (qDP k k).1))
theorem qQo {k a b} (h : (qnh k a b).isSome): qIR a b (qnl k a b) := qJ h (qOv k a b)
def qn9 (r : List T21.T) : AV := ro T21 r
abbrev qHB (a : List T21.T) (b : List T21.T) (d : Int) (r : List T21.T) : Prop := CC Tryz.prog 223 [ro T21 a, ro T21 b, ri d] [] (qn9 r) (nb r)
def qG8 := fun y0 y1 y2 y3 y4 y5 => (⟨qI 107 [(0, ro T21 y0), (1, ro T21 y1), (2, ri y2), (7, ro I y3), (8, .own 1000000 0), (9, ri y4)], [(1000000, 0, .row 91 T21 y5)]⟩ : St)
def Qx (k : Nat) : Nat → List T21.T → List T21.T → Int → List I.T → Int → List T21.T → Option (List T21.T)
 | 0, _, _, _, _, _, _ => none
 | j + 1, y0, y1, y2, y3, y4, y5 =>
 bif qa .i64 (y4 + 1) < (↑y3.length : Int) then
 if (0 ≤ y4) ∧ (y4 < y3.length) ∧ ((qj7 k y0 (y3.getD y4.toNat I.dflt)).isSome) ∧ (0 ≤ y4) ∧ (y4 < y3.length) ∧ ((qj7 k y1 (y3.getD y4.toNat I.dflt)).isSome) then
 bif (y2 == 0 && (!YV k y0 (y3.getD y4.toNat I.dflt)) && (!YV k y1 (y3.getD y4.toNat I.dflt)) || y2 == 1 && (! (YV k y0 (y3.getD y4.toNat I.dflt) && YV k y1 (y3.getD y4.toNat I.dflt))) || y2 == 2 && (!YV k y0 (y3.getD y4.toNat I.dflt) || YV k y1 (y3.getD y4.toNat I.dflt))) then
 Qx k j y0 y1 y2 y3 (qa .i64 (y4 + 1)) y5
 else
 if (decide (qa .i64 ((↑y5.length : Int) - (1 : Int)) ≥ (0 : Int)) = true → (0 : Int) ≤ qa .i64 ((↑y5.length : Int) - (1 : Int))) ∧ (decide (qa .i64 ((↑y5.length : Int) - (1 : Int)) ≥ (0 : Int)) = true → qa .i64 ((↑y5.length : Int) - (1 : Int)) < (↑y5.length : Int)) ∧ (decide (qa .i64 ((↑y5.length : Int) - (1 : Int)) ≥ (0 : Int)) = true → 0 ≤ y4) ∧ (decide (qa .i64 ((↑y5.length : Int) - (1 : Int)) ≥ (0 : Int)) = true → y4 < y3.length) then
 bif (decide (qa .i64 ((↑y5.length : Int) - (1 : Int)) ≥ (0 : Int)) && (y5.getD (qa .i64 ((↑y5.length : Int) - (1 : Int))).toNat T21.dflt).2 == y3.getD y4.toNat I.dflt) then
 if ((0 : Int) ≤ qa .i64 (y4 + 1)) ∧ (qa .i64 (y4 + 1) < (↑y3.length : Int)) ∧ ((0 : Int) ≤ qa .i64 ((↑y5.length : Int) - (1 : Int))) ∧ (qa .i64 ((↑y5.length : Int) - (1 : Int)) < (↑y5.length : Int)) then
 Qx k j y0 y1 y2 y3 (qa .i64 (y4 + 1)) (y5.set (qa .i64 ((↑y5.length : Int) - 1)).toNat ((y5.getD (qa .i64 ((↑y5.length : Int) - 1)).toNat T21.dflt).1, y3.getD (qa .i64 (y4 + 1)).toNat I.dflt))
 else none
 else
 if (0 ≤ y4) ∧ (y4 < y3.length) ∧ ((0 : Int) ≤ qa .i64 (y4 + 1)) ∧ (qa .i64 (y4 + 1) < (↑y3.length : Int)) ∧ ((y5.length + [(y3.getD y4.toNat I.dflt, y3.getD (qa .i64 (y4 + 1)).toNat I.dflt)].length) * (16 : Nat) ≤ (140737488355328 : Nat)) then
 Qx k j y0 y1 y2 y3 (qa .i64 (y4 + 1)) (y5 ++ [(y3.getD y4.toNat I.dflt, y3.getD (qa .i64 (y4 + 1)).toNat I.dflt)])
 else none
 else none
 else none
 else
 some y5
def qjg (k : Nat) (a : List T21.T) (b : List T21.T) (d : Int) : Option (List T21.T) :=
 if ((qnh k a b).isSome) then
 Qx k k a b d (qnl k a b) 0 ([])
 else none
def qjR := fun k a b d => (qjg k a b d).getD []
def qQX (k : Nat) : Ke := (223, mo 3, fun
 | [.r (.ro g e), .r (.ro i f), .r (.v (.int .i64 d))], [] => (qE g T21 e).bind fun a => (qE i T21 f).bind fun b => some (.one (qn9 (qjR k a b d), []))
 | _, _ => none)
def qDo : List (Nat × List Cmd) := [(4, [.row 8 91 T21, .autoB [0, 1, 2, 7, 8, 9] false []])]
abbrev qRW := EP Tryz.f223 0 qn9 nb
theorem qEv (k) : ∀ j, (∀ y0 y1 y2 y3 y4 y5, qRW 4 (qG8 y0 y1 y2 y3 y4 y5) (Qx k j y0 y1 y2 y3 y4 y5))
 | 0 => by intros; exact e0
 | j + 1 => by
  have ih := @qEv k j
  ·intro y0 y1 y2 y3 y4 y5 r h
   rw [Qx] at h
   exact go (qD [qzm k, qC7 k]) [] qDo [.frz 6 false (RTy.list T21), .autoB [6] true []] (gS h (fun h => gN h (fun q => qf q.1 (qf q.2.1 (qf (qBV q.2.2.1) (qf q.2.2.2.1 (qf q.2.2.2.2.1 (qf (qBV q.2.2.2.2.2) qR)))))) fun h => gS h (fun h => gC h 4 (ih _ _ _ _ _ _ _)) fun h => gN h Xo fun h => gS h (fun h => gN h Xo fun h => gC h 4 (ih _ _ _ _ _ _ _)) fun h => gN h (fun q => qf q.1 (qf q.2.1 (qf q.2.2.1 (qf q.2.2.2.1 (qf q.2.2.2.2 qR))))) fun h => gC h 4 (ih _ _ _ _ _ _ _)) fun h => gL h)
theorem qNM (k a b d r) (h : qjg k a b d = some r): qHB a b d r := qN Tryz.f223 (go (qD [qzm k, qC7 k]) [] qDo [.frz 6 false (RTy.list T21), .autoB [6] true []] (qu h qQo fun h => gC h 4 ((qEv k k) _ _ _ _ _ _ _)))
theorem qQE {k a b d} (h : (qjg k a b d).isSome): qHB a b d (qjR k a b d) := qJ h (qNM k a b d)
abbrev qx8 : Type := List T21.T × Int
def qvJ (r : qx8) : AV := .tup [ro T21 r.1, ri r.2]
abbrev qIb (a : List T21.T) (b : List T21.T) (d : Int) (r : qx8) : Prop := CC Tryz.prog 185 [ro T21 a, ro T21 b, ri d] [] (qvJ r) (nb r)
def qj4 (k : Nat) (a : List T21.T) (b : List T21.T) (d : Int) : Option qx8 :=
 if ((qfH k a).isSome) then
 bif (qdb k a != (0 : Int)) then
 some ([], qdb k a)
 else
 if ((qfH k b).isSome) then
 bif (qdb k b != (0 : Int)) then
 some ([], qdb k b)
 else
 if ((qjg k a b d).isSome) then
 bif (↑ (qe (qjR k a b d)) : Int) > (256 : Int) then
 some ([], 8)
 else
 some (qjR k a b d, 0)
 else none
 else none
 else none
def qjx := fun k a b d => (qj4 k a b d).getD ([], 0)
def qQt (k : Nat) : Ke := (185, mo 3, fun
 | [.r (.ro g e), .r (.ro i f), .r (.v (.int .i64 d))], [] => (qE g T21 e).bind fun a => (qE i T21 f).bind fun b => some (.one (qvJ (qjx k a b d), []))
 | _, _ => none)
theorem qRu (k a b d r) (h : qj4 k a b d = some r): qIb a b d r := qN Tryz.f185 (go (qD [qP3 k, qQX k]) [] [] [.frz 6 false (RTy.list T21), .autoB [6, 7] true []] (qu h qCZ fun h => qB h fun h => qu h qCZ fun h => qB h fun h => qu h qQE fun h => qB h fun h => gL h))
theorem qQ8 {k a b d} (h : (qj4 k a b d).isSome): qIb a b d (qjx k a b d) := qJ h (qRu k a b d)
abbrev qxS : Type := List T21.T × Int
def qwG (r : qxS) : AV := .tup [ro T21 r.1, ri r.2]
abbrev qIa (a : List T21.T) (r : qxS) : Prop := CC Tryz.prog 137 [ro T21 a] [] (qwG r) (nb r)
def qcX (k : Nat) (a : List T21.T) : Option qxS :=
 if ((qj4 k a [] 0).isSome) then
 some ((qjx k a [] 0).1, (qjx k a [] 0).2)
 else none
def YZ := fun k a => (qcX k a).getD ([], 0)
def qha (k : Nat) : Ke := (137, mo 1, fun
 | [.r (.ro d b)], [] => (qE d T21 b).bind fun a => some (.one (qwG (YZ k a), []))
 | _, _ => none)
theorem qQb (k a r) (h : qcX k a = some r): qIa a r := qN Tryz.f137 (go (qD [qQt k]) [] [] [.frz 2 false (RTy.list T21), .autoB [2, 3] true []] (qu h qQ8 fun h => gL h))
theorem qtx {k a} (h : (qcX k a).isSome): qIa a (YZ k a) := qJ h (qQb k a)
def qn5 (r : List T21.T × Int) : AV := .tup [ro T21 r.1, ri r.2]
abbrev qIn (a : List T3.T) (r : List T21.T × Int) : Prop := CC Tryz.prog 95 [ro T3 a] [] (qn5 r) (nb r)
def qGL := fun y0 y1 y2 => (⟨qI 51 [(0, ro T3 y0), (5, .own 1000000 0), (6, ri y1)], [(1000000, 0, .row 91 T21 y2)]⟩ : St)
def qCU := fun y0 => (⟨qI 51 [(5, ro T21 y0)], []⟩ : St)
mutual
def qbk (k : Nat) : Nat → List T3.T → Int → List T21.T → Option (List T21.T × Int)
 | 0, _, _, _ => none
 | j + 1, y0, y1, y2 =>
 bif y1 < y0.length then
 if (0 ≤ y1) ∧ (y1 < y0.length) ∧ (0 ≤ y1) ∧ (y1 < y0.length) ∧ (0 ≤ y1) ∧ (y1 < y0.length) ∧ ((VF k (y0.getD y1.toNat T3.dflt) (qa .i64 ((y0.getD y1.toNat T3.dflt).2.1 - 1))).isSome) then
 if ((y2.length + [(if zi k (y0.getD y1.toNat T3.dflt) (qa .i64 ((y0.getD y1.toNat T3.dflt).2.1 - (1 : Int))) < (y0.getD y1.toNat T3.dflt).1 then zi k (y0.getD y1.toNat T3.dflt) (qa .i64 ((y0.getD y1.toNat T3.dflt).2.1 - (1 : Int))) else (y0.getD y1.toNat T3.dflt).1, qa .i64 ((if zi k (y0.getD y1.toNat T3.dflt) (qa .i64 ((y0.getD y1.toNat T3.dflt).2.1 - (1 : Int))) > (y0.getD y1.toNat T3.dflt).1 then zi k (y0.getD y1.toNat T3.dflt) (qa .i64 ((y0.getD y1.toNat T3.dflt).2.1 - (1 : Int))) else (y0.getD y1.toNat T3.dflt).1) + (1 : Int)))].length) * (16 : Nat) ≤ (140737488355328 : Nat)) then
 qbk k j y0 (qa .i64 (y1 + 1)) (y2 ++ [(if zi k (y0.getD y1.toNat T3.dflt) (qa .i64 ((y0.getD y1.toNat T3.dflt).2.1 - 1)) < (y0.getD y1.toNat T3.dflt).1 then zi k (y0.getD y1.toNat T3.dflt) (qa .i64 ((y0.getD y1.toNat T3.dflt).2.1 - 1)) else (y0.getD y1.toNat T3.dflt).1, qa .i64 ((if zi k (y0.getD y1.toNat T3.dflt) (qa .i64 ((y0.getD y1.toNat T3.dflt).2.1 - 1)) > (y0.getD y1.toNat T3.dflt).1 then zi k (y0.getD y1.toNat T3.dflt) (qa .i64 ((y0.getD y1.toNat T3.dflt).2.1 - 1)) else (y0.getD y1.toNat T3.dflt).1) + 1))])
 else none
 else none
 else
 qgy k j y2
def qgy (k : Nat) : Nat → List T21.T → Option (List T21.T × Int)
 | 0, _ => none
 | j + 1, y0 =>
 if ((qcX k y0).isSome) then
 some ((YZ k y0).1, (YZ k y0).2)
 else none
end
def qcE (k : Nat) (a : List T3.T) : Option (List T21.T × Int) :=
 if ((Z6 k a).isSome) then
 bif (vS k a != (0 : Int)) then
 some ([], vS k a)
 else
 qbk k k a 0 ([])
 else none
def XY := fun k a => (qcE k a).getD ([], 0)
def qEo (k : Nat) : Ke := (95, mo 1, fun
 | [.r (.ro d b)], [] => (qE d T3 b).bind fun a => some (.one (qn5 (XY k a), []))
 | _, _ => none)
def qHA (k : Nat) : Calld := qD [qeb k, qh5 k, qha k]
def qAZ : List (Nat × List Cmd) := [(6, [.row 5 91 T21, .autoB [0, 5, 6] false []]), (10, [.frz 5 false (RTy.list T21), .autoB [5] false []])]
abbrev qI8 := EP Tryz.f95 0 qn5 nb
theorem qEl (k) : ∀ j, (∀ {y0 y1 y2}, qI8 6 (qGL y0 y1 y2) (qbk k j y0 y1 y2)) ∧ (∀ {y0}, qI8 10 (qCU y0) (qgy k j y0))
 | 0 => by and_intros <;> intros <;> exact e0
 | j + 1 => by
  have ih := @qEl k j
  have g := @go (qHA k) [10] qAZ [.frz 2 false (RTy.list T21), .autoB [2, 3] true []]
  refine ⟨?_, ?_⟩
  ·intro y0 y1 y2 r h
   rw [qbk] at h
   exact g (gS h (fun h => gN h (fun q => qf q.1 (qf q.2.1 (qf q.2.2.1 (qf q.2.2.2.1 (qf q.2.2.2.2.1 (qf q.2.2.2.2.2.1 (qf (qcf q.2.2.2.2.2.2) qR))))))) fun h => qu h id fun h => gD h 6 ih.1) fun h => gD h 10 ih.2)
  ·intro y0 r h
   rw [qgy] at h
   exact g (qu h qtx fun h => gL h)
theorem qPi (k a r) (h : qcE k a = some r): qIn a r := qN Tryz.f95 (go (qHA k) [10] qAZ [.frz 2 false (RTy.list T21), .autoB [2, 3] true []] (qu h qbV fun h => qB h fun h => gD h 6 (qEl k k).1))
theorem qsG {k a} (h : (qcE k a).isSome): qIn a (XY k a) := qJ h (qPi k a)
def qon (r : Int × Int) : AV := .tup [ri r.1, ri r.2]
abbrev qI7 (a : List T21.T) (r : Int × Int) : Prop := CC Tryz.prog 175 [ro T21 a] [] (qon r) (nb r)
def qGi := fun y0 y1 y2 y3 => (⟨qI 34 [(4, ro T21 y0), (5, ri y1), (6, ri y2), (7, ri y3)], []⟩ : St)
def qbh (k : Nat) : Nat → List T21.T → Int → Int → Int → Option (Int × Int)
 | 0, _, _, _, _ => none
 | j + 1, y0, y1, y2, y3 =>
 bif y3 < y0.length then
 if (0 ≤ y3) ∧ (y3 < y0.length) ∧ (0 ≤ y3) ∧ (y3 < y0.length) then
 qbh k j y0 y1 (qa .i64 (qa .i64 (y2 + (y0.getD y3.toNat T21.dflt).2) - (y0.getD y3.toNat T21.dflt).1)) (qa .i64 (y3 + 1))
 else none
 else
 some (y2, y1)
def qjb (k : Nat) (a : List T21.T) : Option (Int × Int) :=
 if ((qcX k a).isSome) then
 qbh k k ((YZ k a).1) ((YZ k a).2) 0 0
 else none
def qdr := fun k a => (qjb k a).getD (0, 0)
def qQJ (k : Nat) : Ke := (175, mo 1, fun
 | [.r (.ro d b)], [] => (qE d T21 b).bind fun a => some (.one (qon (qdr k a), []))
 | _, _ => none)
def qzV : List (Nat × List Cmd) := [(4, [.autoB [4, 5, 6, 7] false []])]
abbrev qSk := EP Tryz.f175 0 qon nb
theorem qzS (k) : ∀ j, (∀ y0 y1 y2 y3, qSk 4 (qGi y0 y1 y2 y3) (qbh k j y0 y1 y2 y3))
 | 0 => by intros; exact e0
 | j + 1 => by
  have ih := @qzS k j
  ·intro y0 y1 y2 y3 r h
   rw [qbh] at h
   exact go (qD [qha k]) [] qzV [.autoB [2, 3] true []] (gS h (fun h => gN h Xo fun h => gC h 4 (ih _ _ _ _ _)) fun h => gL h)
theorem qRa (k a r) (h : qjb k a = some r): qI7 a r := qN Tryz.f175 (go (qD [qha k]) [] qzV [.autoB [2, 3] true []] (qu h qtx fun h => gC h 4 ((qzS k k) _ _ _ _ _)))
theorem qOY {k a} (h : (qjb k a).isSome): qI7 a (qdr k a) := qJ h (qRa k a)
abbrev qHx (a : List T3.T) (r : Bool) : Prop := CC Tryz.prog 128 [ro T3 a] [] (rb r) (nb r)
def qdo (k : Nat) (a : List T3.T) : Option Bool :=
 if ((Z6 k a).isSome) then
 bif (vS k a != (0 : Int)) then
 some false
 else
 if ((qcE k a).isSome) then
 if ((qjb k (XY k a).1).isSome) then
 bif ((qdr k (XY k a).1).2 == (0 : Int)) then
 if (((qdr k (XY k a).1).2 == (0 : Int)) = true) ∧ ((qgk k a).isSome) then
 some (true && (qdr k (XY k a).1).1 == qjE k a)
 else none
 else
 if (((qdr k (XY k a).1).2 == (0 : Int)) = false) then
 some false
 else none
 else none
 else none
 else none
def qfo := fun k a => (qdo k a).getD false
def qOw (k : Nat) : Ke := (128, mo 1, fun
 | [.r (.ro d b)], [] => (qE d T3 b).bind fun a => some (.one (rb (qfo k a), []))
 | _, _ => none)
theorem qQw (k a r) (h : qdo k a = some r): qHx a r := qN Tryz.f128 (go (qD [qsv k, qeb k, qEo k, qQJ k]) [] [] [.autoB [2] true []] (qu h qbV fun h => qB h fun h => qu h qsG fun h => qu h qOY fun h => gS h (fun h => gN h (fun q => qf q.1 (qf (qCi q.2) qR)) fun h => gL h) fun h => qu h id fun h => gL h))
theorem qCR {k a} (h : (qdo k a).isSome): qHx a (qfo k a) := qJ h (qQw k a)
end
theorem QR (k : Nat) (r : Rn) (x : Int) (h1 : -4611686018427387904 ≤ r.1) (h2 : r.1 ≤ 4611686018427387903) (h3 : -4611686018427387904 ≤ x) (h4 : x ≤ 4611686018427387903) : qad k r x = some (wh r x) := by
 unfold qad wh
 cases r.2.2
 ·rw [qg, qo (by omega) (by omega), qm (by decide)]
 ·rw [qi, qo (by omega) (by omega), qd rfl]
theorem W6 (k : Nat) (r : Rn) (x : Int) (h1 : -4611686018427387904 ≤ r.1) (h2 : r.1 ≤ 4611686018427387903) (h3 : -4611686018427387904 ≤ x) (h4 : x ≤ 4611686018427387903) : vl k r x = wh r x := by
 unfold vl; rw [QR k r x h1 h2 h3 h4]; rfl
theorem zu (k : Nat) (r : Rn) (x : Int) (h1 : -4611686018427387904 ≤ r.1) (h2 : r.1 ≤ 4611686018427387903) (h3 : -4611686018427387904 ≤ x) (h4 : x ≤ 4611686018427387903) : VF k r x = some (wh r x) := by
 unfold VF wh
 cases r.2.2
 ·rw [qg, qo (by omega) (by omega), qm (by decide)]
 ·rw [qi, qo (by omega) (by omega), qd rfl]
theorem zG (k : Nat) (r : Rn) (x : Int) (h1 : -4611686018427387904 ≤ r.1) (h2 : r.1 ≤ 4611686018427387903) (h3 : -4611686018427387904 ≤ x) (h4 : x ≤ 4611686018427387903) : zi k r x = wh r x := by
 unfold zi; rw [zu k r x h1 h2 h3 h4]; rfl
theorem qhj {r : Rn} : good r ↔ ¬ ((decide (r.2.1 < 1) || decide (r.2.1 > 17179869184) || decide (r.1 < 0) || decide (r.1 ≥ 17179869184)) = true) ∧ ¬ ((r.2.2 && decide (r.1 - r.2.1 + 1 < 0) || (!r.2.2) && decide (r.1 + r.2.1 > 17179869184)) = true) := by
 unfold good
 simp only [qJr, decide_eq_true_eq, qj, Bool.not_eq_true', not_or, not_and]
 constructor
 ·rintro ⟨h1, h2, h3, h4, h5, h6⟩
  refine ⟨⟨⟨⟨by omega, by omega⟩, by omega⟩, by omega⟩, fun h => ?_, fun h => ?_⟩
  ·have := h5 h; omega
  ·have := h6 h; omega
 ·rintro ⟨⟨⟨⟨h1, h2⟩, h3⟩, h4⟩, h5, h6⟩
  refine ⟨by omega, by omega, by omega, by omega, fun h => ?_, fun h => ?_⟩
  ·have := h5 h; omega
  ·have := h6 h; omega
def qdc : Int → List Rn → Int
 | n, [] => if n > 17179869184 then 21 else 0
 | n, r :: t => if good r then qdc (n + r.2.1) t else 1
theorem qtc : ∀ (m : List Rn) (n : Int), qdc n m = if goods m then (if n + qv m > 17179869184 then 21 else 0) else 1
 | [], n => by simp [qdc, goods, qv]
 | r :: t, n => by
  unfold qdc
  by_cases h : good r
  ·rw [qd h, qtc t]
   by_cases h2 : goods t
   ·rw [qd h2, qd (show goods (r :: t) from ⟨h, h2⟩)]
    rw [show n + qv (r :: t) = n + r.2.1 + qv t by simp only [qv]; omega]
   ·rw [qm h2, qm (fun h3 : goods (r :: t) => h2 h3.2)]
  ·rw [qm h, qm (fun h3 : goods (r :: t) => h h3.1)]
theorem qOW (m : List Rn) : chk m = if m.length > 256 then 8 else qdc 0 m := by
 unfold chk; rw [qtc, Int.zero_add]
theorem quP (k : Nat) (m : List Rn) (hm : m.length ≤ 256) : ∀ (j i : Nat) (n : Int), i ≤ m.length → m.length - i < j → 0 ≤ n → n ≤ (i : Int) * 17179869184 →
  qbl k j n m (m.length : Int) (i : Int) = some (qdc n (m.drop i)) := by
 intro j
 induction j with
 | zero => intros; omega
 | succ j ih =>
  intro i n hi hj h0 hn
  unfold qbl
  by_cases h : i < m.length
  ·rw [qA (by omega : (i : Int) < (m.length : Int)), qi, qd ⟨by omega, by omega⟩, qq m i T3.dflt h]
   rw [qc]
   unfold qdc
   by_cases hg : good (m.getD i T3.dflt)
   ·obtain ⟨t1, t2⟩ := qhj.1 hg
    have hr := hg
    obtain ⟨g1, g2, g3, g4, _, _⟩ := hr
    rw [qd hg, Bool.eq_false_iff.2 t1, qg, qo (i := (m.getD i T3.dflt).fst - (m.getD i T3.dflt).snd.fst) (by omega) (by omega), qo (i := (m.getD i T3.dflt).fst - (m.getD i T3.dflt).snd.fst + 1) (by omega) (by omega), qo (i := (m.getD i T3.dflt).fst + (m.getD i T3.dflt).snd.fst) (by omega) (by omega), Bool.eq_false_iff.2 t2, qg, qo (i := n + (m.getD i T3.dflt).snd.fst) (by omega) (by omega), qF i (by omega)]
    exact ih (i + 1) _ (by omega) (by omega) (by omega) (by omega)
   ·rw [qm hg]
    by_cases t1 : (decide ((m.getD i T3.dflt).2.1 < 1) || decide ((m.getD i T3.dflt).2.1 > 17179869184) || decide ((m.getD i T3.dflt).1 < 0) || decide ((m.getD i T3.dflt).1 ≥ 17179869184)) = true
    ·rw [t1, qi]
    ·have t2 := fun t2 => hg (qhj.2 ⟨t1, t2⟩)
     have t2 := Classical.not_not.1 t2
     have t3 := t1
     simp only [qJr, decide_eq_true_eq, not_or] at t3
     obtain ⟨⟨⟨q1, q2⟩, q3⟩, q4⟩ := t3
     rw [Bool.eq_false_iff.2 t1, qg, qo (i := (m.getD i T3.dflt).fst - (m.getD i T3.dflt).snd.fst) (by omega) (by omega), qo (i := (m.getD i T3.dflt).fst - (m.getD i T3.dflt).snd.fst + 1) (by omega) (by omega), qo (i := (m.getD i T3.dflt).fst + (m.getD i T3.dflt).snd.fst) (by omega) (by omega), t2, qi]
  ·rw [qx (by omega : ¬ (i : Int) < (m.length : Int)), qg, zh m i (by omega)]
   unfold qdc
   by_cases h : n > 17179869184
   ·rw [qA h, qi, qd h]
   ·rw [qx h, qg, qm h]
theorem QT (k : Nat) (hk : 300 ≤ k) (m : List Rn) : Ve k m = some (chk m) := by
 unfold Ve
 rw [qOW]
 by_cases h : m.length > 256
 ·rw [qA (by omega : (m.length : Int) > 256), qi, qd h]
 ·rw [qx (by omega : ¬ (m.length : Int) > 256), qg, qm h]
  exact quP k m (by omega) k 0 0 (by omega) (by omega) (by omega) (by omega)
theorem W0 (k : Nat) (hk : 300 ≤ k) (m : List Rn) : vE k m = chk m := by
 unfold vE; rw [QT k hk]; rfl
theorem quj (k : Nat) (m : List Rn) (hg : goods m) (hm : m.length ≤ 1000) : ∀ (j i : Nat) (n : Int), i ≤ m.length → m.length - i < j → 0 ≤ n → n ≤ (i : Int) * 17179869184 →
  qbg k j n m (m.length : Int) (i : Int) = some (n + qv (m.drop i)) := by
 intro j
 induction j with
 | zero => intros; omega
 | succ j ih =>
  intro i n hi hj h0 hn
  unfold qbg
  by_cases h : i < m.length
  ·have hgr : good (m.getD i T3.dflt) := hg.mem _ (by simp [h])
   rw [qA (by omega : (i : Int) < (m.length : Int)), qi, qd ⟨by omega, by omega⟩, qq m i T3.dflt h]
   rw [qc]
   generalize m.getD i T3.dflt = r at hgr
   obtain ⟨g1, g2, _⟩ := hgr
   rw [qo (i := n + r.snd.fst) (by omega) (by omega), qF i (by omega), ih (i + 1) _ (by omega) (by omega) (by omega) (by omega)]
   simp only [qv, Int.add_assoc]
  ·rw [qx (by omega : ¬ (i : Int) < (m.length : Int)), qg, zh m i (by omega)]
   simp [qv]
theorem X5 (k : Nat) (m : List Rn) (hg : goods m) (hm : m.length ≤ 1000) (hk : m.length < k) : qcG k m = some (qv m) := by
 unfold qcG
 have := quj k m hg hm k 0 0 (by omega) (by omega) (by omega) (by omega)
 rw [Int.zero_add] at this
 exact this
theorem qcx (k : Nat) (m : List Rn) (hg : goods m) (hm : m.length ≤ 1000) (hk : m.length < k) : qfL k m = qv m := by
 unfold qfL; rw [X5 k m hg hm hk]; rfl
theorem qiK (k : Nat) (r : Rn) : qjS k r = some (decide (good r)) := by
 unfold qjS
 by_cases t1 : (decide (r.2.1 < 1) || decide (r.2.1 > 17179869184) || decide (r.1 < 0) || decide (r.1 ≥ 17179869184)) = true
 ·rw [t1, qi, qx (fun h => (qhj.1 h).1 t1)]
 ·rw [Bool.eq_false_iff.2 t1, qg]
  have t3 := t1
  simp only [qJr, decide_eq_true_eq, not_or] at t3
  obtain ⟨⟨⟨q1, q2⟩, q3⟩, q4⟩ := t3
  rw [qo (i := r.fst - r.snd.fst) (by omega) (by omega), qo (i := r.fst - r.snd.fst + 1) (by omega) (by omega), qo (i := r.fst + r.snd.fst) (by omega) (by omega)]
  cases hb : r.snd.snd
  ·rw [qg]
   congr 1
   apply decide_eq_decide.2
   constructor
   ·intro h
    exact ⟨by omega, by omega, by omega, by omega, fun e => by simp [hb] at e, fun _ => h⟩
   ·rintro ⟨_, _, _, _, _, h⟩
    exact h hb
  ·rw [qi]
   congr 1
   apply decide_eq_decide.2
   constructor
   ·intro h
    exact ⟨by omega, by omega, by omega, by omega, fun _ => h, fun e => by simp [hb] at e⟩
   ·rintro ⟨_, _, _, _, h, _⟩
    exact h hb
theorem qtG (k : Nat) (r : Rn) : qmx k r = decide (good r) := by
 unfold qmx; rw [qiK]; rfl
theorem qnD (k : Nat) (m : List Rn) (hg : goods m) (hm : m.length ≤ 1000) : ∀ (j i : Nat) (n : Int), i ≤ m.length → m.length - i < j → 0 ≤ n → n ≤ (i : Int) * 17179869184 →
  qbi k j m n (i : Int) = some (n + qv (m.drop i)) := by
 intro j
 induction j with
 | zero => intros; omega
 | succ j ih =>
  intro i n hi hj h0 hn
  unfold qbi
  by_cases h : i < m.length
  ·have hgr : good (m.getD i T3.dflt) := hg.mem _ (by simp [h])
   rw [qA (by omega : (i : Int) < (m.length : Int)), qi, qd ⟨by omega, by omega⟩, qq m i T3.dflt h]
   rw [qc]
   generalize m.getD i T3.dflt = r at hgr
   obtain ⟨g1, g2, _⟩ := hgr
   rw [qo (i := n + r.snd.fst) (by omega) (by omega), qF i (by omega), ih (i + 1) _ (by omega) (by omega) (by omega) (by omega)]
   simp only [qv, Int.add_assoc]
  ·rw [qx (by omega : ¬ (i : Int) < (m.length : Int)), qg, zh m i (by omega)]
   simp [qv]
theorem Yp (k : Nat) (m : List Rn) (hg : goods m) (hm : m.length ≤ 1000) (hk : m.length < k) : qgk k m = some (qv m) := by
 unfold qgk
 have := qnD k m hg hm k 0 0 (by omega) (by omega) (by omega) (by omega)
 rw [Int.zero_add] at this
 exact this
theorem qeL (k : Nat) (m : List Rn) (hg : goods m) (hm : m.length ≤ 1000) (hk : m.length < k) : qjE k m = qv m := by
 unfold qjE; rw [Yp k m hg hm hk]; rfl
theorem qqn (k : Nat) (hk : 300 ≤ k) (m : List Rn) (hm : m.length ≤ 256) : ∀ (j i : Nat), i ≤ m.length → m.length - i < j → goods (m.take i) →
  qbj k j m (i : Int) = some (if goods m then (if qv m > 17179869184 then 21 else 0) else 1) := by
 intro j
 induction j with
 | zero => intros; omega
 | succ j ih =>
  intro i hi hj hg
  unfold qbj
  by_cases h : i < m.length
  ·rw [qA (by omega : (i : Int) < (m.length : Int)), qi, qiK, qtG, qd ⟨by omega, by omega, rfl⟩, qc]
   have hmem : m.getD i T3.dflt ∈ m := by simp [h]
   have htk : m.take (i + 1) = m.take i ++ [m.getD i T3.dflt] := by
    rw [List.take_add_one]; simp [h]
   by_cases hgr : good (m.getD i T3.dflt)
   ·rw [qA hgr, vB, qg, qF i (by omega)]
    exact ih (i + 1) (by omega) (by omega) (by rw [htk, Qk]; exact ⟨hg, hgr, trivial⟩)
   ·rw [qx hgr, qd1, qi, qm (fun hgs => hgr (goods.mem hgs _ hmem))]
  ·have : m.take i = m := wI (by omega)
   rw [this] at hg
   rw [qx (by omega : ¬ (i : Int) < (m.length : Int)), qg, Yp k m hg (by omega) (by omega), qeL k m hg (by omega) (by omega), qb, qd rfl, qd hg]
   by_cases h : qv m > 17179869184
   ·rw [qA h, qi, qd h]
   ·rw [qx h, qg, qm h]
theorem vM (k : Nat) (hk : 300 ≤ k) (m : List Rn) : Z6 k m = some (chk m) := by
 unfold Z6 chk
 by_cases h : m.length > 256
 ·rw [qA (by omega : (m.length : Int) > 256), qi, qd h]
 ·rw [qx (by omega : ¬ (m.length : Int) > 256), qg, qm h]
  exact qqn k hk m (by omega) k 0 (by omega) (by omega) (by simp [goods])
theorem Qw (k : Nat) (hk : 300 ≤ k) (m : List Rn) : vS k m = chk m := by
 unfold vS; rw [vM k hk]; rfl
def Bnd (r : Rn) : Prop := -1125899906842624 ≤ r.1 ∧ r.1 ≤ 1125899906842624 ∧ 0 ≤ r.2.1 ∧ r.2.1 ≤ 1125899906842624
theorem good.bnd {r : Rn} (h : good r) : Bnd r := by
 obtain ⟨h1, h2, h3, h4, _⟩ := h
 exact ⟨by omega, by omega, by omega, by omega⟩
theorem qls (r : Rn) (h : ¬ r.2.1 < 1) : vn [] r = [wG r 0 r.2.1] := by
 unfold vn; rw [qm h]; rfl
theorem qiA (pre : List Rn) (c r : Rn) (h : ¬ r.2.1 < 1) : vn (pre ++ [c]) r = (bif apart c r then pre ++ [c] ++ [wG r 0 r.2.1]
   else bif decide (r.2.1 > 1) && !(r.2.2 == (wC c r == -1)) then pre ++ [(c.1, c.2.1 + 1, wC c r == -1), wG r 1 (r.2.1 - 1)]
   else pre ++ [(c.1, c.2.1 + r.2.1, wC c r == -1)]) := by
 unfold vn; rw [qm h]; simp
theorem qhI (b : List Rn) (r : Rn) (h : r.2.1 < 1) : vn b r = b := by unfold vn; rw [qd h]
theorem qsg (r : Rn) (n : Int) : wG (wG r 1 n) 0 n = wG r 1 n := by
 unfold wG
 have e : wh (wh r 1, n, r.2.2 && decide (n > 1)) 0 = wh r 1 := by
  unfold wh; cases r.2.2 && decide (n > 1) <;> simp
 rw [e]
 simp
theorem qvH {r : Rn} (h : Bnd r) {x n : Int} (h0 : 0 ≤ x) (h1 : x ≤ r.2.1) (h2 : 0 ≤ n) (h3 : n ≤ r.2.1) : -2251799813685248 ≤ (wG r x n).1 ∧ (wG r x n).1 ≤ 2251799813685248 ∧ (wG r x n).2.1 = n := by
 obtain ⟨b1, b2, b3, b4⟩ := h
 unfold wG wh
 refine ⟨?_, ?_, rfl⟩ <;> cases r.2.2 <;> simp only [qG, if_false, if_true] <;> omega
theorem qnx {c r : Rn} (hc : 1 ≤ c.2.1) (h1 : apart c r = false) (h3 : (r.2.2 == (wC c r == -1)) = false) : apart (c.1, c.2.1 + 1, wC c r == -1) (wG r 1 (r.2.1 - 1)) = true := by
 obtain ⟨ca, cl, cb⟩ := c
 obtain ⟨ra, rl, rb⟩ := r
 unfold apart at h1
 simp only [WN] at h1
 obtain ⟨h1, h2⟩ := h1
 have hs : wC (ca, cl, cb) (ra, rl, rb) = 1 ∨ wC (ca, cl, cb) (ra, rl, rb) = -1 := by
  generalize wC (ca, cl, cb) (ra, rl, rb) = s at h1
  by_cases e1 : s = 1
  ·exact .inl e1
  ·by_cases e2 : s = -1
   ·exact .inr e2
   ·simp [e1, e2] at h1
 have hcl : (1 : Int) ≤ cl := hc
 unfold apart
 rw [qJr]
 right
 rw [qj]
 refine ⟨qA (show cl + 1 > 1 by omega), ?_⟩
 rcases hs with hs | hs
 ·rw [hs] at h2 h3
  have hrb : rb = true := by cases rb <;> simp_all
  subst hrb
  have hcb : cl > 1 → cb = false := fun h => by
   rw [qA (show (ca, cl, cb).2.1 > 1 from h), ww] at h2
   cases cb
   ·rfl
   ·simp at h2
  rw [hs]
  have e : wC (ca, cl + 1, (1 : Int) == -1) (wG (ra, rl, true) 1 (rl - 1)) = -1 := by
   unfold wC wh at hs
   unfold wC wG wh
   simp only [show ((1 : Int) == -1) = false from rfl, qG, if_false, if_true] at hs ⊢
   by_cases hl : cl > 1
   ·rw [hcb hl] at hs; simp only [qG, if_false] at hs; omega
   ·cases cb <;> simp only [qG, if_false, if_true] at hs <;> omega
  show (!((wC (ca, cl + 1, (1 : Int) == -1) (wG (ra, rl, true) 1 (rl - 1)) == -1) == ((1 : Int) == -1))) = true
  rw [e]; rfl
 ·rw [hs] at h2 h3
  have hrb : rb = false := by cases rb <;> simp_all
  subst hrb
  have hcb : cl > 1 → cb = true := fun h => by
   rw [qA (show (ca, cl, cb).2.1 > 1 from h), ww] at h2
   cases cb
   ·simp at h2
   ·rfl
  rw [hs]
  have e : wC (ca, cl + 1, (-1 : Int) == -1) (wG (ra, rl, false) 1 (rl - 1)) = 1 := by
   unfold wC wh at hs
   unfold wC wG wh
   simp only [show ((-1 : Int) == -1) = true from rfl, qG, if_false, if_true] at hs ⊢
   by_cases hl : cl > 1
   ·rw [hcb hl] at hs; simp only [if_true] at hs; omega
   ·cases cb <;> simp only [qG, if_false, if_true] at hs <;> omega
  show (!((wC (ca, cl + 1, (-1 : Int) == -1) (wG (ra, rl, false) 1 (rl - 1)) == -1) == ((-1 : Int) == -1))) = true
  rw [e]; rfl
theorem WL (k : Nat) (r : Rn) (x n : Int) (h1 : -4611686018427387904 ≤ r.1) (h2 : r.1 ≤ 4611686018427387903) (h3 : -4611686018427387904 ≤ x) (h4 : x ≤ 4611686018427387903) : XC k r x n = some (wG r x n) := by
 unfold XC wG
 rw [QR k r x h1 h2 h3 h4, W6 k r x h1 h2 h3 h4]; rfl
theorem Z9 (k : Nat) (r : Rn) (x n : Int) (h1 : -4611686018427387904 ≤ r.1) (h2 : r.1 ≤ 4611686018427387903) (h3 : -4611686018427387904 ≤ x) (h4 : x ≤ 4611686018427387903) : QZ k r x n = wG r x n := by
 unfold QZ; rw [WL k r x n h1 h2 h3 h4]; rfl
theorem YU (k : Nat) (r : Rn) (x n : Int) (h1 : -4611686018427387904 ≤ r.1) (h2 : r.1 ≤ 4611686018427387903) (h3 : -4611686018427387904 ≤ x) (h4 : x ≤ 4611686018427387903) : qa1 k r x n = some (wG r x n) := by
 unfold qa1 wG
 rw [zu k r x h1 h2 h3 h4, zG k r x h1 h2 h3 h4]; rfl
theorem qdy (k : Nat) (r : Rn) (x n : Int) (h1 : -4611686018427387904 ≤ r.1) (h2 : r.1 ≤ 4611686018427387903) (h3 : -4611686018427387904 ≤ x) (h4 : x ≤ 4611686018427387903) : Y7 k r x n = wG r x n := by
 unfold Y7; rw [YU k r x n h1 h2 h3 h4]; rfl
theorem qgv (pre : List Rn) (c : Rn) (h : pre.length < 4611686018427387904) : (qa .i64 (((pre ++ [c]).length : Int) - 1)).toNat = pre.length := by
 rw [qn, qk, qo (by omega) (by omega)]; omega
theorem qgz (pre : List Rn) (c d : Rn) : (pre ++ [c]).getD pre.length d = c := by simp
theorem qfK (pre : List Rn) (c d : Rn) : (pre ++ [c]).set pre.length d = pre ++ [d] := by simp
theorem qkx (k : Nat) (pre : List Rn) (c r : Rn) (hl : pre.length ≤ 1000000000) (hr : ¬ r.2.1 < 1) (b1 : -9007199254740992 ≤ r.1 ∧ r.1 ≤ 9007199254740992) (hc : -9007199254740992 ≤ c.1 ∧ c.1 ≤ 9007199254740992 ∧ 1 ≤ c.2.1 ∧ c.2.1 ≤ 9007199254740992) (ha : apart c r = true) :
  va (k + 1) (pre ++ [c]) r = some (pre ++ [c] ++ [wG r 0 r.2.1]) := by
 have hi := qgv pre c (by omega)
 have hlen : (pre ++ [c]).length = pre.length + 1 := by simp
 have hst : qa .i64 (r.fst - wh c (c.snd.fst - 1)) = wC c r := by
  unfold wC
  refine qo ?_ ?_ <;> unfold wh <;> cases c.2.2 <;> simp only [qG, if_false, if_true] <;> omega
 unfold va
 rw [qx hr, qg, show (((pre ++ [c]).length : Int) == 0) = false by rw [hlen]; exact Vj (by omega), qg, hi, qgz]
 rw [qo (i := c.snd.fst - 1) (by omega) (by omega), QR k c _ (by omega) (by omega) (by omega) (by omega), W6 k c _ (by omega) (by omega) (by omega) (by omega), hst]
 rw [qd (by rw [hlen, qo (by omega) (by omega)]; exact ⟨by omega, by omega⟩), qb, qd rfl]
 have ha' : ((wC c r != 1 && wC c r != -1) || decide (c.snd.fst > 1) && !((wC c r == -1) == c.snd.snd)) = true := ha
 rw [ha', qi, WL k r 0 _ (by omega) (by omega) (by omega) (by omega), Z9 k r 0 _ (by omega) (by omega) (by omega) (by omega), qd ⟨rfl, by rw [hlen, qk]; omega⟩]
theorem qhZ (k : Nat) (hk : 4 ≤ k) (b : List Rn) (r : Rn) (hl : b.length ≤ 1000000000) (hr : Bnd r) (hb : ∀ c ∈ b, Bnd c ∧ 1 ≤ c.2.1) : va k b r = some (vn b r) := by
 obtain ⟨k, rfl⟩ := qQ (by omega : 0 < k)
 obtain ⟨r1, r2, r3, r4⟩ := hr
 by_cases h0 : r.2.1 < 1
 ·rw [qhI _ _ h0]; unfold va; rw [qA h0, qi]
 rcases List.eq_nil_or_concat b with rfl | ⟨pre, c, rfl⟩
 ·rw [qls _ h0]
  unfold va
  rw [qx h0, qg, show ((([] : List Rn).length : Int) == 0) = true from rfl, qi, WL k r 0 _ (by omega) (by omega) (by omega) (by omega), Z9 k r 0 _ (by omega) (by omega) (by omega) (by omega), qd ⟨rfl, by simp⟩]
  rfl
 rw [List.concat_eq_append] at *
 obtain ⟨⟨c1, c2, c3, c4⟩, c5⟩ := hb c (by simp)
 have hlen : (pre ++ [c]).length = pre.length + 1 := by simp
 rw [qiA _ _ _ h0]
 cases ha : apart c r with
 | true =>
  rw [qi]
  exact qkx k pre c r (by omega) h0 ⟨by omega, by omega⟩ ⟨by omega, by omega, by omega, by omega⟩ ha
 | false =>
 rw [qg]
 have hi := qgv pre c (by omega)
 have hst : qa .i64 (r.fst - wh c (c.snd.fst - 1)) = wC c r := by
  unfold wC
  refine qo ?_ ?_ <;> unfold wh <;> cases c.2.2 <;> simp only [qG, if_false, if_true] <;> omega
 have ha' : ((wC c r != 1 && wC c r != -1) || decide (c.snd.fst > 1) && !((wC c r == -1) == c.snd.snd)) = false := ha
 unfold va
 rw [qx h0, qg, show (((pre ++ [c]).length : Int) == 0) = false by rw [hlen]; exact Vj (by omega), qg, hi, qgz]
 rw [qo (i := c.snd.fst - 1) (by omega) (by omega), QR k c _ (by omega) (by omega) (by omega) (by omega), W6 k c _ (by omega) (by omega) (by omega) (by omega), hst]
 have hidx : (0 : Int) ≤ qa .i64 (((pre ++ [c]).length : Int) - 1) ∧ qa .i64 (((pre ++ [c]).length : Int) - 1) < ((pre ++ [c]).length : Int) := by
  rw [hlen, qo (by omega) (by omega)]; exact ⟨by omega, by omega⟩
 rw [qd hidx, qb, qd rfl, ha', qg]
 rw [qo (i := c.snd.fst + r.snd.fst) (by omega) (by omega), qo (i := c.snd.fst + 1) (by omega) (by omega), qo (i := r.snd.fst - r.snd.fst) (by omega) (by omega), qo (i := r.snd.fst - 1) (by omega) (by omega), qfK, qfK]
 rw [WL k r r.snd.fst _ (by omega) (by omega) (by omega) (by omega), Z9 k r r.snd.fst _ (by omega) (by omega) (by omega) (by omega), WL k r 1 _ (by omega) (by omega) (by omega) (by omega), Z9 k r 1 _ (by omega) (by omega) (by omega) (by omega)]
 obtain ⟨k, rfl⟩ := qQ (by omega : 0 < k)
 have z : ∀ (b : List Rn) (r : Rn), r.2.1 < 1 → va (k + 1) b r = some b := fun b r h => by
  unfold va; rw [qA h, qi]
 have w : ∀ (b b' : List Rn) (r : Rn), va (k + 1) b r = some b' → qrs (va (k + 1)) b r = b' := fun b b' r h => by
  unfold qrs; rw [h]; rfl
 by_cases hone : r.2.1 > 1
 ·rw [qA hone, ww, ww]
  cases hd : (r.snd.snd == (wC c r == -1)) with
  | true =>
   rw [qi, vB, qg, qd hidx]
   have e := z (pre ++ [(c.fst, c.snd.fst + r.snd.fst, wC c r == -1)]) (wG r r.snd.fst (r.snd.fst - r.snd.fst)) (by show r.snd.fst - r.snd.fst < 1; omega)
   rw [w _ _ _ e, e, qd ⟨rfl, rfl⟩]
  | false =>
   rw [qg, qd1, qi, qd hidx]
   obtain ⟨p1, p2, p3⟩ := qvH (r := r) ⟨r1, r2, r3, r4⟩ (x := 1) (n := r.2.1 - 1) (by omega) (by omega) (by omega) (by omega)
   have e := qkx k pre (c.fst, c.snd.fst + 1, wC c r == -1) (wG r 1 (r.snd.fst - 1)) (by omega) (by rw [p3]; omega) ⟨by omega, by omega⟩ ⟨by show -9007199254740992 ≤ c.1; omega, by show c.1 ≤ 9007199254740992; omega, by show 1 ≤ c.2.1 + 1; omega, by show c.2.1 + 1 ≤ 9007199254740992; omega⟩ (qnx c5 ha hd)
   rw [p3, qsg] at e
   rw [w _ _ _ e, e, qd ⟨rfl, rfl⟩]
   simp
 ·have h1 : r.2.1 = 1 := by omega
  rw [qx hone, wD, wD, qg, qg, qd hidx]
  have e := z (pre ++ [(c.fst, c.snd.fst + 1, wC c r == -1)]) (wG r 1 (r.snd.fst - 1)) (by show r.snd.fst - 1 < 1; omega)
  rw [w _ _ _ e, e, qd ⟨rfl, rfl⟩, h1]
theorem qpz (k : Nat) (hk : 4 ≤ k) (b : List Rn) (r : Rn) (hl : b.length ≤ 1000000000) (hr : Bnd r) (hb : ∀ c ∈ b, Bnd c ∧ 1 ≤ c.2.1) : qcZ k b r = vn b r := by
 unfold qcZ; rw [qhZ k hk b r hl hr hb]; rfl
theorem qgV (k j : Nat) (pre : List Rn) (c r : Rn) (hl : pre.length ≤ 1000000000) (hr : ¬ r.2.1 < 1) (b1 : -9007199254740992 ≤ r.1 ∧ r.1 ≤ 9007199254740992) (hc : -9007199254740992 ≤ c.1 ∧ c.1 ≤ 9007199254740992 ∧ 1 ≤ c.2.1 ∧ c.2.1 ≤ 9007199254740992) (ha : apart c r = true) :
  Q9 k (j + 1) r (pre ++ [c]) = some (pre ++ [c] ++ [wG r 0 r.2.1]) := by
 have hi := qgv pre c (by omega)
 have hlen : (pre ++ [c]).length = pre.length + 1 := by simp
 have hst : qa .i64 (r.fst - wh c (c.snd.fst - 1)) = wC c r := by
  unfold wC
  refine qo ?_ ?_ <;> unfold wh <;> cases c.2.2 <;> simp only [qG, if_false, if_true] <;> omega
 have hidx : (0 : Int) ≤ qa .i64 (((pre ++ [c]).length : Int) - 1) ∧ qa .i64 (((pre ++ [c]).length : Int) - 1) < ((pre ++ [c]).length : Int) := by
  rw [hlen, qo (by omega) (by omega)]; exact ⟨by omega, by omega⟩
 unfold Q9
 rw [qA (by omega : r.snd.fst > 0), qi, qx (by omega : ¬ qa .i64 (((pre ++ [c]).length : Int) - 1) < 0), qg, hi, qgz]
 rw [qo (i := c.snd.fst - 1) (by omega) (by omega), zu k c _ (by omega) (by omega) (by omega) (by omega), zG k c _ (by omega) (by omega) (by omega) (by omega), hst]
 rw [qd hidx, qb, qd rfl]
 have ha' : ((wC c r != 1 && wC c r != -1) || decide (c.snd.fst > 1) && !(c.snd.snd == (wC c r == -1))) = true := by
  rw [Bool.beq_comm]; exact ha
 rw [ha', qi, YU k r 0 _ (by omega) (by omega) (by omega) (by omega), qdy k r 0 _ (by omega) (by omega) (by omega) (by omega), qd ⟨rfl, by rw [hlen, qk]; omega⟩]
theorem qtq (k j : Nat) (b : List Rn) (r : Rn) (hl : b.length ≤ 1000000000) (hr : Bnd r) (hb : ∀ c ∈ b, Bnd c ∧ 1 ≤ c.2.1) : Q9 k (j + 2) r b = some (vn b r) := by
 obtain ⟨r1, r2, r3, r4⟩ := hr
 by_cases h0 : r.2.1 < 1
 ·rw [qhI _ _ h0]; unfold Q9; rw [qx (by omega : ¬ r.snd.fst > 0), qg]
 rcases List.eq_nil_or_concat b with rfl | ⟨pre, c, rfl⟩
 ·rw [qls _ h0]
  unfold Q9
  rw [qA (by omega : r.snd.fst > 0), qi, show qa .i64 ((([] : List Rn).length : Int) - 1) = -1 by rw [List.length_nil, qo (by omega) (by omega)]; rfl, qA (by omega : (-1 : Int) < 0), qi, YU k r 0 _ (by omega) (by omega) (by omega) (by omega), qdy k r 0 _ (by omega) (by omega) (by omega) (by omega), qd ⟨rfl, by simp⟩]
  rfl
 rw [List.concat_eq_append] at *
 obtain ⟨⟨c1, c2, c3, c4⟩, c5⟩ := hb c (by simp)
 have hlen : (pre ++ [c]).length = pre.length + 1 := by simp
 rw [qiA _ _ _ h0]
 cases ha : apart c r with
 | true =>
  rw [qi]
  exact qgV k (j + 1) pre c r (by omega) h0 ⟨by omega, by omega⟩ ⟨by omega, by omega, by omega, by omega⟩ ha
 | false =>
 rw [qg]
 have hi := qgv pre c (by omega)
 have hst : qa .i64 (r.fst - wh c (c.snd.fst - 1)) = wC c r := by
  unfold wC
  refine qo ?_ ?_ <;> unfold wh <;> cases c.2.2 <;> simp only [qG, if_false, if_true] <;> omega
 have ha' : ((wC c r != 1 && wC c r != -1) || decide (c.snd.fst > 1) && !(c.snd.snd == (wC c r == -1))) = false := by
  rw [Bool.beq_comm]; exact ha
 have hidx : (0 : Int) ≤ qa .i64 (((pre ++ [c]).length : Int) - 1) ∧ qa .i64 (((pre ++ [c]).length : Int) - 1) < ((pre ++ [c]).length : Int) := by
  rw [hlen, qo (by omega) (by omega)]; exact ⟨by omega, by omega⟩
 rw [Q9]
 rw [qA (by omega : r.snd.fst > 0), qi, qx (by omega : ¬ qa .i64 (((pre ++ [c]).length : Int) - 1) < 0), qg, hi, qgz]
 rw [qo (i := c.snd.fst - 1) (by omega) (by omega), zu k c _ (by omega) (by omega) (by omega) (by omega), zG k c _ (by omega) (by omega) (by omega) (by omega), hst]
 rw [qd hidx, qb, qd rfl, ha', qg]
 rw [qo (i := c.snd.fst + r.snd.fst) (by omega) (by omega), qo (i := c.snd.fst + 1) (by omega) (by omega), qo (i := r.snd.fst - r.snd.fst) (by omega) (by omega), qo (i := r.snd.fst - 1) (by omega) (by omega), qfK, qfK]
 rw [YU k r 1 _ (by omega) (by omega) (by omega) (by omega), qdy k r 1 _ (by omega) (by omega) (by omega) (by omega)]
 cases hd : (decide (r.snd.fst > 1) && !(r.snd.snd == (wC c r == -1))) with
 | true =>
  rw [qi, qi, qd hidx]
  simp only [qj, decide_eq_true_eq] at hd
  obtain ⟨hone, hd⟩ := hd
  have hd : (r.2.2 == (wC c r == -1)) = false := by
   cases e : (r.2.2 == (wC c r == -1)) with
   | false => rfl
   | true => rw [show r.snd.snd = r.2.2 from rfl, e] at hd; cases hd
  rw [show ((1 : Int) == r.snd.fst) = false by exact Vj (by omega), qg, qb, qd rfl]
  obtain ⟨p1, p2, p3⟩ := qvH (r := r) ⟨r1, r2, r3, r4⟩ (x := 1) (n := r.2.1 - 1) (by omega) (by omega) (by omega) (by omega)
  have e := qgV k j pre (c.fst, c.snd.fst + 1, wC c r == -1) (wG r 1 (r.snd.fst - 1)) (by omega) (by rw [p3]; omega) ⟨by omega, by omega⟩ ⟨by show -9007199254740992 ≤ c.1; omega, by show c.1 ≤ 9007199254740992; omega, by show 1 ≤ c.2.1 + 1; omega, by show c.2.1 + 1 ≤ 9007199254740992; omega⟩ (qnx c5 ha hd)
  rw [p3, qsg] at e
  rw [e]
  simp
 | false =>
  rw [qg, qg, qd hidx, beq_self_eq_true, qi]
theorem XJ (k : Nat) (hk : 4 ≤ k) (b : List Rn) (r : Rn) (hl : b.length ≤ 1000000000) (hr : Bnd r) (hb : ∀ c ∈ b, Bnd c ∧ 1 ≤ c.2.1) : qft k b r = some (vn b r) := by
 unfold qft
 rw [qd (by omega), qH]
 obtain ⟨j, rfl⟩ : ∃ m, k = m + 2 := ⟨k - 2, by omega⟩
 exact qtq _ j b r hl hr hb
theorem qcj (k : Nat) (hk : 4 ≤ k) (b : List Rn) (r : Rn) (hl : b.length ≤ 1000000000) (hr : Bnd r) (hb : ∀ c ∈ b, Bnd c ∧ 1 ≤ c.2.1) : qc9 k b r = vn b r := by
 unfold qc9; rw [XJ k hk b r hl hr hb]; rfl
end Go.AM
namespace Go.AM
open Go
theorem YE {r : Rn} : good r ↔ 1 ≤ r.2.1 ∧ 0 ≤ lo r ∧ hi r < 17179869184 := by
 unfold good lo hi
 cases r.2.2
 ·simp only [qG, if_false]
  constructor
  ·rintro ⟨h1, h2, h3, h4, _, h6⟩
   have := h6 trivial
   omega
  ·rintro ⟨h1, h2, h3⟩
   refine ⟨by omega, by omega, by omega, by omega, fun h => h.elim, fun _ => by omega⟩
 ·simp only [if_true]
  constructor
  ·rintro ⟨h1, h2, h3, h4, h5, _⟩
   have := h5 trivial
   omega
  ·rintro ⟨h1, h2, h3⟩
   refine ⟨by omega, by omega, by omega, by omega, fun _ => by omega, fun h => by cases h⟩
theorem zC : ∀ (a b : List Rn) (x : Int), goods a → 0 ≤ x → wb (a ++ b) x = if x < qv a then wb a x else wb b (x - qv a)
 | [], b, x, _, h0 => by simp only [qH, qv, qm (by omega : ¬ x < 0), Int.sub_zero]
 | r :: t, b, x, hg, h0 => by
  have hr := hg.1.1
  have ht := zf hg.2
  show (if x < r.2.1 then wh r x else wb (t ++ b) (x - r.2.1)) = if x < r.2.1 + qv t then (if x < r.2.1 then wh r x else wb t (x - r.2.1)) else wb b (x - (r.2.1 + qv t))
  by_cases h : x < r.2.1
  ·rw [qd h, qd (by omega), qd h]
  ·rw [qm h, zC t b _ hg.2 (by omega)]
   by_cases h2 : x - r.2.1 < qv t
   ·rw [qd h2, qd (by omega), qm h]
   ·rw [qm h2, qm (by omega), Int.sub_sub]
theorem qeM {r : Rn} {x n y : Int} (h0 : 0 ≤ y) (h1 : y < n) : wh (wG r x n) y = wh r (x + y) := by
 unfold wG wh
 by_cases h : n > 1
 ·rw [qA h, Bool.and_true]
  cases r.2.2 <;> simp only [qG, if_false, if_true] <;> omega
 ·have : y = 0 := by omega
  subst this
  cases r.2.2 && decide (n > 1) <;> simp
theorem qbQ {r : Rn} (h : good r) {x n : Int} (h0 : 0 ≤ x) (h1 : 1 ≤ n) (h2 : x + n ≤ r.2.1) : good (wG r x n) := by
 rw [YE] at h ⊢
 obtain ⟨g1, g2, g3⟩ := h
 have e1 := qi4 (r := r) (x := x) (by omega) (by omega)
 have e2 := qi4 (r := r) (x := x + n - 1) (by omega) (by omega)
 refine ⟨h1, ?_, ?_⟩
 ·unfold wG lo
  by_cases h : n > 1
  ·rw [qA h, Bool.and_true]
   unfold wh at e1 e2 ⊢
   cases hb : r.2.2 <;> rw [hb] at e1 e2 <;> simp only [qG, if_false, if_true] at e1 e2 ⊢ <;> omega
  ·rw [qx h, qHb]
   simp only [qG, if_false]; omega
 ·unfold wG hi
  by_cases h : n > 1
  ·rw [qA h, Bool.and_true]
   unfold wh at e1 e2 ⊢
   cases hb : r.2.2 <;> rw [hb] at e1 e2 <;> simp only [qG, if_false, if_true] at e1 e2 ⊢ <;> omega
  ·rw [qx h, qHb]
   simp only [qG, if_false]; omega
theorem qQM {c r : Rn} (h : apart c r = false) : wC c r = 1 ∨ wC c r = -1 := by
 unfold apart at h
 simp only [WN] at h
 generalize wC c r = s at h
 by_cases e1 : s = 1
 ·exact .inl e1
 ·by_cases e2 : s = -1
  ·exact .inr e2
  ·have := h.1; simp [e1, e2] at this
theorem qJP {c r : Rn} (h : apart c r = false) (hc : c.2.1 > 1) : c.2.2 = (wC c r == -1) := by
 unfold apart at h
 simp only [WN] at h
 have h2 := h.2
 rw [qA hc, ww] at h2
 cases e : c.2.2 <;> cases e2 : (wC c r == -1) <;> simp_all
theorem qgf {c r : Rn} (hc : 1 ≤ c.2.1) (h : apart c r = false) {n : Int} (hn : n > 1 → r.2.2 = (wC c r == -1)) {x : Int} (h0 : 0 ≤ x) (h1 : x < c.2.1 + n) :
  wh (c.1, c.2.1 + n, wC c r == -1) x = if x < c.2.1 then wh c x else wh r (x - c.2.1) := by
 have hb := qJP (c := c) (r := r) h
 have hstp : wC c r = r.1 - wh c (c.2.1 - 1) := rfl
 rcases qQM h with hs | hs
 ·rw [hs] at hb hn hstp ⊢
  have hf : ((1 : Int) == -1) = false := rfl
  rw [hf] at hb hn ⊢
  unfold wh at hstp ⊢
  simp only [qG, if_false]
  by_cases hx : x < c.2.1
  ·rw [qd hx]
   by_cases hc1 : c.2.1 > 1
   ·rw [hb hc1]; simp
   ·have : x = 0 := by omega
    subst this; cases c.2.2 <;> simp
  ·rw [qm hx]
   have e1 : r.1 = c.1 + c.2.1 := by
    by_cases hc1 : c.2.1 > 1
    ·rw [hb hc1] at hstp; simp only [qG, if_false] at hstp; omega
    ·cases e : c.2.2 <;> rw [e] at hstp <;> simp only [qG, if_false, if_true] at hstp <;> omega
   by_cases hn1 : n > 1
   ·rw [hn hn1]; simp only [qG, if_false]; omega
   ·cases r.2.2 <;> simp only [qG, if_false, if_true] <;> omega
 ·rw [hs] at hb hn hstp ⊢
  have hf : ((-1 : Int) == -1) = true := rfl
  rw [hf] at hb hn ⊢
  unfold wh at hstp ⊢
  simp only [if_true]
  by_cases hx : x < c.2.1
  ·rw [qd hx]
   by_cases hc1 : c.2.1 > 1
   ·rw [hb hc1]; simp
   ·have : x = 0 := by omega
    subst this; cases c.2.2 <;> simp
  ·rw [qm hx]
   have e1 : r.1 = c.1 - c.2.1 := by
    by_cases hc1 : c.2.1 > 1
    ·rw [hb hc1] at hstp; simp only [if_true] at hstp; omega
    ·cases e : c.2.2 <;> rw [e] at hstp <;> simp only [qG, if_false, if_true] at hstp <;> omega
   by_cases hn1 : n > 1
   ·rw [hn hn1]; simp only [if_true]; omega
   ·cases r.2.2 <;> simp only [qG, if_false, if_true] <;> omega
theorem qiS {r : Rn} (h1 : 1 ≤ r.2.1) (a : 0 ≤ wh r 0 ∧ wh r 0 < 17179869184) (b : 0 ≤ wh r (r.2.1 - 1) ∧ wh r (r.2.1 - 1) < 17179869184) : good r := by
 rw [YE]
 unfold wh at a b
 unfold lo hi
 cases hb : r.2.2 <;> rw [hb] at a b <;> simp only [qG, if_false, if_true] at a b ⊢ <;> omega
theorem qfZ {r : Rn} (h : good r) {x : Int} (h0 : 0 ≤ x) (h1 : x < r.2.1) : 0 ≤ wh r x ∧ wh r x < 17179869184 := by
 have := qi4 (r := r) h0 h1
 have h := YE.1 h
 omega
theorem qqa {c r : Rn} (hc : good c) (hr : good r) (h : apart c r = false) {n : Int} (hn0 : 1 ≤ n) (hn1 : n ≤ r.2.1) (hn : n > 1 → r.2.2 = (wC c r == -1)) : good (c.1, c.2.1 + n, wC c r == -1) := by
 have hc1 := hc.1
 refine qiS (by show 1 ≤ c.2.1 + n; omega) ?_ ?_
 ·rw [qgf hc1 h hn (by omega) (by omega), qd (by omega)]
  exact qfZ hc (by omega) (by omega)
 ·show 0 ≤ wh (c.1, c.2.1 + n, wC c r == -1) (c.2.1 + n - 1) ∧ wh (c.1, c.2.1 + n, wC c r == -1) (c.2.1 + n - 1) < 17179869184
  rw [qgf hc1 h hn (by omega) (by omega), qm (by omega)]
  exact qfZ hr (by omega) (by omega)
theorem Xm (b : List Rn) (r : Rn) (hb : goods b) (hr : good r) : goods (vn b r) ∧ qv (vn b r) = qv b + r.2.1 ∧ ∀ x, 0 ≤ x → x < qv b + r.2.1 → wb (vn b r) x = wb (b ++ [r]) x := by
 have hr1 := hr.1
 have last1 : ∀ (x : Int), x < r.2.1 → wb [r] x = wh r x := fun x h => by simp only [wb, qd h]
 have p0 : ∀ x, 0 ≤ x → x < r.2.1 → wh (wG r 0 r.2.1) x = wh r x := fun x h0 h1 => by rw [qeM h0 h1, Int.zero_add]
 have hp : good (wG r 0 r.2.1) := qbQ hr (by omega) hr1 (by omega)
 have new : ∀ b : List Rn, goods b → goods (b ++ [wG r 0 r.2.1]) ∧ qv (b ++ [wG r 0 r.2.1]) = qv b + r.2.1 ∧ ∀ x, 0 ≤ x → x < qv b + r.2.1 → wb (b ++ [wG r 0 r.2.1]) x = wb (b ++ [r]) x := fun b hb => by
  refine ⟨(Qk _ _).2 ⟨hb, hp, trivial⟩, ?_, fun x h0 h1 => ?_⟩
  ·rw [W2]; simp only [qv]; show qv b + (r.2.1 + 0) = _; omega
  ·rw [zC _ _ _ hb h0, zC _ _ _ hb h0]
   by_cases h : x < qv b
   ·rw [qd h, qd h]
   ·rw [qm h, qm h, last1 _ (by omega)]
    have hlt : x - qv b < (wG r 0 r.2.1).2.1 := by show x - qv b < r.2.1; omega
    simp only [wb, qd hlt]
    exact p0 _ (by omega) (by omega)
 have h0 : ¬ r.2.1 < 1 := by omega
 rcases List.eq_nil_or_concat b with rfl | ⟨pre, c, rfl⟩
 ·unfold vn
  rw [qm h0]
  exact new [] trivial
 rw [List.concat_eq_append] at *
 obtain ⟨hpre, hc, _⟩ := (Qk _ _).1 hb
 have hc1 := hc.1
 have hlc : qv (pre ++ [c]) = qv pre + c.2.1 := by rw [W2]; simp only [qv]; omega
 have e : vn (pre ++ [c]) r = (bif apart c r then pre ++ [c] ++ [wG r 0 r.2.1]
   else bif decide (r.2.1 > 1) && !(r.2.2 == (wC c r == -1)) then pre ++ [(c.1, c.2.1 + 1, wC c r == -1), wG r 1 (r.2.1 - 1)]
   else pre ++ [(c.1, c.2.1 + r.2.1, wC c r == -1)]) := by
  unfold vn; rw [qm h0]; simp
 rw [e]
 cases ha : apart c r with
 | true => rw [qi]; exact new _ hb
 | false =>
 rw [qg]
 have old : ∀ x, 0 ≤ x → x < qv (pre ++ [c]) + r.2.1 → wb (pre ++ [c] ++ [r]) x = if x < qv pre then wb pre x else if x - qv pre < c.2.1 then wh c (x - qv pre) else wh r (x - qv pre - c.2.1) := fun x hx0 hx1 => by
  rw [qw, zC _ _ _ hpre hx0]
  by_cases h : x < qv pre
  ·rw [qd h, qd h]
  ·rw [qm h, qm h]
   simp only [qpk, qH, wb]
   by_cases h2 : x - qv pre < c.2.1
   ·rw [qd h2, qd h2]
   ·rw [qm h2, qm h2, qd (by omega)]
 cases hd : (decide (r.2.1 > 1) && !(r.2.2 == (wC c r == -1))) with
 | true =>
  rw [qi]
  simp only [qj, decide_eq_true_eq] at hd
  have hn : (1 : Int) > 1 → r.2.2 = (wC c r == -1) := fun h => by omega
  have hg := qqa hc hr ha (n := 1) (by omega) (by omega) hn
  have hq : good (wG r 1 (r.2.1 - 1)) := qbQ hr (by omega) (by omega) (by omega)
  refine ⟨(Qk _ _).2 ⟨hpre, hg, hq, trivial⟩, ?_, fun x hx0 hx1 => ?_⟩
  ·rw [W2, hlc]
   simp only [qv]
   show qv pre + (c.2.1 + 1 + (r.2.1 - 1 + 0)) = _
   omega
  ·rw [old x hx0 hx1, zC _ _ _ hpre hx0]
   by_cases h : x < qv pre
   ·rw [qd h, qd h]
   ·rw [qm h, qm h]
    simp only [wb]
    show (if x - qv pre < c.2.1 + 1 then _ else if x - qv pre - (c.2.1 + 1) < r.2.1 - 1 then _ else _) = _
    by_cases h2 : x - qv pre < c.2.1 + 1
    ·rw [qd h2, qgf hc1 ha hn (by omega) h2]
    ·rw [qm h2, qd (by omega), qm (by omega), qeM (by omega) (by omega)]
     congr 1; omega
 | false =>
  rw [qg]
  have hn : r.2.1 > 1 → r.2.2 = (wC c r == -1) := fun h => by
   rw [qA h, ww] at hd
   cases e : r.2.2 <;> cases e2 : (wC c r == -1) <;> simp_all
  have hg := qqa hc hr ha (n := r.2.1) (by omega) (by omega) hn
  refine ⟨(Qk _ _).2 ⟨hpre, hg, trivial⟩, ?_, fun x hx0 hx1 => ?_⟩
  ·rw [W2, hlc]
   simp only [qv]
   show qv pre + (c.2.1 + r.2.1 + 0) = _
   omega
  ·rw [old x hx0 hx1, zC _ _ _ hpre hx0]
   by_cases h : x < qv pre
   ·rw [qd h, qd h]
   ·rw [qm h, qm h]
    simp only [wb]
    show (if x - qv pre < c.2.1 + r.2.1 then _ else _) = _
    rw [qd (by omega), qgf hc1 ha hn (by omega) (by omega)]
theorem qda : ∀ (l b : List Rn), goods b → goods l → goods (zl b l) ∧ qv (zl b l) = qv b + qv l ∧ ∀ x, 0 ≤ x → x < qv b + qv l → wb (zl b l) x = wb (b ++ l) x
 | [], b, hb, _ => by simp [zl, qv, hb]
 | r :: t, b, hb, ⟨hr, ht⟩ => by
  obtain ⟨a1, a2, a3⟩ := Xm b r hb hr
  obtain ⟨b1, b2, b3⟩ := qda t (vn b r) a1 ht
  have hr1 := hr.1
  have hb0 := zf hb
  have ht0 := zf ht
  refine ⟨b1, by show qv (zl (vn b r) t) = _; rw [b2, a2]; simp only [qv]; omega, fun x h0 h1 => ?_⟩
  show wb (zl (vn b r) t) x = _
  simp only [qv] at h1
  rw [b3 x h0 (by rw [a2]; omega), zC _ _ _ a1 h0, a2, show b ++ r :: t = b ++ [r] ++ t by simp, zC (b ++ [r]) _ _ ((Qk _ _).2 ⟨hb, hr, trivial⟩) h0, W2, show qv [r] = r.2.1 by simp [qv]]
  by_cases h : x < qv b + r.2.1
  ·rw [qd h, qd h, a3 x h0 h]
  ·rw [qm h, qm h]
theorem Vs : ∀ (m : List Rn) (a b : Int), goods m → a < b → b ≤ qv m → 0 ≤ b →
  goods (wg m a b) ∧ qv (wg m a b) = b - max a 0 ∧ ∀ x, 0 ≤ x → x < b - max a 0 → wb (wg m a b) x = wb m (max a 0 + x)
 | [], a, b, _, h1, h2, h3 => by
  simp only [qv] at h2
  refine ⟨trivial, by simp only [wg, qv]; omega, fun x h0 hx => by omega⟩
 | r :: t, a, b, ⟨hr, ht⟩, h1, h2, h3 => by
  have hr1 := hr.1
  have ht0 := zf ht
  simp only [qv] at h2
  by_cases hb : b - r.2.1 ≤ 0
  ·-- the end lies within the first run
   have hnil : wg t (a - r.2.1) (b - r.2.1) = [] := by
    have : ∀ (t : List Rn) (a b : Int), b ≤ 0 → goods t → wg t a b = [] := fun t => by
     induction t with
     | nil => intros; rfl
     | cons u v ih =>
      intro a b hb hg
      have := hg.1.1
      simp only [wg]
      rw [qm (by omega), ih _ _ (by omega) hg.2]; rfl
    exact this t _ _ hb ht
   simp only [wg, hnil, qY]
   by_cases hc : max a 0 < min b r.2.1
   ·rw [qd hc]
    refine ⟨⟨qbQ hr (by omega) (by omega) (by omega), trivial⟩, ?_, fun x h0 hx => ?_⟩
    ·simp only [qv]; show min b r.2.1 - max a 0 + 0 = _; omega
    ·have hlt : x < min b r.2.1 - max a 0 := by omega
     show (if x < min b r.2.1 - max a 0 then wh (wG r (max a 0) (min b r.2.1 - max a 0)) x else 0) = if max a 0 + x < r.2.1 then wh r (max a 0 + x) else wb t (max a 0 + x - r.2.1)
     rw [qd hlt, qeM h0 hlt, qd (by omega)]
   ·rw [qm hc]
    refine ⟨trivial, by simp only [qv]; omega, fun x h0 hx => by omega⟩
  ·obtain ⟨i1, i2, i3⟩ := Vs t (a - r.2.1) (b - r.2.1) ht (by omega) (by omega) (by omega)
   simp only [wg]
   by_cases hc : max a 0 < min b r.2.1
   ·rw [qd hc]
    refine ⟨⟨qbQ hr (by omega) (by omega) (by omega), i1⟩, ?_, fun x h0 hx => ?_⟩
    ·simp only [qpk, qH, qv, i2]; show min b r.2.1 - max a 0 + _ = _; omega
    ·simp only [qpk, qH, wb]
     show (if x < min b r.2.1 - max a 0 then _ else wb _ (x - (min b r.2.1 - max a 0))) = _
     by_cases hx2 : x < min b r.2.1 - max a 0
     ·rw [qd hx2, qeM h0 hx2, qd (by omega)]
     ·rw [qm hx2, i3 _ (by omega) (by omega), qm (by omega)]
      congr 1; omega
   ·rw [qm hc, qH]
    refine ⟨i1, by rw [i2]; omega, fun x h0 hx => ?_⟩
    rw [i3 x h0 (by omega)]
    simp only [wb]
    rw [qm (by omega)]
    congr 1; omega
theorem qp1 {p : Rn} (h : good p) : good (vK p) ∧ (vK p).2.1 = p.2.1 ∧ ∀ x, 0 ≤ x → x < p.2.1 → wh (vK p) x = wh p (p.2.1 - 1 - x) := by
 have h1 := h.1
 have hi : ∀ x, 0 ≤ x → x < p.2.1 → wh (vK p) x = wh p (p.2.1 - 1 - x) := fun x h0 hx => by
  unfold vK wh
  by_cases hl : p.2.1 > 1
  ·rw [qA hl, Bool.and_true]
   cases p.2.2 <;> simp only [qd1, vB, qG, if_false, if_true] <;> omega
  ·have : x = 0 := by omega
   subst this
   rw [qx hl, qHb]
   simp
 refine ⟨qiS h1 ?_ ?_, rfl, hi⟩
 ·rw [hi 0 (by omega) (by omega)]; exact qfZ h (by omega) (by omega)
 ·show 0 ≤ wh (vK p) (p.2.1 - 1) ∧ wh (vK p) (p.2.1 - 1) < 17179869184
  rw [hi _ (by omega) (by omega)]; exact qfZ h (by omega) (by omega)
theorem qpC : ∀ (l : List Rn), goods l → goods (l.reverse.map vK) ∧ qv (l.reverse.map vK) = qv l ∧ ∀ x, 0 ≤ x → x < qv l → wb (l.reverse.map vK) x = wb l (qv l - 1 - x)
 | [], _ => ⟨trivial, rfl, fun x _ h => by simp only [qv] at h; omega⟩
 | r :: t, ⟨hr, ht⟩ => by
  obtain ⟨i1, i2, i3⟩ := qpC t ht
  obtain ⟨r1, r2, r3⟩ := qp1 hr
  have hr1 := hr.1
  have ht0 := zf ht
  have e : (r :: t).reverse.map vK = t.reverse.map vK ++ [vK r] := by simp
  rw [e]
  refine ⟨(Qk _ _).2 ⟨i1, r1, trivial⟩, ?_, fun x h0 hx => ?_⟩
  ·rw [W2, i2]; simp only [qv, r2]; omega
  ·simp only [qv] at hx ⊢
   rw [zC _ _ _ i1 h0, i2]
   simp only [wb, r2]
   by_cases h : x < qv t
   ·rw [qd h, i3 x h0 h, qm (by omega)]
    congr 1; omega
   ·rw [qm h, qd (by omega), qd (by omega), r3 _ (by omega) (by omega)]
    congr 1; omega
theorem ZW (outer : List Rn) (r : Rn) (ho : goods outer) (hr : good r) (hh : hi r < qv outer) :
  goods (steps outer r) ∧ qv (steps outer r) = r.2.1 ∧ ∀ x, 0 ≤ x → x < r.2.1 → wb (steps outer r) x = wb outer (wh r x) := by
 obtain ⟨l1, l2, l3, l4⟩ := hr.lohi
 have hr1 := hr.1
 unfold steps
 unfold lo at l1 l2 l4
 unfold hi at l2 l3 l4 hh
 cases hb : r.2.2
 ·rw [hb] at l1 l2 l3 l4 hh
  simp only [qG, if_false] at l1 l2 l3 l4 hh ⊢
  obtain ⟨p1, p2, p3⟩ := Vs outer r.1 (r.1 + r.2.1) ho (by omega) (by omega) (by omega)
  refine ⟨p1, by rw [p2]; omega, fun x h0 hx => ?_⟩
  rw [p3 x h0 (by omega)]
  unfold wh
  rw [hb]
  simp only [qG, if_false]
  congr 1; omega
 ·rw [hb] at l1 l2 l3 l4 hh
  simp only [if_true] at l1 l2 l3 l4 hh ⊢
  obtain ⟨p1, p2, p3⟩ := Vs outer (r.1 - r.2.1 + 1) (r.1 + 1) ho (by omega) (by omega) (by omega)
  obtain ⟨q1, q2, q3⟩ := qpC _ p1
  refine ⟨q1, by rw [q2, p2]; omega, fun x h0 hx => ?_⟩
  rw [q3 x h0 (by omega), p3 _ (by omega) (by omega), p2]
  unfold wh
  rw [hb]
  simp only [if_true]
  congr 1; omega
theorem qmt (outer : List Rn) (ho : goods outer) : ∀ (inner b : List Rn), goods inner → fitsIn (qv outer) inner → goods b →
  goods (inner.foldl (fun b r => zl b (steps outer r)) b) ∧ qv (inner.foldl (fun b r => zl b (steps outer r)) b) = qv b + qv inner ∧
  ∀ x, 0 ≤ x → x < qv b + qv inner → wb (inner.foldl (fun b r => zl b (steps outer r)) b) x = if x < qv b then wb b x else wb outer (wb inner (x - qv b))
 | [], b, _, _, hb => ⟨hb, by simp [qv], fun x h0 h1 => by simp only [qv, Int.add_zero] at h1; simp only [List.foldl_nil]; rw [qd h1]⟩
 | r :: t, b, ⟨hr, ht⟩, ⟨hf, hft⟩, hb => by
  obtain ⟨s1, s2, s3⟩ := ZW outer r ho hr hf
  obtain ⟨a1, a2, a3⟩ := qda (steps outer r) b hb s1
  obtain ⟨i1, i2, i3⟩ := qmt outer ho t (zl b (steps outer r)) ht hft a1
  have hr1 := hr.1
  have ht0 := zf ht
  simp only [List.foldl_cons, qv]
  refine ⟨i1, by rw [i2, a2, s2]; omega, fun x h0 hx => ?_⟩
  rw [i3 x h0 (by rw [a2, s2]; omega), a2, s2]
  by_cases h : x < qv b + r.2.1
  ·rw [qd h, a3 x h0 (by rw [s2]; omega), zC _ _ _ hb h0]
   by_cases h2 : x < qv b
   ·rw [qd h2, qd h2]
   ·rw [qm h2, qm h2, s3 _ (by omega) (by omega)]
    simp only [wb]
    rw [qd (by omega)]
  ·rw [qm h, qm (by omega)]
   simp only [wb]
   rw [qm (by omega)]
   congr 2; omega
theorem qED {inner outer m : List Rn} (h : XH inner outer = (m, 0)) : Chk inner ∧ Chk outer ∧ fitsIn (qv outer) inner ∧ Chk m ∧ qv m = qv inner ∧ ∀ x, 0 ≤ x → x < qv inner → wb m x = wb outer (wb inner x) := by
 unfold XH at h
 by_cases h1 : chk inner ≠ 0
 ·rw [qd h1] at h; exact absurd (congrArg Prod.snd h) h1
 rw [qm h1] at h
 by_cases h2 : chk outer ≠ 0
 ·rw [qd h2] at h; exact absurd (congrArg Prod.snd h) h2
 rw [qm h2] at h
 by_cases h3 : ¬ fitsIn (qv outer) inner
 ·rw [qd h3] at h; exact absurd (congrArg Prod.snd h) (fun e => by cases e)
 rw [qm h3] at h
 by_cases h4 : (Yb inner outer).length > 256
 ·rw [qd h4] at h; exact absurd (congrArg Prod.snd h) (fun e => by cases e)
 rw [qm h4] at h
 have h1 := wW.1 (Classical.not_not.1 h1)
 have h2 := wW.1 (Classical.not_not.1 h2)
 have h3 := Classical.not_not.1 h3
 have e : Yb inner outer = m := congrArg Prod.fst h
 obtain ⟨c1, c2, c3⟩ := qmt outer h2.goods inner [] h1.goods h3 trivial
 have c1 : goods (Yb inner outer) := c1
 have c2 : qv (Yb inner outer) = 0 + qv inner := c2
 rw [e] at c1 c2 h4
 refine ⟨h1, h2, h3, ⟨by omega, c1, by rw [c2]; have := h1.tot; omega⟩, by omega, fun x h0 hx => ?_⟩
 have := c3 x h0 (by simp only [qv]; omega)
 have this : wb (Yb inner outer) x = _ := this
 rw [e] at this
 rw [this]
 simp only [qv, qm (by omega : ¬ x < 0), Int.sub_zero]
theorem goods.bnds {b : List Rn} (h : goods b) : ∀ c ∈ b, Bnd c ∧ 1 ≤ c.2.1 := fun c hc => ⟨(h.mem c hc).bnd, (h.mem c hc).1⟩
theorem Yy (b : List Rn) (r : Rn) : (vn b r).length ≤ b.length + 1 := by
 by_cases h0 : r.2.1 < 1
 ·rw [qhI _ _ h0]; omega
 rcases List.eq_nil_or_concat b with rfl | ⟨pre, c, rfl⟩
 ·rw [qls _ h0]; simp
 rw [List.concat_eq_append, qiA _ _ _ h0]
 cases apart c r
 ·rw [qg]
  cases decide (r.2.1 > 1) && !(r.2.2 == (wC c r == -1))
  ·rw [qg]; simp
  ·rw [qi]; simp
 ·rw [qi]; simp
theorem qlM : ∀ (l b : List Rn), (zl b l).length ≤ b.length + l.length
 | [], b => by simp [zl]
 | r :: t, b => by
  have h1 := Yy b r
  have h2 := qlM t (vn b r)
  have : zl b (r :: t) = zl (vn b r) t := rfl
  rw [this]; simp only [wc]; omega
theorem XE : ∀ (m : List Rn) (a b : Int), (wg m a b).length ≤ m.length
 | [], _, _ => qT _
 | r :: t, a, b => by
  have := XE t (a - r.2.1) (b - r.2.1)
  simp only [wg, qn, wc]
  split <;> simp <;> omega
theorem qux (b l m : List Rn) : zl b (l ++ m) = zl (zl b l) m := by unfold zl; rw [List.foldl_append]
theorem qtz (r : Rn) (f t a : Int) : (if a > f then a else f) - a = max (f - a) 0 ∧ (if a + r.2.1 < t then a + r.2.1 else t) - (if a > f then a else f) = min (t - a) r.2.1 - max (f - a) 0 ∧ ((if a > f then a else f) < (if a + r.2.1 < t then a + r.2.1 else t) ↔ max (f - a) 0 < min (t - a) r.2.1) := by
 refine ⟨?_, ?_, ?_⟩ <;> split <;> (try split) <;> omega
structure EachOk (m : List Rn) (f t : Int) : Prop where
 goods : goods m
 len : m.length ≤ 300
 f0 : -1125899906842624 ≤ f ∧ f ≤ 1125899906842624
 t0 : -1125899906842624 ≤ t ∧ t ≤ 1125899906842624
theorem qox (k : Nat) (hk : 4 ≤ k) (m0 : List Rn) (f0 t0 : Int) (b0 : List Rn) (m : List Rn) (f t : Int) (ok : EachOk m f t) : ∀ (j i : Nat) (a : Int) (b : List Rn), i ≤ m.length → m.length - i < j → 0 ≤ a → a ≤ (i : Int) * 17179869184 → goods b → b.length ≤ 100000000 + i →
  Yj k m0 f0 t0 b0 j f t a m (m.length : Int) (i : Int) b = some (zl b (wg (m.drop i) (f - a) (t - a))) := by
 obtain ⟨hg, hm, ⟨f1, f2⟩, t1, t2⟩ := ok
 intro j
 induction j with
 | zero => intros; omega
 | succ j ih =>
  intro i a b hi hj h0 ha hb hbl
  rw [Yj]
  by_cases h : i < m.length
  ·have hgr : good (m.getD i T3.dflt) := hg.mem _ (by simp [h])
   rw [qA (by omega : (i : Int) < (m.length : Int)), qi, qd ⟨by omega, by omega⟩, qq m i T3.dflt h, qc]
   generalize m.getD i T3.dflt = r at hgr
   have hgr' := hgr
   obtain ⟨g1, g2, g3, g4, _⟩ := hgr
   obtain ⟨e1, e2, e3⟩ := qtz r f t a
   have m1 : -9223372036854775808 ≤ (if a > f then a else f) - a := by split <;> omega
   have m2 : (if a > f then a else f) - a < 9223372036854775808 := by split <;> omega
   have m3 : -9223372036854775808 ≤ (if a + r.snd.fst < t then a + r.snd.fst else t) - (if a > f then a else f) := by split <;> split <;> omega
   have m4 : (if a + r.snd.fst < t then a + r.snd.fst else t) - (if a > f then a else f) < 9223372036854775808 := by split <;> split <;> omega
   rw [qo (i := a + r.snd.fst) (by omega) (by omega), qo m1 m2, qo m3 m4, qF i (by omega), e1, e2]
   have hrec : f - a - r.2.1 = f - (a + r.snd.fst) := by omega
   have hrec2 : t - a - r.2.1 = t - (a + r.snd.fst) := by omega
   by_cases hc : max (f - a) 0 < min (t - a) r.2.1
   ·have hp := qbQ hgr' (x := max (f - a) 0) (n := min (t - a) r.2.1 - max (f - a) 0) (by omega) (by omega) (by omega)
    rw [qA (e3.2 hc), qi, WL k r _ _ (by omega) (by omega) (by omega) (by omega), Z9 k r _ _ (by omega) (by omega) (by omega) (by omega)]
    rw [qhZ k hk b _ (by omega) hp.bnd hb.bnds, qpz k hk b _ (by omega) hp.bnd hb.bnds, qd ⟨rfl, rfl⟩]
    rw [ih (i + 1) _ _ (by omega) (by omega) (by omega) (by omega) (Xm b _ hb hp).1 (by have := Yy b (wG r (max (f - a) 0) (min (t - a) r.snd.fst - max (f - a) 0)); omega)]
    rw [wg, qd hc, qux, hrec, hrec2]
    rfl
   ·rw [qx (fun x => hc (e3.1 x)), qg, ih (i + 1) _ _ (by omega) (by omega) (by omega) (by omega) hb (by omega), wg, qm hc, qH, hrec, hrec2]
  ·rw [qx (by omega : ¬ (i : Int) < (m.length : Int)), qg, zh m i (by omega)]
   rfl
theorem qeG (k : Nat) (hk : 304 ≤ k) (m : List Rn) (f t : Int) (ok : EachOk m f t) (b : List Rn) (hb : goods b) (hbl : b.length ≤ 100000000) : qjj k m f t b = some (zl b (wg m f t)) := by
 unfold qjj
 have := qox k (by omega) m f t b m f t ok k 0 0 b (by omega) (by have := ok.len; omega) (by omega) (by omega) hb (by omega)
 rw [Int.sub_zero, Int.sub_zero] at this
 exact this
theorem qoH (k : Nat) (hk : 304 ≤ k) (m : List Rn) (f t : Int) (ok : EachOk m f t) (b : List Rn) (hb : goods b) (hbl : b.length ≤ 100000000) : qjl k m f t b = zl b (wg m f t) := by
 unfold qjl; rw [qeG k hk m f t ok b hb hbl]; rfl
theorem qlx (k : Nat) (m0 : List Rn) (f0 t0 : Int) (b0 : List Rn) (m : List Rn) (f t : Int) (ok : EachOk m f t) : ∀ (j i : Nat) (a : Int) (b : List Rn), i ≤ m.length → m.length - i < j → 0 ≤ a → a ≤ (i : Int) * 17179869184 → b.length ≤ 100000000 + i →
  Yr k m0 f0 t0 b0 j f t a m (m.length : Int) (i : Int) b = some (b ++ wg (m.drop i) (f - a) (t - a)) := by
 obtain ⟨hg, hm, ⟨f1, f2⟩, t1, t2⟩ := ok
 intro j
 induction j with
 | zero => intros; omega
 | succ j ih =>
  intro i a b hi hj h0 ha hbl
  rw [Yr]
  by_cases h : i < m.length
  ·have hgr : good (m.getD i T3.dflt) := hg.mem _ (by simp [h])
   rw [qA (by omega : (i : Int) < (m.length : Int)), qi, qd ⟨by omega, by omega⟩, qq m i T3.dflt h, qc]
   generalize m.getD i T3.dflt = r at hgr
   obtain ⟨g1, g2, g3, g4, _⟩ := hgr
   obtain ⟨e1, e2, e3⟩ := qtz r f t a
   have m1 : -9223372036854775808 ≤ (if a > f then a else f) - a := by split <;> omega
   have m2 : (if a > f then a else f) - a < 9223372036854775808 := by split <;> omega
   have m3 : -9223372036854775808 ≤ (if a + r.snd.fst < t then a + r.snd.fst else t) - (if a > f then a else f) := by split <;> split <;> omega
   have m4 : (if a + r.snd.fst < t then a + r.snd.fst else t) - (if a > f then a else f) < 9223372036854775808 := by split <;> split <;> omega
   rw [qo (i := a + r.snd.fst) (by omega) (by omega), qo m1 m2, qo m3 m4, qF i (by omega), e1, e2]
   have hrec : f - a - r.2.1 = f - (a + r.snd.fst) := by omega
   have hrec2 : t - a - r.2.1 = t - (a + r.snd.fst) := by omega
   by_cases hc : max (f - a) 0 < min (t - a) r.2.1
   ·rw [qA (e3.2 hc), qi, WL k r _ _ (by omega) (by omega) (by omega) (by omega), Z9 k r _ _ (by omega) (by omega) (by omega) (by omega)]
    have ec : ∀ p : Rn, qje k p b = some (b ++ [p]) := fun p => by
     unfold qje
     rw [qd (by rw [qk]; omega)]
    have ev : ∀ p : Rn, qiW k p b = b ++ [p] := fun p => by unfold qiW; rw [ec]; rfl
    rw [ec, ev, qd ⟨rfl, rfl⟩, ih (i + 1) _ _ (by omega) (by omega) (by omega) (by omega) (by rw [qn, qk]; omega), wg, qd hc, hrec, hrec2]
    simp
   ·rw [qx (fun x => hc (e3.1 x)), qg, ih (i + 1) _ _ (by omega) (by omega) (by omega) (by omega) (by omega), wg, qm hc, qH, hrec, hrec2]
  ·rw [qx (by omega : ¬ (i : Int) < (m.length : Int)), qg, zh m i (by omega)]
   simp [wg]
theorem qbD (k : Nat) (hk : 304 ≤ k) (m : List Rn) (f t : Int) (ok : EachOk m f t) : qi7 k m f t [] = some (wg m f t) := by
 unfold qi7
 have := qlx k m f t [] m f t ok k 0 0 [] (by omega) (by have := ok.len; omega) (by omega) (by omega) (by simp)
 rw [Int.sub_zero, Int.sub_zero, qH] at this
 exact this
theorem qlq (k : Nat) (hk : 304 ≤ k) (m : List Rn) (f t : Int) (ok : EachOk m f t) : qfC k m f t [] = wg m f t := by
 unfold qfC; rw [qbD k hk m f t ok]; rfl
theorem qoh (k : Nat) (hk : 4 ≤ k) (m0 b0 : List Rn) (m : List Rn) (hg : goods m) (hm : m.length ≤ 300) : ∀ (j i : Nat) (b : List Rn), i ≤ m.length → i < j → goods b → b.length ≤ 100000000 + (m.length - i) →
  qbs k m0 b0 j m ((i : Int) - 1) b = some (zl b ((m.take i).reverse.map vK)) := by
 intro j
 induction j with
 | zero => intros; omega
 | succ j ih =>
  intro i b hi hj hb hbl
  rw [qbs]
  cases i with
  | zero =>
   rw [qx (by omega), qg]
   rfl
  | succ i =>
   have hlt : i < m.length := by omega
   have hgr : good (m.getD i T3.dflt) := hg.mem _ (by simp [hlt])
   rw [show ((i + 1 : Nat) : Int) - 1 = (i : Int) by omega, qA (by omega), qi, qd ⟨by omega, by omega⟩, qc, wR m i T3.dflt hlt]
   generalize m.getD i T3.dflt = r at hgr
   obtain ⟨q1, _, _⟩ := qp1 hgr
   obtain ⟨g1, g2, g3, g4, _⟩ := hgr
   have er : (wh r (r.snd.fst - 1), r.snd.fst, !r.snd.snd && decide (r.snd.fst > 1)) = vK r := rfl
   rw [qo (i := r.snd.fst - 1) (by omega) (by omega), qo (i := (i : Int) - 1) (by omega) (by omega), QR k r _ (by omega) (by omega) (by omega) (by omega), W6 k r _ (by omega) (by omega) (by omega) (by omega), er]
   rw [qhZ k hk b _ (by omega) q1.bnd hb.bnds, qpz k hk b _ (by omega) q1.bnd hb.bnds, qd ⟨rfl, rfl⟩]
   rw [ih i _ (by omega) (by omega) (Xm b _ hb q1).1 (by have := Yy b (vK r); omega)]
   simp only [List.reverse_append, List.reverse_cons, List.reverse_nil, qH, qpk, List.map_cons]
   rfl
theorem qff (k : Nat) (hk : 304 ≤ k) (m : List Rn) (hg : goods m) (hm : m.length ≤ 300) (b : List Rn) (hb : goods b) (hbl : b.length ≤ 100000000) : qi0 k m b = some (zl b (m.reverse.map vK)) := by
 unfold qi0
 rw [qo (by omega) (by omega), qoh k (by omega) m b m hg hm k m.length b (by omega) (by omega) hb (by omega), List.take_length]
theorem qoK (k : Nat) (hk : 304 ≤ k) (m : List Rn) (hg : goods m) (hm : m.length ≤ 300) (b : List Rn) (hb : goods b) (hbl : b.length ≤ 100000000) : qjT k m b = zl b (m.reverse.map vK) := by
 unfold qjT; rw [qff k hk m hg hm b hb hbl]; rfl
theorem qkF {r : Rn} (h : good r) : (if wh r (r.2.1 - 1) > r.1 then wh r (r.2.1 - 1) else r.1) = hi r := by
 have h1 := h.1
 unfold wh hi
 cases r.2.2 <;> simp only [qG, if_false, if_true] <;> split <;> omega
theorem qsx {r : Rn} (h : good r) : (if wh r (r.2.1 - 1) < r.1 then wh r (r.2.1 - 1) else r.1) = lo r := by
 have h1 := h.1
 unfold wh lo
 cases r.2.2 <;> simp only [qG, if_false, if_true] <;> split <;> omega
theorem qqb (outer : List Rn) (r : Rn) : (steps outer r).length ≤ outer.length := by
 unfold steps
 split
 ·simp only [List.length_map, List.length_reverse]; exact XE _ _ _
 ·exact XE _ _ _
theorem qmN (k : Nat) (hk : 700 ≤ k) (inner outer : List Rn) (hin : Chk inner) (ho : Chk outer) (hf : fitsIn (qv outer) inner) : ∀ (j i : Nat) (b : List Rn), i ≤ inner.length → inner.length - i < j → goods b → b.length ≤ i * 256 →
  ZU k j outer inner (inner.length : Int) (i : Int) b = some (if ((inner.drop i).foldl (fun b r => zl b (steps outer r)) b).length > 256 then ([], 8) else ((inner.drop i).foldl (fun b r => zl b (steps outer r)) b, 0)) := by
 have hil := hin.len
 have hol := ho.len
 have fitmem : ∀ {n : Int} {l : List Rn}, fitsIn n l → ∀ r ∈ l, hi r < n := fun {n l} => by
  induction l with
  | nil => intro _ r hr; simp at hr
  | cons u v ih =>
   rintro ⟨h1, h2⟩ r hr
   rcases qK.1 hr with rfl | hr
   ·exact h1
   ·exact ih h2 r hr
 intro j
 induction j with
 | zero => intros; omega
 | succ j ih =>
  intro i b hi hj hb hbl
  rw [ZU]
  by_cases h : i < inner.length
  ·have hmem : inner.getD i T3.dflt ∈ inner := by simp [h]
   have hgr : good (inner.getD i T3.dflt) := hin.goods.mem _ hmem
   have hfr := fitmem hf _ hmem
   rw [qA (by omega : (i : Int) < (inner.length : Int)), qi, qd ⟨by omega, by omega⟩, qq inner i T3.dflt h, qc]
   generalize inner.getD i T3.dflt = r at hgr hfr
   have hgr' := hgr
   obtain ⟨g1, g2, g3, g4, _⟩ := hgr
   obtain ⟨s1, s2, s3⟩ := ZW outer r ho.goods hgr' hfr
   have hsl := qqb outer r
   have hal := qlM (steps outer r) b
   have hag := (qda (steps outer r) b hb s1).1
   rw [List.foldl_cons]
   cases hbk : r.snd.snd with
   | false =>
    have es : steps outer r = wg outer r.1 (r.1 + r.2.1) := by unfold steps; rw [show r.2.2 = r.snd.snd from rfl, hbk, qm (by decide)]
    have ok : EachOk outer r.fst (r.fst + r.snd.fst) := ⟨ho.goods, by omega, ⟨by omega, by omega⟩, by omega, by omega⟩
    rw [qd1, qi, qo (i := r.fst + r.snd.fst) (by omega) (by omega), qeG k (by omega) outer _ _ ok b hb (by omega), qoH k (by omega) outer _ _ ok b hb (by omega), qb, qd rfl, qF i (by omega), ← es]
    exact ih (i + 1) _ (by omega) (by omega) hag (by omega)
   | true =>
    have es : steps outer r = ((wg outer (r.1 - r.2.1 + 1) (r.1 + 1)).reverse).map vK := by unfold steps; rw [show r.2.2 = r.snd.snd from rfl, hbk, qd rfl]
    have ok : EachOk outer (r.fst - r.snd.fst + 1) (r.fst + 1) := ⟨ho.goods, by omega, ⟨by omega, by omega⟩, by omega, by omega⟩
    have hpl := XE outer (r.fst - r.snd.fst + 1) (r.fst + 1)
    have hpg : goods (wg outer (r.fst - r.snd.fst + 1) (r.fst + 1)) := (Vs outer _ _ ho.goods (by omega) (by
     unfold Go.AM.hi at hfr
     rw [show r.2.2 = r.snd.snd from rfl, hbk, qd rfl] at hfr
     omega) (by omega)).1
    rw [vB, qg, qo (i := r.fst - r.snd.fst) (by omega) (by omega), qo (i := r.fst - r.snd.fst + 1) (by omega) (by omega), qo (i := r.fst + 1) (by omega) (by omega), qbD k (by omega) outer _ _ ok, qlq k (by omega) outer _ _ ok, qb, qd rfl]
    rw [qff k (by omega) _ hpg (by omega) b hb (by omega), qoK k (by omega) _ hpg (by omega) b hb (by omega), qb, qd rfl, qF i (by omega), ← es]
    exact ih (i + 1) _ (by omega) (by omega) hag (by omega)
  ·rw [qx (by omega : ¬ (i : Int) < (inner.length : Int)), qg, zh inner i (by omega)]
   rw [List.foldl_nil]
   by_cases hl : b.length > 256
   ·have e : XB k b = some (.inl 8) := by
     unfold XB; rw [qA (by omega), qi]
    have ev : XP k b = .inl 8 := by unfold XP; rw [e]; rfl
    have ea : qfa k b = 8 := by unfold qfa; rw [ev]; rfl
    rw [ev, e, ea, qd hl]; rfl
   ·have e : XB k b = some (.inr 0) := by
     unfold XB; rw [qx (by omega), qg]
    have ev : XP k b = .inr 0 := by unfold XP; rw [e]; rfl
    have ea : qeA k b = 0 := by unfold qeA; rw [ev]; rfl
    rw [ev, e, ea, qm hl]; rfl
theorem qot (k : Nat) (hk : 700 ≤ k) (inner outer : List Rn) (hin : Chk inner) (ho : Chk outer) (hf0 : fitsIn (qv outer) inner → ∀ j, inner.length < j → ZU k j outer inner (inner.length : Int) 0 [] = some (if (Yb inner outer).length > 256 then ([], 8) else (Yb inner outer, 0))) : ∀ (j i : Nat), i ≤ inner.length → inner.length - i + inner.length + 1 < j → fitsIn (qv outer) (inner.take i) →
  qbo k j inner outer (qv outer) inner (inner.length : Int) (i : Int) = some (if ¬ fitsIn (qv outer) inner then ([], 21) else if (Yb inner outer).length > 256 then ([], 8) else (Yb inner outer, 0)) := by
 have hil := hin.len
 have fitapp : ∀ {n : Int} (a b : List Rn), fitsIn n (a ++ b) ↔ fitsIn n a ∧ fitsIn n b := fun {n} a b => by
  induction a with
  | nil => simp [fitsIn]
  | cons u v ih => simp only [qpk, fitsIn, ih]; exact and_assoc.symm
 intro j
 induction j with
 | zero => intros; omega
 | succ j ih =>
  intro i hi hj hf
  rw [qbo]
  by_cases h : i < inner.length
  ·have hmem : inner.getD i T3.dflt ∈ inner := by simp [h]
   have hgr : good (inner.getD i T3.dflt) := hin.goods.mem _ hmem
   have htk := wR inner i T3.dflt h
   have hdr := qq inner i T3.dflt h
   rw [qA (by omega : (i : Int) < (inner.length : Int)), qi, qd ⟨by omega, by omega⟩, qc]
   generalize inner.getD i T3.dflt = r at hgr htk hdr
   have hgr' := hgr
   obtain ⟨g1, g2, g3, g4, _⟩ := hgr
   rw [qo (i := r.snd.fst - 1) (by omega) (by omega), QR k r _ (by omega) (by omega) (by omega) (by omega), W6 k r _ (by omega) (by omega) (by omega) (by omega), qb, qd rfl, qkF hgr']
   by_cases hlt : Go.AM.hi r < qv outer
   ·rw [qx (by omega : ¬ Go.AM.hi r ≥ qv outer), qg, qF i (by omega)]
    exact ih (i + 1) (by omega) (by omega) (by rw [htk, fitapp]; exact ⟨hf, hlt, trivial⟩)
   ·rw [qA (by omega : Go.AM.hi r ≥ qv outer), qi, qd]
    intro hfit
    have : inner = inner.take i ++ inner.drop i := (qnA i inner).symm
    rw [this, fitapp, hdr] at hfit
    exact hlt hfit.2.1
  ·have : inner.take i = inner := wI (by omega)
   rw [this] at hf
   rw [qx (by omega : ¬ (i : Int) < (inner.length : Int)), qg, qm (Classical.not_not.2 hf)]
   exact hf0 hf j (by omega)
theorem qg5 (k : Nat) (hk : 700 ≤ k) (inner outer : List Rn) : qjk k inner outer = some (XH inner outer) := by
 unfold qjk XH
 rw [QT k (by omega), W0 k (by omega), QT k (by omega), W0 k (by omega), qb, qb, qd rfl]
 by_cases h1 : chk inner = 0
 ·rw [show (chk inner != 0) = false by simp [h1], qg, qd rfl, qm (fun h : chk inner ≠ 0 => h h1)]
  by_cases h2 : chk outer = 0
  ·have c1 := wW.1 h1
   have c2 := wW.1 h2
   have l1 := c1.len
   have l2 := c2.len
   rw [show (chk outer != 0) = false by simp [h2], qg, qm (fun h : chk outer ≠ 0 => h h2), X5 k outer c2.goods (by omega) (by omega), qcx k outer c2.goods (by omega) (by omega), qb, qd rfl]
   exact qot k hk inner outer c1 c2 (fun hf j hj => qmN k hk inner outer c1 c2 hf j 0 [] (by omega) (by omega) trivial (by simp)) k 0 (by omega) (by omega) (by simp [fitsIn])
  ·rw [show (chk outer != 0) = true by simp [h2], qi, qd h2]
 ·rw [show (chk inner != 0) = true by simp [h1], qi, qd h1]
theorem qqN (k : Nat) (hk : 700 ≤ k) (inner outer : List Rn) : qcV k inner outer = XH inner outer := by
 unfold qcV; rw [qg5 k hk]; rfl
end Go.AM
namespace Go.AM
open Go
def QK : List Rn → Int → Option (Rn × Int)
 | [], _ => none
 | r :: t, x => if x < r.2.1 then some (r, x) else QK t (x - r.2.1)
theorem qf0 : ∀ {m : List Rn} {x : Int}, goods m → 0 ≤ x → x < qv m → ∃ o p, QK m x = some (o, p) ∧ good o ∧ 0 ≤ p ∧ p < o.2.1 ∧ p ≤ x ∧ wb m x = wh o p
 | [], x, _, h0, h1 => by simp only [qv] at h1; omega
 | r :: t, x, ⟨hr, ht⟩, h0, h1 => by
  simp only [qv] at h1
  have hr1 := hr.1
  by_cases h : x < r.2.1
  ·exact ⟨r, x, by unfold QK; rw [qd h], hr, h0, h, by omega, by unfold wb; rw [qd h]⟩
  ·obtain ⟨o, p, h2, h3, h4, h5, h6, h7⟩ := qf0 (m := t) (x := x - r.2.1) ht (by omega) (by omega)
   exact ⟨o, p, by unfold QK; rw [qm h]; exact h2, h3, h4, h5, by omega, by unfold wb; rw [qm h]; exact h7⟩
theorem qlB : ∀ {m : List Rn} {x : Int}, goods m → qv m ≤ x → QK m x = none
 | [], x, _, _ => rfl
 | r :: t, x, ⟨hr, ht⟩, h => by
  simp only [qv] at h
  have := hr.1
  have := zf ht
  unfold QK
  rw [qm (by omega)]
  exact qlB ht (by omega)
theorem qni : ∀ (m : List Rn) (a a' b : Int), goods m → a ≤ 0 → a' ≤ 0 → wg m a b = wg m a' b
 | [], _, _, _, _, _, _ => rfl
 | r :: t, a, a', b, ⟨hr, ht⟩, h1, h2 => by
  have := hr.1
  unfold wg
  rw [qni t (a - r.2.1) (a' - r.2.1) (b - r.2.1) ht (by omega) (by omega), show max a 0 = max a' 0 by omega]
theorem Xv : ∀ (m : List Rn) (a b : Int), goods m → b ≤ max a 0 → wg m a b = []
 | [], _, _, _, _ => rfl
 | r :: t, a, b, ⟨hr, ht⟩, h => by
  have := hr.1
  unfold wg
  rw [qm (by omega), Xv t _ _ ht (by omega)]; rfl
theorem qbf : ∀ (m : List Rn) (a b : Int) (o : Rn) (p : Int), goods m → 0 ≤ a → a < b → QK m a = some (o, p) → wg m a b = wG o p (min (b - a) (o.2.1 - p)) :: wg m (a + min (b - a) (o.2.1 - p)) b
 | [], a, b, o, p, _, _, _, h => by simp [QK] at h
 | r :: t, a, b, o, p, ⟨hr, ht⟩, h0, h1, h => by
  have hr1 := hr.1
  unfold QK at h
  by_cases hx : a < r.2.1
  ·rw [qd hx] at h
   simp only [Option.some.injEq, Prod.mk.injEq] at h
   obtain ⟨rfl, rfl⟩ := h
   rw [wg, qd (by omega), wg, qm (by omega), qH, qni t (a - r.2.1) (a + min (b - a) (r.2.1 - a) - r.2.1) _ ht (by omega) (by omega)]
   rw [show max a 0 = a by omega, show min b r.2.1 - a = min (b - a) (r.2.1 - a) by omega]
   rfl
  ·rw [qm hx] at h
   have ih := qbf t (a - r.2.1) (b - r.2.1) o p ht (by omega) (by omega) h
   have hp : 0 ≤ min (b - a) (o.2.1 - p) := by
    have : ∀ {m : List Rn} {x : Int} {o p}, QK m x = some (o, p) → p < o.2.1 := fun {m} => by
     induction m with
     | nil => intro x o p h; simp [QK] at h
     | cons u v ih =>
      intro x o p h
      unfold QK at h
      by_cases q : x < u.2.1
      ·rw [qd q] at h; simp only [Option.some.injEq, Prod.mk.injEq] at h; obtain ⟨rfl, rfl⟩ := h; exact q
      ·rw [qm q] at h; exact ih h
    have := this h
    omega
   rw [wg, qm (by omega), qH, ih, wg, qm (by omega), qH]
   rw [show b - r.2.1 - (a - r.2.1) = b - a by omega, show a - r.2.1 + min (b - a) (o.2.1 - p) = a + min (b - a) (o.2.1 - p) - r.2.1 by omega]
theorem qFc {m : List Rn} : ∀ {x : Int} {o p}, goods m → 0 ≤ x → QK m x = some (o, p) → good o ∧ 0 ≤ p ∧ p < o.2.1 ∧ p ≤ x := by
 induction m with
 | nil => intro x o p _ _ h; simp [QK] at h
 | cons u v ih =>
  intro x o p hg h0 h
  unfold QK at h
  by_cases q : x < u.2.1
  ·rw [qd q] at h; simp only [Option.some.injEq, Prod.mk.injEq] at h; obtain ⟨rfl, rfl⟩ := h; exact ⟨hg.1, h0, q, Wg _⟩
  ·rw [qm q] at h
   have := hg.1.1
   obtain ⟨a, b, c, d⟩ := ih hg.2 (by omega) h
   exact ⟨a, b, c, by omega⟩
theorem qmX : ∀ (m : List Rn) (l a : Int) (o : Rn) (p : Int), goods m → max l 0 ≤ a → QK m a = some (o, p) → wg m l (a + 1) = wg m l (a + 1 - min (a + 1 - max l 0) (p + 1)) ++ [wG o (p + 1 - min (a + 1 - max l 0) (p + 1)) (min (a + 1 - max l 0) (p + 1))]
 | [], l, a, o, p, _, _, h => by simp [QK] at h
 | r :: t, l, a, o, p, ⟨hr, ht⟩, h0, h => by
  have hr1 := hr.1
  unfold QK at h
  by_cases hx : a < r.2.1
  ·rw [qd hx] at h
   simp only [Option.some.injEq, Prod.mk.injEq] at h
   obtain ⟨rfl, rfl⟩ := h
   rw [wg, qd (by omega), Xv t _ _ ht (by omega), Xv (r :: t) _ _ ⟨hr, ht⟩ (by omega)]
   rw [show min (a + 1 - max l 0) (a + 1) = a + 1 - max l 0 by omega, show min (a + 1) r.2.1 - max l 0 = a + 1 - max l 0 by omega, show a + 1 - (a + 1 - max l 0) = max l 0 by omega]
   rfl
  ·rw [qm hx] at h
   obtain ⟨_, q1, q2, q3⟩ := qFc ht (by omega) h
   have ih := qmX t (l - r.2.1) (a - r.2.1) o p ht (by omega) h
   have e : min (a - r.2.1 + 1 - max (l - r.2.1) 0) (p + 1) = min (a + 1 - max l 0) (p + 1) := by omega
   rw [e] at ih
   rw [wg, show a + 1 - r.2.1 = a - r.2.1 + 1 by omega, ih, wg, show a + 1 - min (a + 1 - max l 0) (p + 1) - r.2.1 = a - r.2.1 + 1 - min (a + 1 - max l 0) (p + 1) by omega]
   rw [show min (a + 1) r.2.1 = r.2.1 by omega, show min (a + 1 - min (a + 1 - max l 0) (p + 1)) r.2.1 = r.2.1 by omega, qw]
theorem qD5 {outer : List Rn} {r o : Rn} {p : Int} (ho : goods outer) (hr : 1 ≤ r.2.1) (h0 : 0 ≤ r.1) (hb : r.2.2 = false) (h : QK outer r.1 = some (o, p)) :
  steps outer r = wG o p (min r.2.1 (o.2.1 - p)) :: steps outer (r.1 + min r.2.1 (o.2.1 - p), r.2.1 - min r.2.1 (o.2.1 - p), false) := by
 unfold steps
 rw [hb, qm (by decide), qm (fun e : false = true => by cases e), qbf outer r.1 (r.1 + r.2.1) o p ho h0 (by omega) h]
 rw [show r.1 + r.2.1 - r.1 = r.2.1 by omega]
 show _ = _ :: wg outer (r.1 + min r.2.1 (o.2.1 - p)) (r.1 + min r.2.1 (o.2.1 - p) + (r.2.1 - min r.2.1 (o.2.1 - p)))
 rw [show r.1 + min r.2.1 (o.2.1 - p) + (r.2.1 - min r.2.1 (o.2.1 - p)) = r.1 + r.2.1 by omega]
theorem qBn {outer : List Rn} {r o : Rn} {p : Int} (ho : goods outer) (hr : 1 ≤ r.2.1) (h0 : 0 ≤ r.1 - r.2.1 + 1) (hb : r.2.2 = true) (h : QK outer r.1 = some (o, p)) :
  steps outer r = (wh o p, min r.2.1 (p + 1), !o.2.2 && decide (min r.2.1 (p + 1) > 1)) :: steps outer (r.1 - min r.2.1 (p + 1), r.2.1 - min r.2.1 (p + 1), true) := by
 obtain ⟨_, q1, q2, q3⟩ := qFc ho (by omega) h
 have e := qmX outer (r.1 - r.2.1 + 1) r.1 o p ho (by omega) h
 rw [show r.1 + 1 - max (r.1 - r.2.1 + 1) 0 = r.2.1 by omega] at e
 unfold steps
 rw [hb, qd rfl, qd rfl, e, List.reverse_append, List.map_append]
 show _ = _ :: ((wg outer (r.1 - min r.2.1 (p + 1) - (r.2.1 - min r.2.1 (p + 1)) + 1) (r.1 - min r.2.1 (p + 1) + 1)).reverse).map vK
 rw [show r.1 - min r.2.1 (p + 1) - (r.2.1 - min r.2.1 (p + 1)) + 1 = r.1 - r.2.1 + 1 by omega, show r.1 - min r.2.1 (p + 1) + 1 = r.1 + 1 - min r.2.1 (p + 1) by omega]
 have e2 : vK (wG o (p + 1 - min r.2.1 (p + 1)) (min r.2.1 (p + 1))) = (wh o p, min r.2.1 (p + 1), !o.2.2 && decide (min r.2.1 (p + 1) > 1)) := by
  generalize hn : min r.2.1 (p + 1) = n
  have hn1 : 1 ≤ n := by omega
  unfold vK
  show (wh (wG o (p + 1 - n) n) (n - 1), n, !(o.2.2 && decide (n > 1)) && decide (n > 1)) = _
  rw [qeM (by omega) (by omega), show p + 1 - n + (n - 1) = p by omega]
  congr 2
  cases o.2.2 <;> cases decide (n > 1) <;> rfl
 rw [show ([wG o (p + 1 - min r.2.1 (p + 1)) (min r.2.1 (p + 1))].reverse.map vK) = [vK (wG o (p + 1 - min r.2.1 (p + 1)) (min r.2.1 (p + 1)))] from rfl, e2]
 rfl
theorem qqe (outer : List Rn) (ho : goods outer) (x : Int) (b : Bool) : steps outer (x, 0, b) = [] := by
 unfold steps
 cases b
 ·rw [qm (by simp)]
  exact Xv outer _ _ ho (by show x + 0 ≤ max x 0; omega)
 ·rw [qd rfl, Xv outer _ _ ho (by show x + 1 ≤ max (x - 0 + 1) 0; omega)]; rfl
theorem qqq (k : Nat) (m : List Rn) (hg : goods m) (hm : m.length ≤ 300) : ∀ (j i : Nat) (x : Int), i ≤ m.length → m.length - i < j → 0 ≤ x → x ≤ 1125899906842624 →
  (∀ o p, QK (m.drop i) x = some (o, p) → ∃ q : Nat, q < m.length ∧ m.getD q T3.dflt = o ∧ YA k j m x (i : Int) = some ((q : Int), p)) ∧
  (QK (m.drop i) x = none → YA k j m x (i : Int) = some (-1, 0)) := by
 intro j
 induction j with
 | zero => intros; omega
 | succ j ih =>
  intro i x hi hj h0 h1
  rw [YA]
  by_cases h : i < m.length
  ·have hgr : good (m.getD i T3.dflt) := hg.mem _ (by simp [h])
   have hgr1 := hgr.1
   have hgr2 := hgr.2.1
   rw [qA (by omega : (i : Int) < (m.length : Int)), qA (by omega : x ≥ 0), Bool.and_true, qi, qd ⟨by omega, by omega⟩, qq m i T3.dflt h, qc, QK]
   by_cases hx : x < (m.getD i T3.dflt).2.1
   ·rw [qA hx, qi, qd hx]
    refine ⟨fun o p e => ?_, fun e => by cases e⟩
    simp only [Option.some.injEq, Prod.mk.injEq] at e
    obtain ⟨e1, rfl⟩ := e
    exact ⟨i, h, e1, rfl⟩
   ·rw [qx hx, qg, qm hx, qd ⟨by omega, by omega⟩, qo (by omega) (by omega), qF i (by omega)]
    exact ih (i + 1) _ (by omega) (by omega) (by omega) (by omega)
  ·rw [qx (by omega : ¬ (i : Int) < (m.length : Int)), wD, qg, zh m i (by omega)]
   exact ⟨fun o p e => by simp [QK] at e, fun _ => rfl⟩
theorem VK (k : Nat) (hk : 304 ≤ k) (m : List Rn) (hg : goods m) (hm : m.length ≤ 300) (x : Int) (h0 : 0 ≤ x) (h1 : x ≤ 1125899906842624) :
  (∀ o p, QK m x = some (o, p) → ∃ q : Nat, q < m.length ∧ m.getD q T3.dflt = o ∧ VG k m x = some ((q : Int), p) ∧ qO k m x = ((q : Int), p)) ∧
  (QK m x = none → VG k m x = some (-1, 0) ∧ qO k m x = (-1, 0)) := by
 obtain ⟨a, b⟩ := qqq k m hg hm k 0 x (by omega) (by omega) h0 h1
 refine ⟨fun o p e => ?_, fun e => ?_⟩
 ·obtain ⟨q, q1, q2, q3⟩ := a o p e
  have q3 : VG k m x = some ((q : Int), p) := q3
  exact ⟨q, q1, q2, q3, by unfold qO; rw [q3]; rfl⟩
 ·have q3 : VG k m x = some (-1, 0) := b e
  exact ⟨q3, by unfold qO; rw [q3]; rfl⟩
theorem qlP (a b : Int) : (if a < b then a else b) = min b a := by split <;> omega
theorem qhJ (k : Nat) (hk : 304 ≤ k) (inner outer : List Rn) (i : Int) (ho : Chk outer) : ∀ (n : Nat) (r : Rn) (out : List Rn) (j : Nat), (steps outer r).length = n → good r → hi r < qv outer → goods out → out.length + n ≤ 100000000 →
  Qj k (j + n) inner outer out i r = WY k j inner outer (zl out (steps outer r)) (qa .i64 (i + 1)) := by
 have hol := ho.len
 have hot := ho.tot
 intro n
 induction n with
 | zero =>
  intro r out j hn hr hh hg hl
  have := (ZW outer r ho.goods hr hh).2.1
  have h2 := hr.1
  have h3 : steps outer r = [] := List.eq_nil_of_length_eq_zero hn
  rw [h3] at this
  have this : (0 : Int) = r.2.1 := this
  omega
 | succ n ih =>
  intro r out j hn hr hh hg hl
  have hr1 := hr.1
  obtain ⟨l1, l2, l3, l4⟩ := hr.lohi
  have hbd : 0 ≤ r.1 ∧ r.1 < qv outer := by
   unfold Go.AM.hi at hh l2
   unfold lo at l1 l2
   cases hb : r.2.2 <;> rw [hb] at hh l1 l2 <;> simp only [qG, if_false, if_true] at hh l1 l2 <;> omega
  obtain ⟨o, p, e1, go, p0, p1, p2, _⟩ := qf0 ho.goods hbd.1 hbd.2
  obtain ⟨q, q1, q2, q3, q4⟩ := (VK k hk outer ho.goods (by omega) r.1 hbd.1 (by omega)).1 o p e1
  have go' := go
  obtain ⟨g1, g2, g3, g4, _⟩ := go
  obtain ⟨w1, w2, w3, w4, _⟩ := hr
  rw [show j + (n + 1) = (j + n) + 1 by omega, Qj]
  have q3' : VG k outer r.fst = some ((q : Int), p) := q3
  have q4' : qO k outer r.fst = ((q : Int), p) := q4
  rw [qA (by omega : r.snd.fst > 0), qi, q3', q4', qb, qd rfl]
  show (bif decide ((q : Int) < 0) then _ else _) = _
  rw [qx (by omega), qg]
  show (if (0 : Int) ≤ (q : Int) ∧ (q : Int) < (outer.length : Int) then _ else _) = _
  rw [qd ⟨by omega, by omega⟩]
  have q2' : outer.getD ((q : Int), p).fst.toNat T3.dflt = o := by show outer.getD ((q : Int)).toNat _ = o; rw [qc]; exact q2
  rw [q2']
  show (bif r.snd.snd then _ else _) = _
  simp only []
  rw [zu k o p (by omega) (by omega) (by omega) (by omega), zG k o p (by omega) (by omega) (by omega) (by omega)]
  rw [qo (i := p + 1) (by omega) (by omega), qo (i := o.snd.fst - p) (by omega) (by omega), qlP, qlP]
  cases hb : r.snd.snd with
  | true =>
   have hb : r.2.2 = true := hb
   rw [qi]
   have est := qBn (outer := outer) (r := r) (o := o) (p := p) ho.goods hr1 (by unfold lo at l1; rw [hb, qd rfl] at l1; omega) hb e1
   obtain ⟨s1, s2, s3⟩ := ZW outer r ho.goods ⟨w1, w2, w3, w4, by assumption⟩ hh
   rw [est] at hn s1 ⊢
   have hp1 := s1.1
   have hlo : 0 ≤ r.1 - r.2.1 + 1 := by unfold lo at l1; rw [hb, qd rfl] at l1; exact l1
   have hhi : r.1 < qv outer := hbd.2
   generalize hc : min r.2.1 (p + 1) = c at hn s1 est hp1 ⊢
   have hc1 : 1 ≤ c := by omega
   have hc2 : c ≤ r.2.1 := by omega
   rw [XJ k (by omega) out _ (by omega) hp1.bnd hg.bnds, qcj k (by omega) out _ (by omega) hp1.bnd hg.bnds, qd ⟨rfl, rfl⟩]
   have hag := (Xm out _ hg hp1).1
   have hal := Yy out (wh o p, c, !o.2.2 && decide (c > 1))
   have eadd : ∀ t, zl out ((wh o p, c, !o.2.2 && decide (c > 1)) :: t) = zl (vn out (wh o p, c, !o.2.2 && decide (c > 1))) t := fun _ => rfl
   rw [eadd]
   by_cases hlast : c = r.2.1
   ·have hz : steps outer (r.1 - c, r.2.1 - c, true) = [] := by
     rw [show r.2.1 - c = 0 by omega]
     exact qqe outer ho.goods _ _
    rw [hz] at hn ⊢
    have : n = 0 := by simp at hn; omega
    subst this
    rw [show (c == r.snd.fst) = true by simp [hlast], qi]
    rfl
   ·have ei : wh r c = r.1 - c := by unfold wh; rw [hb, qd rfl]
    rw [show (c == r.snd.fst) = false by exact Vj hlast, qg, zu k r c (by omega) (by omega) (by omega) (by omega), zG k r c (by omega) (by omega) (by omega) (by omega), qb, qd rfl, qo (by omega) (by omega), ei]
    exact ih (r.1 - c, r.2.1 - c, true) _ j (by simpa using hn) (by
     rw [YE]
     refine ⟨by show 1 ≤ r.2.1 - c; omega, ?_, ?_⟩
     ·show 0 ≤ (r.1 - c) - (r.2.1 - c) + 1; omega
     ·show r.1 - c < 17179869184; omega) (by show r.1 - c < qv outer; omega) hag (by omega)
  | false =>
   have hb : r.2.2 = false := hb
   rw [qg]
   have est := qD5 (outer := outer) (r := r) (o := o) (p := p) ho.goods hr1 hbd.1 hb e1
   obtain ⟨s1, s2, s3⟩ := ZW outer r ho.goods ⟨w1, w2, w3, w4, by assumption⟩ hh
   rw [est] at hn s1 ⊢
   have hp1 := s1.1
   have hhi : r.1 + r.2.1 - 1 < qv outer := by unfold Go.AM.hi at hh; rw [hb, qm (by decide)] at hh; exact hh
   generalize hc : min r.2.1 (o.2.1 - p) = c at hn s1 est hp1 ⊢
   have hc1 : 1 ≤ c := by omega
   have hc2 : c ≤ r.2.1 := by omega
   have ep : (wh o p, c, o.snd.snd && decide (c > 1)) = wG o p c := rfl
   rw [ep, XJ k (by omega) out _ (by omega) hp1.bnd hg.bnds, qcj k (by omega) out _ (by omega) hp1.bnd hg.bnds, qd ⟨rfl, rfl⟩]
   have hag := (Xm out _ hg hp1).1
   have hal := Yy out (wG o p c)
   have eadd : ∀ t, zl out (wG o p c :: t) = zl (vn out (wG o p c)) t := fun _ => rfl
   rw [eadd]
   by_cases hlast : c = r.2.1
   ·have hz : steps outer (r.1 + c, r.2.1 - c, false) = [] := by
     rw [show r.2.1 - c = 0 by omega]
     exact qqe outer ho.goods _ _
    rw [hz] at hn ⊢
    have : n = 0 := by simp at hn; omega
    subst this
    rw [show (c == r.snd.fst) = true by simp [hlast], qi]
    rfl
   ·have ei : wh r c = r.1 + c := by unfold wh; rw [hb, qm (by decide)]
    rw [show (c == r.snd.fst) = false by exact Vj hlast, qg, zu k r c (by omega) (by omega) (by omega) (by omega), zG k r c (by omega) (by omega) (by omega) (by omega), qb, qd rfl, qo (by omega) (by omega), ei]
    exact ih (r.1 + c, r.2.1 - c, false) _ j (by simpa using hn) (by
     rw [YE]
     refine ⟨by show 1 ≤ r.2.1 - c; omega, ?_, ?_⟩
     ·show 0 ≤ r.1 + c; omega
     ·show r.1 + c + (r.2.1 - c) - 1 < 17179869184; omega) (by show r.1 + c + (r.2.1 - c) - 1 < qv outer; omega) hag (by omega)
theorem qg9 (k : Nat) (hk : 304 ≤ k) (inner outer : List Rn) (i : Int) (ho : Chk outer) : ∀ (n : Nat) (r : Rn) (out : List Rn) (j : Nat), (r.1 < qv outer → (wg outer r.1 (qv outer)).length ≤ n) → good r → qv outer ≤ hi r → goods out → out.length + n ≤ 100000000 →
  Qj k (j + n + 1) inner outer out i r = some ([], 21) := by
 have hol := ho.len
 have hot := ho.tot
 intro n
 induction n with
 | zero =>
  intro r out j hn hr hh hg hl
  obtain ⟨w1, w2, w3, w4, _⟩ := hr
  have hge : qv outer ≤ r.1 := by
   rcases Int.lt_or_le r.1 (qv outer) with h | h
   ·have := hn h
    obtain ⟨o, p, e1, _⟩ := qf0 ho.goods w3 h
    rw [qbf outer r.1 (qv outer) o p ho.goods w3 h e1] at this
    simp at this
   ·exact h
  obtain ⟨q3, q4⟩ := (VK k hk outer ho.goods (by omega) r.1 w3 (by omega)).2 (qlB ho.goods hge)
  rw [Qj]
  have q3' : VG k outer r.fst = some (-1, 0) := q3
  have q4' : qO k outer r.fst = (-1, 0) := q4
  rw [qA (by omega : r.snd.fst > 0), qi, q3', q4', qb, qd rfl]
  rfl
 | succ n ih =>
  intro r out j hn hr hh hg hl
  have hr1 := hr.1
  have hr0 := hr
  obtain ⟨w1, w2, w3, w4, _⟩ := hr
  rcases Int.lt_or_le r.1 (qv outer) with hlt | hge
  ·-- forward
   have hb : r.2.2 = false := by
    cases hb : r.2.2 with
    | false => rfl
    | true => unfold Go.AM.hi at hh; rw [hb, qd rfl] at hh; omega
   have hh2 : qv outer ≤ r.1 + r.2.1 - 1 := by unfold Go.AM.hi at hh; rw [hb, qm (by decide)] at hh; exact hh
   obtain ⟨o, p, e1, go, p0, p1, p2, _⟩ := qf0 ho.goods w3 hlt
   obtain ⟨q, q1, q2, q3, q4⟩ := (VK k hk outer ho.goods (by omega) r.1 w3 (by omega)).1 o p e1
   have hpc := qbf outer r.1 (qv outer) o p ho.goods w3 hlt e1
   have hlen := (Vs outer r.1 (qv outer) ho.goods hlt (Wg _) (by omega))
   have hn' := hn hlt
   rw [hpc] at hn' hlen
   have hpl : min (qv outer - r.1) (o.2.1 - p) = o.2.1 - p := by
    have h1 := hlen.2.1
    have h2 := zf hlen.1.2
    simp only [qv] at h1
    have h3 : (wG o p (min (qv outer - r.fst) (o.snd.fst - p))).2.1 = min (qv outer - r.fst) (o.snd.fst - p) := rfl
    rw [h3] at h1
    have h4 : ∀ {m : List Rn} {x : Int} {o p}, goods m → QK m x = some (o, p) → o.2.1 - p ≤ qv m - x := fun {m} => by
     induction m with
     | nil => intro x o p _ h; simp [QK] at h
     | cons u v ih =>
      intro x o p hg h
      unfold QK at h
      have hv := zf hg.2
      by_cases q : x < u.2.1
      ·rw [qd q] at h; simp only [Option.some.injEq, Prod.mk.injEq] at h; obtain ⟨rfl, rfl⟩ := h; simp only [qv]; omega
      ·rw [qm q] at h
       have := ih hg.2 h
       simp only [qv]; omega
    have := h4 ho.goods e1
    omega
   rw [hpl] at hn' hlen
   obtain ⟨g1, g2, g3, g4, _⟩ := go
   rw [show j + (n + 1) + 1 = (j + n + 1) + 1 by omega, Qj]
   have q3' : VG k outer r.fst = some ((q : Int), p) := q3
   have q4' : qO k outer r.fst = ((q : Int), p) := q4
   rw [qA (by omega : r.snd.fst > 0), qi, q3', q4', qb, qd rfl]
   show (bif decide ((q : Int) < 0) then _ else _) = _
   rw [qx (by omega), qg]
   show (if (0 : Int) ≤ (q : Int) ∧ (q : Int) < (outer.length : Int) then _ else _) = _
   rw [qd ⟨by omega, by omega⟩]
   have q2' : outer.getD ((q : Int), p).fst.toNat T3.dflt = o := by show outer.getD ((q : Int)).toNat _ = o; rw [qc]; exact q2
   rw [q2']
   show (bif r.snd.snd then _ else _) = _
   simp only []
   rw [zu k o p (by omega) (by omega) (by omega) (by omega), zG k o p (by omega) (by omega) (by omega) (by omega)]
   rw [qo (i := p + 1) (by omega) (by omega), qo (i := o.snd.fst - p) (by omega) (by omega), qlP, qlP]
   rw [show r.snd.snd = false from hb, qg, show min r.snd.fst (o.snd.fst - p) = o.snd.fst - p by omega]
   have ep : (wh o p, o.snd.fst - p, o.snd.snd && decide (o.snd.fst - p > 1)) = wG o p (o.snd.fst - p) := rfl
   have hp1 : good (wG o p (o.snd.fst - p)) := hlen.1.1
   have hag := (Xm out _ hg hp1).1
   have hal := Yy out (wG o p (o.snd.fst - p))
   rw [ep, XJ k (by omega) out _ (by omega) hp1.bnd hg.bnds, qcj k (by omega) out _ (by omega) hp1.bnd hg.bnds, qd ⟨rfl, rfl⟩]
   have ei : wh r (o.snd.fst - p) = r.1 + (o.snd.fst - p) := by unfold wh; rw [hb, qm (by decide)]
   have h2 : o.2.1 - p ≤ qv outer - r.1 := by omega
   rw [show (o.snd.fst - p == r.snd.fst) = false by exact Vj (by omega), qg, zu k r _ (by omega) (by omega) (by omega) (by omega), zG k r _ (by omega) (by omega) (by omega) (by omega), qb, qd rfl, qo (by omega) (by omega), ei]
   refine ih (r.1 + (o.snd.fst - p), r.2.1 - (o.snd.fst - p), false) _ j (fun _ => by simpa using hn') ?_ ?_ hag (by omega)
   ·have := hr0.lohi
    unfold lo Go.AM.hi at this
    rw [hb] at this
    simp only [qG, if_false] at this
    rw [YE]
    refine ⟨by show 1 ≤ r.2.1 - (o.snd.fst - p); omega, ?_, ?_⟩
    ·show 0 ≤ r.1 + (o.snd.fst - p); omega
    ·show r.1 + (o.snd.fst - p) + (r.2.1 - (o.snd.fst - p)) - 1 < 17179869184; omega
   ·show qv outer ≤ r.1 + (o.snd.fst - p) + (r.2.1 - (o.snd.fst - p)) - 1
    omega
  ·obtain ⟨q3, q4⟩ := (VK k hk outer ho.goods (by omega) r.1 w3 (by omega)).2 (qlB ho.goods hge)
   rw [Qj]
   have q3' : VG k outer r.fst = some (-1, 0) := q3
   have q4' : qO k outer r.fst = (-1, 0) := q4
   rw [qA (by omega : r.snd.fst > 0), qi, q3', q4', qb, qd rfl]
   rfl
theorem fitsIn.mem {n : Int} : ∀ {l : List Rn}, fitsIn n l → ∀ r ∈ l, hi r < n
 | [], _, r, hr => by simp at hr
 | u :: v, ⟨h1, h2⟩, r, hr => by
  rcases qK.1 hr with rfl | hr
  ·exact h1
  ·exact fitsIn.mem h2 r hr
set_option maxRecDepth 20000 in
theorem qkT (k : Nat) (hk : 304 ≤ k) (inner outer : List Rn) (hin : Chk inner) (ho : Chk outer) : ∀ (d i : Nat) (out : List Rn) (j : Nat), inner.length - i = d → i ≤ inner.length → goods out → out.length ≤ i * 256 → d * 258 < j →
  WY k j inner outer out (i : Int) = some (if ¬ fitsIn (qv outer) (inner.drop i) then ([], 21) else if ((inner.drop i).foldl (fun b r => zl b (steps outer r)) out).length > 256 then ([], 8) else ((inner.drop i).foldl (fun b r => zl b (steps outer r)) out, 0)) := by
 have hil := hin.len
 have hol := ho.len
 intro d
 induction d with
 | zero =>
  intro i out j hd hi hg hl hj
  obtain ⟨j, rfl⟩ := qQ (by omega : 0 < j)
  rw [WY, qx (by omega : ¬ (i : Int) < (inner.length : Int)), qg, zh inner i (by omega), List.foldl_nil, qm (fun h : ¬ fitsIn (qv outer) [] => h trivial)]
  by_cases h : out.length > 256
  ·have e : qcK k out = some ([], 8) := by
    unfold qcK; rw [qA (by omega), qi]
   have ev : qde k out = ([], 8) := by unfold qde; rw [e]; rfl
   rw [e, ev, qd h]; rfl
  ·have e : qcK k out = some (out, 0) := by
    unfold qcK; rw [qx (by omega), qg]
   have ev : qde k out = (out, 0) := by unfold qde; rw [e]; rfl
   rw [e, ev, qm h]; rfl
 | succ d ih =>
  intro i out j hd hi hg hl hj
  obtain ⟨j, rfl⟩ := qQ (by omega : 0 < j)
  have h : i < inner.length := by omega
  have hmem : inner.getD i T3.dflt ∈ inner := by simp [h]
  have hgr : good (inner.getD i T3.dflt) := hin.goods.mem _ hmem
  rw [WY, qA (by omega : (i : Int) < (inner.length : Int)), qi, qd ⟨by omega, by omega⟩, qq inner i T3.dflt h, qc]
  generalize inner.getD i T3.dflt = r at hgr
  rw [List.foldl_cons]
  have hsl := qqb outer r
  have hal := qlM (steps outer r) out
  rcases Int.lt_or_le (Go.AM.hi r) (qv outer) with hh | hh
  ·obtain ⟨s1, s2, s3⟩ := ZW outer r ho.goods hgr hh
   obtain ⟨j', rfl⟩ : ∃ m, j = m + (steps outer r).length := ⟨j - (steps outer r).length, by omega⟩
   have hb1 : (zl out (steps outer r)).length ≤ (i + 1) * 256 := by omega
   have hb2 : d * 258 < j' := by omega
   have e1 := qhJ k hk inner outer (i : Int) ho (steps outer r).length r out j' rfl hgr hh hg (by omega)
   have e2 := ih (i + 1) (zl out (steps outer r)) j' (by omega) (by omega) (qda _ out hg s1).1 hb1 hb2
   rw [e1, qF i (by omega), e2]
   by_cases hf : fitsIn (qv outer) (inner.drop (i + 1))
   ·rw [qm (fun h : ¬ fitsIn (qv outer) (inner.drop (i + 1)) => h hf), qm (fun h : ¬ fitsIn (qv outer) (r :: inner.drop (i + 1)) => h ⟨hh, hf⟩)]
   ·rw [qd hf, qd (fun h : fitsIn (qv outer) (r :: inner.drop (i + 1)) => hf h.2)]
  ·have hpl : (wg outer r.1 (qv outer)).length ≤ 256 := by have := XE outer r.1 (qv outer); omega
   obtain ⟨j', rfl⟩ : ∃ m, j = m + 256 + 1 := ⟨j - 257, by omega⟩
   have e1 := qg9 k hk inner outer (i : Int) ho 256 r out j' (fun _ => hpl) hgr hh hg (by omega)
   rw [e1, qd (fun h : fitsIn (qv outer) (r :: inner.drop (i + 1)) => by have := h.1; omega)]
theorem qc8 (k : Nat) (hk : 70000 ≤ k) (inner outer : List Rn) : qf4 k inner outer = some (XH inner outer) := by
 unfold qf4 XH
 rw [vM k (by omega), Qw k (by omega), vM k (by omega), Qw k (by omega), qb, qb, qd rfl]
 by_cases h1 : chk inner = 0
 ·rw [show (chk inner != 0) = false by simp [h1], qg, qd rfl, qm (fun h : chk inner ≠ 0 => h h1)]
  by_cases h2 : chk outer = 0
  ·have c1 := wW.1 h1
   have c2 := wW.1 h2
   have l1 := c1.len
   rw [show (chk outer != 0) = false by simp [h2], qg, qm (fun h : chk outer ≠ 0 => h h2)]
   have := qkT k (by omega) inner outer c1 c2 inner.length 0 [] k (by omega) (by omega) trivial (by simp) (by omega)
   exact this
  ·rw [show (chk outer != 0) = true by simp [h2], qi, qd h2]
 ·rw [show (chk inner != 0) = true by simp [h1], qi, qd h1]
theorem qmJ (k : Nat) (hk : 70000 ≤ k) (inner outer : List Rn) : YX k inner outer = XH inner outer := by
 unfold YX; rw [qc8 k hk]; rfl
end Go.AM
namespace Go.AM
open Go
theorem qdi : ∀ (l : List Sp) (b : Int), (∀ s ∈ l, b ≤ s.1) → l.Pairwise (fun x y => x.1 ≤ y.1) → Asc b l
 | [], _, _, _ => trivial
 | s :: t, b, h, hp => by
  obtain ⟨h1, h2⟩ := zK.1 hp
  exact ⟨h s (by simp), qdi t s.1 (fun u hu => h1 u hu) h2⟩
def nf (l : List Sp) : List Sp := jn0 (WS l)
theorem In.small {l : List Sp} (h : In 0 17179869184 l) : ∀ x ∈ l, VA x.1 := fun x hx => by
 obtain ⟨a, b, c⟩ := h.mem x hx
 exact ⟨a, by omega⟩
theorem qDr {l : List Sp} (h : In 0 17179869184 l) : Asc 0 (WS l) :=
 qdi _ 0 (fun s hs => (h.mem s ((QW h.small).mem_iff.1 hs)).1) qqH
theorem qj5 {l : List Sp} (h : In 0 17179869184 l) : Nr (-1) (nf l) := qBW _ _ (qDr h)
theorem qrX {l : List Sp} (h : In 0 17179869184 l) (x : Int) : Qq (nf l) x ↔ Qq l x := by
 unfold nf
 rw [qwK _ 0 x (qDr h), qGk (QW h.small)]
theorem qdq {l : List Sp} (h : In 0 17179869184 l) : In 0 17179869184 (nf l) :=
 qEr _ (In.of fun s hs => h.mem s ((QW h.small).mem_iff.1 hs))
theorem qbE {l : List Sp} (h : In 0 17179869184 l) : (nf l).length ≤ l.length := by
 have := qwZ (WS l)
 rw [(QW h.small).length_eq] at this
 exact this
theorem qvY {l m : List Sp} (h : In 0 17179869184 l) (hm : Nr (-1) m) (he : ∀ x, Qq m x ↔ Qq l x) : m = nf l :=
 Nr.uniq hm (qj5 h) fun x => (he x).trans (qrX h x).symm
theorem qnQ {l : List Sp} (h : In 0 17179869184 l) (hn : Nr (-1) l) : nf l = l := (qvY h hn fun _ => Iff.rfl).symm
def zM (l : List Sp) : Int := if l.length > 256 then 8 else if l.all (fun s => decide (0 ≤ s.1 ∧ s.1 ≤ s.2 ∧ s.2 ≤ 17179869184)) = true then 0 else 1
theorem ZV {l : List Sp} : zM l = 0 ↔ l.length ≤ 256 ∧ In 0 17179869184 l := by
 unfold zM
 constructor
 ·intro h
  by_cases h1 : l.length > 256
  ·rw [qd h1] at h; omega
  ·rw [qm h1] at h
   by_cases h2 : l.all (fun s => decide (0 ≤ s.1 ∧ s.1 ≤ s.2 ∧ s.2 ≤ 17179869184)) = true
   ·exact ⟨by omega, In.of fun s hs => of_decide_eq_true (vA.1 h2 s hs)⟩
   ·rw [qm h2] at h; omega
 ·rintro ⟨h1, h2⟩
  rw [qm (by omega), qd (vA.2 fun s hs => qA (h2.mem s hs))]
def WE (l : List Sp) : List Sp × Int := if zM l ≠ 0 then ([], zM l) else (nf l, 0)
def qaB (l : List Sp) : Int × Int := if zM l ≠ 0 then (0, zM l) else (tot (nf l), 0)
end Go.AM
namespace Go.AM
open Go
def WR : List Int → Int → List Int
 | [], n => [n]
 | x :: t, n => if x < n then x :: WR t n else if x = n then x :: t else n :: x :: t
theorem qjU : ∀ (l : List Int) (n x : Int), x ∈ WR l n ↔ x = n ∨ x ∈ l
 | [], n, x => by simp [WR]
 | y :: t, n, x => by
  unfold WR
  by_cases h : y < n
  ·rw [qd h]; simp only [qK, qjU t n x]
   constructor
   ·rintro (h | h | h) <;> simp [h]
   ·rintro (h | h | h) <;> simp [h]
  ·rw [qm h]
   by_cases h2 : y = n
   ·rw [qd h2]; simp only [qK]; subst h2
    constructor
    ·intro h; exact .inr h
    ·rintro (h | h)
     ·exact .inl h
     ·exact h
   ·rw [qm h2]; simp
theorem qgm : ∀ (l : List Int) (n : Int), l.Pairwise (· < ·) → (WR l n).Pairwise (· < ·)
 | [], n, _ => by simp [WR]
 | y :: t, n, hp => by
  obtain ⟨h1, h2⟩ := zK.1 hp
  unfold WR
  by_cases h : y < n
  ·rw [qd h]
   refine zK.2 ⟨fun x hx => ?_, qgm t n h2⟩
   rcases (qjU t n x).1 hx with rfl | hx
   ·exact h
   ·exact h1 x hx
  ·rw [qm h]
   by_cases h2 : y = n
   ·rw [qd h2]; exact hp
   ·rw [qm h2]
    refine zK.2 ⟨fun x hx => ?_, hp⟩
    rcases qK.1 hx with rfl | hx
    ·omega
    ·have := h1 x hx; omega
theorem qfi : ∀ (l : List Int) (n : Int), (WR l n).length ≤ l.length + 1
 | [], n => by simp [WR]
 | y :: t, n => by
  unfold WR
  split
  ·have := qfi t n; simp; omega
  ·split <;> simp
def QX : List Int → List Sp → List Int
 | acc, [] => acc
 | acc, s :: t => QX (WR (WR acc s.1) s.2) t
theorem qpJ : ∀ (l : List Sp) (acc : List Int) (x : Int), x ∈ QX acc l ↔ x ∈ acc ∨ ∃ s ∈ l, x = s.1 ∨ x = s.2
 | [], acc, x => by simp [QX]
 | s :: t, acc, x => by
  rw [QX, qpJ t, qjU, qjU]
  simp only [qK]
  constructor
  ·rintro ((h | h | h) | ⟨u, hu, h⟩)
   ·exact .inr ⟨s, .inl rfl, .inr h⟩
   ·exact .inr ⟨s, .inl rfl, .inl h⟩
   ·exact .inl h
   ·exact .inr ⟨u, .inr hu, h⟩
  ·rintro (h | ⟨u, rfl | hu, h | h⟩)
   ·exact .inl (.inr (.inr h))
   ·exact .inl (.inr (.inl h))
   ·exact .inl (.inl h)
   ·exact .inr ⟨u, hu, .inl h⟩
   ·exact .inr ⟨u, hu, .inr h⟩
theorem qil : ∀ (l : List Sp) (acc : List Int), acc.Pairwise (· < ·) → (QX acc l).Pairwise (· < ·)
 | [], acc, h => h
 | s :: t, acc, h => qil t _ (qgm _ _ (qgm _ _ h))
theorem qpT : ∀ (l : List Sp) (acc : List Int), (QX acc l).length ≤ acc.length + 2 * l.length
 | [], acc => by simp [QX]
 | s :: t, acc => by
  have h1 := qpT t (WR (WR acc s.1) s.2)
  have h2 := qfi (WR acc s.1) s.2
  have h3 := qfi acc s.1
  rw [QX]; simp only [wc]; omega
def ZG (l : List Sp) (x : Int) : Bool := l.any fun s => decide (s.1 ≤ x) && decide (x < s.2)
theorem quk (l : List Sp) (x : Int) : ZG l x = true ↔ Qq l x := by
 rw [Qa]
 unfold ZG
 simp only [List.any_eq_true, qj, decide_eq_true_eq]
def Yo (a : List Sp) : Sp → List Int → List Sp
 | c, x :: y :: t => if ZG a x = true then (if c.2 = x then Yo a (c.1, y) (y :: t) else c :: Yo a (x, y) (y :: t)) else Yo a c (y :: t)
 | c, _ => [c]
def qhs (a : List Sp) : List Int → List Sp
 | x :: y :: t => if ZG a x = true then Yo a (x, y) (y :: t) else qhs a (y :: t)
 | _ => []
def seg (a : List Sp) : List Int → Int → Prop
 | x :: y :: t, z => (ZG a x = true ∧ x ≤ z ∧ z < y) ∨ seg a (y :: t) z
 | _, _ => False
theorem qi1 (a : List Sp) : ∀ (l : List Int) (c : Sp) (b : Int), b < c.1 → c.1 < c.2 → l.Pairwise (· < ·) → (∀ x ∈ l, c.2 ≤ x) → Nr b (Yo a c l)
 | [], c, b, h1, h2, _, _ => ⟨h1, h2, trivial⟩
 | [x], c, b, h1, h2, _, _ => ⟨h1, h2, trivial⟩
 | x :: y :: t, c, b, h1, h2, hp, hc => by
  obtain ⟨p1, p2⟩ := zK.1 hp
  have hxy := p1 y (by simp)
  have hcx := hc x (by simp)
  have hyt : ∀ u ∈ y :: t, y ≤ u := fun u hu => by
   rcases qK.1 hu with rfl | hu
   ·exact Wg _
   ·have := (zK.1 p2).1 u hu; omega
  unfold Yo
  by_cases q : ZG a x = true
  ·rw [qd q]
   by_cases q2 : c.2 = x
   ·rw [qd q2]; exact qi1 a (y :: t) (c.1, y) b h1 (by show c.1 < y; omega) p2 hyt
   ·rw [qm q2]; exact ⟨h1, h2, qi1 a (y :: t) (x, y) c.2 (by show c.2 < x; omega) hxy p2 hyt⟩
  ·rw [qm q]; exact qi1 a (y :: t) c b h1 h2 p2 fun u hu => by have := hyt u hu; omega
theorem qgu (a : List Sp) : ∀ (l : List Int) (c : Sp) (z : Int), l.Pairwise (· < ·) → (∀ x ∈ l, c.2 ≤ x) → c.1 < c.2 → (Qq (Yo a c l) z ↔ (c.1 ≤ z ∧ z < c.2) ∨ seg a l z)
 | [], c, z, _, _, _ => by simp [Yo, Qq, seg]
 | [x], c, z, _, _, _ => by simp [Yo, Qq, seg]
 | x :: y :: t, c, z, hp, hc, h2 => by
  obtain ⟨p1, p2⟩ := zK.1 hp
  have hxy := p1 y (by simp)
  have hcx := hc x (by simp)
  have hyt : ∀ u ∈ y :: t, y ≤ u := fun u hu => by
   rcases qK.1 hu with rfl | hu
   ·exact Wg _
   ·have := (zK.1 p2).1 u hu; omega
  unfold Yo seg
  by_cases q : ZG a x = true
  ·rw [qd q]
   by_cases q2 : c.2 = x
   ·rw [qd q2, qgu a (y :: t) (c.1, y) z p2 hyt (by show c.1 < y; omega)]
    constructor
    ·rintro (h | h)
     ·have h : c.1 ≤ z ∧ z < y := h
      by_cases q3 : z < c.2
      ·exact .inl ⟨h.1, q3⟩
      ·exact .inr (.inl ⟨q, by omega, h.2⟩)
     ·exact .inr (.inr h)
    ·rintro (h | ⟨_, h⟩ | h)
     ·exact .inl ⟨h.1, by show z < y; omega⟩
     ·exact .inl ⟨by show c.1 ≤ z; omega, h.2⟩
     ·exact .inr h
   ·rw [qm q2]
    show (c.1 ≤ z ∧ z < c.2) ∨ Qq (Yo a (x, y) (y :: t)) z ↔ _
    rw [qgu a (y :: t) (x, y) z p2 hyt hxy]
    constructor
    ·rintro (h | h | h)
     ·exact .inl h
     ·exact .inr (.inl ⟨q, h⟩)
     ·exact .inr (.inr h)
    ·rintro (h | ⟨_, h⟩ | h)
     ·exact .inl h
     ·exact .inr (.inl h)
     ·exact .inr (.inr h)
  ·rw [qm q, qgu a (y :: t) c z p2 (fun u hu => by have := hyt u hu; omega) h2]
   constructor
   ·rintro (h | h)
    ·exact .inl h
    ·exact .inr (.inr h)
   ·rintro (h | ⟨h, _⟩ | h)
    ·exact .inl h
    ·exact absurd h q
    ·exact .inr h
theorem qvd (a : List Sp) : ∀ (l : List Int) (b : Int), l.Pairwise (· < ·) → (∀ x ∈ l, b < x) → Nr b (qhs a l)
 | [], b, _, _ => trivial
 | [x], b, _, _ => trivial
 | x :: y :: t, b, hp, hb => by
  obtain ⟨p1, p2⟩ := zK.1 hp
  have hxy := p1 y (by simp)
  have hyt : ∀ u ∈ y :: t, y ≤ u := fun u hu => by
   rcases qK.1 hu with rfl | hu
   ·exact Wg _
   ·have := (zK.1 p2).1 u hu; omega
  unfold qhs
  by_cases q : ZG a x = true
  ·rw [qd q]; exact qi1 a (y :: t) (x, y) b (hb x (by simp)) hxy p2 hyt
  ·rw [qm q]; exact qvd a (y :: t) b p2 fun u hu => hb u (by simp [hu])
theorem qtn (a : List Sp) : ∀ (l : List Int) (z : Int), l.Pairwise (· < ·) → (Qq (qhs a l) z ↔ seg a l z)
 | [], z, _ => Iff.rfl
 | [x], z, _ => Iff.rfl
 | x :: y :: t, z, hp => by
  obtain ⟨p1, p2⟩ := zK.1 hp
  have hxy := p1 y (by simp)
  have hyt : ∀ u ∈ y :: t, y ≤ u := fun u hu => by
   rcases qK.1 hu with rfl | hu
   ·exact Wg _
   ·have := (zK.1 p2).1 u hu; omega
  unfold qhs seg
  by_cases q : ZG a x = true
  ·rw [qd q, qgu a (y :: t) (x, y) z p2 hyt hxy]
   constructor
   ·rintro (h | h)
    ·exact .inl ⟨q, h⟩
    ·exact .inr h
   ·rintro (⟨_, h⟩ | h)
    ·exact .inl h
    ·exact .inr h
  ·rw [qm q, qtn a (y :: t) z p2]
   exact ⟨.inr, fun h => h.elim (fun h => absurd h.1 q) id⟩
theorem qu5 (a : List Sp) (h0 : ∀ s ∈ a, s.1 ≤ s.2) : ∀ (l : List Int) (z : Int), l.Pairwise (· < ·) → (∀ s ∈ a, s.1 ≤ z → z < s.2 → (s.2 ∈ l ∧ (s.1 ∈ l ∨ ∀ x ∈ l, s.1 ≤ x))) → (∀ s ∈ a, ∀ x ∈ l, s.1 ≤ x → x < s.2 → s.2 ∈ l) → (∀ x ∈ l, z < x) ∨ (seg a l z ↔ Qq a z)
 | [], z, _, h, _ => .inl (by simp)
 | [x], z, _, h, _ => by
  by_cases hz : z < x
  ·left; simpa using hz
  ·right
   refine ⟨fun h => h.elim, fun hh => ?_⟩
   obtain ⟨s, hs, h1, h2⟩ := (Qa a z).1 hh
   obtain ⟨k1, k2⟩ := h s hs h1 h2
   have : s.2 = x := by simpa using k1
   omega
 | x :: y :: t, z, hp, h, h' => by
  obtain ⟨p1, p2⟩ := zK.1 hp
  have hxy := p1 y (by simp)
  have hyt : ∀ u ∈ y :: t, y ≤ u := fun u hu => by
   rcases qK.1 hu with rfl | hu
   ·exact Wg _
   ·have := (zK.1 p2).1 u hu; omega
  by_cases hz : z < x
  ·left
   intro u hu
   rcases qK.1 hu with rfl | hu
   ·exact hz
   ·have := hyt u hu; omega
  ·right
   by_cases hzy : z < y
   ·-- between x and y
    have hno : ¬ seg a (y :: t) z := by
     have : ∀ (l : List Int), (∀ u ∈ l, z < u) → ¬ seg a l z := fun l => by
      induction l with
      | nil => intro _ h; exact h
      | cons u v ih =>
       intro hu hs
       cases v with
       | nil => exact hs
       | cons w r =>
        rcases hs with ⟨_, h1, _⟩ | hs
        ·have := hu u (by simp); omega
        ·exact ih (fun q hq => hu q (by simp [hq])) hs
     exact this _ fun u hu => by have := hyt u hu; omega
    constructor
    ·rintro (⟨h1, h2, h3⟩ | h1)
     ·obtain ⟨s, hs, k1, k2⟩ := (Qa a x).1 ((quk a x).1 h1)
      have k3 := h' s hs x (by simp) k1 k2
      have : y ≤ s.2 := by
       rcases qK.1 k3 with e | e
       ·omega
       ·exact hyt _ e
      exact (Qa a z).2 ⟨s, hs, by omega, by omega⟩
     ·exact absurd h1 hno
    ·intro hh
     obtain ⟨s, hs, k1, k2⟩ := (Qa a z).1 hh
     obtain ⟨k3, k4⟩ := h s hs k1 k2
     left
     refine ⟨(quk a x).2 ((Qa a x).2 ⟨s, hs, ?_, by omega⟩), by omega, hzy⟩
     rcases k4 with k4 | k4
     ·rcases qK.1 k4 with e | e
      ·omega
      ·have := hyt _ e; omega
     ·exact k4 x (by simp)
   ·have ih := qu5 a h0 (y :: t) z p2 (fun s hs k1 k2 => by
     obtain ⟨k3, k4⟩ := h s hs k1 k2
     refine ⟨?_, ?_⟩
     ·rcases qK.1 k3 with e | e
      ·omega
      ·exact e
     ·rcases k4 with k4 | k4
      ·rcases qK.1 k4 with e | e
       ·exact .inr fun u hu => by have := hyt u hu; omega
       ·exact .inl e
      ·exact .inr fun u hu => k4 u (by simp [hu])) (fun s hs u hu k1 k2 => by
     rcases qK.1 (h' s hs u (by simp [hu]) k1 k2) with e | e
     ·have := hyt u hu; omega
     ·exact e)
    have hsame : seg a (x :: y :: t) z ↔ seg a (y :: t) z := by
     show (ZG a x = true ∧ x ≤ z ∧ z < y) ∨ seg a (y :: t) z ↔ _
     exact ⟨fun h => h.elim (fun h => absurd h.2.2 hzy) id, .inr⟩
    rcases ih with ih | ih
    ·exact absurd (ih y (by simp)) hzy
    ·exact hsame.trans ih
theorem qQk {l : List Sp} (h : In 0 17179869184 l) : qhs l (QX [] l) = nf l := by
 have hs := qil l [] List.Pairwise.nil
 have hm : ∀ x, x ∈ QX [] l ↔ ∃ s ∈ l, x = s.1 ∨ x = s.2 := fun x => by rw [qpJ]; simp
 refine qvY h (qvd l _ (-1) hs fun x hx => ?_) fun z => ?_
 ·obtain ⟨s, hs, hx⟩ := (hm x).1 hx
  have := h.mem s hs
  rcases hx with rfl | rfl <;> omega
 ·rw [qtn l _ z hs]
  rcases qu5 l (fun s hs => (h.mem s hs).2.1) (QX [] l) z hs (fun s hs _ _ => ⟨(hm _).2 ⟨s, hs, .inr rfl⟩, .inl ((hm _).2 ⟨s, hs, .inl rfl⟩)⟩) (fun s hs x _ _ _ => (hm _).2 ⟨s, hs, .inr rfl⟩) with k | k
  ·constructor
   ·intro hseg
    exfalso
    have : ∀ (m : List Int), (∀ u ∈ m, z < u) → ¬ seg l m z := fun m => by
     induction m with
     | nil => intro _ h; exact h
     | cons u v ih =>
      intro hu hs
      cases v with
      | nil => exact hs
      | cons w r =>
       rcases hs with ⟨_, h1, _⟩ | hs
       ·have := hu u (by simp); omega
       ·exact ih (fun q hq => hu q (by simp [hq])) hs
    exact this _ k hseg
   ·intro hh
    obtain ⟨s, hs, k1, k2⟩ := (Qa l z).1 hh
    have := k _ ((hm s.1).2 ⟨s, hs, .inl rfl⟩)
    omega
  ·exact k
theorem qzn (a b : Sp) : Vp T21 a b = decide (a = b) := by
 show ((a.1 == b.1) && (a.2 == b.2)) = _
 by_cases h1 : a.1 = b.1 <;> by_cases h2 : a.2 = b.2 <;> simp [h1, h2, Prod.ext_iff]
theorem qsd (k : Nat) (l : List Sp) (hl : l.length ≤ 256) : ∀ (j i : Nat), i ≤ l.length → l.length - i < j →
  YG k j l (l.length : Int) (i : Int) = some (if (l.drop i).all (fun s => decide (0 ≤ s.1 ∧ s.1 ≤ s.2 ∧ s.2 ≤ 17179869184)) = true then 0 else 1) := by
 intro j
 induction j with
 | zero => intros; omega
 | succ j ih =>
  intro i hi hj
  rw [YG]
  by_cases h : i < l.length
  ·rw [qA (by omega : (i : Int) < (l.length : Int)), qi, qd ⟨by omega, by omega⟩, qq l i T21.dflt h, qc, List.all_cons]
   generalize l.getD i T21.dflt = s
   by_cases hs : 0 ≤ s.1 ∧ s.1 ≤ s.2 ∧ s.2 ≤ 17179869184
   ·rw [qx (by omega : ¬ s.fst < 0), qx (by omega : ¬ s.fst > s.snd), qx (by omega : ¬ s.snd > 17179869184), Bool.or_self, Bool.or_self, qg, qF i (by omega), ih (i + 1) (by omega) (by omega), qA hs, ww]
   ·have : (decide (s.fst < 0) || decide (s.fst > s.snd) || decide (s.snd > 17179869184)) = true := by
     by_cases a : s.fst < 0
     ·rw [qA a]; rfl
     ·by_cases b : s.fst > s.snd
      ·rw [qA b, Bool.or_true]; rfl
      ·rw [qA (by omega : s.snd > 17179869184), Bool.or_true]
    rw [this, qi, qx hs, wD, qm (by decide)]
  ·rw [qx (by omega : ¬ (i : Int) < (l.length : Int)), qg, zh l i (by omega)]
   rfl
theorem X8 (k : Nat) (hk : 300 ≤ k) (l : List Sp) : qaG k l = some (zM l) := by
 unfold qaG zM
 by_cases h : l.length > 256
 ·rw [qA (by omega : (l.length : Int) > 256), qi, qd h]
 ·rw [qx (by omega : ¬ (l.length : Int) > 256), qg, qm h]
  exact qsd k l (by omega) k 0 (by omega) (by omega)
theorem qck (k : Nat) (hk : 300 ≤ k) (l : List Sp) : Vv k l = zM l := by
 unfold Vv; rw [X8 k hk]; rfl
theorem qp4 (pre : List Sp) (c : Sp) (h : pre.length < 4611686018427387904) : (qa .i64 (((pre ++ [c]).length : Int) - 1)).toNat = pre.length := by
 rw [qn, qk, qo (by omega) (by omega)]; omega
theorem qpy (pre : List Sp) (c d : Sp) : (pre ++ [c]).getD pre.length d = c := by simp
theorem qpA (pre : List Sp) (c d : Sp) : (pre ++ [c]).set pre.length d = pre ++ [d] := by simp
theorem qqQ (k : Nat) (l : List Sp) (hl : l.length ≤ 100000) : ∀ (j i : Nat), i ≤ l.length → l.length - i < j →
  (∀ last : Sp, last.1 ≥ last.2 → vL k j (l.length : Int) (i : Int) [] last l = some (jn0 (l.drop i))) ∧
  (∀ (pre : List Sp) (c last : Sp), pre.length ≤ i → (last.1 ≥ last.2 ∨ last.2 ≤ c.2) → vL k j (l.length : Int) (i : Int) (pre ++ [c]) last l = some (pre ++ jn c (l.drop i))) := by
 intro j
 induction j with
 | zero => intros; omega
 | succ j ih =>
  intro i hi hj
  by_cases h : i < l.length
  ·refine ⟨fun last hla => ?_, fun pre c last hp hla => ?_⟩
   ·rw [vL, qA (by omega : (i : Int) < (l.length : Int)), qi, qd ⟨by omega, by omega⟩, qq l i T21.dflt h, qc, qzn, jn0]
    obtain ⟨ih1, ih2⟩ := ih (i + 1) (by omega) (by omega)
    generalize l.getD i T21.dflt = s at *
    by_cases q : s.1 ≥ s.2
    ·rw [qA q, zX, qi, qd q, qF i (by omega)]
     exact ih1 s q
    ·have hne : ¬ s = last := fun e => q (e ▸ hla)
     rw [qx q, qx hne, zn, qg, qm q, qF i (by omega)]
     rw [qd ⟨fun e => (by simp at e), fun e => (by simp at e)⟩]
     show (bif decide ((0 : Int) > 0) && _ then _ else _) = _
     rw [qx (by omega), wD, qg, qd (by simp), qH]
     exact ih2 [] s s (by simp) (.inr (Wg _))
   ·rw [vL, qA (by omega : (i : Int) < (l.length : Int)), qi, qd ⟨by omega, by omega⟩, qq l i T21.dflt h, qc, qzn, jn]
    obtain ⟨ih1, ih2⟩ := ih (i + 1) (by omega) (by omega)
    generalize l.getD i T21.dflt = s at *
    have hlen : (pre ++ [c]).length = pre.length + 1 := by simp
    by_cases q : s.1 ≥ s.2
    ·rw [qA q, zX, qi, qd q, qF i (by omega)]
     exact ih2 pre c s (by omega) (.inl q)
    ·rw [qm q, qx q, zn]
     by_cases he : s = last
     ·have h2 : s.2 ≤ c.2 := by
       subst he
       rcases hla with h | h
       ·exact absurd h q
       ·exact h
      rw [qA he, qi, qF i (by omega), qd (by omega), qm (by omega)]
      exact ih2 pre c s (by omega) (.inr h2)
     ·have hidx : (0 : Int) ≤ qa .i64 (((pre ++ [c]).length : Int) - 1) ∧ qa .i64 (((pre ++ [c]).length : Int) - 1) < ((pre ++ [c]).length : Int) := by
       rw [hlen, qo (by omega) (by omega)]; exact ⟨by omega, by omega⟩
      rw [qx he, qg, qd ⟨fun _ => hidx.1, fun _ => hidx.2⟩, qA (by rw [hlen]; omega), ww, qp4 pre c (by omega), qpy, qpA, qF i (by omega)]
      by_cases q2 : s.1 ≤ c.2
      ·rw [qA q2, qi, qd ⟨hidx.1, hidx.2, hidx.1, hidx.2⟩, qd q2]
       exact ih2 pre (c.1, if s.2 > c.2 then s.2 else c.2) s (by omega) (.inr (by show s.2 ≤ if s.2 > c.2 then s.2 else c.2; split <;> omega))
      ·rw [qx q2, qg, qd (by rw [hlen, qk]; omega), qm q2]
       rw [ih2 (pre ++ [c]) s s (by simp; omega) (.inr (Wg _))]
       simp
  ·have hd := zh l i (by omega)
   refine ⟨fun last hla => ?_, fun pre c last hp hla => ?_⟩
   ·rw [vL, qx (by omega : ¬ (i : Int) < (l.length : Int)), qg, hd]; rfl
   ·rw [vL, qx (by omega : ¬ (i : Int) < (l.length : Int)), qg, hd]; rfl
theorem WO (k : Nat) (l : List Sp) (h : In 0 17179869184 l) (hl : l.length ≤ 100000) (hk : l.length < k) : X1 k l = some (nf l) := by
 have e1 : qb6 k l = some l := by
  unfold qb6; rw [qd (by omega)]
 have v1 : qay k l = l := by unfold qay; rw [e1]; rfl
 have e2 : qby k l = some (WS l) := by
  unfold qby
  rw [qd ⟨vA.2 fun x hx => qA (h.small x hx), by omega⟩, qrR h.small]
 have v2 : qbC k l = WS l := by unfold qbC; rw [e2]; rfl
 have hlen := (QW h.small).length_eq
 unfold X1
 rw [e1, v1, e2, v2, qb, qb, qd rfl, qd rfl]
 exact (qqQ k (WS l) (by omega) k 0 (by omega) (by omega)).1 (0, 0) (Wg _)
theorem VI (k : Nat) (l : List Sp) (h : In 0 17179869184 l) (hl : l.length ≤ 100000) (hk : l.length < k) : vP k l = nf l := by
 unfold vP; rw [WO k l h hl hk]; rfl
def we : List Sp → List Int
 | [] => []
 | s :: t => s.1 :: s.2 :: we t
theorem qao : ∀ l : List Sp, (we l).length = 2 * l.length
 | [] => rfl
 | s :: t => by simp only [we, wc, qao t]; omega
theorem qiz : ∀ (l : List Sp) (p : Nat), p < l.length → (we l).getD (2 * p) 0 = (l.getD p (0, 0)).1
 | s :: t, 0, _ => rfl
 | s :: t, p + 1, h => by
  have := qiz t p (by simpa using h)
  rw [show 2 * (p + 1) = 2 * p + 1 + 1 by omega]
  simpa [we] using this
theorem qpD : ∀ (l : List Sp) (p : Nat), p < l.length → (we l).getD (2 * p + 1) 0 = (l.getD p (0, 0)).2
 | s :: t, 0, _ => rfl
 | s :: t, p + 1, h => by
  have := qpD t p (by simpa using h)
  rw [show 2 * (p + 1) + 1 = 2 * p + 1 + 1 + 1 by omega]
  simpa [we] using this
theorem qhY : ∀ (a b : List Sp), we (a ++ b) = we a ++ we b
 | [], b => rfl
 | s :: t, b => by simp [we, qhY t b]
theorem qii : ∀ {b : Int} {l : List Sp}, Nr b l → (we l).Pairwise (fun x y => x ≤ y) ∧ ∀ x ∈ we l, b ≤ x
 | _, [], _ => ⟨List.Pairwise.nil, by simp [we]⟩
 | b, s :: t, ⟨h1, h2, h3⟩ => by
  obtain ⟨i1, i2⟩ := qii h3
  refine ⟨zK.2 ⟨fun x hx => ?_, zK.2 ⟨fun x hx => i2 x hx, i1⟩⟩, fun x hx => ?_⟩
  ·rcases qK.1 hx with rfl | hx
   ·omega
   ·have := i2 x hx; omega
  ·rcases qK.1 hx with rfl | hx
   ·omega
   ·rcases qK.1 hx with rfl | hx
    ·omega
    ·have := i2 x hx; omega
theorem Nr.get : ∀ {b : Int} {l : List Sp}, Nr b l → ∀ (p : Nat), p < l.length → (l.getD p (0, 0)).1 < (l.getD p (0, 0)).2 ∧ (p + 1 < l.length → (l.getD p (0, 0)).2 < (l.getD (p + 1) (0, 0)).1)
 | _, [], _, p, h => by simp at h
 | b, s :: t, ⟨h1, h2, h3⟩, 0, h => by
  refine ⟨h2, fun h' => ?_⟩
  cases t with
  | nil => simp at h'
  | cons u v => exact h3.1
 | b, s :: t, ⟨h1, h2, h3⟩, p + 1, h => by
  have := Nr.get h3 p (by simpa using h)
  simpa using this
theorem qqs (k j : Nat) (a : List Sp) (h : In 0 17179869184 a) (hn : Nr (-1) a) (hl : a.length ≤ 256) (hk : 300 ≤ k) : qaE k (j + 1) a = some (a, 0) := by
 rw [qaE, WO k a h (by omega) (by omega), VI k a h (by omega) (by omega), qnQ h hn, qb, qd rfl, qx (by omega), qg]
theorem qqF (k : Nat) (hk : 300 ≤ k) (a : List Sp) (h : In 0 17179869184 a) (hn : Nr (-1) a) (hl : a.length ≤ 256) : ∀ (d p : Nat) (j : Nat), a.length - p = d → p ≤ a.length → 7 * d + 2 ≤ j →
  zq k j a [] (p : Int) 0 ((we a).length : Int) ((2 * p : Nat) : Int) (we a) (a.take p) = some (a, 0) := by
 intro d
 induction d with
 | zero =>
  intro p j hd hp hj
  obtain ⟨j, rfl⟩ : ∃ m, j = m + 2 := ⟨j - 2, by omega⟩
  have hpa : p = a.length := by omega
  subst hpa
  rw [zq, qao, qx (by omega), qg, List.take_length]
  exact qqs k j a h hn hl hk
 | succ d ih =>
  intro p j hd hp hj
  obtain ⟨j, rfl⟩ : ∃ m, j = m + 7 := ⟨j - 7, by omega⟩
  have hpl : p < a.length := by omega
  have hEl := qao a
  have e1 := qiz a p hpl
  have e2 := qpD a p hpl
  obtain ⟨n1, n2⟩ := hn.get p hpl
  have htk := wR a p (0, 0) hpl
  have hd0 : T21.dflt = ((0, 0) : Sp) := rfl
  have hz : (RTy.int IntKind.i64).dflt = (0 : Int) := rfl
  generalize hs : a.getD p (0, 0) = s at *
  have b18 : zq k (j + 7) a [] (p : Int) 0 ((we a).length : Int) ((2 * p : Nat) : Int) (we a) (a.take p) = zp k (j + 6) a [] (p : Int) 0 ((2 * p : Nat) : Int) s.1 ((we a).length : Int) ((2 * p : Nat) : Int) (we a) (a.take p) := by
   rw [show j + 7 = (j + 6) + 1 by omega, zq, qA (by omega), qi, qd ⟨by omega, by omega⟩, qc, hz, e1]
  have b20 : zp k (j + 6) a [] (p : Int) 0 ((2 * p : Nat) : Int) s.1 ((we a).length : Int) ((2 * p : Nat) : Int) (we a) (a.take p) = zJ k (j + 5) a [] (p : Int) 0 ((2 * p : Nat) : Int) s.1 ((we a).length : Int) ((2 * p : Nat) : Int) (we a) (a.take p) := by
   rw [show j + 6 = (j + 5) + 1 by omega, zp, qd ⟨fun _ => by omega, fun _ => by omega⟩, qc, hd0, hs, qx (by omega : ¬ s.2 ≤ s.1), qHb, qg]
  have b22 : zJ k (j + 5) a [] (p : Int) 0 ((2 * p : Nat) : Int) s.1 ((we a).length : Int) ((2 * p : Nat) : Int) (we a) (a.take p) = zq k (j + 4) a [] (p : Int) 0 ((we a).length : Int) ((2 * p + 1 : Nat) : Int) (we a) (a.take (p + 1)) := by
   rw [show j + 5 = (j + 4) + 1 by omega, zJ, qd ⟨fun e => by simp at e, fun e => by simp at e⟩, show (decide ((0 : Int) < (([] : List Sp).length : Int)) && _) = false from rfl, qg, qF (2 * p) (by omega)]
   rw [qd ⟨fun _ => by omega, fun _ => by omega⟩, qc, hz, e2, show ((((2 * p + 1 : Nat) : Int) == ((we a).length : Int)) = false) from Vj (by omega), show (s.2 == s.1) = false from Vj (by omega), Bool.or_self, qg]
   rw [qc, hd0, hs, qA (by omega : (p : Int) < (a.length : Int)), qA (by omega : s.fst ≤ s.1), Bool.and_self]
   have ek : ∀ b, qiE k true b = true := fun b => rfl
   have ef : ∀ b, qfb k true b = some true := fun b => rfl
   rw [ek, ef, qd ⟨fun _ => by omega, fun _ => by omega, fun e => by simp at e, fun e => by simp at e, rfl⟩, qi, qd ⟨by omega, by omega, by rw [qk, Qt]; omega⟩, htk]
  have c18 : zq k (j + 4) a [] (p : Int) 0 ((we a).length : Int) ((2 * p + 1 : Nat) : Int) (we a) (a.take (p + 1)) = zp k (j + 3) a [] (p : Int) 0 ((2 * p + 1 : Nat) : Int) s.2 ((we a).length : Int) ((2 * p + 1 : Nat) : Int) (we a) (a.take (p + 1)) := by
   rw [show j + 4 = (j + 3) + 1 by omega, zq, qA (by omega), qi, qd ⟨by omega, by omega⟩, qc, hz, e2]
  have c20 : zp k (j + 3) a [] (p : Int) 0 ((2 * p + 1 : Nat) : Int) s.2 ((we a).length : Int) ((2 * p + 1 : Nat) : Int) (we a) (a.take (p + 1)) = zp k (j + 2) a [] ((p + 1 : Nat) : Int) 0 ((2 * p + 1 : Nat) : Int) s.2 ((we a).length : Int) ((2 * p + 1 : Nat) : Int) (we a) (a.take (p + 1)) := by
   rw [show j + 3 = (j + 2) + 1 by omega, zp, qd ⟨fun _ => by omega, fun _ => by omega⟩, qc, hd0, hs, qA (by omega : s.snd ≤ s.2), qA (by omega : (p : Int) < (a.length : Int)), Bool.and_self, qi, qF p (by omega)]
  by_cases hlast : p + 1 < a.length
  ·have n2 := n2 hlast
   have e3 := qiz a (p + 1) hlast
   obtain ⟨m1, _⟩ := hn.get (p + 1) hlast
   generalize hu : a.getD (p + 1) (0, 0) = u at *
   have d20 : zp k (j + 2) a [] ((p + 1 : Nat) : Int) 0 ((2 * p + 1 : Nat) : Int) s.2 ((we a).length : Int) ((2 * p + 1 : Nat) : Int) (we a) (a.take (p + 1)) = zJ k (j + 1) a [] ((p + 1 : Nat) : Int) 0 ((2 * p + 1 : Nat) : Int) s.2 ((we a).length : Int) ((2 * p + 1 : Nat) : Int) (we a) (a.take (p + 1)) := by
    rw [show j + 2 = (j + 1) + 1 by omega, zp, qd ⟨fun _ => by omega, fun _ => by omega⟩, qc, hd0, hu, qx (by omega : ¬ u.2 ≤ s.2), qHb, qg]
   have d22 : zJ k (j + 1) a [] ((p + 1 : Nat) : Int) 0 ((2 * p + 1 : Nat) : Int) s.2 ((we a).length : Int) ((2 * p + 1 : Nat) : Int) (we a) (a.take (p + 1)) = zq k j a [] ((p + 1 : Nat) : Int) 0 ((we a).length : Int) ((2 * (p + 1) : Nat) : Int) (we a) (a.take (p + 1)) := by
    rw [zJ, qd ⟨fun e => by simp at e, fun e => by simp at e⟩, show (decide ((0 : Int) < (([] : List Sp).length : Int)) && _) = false from rfl, qg, qF (2 * p + 1) (by omega), show 2 * p + 1 + 1 = 2 * (p + 1) by omega]
    rw [qd ⟨fun _ => by omega, fun _ => by omega⟩, qc, hz, e3, show ((((2 * (p + 1) : Nat) : Int) == ((we a).length : Int)) = false) from Vj (by omega), show (u.1 == s.2) = false from Vj (by omega), Bool.or_self, qg]
    rw [qc, hd0, hu, qx (by omega : ¬ u.fst ≤ s.2), qHb]
    have ek : ∀ b, qiE k false b = false := fun b => rfl
    have ef : ∀ b, qfb k false b = some false := fun b => rfl
    rw [ek, ef, qd ⟨fun _ => by omega, fun _ => by omega, fun e => by simp at e, fun e => by simp at e, rfl⟩, qg]
   rw [b18, b20, b22, c18, c20, d20, d22]
   exact ih (p + 1) j (by omega) (by omega) (by omega)
  ·have hpa : p + 1 = a.length := by omega
   have d20 : zp k (j + 2) a [] ((p + 1 : Nat) : Int) 0 ((2 * p + 1 : Nat) : Int) s.2 ((we a).length : Int) ((2 * p + 1 : Nat) : Int) (we a) (a.take (p + 1)) = zJ k (j + 1) a [] ((p + 1 : Nat) : Int) 0 ((2 * p + 1 : Nat) : Int) s.2 ((we a).length : Int) ((2 * p + 1 : Nat) : Int) (we a) (a.take (p + 1)) := by
    rw [show j + 2 = (j + 1) + 1 by omega, zp, qd ⟨fun _ => by omega, fun e => of_decide_eq_true e⟩, qx (by omega : ¬ ((p + 1 : Nat) : Int) < (a.length : Int)), wD, qg]
   have d22 : zJ k (j + 1) a [] ((p + 1 : Nat) : Int) 0 ((2 * p + 1 : Nat) : Int) s.2 ((we a).length : Int) ((2 * p + 1 : Nat) : Int) (we a) (a.take (p + 1)) = zq k j a [] ((p + 1 : Nat) : Int) 0 ((we a).length : Int) ((2 * (p + 1) : Nat) : Int) (we a) (a.take (p + 1)) := by
    rw [zJ, qd ⟨fun e => by simp at e, fun e => by simp at e⟩, show (decide ((0 : Int) < (([] : List Sp).length : Int)) && _) = false from rfl, qg, qF (2 * p + 1) (by omega), show 2 * p + 1 + 1 = 2 * (p + 1) by omega]
    have hq : (((2 * (p + 1) : Nat) : Int) == ((we a).length : Int)) = true := by simp only [beq_iff_eq]; omega
    rw [hq, qd (show (true = false → (0 : Int) ≤ ((2 * (p + 1) : Nat) : Int)) ∧ (true = false → ((2 * (p + 1) : Nat) : Int) < ((we a).length : Int)) from ⟨fun e => (by cases e), fun e => (by cases e)⟩), zX, qi]
   rw [b18, b20, b22, c18, c20, d20, d22]
   exact ih (p + 1) j (by omega) (by omega) (by omega)
theorem qqy (k : Nat) (hk : 10 ≤ k) (a : List Sp) (hl : a.length ≤ 1000) : qe0 k [a, []] = some a := by
 obtain ⟨k, rfl⟩ : ∃ m, k = m + 10 := ⟨k - 10, by omega⟩
 have hg : qbK (k + 10) (a.length : Int) = some [] := by
  unfold qbK; rw [qd ⟨by omega, by omega⟩]
 have hv : qei (k + 10) (a.length : Int) = [] := by unfold qei; rw [hg]; rfl
 have L2 : (([a, []] : List (List Sp)).length : Int) = 2 := rfl
 unfold qe0
 rw [L2]
 rw [WA, L2, qA (by omega), qi, qd (show (0 : Int) ≤ 0 ∧ (0 : Int) < 2 from ⟨by omega, by omega⟩)]
 show (bif decide (qa .i64 (0 + (a.length : Int)) < 0) then none else WA (k + 10) (k + 9) [a, []] (qa .i64 (0 + (a.length : Int))) [a, []] 2 (qa .i64 (0 + 1))) = _
 rw [qo (i := 0 + (a.length : Int)) (by omega) (by omega), Int.zero_add, qx (by omega), qg, show qa .i64 (0 + 1) = 1 from qF 0 (by omega)]
 rw [WA, L2, qA (by omega), qi, qd (show (0 : Int) ≤ 1 ∧ (1 : Int) < 2 from ⟨by omega, by omega⟩)]
 show (bif decide (qa .i64 ((a.length : Int) + (0 : Int)) < 0) then none else WA (k + 10) (k + 8) [a, []] (qa .i64 ((a.length : Int) + (0 : Int))) [a, []] 2 (qa .i64 (1 + 1))) = _
 rw [qo (i := (a.length : Int) + (0 : Int)) (by omega) (by omega), Int.add_zero, qx (by omega), qg, show qa .i64 (1 + 1) = 2 from qF 1 (by omega)]
 rw [WA, qx (by omega), qg, hg, hv, qb, qd rfl]
 rw [L2, QB, L2, qA (by omega), qi, qd (show (0 : Int) ≤ 0 ∧ (0 : Int) < 2 from ⟨by omega, by omega⟩)]
 show (if (([] : List Sp).length + a.length) * 16 ≤ 140737488355328 then QB (k + 10) (k + 6) [a, []] 2 (qa .i64 (0 + 1)) ([] ++ a) else none) = _
 rw [qd (show (([] : List Sp).length + a.length) * 16 ≤ 140737488355328 by rw [List.length_nil]; omega), show qa .i64 (0 + 1) = 1 from qF 0 (by omega)]
 rw [QB, L2, qA (by omega), qi, qd (show (0 : Int) ≤ 1 ∧ (1 : Int) < 2 from ⟨by omega, by omega⟩)]
 show (if (([] ++ a : List Sp).length + ([] : List Sp).length) * 16 ≤ 140737488355328 then QB (k + 10) (k + 5) [a, []] 2 (qa .i64 (1 + 1)) ([] ++ a ++ []) else none) = _
 rw [qd (show (([] ++ a : List Sp).length + ([] : List Sp).length) * 16 ≤ 140737488355328 by rw [List.length_nil, qH]; omega), show qa .i64 (1 + 1) = 2 from qF 1 (by omega)]
 rw [QB, qx (by omega), qg]
 show some ([] ++ a ++ []) = some a
 simp
theorem qqz (k : Nat) (hk : 300 ≤ k) (a : List Sp) (h : In 0 17179869184 a) (hn : Nr (-1) a) (hl : a.length ≤ 256) : ∀ (j i : Nat), i ≤ a.length → (a.length - i) + (7 * a.length + 3) ≤ j →
  Xj k j a [] (a.length : Int) (i : Int) (we (a.take i)) a = some (a, 0) := by
 intro j
 induction j with
 | zero => intros; omega
 | succ j ih =>
  intro i hi hj
  rw [Xj]
  by_cases h' : i < a.length
  ·rw [qA (by omega : (i : Int) < (a.length : Int)), qi, qd ⟨by omega, by omega⟩, qc, qd (by rw [qao, Qt]; show (2 * min i a.length + 2) * 8 ≤ _; omega), qF i (by omega)]
   have := ih (i + 1) (by omega) (by omega)
   rw [wR a i (0, 0) h', qhY] at this
   exact this
  ·have hs : qct k (we a) = some (we a) := by
    unfold qct
    rw [qd (by rw [qao]; omega), qwa, List.mergeSort_of_pairwise]
    exact (qii hn).1.imp fun h => qA h
   have hv : qcg k (we a) = we a := by unfold qcg; rw [hs]; rfl
   rw [qx (by omega : ¬ (i : Int) < (a.length : Int)), qg, wI (by omega), hs, hv, qb, qd rfl]
   exact qqF k hk a h hn hl a.length 0 j (by omega) (by omega) (by omega)
theorem qdP (k : Nat) (hk : 2100 ≤ k) (l : List Sp) : qb2 k l = some (WE l) := by
 have e : qe6 k l [] = some (WE l) := by
  unfold qe6 WE
  rw [X8 k (by omega), qck k (by omega), X8 k (by omega), qck k (by omega), qb, qd rfl]
  by_cases h1 : zM l = 0
  ·obtain ⟨l1, l2⟩ := ZV.1 h1
   have hnl := qbE l2
   have h0 : In 0 17179869184 ([] : List Sp) := trivial
   rw [show (zM l != 0) = false by simp [h1], qg, qm (fun h : zM l ≠ 0 => h h1), qb, qd rfl, show (zM [] != 0) = false from rfl, qg]
   rw [WO k l l2 (by omega) (by omega), VI k l l2 (by omega) (by omega), WO k [] h0 (by simp) (by simp; omega), VI k [] h0 (by simp) (by simp; omega), qnQ h0 trivial, qd ⟨rfl, rfl⟩]
   have hc := qqy k (by omega) (nf l) (by omega)
   have hv : qbM k [nf l, []] = nf l := by unfold qbM; rw [hc]; rfl
   rw [hc, hv, qb, qd rfl]
   exact qqz k (by omega) (nf l) (qdq l2) (qj5 l2) (by omega) k 0 (by omega) (by omega)
  ·rw [show (zM l != 0) = true by simp [h1], qi, qd h1]
 have ev : qeE k l [] = WE l := by unfold qeE; rw [e]; rfl
 unfold qb2
 rw [e, ev]; rfl
theorem qke (k : Nat) (hk : 2100 ≤ k) (l : List Sp) : qaC k l = WE l := by
 unfold qaC; rw [qdP k hk]; rfl
theorem qsj (k : Nat) (a : List Sp) (h : In 0 17179869184 a) (hl : a.length ≤ 256) : ∀ (j i : Nat) (n : Int), i ≤ a.length → a.length - i < j → 0 ≤ n → n ≤ (i : Int) * 17179869184 →
  Yq k j n a (a.length : Int) (i : Int) = some (n + tot (a.drop i), 0) := by
 intro j
 induction j with
 | zero => intros; omega
 | succ j ih =>
  intro i n hi hj h0 h1
  rw [Yq]
  by_cases h' : i < a.length
  ·have hm := h.mem (a.getD i T21.dflt) (by simp [h'])
   rw [qA (by omega : (i : Int) < (a.length : Int)), qi, qd ⟨by omega, by omega⟩, qq a i T21.dflt h', qc]
   generalize a.getD i T21.dflt = s at hm
   rw [qo (i := s.snd - s.fst) (by omega) (by omega), qo (i := n + (s.snd - s.fst)) (by omega) (by omega), qF i (by omega), ih (i + 1) _ (by omega) (by omega) (by omega) (by omega), tot, Int.add_assoc]
  ·rw [qx (by omega : ¬ (i : Int) < (a.length : Int)), qg, zh a i (by omega)]
   simp [tot]
theorem qhd (k : Nat) (hk : 300 ≤ k) (l : List Sp) : qcp k l = some (qaB l) := by
 unfold qcp qaB
 rw [X8 k (by omega), qck k (by omega), qb, qd rfl]
 by_cases h1 : zM l = 0
 ·obtain ⟨l1, l2⟩ := ZV.1 h1
  have hnl := qbE l2
  rw [show (zM l != 0) = false by simp [h1], qg, qm (fun h : zM l ≠ 0 => h h1), WO k l l2 (by omega) (by omega), VI k l l2 (by omega) (by omega), qb, qd rfl]
  have := qsj k (nf l) (qdq l2) (by omega) k 0 0 (by omega) (by omega) (by omega) (by omega)
  rw [Int.zero_add] at this
  exact this
 ·rw [show (zM l != 0) = true by simp [h1], qi, qd h1]
theorem qtm (k : Nat) (hk : 300 ≤ k) (l : List Sp) : XF k l = qaB l := by
 unfold XF; rw [qhd k hk]; rfl
theorem qqM (k : Nat) (l : List Sp) (hl : l.length ≤ 256) : ∀ (j i : Nat), i ≤ l.length → l.length - i < j →
  qbt k j l (i : Int) = some (if (l.drop i).all (fun s => decide (0 ≤ s.1 ∧ s.1 ≤ s.2 ∧ s.2 ≤ 17179869184)) = true then 0 else 1) := by
 intro j
 induction j with
 | zero => intros; omega
 | succ j ih =>
  intro i hi hj
  rw [qbt]
  by_cases h : i < l.length
  ·rw [qA (by omega : (i : Int) < (l.length : Int)), qi, qd (by (repeat' apply And.intro) <;> (intros; omega)), qq l i T21.dflt h, qc, List.all_cons]
   generalize l.getD i T21.dflt = s
   by_cases hs : 0 ≤ s.1 ∧ s.1 ≤ s.2 ∧ s.2 ≤ 17179869184
   ·rw [qx (by omega : ¬ s.fst < 0), qx (by omega : ¬ s.fst > s.snd), qx (by omega : ¬ s.snd > 17179869184), Bool.or_self, Bool.or_self, qg, qF i (by omega), ih (i + 1) (by omega) (by omega), qA hs, ww]
   ·have : (decide (s.fst < 0) || decide (s.fst > s.snd) || decide (s.snd > 17179869184)) = true := by
     by_cases a : s.fst < 0
     ·rw [qA a]; rfl
     ·by_cases b : s.fst > s.snd
      ·rw [qA b, Bool.or_true]; rfl
      ·rw [qA (by omega : s.snd > 17179869184), Bool.or_true]
    rw [this, qi, qx hs, wD, qm (by decide)]
  ·rw [qx (by omega : ¬ (i : Int) < (l.length : Int)), qg, zh l i (by omega)]
   rfl
theorem qaM (k : Nat) (hk : 300 ≤ k) (l : List Sp) : qfH k l = some (zM l) := by
 unfold qfH zM
 by_cases h : l.length > 256
 ·rw [qA (by omega : (l.length : Int) > 256), qi, qd h]
 ·rw [qx (by omega : ¬ (l.length : Int) > 256), qg, qm h]
  exact qqM k l (by omega) k 0 (by omega) (by omega)
theorem qg1 (k : Nat) (hk : 300 ≤ k) (l : List Sp) : qdb k l = zM l := by
 unfold qdb; rw [qaM k hk]; rfl
theorem qs3 (k : Nat) (l : List Int) (hl : l.length ≤ 10000) (n : Int) : ∀ (j i : Nat), i ≤ l.length → l.length - i < j →
  qbq k j l n (i : Int) = some (l.take i ++ WR (l.drop i) n) := by
 intro j
 induction j with
 | zero => intros; omega
 | succ j ih =>
  intro i hi hj
  have hz : I.dflt = (0 : Int) := rfl
  have tk : ([] ++ qdv ((i : Int).toNat - qt 0) (qaJ (qt 0) l) : List Int) = l.take i := by
   rw [qc, show qt 0 = 0 from rfl]; simp
  have dk : qdv ((l.length : Int).toNat - (i : Int).toNat) (qaJ (i : Int).toNat l) = l.drop i := by
   rw [qc, qc]; exact wI (by rw [List.length_drop]; omega)
  rw [qbq]
  rw [qd (show (decide ((i : Int) < (l.length : Int)) = true → (0 : Int) ≤ (i : Int)) ∧ (decide ((i : Int) < (l.length : Int)) = true → (i : Int) < (l.length : Int)) from ⟨fun _ => by omega, fun e => of_decide_eq_true e⟩)]
  have fin : (if ((0 : Int) ≤ (0 : Int)) ∧ ((0 : Int) ≤ (i : Int)) ∧ ((i : Int) ≤ (l.length : Int)) ∧ (((0 : Nat) + (qdv ((i : Int).toNat - qt (0 : Int)) (qaJ (qt (0 : Int)) l)).length) * (8 : Nat) ≤ (140737488355328 : Nat)) then
       if ((([] ++ qdv ((i : Int).toNat - qt (0 : Int)) (qaJ (qt (0 : Int)) l)).length + [n].length) * (8 : Nat) ≤ (140737488355328 : Nat)) then
        if ((0 : Int) ≤ (i : Int)) ∧ ((i : Int) ≤ (l.length : Int)) ∧ ((l.length : Int) ≤ (l.length : Int)) ∧ ((([] ++ qdv ((i : Int).toNat - qt (0 : Int)) (qaJ (qt (0 : Int)) l) ++ [n]).length + (qdv ((l.length : Int).toNat - (i : Int).toNat) (qaJ (i : Int).toNat l)).length) * (8 : Nat) ≤ (140737488355328 : Nat)) then
         some ([] ++ qdv ((i : Int).toNat - qt 0) (qaJ (qt 0) l) ++ [n] ++ qdv ((l.length : Int).toNat - (i : Int).toNat) (qaJ (i : Int).toNat l))
        else none
       else none
      else none) = some (l.take i ++ [n] ++ l.drop i) := by
   have e0 : qdv ((i : Int).toNat - qt 0) (qaJ (qt 0) l) = l.take i := by rw [← tk]; rfl
   rw [dk, e0, qH]
   rw [qd ⟨by omega, by omega, by omega, by rw [Qt]; omega⟩, qd (by rw [Qt, qk]; omega), qd ⟨by omega, by omega, by omega, by rw [qn, Qt, qk, List.length_drop]; omega⟩]
  rw [fin]
  by_cases h : i < l.length
  ·rw [qA (by omega : (i : Int) < (l.length : Int)), ww, ww, qd ⟨fun _ => by omega, fun _ => by omega⟩, qc, hz, qq l i 0 h, WR]
   by_cases h1 : l.getD i 0 < n
   ·rw [qA h1, qi, qd h1, qF i (by omega), ih (i + 1) (by omega) (by omega), wR l i 0 h]
    simp
   ·rw [qx h1, qg, qm h1]
    by_cases h2 : l.getD i 0 = n
    ·rw [show (l.getD i 0 == n) = true from beq_iff_eq.2 h2, qi, qd h2, ← qq l i 0 h, qnA]
    ·rw [show (l.getD i 0 == n) = false from Vj h2, qg, qm h2]
     simp
  ·rw [qx (by omega : ¬ (i : Int) < (l.length : Int)), wD, wD, qg, qd ⟨fun e => (by cases e), fun e => (by cases e)⟩, qg, zh l i (by omega)]
   simp [WR]
theorem qbL (k : Nat) (l : List Int) (hl : l.length ≤ 10000) (hk : l.length < k) (n : Int) : qcL k l n = some (WR l n) := qs3 k l hl n k 0 (by omega) (by omega)
theorem qim (k : Nat) (l : List Int) (hl : l.length ≤ 10000) (hk : l.length < k) (n : Int) : qaf k l n = WR l n := by
 unfold qaf; rw [qbL k l hl hk]; rfl
theorem qrE (k : Nat) (hk : 2000 ≤ k) (a : List Sp) (hl : a.length ≤ 256) : ∀ (j i : Nat) (acc : List Int), i ≤ a.length → a.length - i + 1 < j → acc.length ≤ 2 * i →
  qbu k j a [] acc (i : Int) = some (QX acc (a.drop i)) := by
 intro j
 induction j with
 | zero => intros; omega
 | succ j ih =>
  intro i acc hi hj ha
  rw [qbu]
  by_cases h : i < a.length
  ·rw [qA (by omega : (i : Int) < (a.length : Int)), qi, qq a i T21.dflt h, qc, QX]
   generalize a.getD i T21.dflt = s
   have h1 := qfi acc s.1
   have h2 := qfi (WR acc s.1) s.2
   rw [qbL k acc (by omega) (by omega), qim k acc (by omega) (by omega), qbL k (WR acc s.fst) (by omega) (by omega), qim k (WR acc s.fst) (by omega) (by omega), qd ⟨by omega, by omega, rfl, by omega, by omega, rfl⟩, qF i (by omega)]
   exact ih (i + 1) _ (by omega) (by omega) (by omega)
  ·obtain ⟨j, rfl⟩ := qQ (by omega : 0 < j)
   rw [qx (by omega : ¬ (i : Int) < (a.length : Int)), qg, zh a i (by omega), qeB]
   rfl
theorem qhw (k : Nat) (hk : 2000 ≤ k) (a : List Sp) (hl : a.length ≤ 256) : qnh k a [] = some (QX [] a) := qrE k hk a hl k 0 [] (by omega) (by omega) (by simp)
theorem qs7 (k : Nat) (hk : 2000 ≤ k) (a : List Sp) (hl : a.length ≤ 256) : qnl k a [] = QX [] a := by
 unfold qnl; rw [qhw k hk a hl]; rfl
theorem quK (k : Nat) (a : List Sp) (hl : a.length ≤ 10000) (x : Int) : ∀ (j i : Nat), i ≤ a.length → a.length - i < j →
  qbn k j a x (i : Int) = some (ZG (a.drop i) x) := by
 intro j
 induction j with
 | zero => intros; omega
 | succ j ih =>
  intro i hi hj
  rw [qbn]
  by_cases h : i < a.length
  ·rw [qA (by omega : (i : Int) < (a.length : Int)), qi, qd ⟨by omega, by omega, fun _ => by omega, fun _ => by omega⟩, qq a i T21.dflt h, qc]
   generalize a.getD i T21.dflt = s
   show _ = some ((decide (s.1 ≤ x) && decide (x < s.2)) || ZG (a.drop (i + 1)) x)
   cases hc : (decide (s.fst ≤ x) && decide (x < s.snd))
   ·rw [qg, zn, qF i (by omega)]
    exact ih (i + 1) (by omega) (by omega)
   ·rw [qi, zX]
  ·rw [qx (by omega : ¬ (i : Int) < (a.length : Int)), qg, zh a i (by omega)]
   rfl
theorem Vr (k : Nat) (a : List Sp) (hl : a.length ≤ 10000) (hk : a.length < k) (x : Int) : qj7 k a x = some (ZG a x) := quK k a hl x k 0 (by omega) (by omega)
theorem YY (k : Nat) (a : List Sp) (hl : a.length ≤ 10000) (hk : a.length < k) (x : Int) : YV k a x = ZG a x := by
 unfold YV; rw [Vr k a hl hk]; rfl
theorem qlR (k : Nat) (hk : 300 ≤ k) (a : List Sp) (hl : a.length ≤ 256) (c : List Int) (hc : c.length ≤ 10000) : ∀ (j i : Nat), i ≤ c.length → c.length - i < j →
  Qx k j a [] 0 c (i : Int) [] = some (qhs a (c.drop i)) ∧
  ∀ (pre : List Sp) (l : Sp), pre.length ≤ i → Qx k j a [] 0 c (i : Int) (pre ++ [l]) = some (pre ++ Yo a l (c.drop i)) := by
 intro j
 induction j with
 | zero => intros; omega
 | succ j ih =>
  intro i hi hj
  have hz : I.dflt = (0 : Int) := rfl
  by_cases h : i + 1 < c.length
  ·obtain ⟨ih1, ih2⟩ := ih (i + 1) (by omega) (by omega)
   have hd1 := qq c i 0 (by omega)
   have hd2 := qq c (i + 1) 0 h
   rw [hd2] at hd1 ih1 ih2
   generalize hx : c.getD i 0 = x at *
   generalize hy : c.getD (i + 1) 0 = y at *
   have hskip : ∀ b : Bool, ((0 : Int) == 0 && !b && !false || (0 : Int) == 1 && !(b && false) || (0 : Int) == 2 && (!b || false)) = !b := fun b => by cases b <;> rfl
   have hno : ZG ([] : List Sp) x = false := rfl
   refine ⟨?_, fun pre l hp => ?_⟩
   ·rw [Qx, qF i (by omega), qA (by omega), qi, qc, qc, hz, hx, hy, Vr k a (by omega) (by omega), YY k a (by omega) (by omega), Vr k [] (by simp) (by simp; omega), YY k [] (by simp) (by simp; omega), hno, qd ⟨by omega, by omega, rfl, by omega, by omega, rfl⟩, hskip, hd1, qhs]
    cases hb : ZG a x
    ·rw [qd1, qi, qm (by decide)]; exact ih1
    ·rw [vB, qg, qd rfl]
     have hm : qa .i64 ((([] : List Sp).length : Int) - 1) = -1 := by rw [List.length_nil, qo (by omega) (by omega)]; rfl
     rw [hm, qd (show (decide ((-1 : Int) ≥ 0) = true → (0 : Int) ≤ -1) ∧ (decide ((-1 : Int) ≥ 0) = true → (-1 : Int) < (([] : List Sp).length : Int)) ∧ (decide ((-1 : Int) ≥ 0) = true → (0 : Int) ≤ (i : Int)) ∧ (decide ((-1 : Int) ≥ 0) = true → (i : Int) < (c.length : Int)) from ⟨fun e => (by cases e), fun e => (by cases e), fun e => (by cases e), fun e => (by cases e)⟩), show decide ((-1 : Int) ≥ 0) = false from rfl, wD, qg]
     rw [qd ⟨by omega, by omega, by omega, by omega, by simp⟩, qH]
     have := ih2 [] (x, y) (by simp)
     simpa using this
   ·have hlen : (pre ++ [l]).length = pre.length + 1 := by simp
    have hidx : (0 : Int) ≤ qa .i64 (((pre ++ [l]).length : Int) - 1) ∧ qa .i64 (((pre ++ [l]).length : Int) - 1) < ((pre ++ [l]).length : Int) := by
     rw [hlen, qo (by omega) (by omega)]; exact ⟨by omega, by omega⟩
    rw [Qx, qF i (by omega), qA (by omega), qi, qc, qc, hz, hx, hy, Vr k a (by omega) (by omega), YY k a (by omega) (by omega), Vr k [] (by simp) (by simp; omega), YY k [] (by simp) (by simp; omega), hno, qd ⟨by omega, by omega, rfl, by omega, by omega, rfl⟩, hskip, hd1, Yo]
    cases hb : ZG a x
    ·rw [qd1, qi, qm (by decide)]; exact ih2 pre l (by omega)
    ·rw [vB, qg, qd rfl, qA hidx.1, ww, qp4 pre l (by omega), qpy, qpA]
     rw [qd ⟨fun _ => hidx.1, fun _ => hidx.2, fun _ => by omega, fun _ => by omega⟩]
     by_cases hq : l.2 = x
     ·rw [show (l.snd == x) = true by simp [hq], qi, qd ⟨by omega, by omega, hidx.1, hidx.2⟩, qd hq]
      exact ih2 pre (l.1, y) (by omega)
     ·rw [show (l.snd == x) = false from Vj hq, qg, qd ⟨by omega, by omega, by omega, by omega, by rw [hlen, qk]; omega⟩, qm hq]
      rw [ih2 (pre ++ [l]) (x, y) (by simp; omega)]
      simp
  ·have hstop : decide (qa .i64 ((i : Int) + 1) < (c.length : Int)) = false := by rw [qF i (by omega)]; exact qx (by omega)
   have hd : c.drop i = [] ∨ ∃ x, c.drop i = [x] := by
    by_cases h2 : i < c.length
    ·right
     rw [qq c i 0 h2, zh c (i + 1) (by omega)]
     exact ⟨_, rfl⟩
    ·left; exact zh c i (by omega)
   refine ⟨?_, fun pre l hp => ?_⟩
   ·rw [Qx, hstop, qg]
    rcases hd with e | ⟨x, e⟩ <;> rw [e] <;> rfl
   ·rw [Qx, hstop, qg]
    rcases hd with e | ⟨x, e⟩ <;> rw [e] <;> rfl
theorem Xu (k : Nat) (hk : 2000 ≤ k) (l : List Sp) : qcX k l = some (WE l) := by
 have e : qj4 k l [] 0 = some (WE l) := by
  unfold qj4 WE
  rw [qaM k (by omega), qg1 k (by omega), qaM k (by omega), qg1 k (by omega), qb, qd rfl]
  by_cases h1 : zM l = 0
  ·obtain ⟨l1, l2⟩ := ZV.1 h1
   have hnl := qbE l2
   have hcl := qpT l []
   rw [show (zM l != 0) = false by simp [h1], qg, qm (fun h : zM l ≠ 0 => h h1), qb, qd rfl, show (zM [] != 0) = false from rfl, qg]
   have ec : qjg k l [] 0 = some (nf l) := by
    unfold qjg
    rw [qhw k hk l l1, qs7 k hk l l1, qb, qd rfl]
    have := (qlR k (by omega) l l1 (QX [] l) (by simp at hcl; omega) k 0 (by omega) (by simp at hcl; omega)).1
    rw [wm, qQk l2] at this
    exact this
   have ev : qjR k l [] 0 = nf l := by unfold qjR; rw [ec]; rfl
   rw [ec, ev, qb, qd rfl, qx (by omega), qg]
  ·rw [show (zM l != 0) = true by simp [h1], qi, qd h1]
 have ev : qjx k l [] 0 = WE l := by unfold qjx; rw [e]; rfl
 unfold qcX
 rw [e, ev]; rfl
theorem qbw (k : Nat) (hk : 2000 ≤ k) (l : List Sp) : YZ k l = WE l := by
 unfold YZ; rw [Xu k hk]; rfl
theorem qgH (k : Nat) (a : List Sp) (e : Int) (h : In 0 17179869184 a) (hl : a.length ≤ 256) : ∀ (j i : Nat) (n : Int), i ≤ a.length → a.length - i < j → 0 ≤ n → n ≤ (i : Int) * 17179869184 →
  qbh k j a e n (i : Int) = some (n + tot (a.drop i), e) := by
 intro j
 induction j with
 | zero => intros; omega
 | succ j ih =>
  intro i n hi hj h0 h1
  rw [qbh]
  by_cases h' : i < a.length
  ·have hm := h.mem (a.getD i T21.dflt) (by simp [h'])
   rw [qA (by omega : (i : Int) < (a.length : Int)), qi, qd ⟨by omega, by omega, by omega, by omega⟩, qq a i T21.dflt h', qc]
   generalize a.getD i T21.dflt = s at hm
   rw [qo (i := n + s.snd) (by omega) (by omega), qo (i := n + s.snd - s.fst) (by omega) (by omega), qF i (by omega), ih (i + 1) _ (by omega) (by omega) (by omega) (by omega), tot]
   congr 2; omega
  ·rw [qx (by omega : ¬ (i : Int) < (a.length : Int)), qg, zh a i (by omega)]
   simp [tot]
theorem qgN (k : Nat) (hk : 2000 ≤ k) (l : List Sp) : qjb k l = some (qaB l) := by
 unfold qjb qaB
 rw [Xu k hk, qbw k hk, qb, qd rfl]
 unfold WE
 by_cases h1 : zM l = 0
 ·obtain ⟨l1, l2⟩ := ZV.1 h1
  have hnl := qbE l2
  rw [qm (fun h : zM l ≠ 0 => h h1), qm (fun h : zM l ≠ 0 => h h1)]
  have := qgH k (nf l) 0 (qdq l2) (by omega) k 0 0 (by omega) (by omega) (by omega) (by omega)
  rw [Int.zero_add] at this
  exact this
 ·rw [qd h1, qd h1]
  have := qgH k [] (zM l) trivial (by simp) k 0 0 (by simp) (by simp; omega) (by omega) (by omega)
  exact this
theorem qqL (k : Nat) (hk : 2000 ≤ k) (l : List Sp) : qdr k l = qaB l := by
 unfold qdr; rw [qgN k hk]; rfl
end Go.AM
namespace Go.AM
open Go
abbrev Ch := Int × Int × Bool × List Rn   -- Left, Width, Turn, Runs
abbrev Ro := Int × Int × Ch               -- ID, Parent, Cut
abbrev Pt := Int × Int × Int              -- Roll, Across, Along
def look (l : List Ro) (id : Int) : Option Ro := l.find? fun r => r.1 == id
def Vm (m : List Rn) : List Sp × Int := if chk m ≠ 0 then ([], chk m) else (nf (m.map vX), 0)
def vg (m : List Rn) : Bool := decide (chk m = 0) && (tot (nf (m.map vX)) == qv m)
def wn (l : List Ro) (W L id : Int) : Int × Int := if id = 0 then (W, L) else match look l id with
 | some r => (r.2.2.2.1, qv r.2.2.2.2.2)
 | none => (0, 0)
def qk9 (c : Ch) (w n : Int) : Int :=
 if c.1 < 0 ∨ c.2.1 < 1 ∨ c.1 > w ∨ c.2.1 > w - c.1 then 20 else if chk c.2.2.2 ≠ 0 then chk c.2.2.2 else if c.2.2.2 = [] then 10
 else if vg c.2.2.2 = false then 12 else if fitsIn n c.2.2.2 then 0 else 21
def vF (p : List Ro) (W L : Int) (r : Ro) : Int :=
 if r.1 < 1 ∨ r.1 > 1000000 then 1 else if r.2.1 ≠ 0 ∧ look p r.2.1 = none then 7 else qk9 r.2.2 (wn p W L r.2.1).1 (wn p W L r.2.1).2
def VJ (a b : List Rn) : Bool := a.any fun x => b.any fun y => decide (lo x ≤ hi y) && decide (lo y ≤ hi x)
def VV (a b : Ch) : Bool := (decide (a.1 < b.1 + b.2.1) && decide (b.1 < a.1 + a.2.1)) && VJ a.2.2.2 b.2.2.2
def QE (p : List Ro) (r : Ro) : Bool := p.any fun b => (r.2.1 == b.2.1) && VV r.2.2 b.2.2
def w8 (W L : Int) : List Ro → List Ro → Int
 | _, [] => 0
 | p, r :: t => if vF p W L r ≠ 0 then vF p W L r else w8 W L (p ++ [r]) t
def vH : List Ro → List Ro → Bool
 | _, [] => false
 | p, r :: t => (look p r.1).isSome || vH (p ++ [r]) t
def ze : List Ro → List Ro → Bool
 | _, [] => false
 | p, r :: t => QE p r || ze (p ++ [r]) t
def wZ (l : List Ro) (W L : Int) : Int :=
 if W < 1 ∨ W > 12000 ∨ L < 0 ∨ L > 17179869184 then 1 else if l.length > 512 then 8 else if w8 W L [] l ≠ 0 then w8 W L [] l
 else if vH [] l = true then 6 else if ze [] l = true then 12 else 0
theorem QU (a b : List Ro) (id : Int) : look (a ++ b) id = (look a id).or (look b id) := by
 unfold look; exact List.find?_append
theorem zr {l : List Ro} {id : Int} {r : Ro} (h : look l id = some r) : r ∈ l ∧ r.1 = id := by
 unfold look at h
 exact ⟨List.mem_of_find?_eq_some h, by have := List.find?_some h; simpa using this⟩
structure CutOk (c : Ch) (w n : Int) : Prop where
 left : 0 ≤ c.1
 width : 1 ≤ c.2.1
 right : c.1 + c.2.1 ≤ w
 chk : Chk c.2.2.2
 ne : c.2.2.2 ≠ []
 single : vg c.2.2.2 = true
 fits : fitsIn n c.2.2.2
theorem qp6 {c : Ch} {w n : Int} : qk9 c w n = 0 ↔ CutOk c w n := by
 unfold qk9
 constructor
 ·intro h
  by_cases h1 : c.1 < 0 ∨ c.2.1 < 1 ∨ c.1 > w ∨ c.2.1 > w - c.1
  ·rw [qd h1] at h; omega
  ·rw [qm h1] at h
   by_cases h2 : chk c.2.2.2 ≠ 0
   ·rw [qd h2] at h; exact absurd h h2
   ·rw [qm h2] at h
    by_cases h3 : c.2.2.2 = []
    ·rw [qd h3] at h; omega
    ·rw [qm h3] at h
     by_cases h4 : vg c.2.2.2 = false
     ·rw [qd h4] at h; omega
     ·rw [qm h4] at h
      by_cases h5 : fitsIn n c.2.2.2
      ·exact ⟨by omega, by omega, by omega, wW.1 (Classical.not_not.1 h2), h3, by simpa using h4, h5⟩
      ·rw [qm h5] at h; omega
 ·rintro ⟨h1, h2, h3, h4, h5, h6, h7⟩
  rw [qm (by omega), qm (fun h => h (wW.2 h4)), qm h5, qm (by simp [h6]), qd h7]
structure FitOk (p : List Ro) (W L : Int) (r : Ro) : Prop where
 id0 : 1 ≤ r.1
 id1 : r.1 ≤ 1000000
 parent : r.2.1 = 0 ∨ ∃ q, look p r.2.1 = some q
 cut : CutOk r.2.2 (wn p W L r.2.1).1 (wn p W L r.2.1).2
theorem qgc {p : List Ro} {W L : Int} {r : Ro} : vF p W L r = 0 ↔ FitOk p W L r := by
 unfold vF
 constructor
 ·intro h
  by_cases h1 : r.1 < 1 ∨ r.1 > 1000000
  ·rw [qd h1] at h; omega
  ·rw [qm h1] at h
   by_cases h2 : r.2.1 ≠ 0 ∧ look p r.2.1 = none
   ·rw [qd h2] at h; omega
   ·rw [qm h2] at h
    refine ⟨by omega, by omega, ?_, qp6.1 h⟩
    by_cases h3 : r.2.1 = 0
    ·exact .inl h3
    ·right
     cases h4 : look p r.2.1 with
     | none => exact absurd ⟨h3, h4⟩ h2
     | some q => exact ⟨q, rfl⟩
 ·rintro ⟨h1, h2, h3, h4⟩
  rw [qm (by omega), qm (fun h => by
   rcases h3 with h3 | ⟨q, h3⟩
   ·exact h.1 h3
   ·rw [h3] at h; cases h.2), qp6.2 h4]
inductive Okp (W L : Int) : List Ro → Prop
 | nil : Okp W L []
 | snoc (p : List Ro) (r : Ro) (h : Okp W L p) (f : FitOk p W L r) (n : look p r.1 = none) (c : QE p r = false) : Okp W L (p ++ [r])
structure Reg (l : List Ro) (W L : Int) : Prop where
 w : 1 ≤ W ∧ W ≤ 12000
 len : 0 ≤ L ∧ L ≤ 17179869184
 num : l.length ≤ 512
 ok : Okp W L l
theorem qDL {W L : Int} : ∀ (t p : List Ro), Okp W L p → w8 W L p t = 0 → vH p t = false → ze p t = false → Okp W L (p ++ t)
 | [], p, h, _, _, _ => by simpa using h
 | r :: t, p, h, he, hd, hc => by
  rw [w8] at he
  rw [vH, WN] at hd
  rw [ze, WN] at hc
  have hf : vF p W L r = 0 := by
   by_cases q : vF p W L r = 0
   ·exact q
   ·rw [qd q] at he; exact absurd he q
  rw [qm (fun h => h hf)] at he
  have := qDL t (p ++ [r]) (.snoc p r h (qgc.1 hf) (by cases e : look p r.1 <;> simp_all) hc.1) he hd.2 hc.2
  simpa using this
theorem qRl {W L : Int} {l : List Ro} (h : Okp W L l) : ∀ (t p : List Ro), l = p ++ t → w8 W L p t = 0 ∧ vH p t = false ∧ ze p t = false := by
 induction h with
 | nil =>
  intro t p e
  have : t = [] ∧ p = [] := by
   have := e.symm
   simp at this
   exact ⟨this.2, this.1⟩
  obtain ⟨rfl, rfl⟩ := this
  exact ⟨rfl, rfl, rfl⟩
 | snoc q r h f n c ih =>
  intro t p e
  rcases List.eq_nil_or_concat t with rfl | ⟨t', r', rfl⟩
  ·exact ⟨rfl, rfl, rfl⟩
  ·rw [List.concat_eq_append] at *
   rw [← qw] at e
   obtain ⟨e1, e2⟩ := List.append_inj' e rfl
   simp only [List.cons.injEq, and_true] at e2
   subst e2
   obtain ⟨i1, i2, i3⟩ := ih t' p e1
   have key : ∀ (t' p : List Ro), w8 W L p t' = 0 → vH p t' = false → ze p t' = false → vF (p ++ t') W L r = 0 → look (p ++ t') r.1 = none → QE (p ++ t') r = false → w8 W L p (t' ++ [r]) = 0 ∧ vH p (t' ++ [r]) = false ∧ ze p (t' ++ [r]) = false := fun t' => by
    induction t' with
    | nil =>
     intro p _ _ _ a b c
     rw [qY] at a b c
     rw [qH, w8, vH, ze, qm (fun h => h a), b, c]
     exact ⟨rfl, rfl, rfl⟩
    | cons u v ih =>
     intro p a1 a2 a3 a4 a5 a6
     rw [w8] at a1
     rw [vH, WN] at a2
     rw [ze, WN] at a3
     have hf : vF p W L u = 0 := by
      by_cases q : vF p W L u = 0
      ·exact q
      ·rw [qd q] at a1; exact absurd a1 q
     rw [qm (fun h => h hf)] at a1
     have e3 : p ++ u :: v = p ++ [u] ++ v := by simp
     rw [e3] at a4 a5 a6
     obtain ⟨b1, b2, b3⟩ := ih (p ++ [u]) a1 a2.2 a3.2 a4 a5 a6
     rw [qpk, w8, vH, ze, qm (fun h => h hf), a2.1, a3.1]
     exact ⟨b1, b2, b3⟩
   rw [e1] at f n c
   exact key t' p i1 i2 i3 (qgc.2 f) n c
theorem qdQ {l : List Ro} {W L : Int} : wZ l W L = 0 ↔ Reg l W L := by
 unfold wZ
 constructor
 ·intro h
  by_cases h1 : W < 1 ∨ W > 12000 ∨ L < 0 ∨ L > 17179869184
  ·rw [qd h1] at h; omega
  ·rw [qm h1] at h
   by_cases h2 : l.length > 512
   ·rw [qd h2] at h; omega
   ·rw [qm h2] at h
    by_cases h3 : w8 W L [] l ≠ 0
    ·rw [qd h3] at h; exact absurd h h3
    ·rw [qm h3] at h
     by_cases h4 : vH [] l = true
     ·rw [qd h4] at h; omega
     ·rw [qm h4] at h
      by_cases h5 : ze [] l = true
      ·rw [qd h5] at h; omega
      ·have := qDL l [] (W := W) (L := L) .nil (Classical.not_not.1 h3) (by simpa using h4) (by simpa using h5)
       exact ⟨by omega, by omega, by omega, by simpa using this⟩
 ·rintro ⟨h1, h2, h3, h4⟩
  obtain ⟨a, b, c⟩ := qRl h4 l [] rfl
  rw [qm (by omega), qm (by omega), qm (fun h => h a), qm (by rw [b]; decide), qm (by rw [c]; decide)]
theorem ql7 {m : List Rn} (h : goods m) : In 0 17179869184 (m.map vX) := In.of fun s hs => by
 obtain ⟨r, hr, rfl⟩ := List.mem_map.1 hs
 obtain ⟨a, b, c, d⟩ := (h.mem r hr).lohi
 exact ⟨a, by show lo r ≤ hi r + 1; omega, by show hi r + 1 ≤ _; omega⟩
theorem qpO {m : List Rn} (h : Chk m) : WE (m.map vX) = (nf (m.map vX), 0) := by
 unfold WE
 rw [qm (fun e => e (ZV.2 ⟨by rw [List.length_map]; exact h.len, ql7 h.goods⟩))]
theorem qpP {m : List Rn} (h : Chk m) : qaB (nf (m.map vX)) = (tot (nf (m.map vX)), 0) := by
 have hi := ql7 h.goods
 have hl := qbE hi
 have hm := h.len
 rw [List.length_map] at hl
 unfold qaB
 rw [qm (fun e => e (ZV.2 ⟨by omega, qdq hi⟩)), qnQ (qdq hi) (qj5 hi)]
theorem qbW (k : Nat) (r : Rn) (h : good r) : qfA k r = some (vX r) := by
 have h' := h
 obtain ⟨g1, g2, g3, g4, _⟩ := h'
 obtain ⟨l1, l2, l3, l4⟩ := h.lohi
 unfold qfA
 rw [qo (i := r.snd.fst - 1) (by omega) (by omega), QR k r _ (by omega) (by omega) (by omega) (by omega), W6 k r _ (by omega) (by omega) (by omega) (by omega), qkF h, qsx h, qo (by omega) (by omega)]
 rfl
theorem qhm (k : Nat) (r : Rn) (h : good r) : wp k r = vX r := by
 unfold wp; rw [qbW k r h]; rfl
theorem quH (k : Nat) (hk : 2100 ≤ k) (m : List Rn) (hc : Chk m) : ∀ (j i : Nat), i ≤ m.length → m.length - i + 1 < j →
  qbp k j m (m.length : Int) (i : Int) ((m.take i).map vX) = some (nf (m.map vX), 0) := by
 have hml := hc.len
 intro j
 induction j with
 | zero => intros; omega
 | succ j ih =>
  intro i hi hj
  rw [qbp]
  by_cases h : i < m.length
  ·have hgr : good (m.getD i T3.dflt) := hc.goods.mem _ (by simp [h])
   have ht := wR m i T3.dflt h
   have := ih (i + 1) (by omega) (by omega)
   rw [ht, List.map_append] at this
   rw [qA (by omega : (i : Int) < (m.length : Int)), qi, qd ⟨by omega, by omega⟩, qc, qbW k _ hgr, qhm k _ hgr, qd ⟨rfl, by rw [List.length_map, Qt, qk]; omega⟩, qF i (by omega)]
   exact this
  ·obtain ⟨j, rfl⟩ := qQ (by omega : 0 < j)
   rw [qx (by omega : ¬ (i : Int) < (m.length : Int)), qg, wI (by omega), qgw, qdP k hk, qke k hk, qpO hc]
   rfl
theorem qdX (k : Nat) (hk : 2100 ≤ k) (m : List Rn) : qge k m = some (Vm m) := by
 unfold qge Vm
 rw [QT k (by omega), W0 k (by omega), qb, qd rfl]
 by_cases h1 : chk m = 0
 ·have hc := wW.1 h1
  have hml := hc.len
  rw [show (chk m != 0) = false by simp [h1], qg, qm (fun h : chk m ≠ 0 => h h1)]
  exact quH k hk m hc k 0 (by omega) (by omega)
 ·rw [show (chk m != 0) = true by simp [h1], qi, qd h1]
theorem qkB (k : Nat) (hk : 2100 ≤ k) (m : List Rn) : zU k m = Vm m := by
 unfold zU; rw [qdX k hk]; rfl
theorem qhq (k : Nat) (hk : 2100 ≤ k) (m : List Rn) : qc7 k m = some (vg m) := by
 unfold qc7 vg
 rw [qdX k hk, qkB k hk, qb, qd rfl]
 unfold Vm
 by_cases h1 : chk m = 0
 ·have hc := wW.1 h1
  have hml := hc.len
  rw [qm (fun h : chk m ≠ 0 => h h1), qA h1, ww]
  show (bif (0 : Int) != 0 then _ else _) = _
  rw [show ((0 : Int) != 0) = false from rfl, qg]
  show (if (qcp k (nf (m.map vX))).isSome = true then _ else none) = _
  rw [qhd k (by omega)]
  show (bif ((XF k (nf (m.map vX))).snd == 0) then _ else _) = _
  rw [qtm k (by omega), qpP hc, X5 k m hc.goods (by omega) (by omega), qcx k m hc.goods (by omega) (by omega)]
  rfl
 ·rw [qd h1, qx h1, wD]
  show (bif chk m != 0 then some false else _) = _
  rw [show (chk m != 0) = true by simp [h1], qi]
theorem qtu (k : Nat) (hk : 2100 ≤ k) (m : List Rn) : qgB k m = vg m := by
 unfold qgB; rw [qhq k hk]; rfl
theorem qqk (k : Nat) (hk : 2100 ≤ k) (m : List Rn) (hc : Chk m) : ∀ (j i : Nat), i ≤ m.length → m.length - i + 1 < j →
  qbk k j m (i : Int) ((m.take i).map vX) = some (nf (m.map vX), 0) := by
 have hml := hc.len
 intro j
 induction j with
 | zero => intros; omega
 | succ j ih =>
  intro i hi hj
  rw [qbk]
  by_cases h : i < m.length
  ·have hgr : good (m.getD i T3.dflt) := hc.goods.mem _ (by simp [h])
   have ht := wR m i T3.dflt h
   have := ih (i + 1) (by omega) (by omega)
   rw [ht, List.map_append] at this
   rw [qA (by omega : (i : Int) < (m.length : Int)), qi, qc]
   generalize m.getD i T3.dflt = r at hgr this
   have h' := hgr
   obtain ⟨g1, g2, g3, g4, _⟩ := h'
   obtain ⟨l1, l2, l3, l4⟩ := hgr.lohi
   rw [qo (i := r.snd.fst - 1) (by omega) (by omega), zu k r _ (by omega) (by omega) (by omega) (by omega), zG k r _ (by omega) (by omega) (by omega) (by omega), qkF hgr, qsx hgr, qo (i := Go.AM.hi r + 1) (by omega) (by omega), qd ⟨by omega, by omega, by omega, by omega, by omega, by omega, rfl⟩, qd (by rw [List.length_map, Qt, qk]; omega), qF i (by omega)]
   exact this
  ·obtain ⟨j, rfl⟩ := qQ (by omega : 0 < j)
   rw [qx (by omega : ¬ (i : Int) < (m.length : Int)), qg, wI (by omega), qgy, Xu k (by omega), qbw k (by omega), qpO hc]
   rfl
theorem qaK (k : Nat) (hk : 2100 ≤ k) (m : List Rn) : qcE k m = some (Vm m) := by
 unfold qcE Vm
 rw [vM k (by omega), Qw k (by omega), qb, qd rfl]
 by_cases h1 : chk m = 0
 ·have hc := wW.1 h1
  have hml := hc.len
  rw [show (chk m != 0) = false by simp [h1], qg, qm (fun h : chk m ≠ 0 => h h1)]
  exact qqk k hk m hc k 0 (by omega) (by omega)
 ·rw [show (chk m != 0) = true by simp [h1], qi, qd h1]
theorem qg6 (k : Nat) (hk : 2100 ≤ k) (m : List Rn) : XY k m = Vm m := by
 unfold XY; rw [qaK k hk]; rfl
theorem qfe (k : Nat) (hk : 2100 ≤ k) (m : List Rn) : qdo k m = some (vg m) := by
 unfold qdo vg
 rw [vM k (by omega), Qw k (by omega), qb, qd rfl]
 by_cases h1 : chk m = 0
 ·have hc := wW.1 h1
  have hml := hc.len
  rw [show (chk m != 0) = false by simp [h1], qg, qA h1, ww, qaK k hk, qg6 k hk]
  unfold Vm
  rw [qm (fun h : chk m ≠ 0 => h h1), qgN k (by omega), qqL k (by omega), qpP hc, Yp k m hc.goods (by omega) (by omega), qeL k m hc.goods (by omega) (by omega)]
  rfl
 ·rw [show (chk m != 0) = true by simp [h1], qi, qx h1, wD]
theorem qnS (k : Nat) (hk : 2100 ≤ k) (m : List Rn) : qfo k m = vg m := by
 unfold qfo; rw [qfe k hk]; rfl
end Go.AM
namespace Go.AM
open Go Go.Proofs
noncomputable section
def qwd (r : Int × Int) : AV := .tup [ri r.1, ri r.2]
abbrev qHs (a : T3.T) (r : Int × Int) : Prop := CC Tryz.prog 121 [.agg (qy (qr T3 a))] [] (qwd r) (nb r)
def qdm (k : Nat) (a : T3.T) : Option (Int × Int) :=
 bif a.2.2 then
 some (qa .i64 (qa .i64 (a.1 - a.2.1) + 1), a.1)
 else
 some (a.1, qa .i64 (qa .i64 (a.1 + a.2.1) - 1))
def qaW := fun k a => (qdm k a).getD (0, 0)
def qtw (k : Nat) : Ke := (121, mo 1, fun
 | [.agg b], [] => (qW [] T3 b).bind fun a => some (.one (qwd (qaW k a), []))
 | _, _ => none)
theorem qPC (k a r) (h : qdm k a = some r): qHs a r := qN Tryz.f121 (go (qD []) [] [] [.autoB [2, 3] true []] (qB h fun h => gL h))
theorem qrD {k a} (h : (qdm k a).isSome): qHs a (qaW k a) := qJ h (qPC k a)
abbrev qH3 (a : T4.T) (b : T4.T) (r : Bool) : Prop := CC Tryz.prog 73 [.agg (qy (qr T4 a)), .agg (qy (qr T4 b))] [] (rb r) (nb r)
def qG3 := fun y0 y1 y2 y3 => (⟨qI 65 [(3, .ptr 1000000 0 0), (32, ro T3 y0), (33, ri y1), (34, ri y2)], [(1000000, 0, .var 45 (qy (qr T4 y3)))]⟩ : St)
def qFE := fun y0 y1 y2 y3 y4 y5 y6 y7 y8 => (⟨qI 65 [(3, .ptr 1000000 0 0), (7, ri y0), (8, ri y1), (32, ro T3 y2), (33, ri y3), (34, ri y4), (44, ro T3 y5), (45, ri y6), (46, ri y7)], [(1000000, 0, .var 45 (qy (qr T4 y8)))]⟩ : St)
mutual
def Xk (k : Nat) : Nat → List T3.T → Int → Int → T4.T → Option Bool
 | 0, _, _, _, _ => none
 | j + 1, y0, y1, y2, y3 =>
 bif y2 < y1 then
 if (0 ≤ y2) ∧ (y2 < y0.length) then
 if ((qdm k (y0.getD y2.toNat T3.dflt)).isSome) then
 YL k j ((qaW k (y0.getD y2.toNat T3.dflt)).1) ((qaW k (y0.getD y2.toNat T3.dflt)).2) y0 y1 y2 y3.2.2.2 (↑ (qe y3.2.2.2) : Int) 0 y3
 else none
 else none
 else
 some false
def YL (k : Nat) : Nat → Int → Int → List T3.T → Int → Int → List T3.T → Int → Int → T4.T → Option Bool
 | 0, _, _, _, _, _, _, _, _, _ => none
 | j + 1, y0, y1, y2, y3, y4, y5, y6, y7, y8 =>
 bif y7 < y6 then
 if (0 ≤ y7) ∧ (y7 < y5.length) then
 if ((qdm k (y5.getD y7.toNat T3.dflt)).isSome) then
 bif (decide (y0 ≤ (qaW k (y5.getD y7.toNat T3.dflt)).2) && decide ((qaW k (y5.getD y7.toNat T3.dflt)).1 ≤ y1)) then
 some true
 else
 YL k j y0 y1 y2 y3 y4 y5 y6 (qa .i64 (y7 + 1)) y8
 else none
 else none
 else
 Xk k j y2 y3 (qa .i64 (y4 + 1)) y8
end
def qi8 (k : Nat) (a : T4.T) (b : T4.T) : Option Bool :=
 bif (decide (qa .i64 (a.1 + a.2.1) ≤ b.1) || decide (qa .i64 (b.1 + b.2.1) ≤ a.1)) then
 some false
 else
 Xk k k a.2.2.2 (↑ (qe a.2.2.2) : Int) 0 b
def qmK := fun k a b => (qi8 k a b).getD false
def qQN (k : Nat) : Ke := (73, mo 2, fun
 | [.agg d, .agg e], [] => (qW [] T4 d).bind fun a => (qW [] T4 e).bind fun b => some (.one (rb (qmK k a b), []))
 | _, _ => none)
def qEG : List (Nat × List Cmd) := [(4, [.autoB [3, 32, 33, 34] false []]), (8, [.autoB [3, 7, 8, 32, 33, 34, 44, 45, 46] false []])]
abbrev qHp := EP Tryz.f73 0 rb nb
theorem qCp (k) : ∀ j, (∀ {y0 y1 y2 y3}, qHp 4 (qG3 y0 y1 y2 y3) (Xk k j y0 y1 y2 y3)) ∧ (∀ {y0 y1 y2 y3 y4 y5 y6 y7 y8}, qHp 8 (qFE y0 y1 y2 y3 y4 y5 y6 y7 y8) (YL k j y0 y1 y2 y3 y4 y5 y6 y7 y8))
 | 0 => by and_intros <;> intros <;> exact e0
 | j + 1 => by
  have ih := @qCp k j
  have g := @go (qD [qtw k]) [] qEG [.autoB [4] true []]
  refine ⟨?_, ?_⟩
  ·intro y0 y1 y2 y3 r h
   rw [Xk] at h
   exact g (gS h (fun h => qS h fun h => qu h qrD fun h => gD h 8 ih.2) fun h => gL h)
  ·intro y0 y1 y2 y3 y4 y5 y6 y7 y8 r h
   rw [YL] at h
   exact g (gS h (fun h => qS h fun h => qu h qrD fun h => qB h fun h => gD h 8 ih.2) fun h => gD h 4 ih.1)
theorem qRk (k a b r) (h : qi8 k a b = some r): qH3 a b r := qN Tryz.f73 (go (qD [qtw k]) [] qEG [.autoB [4] true []] (qB h fun h => gD h 4 (qCp k k).1))
theorem qPd {k a b} (h : (qi8 k a b).isSome): qH3 a b (qmK k a b) := qJ h (qRk k a b)
def qs4 (r : Int × Int) : AV := .tup [ri r.1, ri r.2]
abbrev qBd (a : T3.T) (r : Int × Int) : Prop := CC Tryz.prog 129 [.agg (qy (qr T3 a))] [] (qs4 r) (nb r)
def qar (k : Nat) (a : T3.T) : Option (Int × Int) :=
 bif a.2.2 then
 some (qa .i64 (qa .i64 (a.1 - a.2.1) + 1), a.1)
 else
 some (a.1, qa .i64 (qa .i64 (a.1 + a.2.1) - 1))
def X6 := fun k a => (qar k a).getD (0, 0)
def qoA (k : Nat) : Ke := (129, mo 1, fun
 | [.agg b], [] => (qW [] T3 b).bind fun a => some (.one (qs4 (X6 k a), []))
 | _, _ => none)
theorem qL2 (k a r) (h : qar k a = some r): qBd a r := qN Tryz.f129 (go (qD []) [] [] [.autoB [2, 3] true []] (qB h fun h => gL h))
theorem qoo {k a} (h : (qar k a).isSome): qBd a (X6 k a) := qJ h (qL2 k a)
abbrev qBm (a : List T3.T) (b : List T3.T) (r : Bool) : Prop := CC Tryz.prog 87 [ro T3 a, ro T3 b] [] (rb r) (nb r)
def qBz := fun y0 y1 y2 => (⟨qI 47 [(0, ro T3 y0), (1, ro T3 y1), (5, ri y2)], []⟩ : St)
def qzy := fun y0 y1 y2 y3 => (⟨qI 47 [(0, ro T3 y0), (1, ro T3 y1), (5, ri y2), (6, ri y3)], []⟩ : St)
mutual
def Zi (k : Nat) : Nat → List T3.T → List T3.T → Int → Option Bool
 | 0, _, _, _ => none
 | j + 1, y0, y1, y2 =>
 bif y2 < y0.length then
 V9 k j y0 y1 y2 0
 else
 some false
def V9 (k : Nat) : Nat → List T3.T → List T3.T → Int → Int → Option Bool
 | 0, _, _, _, _ => none
 | j + 1, y0, y1, y2, y3 =>
 bif y3 < y1.length then
 if (0 ≤ y2) ∧ (y2 < y0.length) ∧ ((qar k (y0.getD y2.toNat T3.dflt)).isSome) then
 if (0 ≤ y3) ∧ (y3 < y1.length) ∧ ((qar k (y1.getD y3.toNat T3.dflt)).isSome) then
 bif (decide ((X6 k (y0.getD y2.toNat T3.dflt)).1 ≤ (X6 k (y1.getD y3.toNat T3.dflt)).2) && decide ((X6 k (y1.getD y3.toNat T3.dflt)).1 ≤ (X6 k (y0.getD y2.toNat T3.dflt)).2)) then
 some true
 else
 V9 k j y0 y1 y2 (qa .i64 (y3 + 1))
 else none
 else none
 else
 Zi k j y0 y1 (qa .i64 (y2 + 1))
end
def qeJ (k : Nat) (a : List T3.T) (b : List T3.T) : Option Bool :=
 Zi k k a b 0
def qhH := fun k a b => (qeJ k a b).getD false
def qMH (k : Nat) : Ke := (87, mo 2, fun
 | [.r (.ro f d), .r (.ro i e)], [] => (qE f T3 d).bind fun a => (qE i T3 e).bind fun b => some (.one (rb (qhH k a b), []))
 | _, _ => none)
def qwY : List (Nat × List Cmd) := [(2, [.autoB [0, 1, 5] false []]), (5, [.autoB [0, 1, 5, 6] false []])]
abbrev qzU := EP Tryz.f87 0 rb nb
theorem qwc (k) : ∀ j, (∀ {y0 y1 y2}, qzU 2 (qBz y0 y1 y2) (Zi k j y0 y1 y2)) ∧ (∀ {y0 y1 y2 y3}, qzU 5 (qzy y0 y1 y2 y3) (V9 k j y0 y1 y2 y3))
 | 0 => by and_intros <;> intros <;> exact e0
 | j + 1 => by
  have ih := @qwc k j
  have g := @go (qD [qoA k]) [] qwY [.autoB [4] true []]
  refine ⟨?_, ?_⟩
  ·intro y0 y1 y2 r h
   rw [Zi] at h
   exact g (gS h (fun h => gD h 5 ih.2) fun h => gL h)
  ·intro y0 y1 y2 y3 r h
   rw [V9] at h
   exact g (gS h (fun h => gN h (fun q => qf q.1 (qf q.2.1 (qf (qoo q.2.2) qR))) fun h => gN h (fun q => qf q.1 (qf q.2.1 (qf (qoo q.2.2) qR))) fun h => qB h fun h => gD h 5 ih.2) fun h => gD h 2 ih.1)
theorem qMC (k a b r) (h : qeJ k a b = some r): qBm a b r := qN Tryz.f87 (go (qD [qoA k]) [] qwY [.autoB [4] true []] (gD h 2 (qwc k k).1))
theorem qLd {k a b} (h : (qeJ k a b).isSome): qBm a b (qhH k a b) := qJ h (qMC k a b)
abbrev qBD (a : List T5.T) (b : Int) (d : Int) (r : Int) : Prop := CC Tryz.prog 46 [ro T5 a, ri b, ri d] [] (ri r) (nb r)
def qz4 := fun y0 y1 y2 y3 => (⟨qI 21 [(0, ro T5 y0), (1, ri y1), (2, ri y2), (7, ri y3)], []⟩ : St)
def Zq (k : Nat) : Nat → List T5.T → Int → Int → Int → Option Int
 | 0, _, _, _, _ => none
 | j + 1, y0, y1, y2, y3 =>
 bif y3 < y1 then
 if (0 ≤ y3) ∧ (y3 < y0.length) then
 bif ((y0.getD y3.toNat T5.dflt).1 == y2) then
 some y3
 else
 Zq k j y0 y1 y2 (qa .i64 (y3 + 1))
 else none
 else
 some (-1)
def Vu (k : Nat) (a : List T5.T) (b : Int) (d : Int) : Option Int :=
 Zq k k a b d 0
def wa := fun k a b d => (Vu k a b d).getD 0
def qjr (k : Nat) : Ke := (46, mo 3, fun
 | [.r (.ro f e), .r (.v (.int .i64 b)), .r (.v (.int .i64 d))], [] => (qE f T5 e).bind fun a => some (.one (ri (wa k a b d), []))
 | _, _ => none)
def qvs : List (Nat × List Cmd) := [(2, [.autoB [0, 1, 2, 7] false []])]
abbrev qN5 := EP Tryz.f46 0 ri nb
theorem qvj (k) : ∀ j, (∀ y0 y1 y2 y3, qN5 2 (qz4 y0 y1 y2 y3) (Zq k j y0 y1 y2 y3))
 | 0 => by intros; exact e0
 | j + 1 => by
  have ih := @qvj k j
  ·intro y0 y1 y2 y3 r h
   rw [Zq] at h
   exact go (qD []) [] qvs [.autoB [6] true []] (gS h (fun h => qS h fun h => qB h fun h => gC h 2 (ih _ _ _ _ _)) fun h => gL h)
theorem qMe (k a b d r) (h : Vu k a b d = some r): qBD a b d r := qN Tryz.f46 (go (qD []) [] qvs [.autoB [6] true []] (gC h 2 ((qvj k k) _ _ _ _ _)))
theorem qjw {k a b d} (h : (Vu k a b d).isSome): qBD a b d (wa k a b d) := qJ h (qMe k a b d)
abbrev qzP (a : List T3.T) (r : Int) : Prop := CC Tryz.prog 43 [ro T3 a] [] (ri r) (nb r)
def qzo := fun y0 y1 y2 => (⟨qI 19 [(0, ro T3 y0), (3, ri y1), (4, ri y2)], []⟩ : St)
def Yz (k : Nat) : Nat → List T3.T → Int → Int → Option Int
 | 0, _, _, _ => none
 | j + 1, y0, y1, y2 =>
 bif y2 < y0.length then
 if (0 ≤ y2) ∧ (y2 < y0.length) then
 Yz k j y0 (qa .i64 (y1 + (y0.getD y2.toNat T3.dflt).2.1)) (qa .i64 (y2 + 1))
 else none
 else
 some y1
def qaj (k : Nat) (a : List T3.T) : Option Int :=
 Yz k k a 0 0
def Vx := fun k a => (qaj k a).getD 0
def qom (k : Nat) : Ke := (43, mo 1, fun
 | [.r (.ro d b)], [] => (qE d T3 b).bind fun a => some (.one (ri (Vx k a), []))
 | _, _ => none)
def qu3 : List (Nat × List Cmd) := [(3, [.autoB [0, 3, 4] false []])]
abbrev qNZ := EP Tryz.f43 0 ri nb
theorem qwV (k) : ∀ j, (∀ y0 y1 y2, qNZ 3 (qzo y0 y1 y2) (Yz k j y0 y1 y2))
 | 0 => by intros; exact e0
 | j + 1 => by
  have ih := @qwV k j
  ·intro y0 y1 y2 r h
   rw [Yz] at h
   exact go (qD []) [] qu3 [.autoB [2] true []] (gS h (fun h => qS h fun h => gC h 3 (ih _ _ _ _)) fun h => gL h)
theorem qJI (k a r) (h : qaj k a = some r): qzP a r := qN Tryz.f43 (go (qD []) [] qu3 [.autoB [2] true []] (gC h 3 ((qwV k k) _ _ _ _)))
theorem qnR {k a} (h : (qaj k a).isSome): qzP a (Vx k a) := qJ h (qJI k a)
def qxp (r : Int × Int) : AV := .tup [ri r.1, ri r.2]
abbrev qIU (a : List T3.T) (r : Int × Int) : Prop := CC Tryz.prog 122 [ro T3 a] [] (qxp r) (nb r)
def qa4 (k : Nat) (a : List T3.T) : Option (Int × Int) :=
 if ((Ve k a).isSome) then
 bif (vE k a != (0 : Int)) then
 some (0, vE k a)
 else
 if ((qcG k a).isSome) then
 some (qfL k a, 0)
 else none
 else none
def XK := fun k a => (qa4 k a).getD (0, 0)
def qsC (k : Nat) : Ke := (122, mo 1, fun
 | [.r (.ro d b)], [] => (qE d T3 b).bind fun a => some (.one (qxp (XK k a), []))
 | _, _ => none)
theorem qQF (k a r) (h : qa4 k a = some r): qIU a r := qN Tryz.f122 (go (qD [qcq k, qsR k]) [] [] [.autoB [2, 3] true []] (qu h qcl fun h => qB h fun h => qu h qtT fun h => gL h))
theorem que {k a} (h : (qa4 k a).isSome): qIU a (XK k a) := qJ h (qQF k a)
end
theorem w9 {α : Type} (l : List α) (i : Nat) (d : α) (h : i < l.length) : l.getD i d ∈ l := by simp [h]
theorem Yi {α : Type} (p t : List α) (i : Nat) (d : α) (h : i < p.length) : (p ++ t).getD i d = p.getD i d := by simp [List.getElem?_append_left h]
theorem qGd {α : Type} (p : List α) (i : Nat) (d e : α) (h : i < p.length) : p.getD i d = p.getD i e := by simp [h]
theorem XU (k : Nat) (r : Rn) (h : good r) : qdm k r = some (lo r, Go.AM.hi r) := by
 obtain ⟨h1, h2, h3, h4, h5, h6⟩ := h
 unfold qdm lo Go.AM.hi
 cases hb : r.2.2
 ·have := h6 hb
  rw [qg, qo (i := r.1 + r.2.1) (by omega) (by omega), qo (by omega) (by omega)]; rfl
 ·have := h5 hb
  rw [qi, qo (i := r.1 - r.2.1) (by omega) (by omega), qo (by omega) (by omega)]; rfl
theorem qbv (k : Nat) (r : Rn) (h : good r) : qaW k r = (lo r, Go.AM.hi r) := by
 unfold qaW; rw [XU k r h]; rfl
theorem XA (k : Nat) (r : Rn) (h : good r) : qar k r = some (lo r, Go.AM.hi r) := by
 obtain ⟨h1, h2, h3, h4, h5, h6⟩ := h
 unfold qar lo Go.AM.hi
 cases hb : r.2.2
 ·have := h6 hb
  rw [qg, qo (i := r.1 + r.2.1) (by omega) (by omega), qo (by omega) (by omega)]; rfl
 ·have := h5 hb
  rw [qi, qo (i := r.1 - r.2.1) (by omega) (by omega), qo (by omega) (by omega)]; rfl
theorem qcd (k : Nat) (r : Rn) (h : good r) : X6 k r = (lo r, Go.AM.hi r) := by
 unfold X6; rw [XA k r h]; rfl
def ZX (x y : Rn) : Bool := decide (lo x ≤ Go.AM.hi y) && decide (lo y ≤ Go.AM.hi x)
theorem qgp (a b : List Rn) : VJ a b = a.any fun x => b.any fun y => ZX x y := rfl
theorem qqm (k : Nat) (x : Rn) (a : List Rn) (la i : Int) (c : Ch) (m : List Rn) (hm : goods m) (hl : m.length ≤ 256) : ∀ (d q n : Nat), q + d = m.length →
  YL k (n + d + 1) (lo x) (Go.AM.hi x) a la i m (m.length : Int) (q : Int) c = if (m.drop q).any (ZX x) = true then some true else Xk k n a la (qa .i64 (i + 1)) c := by
 intro d
 induction d with
 | zero =>
  intro q n hq
  rw [YL, qx (by omega : ¬ (q : Int) < (m.length : Int)), qg, qh (by omega), List.any_nil, qm (by decide)]
 | succ d ih =>
  intro q n hq
  have hg : good (m.getD q T3.dflt) := hm.mem _ (w9 _ _ _ (by omega))
  rw [show n + (d + 1) + 1 = (n + d + 1) + 1 from rfl, YL, qA (by omega : (q : Int) < (m.length : Int)), qi, qd ⟨by omega, by omega⟩, qc, XU k _ hg, qbv k _ hg, qb, qd rfl, qq m q T3.dflt (by omega), List.any_cons, qF q (by omega), ih (q + 1) n (by omega)]
  show (bif ZX x (m.getD q T3.dflt) then _ else _) = _
  cases ZX x (m.getD q T3.dflt)
  ·rw [qg, zn]
  ·rw [qi, zX, qd rfl]
set_option maxRecDepth 20000 in
theorem qqI (k : Nat) (a : List Rn) (ha : goods a) (hl : a.length ≤ 256) (c : Ch) (hc : goods c.2.2.2) (hcl : c.2.2.2.length ≤ 256) : ∀ (d i j : Nat), i + d = a.length → d * 258 < j →
  Xk k j a (a.length : Int) (i : Int) c = some (VJ (a.drop i) c.2.2.2) := by
 intro d
 induction d with
 | zero =>
  intro i j hi hj
  obtain ⟨j, rfl⟩ := qQ (by omega : 0 < j)
  rw [Xk, qx (by omega : ¬ (i : Int) < (a.length : Int)), qg, qh (by omega)]
  rfl
 | succ d ih =>
  intro i j hi hj
  obtain ⟨j, rfl⟩ : ∃ q, j = (q + c.2.2.2.length + 1) + 1 := ⟨j - c.2.2.2.length - 2, by omega⟩
  have hg : good (a.getD i T3.dflt) := ha.mem _ (w9 _ _ _ (by omega))
  have h8 := qqm k (a.getD i T3.dflt) a (a.length : Int) (i : Int) c c.2.2.2 hc hcl c.2.2.2.length 0 j (by omega)
  rw [Xk, qA (by omega : (i : Int) < (a.length : Int)), qi, qd ⟨by omega, by omega⟩, qc, XU k _ hg, qbv k _ hg, qb, qd rfl, qq a i T3.dflt (by omega), qgp, List.any_cons]
  refine (h8.trans ?_)
  rw [wm, qF i (by omega), ih (i + 1) j (by omega) (by omega), qgp]
  by_cases h : (c.2.2.2.any (ZX (a.getD i T3.dflt))) = true
  ·rw [qd h, show (c.2.2.2.any fun y => ZX (a.getD i T3.dflt) y) = true from h, zX]
  ·rw [qm h, show (c.2.2.2.any fun y => ZX (a.getD i T3.dflt) y) = false from by simpa using h, zn]
structure Small (c : Ch) : Prop where
 l0 : 0 ≤ c.1
 w0 : 1 ≤ c.2.1
 r0 : c.1 + c.2.1 ≤ 12000
 chk : Chk c.2.2.2
theorem qg0 (k : Nat) (hk : 70000 ≤ k) (a b : Ch) (ha : Small a) (hb : Small b) : qi8 k a b = some (VV a b) := by
 obtain ⟨a1, a2, a3, a4⟩ := ha
 obtain ⟨b1, b2, b3, b4⟩ := hb
 unfold qi8 VV
 rw [qo (i := a.1 + a.2.1) (by omega) (by omega), qo (i := b.1 + b.2.1) (by omega) (by omega)]
 by_cases h1 : a.1 + a.2.1 ≤ b.1
 ·rw [qA h1, zX, qi, qx (by omega : ¬ b.1 < a.1 + a.2.1), qHb, wD]
 ·by_cases h2 : b.1 + b.2.1 ≤ a.1
  ·rw [qA h2, Bool.or_true, qi, qx (by omega : ¬ a.1 < b.1 + b.2.1), wD, wD]
  ·rw [qx h1, qx h2, Bool.or_false, qg, qA (by omega : b.1 < a.1 + a.2.1), qA (by omega : a.1 < b.1 + b.2.1), Bool.and_true, ww]
   have h1 := a4.len
   exact qqI k a.2.2.2 a4.goods h1 b b4.goods b4.len a.2.2.2.length 0 k (by omega) (by omega)
theorem qqJ (k : Nat) (hk : 70000 ≤ k) (a b : Ch) (ha : Small a) (hb : Small b) : qmK k a b = VV a b := by
 unfold qmK; rw [qg0 k hk a b ha hb]; rfl
theorem qsF (k : Nat) (a m : List Rn) (ha : goods a) (i : Nat) (hi : i < a.length) (hm : goods m) (hl : m.length ≤ 256) : ∀ (d q n : Nat), q + d = m.length →
  V9 k (n + d + 1) a m (i : Int) (q : Int) = if (m.drop q).any (ZX (a.getD i T3.dflt)) = true then some true else Zi k n a m (qa .i64 ((i : Int) + 1)) := by
 intro d
 have hx : good (a.getD i T3.dflt) := ha.mem _ (w9 _ _ _ (by omega))
 induction d with
 | zero =>
  intro q n hq
  rw [V9, qx (by omega : ¬ (q : Int) < (m.length : Int)), qg, qh (by omega), List.any_nil, qm (by decide)]
 | succ d ih =>
  intro q n hq
  have hg : good (m.getD q T3.dflt) := hm.mem _ (w9 _ _ _ (by omega))
  rw [show n + (d + 1) + 1 = (n + d + 1) + 1 from rfl, V9, qA (by omega : (q : Int) < (m.length : Int)), qi, qc, qc, XA k _ hx, qcd k _ hx, XA k _ hg, qcd k _ hg, qd ⟨by omega, by omega, rfl⟩, qd ⟨by omega, by omega, rfl⟩, qq m q T3.dflt (by omega), List.any_cons, qF q (by omega), ih (q + 1) n (by omega)]
  show (bif ZX (a.getD i T3.dflt) (m.getD q T3.dflt) then _ else _) = _
  cases ZX (a.getD i T3.dflt) (m.getD q T3.dflt)
  ·rw [qg, zn]
  ·rw [qi, zX, qd rfl]
set_option maxRecDepth 20000 in
theorem qtN (k : Nat) (a m : List Rn) (ha : goods a) (hl : a.length ≤ 256) (hm : goods m) (hml : m.length ≤ 256) : ∀ (d i j : Nat), i + d = a.length → d * 258 < j →
  Zi k j a m (i : Int) = some (VJ (a.drop i) m) := by
 intro d
 induction d with
 | zero =>
  intro i j hi hj
  obtain ⟨j, rfl⟩ := qQ (by omega : 0 < j)
  rw [Zi, qx (by omega : ¬ (i : Int) < (a.length : Int)), qg, qh (by omega)]
  rfl
 | succ d ih =>
  intro i j hi hj
  obtain ⟨j, rfl⟩ : ∃ q, j = (q + m.length + 1) + 1 := ⟨j - m.length - 2, by omega⟩
  have h8 := qsF k a m ha i (by omega) hm hml m.length 0 j (by omega)
  rw [Zi, qA (by omega : (i : Int) < (a.length : Int)), qi, qq a i T3.dflt (by omega), qgp, List.any_cons]
  refine (h8.trans ?_)
  rw [wm, qF i (by omega), ih (i + 1) j (by omega) (by omega), qgp]
  by_cases h : (m.any (ZX (a.getD i T3.dflt))) = true
  ·rw [qd h, show (m.any fun y => ZX (a.getD i T3.dflt) y) = true from h, zX]
  ·rw [qm h, show (m.any fun y => ZX (a.getD i T3.dflt) y) = false from by simpa using h, zn]
theorem qh6 (k : Nat) (hk : 70000 ≤ k) (a b : List Rn) (ha : Chk a) (hb : Chk b) : qeJ k a b = some (VJ a b) := by
 unfold qeJ
 have h1 := ha.len
 exact qtN k a b ha.goods h1 hb.goods hb.len a.length 0 k (by omega) (by omega)
theorem qsI (k : Nat) (hk : 70000 ≤ k) (a b : List Rn) (ha : Chk a) (hb : Chk b) : qhH k a b = VJ a b := by
 unfold qhH; rw [qh6 k hk a b ha hb]; rfl
theorem qbY (k : Nat) (hk : 2100 ≤ k) (m : List Rn) (h : Chk m) : qa4 k m = some (qv m, 0) := by
 have h1 := h.len
 unfold qa4
 rw [QT k (by omega), W0 k (by omega), qb, qd rfl, wW.2 h]
 show (if _ then _ else _) = _
 rw [X5 k m h.goods (by omega) (by omega), qcx k m h.goods (by omega) (by omega)]
 rfl
theorem qhn (k : Nat) (hk : 2100 ≤ k) (m : List Rn) (h : Chk m) : XK k m = (qv m, 0) := by
 unfold XK; rw [qbY k hk m h]; rfl
theorem qrA (k : Nat) (m : List Rn) (hg : goods m) (hm : m.length ≤ 1000) : ∀ (j i : Nat) (n : Int), i ≤ m.length → m.length - i < j → 0 ≤ n → n ≤ (i : Int) * 17179869184 →
  Yz k j m n (i : Int) = some (n + qv (m.drop i)) := by
 intro j
 induction j with
 | zero => intros; omega
 | succ j ih =>
  intro i n hi hj h0 h1
  rw [Yz]
  by_cases h : i < m.length
  ·have hgr : good (m.getD i T3.dflt) := hg.mem _ (w9 _ _ _ (by omega))
   obtain ⟨g1, g2, g3, g4, _⟩ := hgr
   rw [qA (by omega : (i : Int) < (m.length : Int)), qi, qd ⟨by omega, by omega⟩, qc, qF i (by omega), qo (by omega) (by omega), ih (i + 1) _ (by omega) (by omega) (by omega) (by omega), qq m i T3.dflt h, qv, Int.add_assoc]
  ·rw [qx (by omega : ¬ (i : Int) < (m.length : Int)), qg, qh (by omega), qv, Int.add_zero]
theorem XQ (k : Nat) (hk : 2100 ≤ k) (m : List Rn) (h : Chk m) : qaj k m = some (qv m) := by
 have h1 := h.len
 unfold qaj
 refine (qrA k m h.goods (by omega) k 0 0 (by omega) (by omega) (by omega) (by omega)).trans ?_
 rw [wm, Int.zero_add]
theorem qbG (k : Nat) (hk : 2100 ≤ k) (m : List Rn) (h : Chk m) : Vx k m = qv m := by
 unfold Vx; rw [XQ k hk m h]; rfl
def At (p : List Ro) (id : Int) (i : Option Int) : Prop := match look p id with
 | none => i = none
 | some r => ∃ q : Nat, i = some (q : Int) ∧ q < p.length ∧ ∀ d, p.getD q d = r
theorem At.none {p : List Ro} {id : Int} {i : Option Int} (h : At p id i) (e : look p id = .none) : i = .none := by
 unfold At at h; rw [e] at h; exact h
theorem At.some {p : List Ro} {id : Int} {i : Option Int} {r : Ro} (h : At p id i) (e : look p id = .some r) : ∃ q : Nat, i = .some (q : Int) ∧ q < p.length ∧ ∀ d, p.getD q d = r := by
 unfold At at h; rw [e] at h; exact h
theorem qpr (id v : Int) (x : Int) : ∀ M : List (Int × Int), wd I x (vw I id v M) = if x = id then some v else wd I x M
 | [] => by
  show (bif (x == id) then some v else none) = _
  by_cases h : x = id
  ·rw [show (x == id) = true by simp [h], qd h]; rfl
  ·rw [show (x == id) = false by simp [h], qm h]; rfl
 | p :: t => by
  unfold vw
  by_cases h : id = p.1
  ·rw [show VB I id p.1 = true from by show (id == p.1) = true; simp [h], qi]
   show (bif (x == id) then some v else wd I x t) = _
   by_cases h2 : x = id
   ·simp [h2]
   ·rw [qm h2, show (x == id) = false by simp [h2], qg, wd, show VB I x p.1 = false from by show (x == p.1) = false; rw [← h]; simp [h2], qg]
  ·rw [show VB I id p.1 = false from by show (id == p.1) = false; simp [h], qg, wd, qpr id v x t]
   show (bif (x == p.1) then some p.2 else _) = if _ then _ else (bif (x == p.1) then some p.2 else _)
   by_cases h2 : x = id
   ·rw [qd h2, qd h2, show (x == p.1) = false by rw [h2]; simp [h], qg]
   ·rw [qm h2, qm h2]
def Qo (M : List (Int × Int)) (p : List Ro) : Prop := ∀ id, At p id (wd I id M)
theorem qzs : Qo [] [] := fun id => by unfold At look; rfl
theorem qzC {M : List (Int × Int)} {p : List Ro} (h : Qo M p) (r : Ro) (hr : (look p r.1).isSome = true) : Qo M (p ++ [r]) := fun id => by
 have h1 := h id
 unfold At at *
 rw [QU]
 cases e : look p id with
 | some q =>
  rw [e] at h1
  obtain ⟨i, h2, h3, h4⟩ := h1
  exact ⟨i, h2, by rw [qn]; omega, fun d => by rw [Yi _ _ _ _ h3]; exact h4 d⟩
 | none =>
  rw [e] at h1
  have : r.1 ≠ id := fun e2 => by rw [e2, e] at hr; cases hr
  rw [Option.none_or, show look [r] id = none by unfold look; simp [this]]
  exact h1
theorem qD4 {M : List (Int × Int)} {p : List Ro} (h : Qo M p) (r : Ro) (hr : look p r.1 = none) : Qo (vw I r.1 (p.length : Int) M) (p ++ [r]) := fun id => by
 have h1 := h id
 rw [qpr]
 unfold At at *
 rw [QU]
 by_cases hi : id = r.1
 ·rw [qd hi, hi, hr, Option.none_or, show look [r] r.1 = some r by unfold look; simp]
  exact ⟨p.length, rfl, by simp, fun d => by simp⟩
 ·rw [qm hi]
  cases e : look p id with
  | some q =>
   rw [e] at h1
   obtain ⟨i, h2, h3, h4⟩ := h1
   exact ⟨i, h2, by rw [qn]; omega, fun d => by rw [Yi _ _ _ _ h3]; exact h4 d⟩
  | none =>
   rw [e] at h1
   rw [Option.none_or, show look [r] id = none by unfold look; simp [Ne.symm hi]]
   exact h1
theorem qqE (k : Nat) (p t : List Ro) (id : Int) (hp : p.length ≤ 100000) : ∀ (d i j : Nat), i + d = p.length → d < j → look (p.take i) id = none →
  ∃ o : Option Int, Zq k j (p ++ t) (p.length : Int) id (i : Int) = some (o.getD (-1)) ∧ At p id o := by
 intro d
 induction d with
 | zero =>
  intro i j hi hj hn
  obtain ⟨j, rfl⟩ := qQ (by omega : 0 < j)
  rw [Zq, qx (by omega : ¬ (i : Int) < (p.length : Int)), qg]
  rw [wI (by omega)] at hn
  exact ⟨none, rfl, by unfold At; rw [hn]⟩
 | succ d ih =>
  intro i j hi hj hn
  obtain ⟨j, rfl⟩ := qQ (by omega : 0 < j)
  have hl : (p ++ t).length = p.length + t.length := qn
  rw [Zq, qA (by omega : (i : Int) < (p.length : Int)), qi, qd ⟨by omega, by omega⟩, qc, Yi _ _ _ _ (by omega)]
  have ht := wR p i T5.dflt (by omega)
  by_cases h : (p.getD i T5.dflt).1 = id
  ·rw [show ((p.getD i T5.dflt).fst == id) = true from beq_iff_eq.2 h, qi]
   refine ⟨some (i : Int), rfl, ?_⟩
   have e : look p id = some (p.getD i T5.dflt) := by
    have e2 : look (p.drop i) id = some (p.getD i T5.dflt) := by
     rw [qq p i T5.dflt (by omega)]
     unfold look
     rw [List.find?_cons_of_pos (by exact beq_iff_eq.2 h)]
    have e3 := QU (p.take i) (p.drop i) id
    rw [qnA, hn, Option.none_or, e2] at e3
    exact e3
   unfold At
   rw [e]
   exact ⟨i, rfl, by omega, fun d => qGd _ _ _ _ (by omega)⟩
  ·rw [show ((p.getD i T5.dflt).fst == id) = false from beq_false_of_ne h, qg, qF i (by omega)]
   refine ih (i + 1) j (by omega) (by omega) ?_
   rw [ht, QU, hn, Option.none_or]
   unfold look
   simp only [List.find?_cons, List.find?_nil]
   rw [show ((p.getD i T5.dflt).1 == id) = false from beq_false_of_ne h]
theorem qaO (k : Nat) (p t : List Ro) (id : Int) (hp : p.length ≤ 100000) (hk : p.length < k) : ∃ o : Option Int, Vu k (p ++ t) (p.length : Int) id = some (o.getD (-1)) ∧ wa k (p ++ t) (p.length : Int) id = o.getD (-1) ∧ At p id o := by
 obtain ⟨o, h1, h2⟩ := qqE k p t id hp p.length 0 k (by omega) (by omega) (by unfold look; rfl)
 exact ⟨o, h1, by unfold wa Vu; rw [show Zq k k (p ++ t) (p.length : Int) id 0 = _ from h1]; rfl, h2⟩
end Go.AM
namespace Go.AM
open Go Go.Proofs
noncomputable section
def qz7 (a : Int) (b : Int) (d : List T5.T) (e : List (I.T × I.T)) (f : Int) (r : Bool) : List (Nat × Blk) := [(0, .var 135 [ri a, ri b, ro T5 d, .own 1 0]), (0, .map false I I e)]
abbrev qIu (a : Int) (b : Int) (d : List T5.T) (e : List (I.T × I.T)) (f : Int) (r : Bool) : Prop := CC Tryz.prog 72 [.ptr 0 0 0, ri f] [.var 135 [ri a, ri b, ro T5 d, .own 1 0], .map false I I e] (rb r) (qz7 a b d e f r)
def X0 (k : Nat) (a : Int) (b : Int) (d : List T5.T) (e : List (I.T × I.T)) (f : Int) : Option Bool :=
 some ((wd I f e).isSome)
def Wz := fun k a b d e f => (X0 k a b d e f).getD false
def qrP (k : Nat) : Ke := (72, fun
 | [.ptr _ _ _, _] => some [true, false]
 | _ => none, fun
 | [.ptr 0 0 0, .r (.v (.int .i64 f))], [.var 135 [.r (.v (.int .i64 a)), .r (.v (.int .i64 b)), .r (.ro tg_2_ qg_2), .own 1 0], .map false kg_3_ tg_3_ qg_3] => (qE tg_2_ T5 qg_2).bind fun d => (qlQ kg_3_ tg_3_ I I qg_3).bind fun e => some (.one (rb (Wz k a b d e f), qz7 a b d e f (Wz k a b d e f)))
 | _, _ => none)
theorem qPR (k a b d e f r) (h : X0 k a b d e f = some r): qIu a b d e f r := qN Tryz.f72 (go (qD []) [] [] [.autoB [4] true []] (gL h))
theorem qrW {k a b d e f} (h : (X0 k a b d e f).isSome): qIu a b d e f (Wz k a b d e f) := qJ h (qPR k a b d e f)
def qwu (r : Int × Int) : AV := .tup [ri r.1, ri r.2]
def qD2 (a : Int) (b : Int) (d : List T5.T) (e : List (I.T × I.T)) (f : Int) (r : Int × Int) : List (Nat × Blk) := [(0, .var 135 [ri a, ri b, ro T5 d, .own 1 0]), (0, .map false I I e)]
abbrev qJg (a : Int) (b : Int) (d : List T5.T) (e : List (I.T × I.T)) (f : Int) (r : Int × Int) : Prop := CC Tryz.prog 118 [.ptr 0 0 0, ri f] [.var 135 [ri a, ri b, ro T5 d, .own 1 0], .map false I I e] (qwu r) (qD2 a b d e f r)
def qfr (k : Nat) (a : Int) (b : Int) (d : List T5.T) (e : List (I.T × I.T)) (f : Int) : Option (Int × Int) :=
 bif (f == 0) then
 some (a, b)
 else
 if ((0 : Int) ≤ (wd I f e).getD (0 : Int)) ∧ ((wd I f e).getD (0 : Int) < (↑d.length : Int)) then
 if ((qa4 k (d.getD (qt ((wd I f e).getD 0)) T5.dflt).2.2.2.2.2).isSome) then
 some ((d.getD (qt ((wd I f e).getD 0)) T5.dflt).2.2.2.1, (XK k (d.getD (qt ((wd I f e).getD 0)) T5.dflt).2.2.2.2.2).1)
 else none
 else none
def XR := fun k a b d e f => (qfr k a b d e f).getD (0, 0)
def qOB (k : Nat) : Ke := (118, fun
 | [.ptr _ _ _, _] => some [true, false]
 | _ => none, fun
 | [.ptr 0 0 0, .r (.v (.int .i64 f))], [.var 135 [.r (.v (.int .i64 a)), .r (.v (.int .i64 b)), .r (.ro tg_2_ qg_2), .own 1 0], .map false kg_3_ tg_3_ qg_3] => (qE tg_2_ T5 qg_2).bind fun d => (qlQ kg_3_ tg_3_ I I qg_3).bind fun e => some (.one (qwu (XR k a b d e f), qD2 a b d e f (XR k a b d e f)))
 | _, _ => none)
theorem qRt (k a b d e f r) (h : qfr k a b d e f = some r): qJg a b d e f r := qN Tryz.f118 (go (qD [qsC k]) [] [] [.autoB [4, 5] true []] (qB h fun h => qS h fun h => qu h que fun h => gL h))
theorem qBS {k a b d e f} (h : (qfr k a b d e f).isSome): qJg a b d e f (XR k a b d e f) := qJ h (qRt k a b d e f)
def qtA (a : Int) (b : Int) (d : List T5.T) (e : List (I.T × I.T)) (f : T5.T) (r : Int) : List (Nat × Blk) := [(0, .var 135 [ri a, ri b, ro T5 d, .own 1 0]), (0, .map false I I e)]
abbrev qH1 (a : Int) (b : Int) (d : List T5.T) (e : List (I.T × I.T)) (f : T5.T) (r : Int) : Prop := CC Tryz.prog 71 [.ptr 0 0 0, .agg (qy (qr T5 f))] [.var 135 [ri a, ri b, ro T5 d, .own 1 0], .map false I I e] (ri r) (qtA a b d e f r)
def qEc := fun a b d e (f : T5.T) y0 y1 y2 y3 => (⟨qI 93 [(6, ri y0), (78, ro T3 y1), (79, ri y2), (80, ri y3)], [(0, 0, .var 135 [ri a, ri b, ro T5 d, .own 1 0]), (1, 0, .map false I I e)]⟩ : St)
def WK (k : Nat) (a : Int) (b : Int) (d : List T5.T) (e : List (I.T × I.T)) (f : T5.T) : Nat → Int → List T3.T → Int → Int → Option Int
 | 0, _, _, _, _ => none
 | j + 1, y0, y1, y2, y3 =>
 bif y3 < y2 then
 if (0 ≤ y3) ∧ (y3 < y1.length) then
 if ((qdm k (y1.getD y3.toNat T3.dflt)).isSome) then
 bif (qaW k (y1.getD y3.toNat T3.dflt)).2 ≥ y0 then
 some 21
 else
 WK k a b d e f j y0 y1 y2 (qa .i64 (y3 + 1))
 else none
 else none
 else
 some 0
def qj3 (k : Nat) (a : Int) (b : Int) (d : List T5.T) (e : List (I.T × I.T)) (f : T5.T) : Option Int :=
 bif (decide (f.1 < (1 : Int)) || decide (f.1 > (1000000 : Int))) then
 some 1
 else
 bif (f.2.1 != (0 : Int)) then
 if ((f.2.1 != (0 : Int)) = true) ∧ ((X0 k a b d e f.2.1).isSome) then
 bif (true && (!Wz k a b d e f.2.1)) then
 some 7
 else
 if ((qfr k a b d e f.2.1).isSome) then
 bif (decide (f.2.2.1 < (0 : Int)) || decide (f.2.2.2.1 < (1 : Int)) || decide (f.2.2.1 > (XR k a b d e f.2.1).1) || decide (f.2.2.2.1 > qa .i64 ((XR k a b d e f.2.1).1 - f.2.2.1))) then
 some 20
 else
 if ((Ve k f.2.2.2.2.2).isSome) then
 bif (vE k f.2.2.2.2.2 != (0 : Int)) then
 some (vE k f.2.2.2.2.2)
 else
 bif ((↑ (qe f.2.2.2.2.2) : Int) == (0 : Int)) then
 some 10
 else
 if ((qc7 k f.2.2.2.2.2).isSome) then
 bif (!qgB k f.2.2.2.2.2) then
 some 12
 else
 WK k a b d e f k ((XR k a b d e f.2.1).2) f.2.2.2.2.2 (↑ (qe f.2.2.2.2.2) : Int) 0
 else none
 else none
 else none
 else none
 else
 if ((f.2.1 != (0 : Int)) = false) then
 if ((qfr k a b d e f.2.1).isSome) then
 bif (decide (f.2.2.1 < (0 : Int)) || decide (f.2.2.2.1 < (1 : Int)) || decide (f.2.2.1 > (XR k a b d e f.2.1).1) || decide (f.2.2.2.1 > qa .i64 ((XR k a b d e f.2.1).1 - f.2.2.1))) then
 some 20
 else
 if ((Ve k f.2.2.2.2.2).isSome) then
 bif (vE k f.2.2.2.2.2 != (0 : Int)) then
 some (vE k f.2.2.2.2.2)
 else
 bif ((↑ (qe f.2.2.2.2.2) : Int) == (0 : Int)) then
 some 10
 else
 if ((qc7 k f.2.2.2.2.2).isSome) then
 bif (!qgB k f.2.2.2.2.2) then
 some 12
 else
 WK k a b d e f k ((XR k a b d e f.2.1).2) f.2.2.2.2.2 (↑ (qe f.2.2.2.2.2) : Int) 0
 else none
 else none
 else none
 else none
def qfF := fun k a b d e f => (qj3 k a b d e f).getD 0
def qOK (k : Nat) : Ke := (71, fun
 | [.ptr _ _ _, _] => some [true, false]
 | _ => none, fun
 | [.ptr 0 0 0, .agg g], [.var 135 [.r (.v (.int .i64 a)), .r (.v (.int .i64 b)), .r (.ro tg_2_ qg_2), .own 1 0], .map false kg_3_ tg_3_ qg_3] => (qW [] T5 g).bind fun f => (qE tg_2_ T5 qg_2).bind fun d => (qlQ kg_3_ tg_3_ I I qg_3).bind fun e => some (.one (ri (qfF k a b d e f), qtA a b d e f (qfF k a b d e f)))
 | _, _ => none)
def qHl (k : Nat) : Calld := qD [qrP k, qcq k, qOB k, qOn k, qtw k]
def qC5 : List (Nat × List Cmd) := [(17, [.autoB [6, 78, 79, 80] false []])]
abbrev qR0 := fun a b d e f => EP Tryz.f71 2 ri (qtA a b d e f)
theorem qrV (k a b d e f) : ∀ j, (∀ y0 y1 y2 y3, qR0 a b d e f 17 (qEc a b d e f y0 y1 y2 y3) (WK k a b d e f j y0 y1 y2 y3))
 | 0 => by intros; exact e0
 | j + 1 => by
  have ih := @qrV k a b d e f j
  ·intro y0 y1 y2 y3 r h
   rw [WK] at h
   exact go (qHl k) [] qC5 [.autoB [4] true []] (gS h (fun h => qS h fun h => qu h qrD fun h => qB h fun h => gC h 17 (ih _ _ _ _ _)) fun h => gL h)
theorem qRo (k a b d e f r) (h : qj3 k a b d e f = some r): qH1 a b d e f r := qN Tryz.f71 (go (qHl k) [] qC5 [.autoB [4] true []] (qB h fun h => gS h (fun h => gN h (fun q => qf q.1 (qf (qrW q.2) qR)) fun h => qB h fun h => qu h qBS fun h => qB h fun h => qu h qcl fun h => qB h fun h => qB h fun h => qu h qEW fun h => qB h fun h => gC h 17 ((qrV k a b d e f k) _ _ _ _ _)) fun h => qu h id fun h => gU2 h (.leaf (.r (.v (.int .i64 7))) [(0, .var 135 [.r (.v (.int .i64 a)), .r (.v (.int .i64 b)), .r (.ro T5 d), .own 1 0]), (0, .map false I I e)]) fun h => qu h qBS fun h => qB h fun h => qu h qcl fun h => qB h fun h => qB h fun h => qu h qEW fun h => qB h fun h => gC h 17 ((qrV k a b d e f k) _ _ _ _ _)))
theorem qOy {k a b d e f} (h : (qj3 k a b d e f).isSome): qH1 a b d e f (qfF k a b d e f) := qJ h (qRo k a b d e f)
abbrev qib : Type := Int
def qkP (r : qib) : AV := .tup [.r (.v (Value.pointer none)), .r (.v (.int .i64 r))]
def qpa (b : List T5.T) (d : T19.T) (r : qib) : List (Nat × Blk) := []
abbrev qhK : Type := Int × Int × Int × List T5.T × (List (I.T × I.T))
def qk2 (r : qhK) : AV := .tup [.ptr 0 0 0, .r (.v (.int .i64 r.1))]
def qoZ (b : List T5.T) (d : T19.T) (r : qhK) : List (Nat × Blk) := [(0, .var 135 [.r (.v (.int .i64 r.2.1)), .r (.v (.int .i64 r.2.2.1)), .r (.ro T5 r.2.2.2.1), .own 1 0]), (0, .map false I I r.2.2.2.2)]
abbrev qfP : Type := qib ⊕ qhK
def qvS (r : qfP) : AV := match r with
 | .inl a => qkP a
 | .inr a => qk2 a
def qAG (b : List T5.T) (d : T19.T) (r : qfP) : List (Nat × Blk) := match r with
 | .inl a => qpa b d a
 | .inr a => qoZ b d a
abbrev qq4 (b : List T5.T) (d : T19.T) (r : qfP) : Prop := CC Tryz.prog 31 [ro T5 b, .agg (qy (qr T19 d))] [] (qvS r) (qAG b d r)
abbrev qQr (b : List T5.T) (d : T19.T) (r : qib) : Prop := CC Tryz.prog 31 [.r (.ro T5 b), .agg (qy (qr T19 d))] [] (qkP r) (qpa b d r)
abbrev qQZ (b : List T5.T) (d : T19.T) (r : qhK) : Prop := CC Tryz.prog 31 [.r (.ro T5 b), .agg (qy (qr T19 d))] [] (qk2 r) (qoZ b d r)
def qG6 := fun y0 y1 y2 y3 y4 y5 y6 y7 y8 => (⟨qI 97 [(0, ro T5 y0), (6, .ptr 1000000 0 0), (7, rb y1), (41, ro T5 y2), (42, ri y3), (43, ri y4)], [(1000000, 0, .var 135 [ri y5, ri y6, ro T5 y7, .own 1000001 0]), (1000001, 0, .map false I I y8)]⟩ : St)
def qCy := fun y0 y1 y2 y3 y4 y5 y6 y7 => (⟨qI 97 [(0, ro T5 y0), (6, .ptr 1000000 0 0), (67, ro T5 y1), (68, ri y2), (69, ri y3)], [(1000000, 0, .var 135 [ri y4, ri y5, ro T5 y6, .own 1000001 0]), (1000001, 0, .map false I I y7)]⟩ : St)
def qAY := fun y0 y1 y2 y3 y4 y5 y6 y7 y8 y9 y10 y11 => (⟨qI 97 [(0, ro T5 y0), (6, .ptr 1000000 0 0), (12, .ptr 1000002 0 0), (67, ro T5 y1), (68, ri y2), (69, ri y3), (76, ro T5 y4), (77, ri y5), (78, ri y6)], [(1000000, 0, .var 135 [ri y7, ri y8, ro T5 y9, .own 1000001 0]), (1000001, 0, .map false I I y10), (1000002, 0, .var 47 (qy (qr T5 y11)))]⟩ : St)
mutual
def v8 (k : Nat) : Nat → List T5.T → Bool → List T5.T → Int → Int → Int → Int → List T5.T → (List (I.T × I.T)) → Option qfP
 | 0, _, _, _, _, _, _, _, _, _ => none
 | j + 1, y0, y1, y2, y3, y4, y5, y6, y7, y8 =>
 bif y4 < y3 then
 if (0 ≤ y4) ∧ (y4 < y2.length) then
 if ((qj3 k y5 y6 y7 y8 (y2.getD y4.toNat T5.dflt)).isSome) then
 bif (qfF k y5 y6 y7 y8 (y2.getD y4.toNat T5.dflt) != (0 : Int)) then
 some (.inl (qfF k y5 y6 y7 y8 (y2.getD y4.toNat T5.dflt)))
 else
 if ((X0 k y5 y6 y7 y8 (y2.getD y4.toNat T5.dflt).1).isSome) then
 bif (Wz k y5 y6 y7 y8 (y2.getD y4.toNat T5.dflt).1) then
 v8 k j y0 true y2 y3 (qa .i64 (y4 + 1)) y5 y6 y7 y8
 else
 v8 k j y0 y1 y2 y3 (qa .i64 (y4 + 1)) y5 y6 y7 (vw I (y2.getD y4.toNat T5.dflt).1 y4 y8)
 else none
 else none
 else none
 else
 bif y1 then
 some (.inl 6)
 else
 Zj k j y0 y0 (↑y0.length : Int) 0 y5 y6 y7 y8
def Zj (k : Nat) : Nat → List T5.T → List T5.T → Int → Int → Int → Int → List T5.T → (List (I.T × I.T)) → Option qfP
 | 0, _, _, _, _, _, _, _, _ => none
 | j + 1, y0, y1, y2, y3, y4, y5, y6, y7 =>
 bif y3 < y2 then
 if (0 ≤ y3) ∧ (y3 < y1.length) then
 if ((0 : Int) ≤ (0 : Int)) ∧ (0 ≤ y3) ∧ (y3 ≤ y0.length) then
 Zx k j y0 y1 y2 y3 (qdv (y3.toNat - qt 0) (qaJ (qt 0) y0)) (↑ (qdv (y3.toNat - qt 0) (qaJ (qt 0) y0)).length : Int) 0 y4 y5 y6 y7 (y1.getD y3.toNat T5.dflt)
 else none
 else none
 else
 some (.inr (0, y4, y5, y6, y7))
def Zx (k : Nat) : Nat → List T5.T → List T5.T → Int → Int → List T5.T → Int → Int → Int → Int → List T5.T → (List (I.T × I.T)) → T5.T → Option qfP
 | 0, _, _, _, _, _, _, _, _, _, _, _, _ => none
 | j + 1, y0, y1, y2, y3, y4, y5, y6, y7, y8, y9, y10, y11 =>
 bif y6 < y5 then
 if (0 ≤ y6) ∧ (y6 < y4.length) then
 bif (y11.2.1 == (y4.getD y6.toNat T5.dflt).2.1) then
 if ((y11.2.1 == (y4.getD y6.toNat T5.dflt).2.1) = true) ∧ ((qi8 k y11.2.2 (y4.getD y6.toNat T5.dflt).2.2).isSome) then
 bif (true && qmK k y11.2.2 (y4.getD y6.toNat T5.dflt).2.2) then
 some (.inl 12)
 else
 Zx k j y0 y1 y2 y3 y4 y5 (qa .i64 (y6 + 1)) y7 y8 y9 y10 y11
 else none
 else
 if ((y11.2.1 == (y4.getD y6.toNat T5.dflt).2.1) = false) then
 Zx k j y0 y1 y2 y3 y4 y5 (qa .i64 (y6 + 1)) y7 y8 y9 y10 y11
 else none
 else none
 else
 Zj k j y0 y1 y2 (qa .i64 (y3 + 1)) y7 y8 y9 y10
end
def W9 (k : Nat) (b : List T5.T) (d : T19.T) : Option qfP :=
 bif (decide (d.1 < (1 : Int)) || decide (d.1 > (12000 : Int)) || decide (d.2 < (0 : Int)) || decide (d.2 > (17179869184 : Int))) then
 some (.inl 1)
 else
 bif (↑b.length : Int) > (512 : Int) then
 some (.inl 8)
 else
 v8 k k b false b (↑b.length : Int) 0 d.1 d.2 b ([])
def Y0 := fun k b d => (W9 k b d).getD (.inl 0)
def XX (k : Nat) (b : List T5.T) (d : T19.T) : qib := lft 0 (Y0 k b d)
def w7 (k : Nat) (b : List T5.T) (d : T19.T) : qhK := rgt (0, 0, 0, [], []) (Y0 k b d)
def qCm (k : Nat) : Ke := (31, mo 2, fun
 | [.r (.ro i e), .agg f], [] => (qE i T5 e).bind fun b => (qW [] T19 f).bind fun d => some (.two (Y0 k b d).isLeft (qkP (XX k b d), qpa b d (XX k b d)) (qk2 (w7 k b d), qoZ b d (w7 k b d)))
 | _, _ => none)
def qJj (k : Nat) : Calld := qD [qrP k, qOK k, qQN k]
def qBT : List (Nat × List Cmd) := [(8, [.autoB [0, 6, 7, 41, 42, 43] false []]), (20, [.autoB [0, 6, 67, 68, 69] false []]), (23, [.autoB [0, 6, 12, 67, 68, 69, 76, 77, 78] false []])]
abbrev qy3 := fun b d => EP Tryz.f31 0 qvS (qAG b d)
theorem qzW (k b d) : ∀ j, (∀ {y0 y1 y2 y3 y4 y5 y6 y7 y8}, qy3 b d 8 (qG6 y0 y1 y2 y3 y4 y5 y6 y7 y8) (v8 k j y0 y1 y2 y3 y4 y5 y6 y7 y8)) ∧ (∀ {y0 y1 y2 y3 y4 y5 y6 y7}, qy3 b d 20 (qCy y0 y1 y2 y3 y4 y5 y6 y7) (Zj k j y0 y1 y2 y3 y4 y5 y6 y7)) ∧ (∀ {y0 y1 y2 y3 y4 y5 y6 y7 y8 y9 y10 y11}, qy3 b d 23 (qAY y0 y1 y2 y3 y4 y5 y6 y7 y8 y9 y10 y11) (Zx k j y0 y1 y2 y3 y4 y5 y6 y7 y8 y9 y10 y11))
 | 0 => by and_intros <;> intros <;> exact e0
 | j + 1 => by
  have ih := @qzW k b d j
  have g := @go (qJj k) [] qBT [.autoB [4, 5] true []]
  refine ⟨?_, ?_, ?_⟩
  ·intro y0 y1 y2 y3 y4 y5 y6 y7 y8 r h
   rw [v8] at h
   exact g (gS h (fun h => qS h fun h => qu h qOy fun h => qB h fun h => qu h qrW fun h => gS h (fun h => gD h 8 ih.1) fun h => gD h 8 ih.1) fun h => qB h fun h => gD h 20 ih.2.1)
  ·intro y0 y1 y2 y3 y4 y5 y6 y7 r h
   rw [Zj] at h
   exact g (gS h (fun h => qS h fun h => gN h Xl fun h => gD h 23 ih.2.2) fun h => gL h)
  ·intro y0 y1 y2 y3 y4 y5 y6 y7 y8 y9 y10 y11 r h
   rw [Zx] at h
   exact g (gS h (fun h => qS h fun h => gS h (fun h => gN h (fun q => qf q.1 (qf (qPd q.2) qR)) fun h => qB h fun h => gD h 23 ih.2.2) fun h => qu h id fun h => gU2 h (.leaf (.tup [.r (.v (Value.pointer none)), .r (.v (.int .i64 12))]) []) fun h => gD h 23 ih.2.2) fun h => gD h 20 ih.2.1)
theorem qOm (k b d r) (h : W9 k b d = some r): qq4 b d r := qN Tryz.f31 (go (qJj k) [] qBT [.autoB [4, 5] true []] (qB h fun h => qB h fun h => gD h 8 (qzW k b d k).1))
theorem qzB {k b d} (h : (W9 k b d).isSome): qq4 b d (Y0 k b d) := qJ h (qOm k b d)
theorem qxo {k : Nat} {b : List T5.T} {d : T19.T} (h : (W9 k b d).isSome = true) (hb : (Y0 k b d).isLeft = true) : qQr b d (XX k b d) := qFx (Φ := qq4 b d) (qzB h) hb
theorem qvo {k : Nat} {b : List T5.T} {d : T19.T} (h : (W9 k b d).isSome = true) (hb : (Y0 k b d).isLeft = false) : qQZ b d (w7 k b d) := qF5 (Φ := qq4 b d) (qzB h) hb
abbrev qH5 (a : List T5.T) (b : Int) (d : Int) (r : Int) : Prop := CC Tryz.prog 12 [ro T5 a, ri b, ri d] [] (ri r) (nb r)
def qqX (k : Nat) (a : List T5.T) (b : Int) (d : Int) : Option Int :=
 bif (Sum.isLeft (Y0 k a (b, d))) then
 if ((W9 k a (b, d)).isSome) then
 some (XX k a (b, d))
 else none
 else
 if ((W9 k a (b, d)).isSome) then
 some ((w7 k a (b, d)).1)
 else none
def qjF := fun k a b d => (qqX k a b d).getD 0
def qP8 (k : Nat) : Ke := (12, mo 3, fun
 | [.r (.ro f e), .r (.v (.int .i64 b)), .r (.v (.int .i64 d))], [] => (qE f T5 e).bind fun a => some (.one (ri (qjF k a b d), []))
 | _, _ => none)
theorem qOA (k a b d r) (h : qqX k a b d = some r): qH5 a b d r := qN Tryz.f12 (go (qD [qCm k]) [] [] [.autoB [6] true []] (gT h (fun c h => qu h (fun q => qxo q (by assumption)) fun h => gL h) fun c h => qu h (fun q => qvo q (by assumption)) fun h => gL h))
theorem qPQ {k a b d} (h : (qqX k a b d).isSome): qH5 a b d (qjF k a b d) := qJ h (qOA k a b d)
end
def Wl (p : List Ro) : Prop := ∀ r ∈ p, Small r.2.2
theorem Wl.size {p : List Ro} {W L : Int} (h : Wl p) (hW : 0 ≤ W ∧ W ≤ 12000) (id : Int) : 0 ≤ (wn p W L id).1 ∧ (wn p W L id).1 ≤ 12000 := by
 unfold wn
 by_cases h0 : id = 0
 ·rw [qd h0]; exact hW
 ·rw [qm h0]
  cases e : look p id with
  | none => exact ⟨by decide, by decide⟩
  | some q =>
   obtain ⟨a, b, c, _⟩ := h q (zr e).1
   exact ⟨by show 0 ≤ q.2.2.2.1; omega, by show q.2.2.2.1 ≤ _; omega⟩
theorem Wl.snoc {p : List Ro} {W L : Int} {r : Ro} (h : Wl p) (hW : 0 ≤ W ∧ W ≤ 12000) (f : vF p W L r = 0) : Wl (p ++ [r]) := by
 obtain ⟨_, _, _, c⟩ := qgc.1 f
 obtain ⟨s1, s2⟩ := h.size (L := L) hW r.2.1
 intro q hq
 rcases zW.1 hq with hq | hq
 ·exact h q hq
 ·rw [List.mem_singleton] at hq
  subst hq
  have := c.right
  exact ⟨c.left, c.width, by omega, c.chk⟩
theorem qgd (k : Nat) (hk : 2100 ≤ k) (W L : Int) (p t : List Ro) (M : List (Int × Int)) (id : Int) (hp : Wl p) (hM : Qo M p) (h : id = 0 ∨ ∃ q, look p id = some q) : qfr k W L (p ++ t) M id = some (wn p W L id) := by
 unfold qfr wn
 by_cases h0 : id = 0
 ·rw [qd h0, show (id == 0) = true from beq_iff_eq.2 h0, qi]
 ·rw [qm h0, show (id == 0) = false from beq_false_of_ne h0, qg]
  rcases h with h | ⟨q, h⟩
  ·exact absurd h h0
  ·obtain ⟨i, e1, e2, e3⟩ := (hM id).some h
   have hl : (p ++ t).length = p.length + t.length := qn
   have hs := hp q (zr h).1
   have hi : (i : Int) < ((p ++ t).length : Int) := by omega
   rw [e1, qRI, qd ⟨by omega, hi⟩, qc, Yi _ _ _ _ e2, e3, h]
   show (if (qa4 k q.2.2.2.2.2).isSome = true then some (q.2.2.2.1, (XK k q.2.2.2.2.2).1) else none) = _
   rw [qbY k hk _ hs.chk, qhn k hk _ hs.chk]
   rfl
theorem qmd (k : Nat) (hk : 2100 ≤ k) (W L : Int) (p t : List Ro) (M : List (Int × Int)) (id : Int) (hp : Wl p) (hM : Qo M p) (h : id = 0 ∨ ∃ q, look p id = some q) : XR k W L (p ++ t) M id = wn p W L id := by
 unfold XR; rw [qgd k hk W L p t M id hp hM h]; rfl
theorem quF (k : Nat) (W L : Int) (l : List Ro) (M : List (Int × Int)) (r : Ro) (n : Int) (m : List Rn) (hm : goods m) (hl : m.length ≤ 256) : ∀ (d i j : Nat), i + d = m.length → d < j →
  WK k W L l M r j n m (m.length : Int) (i : Int) = some (if fitsIn n (m.drop i) then 0 else 21) := by
 intro d
 induction d with
 | zero =>
  intro i j hi hj
  obtain ⟨j, rfl⟩ := qQ (by omega : 0 < j)
  rw [WK, qx (by omega : ¬ (i : Int) < (m.length : Int)), qg, qh (by omega), qd (by trivial)]
 | succ d ih =>
  intro i j hi hj
  obtain ⟨j, rfl⟩ := qQ (by omega : 0 < j)
  have hg : good (m.getD i T3.dflt) := hm.mem _ (w9 _ _ _ (by omega))
  rw [WK, qA (by omega : (i : Int) < (m.length : Int)), qi, qd ⟨by omega, by omega⟩, qc, XU k _ hg, qbv k _ hg, qb, qd rfl, qq m i T3.dflt (by omega), qF i (by omega)]
  show (bif decide (Go.AM.hi (m.getD i T3.dflt) ≥ n) then _ else _) = _
  by_cases h : Go.AM.hi (m.getD i T3.dflt) ≥ n
  ·rw [qA h, qi, qm (fun e : fitsIn n (m.getD i T3.dflt :: m.drop (i + 1)) => by have := e.1; omega)]
  ·rw [qx h, qg, ih (i + 1) j (by omega) (by omega)]
   by_cases h2 : fitsIn n (m.drop (i + 1))
   ·rw [qd h2, qd (show fitsIn n (m.getD i T3.dflt :: m.drop (i + 1)) from ⟨by omega, h2⟩)]
   ·rw [qm h2, qm (fun e : fitsIn n (m.getD i T3.dflt :: m.drop (i + 1)) => h2 e.2)]
theorem qul (c : Ch) (w : Int) (hw : 0 ≤ w ∧ w ≤ 12000) : (decide (c.1 < (0 : Int)) || decide (c.2.1 < (1 : Int)) || decide (c.1 > w) || decide (c.2.1 > qa .i64 (w - c.1))) = decide (c.1 < 0 ∨ c.2.1 < 1 ∨ c.1 > w ∨ c.2.1 > w - c.1) := by
 by_cases h1 : c.1 < 0
 ·rw [qA h1, zX, zX, zX, qA (Or.inl h1)]
 ·by_cases h2 : c.2.1 < 1
  ·rw [qA h2, Bool.or_true, zX, zX, qA (Or.inr (Or.inl h2))]
  ·by_cases h3 : c.1 > w
   ·rw [qA h3, Bool.or_true, zX, qA (Or.inr (Or.inr (Or.inl h3)))]
   ·rw [qx h1, qx h2, qx h3, qo (by omega) (by omega), Bool.or_false, Bool.or_false, zn]
    by_cases h4 : c.2.1 > w - c.1
    ·rw [qA h4, qA (Or.inr (Or.inr (Or.inr h4)))]
    ·rw [qx h4, qx (by omega)]
theorem qgT (k : Nat) (hk : 2100 ≤ k) (W L : Int) (l : List Ro) (M : List (Int × Int)) (r : Ro) (c : Ch) (w n : Int) (hw : 0 ≤ w ∧ w ≤ 12000) :
  (bif (decide (c.1 < (0 : Int)) || decide (c.2.1 < (1 : Int)) || decide (c.1 > w) || decide (c.2.1 > qa .i64 (w - c.1))) then some 20
   else if ((Ve k c.2.2.2).isSome = true) then
    bif (vE k c.2.2.2 != (0 : Int)) then some (vE k c.2.2.2)
    else bif ((↑ (qe c.2.2.2) : Int) == (0 : Int)) then some 10
    else if ((qc7 k c.2.2.2).isSome = true) then
     bif (!qgB k c.2.2.2) then some 12
     else WK k W L l M r k n c.2.2.2 ((↑ (qe c.2.2.2) : Int)) 0
    else none
   else none) = some (qk9 c w n) := by
 unfold qk9
 rw [qul c w hw, QT k (by omega), W0 k (by omega), qb, qd rfl, qhq k hk, qtu k hk, qb, qd rfl]
 by_cases h1 : c.1 < 0 ∨ c.2.1 < 1 ∨ c.1 > w ∨ c.2.1 > w - c.1
 ·rw [qA h1, qi, qd h1]
 ·rw [qx h1, qg, qm h1]
  by_cases h2 : chk c.2.2.2 = 0
  ·have hc := wW.1 h2
   have hl := hc.len
   rw [show (chk c.2.2.2 != 0) = false by simp [h2], qg, qm (fun h : chk c.2.2.2 ≠ 0 => h h2)]
   by_cases h3 : c.2.2.2 = []
   ·rw [h3, qd rfl]; rfl
   ·rw [qm h3, show (((qe c.2.2.2 : Nat) : Int) == 0) = false from beq_false_of_ne (fun e => h3 (List.length_eq_zero_iff.1 (by omega))), qg]
    cases h4 : vg c.2.2.2
    ·rfl
    ·rw [vB, qg, qm (by decide)]
     refine (quF k W L l M r n c.2.2.2 hc.goods hl c.2.2.2.length 0 k (by omega) (by omega)).trans ?_
     rw [wm]
  ·rw [show (chk c.2.2.2 != 0) = true by simp [h2], qi, qd h2]
theorem qno (k : Nat) (hk : 2100 ≤ k) (W L : Int) (hW : 0 ≤ W ∧ W ≤ 12000) (p t : List Ro) (M : List (Int × Int)) (r : Ro) (hp : Wl p) (hM : Qo M p) : qj3 k W L (p ++ t) M r = some (vF p W L r) := by
 unfold qj3 vF
 by_cases h1 : r.1 < 1 ∨ r.1 > 1000000
 ·rw [qd h1, show (decide (r.1 < 1) || decide (r.1 > 1000000)) = true by simpa using h1, qi]
 ·rw [qm h1, show (decide (r.1 < 1) || decide (r.1 > 1000000)) = false by simp; omega, qg]
  have hs := hp.size (L := L) hW r.2.1
  by_cases h2 : r.2.1 = 0
  ·rw [show (r.2.1 != 0) = false by simp [h2], qg, qd rfl, qm (fun h : r.2.1 ≠ 0 ∧ look p r.2.1 = none => h.1 h2), qgd k hk W L p t M r.2.1 hp hM (.inl h2), qmd k hk W L p t M r.2.1 hp hM (.inl h2), qb, qd rfl]
   exact qgT k hk W L (p ++ t) M r r.2.2 _ _ hs
  ·have hkn : Wz k W L (p ++ t) M r.2.1 = (wd I r.2.1 M).isSome := by unfold Wz X0; rfl
   rw [show (r.2.1 != 0) = true by simp [h2], qi, qd ⟨rfl, rfl⟩, hkn, ww]
   cases e : look p r.2.1 with
   | none => rw [(hM r.2.1).none e, qd (show r.2.1 ≠ 0 ∧ (none : Option Ro) = none from ⟨h2, rfl⟩)]; rfl
   | some q =>
    obtain ⟨i, e1, e2, e3⟩ := (hM r.2.1).some e
    rw [e1, qm (show ¬ (r.2.1 ≠ 0 ∧ some q = none) from fun h => nomatch h.2), qb, vB, qg, qgd k hk W L p t M r.2.1 hp hM (.inr ⟨q, e⟩), qmd k hk W L p t M r.2.1 hp hM (.inr ⟨q, e⟩), qb, qd rfl]
    exact qgT k hk W L (p ++ t) M r r.2.2 _ _ hs
theorem qyu (k : Nat) (hk : 2100 ≤ k) (W L : Int) (hW : 0 ≤ W ∧ W ≤ 12000) (p t : List Ro) (M : List (Int × Int)) (r : Ro) (hp : Wl p) (hM : Qo M p) : qfF k W L (p ++ t) M r = vF p W L r := by
 unfold qfF; rw [qno k hk W L hW p t M r hp hM]; rfl
theorem quA (k : Nat) (hk : 70000 ≤ k) (l : List Ro) (n i W L : Int) (M : List (Int × Int)) (r : Ro) (hr : Small r.2.2) (p : List Ro) (hp : Wl p) (hpl : p.length ≤ 512) : ∀ (d q m : Nat), q + d = p.length →
  Zx k (m + d + 1) l l n i p (p.length : Int) (q : Int) W L l M r = if QE (p.drop q) r = true then some (.inl 12) else Zj k m l l n (qa .i64 (i + 1)) W L l M := by
 intro d
 induction d with
 | zero =>
  intro q m hq
  rw [Zx, qx (by omega : ¬ (q : Int) < (p.length : Int)), qg, qh (by omega), qm (by unfold QE; rw [List.any_nil]; decide)]
 | succ d ih =>
  intro q m hq
  have hs : Small (p.getD q T5.dflt).2.2 := hp _ (w9 _ _ _ (by omega))
  have hc : QE (p.drop q) r = ((r.2.1 == (p.getD q T5.dflt).2.1) && VV r.2.2 (p.getD q T5.dflt).2.2 || QE (p.drop (q + 1)) r) := by
   unfold QE; rw [qq p q T5.dflt (by omega), List.any_cons]
  rw [show m + (d + 1) + 1 = (m + d + 1) + 1 from rfl, Zx, qA (by omega : (q : Int) < (p.length : Int)), qi, qd ⟨by omega, by omega⟩, qc, qF q (by omega), ih (q + 1) m (by omega), hc]
  cases e : (r.2.1 == (p.getD q T5.dflt).2.1)
  ·rw [qg, qd rfl, wD, zn]
  ·rw [qi, ww, qqJ k hk _ _ hr hs, qd ⟨rfl, by rw [qg0 k hk _ _ hr hs]; rfl⟩, ww]
   cases VV r.2.2 (p.getD q T5.dflt).2.2
   ·rw [qg, zn]
   ·rfl
set_option maxRecDepth 20000 in
theorem quu (k : Nat) (hk : 70000 ≤ k) (l : List Ro) (W L : Int) (M : List (Int × Int)) (hl : Wl l) (hll : l.length ≤ 512) : ∀ (d i j : Nat), i + d = l.length → d * 514 < j →
  Zj k j l l (l.length : Int) (i : Int) W L l M = if ze (l.take i) (l.drop i) = true then some (.inl 12) else some (.inr (0, W, L, l, M)) := by
 intro d
 induction d with
 | zero =>
  intro i j hi hj
  obtain ⟨j, rfl⟩ := qQ (by omega : 0 < j)
  rw [Zj, qx (by omega : ¬ (i : Int) < (l.length : Int)), qg, qh (by omega), ze, qm (by decide)]
 | succ d ih =>
  intro i j hi hj
  obtain ⟨j, rfl⟩ : ∃ q, j = (q + (l.take i).length + 1) + 1 := ⟨j - (l.take i).length - 2, by rw [Qt]; omega⟩
  rw [Qt] at hj
  have hs : Small (l.getD i T5.dflt).2.2 := hl _ (w9 _ _ _ (by omega))
  have h23 := quA k hk l (l.length : Int) (i : Int) W L M (l.getD i T5.dflt) hs (l.take i) (fun r hr => hl r (List.mem_of_mem_take hr)) (by rw [Qt]; omega) (l.take i).length 0 j (by omega)
  rw [Zj, qA (by omega : (i : Int) < (l.length : Int)), qi, qd ⟨by omega, by omega⟩, qd ⟨by omega, by omega, by omega⟩, qc, Int.toNat_zero, wm, Nat.sub_zero]
  refine h23.trans ?_
  rw [wm, qF i (by omega), ih (i + 1) j (by omega) (by omega), qq l i T5.dflt (by omega), ze, wR l i T5.dflt (by omega)]
  cases QE (l.take i) (l.getD i T5.dflt)
  ·rw [qm (by decide), zn]
  ·rfl
theorem qyw (k : Nat) (hk : 300000 ≤ k) (l : List Ro) (W L : Int) (hW : 0 ≤ W ∧ W ≤ 12000) (hll : l.length ≤ 512) : ∀ (d i j : Nat) (dup : Bool) (M : List (Int × Int)), i + d = l.length → d + 1 + 263168 < j → Qo M (l.take i) → Wl (l.take i) →
  ∃ M', (w8 W L (l.take i) (l.drop i) = 0 → Qo M' l ∧ Wl l) ∧ v8 k j l dup l (l.length : Int) (i : Int) W L l M =
   if w8 W L (l.take i) (l.drop i) ≠ 0 then some (.inl (w8 W L (l.take i) (l.drop i))) else if (dup || vH (l.take i) (l.drop i)) = true then some (.inl 6) else if ze [] l = true then some (.inl 12) else some (.inr (0, W, L, l, M')) := by
 intro d
 induction d with
 | zero =>
  intro i j dup M hi hj hM hw
  obtain ⟨j, rfl⟩ := qQ (by omega : 0 < j)
  have h20 := quu k (by omega) l W L M (by rw [wI (by omega)] at hw; exact hw) hll l.length 0 j (by omega) (by omega)
  rw [wI (by omega : l.length ≤ i)] at hM hw
  refine ⟨M, fun _ => ⟨hM, hw⟩, ?_⟩
  rw [v8, qx (by omega : ¬ (i : Int) < (l.length : Int)), qg, qh (by omega), w8, qm (fun h => h rfl), vH, Bool.or_false]
  cases dup
  ·rw [qg, qm (by decide)]
   exact h20
  ·rfl
 | succ d ih =>
  intro i j dup M hi hj hM hw
  obtain ⟨j, rfl⟩ := qQ (by omega : 0 < j)
  have hf := qno k (by omega) W L hW (l.take i) (l.drop i) M (l.getD i T5.dflt) hw hM
  have hv := qyu k (by omega) W L hW (l.take i) (l.drop i) M (l.getD i T5.dflt) hw hM
  rw [qnA] at hf hv
  have hkn : Wz k W L l M (l.getD i T5.dflt).1 = (wd I (l.getD i T5.dflt).1 M).isSome := by unfold Wz X0; rfl
  have ht := wR l i T5.dflt (by omega)
  by_cases h1 : vF (l.take i) W L (l.getD i T5.dflt) = 0
  ·have hw2 : Wl (l.take (i + 1)) := by rw [ht]; exact hw.snoc hW h1
   cases e : look (l.take i) (l.getD i T5.dflt).1 with
   | none =>
    have hM2 : Qo (vw I (l.getD i T5.dflt).1 (i : Int) M) (l.take (i + 1)) := by
     have := qD4 hM (l.getD i T5.dflt) e
     rw [ht]
     rw [Qt, show min i l.length = i by omega] at this
     exact this
    obtain ⟨M', m1, m2⟩ := ih (i + 1) j dup _ (by omega) (by omega) hM2 hw2
    rw [ht] at m1 m2
    rw [qq l i T5.dflt (by omega), w8, qm (fun h => h h1), vH, e]
    refine ⟨M', m1, ?_⟩
    rw [v8, qA (by omega : (i : Int) < (l.length : Int)), qi, qd ⟨by omega, by omega⟩, qc, hf, hv, qb, qd rfl, h1]
    show (bif Wz k W L l M (l.getD i T5.dflt).1 then _ else _) = _
    rw [hkn, (hM _).none e, qF i (by omega)]
    exact m2
   | some q =>
    have hM2 : Qo M (l.take (i + 1)) := by
     have := qzC hM (l.getD i T5.dflt) (by rw [e]; rfl)
     rw [ht]
     exact this
    obtain ⟨M', m1, m2⟩ := ih (i + 1) j true _ (by omega) (by omega) hM2 hw2
    rw [ht] at m1 m2
    rw [qq l i T5.dflt (by omega), w8, qm (fun h => h h1), vH, e]
    refine ⟨M', m1, ?_⟩
    obtain ⟨a, b, _, _⟩ := (hM _).some e
    rw [v8, qA (by omega : (i : Int) < (l.length : Int)), qi, qd ⟨by omega, by omega⟩, qc, hf, hv, qb, qd rfl, h1]
    show (bif Wz k W L l M (l.getD i T5.dflt).1 then _ else _) = _
    rw [hkn, b, qF i (by omega), qb, qb, zX, Bool.or_true]
    rw [zX] at m2
    exact m2
  ·rw [qq l i T5.dflt (by omega), w8, qd h1]
   refine ⟨M, fun h => absurd h h1, ?_⟩
   rw [v8, qA (by omega : (i : Int) < (l.length : Int)), qi, qd ⟨by omega, by omega⟩, qc, hf, hv, qb, qd rfl, show (vF (l.take i) W L (l.getD i T5.dflt) != 0) = true from bne_iff_ne.2 h1, qi, qd h1]
theorem qF2 (k : Nat) (hk : 300000 ≤ k) (l : List Ro) (web : Int × Int) : (wZ l web.1 web.2 ≠ 0 → W9 k l web = some (.inl (wZ l web.1 web.2))) ∧ (wZ l web.1 web.2 = 0 → ∃ M, Qo M l ∧ Wl l ∧ W9 k l web = some (.inr (0, web.1, web.2, l, M))) := by
 obtain ⟨W, L⟩ := web
 show (wZ l W L ≠ 0 → W9 k l (W, L) = some (.inl (wZ l W L))) ∧ (wZ l W L = 0 → ∃ M, Qo M l ∧ Wl l ∧ W9 k l (W, L) = some (.inr (0, W, L, l, M)))
 unfold W9 wZ
 show ((if _ then _ else _ : Int) ≠ 0 → (bif decide (W < (1 : Int)) || decide (W > (12000 : Int)) || decide (L < (0 : Int)) || decide (L > (17179869184 : Int)) then some (.inl 1) else bif _ then _ else v8 k k l false l (l.length : Int) 0 W L l []) = _) ∧ (_ → ∃ M, Qo M l ∧ Wl l ∧ (bif decide (W < (1 : Int)) || decide (W > (12000 : Int)) || decide (L < (0 : Int)) || decide (L > (17179869184 : Int)) then some (.inl 1) else bif _ then _ else v8 k k l false l (l.length : Int) 0 W L l []) = _)
 by_cases h1 : W < 1 ∨ W > 12000 ∨ L < 0 ∨ L > 17179869184
 ·rw [qd h1, show (decide (W < (1 : Int)) || decide (W > (12000 : Int)) || decide (L < (0 : Int)) || decide (L > (17179869184 : Int))) = true by simp; omega]
  exact ⟨fun _ => rfl, fun h => absurd h (by decide)⟩
 ·rw [qm h1, show (decide (W < (1 : Int)) || decide (W > (12000 : Int)) || decide (L < (0 : Int)) || decide (L > (17179869184 : Int))) = false by simp; omega, qg]
  by_cases h2 : l.length > 512
  ·rw [qd h2, qA (by omega : (l.length : Int) > 512)]
   exact ⟨fun _ => rfl, fun h => absurd h (by decide)⟩
  ·rw [qm h2, qx (by omega : ¬ (l.length : Int) > 512), qg]
   obtain ⟨M, m1, m2⟩ := qyw k hk l W L (by omega) (by omega) l.length 0 k false [] (by omega) (by omega) (by rw [List.take_zero]; exact qzs) (fun r hr => by simp at hr)
   rw [List.take_zero, wm, zn] at m2
   rw [List.take_zero, wm] at m1
   rw [show v8 k k l false l (l.length : Int) 0 W L l [] = _ from m2]
   by_cases h3 : w8 W L [] l = 0
   ·rw [qm (fun h : w8 W L [] l ≠ 0 => h h3), qm (fun h : w8 W L [] l ≠ 0 => h h3)]
    have ff : ¬ (false = true) := Bool.false_ne_true
    have tt : true = true := rfl
    cases vH [] l
    ·rw [qm ff, qm ff]
     cases ze [] l
     ·rw [qm ff, qm ff]
      exact ⟨fun h => absurd rfl h, fun _ => ⟨M, (m1 h3).1, (m1 h3).2, rfl⟩⟩
     ·rw [qd tt, qd tt]
      exact ⟨fun _ => rfl, fun h => absurd h (by decide)⟩
    ·rw [qd tt, qd tt]
     exact ⟨fun _ => rfl, fun h => absurd h (by decide)⟩
   ·rw [qd h3, qd h3]
    exact ⟨fun _ => rfl, fun h => absurd h h3⟩
end Go.AM
