/- Contracts of the functions that the law reaches, and the plain law. -/
import Derived.Test.YtlakpahbdecdpaaGreatDoorFuna
set_option linter.unusedVariables false
set_option linter.unusedSimpArgs false
set_option linter.unusedSectionVars false
open Bool renaming and_eq_true → qh, false_and → wE, false_eq_true → qE, not_false → qS1, not_true → ve, or_eq_false_iff → v6, or_eq_true → qGc, true_and → wH
open ByteArray renaming size → vl
open Int renaming toNat → ql, toNat_natCast → qe
open List renaming cons_append → qne, drop → Wm, getD → qI, length → qb, length_append → qT, length_cons → wB, length_singleton → qz, mem_cons → qK, nil_append → wk, take → qS3, take_of_length_le → zj
open Option renaming isSome_some → qd
open Go.IntKind renaming wrap → qa
namespace Go.AM
open Go Go.Proofs
noncomputable section
def qtb (r : ByteArray) : AV := .r (.v (.string r))
abbrev qzA (a : Int) (r : ByteArray) : Prop := CC Tryz.prog 64 [ri a] [] (qtb r) (nb r)
def qhm (k : Nat) (a : Int) : Option ByteArray :=
 if ((qqE k a).isSome) then
 some (qyp k a)
 else none
def qV := fun k a => (qhm k a).getD ByteArray.empty
def qKs (k : Nat) : Ke := (64, mo 1, fun
 | [.r (.v (.int .i64 a))], [] => some (.one (qtb (qV k a), []))
 | _, _ => none)
theorem qLD (k a r) (h : qhm k a = some r): qzA a r := qO Tryz.f64 (go (qA [qOh k]) [] [] [.autoB [2] true []] (qv h qNl fun h => gL h))
theorem quy {k a} (h : (qhm k a).isSome): qzA a (qV k a) := qJ h (qLD k a)
def bs_H62_u7_0 : ByteArray := ByteArray.mk #[115, 101, 99, 116, 105, 111, 110, 115, 58, 32, 101, 114, 114, 111, 114, 32]
def qtL : ByteArray := ByteArray.mk #[115, 101, 99, 116, 105, 111, 110, 115, 58, 32, 101, 114, 114, 111, 114, 32]
def bs_H62_u7_2 : ByteArray := ByteArray.mk #[32, 100, 111, 101, 115, 32, 110, 111, 116, 32, 109, 97, 116, 99, 104, 58, 32, 101, 114, 114, 111, 114, 32]
def qtM : ByteArray := ByteArray.mk #[32, 100, 111, 101, 115, 32, 110, 111, 116, 32, 109, 97, 116, 99, 104, 58, 32, 101, 114, 114, 111, 114, 32]
def bs_H62_u7_4 : ByteArray := ByteArray.mk #[116, 104, 101, 32, 97, 114, 101, 97, 32, 111, 102, 32, 116, 104, 101, 32, 119, 101, 98, 32, 105, 115, 32, 110, 111, 116, 32, 98, 97, 108, 97, 110, 99, 101, 100, 58, 32]
def qtN : ByteArray := ByteArray.mk #[116, 104, 101, 32, 97, 114, 101, 97, 32, 111, 102, 32, 116, 104, 101, 32, 119, 101, 98, 32, 105, 115, 32, 110, 111, 116, 32, 98, 97, 108, 97, 110, 99, 101, 100, 58, 32]
def bs_H62_u7_6 : ByteArray := ByteArray.mk #[115, 104, 105, 112, 112, 101, 100, 32, 114, 111, 108, 108, 32]
def qtO : ByteArray := ByteArray.mk #[115, 104, 105, 112, 112, 101, 100, 32, 114, 111, 108, 108, 32]
def bs_H62_u7_8 : ByteArray := ByteArray.mk #[32, 119, 97, 115, 32, 110, 111, 116, 32, 114, 101, 108, 101, 97, 115, 101, 100, 58, 32, 101, 114, 114, 111, 114, 32]
def qtP : ByteArray := ByteArray.mk #[32, 119, 97, 115, 32, 110, 111, 116, 32, 114, 101, 108, 101, 97, 115, 101, 100, 58, 32, 101, 114, 114, 111, 114, 32]
def bs_H62_u7_10 : ByteArray := ByteArray.mk #[116, 104, 101, 32, 99, 114, 101, 100, 105, 116, 32, 111, 102, 32, 99, 108, 97, 105, 109, 32]
def bs_H62_u7_11 : ByteArray := ByteArray.mk #[32, 115, 104, 111, 117, 108, 100, 32, 98, 101, 32]
def qrv : ByteArray := ByteArray.mk #[116, 104, 101, 32, 99, 114, 101, 100, 105, 116, 32, 111, 102, 32, 99, 108, 97, 105, 109, 32]
def qrw : ByteArray := ByteArray.mk #[32, 115, 104, 111, 117, 108, 100, 32, 98, 101, 32]
def bs_H62_u7_14 : ByteArray := ByteArray.mk #[32, 99, 97, 110, 110, 111, 116, 32, 98, 101, 32, 115, 101, 116, 116, 108, 101, 100, 58, 32, 101, 114, 114, 111, 114, 32]
def qrx : ByteArray := ByteArray.mk #[32, 99, 97, 110, 110, 111, 116, 32, 98, 101, 32, 115, 101, 116, 116, 108, 101, 100, 58, 32, 101, 114, 114, 111, 114, 32]
def bs_H62_u7_16 : ByteArray := ByteArray.mk #[98, 114, 111, 107, 101, 58, 32, 101, 114, 114, 111, 114, 32]
def qry : ByteArray := ByteArray.mk #[98, 114, 111, 107, 101, 58, 32, 101, 114, 114, 111, 114, 32]
def bs_H62_u7_18 : ByteArray := ByteArray.mk #[32, 105, 115, 32, 114, 101, 112, 101, 97, 116, 101, 100]
def qrz : ByteArray := ByteArray.mk #[32, 105, 115, 32, 114, 101, 112, 101, 97, 116, 101, 100]
abbrev qEz : Type := ByteArray × Int
def qC6 (r : qEz) : AV := .tup [.r (.v (.string r.1)), ri r.2]
abbrev qMd (a : T18.T) (r : qEz) : Prop := CC Tryz.prog 25 [.agg (qB (qr T18 a))] [] (qC6 r) (nb r)
def qxi (k : Nat) (a : T18.T) : Option qEz :=
 if ((qhm k a.2.1).isSome) ∧ ((qhm k a.2.2).isSome) then
 bif (a.1 == (1 : Int)) then
 if ((↑ (bs_H62_u7_0.size + vl (qV k a.2.1)) : Int) ≤ IntKind.i64.max) ∧ ((↑ ((bs_H62_u7_0 ++ qV k a.2.1).size + (ByteArray.mk #[44, 32, 101, 110, 100, 32]).size) : Int) ≤ IntKind.i64.max) ∧ ((↑ ((bs_H62_u7_0 ++ qV k a.2.1 ++ (ByteArray.mk #[44, 32, 101, 110, 100, 32])).size + vl (qV k a.2.2)) : Int) ≤ IntKind.i64.max) then
 some (qtL ++ qV k a.2.1 ++ (ByteArray.mk #[44, 32, 101, 110, 100, 32]) ++ qV k a.2.2, 0)
 else none
 else
 bif (a.1 == (2 : Int)) then
 if ((↑ ((ByteArray.mk #[114, 101, 101, 108, 32]).size + vl (qV k a.2.1)) : Int) ≤ IntKind.i64.max) ∧ ((↑ (((ByteArray.mk #[114, 101, 101, 108, 32]) ++ qV k a.2.1).size + bs_H62_u7_2.size) : Int) ≤ IntKind.i64.max) ∧ ((↑ (((ByteArray.mk #[114, 101, 101, 108, 32]) ++ qV k a.2.1 ++ bs_H62_u7_2).size + vl (qV k a.2.2)) : Int) ≤ IntKind.i64.max) then
 some ((ByteArray.mk #[114, 101, 101, 108, 32]) ++ qV k a.2.1 ++ qtM ++ qV k a.2.2, 0)
 else none
 else
 bif (a.1 == (3 : Int)) then
 if ((↑ ((ByteArray.mk #[114, 111, 108, 108, 32]).size + vl (qV k a.2.1)) : Int) ≤ IntKind.i64.max) ∧ ((↑ (((ByteArray.mk #[114, 111, 108, 108, 32]) ++ qV k a.2.1).size + (ByteArray.mk #[58, 32, 101, 114, 114, 111, 114, 32]).size) : Int) ≤ IntKind.i64.max) ∧ ((↑ (((ByteArray.mk #[114, 111, 108, 108, 32]) ++ qV k a.2.1 ++ (ByteArray.mk #[58, 32, 101, 114, 114, 111, 114, 32])).size + vl (qV k a.2.2)) : Int) ≤ IntKind.i64.max) then
 some ((ByteArray.mk #[114, 111, 108, 108, 32]) ++ qV k a.2.1 ++ (ByteArray.mk #[58, 32, 101, 114, 114, 111, 114, 32]) ++ qV k a.2.2, 0)
 else none
 else
 bif (a.1 == (4 : Int)) then
 if ((↑ (bs_H62_u7_4.size + vl (qV k a.2.1)) : Int) ≤ IntKind.i64.max) then
 some (qtN ++ qV k a.2.1, 0)
 else none
 else
 bif (a.1 == (5 : Int)) then
 if ((↑ ((ByteArray.mk #[111, 114, 100, 101, 114, 32]).size + vl (qV k a.2.1)) : Int) ≤ IntKind.i64.max) ∧ ((↑ (((ByteArray.mk #[111, 114, 100, 101, 114, 32]) ++ qV k a.2.1).size + (ByteArray.mk #[58, 32, 101, 114, 114, 111, 114, 32]).size) : Int) ≤ IntKind.i64.max) ∧ ((↑ (((ByteArray.mk #[111, 114, 100, 101, 114, 32]) ++ qV k a.2.1 ++ (ByteArray.mk #[58, 32, 101, 114, 114, 111, 114, 32])).size + vl (qV k a.2.2)) : Int) ≤ IntKind.i64.max) then
 some ((ByteArray.mk #[111, 114, 100, 101, 114, 32]) ++ qV k a.2.1 ++ (ByteArray.mk #[58, 32, 101, 114, 114, 111, 114, 32]) ++ qV k a.2.2, 0)
 else none
 else
 bif (a.1 == (6 : Int)) then
 if ((↑ (bs_H62_u7_6.size + vl (qV k a.2.1)) : Int) ≤ IntKind.i64.max) ∧ ((↑ ((bs_H62_u7_6 ++ qV k a.2.1).size + (ByteArray.mk #[58, 32, 101, 114, 114, 111, 114, 32]).size) : Int) ≤ IntKind.i64.max) ∧ ((↑ ((bs_H62_u7_6 ++ qV k a.2.1 ++ (ByteArray.mk #[58, 32, 101, 114, 114, 111, 114, 32])).size + vl (qV k a.2.2)) : Int) ≤ IntKind.i64.max) then
 some (qtO ++ qV k a.2.1 ++ (ByteArray.mk #[58, 32, 101, 114, 114, 111, 114, 32]) ++ qV k a.2.2, 0)
 else none
 else
 bif (a.1 == (7 : Int)) then
 if ((↑ ((ByteArray.mk #[114, 111, 108, 108, 32]).size + vl (qV k a.2.1)) : Int) ≤ IntKind.i64.max) ∧ ((↑ (((ByteArray.mk #[114, 111, 108, 108, 32]) ++ qV k a.2.1).size + bs_H62_u7_8.size) : Int) ≤ IntKind.i64.max) ∧ ((↑ (((ByteArray.mk #[114, 111, 108, 108, 32]) ++ qV k a.2.1 ++ bs_H62_u7_8).size + vl (qV k a.2.2)) : Int) ≤ IntKind.i64.max) then
 some ((ByteArray.mk #[114, 111, 108, 108, 32]) ++ qV k a.2.1 ++ qtP ++ qV k a.2.2, 0)
 else none
 else
 bif (a.1 == (8 : Int)) then
 if ((↑ (bs_H62_u7_10.size + vl (qV k a.2.1)) : Int) ≤ IntKind.i64.max) ∧ ((↑ ((bs_H62_u7_10 ++ qV k a.2.1).size + bs_H62_u7_11.size) : Int) ≤ IntKind.i64.max) ∧ ((↑ ((bs_H62_u7_10 ++ qV k a.2.1 ++ bs_H62_u7_11).size + vl (qV k a.2.2)) : Int) ≤ IntKind.i64.max) then
 some (qrv ++ qV k a.2.1 ++ qrw ++ qV k a.2.2, 0)
 else none
 else
 bif (a.1 == (9 : Int)) then
 if ((↑ ((ByteArray.mk #[99, 108, 97, 105, 109, 32]).size + vl (qV k a.2.1)) : Int) ≤ IntKind.i64.max) ∧ ((↑ (((ByteArray.mk #[99, 108, 97, 105, 109, 32]) ++ qV k a.2.1).size + bs_H62_u7_14.size) : Int) ≤ IntKind.i64.max) ∧ ((↑ (((ByteArray.mk #[99, 108, 97, 105, 109, 32]) ++ qV k a.2.1 ++ bs_H62_u7_14).size + vl (qV k a.2.2)) : Int) ≤ IntKind.i64.max) then
 some ((ByteArray.mk #[99, 108, 97, 105, 109, 32]) ++ qV k a.2.1 ++ qrx ++ qV k a.2.2, 0)
 else none
 else
 bif (a.1 == (10 : Int)) then
 if ((↑ (bs_H62_u7_16.size + vl (qV k a.2.1)) : Int) ≤ IntKind.i64.max) then
 some (qry ++ qV k a.2.1, 0)
 else none
 else
 bif (a.1 == (11 : Int)) then
 if ((↑ ((ByteArray.mk #[112, 111, 115, 116, 105, 110, 103, 32]).size + vl (qV k a.2.1)) : Int) ≤ IntKind.i64.max) ∧ ((↑ (((ByteArray.mk #[112, 111, 115, 116, 105, 110, 103, 32]) ++ qV k a.2.1).size + (ByteArray.mk #[58, 32, 101, 114, 114, 111, 114, 32]).size) : Int) ≤ IntKind.i64.max) ∧ ((↑ (((ByteArray.mk #[112, 111, 115, 116, 105, 110, 103, 32]) ++ qV k a.2.1 ++ (ByteArray.mk #[58, 32, 101, 114, 114, 111, 114, 32])).size + vl (qV k a.2.2)) : Int) ≤ IntKind.i64.max) then
 some ((ByteArray.mk #[112, 111, 115, 116, 105, 110, 103, 32]) ++ qV k a.2.1 ++ (ByteArray.mk #[58, 32, 101, 114, 114, 111, 114, 32]) ++ qV k a.2.2, 0)
 else none
 else
 bif (a.1 == (12 : Int)) then
 if ((↑ ((ByteArray.mk #[112, 111, 115, 116, 105, 110, 103, 32]).size + vl (qV k a.2.1)) : Int) ≤ IntKind.i64.max) ∧ ((↑ (((ByteArray.mk #[112, 111, 115, 116, 105, 110, 103, 32]) ++ qV k a.2.1).size + bs_H62_u7_18.size) : Int) ≤ IntKind.i64.max) then
 some ((ByteArray.mk #[112, 111, 115, 116, 105, 110, 103, 32]) ++ qV k a.2.1 ++ qrz, 0)
 else none
 else
 some (ByteArray.mk #[], 17)
 else none
def qys := fun k a => (qxi k a).getD (ByteArray.empty, 0)
def qRq (k : Nat) : Ke := (25, mo 1, fun
 | [.agg b], [] => (qX [] T18 b).bind fun a => some (.one (qC6 (qys k a), []))
 | _, _ => none)
theorem qRI (k a r) (h : qxi k a = some r): qMd a r := qO Tryz.f25 (go (qA [qKs k]) [] [] [.autoB [2, 3] true []] (gN h (fun q => qf (quy q.1) (qf (quy q.2) qP)) fun h => gS h (fun h => gN h cj3 fun h => gL h) fun h => gS h (fun h => gN h cj3 fun h => gL h) fun h => gS h (fun h => gN h cj3 fun h => gL h) fun h => gS h (fun h => qv h id fun h => gL h) fun h => gS h (fun h => gN h cj3 fun h => gL h) fun h => gS h (fun h => gN h cj3 fun h => gL h) fun h => gS h (fun h => gN h cj3 fun h => gL h) fun h => gS h (fun h => gN h cj3 fun h => gL h) fun h => gS h (fun h => gN h cj3 fun h => gL h) fun h => gS h (fun h => qv h id fun h => gL h) fun h => gS h (fun h => gN h cj3 fun h => gL h) fun h => gS h (fun h => qU h fun h => gL h) fun h => gL h))
theorem qRe {k a} (h : (qxi k a).isSome): qMd a (qys k a) := qJ h (qRI k a)
abbrev qGr (a : List I.T) (b : Int) (r : Bool) : Prop := CC Tryz.prog 89 [ro I a, ri b] [] (rb r) (nb r)
def qFD := fun y0 y1 y2 y3 => (⟨qM 17 [(1, ri y0), (7, ro I y1), (8, ri y2), (9, ri y3)], []⟩ : St)
def X8 (k : Nat) : Nat → Int → List I.T → Int → Int → Option Bool
 | 0, _, _, _, _ => none
 | j + 1, y0, y1, y2, y3 =>
 bif y3 < y2 then
 if (0 ≤ y3) ∧ (y3 < y1.length) then
 bif (y0 == y1.getD y3.toNat I.dflt) then
 some true
 else
 X8 k j y0 y1 y2 (qa .i64 (y3 + 1))
 else none
 else
 some false
def qfk (k : Nat) (a : List I.T) (b : Int) : Option Bool :=
 X8 k k b a (↑a.length : Int) 0
def qjy := fun k a b => (qfk k a b).getD false
def qmC (k : Nat) : Ke := (89, mo 2, fun
 | [.r (.ro e d), .r (.v (.int .i64 b))], [] => (qC e I d).bind fun a => some (.one (rb (qjy k a b), []))
 | _, _ => none)
def qAP : List (Nat × List Cmd) := [(2, [.autoB [1, 7, 8, 9] false []])]
abbrev qQJ := EP Tryz.f89 0 rb nb
theorem qBB (k) : ∀ j, (∀ y0 y1 y2 y3, qQJ 2 (qFD y0 y1 y2 y3) (X8 k j y0 y1 y2 y3))
 | 0 => by intros; exact e0
 | j + 1 => by
  have ih := @qBB k j
  ·intro y0 y1 y2 y3 r h
   rw [X8] at h
   exact go (qA []) [] qAP [.autoB [4] true []] (gS h (fun h => qU h fun h => qu h fun h => gC h 2 (ih _ _ _ _ _)) fun h => gL h)
theorem qO4 (k a b r) (h : qfk k a b = some r): qGr a b r := qO Tryz.f89 (go (qA []) [] qAP [.autoB [4] true []] (gC h 2 ((qBB k k) _ _ _ _ _)))
theorem qAn {k a b} (h : (qfk k a b).isSome): qGr a b (qjy k a b) := qJ h (qO4 k a b)
abbrev qzr (a : List T11.T) (r : Int) : Prop := CC Tryz.prog 130 [ro T11 a] [] (ri r) (nb r)
def qDQ := fun y0 y1 y2 y3 => (⟨qM 84 [(0, ro T11 y0), (18, ro T11 y1), (19, ri y2), (20, ri y3)], []⟩ : St)
def qyb := fun y0 y1 y2 y3 y4 y5 => (⟨qM 84 [(0, ro T11 y0), (6, .own 1000000 0), (7, .own 1000001 0), (32, ro T11 y1), (33, ri y2), (34, ri y3)], [(1000000, 0, .map false I RTy.bool y4), (1000001, 0, .map false I RTy.bool y5)]⟩ : St)
def qyc := fun y0 y1 y2 => (⟨qM 84 [(0, ro T11 y0), (7, .own 1000000 0), (10, ri y1)], [(1000000, 0, .map false I RTy.bool y2)]⟩ : St)
def qyd := fun y0 y1 y2 y3 => (⟨qM 84 [(7, .own 1000000 0), (64, ro T11 y0), (65, ri y1), (66, ri y2)], [(1000000, 0, .map false I RTy.bool y3)]⟩ : St)
def qye := fun y0 y1 y2 y3 y4 y5 y6 => (⟨qM 84 [(7, .own 1000000 0), (64, ro T11 y0), (65, ri y1), (66, ri y2), (71, ro I y3), (72, ri y4), (73, ri y5)], [(1000000, 0, .map false I RTy.bool y6)]⟩ : St)
mutual
def qkp (k : Nat) : Nat → List T11.T → List T11.T → Int → Int → Option Int
 | 0, _, _, _, _ => none
 | j + 1, y0, y1, y2, y3 =>
 bif y3 < y2 then
 if (0 ≤ y3) ∧ (y3 < y1.length) then
 none
 else none
 else
 qcw k j y0 y0 (↑y0.length : Int) 0 ([]) ([])
def qcw (k : Nat) : Nat → List T11.T → List T11.T → Int → Int → (List (I.T × (RTy.bool).T)) → (List (I.T × (RTy.bool).T)) → Option Int
 | 0, _, _, _, _, _, _ => none
 | j + 1, y0, y1, y2, y3, y4, y5 =>
 bif y3 < y2 then
 if (0 ≤ y3) ∧ (y3 < y1.length) then
 bif ((wb I (y1.getD y3.toNat T11.dflt).1 y4).getD false) then
 some 6
 else
 qcw k j y0 y1 y2 (qa .i64 (y3 + 1)) (zP I (y1.getD y3.toNat T11.dflt).1 true y4) y5
 else none
 else
 qcx k j y0 1 y5
def qcx (k : Nat) : Nat → List T11.T → Int → (List (I.T × (RTy.bool).T)) → Option Int
 | 0, _, _, _ => none
 | j + 1, y0, y1, y2 =>
 bif y1 < y0.length then
 if (0 ≤ y1) ∧ (y1 < y0.length) ∧ ((0 : Int) ≤ qa .i64 (y1 - 1)) ∧ (qa .i64 (y1 - 1) < (↑y0.length : Int)) then
 bif (y0.getD y1.toNat T11.dflt).2.1 < (y0.getD (qa .i64 (y1 - 1)).toNat T11.dflt).2.1 then
 some 9
 else
 qcx k j y0 (qa .i64 (y1 + 1)) y2
 else none
 else
 qcy k j y0 (↑y0.length : Int) 0 y2
def qcy (k : Nat) : Nat → List T11.T → Int → Int → (List (I.T × (RTy.bool).T)) → Option Int
 | 0, _, _, _, _ => none
 | j + 1, y0, y1, y2, y3 =>
 bif y2 < y1 then
 if (0 ≤ y2) ∧ (y2 < y0.length) then
 qcz k j y0 y1 y2 ((y0.getD y2.toNat T11.dflt).2.2) (↑ (qb (y0.getD y2.toNat T11.dflt).2.2) : Int) 0 y3
 else none
 else
 some 0
def qcz (k : Nat) : Nat → List T11.T → Int → Int → List I.T → Int → Int → (List (I.T × (RTy.bool).T)) → Option Int
 | 0, _, _, _, _, _, _, _ => none
 | j + 1, y0, y1, y2, y3, y4, y5, y6 =>
 bif y5 < y4 then
 if (0 ≤ y5) ∧ (y5 < y3.length) then
 bif ((wb I (y3.getD y5.toNat I.dflt) y6).getD false) then
 some 34
 else
 qcz k j y0 y1 y2 y3 y4 (qa .i64 (y5 + 1)) (zP I (y3.getD y5.toNat I.dflt) true y6)
 else none
 else
 qcy k j y0 y1 (qa .i64 (y2 + 1)) y6
end
def qma (k : Nat) (a : List T11.T) : Option Int :=
 bif (↑a.length : Int) > (512 : Int) then
 some 8
 else
 qkp k k a a (↑a.length : Int) 0
def qeU := fun k a => (qma k a).getD 0
def qKj (k : Nat) : Ke := (130, mo 1, fun
 | [.r (.ro d b)], [] => (qC d T11 b).bind fun a => some (.one (ri (qeU k a), []))
 | _, _ => none)
def qu3 : List (Nat × List Cmd) := [(4, [.autoB [0, 18, 19, 20] false []]), (12, [.autoB [0, 6, 7, 32, 33, 34] false []]), (19, [.autoB [0, 7, 10] false []]), (24, [.autoB [7, 64, 65, 66] false []]), (27, [.autoB [7, 64, 65, 66, 71, 72, 73] false []])]
abbrev qgI := EP Tryz.f130 0 ri nb
theorem qvA (k) : ∀ j, (∀ {y0 y1 y2 y3}, qgI 4 (qDQ y0 y1 y2 y3) (qkp k j y0 y1 y2 y3)) ∧ (∀ {y0 y1 y2 y3 y4 y5}, qgI 12 (qyb y0 y1 y2 y3 y4 y5) (qcw k j y0 y1 y2 y3 y4 y5)) ∧ (∀ {y0 y1 y2}, qgI 19 (qyc y0 y1 y2) (qcx k j y0 y1 y2)) ∧ (∀ {y0 y1 y2 y3}, qgI 24 (qyd y0 y1 y2 y3) (qcy k j y0 y1 y2 y3)) ∧ (∀ {y0 y1 y2 y3 y4 y5 y6}, qgI 27 (qye y0 y1 y2 y3 y4 y5 y6) (qcz k j y0 y1 y2 y3 y4 y5 y6))
 | 0 => by and_intros <;> intros <;> exact e0
 | j + 1 => by
  have ih := @qvA k j
  have g := @go (qA []) [] qu3 [.autoB [2] true []]
  refine ⟨?_, ?_, ?_, ?_, ?_⟩
  ·intro y0 y1 y2 y3 r h
   rw [qkp] at h
   exact g (gS h (fun h => qU h fun h => gZ h (.stuck 2001)) fun h => gD h 12 ih.2.1)
  ·intro y0 y1 y2 y3 y4 y5 r h
   rw [qcw] at h
   exact g (gS h (fun h => qU h fun h => qu h fun h => gD h 12 ih.2.1) fun h => gD h 19 ih.2.2.1)
  ·intro y0 y1 y2 r h
   rw [qcx] at h
   exact g (gS h (fun h => gN h YW fun h => qu h fun h => gD h 19 ih.2.2.1) fun h => gD h 24 ih.2.2.2.1)
  ·intro y0 y1 y2 y3 r h
   rw [qcy] at h
   exact g (gS h (fun h => qU h fun h => gD h 27 ih.2.2.2.2) fun h => gL h)
  ·intro y0 y1 y2 y3 y4 y5 y6 r h
   rw [qcz] at h
   exact g (gS h (fun h => qU h fun h => qu h fun h => gD h 27 ih.2.2.2.2) fun h => gD h 24 ih.2.2.2.1)
theorem qLq (k a r) (h : qma k a = some r): qzr a r := qO Tryz.f130 (go (qA []) [] qu3 [.autoB [2] true []] (qu h fun h => gD h 4 (qvA k k).1))
theorem qJm {k a} (h : (qma k a).isSome): qzr a (qeU k a) := qJ h (qLq k a)
def qop (r : T8.T × Bool) : AV := .tup [.agg (qB (qr T8 r.1)), rb r.2]
def qrl (a : T17.T) (b : List T18.T) (d : Int) (r : T8.T × Bool) : List (Nat × Blk) := [(0, .var 140 (qB (qr T17 a) ++ [.own 1 0])), (0, .row 54 T18 b)]
abbrev qGl (a : T17.T) (b : List T18.T) (d : Int) (r : T8.T × Bool) : Prop := CC Tryz.prog 131 [.ptr 0 0 0, ri d] [.var 140 (qB (qr T17 a) ++ [.own 1 0]), .row 54 T18 b] (qop r) (qrl a b d r)
def qFx := fun a b (d : Int) y0 y1 y2 y3 y4 => (⟨qM 26 [(1, ri y0), (4, .ptr 1000000 0 0), (12, ro T9 y1), (13, ri y2), (14, ri y3)], [(0, 0, .var 140 (qB (qr T17 a) ++ [.own 1 0])), (1, 0, .row 54 T18 b), (1000000, 0, .var 72 (qB (qr T8 y4)))]⟩ : St)
def X4 (k : Nat) (a : T17.T) (b : List T18.T) (d : Int) : Nat → Int → List T9.T → Int → Int → T8.T → Option (T8.T × Bool)
 | 0, _, _, _, _, _ => none
 | j + 1, y0, y1, y2, y3, y4 =>
 bif y3 < y2 then
 if (0 ≤ y3) ∧ (y3 < y1.length) then
 if ((qfk k (y1.getD y3.toNat T9.dflt).2.2.1 y0).isSome) then
 bif (qjy k (y1.getD y3.toNat T9.dflt).2.2.1 y0) then
 some ((y1.getD y3.toNat T9.dflt).1, true)
 else
 X4 k a b d j y0 y1 y2 (qa .i64 (y3 + 1)) y4
 else none
 else none
 else
 some ((0, (0, (0, (0, (0, (0, (0, (0, (0, (0, (0, 0))))))))))), false)
def qfg (k : Nat) (a : T17.T) (b : List T18.T) (d : Int) : Option (T8.T × Bool) :=
 X4 k a b d k d a.2.2.2.2.2.2.2.2.2.2.2.2.2.2.2.1 (↑ (qb a.2.2.2.2.2.2.2.2.2.2.2.2.2.2.2.1) : Int) 0 (0, (0, (0, (0, (0, (0, (0, (0, (0, (0, (0, 0)))))))))))
def XO := fun k a b d => (qfg k a b d).getD ((T8).dflt, false)
def qCo (k : Nat) : Ke := (131, fun
 | [.ptr _ _ _, _] => some [true, false, true, true]
 | _ => none, fun
 | [.ptr 0 0 0, .r (.v (.int .i64 d))], [.var 140 e, .row 54 tb_22_ qb_22] => (qX [] T17 (e.take 22)).bind fun a => (qC tb_22_ T18 qb_22).bind fun b => some (.one (qop (XO k a b d), qrl a b d (XO k a b d)))
 | _, _ => none)
def qAK : List (Nat × List Cmd) := [(2, [.autoB [1, 4, 12, 13, 14] false []])]
abbrev qQI := fun a b d => EP Tryz.f131 2 qop (qrl a b d)
theorem qBx (k a b d) : ∀ j, (∀ y0 y1 y2 y3 y4, qQI a b d 2 (qFx a b d y0 y1 y2 y3 y4) (X4 k a b d j y0 y1 y2 y3 y4))
 | 0 => by intros; exact e0
 | j + 1 => by
  have ih := @qBx k a b d j
  ·intro y0 y1 y2 y3 y4 r h
   rw [X4] at h
   exact go (qA [qmC k]) [] qAK [.autoB [4, 5] true []] (gS h (fun h => qU h fun h => qv h qAn fun h => qu h fun h => gC h 2 (ih _ _ _ _ _ _)) fun h => gL h)
theorem qOY (k a b d r) (h : qfg k a b d = some r): qGl a b d r := qO Tryz.f131 (go (qA [qmC k]) [] qAK [.autoB [4, 5] true []] (gC h 2 ((qBx k a b d k) _ _ _ _ _ _)))
theorem qAj {k a b d} (h : (qfg k a b d).isSome): qGl a b d (XO k a b d) := qJ h (qOY k a b d)
abbrev qgM : Type := Int
def qkQ (r : qgM) : AV := .tup [.r (.v (Value.pointer none)), .r (.v (.int .i64 r))]
def qni (b : List T5.T) (d : T19.T) (e : Int) (r : qgM) : List (Nat × Blk) := []
abbrev qgP : Type := Int × Int × Int × List T5.T × (List (I.T × I.T))
def qkT (r : qgP) : AV := .tup [.ptr 0 0 0, .r (.v (.int .i64 r.1))]
def qnl (b : List T5.T) (d : T19.T) (e : Int) (r : qgP) : List (Nat × Blk) := [(0, .var 135 [.r (.v (.int .i64 r.2.1)), .r (.v (.int .i64 r.2.2.1)), .r (.ro T5 r.2.2.2.1), .own 1 0]), (0, .map false I I r.2.2.2.2)]
abbrev qqq : Type := qgM ⊕ qgP
def qLL (r : qqq) : AV := match r with
 | .inl a => qkQ a
 | .inr a => qkT a
def qMO (b : List T5.T) (d : T19.T) (e : Int) (r : qqq) : List (Nat × Blk) := match r with
 | .inl a => qni b d e a
 | .inr a => qnl b d e a
abbrev qqj (b : List T5.T) (d : T19.T) (e : Int) (r : qqq) : Prop := CC Tryz.prog 162 [ro T5 b, .agg (qB (qr T19 d)), ri e] [] (qLL r) (qMO b d e r)
abbrev qLW (b : List T5.T) (d : T19.T) (e : Int) (r : qgM) : Prop := CC Tryz.prog 162 [.r (.ro T5 b), .agg (qB (qr T19 d)), .r (.v (.int .i64 e))] [] (qkQ r) (qni b d e r)
abbrev qLZ (b : List T5.T) (d : T19.T) (e : Int) (r : qgP) : Prop := CC Tryz.prog 162 [.r (.ro T5 b), .agg (qB (qr T19 d)), .r (.v (.int .i64 e))] [] (qkT r) (qnl b d e r)
def Wv (k : Nat) (b : List T5.T) (d : T19.T) (e : Int) : Option qqq :=
 bif (Sum.isLeft (YL k b d)) then
 if ((W4 k b d).isSome) then
 bif (XK k b d == (0 : Int) && e != 0) then
 none
 else
 if ((XK k b d == (0 : Int) && e != 0) = false) then
 some (.inl (XK k b d))
 else none
 else none
 else
 if ((W4 k b d).isSome) then
 bif ((w6 k b d).1 == (0 : Int) && e != 0) then
 if (((w6 k b d).1 == (0 : Int) && e != 0) = true) ∧ ((Xh k (w6 k b d).2.1 (w6 k b d).2.2.1 (w6 k b d).2.2.2.1 (w6 k b d).2.2.2.2 e).isSome) then
 bif (true && (!WF k (w6 k b d).2.1 (w6 k b d).2.2.1 (w6 k b d).2.2.2.1 (w6 k b d).2.2.2.2 e)) then
 some (.inl 7)
 else
 some (.inr ((w6 k b d).1, (w6 k b d).2.1, (w6 k b d).2.2.1, (w6 k b d).2.2.2.1, (w6 k b d).2.2.2.2))
 else none
 else
 if (((w6 k b d).1 == (0 : Int) && e != 0) = false) then
 some (.inr ((w6 k b d).1, (w6 k b d).2.1, (w6 k b d).2.2.1, (w6 k b d).2.2.2.1, (w6 k b d).2.2.2.2))
 else none
 else none
def YK := fun k b d e => (Wv k b d e).getD (.inl 0)
def XJ (k : Nat) (b : List T5.T) (d : T19.T) (e : Int) : qgM := lft 0 (YK k b d e)
def wC (k : Nat) (b : List T5.T) (d : T19.T) (e : Int) : qgP := rgt (0, 0, 0, [], []) (YK k b d e)
def qCt (k : Nat) : Ke := (162, mo 3, fun
 | [.r (.ro i f), .agg g, .r (.v (.int .i64 e))], [] => (qC i T5 f).bind fun b => (qX [] T19 g).bind fun d => some (.two (YK k b d e).isLeft (qkQ (XJ k b d e), qni b d e (XJ k b d e)) (qkT (wC k b d e), qnl b d e (wC k b d e)))
 | _, _ => none)
theorem qPo (k b d e r) (h : Wv k b d e = some r): qqj b d e r := qO Tryz.f162 (go (qA [qr5 k, qCu k]) [] [] [.autoB [6, 7] true []] (gT h (fun c h => qv h (fun q => qui q (by assumption)) fun h => gT h (fun c h => gZ h (.stuck 2009)) fun c h => qv h id fun h => gU2 h (.leaf (.tup [.r (.v (Value.pointer none)), .r (.v (.int .i64 7))]) []) fun h => gL h) fun c h => qv h (fun q => quk q (by assumption)) fun h => gT h (fun c h => gN h (fun q => qf q.1 (qf (qrC q.2) qP)) fun h => gTl h fun c h => gL h) fun c h => qv h id fun h => gU2 h (.leaf (.tup [.r (.v (Value.pointer none)), .r (.v (.int .i64 7))]) []) fun h => gL h))
theorem qAq {k b d e} (h : (Wv k b d e).isSome): qqj b d e (YK k b d e) := qJ h (qPo k b d e)
theorem quh {k : Nat} {b : List T5.T} {d : T19.T} {e : Int} (h : (Wv k b d e).isSome = true) (hb : (YK k b d e).isLeft = true) : qLW b d e (XJ k b d e) := qEJ (Φ := qqj b d e) (qAq h) hb
theorem quj {k : Nat} {b : List T5.T} {d : T19.T} {e : Int} (h : (Wv k b d e).isSome = true) (hb : (YK k b d e).isLeft = false) : qLZ b d e (wC k b d e) := qEK (Φ := qqj b d e) (qAq h) hb
def qwu (r : T3.T) : AV := .agg (qB (qr T3 r))
abbrev qG7 (a : T3.T) (b : Int) (d : Int) (r : T3.T) : Prop := CC Tryz.prog 272 [.agg (qB (qr T3 a)), ri b, ri d] [] (qwu r) (nb r)
def Xj (k : Nat) (a : T3.T) (b : Int) (d : Int) : Option T3.T :=
 if ((Yz k a b).isSome) then
 some (vz k a b, (d, a.2.2 && decide (d > 1)))
 else none
def Q8 := fun k a b d => (Xj k a b d).getD (T3).dflt
def qhF (k : Nat) : Ke := (272, mo 3, fun
 | [.agg e, .r (.v (.int .i64 b)), .r (.v (.int .i64 d))], [] => (qX [] T3 e).bind fun a => some (.one (qwu (Q8 k a b d), []))
 | _, _ => none)
theorem qPN (k a b d r) (h : Xj k a b d = some r): qG7 a b d r := qO Tryz.f272 (go (qA [qex k]) [] [] [.autoB [6] true []] (qv h qg1 fun h => gL h))
theorem qdM {k a b d} (h : (Xj k a b d).isSome): qG7 a b d (Q8 k a b d) := qJ h (qPN k a b d)
def qws (r : List T3.T) : AV := .tup []
def qAe (a : List T3.T) (b : T3.T) (r : List T3.T) : List (Nat × Blk) := [(0, .var 287 [.own 1 1]), (1, .row 49 T3 r)]
abbrev qwM (a : List T3.T) (b : T3.T) (r : List T3.T) : Prop := CC Tryz.prog 241 [.ptr 0 0 0, .agg (qB (qr T3 b))] [.var 287 [.own 1 0], .row 49 T3 a] (qws r) (qAe a b r)
def qqT (g : List T3.T → T3.T → Option (List T3.T)) (a : List T3.T) (b : T3.T) : (List T3.T) := (g a b).getD []
def vk : Nat → List T3.T → T3.T → Option (List T3.T)
 | 0, _, _ => none
 | k + 1, a, b =>
 bif b.2.1 < (1 : Int) then
 some a
 else
 bif ((↑a.length : Int) == (0 : Int)) then
 if ((Xj k b 0 b.2.1).isSome) ∧ ((a.length + [Q8 k b (0 : Int) b.2.1].length) * (24 : Nat) ≤ (140737488355328 : Nat)) then
 some (a ++ [Q8 k b 0 b.2.1])
 else none
 else
 if ((0 : Int) ≤ qa .i64 ((↑a.length : Int) - (1 : Int))) ∧ (qa .i64 ((↑a.length : Int) - (1 : Int)) < (↑a.length : Int)) then
 if ((Yz k (a.getD (qa .i64 ((↑a.length : Int) - 1)).toNat T3.dflt) (qa .i64 ((a.getD (qa .i64 ((↑a.length : Int) - 1)).toNat T3.dflt).2.1 - 1))).isSome) then
 bif (qa .i64 (b.1 - vz k (a.getD (qa .i64 ((↑a.length : Int) - (1 : Int))).toNat T3.dflt) (qa .i64 ((a.getD (qa .i64 ((↑a.length : Int) - (1 : Int))).toNat T3.dflt).2.1 - (1 : Int)))) != (1 : Int) && qa .i64 (b.1 - vz k (a.getD (qa .i64 ((↑a.length : Int) - (1 : Int))).toNat T3.dflt) (qa .i64 ((a.getD (qa .i64 ((↑a.length : Int) - (1 : Int))).toNat T3.dflt).2.1 - (1 : Int)))) != (-1 : Int) || decide ((a.getD (qa .i64 ((↑a.length : Int) - (1 : Int))).toNat T3.dflt).2.1 > (1 : Int)) && (! (qa .i64 (b.1 - vz k (a.getD (qa .i64 ((↑a.length : Int) - (1 : Int))).toNat T3.dflt) (qa .i64 ((a.getD (qa .i64 ((↑a.length : Int) - (1 : Int))).toNat T3.dflt).2.1 - (1 : Int)))) == (-1 : Int)) == (a.getD (qa .i64 ((↑a.length : Int) - (1 : Int))).toNat T3.dflt).2.2)) then
 if ((Xj k b 0 b.2.1).isSome) ∧ ((a.length + [Q8 k b (0 : Int) b.2.1].length) * (24 : Nat) ≤ (140737488355328 : Nat)) then
 some (a ++ [Q8 k b 0 b.2.1])
 else none
 else
 bif (decide (b.2.1 > (1 : Int)) && b.2.2 == (qa .i64 (b.1 - vz k (a.getD (qa .i64 ((↑a.length : Int) - (1 : Int))).toNat T3.dflt) (qa .i64 ((a.getD (qa .i64 ((↑a.length : Int) - (1 : Int))).toNat T3.dflt).2.1 - (1 : Int)))) == (-1 : Int))) then
 if ((0 : Int) ≤ qa .i64 ((↑a.length : Int) - (1 : Int))) ∧ (qa .i64 ((↑a.length : Int) - (1 : Int)) < (↑a.length : Int)) then
 if ((Xj k b b.2.1 (qa .i64 (b.2.1 - b.2.1))).isSome) ∧ ((vk k (a.set (qa .i64 ((↑a.length : Int) - 1)).toNat ((a.getD (qa .i64 ((↑a.length : Int) - 1)).toNat T3.dflt).1, qa .i64 ((a.getD (qa .i64 ((↑a.length : Int) - 1)).toNat T3.dflt).2.1 + b.2.1), qa .i64 (b.1 - vz k (a.getD (qa .i64 ((↑a.length : Int) - 1)).toNat T3.dflt) (qa .i64 ((a.getD (qa .i64 ((↑a.length : Int) - 1)).toNat T3.dflt).2.1 - 1))) == (-1))) (Q8 k b b.2.1 (qa .i64 (b.2.1 - b.2.1)))).isSome) then
 some (qqT (vk k) (a.set (qa .i64 ((↑a.length : Int) - 1)).toNat ((a.getD (qa .i64 ((↑a.length : Int) - 1)).toNat T3.dflt).1, qa .i64 ((a.getD (qa .i64 ((↑a.length : Int) - 1)).toNat T3.dflt).2.1 + b.2.1), qa .i64 (b.1 - vz k (a.getD (qa .i64 ((↑a.length : Int) - 1)).toNat T3.dflt) (qa .i64 ((a.getD (qa .i64 ((↑a.length : Int) - 1)).toNat T3.dflt).2.1 - 1))) == (-1))) (Q8 k b b.2.1 (qa .i64 (b.2.1 - b.2.1))))
 else none
 else none
 else
 if ((0 : Int) ≤ qa .i64 ((↑a.length : Int) - (1 : Int))) ∧ (qa .i64 ((↑a.length : Int) - (1 : Int)) < (↑a.length : Int)) then
 if ((Xj k b 1 (qa .i64 (b.2.1 - 1))).isSome) ∧ ((vk k (a.set (qa .i64 ((↑a.length : Int) - 1)).toNat ((a.getD (qa .i64 ((↑a.length : Int) - 1)).toNat T3.dflt).1, qa .i64 ((a.getD (qa .i64 ((↑a.length : Int) - 1)).toNat T3.dflt).2.1 + 1), qa .i64 (b.1 - vz k (a.getD (qa .i64 ((↑a.length : Int) - 1)).toNat T3.dflt) (qa .i64 ((a.getD (qa .i64 ((↑a.length : Int) - 1)).toNat T3.dflt).2.1 - 1))) == (-1))) (Q8 k b 1 (qa .i64 (b.2.1 - 1)))).isSome) then
 some (qqT (vk k) (a.set (qa .i64 ((↑a.length : Int) - 1)).toNat ((a.getD (qa .i64 ((↑a.length : Int) - 1)).toNat T3.dflt).1, qa .i64 ((a.getD (qa .i64 ((↑a.length : Int) - 1)).toNat T3.dflt).2.1 + 1), qa .i64 (b.1 - vz k (a.getD (qa .i64 ((↑a.length : Int) - 1)).toNat T3.dflt) (qa .i64 ((a.getD (qa .i64 ((↑a.length : Int) - 1)).toNat T3.dflt).2.1 - 1))) == (-1))) (Q8 k b 1 (qa .i64 (b.2.1 - 1))))
 else none
 else none
 else none
 else none
def qc7 := fun k a b => (vk k a b).getD []
def qew (k : Nat) : Ke := (241, fun
 | [.ptr _ _ _, _] => some [true, false]
 | _ => none, fun
 | [.ptr 0 0 0, .agg d], [.var 287 [.own 1 0], .row 49 tb_0_ qb_0] => (qX [] T3 d).bind fun b => (qC tb_0_ T3 qb_0).bind fun a => some (.one (qws (qc7 k a b), qAe a b (qc7 k a b)))
 | _, _ => none)
theorem qCN : ∀ (k : Nat) (a : List T3.T) (b : T3.T) (r : List T3.T), vk k a b = some r → qwM a b r
 | 0, a, b, r, h => by simp [vk] at h
 | k + 1, a, b, r, h => by
  have ih : ∀ {a : List T3.T} {b : T3.T}, (vk k a b).isSome = true → qwM a b (qc7 k a b) := fun {a} {b} h => qJ h (qCN k a b)
  refine CC.of (fn := Tryz.f241) (by kernel_rfl) (by kernel_rfl) (by kernel_rfl) (by kernel_rfl) ?_
  rw [vk] at h
  exact go (qA [qex k, qhF k, qew k]) [] [] [.autoB [] true [1]] (qu h fun h => gS h (fun h => gN h (fun q => qf (qdM q.1) (qf q.2 qP)) fun h => gL h) fun h => qU h fun h => qv h qg1 fun h => gS h (fun h => gN h (fun q => qf (qdM q.1) (qf q.2 qP)) fun h => gL h) fun h => gS h (fun h => qU h fun h => gN h (fun q => qf (qdM q.1) (qf (ih q.2) qP)) fun h => gL h) fun h => qU h fun h => gN h (fun q => qf (qdM q.1) (qf (ih q.2) qP)) fun h => gL h)
theorem qAu {k a b} (h : (vk k a b).isSome): qwM a b (qc7 k a b) := qJ h (qCN k a b)
def qoC (r : List T3.T) : AV := .tup []
def qrq (a : List T3.T) (b : Int) (d : Int) (e : List T3.T) (r : List T3.T) : List (Nat × Blk) := [(0, .var 287 [.own 1 1]), (1, .row 49 T3 r)]
abbrev qG2 (a : List T3.T) (b : Int) (d : Int) (e : List T3.T) (r : List T3.T) : Prop := CC Tryz.prog 240 [ro T3 a, ri b, ri d, .fn (.func 241) [.ptr 0 0 0] []] [.var 287 [.own 1 0], .row 49 T3 e] (qoC r) (qrq a b d e r)
def qFQ := fun (a : List T3.T) (b : Int) (d : Int) (e : List T3.T) y0 y1 y2 y3 y4 y5 y6 => (⟨qM 46 [(1, ri y0), (2, ri y1), (3, .fn (Fn.func 241) [.ptr 0 0 0] []), (8, ri y2), (13, ro T3 y3), (14, ri y4), (15, ri y5)], [(0, 0, .var 287 [.own 1 1]), (1, 1, .row 49 T3 y6)]⟩ : St)
def Yd (k : Nat) (a : List T3.T) (b : Int) (d : Int) (e : List T3.T) : Nat → Int → Int → Int → List T3.T → Int → Int → List T3.T → Option (List T3.T)
 | 0, _, _, _, _, _, _, _ => none
 | j + 1, y0, y1, y2, y3, y4, y5, y6 =>
 bif y5 < y4 then
 if (0 ≤ y5) ∧ (y5 < y3.length) then
 bif (if y2 > y0 then y2 else y0) < if qa .i64 (y2 + (y3.getD y5.toNat T3.dflt).2.1) < y1 then qa .i64 (y2 + (y3.getD y5.toNat T3.dflt).2.1) else y1 then
 if ((Xj k (y3.getD y5.toNat T3.dflt) (qa .i64 ((if y2 > y0 then y2 else y0) - y2)) (qa .i64 ((if qa .i64 (y2 + (y3.getD y5.toNat T3.dflt).2.1) < y1 then qa .i64 (y2 + (y3.getD y5.toNat T3.dflt).2.1) else y1) - if y2 > y0 then y2 else y0))).isSome) ∧ ((vk k y6 (Q8 k (y3.getD y5.toNat T3.dflt) (qa .i64 ((if y2 > y0 then y2 else y0) - y2)) (qa .i64 ((if qa .i64 (y2 + (y3.getD y5.toNat T3.dflt).2.1) < y1 then qa .i64 (y2 + (y3.getD y5.toNat T3.dflt).2.1) else y1) - if y2 > y0 then y2 else y0)))).isSome) then
 Yd k a b d e j y0 y1 (qa .i64 (y2 + (y3.getD y5.toNat T3.dflt).2.1)) y3 y4 (qa .i64 (y5 + 1)) (qc7 k y6 (Q8 k (y3.getD y5.toNat T3.dflt) (qa .i64 ((if y2 > y0 then y2 else y0) - y2)) (qa .i64 ((if qa .i64 (y2 + (y3.getD y5.toNat T3.dflt).2.1) < y1 then qa .i64 (y2 + (y3.getD y5.toNat T3.dflt).2.1) else y1) - if y2 > y0 then y2 else y0))))
 else none
 else
 Yd k a b d e j y0 y1 (qa .i64 (y2 + (y3.getD y5.toNat T3.dflt).2.1)) y3 y4 (qa .i64 (y5 + 1)) y6
 else none
 else
 some y6
def qiX (k : Nat) (a : List T3.T) (b : Int) (d : Int) (e : List T3.T) : Option (List T3.T) :=
 Yd k a b d e k b d 0 a (↑a.length : Int) 0 e
def qjF := fun k a b d e => (qiX k a b d e).getD []
def qOn (k : Nat) : Ke := (240, fun
 | [_, _, _, .fn (.func 241) _ _] => some [false, false, false, true]
 | _ => none, fun
 | [.r (.ro g f), .r (.v (.int .i64 b)), .r (.v (.int .i64 d)), .fn (.func 241) [.ptr 0 0 0] []], [.var 287 [.own 1 0], .row 49 tf_f00_ qf_f00] => (qC g T3 f).bind fun a => (qC tf_f00_ T3 qf_f00).bind fun e => some (.one (qoC (qjF k a b d e), qrq a b d e (qjF k a b d e)))
 | _, _ => none)
def qA6 : List (Nat × List Cmd) := [(2, [.autoB [1, 2, 3, 8, 13, 14, 15] false [1]])]
abbrev qQP := fun a b d e => EP Tryz.f240 2 qoC (qrq a b d e)
theorem qBR (k a b d e) : ∀ j, (∀ y0 y1 y2 y3 y4 y5 y6, qQP a b d e 2 (qFQ a b d e y0 y1 y2 y3 y4 y5 y6) (Yd k a b d e j y0 y1 y2 y3 y4 y5 y6))
 | 0 => by intros; exact e0
 | j + 1 => by
  have ih := @qBR k a b d e j
  ·intro y0 y1 y2 y3 y4 y5 y6 r h
   rw [Yd] at h
   exact go (qA [qhF k, qew k]) [] qA6 [.autoB [] true [1]] (gS h (fun h => qU h fun h => gS h (fun h => gN h (fun q => qf (qdM q.1) (qf (qAu q.2) qP)) fun h => gC h 2 (ih _ _ _ _ _ _ _ _)) fun h => gC h 2 (ih _ _ _ _ _ _ _ _)) fun h => gL h)
theorem qPI (k a b d e r) (h : qiX k a b d e = some r): qG2 a b d e r := qO Tryz.f240 (go (qA [qhF k, qew k]) [] qA6 [.autoB [] true [1]] (gC h 2 ((qBR k a b d e k) _ _ _ _ _ _ _ _)))
theorem qNq {k a b d e} (h : (qiX k a b d e).isSome): qG2 a b d e (qjF k a b d e) := qJ h (qPI k a b d e)
def qwq (r : List T3.T) : AV := .tup []
def qAd (a : T3.T) (b : List T3.T) (r : List T3.T) : List (Nat × Blk) := [(0, .var 43 [.own 1 1]), (1, .row 49 T3 r)]
abbrev qGX (a : T3.T) (b : List T3.T) (r : List T3.T) : Prop := CC Tryz.prog 242 [.agg (qB (qr T3 a)), .ptr 0 0 0] [.var 43 [.own 1 0], .row 49 T3 b] (qwq r) (qAd a b r)
def qiV (k : Nat) (a : T3.T) (b : List T3.T) : Option (List T3.T) :=
 if ((b.length + [a].length) * (24 : Nat) ≤ (140737488355328 : Nat)) then
 some (b ++ [a])
 else none
def qjE := fun k a b => (qiV k a b).getD []
def qr6 (k : Nat) : Ke := (242, fun
 | [_, .ptr _ _ _] => some [false, true]
 | _ => none, fun
 | [.agg d, .ptr 0 0 0], [.var 43 [.own 1 0], .row 49 tz00_ qz00] => (qX [] T3 d).bind fun a => (qC tz00_ T3 qz00).bind fun b => some (.one (qwq (qjE k a b), qAd a b (qjE k a b)))
 | _, _ => none)
theorem qPC (k a b r) (h : qiV k a b = some r): qGX a b r := qO Tryz.f242 (go (qA []) [] [] [.autoB [] true [1]] (qv h id fun h => gL h))
theorem qNo {k a b} (h : (qiV k a b).isSome): qGX a b (qjE k a b) := qJ h (qPC k a b)
def qoD (r : List T3.T) : AV := .tup []
def qrr (a : List T3.T) (b : Int) (d : Int) (e : List T3.T) (r : List T3.T) : List (Nat × Blk) := [(0, .var 43 [.own 1 1]), (1, .row 49 T3 r)]
abbrev qG3 (a : List T3.T) (b : Int) (d : Int) (e : List T3.T) (r : List T3.T) : Prop := CC Tryz.prog 240 [ro T3 a, ri b, ri d, .fn (.func 242) [] [.ptr 0 0 0]] [.var 43 [.own 1 0], .row 49 T3 e] (qoD r) (qrr a b d e r)
def qFR := fun (a : List T3.T) (b : Int) (d : Int) (e : List T3.T) y0 y1 y2 y3 y4 y5 y6 => (⟨qM 46 [(1, ri y0), (2, ri y1), (3, .fn (Fn.func 242) [] [.ptr 0 0 0]), (8, ri y2), (13, ro T3 y3), (14, ri y4), (15, ri y5)], [(0, 0, .var 43 [.own 1 1]), (1, 1, .row 49 T3 y6)]⟩ : St)
def Ye (k : Nat) (a : List T3.T) (b : Int) (d : Int) (e : List T3.T) : Nat → Int → Int → Int → List T3.T → Int → Int → List T3.T → Option (List T3.T)
 | 0, _, _, _, _, _, _, _ => none
 | j + 1, y0, y1, y2, y3, y4, y5, y6 =>
 bif y5 < y4 then
 if (0 ≤ y5) ∧ (y5 < y3.length) then
 bif (if y2 > y0 then y2 else y0) < if qa .i64 (y2 + (y3.getD y5.toNat T3.dflt).2.1) < y1 then qa .i64 (y2 + (y3.getD y5.toNat T3.dflt).2.1) else y1 then
 if ((Xj k (y3.getD y5.toNat T3.dflt) (qa .i64 ((if y2 > y0 then y2 else y0) - y2)) (qa .i64 ((if qa .i64 (y2 + (y3.getD y5.toNat T3.dflt).2.1) < y1 then qa .i64 (y2 + (y3.getD y5.toNat T3.dflt).2.1) else y1) - if y2 > y0 then y2 else y0))).isSome) ∧ ((qiV k (Q8 k (y3.getD y5.toNat T3.dflt) (qa .i64 ((if y2 > y0 then y2 else y0) - y2)) (qa .i64 ((if qa .i64 (y2 + (y3.getD y5.toNat T3.dflt).2.1) < y1 then qa .i64 (y2 + (y3.getD y5.toNat T3.dflt).2.1) else y1) - if y2 > y0 then y2 else y0))) y6).isSome) then
 Ye k a b d e j y0 y1 (qa .i64 (y2 + (y3.getD y5.toNat T3.dflt).2.1)) y3 y4 (qa .i64 (y5 + 1)) (qjE k (Q8 k (y3.getD y5.toNat T3.dflt) (qa .i64 ((if y2 > y0 then y2 else y0) - y2)) (qa .i64 ((if qa .i64 (y2 + (y3.getD y5.toNat T3.dflt).2.1) < y1 then qa .i64 (y2 + (y3.getD y5.toNat T3.dflt).2.1) else y1) - if y2 > y0 then y2 else y0))) y6)
 else none
 else
 Ye k a b d e j y0 y1 (qa .i64 (y2 + (y3.getD y5.toNat T3.dflt).2.1)) y3 y4 (qa .i64 (y5 + 1)) y6
 else none
 else
 some y6
def qiY (k : Nat) (a : List T3.T) (b : Int) (d : Int) (e : List T3.T) : Option (List T3.T) :=
 Ye k a b d e k b d 0 a (↑a.length : Int) 0 e
def qf8 := fun k a b d e => (qiY k a b d e).getD []
def qOo (k : Nat) : Ke := (240, fun
 | [_, _, _, .fn (.func 242) _ _] => some [false, false, false, true]
 | _ => none, fun
 | [.r (.ro g f), .r (.v (.int .i64 b)), .r (.v (.int .i64 d)), .fn (.func 242) [] [.ptr 0 0 0]], [.var 43 [.own 1 0], .row 49 tf_c00_ qf_c00] => (qC g T3 f).bind fun a => (qC tf_c00_ T3 qf_c00).bind fun e => some (.one (qoD (qf8 k a b d e), qrr a b d e (qf8 k a b d e)))
 | _, _ => none)
def qA7 : List (Nat × List Cmd) := [(2, [.autoB [1, 2, 3, 8, 13, 14, 15] false [1]])]
abbrev qQQ := fun a b d e => EP Tryz.f240 2 qoD (qrr a b d e)
theorem qBS (k a b d e) : ∀ j, (∀ y0 y1 y2 y3 y4 y5 y6, qQQ a b d e 2 (qFR a b d e y0 y1 y2 y3 y4 y5 y6) (Ye k a b d e j y0 y1 y2 y3 y4 y5 y6))
 | 0 => by intros; exact e0
 | j + 1 => by
  have ih := @qBS k a b d e j
  ·intro y0 y1 y2 y3 y4 y5 y6 r h
   rw [Ye] at h
   exact go (qA [qhF k, qr6 k]) [] qA7 [.autoB [] true [1]] (gS h (fun h => qU h fun h => gS h (fun h => gN h (fun q => qf (qdM q.1) (qf (qNo q.2) qP)) fun h => gC h 2 (ih _ _ _ _ _ _ _ _)) fun h => gC h 2 (ih _ _ _ _ _ _ _ _)) fun h => gL h)
theorem qPJ (k a b d e r) (h : qiY k a b d e = some r): qG3 a b d e r := qO Tryz.f240 (go (qA [qhF k, qr6 k]) [] qA7 [.autoB [] true [1]] (gC h 2 ((qBS k a b d e k) _ _ _ _ _ _ _ _)))
theorem qNr {k a b d e} (h : (qiY k a b d e).isSome): qG3 a b d e (qf8 k a b d e) := qJ h (qPJ k a b d e)
abbrev qlL : Type := List T3.T
def qoE (r : qlL) : AV := .tup []
def qrs (a : List T3.T) (b : List T3.T) (r : qlL) : List (Nat × Blk) := [(0, .var 287 [.own 1 1]), (1, .row 49 T3 r)]
abbrev qG8 (a : List T3.T) (b : List T3.T) (r : qlL) : Prop := CC Tryz.prog 243 [ro T3 a, .fn (.func 241) [.ptr 0 0 0] []] [.var 287 [.own 1 0], .row 49 T3 b] (qoE r) (qrs a b r)
def qFT := fun (a : List T3.T) (b : List T3.T) y0 y1 y2 => (⟨qM 35 [(0, ro T3 y0), (1, .fn (Fn.func 241) [.ptr 0 0 0] []), (4, ri y1)], [(0, 0, .var 287 [.own 1 1]), (1, 1, .row 49 T3 y2)]⟩ : St)
def qa9 (k : Nat) (a : List T3.T) (b : List T3.T) : Nat → List T3.T → Int → List T3.T → Option qlL
 | 0, _, _, _ => none
 | j + 1, y0, y1, y2 =>
 bif y1 ≥ 0 then
 if (0 ≤ y1) ∧ (y1 < y0.length) then
 if ((Yz k (y0.getD y1.toNat T3.dflt) (qa .i64 ((y0.getD y1.toNat T3.dflt).2.1 - 1))).isSome) ∧ ((vk k y2 (vz k (y0.getD y1.toNat T3.dflt) (qa .i64 ((y0.getD y1.toNat T3.dflt).2.1 - 1)), (y0.getD y1.toNat T3.dflt).2.1, ! (y0.getD y1.toNat T3.dflt).2.2 && decide ((y0.getD y1.toNat T3.dflt).2.1 > 1))).isSome) then
 qa9 k a b j y0 (qa .i64 (y1 - 1)) (qc7 k y2 (vz k (y0.getD y1.toNat T3.dflt) (qa .i64 ((y0.getD y1.toNat T3.dflt).2.1 - 1)), (y0.getD y1.toNat T3.dflt).2.1, ! (y0.getD y1.toNat T3.dflt).2.2 && decide ((y0.getD y1.toNat T3.dflt).2.1 > 1)))
 else none
 else none
 else
 some y2
def qiZ (k : Nat) (a : List T3.T) (b : List T3.T) : Option qlL :=
 qa9 k a b k a (qa .i64 ((↑a.length : Int) - 1)) b
def qjG := fun k a b => (qiZ k a b).getD []
def qOp (k : Nat) : Ke := (243, fun
 | [_, .fn (.func 241) _ _] => some [false, true]
 | _ => none, fun
 | [.r (.ro e d), .fn (.func 241) [.ptr 0 0 0] []], [.var 287 [.own 1 0], .row 49 tf_f00_ qf_f00] => (qC e T3 d).bind fun a => (qC tf_f00_ T3 qf_f00).bind fun b => some (.one (qoE (qjG k a b), qrs a b (qjG k a b)))
 | _, _ => none)
def qA9 : List (Nat × List Cmd) := [(1, [.autoB [0, 1, 4] false [1]])]
abbrev qQS := fun a b => EP Tryz.f243 2 qoE (qrs a b)
theorem qBU (k a b) : ∀ j, (∀ y0 y1 y2, qQS a b 1 (qFT a b y0 y1 y2) (qa9 k a b j y0 y1 y2))
 | 0 => by intros; exact e0
 | j + 1 => by
  have ih := @qBU k a b j
  ·intro y0 y1 y2 r h
   rw [qa9] at h
   exact go (qA [qex k, qew k]) [] qA9 [.autoB [] true [1]] (gS h (fun h => qU h fun h => gN h (fun q => qf (qg1 q.1) (qf (qAu q.2) qP)) fun h => gC h 1 (ih _ _ _ _)) fun h => gL h)
theorem qPO (k a b r) (h : qiZ k a b = some r): qG8 a b r := qO Tryz.f243 (go (qA [qex k, qew k]) [] qA9 [.autoB [] true [1]] (gC h 1 ((qBU k a b k) _ _ _ _)))
theorem qNs {k a b} (h : (qiZ k a b).isSome): qG8 a b (qjG k a b) := qJ h (qPO k a b)
abbrev qgO : Type := Int
def qkS (r : qgO) : AV := .tup [.r (.v (Value.slice none 0 0)), .r (.v (.int .i64 r))]
def qnk (b : List T3.T) (r : qgO) : List (Nat × Blk) := [(0, .var 287 [.own 1 0]), (0, .row 49 T3 b)]
abbrev qgR : Type := Int
def qkV (r : qgR) : AV := .tup [.own 1 0, .r (.v (.int .i64 r))]
def qnn (b : List T3.T) (r : qgR) : List (Nat × Blk) := [(0, .var 287 [.own 1 0]), (0, .row 49 T3 b)]
abbrev qqr : Type := qgO ⊕ qgR
def qLM (r : qqr) : AV := match r with
 | .inl a => qkS a
 | .inr a => qkV a
def qMP (b : List T3.T) (r : qqr) : List (Nat × Blk) := match r with
 | .inl a => qnk b a
 | .inr a => qnn b a
abbrev qql (b : List T3.T) (r : qqr) : Prop := CC Tryz.prog 244 [.ptr 0 0 0] [.var 287 [.own 1 0], .row 49 T3 b] (qLM r) (qMP b r)
abbrev qLY (b : List T3.T) (r : qgO) : Prop := CC Tryz.prog 244 [.ptr 0 0 0] [.var 287 [.own 1 0], .row 49 T3 b] (qkS r) (qnk b r)
abbrev qL1 (b : List T3.T) (r : qgR) : Prop := CC Tryz.prog 244 [.ptr 0 0 0] [.var 287 [.own 1 0], .row 49 T3 b] (qkV r) (qnn b r)
def Xi (k : Nat) (b : List T3.T) : Option qqr :=
 bif (↑b.length : Int) > (256 : Int) then
 some (.inl 8)
 else
 some (.inr 0)
def XR := fun k b => (Xi k b).getD (.inl 0)
def qeH (k : Nat) (b : List T3.T) : qgO := lft 0 (XR k b)
def qeI (k : Nat) (b : List T3.T) : qgR := rgt 0 (XR k b)
def qOm (k : Nat) : Ke := (244, fun
 | [.ptr _ _ _] => some [true]
 | _ => none, fun
 | [.ptr 0 0 0], [.var 287 [.own 1 0], .row 49 tb_0_ qb_0] => (qC tb_0_ T3 qb_0).bind fun b => some (.two (XR k b).isLeft (qkS (qeH k b), qnk b (qeH k b)) (qkV (qeI k b), qnn b (qeI k b)))
 | _, _ => none)
theorem qPH (k b r) (h : Xi k b = some r): qql b r := qO Tryz.f244 (go (qA []) [] [] [.autoB [2, 3] true []] (qu h fun h => gL h))
theorem qAv {k b} (h : (Xi k b).isSome): qql b (XR k b) := qJ h (qPH k b)
theorem qIJ {k : Nat} {b : List T3.T} (h : (Xi k b).isSome = true) (hb : (XR k b).isLeft = true) : qLY b (qeH k b) := qEJ (Φ := qql b) (qAv h) hb
theorem qIK {k : Nat} {b : List T3.T} (h : (Xi k b).isSome = true) (hb : (XR k b).isLeft = false) : qL1 b (qeI k b) := qEK (Φ := qql b) (qAv h) hb
abbrev qlI : Type := List T3.T × Int
def qoz (r : qlI) : AV := .tup [ro T3 r.1, ri r.2]
abbrev qGW (a : List T3.T) (b : List T3.T) (r : qlI) : Prop := CC Tryz.prog 208 [ro T3 a, ro T3 b] [] (qoz r) (nb r)
def qFN := fun y0 y1 y2 y3 y4 y5 => (⟨qM 82 [(0, ro T3 y0), (1, ro T3 y1), (8, ri y2), (27, ro T3 y3), (28, ri y4), (29, ri y5)], []⟩ : St)
def qEd := fun y0 y1 y2 y3 y4 => (⟨qM 82 [(1, ro T3 y0), (11, .ptr 1000000 0 0), (44, ro T3 y1), (45, ri y2), (46, ri y3)], [(1000000, 0, .var 287 [.own 1000001 0]), (1000001, 0, .row 49 T3 y4)]⟩ : St)
mutual
def qa6 (k : Nat) : Nat → List T3.T → List T3.T → Int → List T3.T → Int → Int → Option qlI
 | 0, _, _, _, _, _, _ => none
 | j + 1, y0, y1, y2, y3, y4, y5 =>
 bif y5 < y4 then
 if (0 ≤ y5) ∧ (y5 < y3.length) then
 if ((Yz k (y3.getD y5.toNat T3.dflt) (qa .i64 ((y3.getD y5.toNat T3.dflt).2.1 - 1))).isSome) then
 bif (if vz k (y3.getD y5.toNat T3.dflt) (qa .i64 ((y3.getD y5.toNat T3.dflt).2.1 - (1 : Int))) > (y3.getD y5.toNat T3.dflt).1 then vz k (y3.getD y5.toNat T3.dflt) (qa .i64 ((y3.getD y5.toNat T3.dflt).2.1 - (1 : Int))) else (y3.getD y5.toNat T3.dflt).1) ≥ y2 then
 some ([], 21)
 else
 qa6 k j y0 y1 y2 y3 y4 (qa .i64 (y5 + 1))
 else none
 else none
 else
 ZC k j y1 y0 (↑y0.length : Int) 0 ([])
def ZC (k : Nat) : Nat → List T3.T → List T3.T → Int → Int → List T3.T → Option qlI
 | 0, _, _, _, _, _ => none
 | j + 1, y0, y1, y2, y3, y4 =>
 bif y3 < y2 then
 if (0 ≤ y3) ∧ (y3 < y1.length) then
 bif (! (y1.getD y3.toNat T3.dflt).2.2) then
 if ((qiX k y0 (y1.getD y3.toNat T3.dflt).1 (qa .i64 ((y1.getD y3.toNat T3.dflt).1 + (y1.getD y3.toNat T3.dflt).2.1)) y4).isSome) then
 ZC k j y0 y1 y2 (qa .i64 (y3 + 1)) (qjF k y0 (y1.getD y3.toNat T3.dflt).1 (qa .i64 ((y1.getD y3.toNat T3.dflt).1 + (y1.getD y3.toNat T3.dflt).2.1)) y4)
 else none
 else
 if ((qiY k y0 (qa .i64 (qa .i64 ((y1.getD y3.toNat T3.dflt).1 - (y1.getD y3.toNat T3.dflt).2.1) + 1)) (qa .i64 ((y1.getD y3.toNat T3.dflt).1 + 1)) []).isSome) then
 if ((qiZ k (qf8 k y0 (qa .i64 (qa .i64 ((y1.getD y3.toNat T3.dflt).1 - (y1.getD y3.toNat T3.dflt).2.1) + 1)) (qa .i64 ((y1.getD y3.toNat T3.dflt).1 + 1)) []) y4).isSome) then
 ZC k j y0 y1 y2 (qa .i64 (y3 + 1)) (qjG k (qf8 k y0 (qa .i64 (qa .i64 ((y1.getD y3.toNat T3.dflt).1 - (y1.getD y3.toNat T3.dflt).2.1) + 1)) (qa .i64 ((y1.getD y3.toNat T3.dflt).1 + 1)) []) y4)
 else none
 else none
 else none
 else
 bif (Sum.isLeft (XR k y4)) then
 if ((Xi k y4).isSome) then
 some ([], qeH k y4)
 else none
 else
 if ((Xi k y4).isSome) then
 some (y4, qeI k y4)
 else none
end
def qiU (k : Nat) (a : List T3.T) (b : List T3.T) : Option qlI :=
 if ((ZT k a).isSome) then
 bif (vP k a != (0 : Int)) then
 some ([], vP k a)
 else
 if ((ZT k b).isSome) then
 bif (vP k b != (0 : Int)) then
 some ([], vP k b)
 else
 if ((qcC k b).isSome) then
 qa6 k k a b (qf9 k b) a (↑a.length : Int) 0
 else none
 else none
 else none
def qcZ := fun k a b => (qiU k a b).getD ([], 0)
def qOj (k : Nat) : Ke := (208, mo 2, fun
 | [.r (.ro f d), .r (.ro i e)], [] => (qC f T3 d).bind fun a => (qC i T3 e).bind fun b => some (.one (qoz (qcZ k a b), []))
 | _, _ => none)
def qH0 (k : Nat) : Calld := qA [qbR k, qr8 k, qex k, qew k, qOn k, qr6 k, qOo k, qOp k, qOm k]
def qA3 : List (Nat × List Cmd) := [(9, [.autoB [0, 1, 8, 27, 28, 29] false []]), (16, [.autoB [1, 11, 44, 45, 46] false []])]
abbrev qHF := EP Tryz.f208 0 qoz nb
theorem qBO (k) : ∀ j, (∀ {y0 y1 y2 y3 y4 y5}, qHF 9 (qFN y0 y1 y2 y3 y4 y5) (qa6 k j y0 y1 y2 y3 y4 y5)) ∧ (∀ {y0 y1 y2 y3 y4}, qHF 16 (qEd y0 y1 y2 y3 y4) (ZC k j y0 y1 y2 y3 y4))
 | 0 => by and_intros <;> intros <;> exact e0
 | j + 1 => by
  have ih := @qBO k j
  have g := @go (qH0 k) [] qA3 [.frz 4 false (RTy.list T3), .autoB [4, 5] true []]
  refine ⟨?_, ?_⟩
  ·intro y0 y1 y2 y3 y4 y5 r h
   rw [qa6] at h
   exact g (gT h (fun c h => qU h fun h => qv h qg1 fun h => gTl h fun c h => gD h 9 ih.1) fun c h => gD h 16 ih.2)
  ·intro y0 y1 y2 y3 y4 r h
   rw [ZC] at h
   exact g (gT h (fun c h => qU h fun h => gT h (fun c h => qv h qNq fun h => gD h 16 ih.2) fun c h => qv h qNr fun h => qv h qNs fun h => gD h 16 ih.2) fun c h => gT h (fun c h => qv h (fun q => qIJ q (by assumption)) fun h => gL h) fun c h => qv h (fun q => qIK q (by assumption)) fun h => gL h)
theorem qPB (k a b r) (h : qiU k a b = some r): qGW a b r := qO Tryz.f208 (go (qH0 k) [] qA3 [.frz 4 false (RTy.list T3), .autoB [4, 5] true []] (qv h qbk fun h => gTl h fun c h => qv h qbk fun h => gTl h fun c h => qv h qrF fun h => gD h 9 (qBO k k).1))
theorem qNn {k a b} (h : (qiU k a b).isSome): qGW a b (qcZ k a b) := qJ h (qPB k a b)
def qwk (r : T4.T × Int) : AV := .tup [.agg (qB (qr T4 r.1)), ri r.2]
def qAa (a : Int) (b : Int) (d : List T5.T) (e : List (I.T × I.T)) (f : Int) (r : T4.T × Int) : List (Nat × Blk) := [(0, .var 135 [ri a, ri b, ro T5 d, .own 1 0]), (0, .map false I I e)]
abbrev qwL (a : Int) (b : Int) (d : List T5.T) (e : List (I.T × I.T)) (f : Int) (r : T4.T × Int) : Prop := CC Tryz.prog 163 [.ptr 0 0 0, ri f] [.var 135 [ri a, ri b, ro T5 d, .own 1 0], .map false I I e] (qwk r) (qAa a b d e f r)
def W8 (g : Int → Int → List T5.T → (List (I.T × I.T)) → Int → Option (T4.T × Int)) (a : Int) (b : Int) (d : List T5.T) (e : List (I.T × I.T)) (f : Int) : (T4.T × Int) := (g a b d e f).getD ((T4).dflt, 0)
def zJ : Nat → Int → Int → List T5.T → (List (I.T × I.T)) → Int → Option (T4.T × Int)
 | 0, _, _, _, _, _ => none
 | k + 1, a, b, d, e, f =>
 bif (f == (0 : Int)) then
 bif b > (0 : Int) then
 some ((0, (a, (false, [(0, b, false)]))), 0)
 else
 some ((0, (a, (false, []))), 0)
 else
 if ((0 : Int) ≤ (wb I f e).getD (0 : Int)) ∧ ((wb I f e).getD (0 : Int) < (↑d.length : Int)) then
 if ((zJ k a b d e (d.getD (ql ((wb I f e).getD 0)) T5.dflt).2.1).isSome) then
 bif ((W8 (zJ k) a b d e (d.getD (ql ((wb I f e).getD (0 : Int))) T5.dflt).2.1).2 != (0 : Int)) then
 some ((0, (0, (false, []))), (W8 (zJ k) a b d e (d.getD (ql ((wb I f e).getD 0)) T5.dflt).2.1).2)
 else
 if ((qiU k (d.getD (ql ((wb I f e).getD 0)) T5.dflt).2.2.2.2.2 (W8 (zJ k) a b d e (d.getD (ql ((wb I f e).getD 0)) T5.dflt).2.1).1.2.2.2).isSome) then
 bif ((qcZ k (d.getD (ql ((wb I f e).getD (0 : Int))) T5.dflt).2.2.2.2.2 (W8 (zJ k) a b d e (d.getD (ql ((wb I f e).getD (0 : Int))) T5.dflt).2.1).1.2.2.2).2 != (0 : Int)) then
 some ((0, (0, (false, []))), (qcZ k (d.getD (ql ((wb I f e).getD 0)) T5.dflt).2.2.2.2.2 (W8 (zJ k) a b d e (d.getD (ql ((wb I f e).getD 0)) T5.dflt).2.1).1.2.2.2).2)
 else
 bif (W8 (zJ k) a b d e (d.getD (ql ((wb I f e).getD (0 : Int))) T5.dflt).2.1).1.2.2.1 then
 some ((qa .i64 (qa .i64 (qa .i64 ((W8 (zJ k) a b d e (d.getD (ql ((wb I f e).getD 0)) T5.dflt).2.1).1.1 + (W8 (zJ k) a b d e (d.getD (ql ((wb I f e).getD 0)) T5.dflt).2.1).1.2.1) - (d.getD (ql ((wb I f e).getD 0)) T5.dflt).2.2.1) - (d.getD (ql ((wb I f e).getD 0)) T5.dflt).2.2.2.1), ((d.getD (ql ((wb I f e).getD 0)) T5.dflt).2.2.2.1, (! (W8 (zJ k) a b d e (d.getD (ql ((wb I f e).getD 0)) T5.dflt).2.1).1.2.2.1 == (d.getD (ql ((wb I f e).getD 0)) T5.dflt).2.2.2.2.1, (qcZ k (d.getD (ql ((wb I f e).getD 0)) T5.dflt).2.2.2.2.2 (W8 (zJ k) a b d e (d.getD (ql ((wb I f e).getD 0)) T5.dflt).2.1).1.2.2.2).1))), 0)
 else
 some ((qa .i64 ((W8 (zJ k) a b d e (d.getD (ql ((wb I f e).getD 0)) T5.dflt).2.1).1.1 + (d.getD (ql ((wb I f e).getD 0)) T5.dflt).2.2.1), ((d.getD (ql ((wb I f e).getD 0)) T5.dflt).2.2.2.1, (! (W8 (zJ k) a b d e (d.getD (ql ((wb I f e).getD 0)) T5.dflt).2.1).1.2.2.1 == (d.getD (ql ((wb I f e).getD 0)) T5.dflt).2.2.2.2.1, (qcZ k (d.getD (ql ((wb I f e).getD 0)) T5.dflt).2.2.2.2.2 (W8 (zJ k) a b d e (d.getD (ql ((wb I f e).getD 0)) T5.dflt).2.1).1.2.2.2).1))), 0)
 else none
 else none
 else none
def qaZ := fun k a b d e f => (zJ k a b d e f).getD ((T4).dflt, 0)
def qCv (k : Nat) : Ke := (163, fun
 | [.ptr _ _ _, _] => some [true, false]
 | _ => none, fun
 | [.ptr 0 0 0, .r (.v (.int .i64 f))], [.var 135 [.r (.v (.int .i64 a)), .r (.v (.int .i64 b)), .r (.ro tg_2_ qg_2), .own 1 0], .map false kg_3_ tg_3_ qg_3] => (qC tg_2_ T5 qg_2).bind fun d => (qlU kg_3_ tg_3_ I I qg_3).bind fun e => some (.one (qwk (qaZ k a b d e f), qAa a b d e f (qaZ k a b d e f)))
 | _, _ => none)
theorem qCM : ∀ (k : Nat) (a : Int) (b : Int) (d : List T5.T) (e : List (I.T × I.T)) (f : Int) (r : T4.T × Int), zJ k a b d e f = some r → qwL a b d e f r
 | 0, a, b, d, e, f, r, h => by simp [zJ] at h
 | k + 1, a, b, d, e, f, r, h => by
  have ih : ∀ {a : Int} {b : Int} {d : List T5.T} {e : List (I.T × I.T)} {f : Int}, (zJ k a b d e f).isSome = true → qwL a b d e f (qaZ k a b d e f) := fun {a} {b} {d} {e} {f} h => qJ h (qCM k a b d e f)
  refine CC.of (fn := Tryz.f163) (by kernel_rfl) (by kernel_rfl) (by kernel_rfl) (by kernel_rfl) ?_
  rw [zJ] at h
  exact go (qA [qOj k, qCv k]) [] [] [.frz 4 true T4, .autoB [4, 5] true []] (gS h (fun h => qu h fun h => gL h) fun h => qU h fun h => qv h (fun q => ih q) fun h => qu h fun h => qv h qNn fun h => qu h fun h => qu h fun h => gL h)
theorem qNf {k a b d e f} (h : (zJ k a b d e f).isSome): qwL a b d e f (qaZ k a b d e f) := qJ h (qCM k a b d e f)
abbrev qwU : Type := T4.T × Int
def qwg (r : qwU) : AV := .tup [.agg (qB (qr T4 r.1)), ri r.2]
abbrev qGI (a : List T5.T) (b : T19.T) (d : Int) (r : qwU) : Prop := CC Tryz.prog 112 [ro T5 a, .agg (qB (qr T19 b)), ri d] [] (qwg r) (nb r)
def qfm (k : Nat) (a : List T5.T) (b : T19.T) (d : Int) : Option qwU :=
 bif (Sum.isLeft (YK k a b d)) then
 if ((Wv k a b d).isSome) then
 bif (XJ k a b d != 0) then
 some ((0, (0, (false, []))), XJ k a b d)
 else
 none
 else none
 else
 if ((Wv k a b d).isSome) then
 bif ((wC k a b d).1 != (0 : Int)) then
 some ((0, (0, (false, []))), (wC k a b d).1)
 else
 if ((zJ k (wC k a b d).2.1 (wC k a b d).2.2.1 (wC k a b d).2.2.2.1 (wC k a b d).2.2.2.2 d).isSome) then
 some ((qaZ k (wC k a b d).2.1 (wC k a b d).2.2.1 (wC k a b d).2.2.2.1 (wC k a b d).2.2.2.2 d).1, (qaZ k (wC k a b d).2.1 (wC k a b d).2.2.1 (wC k a b d).2.2.2.1 (wC k a b d).2.2.2.2 d).2)
 else none
 else none
def ze := fun k a b d => (qfm k a b d).getD ((T4).dflt, 0)
def qCs (k : Nat) : Ke := (112, mo 3, fun
 | [.r (.ro g e), .agg f, .r (.v (.int .i64 d))], [] => (qC g T5 e).bind fun a => (qX [] T19 f).bind fun b => some (.one (qwg (ze k a b d), []))
 | _, _ => none)
theorem qPl (k a b d r) (h : qfm k a b d = some r): qGI a b d r := qO Tryz.f112 (go (qA [qCt k, qCv k]) [] [] [.frz 6 true T4, .autoB [6, 7] true []] (gT h (fun c h => qv h (fun q => quh q (by assumption)) fun h => gTl h fun c h => gZ h (.stuck 2002)) fun c h => qv h (fun q => quj q (by assumption)) fun h => gTl h fun c h => qv h qNf fun h => gL h))
theorem qAp {k a b d} (h : (qfm k a b d).isSome): qGI a b d (ze k a b d) := qJ h (qPl k a b d)
abbrev qzp (a : T28.T) (r : Bool) : Prop := CC Tryz.prog 177 [.agg (qB (qr T28 a))] [] (rb r) (nb r)
def qej (k : Nat) (a : T28.T) : Option Bool :=
 bif (↑ (qb a.2.2.1) : Int) > (0 : Int) then
 if ((0 : Int) ≤ qa .i64 ((↑ (qb a.2.2.1) : Int) - (1 : Int))) ∧ (qa .i64 ((↑ (qb a.2.2.1) : Int) - (1 : Int)) < (↑ (qb a.2.2.1) : Int)) then
 some ((qI a.2.2.1 (qa .i64 ((↑ (qb a.2.2.1) : Int) - 1)).toNat T2.dflt).2.1 == a.2.1.2)
 else none
 else
 some (a.2.1.2 == 0)
def qij := fun k a => (qej k a).getD false
def qKh (k : Nat) : Ke := (177, mo 1, fun
 | [.agg b], [] => (qX [] T28 b).bind fun a => some (.one (rb (qij k a), []))
 | _, _ => none)
theorem qLo (k a r) (h : qej k a = some r): qzp a r := qO Tryz.f177 (go (qA []) [] [] [.autoB [2] true []] (gS h (fun h => qU h fun h => gL h) fun h => gL h))
theorem qJk {k a} (h : (qej k a).isSome): qzp a (qij k a) := qJ h (qLo k a)
def qk9 (r : Int × Bool) : AV := .tup [ri r.1, rb r.2]
abbrev qzq (a : T28.T) (b : List T21.T) (r : Int × Bool) : Prop := CC Tryz.prog 178 [.agg (qB (qr T28 a)), ro T21 b] [] (qk9 r) (nb r)
def qDO := fun y0 y1 y2 y3 y4 y5 y6 => (⟨qM 54 [(2, .ptr 1000000 0 0), (6, ri y0), (7, rb y1), (8, rb y2), (15, ro T21 y3), (16, ri y4), (17, ri y5)], [(1000000, 0, .var 201 (qB (qr T28 y6)))]⟩ : St)
def qDP := fun y0 y1 y2 y3 y4 y5 y6 y7 y8 y9 => (⟨qM 54 [(2, .ptr 1000000 0 0), (6, ri y0), (7, rb y1), (8, rb y2), (15, ro T21 y3), (16, ri y4), (17, ri y5), (28, ro T2 y6), (29, ri y7), (30, ri y8)], [(1000000, 0, .var 201 (qB (qr T28 y9)))]⟩ : St)
mutual
def VK (k : Nat) : Nat → Int → Bool → Bool → List T21.T → Int → Int → T28.T → Option (Int × Bool)
 | 0, _, _, _, _, _, _, _ => none
 | j + 1, y0, y1, y2, y3, y4, y5, y6 =>
 bif y5 < y4 then
 if (0 ≤ y5) ∧ (y5 < y3.length) then
 if ((Y5 k y6.2.2.1 (y3.getD y5.toNat T21.dflt)).isSome) then
 VL k j y0 y1 y2 y3 y4 y5 ((wV k y6.2.2.1 (y3.getD y5.toNat T21.dflt)).1) (↑ (wV k y6.2.2.1 (y3.getD y5.toNat T21.dflt)).1.length : Int) 0 y6
 else none
 else none
 else
 some (y0, y1)
def VL (k : Nat) : Nat → Int → Bool → Bool → List T21.T → Int → Int → List T2.T → Int → Int → T28.T → Option (Int × Bool)
 | 0, _, _, _, _, _, _, _, _, _, _ => none
 | j + 1, y0, y1, y2, y3, y4, y5, y6, y7, y8, y9 =>
 bif y8 < y7 then
 if (0 ≤ y8) ∧ (y8 < y6.length) then
 bif (!y2 && (y6.getD y8.toNat T2.dflt).2.2.2.1 != y0) then
 some (-1, false)
 else
 VL k j ((y6.getD y8.toNat T2.dflt).2.2.2.1) (y1 && (y6.getD y8.toNat T2.dflt).2.2.1 == 1) false y3 y4 y5 y6 y7 (qa .i64 (y8 + 1)) y9
 else none
 else
 VK k j y0 y1 y2 y3 y4 (qa .i64 (y5 + 1)) y9
end
def qhk (k : Nat) (a : T28.T) (b : List T21.T) : Option (Int × Bool) :=
 VK k k (-1) true true b (↑b.length : Int) 0 a
def QQ := fun k a b => (qhk k a b).getD (0, false)
def qKi (k : Nat) : Ke := (178, mo 2, fun
 | [.agg d, .r (.ro f e)], [] => (qX [] T28 d).bind fun a => (qC f T21 e).bind fun b => some (.one (qk9 (QQ k a b), []))
 | _, _ => none)
def qu2 : List (Nat × List Cmd) := [(3, [.autoB [2, 6, 7, 8, 15, 16, 17] false []]), (7, [.autoB [2, 6, 7, 8, 15, 16, 17, 28, 29, 30] false []])]
abbrev qzL := EP Tryz.f178 0 qk9 nb
theorem qvz (k) : ∀ j, (∀ {y0 y1 y2 y3 y4 y5 y6}, qzL 3 (qDO y0 y1 y2 y3 y4 y5 y6) (VK k j y0 y1 y2 y3 y4 y5 y6)) ∧ (∀ {y0 y1 y2 y3 y4 y5 y6 y7 y8 y9}, qzL 7 (qDP y0 y1 y2 y3 y4 y5 y6 y7 y8 y9) (VL k j y0 y1 y2 y3 y4 y5 y6 y7 y8 y9))
 | 0 => by and_intros <;> intros <;> exact e0
 | j + 1 => by
  have ih := @qvz k j
  have g := @go (qA [qn0 k]) [] qu2 [.autoB [4, 5] true []]
  refine ⟨?_, ?_⟩
  ·intro y0 y1 y2 y3 y4 y5 y6 r h
   rw [VK] at h
   exact g (gS h (fun h => qU h fun h => qv h qny fun h => gD h 7 ih.2) fun h => gL h)
  ·intro y0 y1 y2 y3 y4 y5 y6 y7 y8 y9 r h
   rw [VL] at h
   exact g (gS h (fun h => qU h fun h => qu h fun h => gD h 7 ih.2) fun h => gD h 3 ih.1)
theorem qLp (k a b r) (h : qhk k a b = some r): qzq a b r := qO Tryz.f178 (go (qA [qn0 k]) [] qu2 [.autoB [4, 5] true []] (gD h 3 (qvz k k).1))
theorem qJl {k a b} (h : (qhk k a b).isSome): qzq a b (QQ k a b) := qJ h (qLp k a b)
abbrev qGF (a : Int) (b : Int) (r : Bool) : Prop := CC Tryz.prog 215 [ri a, ri b] [] (rb r) (nb r)
def qme (k : Nat) (a : Int) (b : Int) : Option Bool :=
 some (decide (a ≥ 1) && decide (a ≤ 2500) && decide (b ≥ 1) && decide (b ≤ 5000))
def qqS := fun k a b => (qme k a b).getD false
def qN8 (k : Nat) : Ke := (215, mo 2, fun
 | [.r (.v (.int .i64 a)), .r (.v (.int .i64 b))], [] => some (.one (rb (qqS k a b), []))
 | _, _ => none)
theorem qPi (k a b r) (h : qme k a b = some r): qGF a b r := qO Tryz.f215 (go (qA []) [] [] [.autoB [4] true []] (gL h))
theorem qNa {k a b} (h : (qme k a b).isSome): qGF a b (qqS k a b) := qJ h (qPi k a b)
abbrev qGG (a : Int) (b : Int) (d : Int) (r : Int) : Prop := CC Tryz.prog 218 [ri a, ri b, ri d] [] (ri r) (nb r)
def qiO (k : Nat) (a : Int) (b : Int) (d : Int) : Option Int :=
 if (qa .i64 ((1000000000 : Int) * d) ≠ (0 : Int)) then
 some (qa .i64 ((qa .i64 (3141592653 * qa .i64 (qa .i64 (qa .i64 (b * b) - qa .i64 (a * a)) * 250))).tdiv (qa .i64 (1000000000 * d))))
 else none
def qm5 := fun k a b d => (qiO k a b d).getD 0
def qN9 (k : Nat) : Ke := (218, mo 3, fun
 | [.r (.v (.int .i64 a)), .r (.v (.int .i64 b)), .r (.v (.int .i64 d))], [] => some (.one (ri (qm5 k a b d), []))
 | _, _ => none)
theorem qPj (k a b d r) (h : qiO k a b d = some r): qGG a b d r := qO Tryz.f218 (go (qA []) [] [] [.autoB [6] true []] (qv h id fun h => gL h))
theorem qNb {k a b d} (h : (qiO k a b d).isSome): qGG a b d (qm5 k a b d) := qJ h (qPj k a b d)
def qz8 (a : Int) (b : Int) (d : Int) (e : Int) (r : Bool) : List (Nat × Blk) := [(0, .var 3 [ri b]), (0, .var 3 [ri d]), (0, .var 3 [ri e])]
abbrev qGD (a : Int) (b : Int) (d : Int) (e : Int) (r : Bool) : Prop := CC Tryz.prog 217 [ri a, .ptr 0 0 0, .ptr 1 0 0, .ptr 2 0 0] [.var 3 [ri b], .var 3 [ri d], .var 3 [ri e]] (rb r) (qz8 a b d e r)
def qiM (k : Nat) (a : Int) (b : Int) (d : Int) (e : Int) : Option Bool :=
 if ((qiO k b (qa .i64 (b + a)) d).isSome) then
 some (decide (qm5 k b (qa .i64 (b + a)) d ≥ e))
 else none
def qjC := fun k a b d e => (qiM k a b d e).getD false
def qr3 (k : Nat) : Ke := (217, fun
 | [_, .ptr _ _ _, .ptr _ _ _, .ptr _ _ _] => some [false, true, true, true]
 | _ => none, fun
 | [.r (.v (.int .i64 a)), .ptr 0 0 0, .ptr 1 0 0, .ptr 2 0 0], [.var 3 [.r (.v (.int .i64 b))], .var 3 [.r (.v (.int .i64 d))], .var 3 [.r (.v (.int .i64 e))]] => some (.one (rb (qjC k a b d e), qz8 a b d e (qjC k a b d e)))
 | _, _ => none)
theorem qPg (k a b d e r) (h : qiM k a b d e = some r): qGD a b d e r := qO Tryz.f217 (go (qA [qN9 k]) [] [] [.autoB [5] true []] (qv h qNb fun h => gL h))
theorem qM8 {k a b d e} (h : (qiM k a b d e).isSome): qGD a b d e (qjC k a b d e) := qJ h (qPg k a b d e)
def qnu (a : Int) (b : Int) (d : Int) (e : Int) (r : Int) : List (Nat × Blk) := [(0, .var 3 [ri b]), (0, .var 3 [ri d]), (0, .var 3 [ri e])]
abbrev qzt (a : Int) (b : Int) (d : Int) (e : Int) (r : Int) : Prop := CC Tryz.prog 216 [ri a, .fn (.func 217) [] [.ptr 0 0 0, .ptr 1 0 0, .ptr 2 0 0]] [.var 3 [ri b], .var 3 [ri d], .var 3 [ri e]] (ri r) (qnu a b d e r)
def qDS := fun (a : Int) b d e y0 y1 => (⟨qM 26 [(1, .fn (Fn.func 217) [] [.ptr 0 0 0, .ptr 1 0 0, .ptr 2 0 0]), (5, ri y0), (6, ri y1)], [(0, 0, .var 3 [ri b]), (1, 0, .var 3 [ri d]), (2, 0, .var 3 [ri e])]⟩ : St)
def Wt (k : Nat) (a : Int) (b : Int) (d : Int) (e : Int) : Nat → Int → Int → Option Int
 | 0, _, _ => none
 | j + 1, y0, y1 =>
 bif y0 < y1 then
 if ((0 : Int) ≤ (1 : Int)) then
 if ((qiM k (qa .i64 ((IntKind.u64.wrap (qa .i64 (y0 + y1))).fdiv (2 ^ min (ql 1) IntKind.u64.bits))) b d e).isSome) then
 bif (!qjC k (qa .i64 ((IntKind.u64.wrap (qa .i64 (y0 + y1))).fdiv ((2 : Int) ^ min (ql (1 : Int)) IntKind.u64.bits))) b d e) then
 Wt k a b d e j (qa .i64 (qa .i64 ((IntKind.u64.wrap (qa .i64 (y0 + y1))).fdiv (2 ^ min (ql 1) IntKind.u64.bits)) + 1)) y1
 else
 Wt k a b d e j y0 (qa .i64 ((IntKind.u64.wrap (qa .i64 (y0 + y1))).fdiv (2 ^ min (ql 1) IntKind.u64.bits)))
 else none
 else none
 else
 some y0
def qhl (k : Nat) (a : Int) (b : Int) (d : Int) (e : Int) : Option Int :=
 Wt k a b d e k 0 a
def qch := fun k a b d e => (qhl k a b d e).getD 0
def qKo (k : Nat) : Ke := (216, fun
 | [_, .fn (.func 217) _ _] => some [false, true]
 | _ => none, fun
 | [.r (.v (.int .i64 a)), .fn (.func 217) [] [.ptr 0 0 0, .ptr 1 0 0, .ptr 2 0 0]], [.var 3 [.r (.v (.int .i64 b))], .var 3 [.r (.v (.int .i64 d))], .var 3 [.r (.v (.int .i64 e))]] => some (.one (ri (qch k a b d e), qnu a b d e (qch k a b d e)))
 | _, _ => none)
def qu5 : List (Nat × List Cmd) := [(2, [.autoB [1, 5, 6] false []])]
abbrev qMw := fun a b d e => EP Tryz.f216 3 ri (qnu a b d e)
theorem qvC (k a b d e) : ∀ j, (∀ y0 y1, qMw a b d e 2 (qDS a b d e y0 y1) (Wt k a b d e j y0 y1))
 | 0 => by intros; exact e0
 | j + 1 => by
  have ih := @qvC k a b d e j
  ·intro y0 y1 r h
   rw [Wt] at h
   exact go (qA [qr3 k]) [] qu5 [.autoB [4] true []] (gS h (fun h => qv h id fun h => qv h qM8 fun h => gS h (fun h => gC h 2 (ih _ _ _)) fun h => gC h 2 (ih _ _ _)) fun h => gL h)
theorem qLw (k a b d e r) (h : qhl k a b d e = some r): qzt a b d e r := qO Tryz.f216 (go (qA [qr3 k]) [] qu5 [.autoB [4] true []] (gC h 2 ((qvC k a b d e k) _ _ _)))
theorem qJs {k a b d e} (h : (qhl k a b d e).isSome): qzt a b d e (qch k a b d e) := qJ h (qLw k a b d e)
def qwe (r : Int × Int) : AV := .tup [ri r.1, ri r.2]
abbrev qGC (a : Int) (b : Int) (d : Int) (r : Int × Int) : Prop := CC Tryz.prog 179 [ri a, ri b, ri d] [] (qwe r) (nb r)
def qiL (k : Nat) (a : Int) (b : Int) (d : Int) : Option (Int × Int) :=
 if ((qme k a d).isSome) then
 bif (!qqS k a d || decide (b < 0) || decide (b > 17179869184)) then
 some (0, 1)
 else
 if ((qhl k (qa .i64 (qa .i64 (2500 - a) + 1)) a d b).isSome) then
 bif qa .i64 (a + qch k (qa .i64 (qa .i64 ((2500 : Int) - a) + (1 : Int))) a d b) > (2500 : Int) then
 some (0, 32)
 else
 some (qa .i64 (a + qch k (qa .i64 (qa .i64 (2500 - a) + 1)) a d b), 0)
 else none
 else none
def qf4 := fun k a b d => (qiL k a b d).getD (0, 0)
def qN6 (k : Nat) : Ke := (179, mo 3, fun
 | [.r (.v (.int .i64 a)), .r (.v (.int .i64 b)), .r (.v (.int .i64 d))], [] => some (.one (qwe (qf4 k a b d), []))
 | _, _ => none)
theorem qPf (k a b d r) (h : qiL k a b d = some r): qGC a b d r := qO Tryz.f179 (go (qA [qN8 k, qr3 k, qKo k]) [] [] [.autoB [6, 7] true []] (qv h qNa fun h => qu h fun h => qv h qJs fun h => qu h fun h => gL h))
theorem qM7 {k a b d} (h : (qiL k a b d).isSome): qGC a b d (qf4 k a b d) := qJ h (qPf k a b d)
abbrev qzf (a : T6.T) (r : Int) : Prop := CC Tryz.prog 164 [.agg (qB (qr T6 a))] [] (ri r) (nb r)
def qhh (k : Nat) (a : T6.T) : Option Int :=
 bif (decide (a.1 < (0 : Int)) || decide (a.1 > a.2.1) || decide (a.2.1 > (12000 : Int)) || decide (a.2.2.1 < (0 : Int)) || decide (a.2.2.1 > a.2.2.2) || decide (a.2.2.2 > (17179869184 : Int))) then
 some 1
 else
 some 0
def qeR := fun k a => (qhh k a).getD 0
def qvV (k : Nat) : Ke := (164, mo 1, fun
 | [.agg b], [] => (qX [] T6 b).bind fun a => some (.one (ri (qeR k a), []))
 | _, _ => none)
theorem qLe (k a r) (h : qhh k a = some r): qzf a r := qO Tryz.f164 (go (qA []) [] [] [.autoB [2] true []] (qu h fun h => gL h))
theorem qJf {k a} (h : (qhh k a).isSome): qzf a (qeR k a) := qJ h (qLe k a)
abbrev qGB (a : List T7.T) (r : Int) : Prop := CC Tryz.prog 113 [ro T7 a] [] (ri r) (nb r)
def qFG := fun y0 y1 y2 => (⟨qM 58 [(9, ro T7 y0), (10, ri y1), (11, ri y2)], []⟩ : St)
def Ya (k : Nat) : Nat → List T7.T → Int → Int → Option Int
 | 0, _, _, _ => none
 | j + 1, y0, y1, y2 =>
 bif y2 < y1 then
 if (0 ≤ y2) ∧ (y2 < y0.length) then
 if ((qhh k (y0.getD y2.toNat T7.dflt).1).isSome) then
 bif (qeR k (y0.getD y2.toNat T7.dflt).1 != (0 : Int)) then
 some (qeR k (y0.getD y2.toNat T7.dflt).1)
 else
 bif ((y0.getD y2.toNat T7.dflt).1.1 == (y0.getD y2.toNat T7.dflt).1.2.1 || (y0.getD y2.toNat T7.dflt).1.2.2.1 == (y0.getD y2.toNat T7.dflt).1.2.2.2) then
 some 10
 else
 bif (decide ((y0.getD y2.toNat T7.dflt).2.1 < (1 : Int)) || decide ((y0.getD y2.toNat T7.dflt).2.1 > (16 : Int)) || decide ((y0.getD y2.toNat T7.dflt).2.2 < (1 : Int)) || decide ((y0.getD y2.toNat T7.dflt).2.2 > (100 : Int))) then
 some 1
 else
 Ya k j y0 y1 (qa .i64 (y2 + 1))
 else none
 else none
 else
 some 0
def qiK (k : Nat) (a : List T7.T) : Option Int :=
 bif (↑a.length : Int) > (128 : Int) then
 some 8
 else
 Ya k k a (↑a.length : Int) 0
def qjB := fun k a => (qiK k a).getD 0
def qN5 (k : Nat) : Ke := (113, mo 1, fun
 | [.r (.ro d b)], [] => (qC d T7 b).bind fun a => some (.one (ri (qjB k a), []))
 | _, _ => none)
def qAW : List (Nat × List Cmd) := [(4, [.autoB [9, 10, 11] false []])]
abbrev qQL := EP Tryz.f113 0 ri nb
theorem qBI (k) : ∀ j, (∀ y0 y1 y2, qQL 4 (qFG y0 y1 y2) (Ya k j y0 y1 y2))
 | 0 => by intros; exact e0
 | j + 1 => by
  have ih := @qBI k j
  ·intro y0 y1 y2 r h
   rw [Ya] at h
   exact go (qA [qvV k]) [] qAW [.autoB [2] true []] (gS h (fun h => qU h fun h => qv h qJf fun h => qu h fun h => qu h fun h => qu h fun h => gC h 4 (ih _ _ _ _)) fun h => gL h)
theorem qPe (k a r) (h : qiK k a = some r): qGB a r := qO Tryz.f113 (go (qA [qvV k]) [] qAW [.autoB [2] true []] (qu h fun h => gC h 4 ((qBI k k) _ _ _ _)))
theorem qM6 {k a} (h : (qiK k a).isSome): qGB a (qjB k a) := qJ h (qPe k a)
def qwm (r : Int × Int) : AV := .tup [ri r.1, ri r.2]
abbrev qGR (a : T4.T) (b : Int) (d : Int) (r : Int × Int) : Prop := CC Tryz.prog 114 [.agg (qB (qr T4 a)), ri b, ri d] [] (qwm r) (nb r)
def qiT (k : Nat) (a : T4.T) (b : Int) (d : Int) : Option (Int × Int) :=
 bif a.2.2.1 then
 some (qa .i64 (a.2.1 - qa .i64 (d - a.1)), qa .i64 (a.2.1 - qa .i64 (b - a.1)))
 else
 some (qa .i64 (b - a.1), qa .i64 (d - a.1))
def qm7 := fun k a b d => (qiT k a b d).getD (0, 0)
def qOf (k : Nat) : Ke := (114, mo 3, fun
 | [.agg e, .r (.v (.int .i64 b)), .r (.v (.int .i64 d))], [] => (qX [] T4 e).bind fun a => some (.one (qwm (qm7 k a b d), []))
 | _, _ => none)
theorem qPw (k a b d r) (h : qiT k a b d = some r): qGR a b d r := qO Tryz.f114 (go (qA []) [] [] [.autoB [6, 7] true []] (qu h fun h => gL h))
theorem qNj {k a b d} (h : (qiT k a b d).isSome): qGR a b d (qm7 k a b d) := qJ h (qPw k a b d)
abbrev qlJ : Type := List T21.T × Int
def qoA (r : qlJ) : AV := .tup [ro T21 r.1, ri r.2]
abbrev qGY (a : List T3.T) (b : T21.T) (r : qlJ) : Prop := CC Tryz.prog 115 [ro T3 a, .agg (qB (qr T21 b))] [] (qoA r) (nb r)
def qFO := fun y0 y1 y2 y3 y4 y5 => (⟨qM 89 [(3, .ptr 1000000 0 0), (7, .own 1000001 0), (8, ri y0), (35, ro T3 y1), (36, ri y2), (37, ri y3)], [(1000000, 0, .var 91 (qB (qr T21 y4))), (1000001, 0, .row 91 T21 y5)]⟩ : St)
def qEe := fun y0 => (⟨qM 89 [(7, ro T21 y0)], []⟩ : St)
mutual
def ZU (k : Nat) : Nat → Int → List T3.T → Int → Int → T21.T → List T21.T → Option qlJ
 | 0, _, _, _, _, _, _ => none
 | j + 1, y0, y1, y2, y3, y4, y5 =>
 bif y3 < y2 then
 if (0 ≤ y3) ∧ (y3 < y1.length) then
 if ((qfr k (y1.getD y3.toNat T3.dflt)).isSome) then
 bif (if y4.1 > (wm k (y1.getD y3.toNat T3.dflt)).1 then y4.1 else (wm k (y1.getD y3.toNat T3.dflt)).1) < if y4.2 < (wm k (y1.getD y3.toNat T3.dflt)).2 then y4.2 else (wm k (y1.getD y3.toNat T3.dflt)).2 then
 bif (y1.getD y3.toNat T3.dflt).2.2 then
 if ((y5.length + [(qa .i64 (y0 + qa .i64 ((wm k (y1.getD y3.toNat T3.dflt)).2 - if y4.2 < (wm k (y1.getD y3.toNat T3.dflt)).2 then y4.2 else (wm k (y1.getD y3.toNat T3.dflt)).2)), qa .i64 (qa .i64 (qa .i64 (y0 + qa .i64 ((wm k (y1.getD y3.toNat T3.dflt)).2 - if y4.2 < (wm k (y1.getD y3.toNat T3.dflt)).2 then y4.2 else (wm k (y1.getD y3.toNat T3.dflt)).2)) + if y4.2 < (wm k (y1.getD y3.toNat T3.dflt)).2 then y4.2 else (wm k (y1.getD y3.toNat T3.dflt)).2) - if y4.1 > (wm k (y1.getD y3.toNat T3.dflt)).1 then y4.1 else (wm k (y1.getD y3.toNat T3.dflt)).1))].length) * (16 : Nat) ≤ (140737488355328 : Nat)) then
 ZU k j (qa .i64 (y0 + (y1.getD y3.toNat T3.dflt).2.1)) y1 y2 (qa .i64 (y3 + 1)) y4 (y5 ++ [(qa .i64 (y0 + qa .i64 ((wm k (y1.getD y3.toNat T3.dflt)).2 - if y4.2 < (wm k (y1.getD y3.toNat T3.dflt)).2 then y4.2 else (wm k (y1.getD y3.toNat T3.dflt)).2)), qa .i64 (qa .i64 (qa .i64 (y0 + qa .i64 ((wm k (y1.getD y3.toNat T3.dflt)).2 - if y4.2 < (wm k (y1.getD y3.toNat T3.dflt)).2 then y4.2 else (wm k (y1.getD y3.toNat T3.dflt)).2)) + if y4.2 < (wm k (y1.getD y3.toNat T3.dflt)).2 then y4.2 else (wm k (y1.getD y3.toNat T3.dflt)).2) - if y4.1 > (wm k (y1.getD y3.toNat T3.dflt)).1 then y4.1 else (wm k (y1.getD y3.toNat T3.dflt)).1))])
 else none
 else
 if ((y5.length + [(qa .i64 (y0 + qa .i64 ((if y4.1 > (wm k (y1.getD y3.toNat T3.dflt)).1 then y4.1 else (wm k (y1.getD y3.toNat T3.dflt)).1) - (wm k (y1.getD y3.toNat T3.dflt)).1)), qa .i64 (qa .i64 (qa .i64 (y0 + qa .i64 ((if y4.1 > (wm k (y1.getD y3.toNat T3.dflt)).1 then y4.1 else (wm k (y1.getD y3.toNat T3.dflt)).1) - (wm k (y1.getD y3.toNat T3.dflt)).1)) + if y4.2 < (wm k (y1.getD y3.toNat T3.dflt)).2 then y4.2 else (wm k (y1.getD y3.toNat T3.dflt)).2) - if y4.1 > (wm k (y1.getD y3.toNat T3.dflt)).1 then y4.1 else (wm k (y1.getD y3.toNat T3.dflt)).1))].length) * (16 : Nat) ≤ (140737488355328 : Nat)) then
 ZU k j (qa .i64 (y0 + (y1.getD y3.toNat T3.dflt).2.1)) y1 y2 (qa .i64 (y3 + 1)) y4 (y5 ++ [(qa .i64 (y0 + qa .i64 ((if y4.1 > (wm k (y1.getD y3.toNat T3.dflt)).1 then y4.1 else (wm k (y1.getD y3.toNat T3.dflt)).1) - (wm k (y1.getD y3.toNat T3.dflt)).1)), qa .i64 (qa .i64 (qa .i64 (y0 + qa .i64 ((if y4.1 > (wm k (y1.getD y3.toNat T3.dflt)).1 then y4.1 else (wm k (y1.getD y3.toNat T3.dflt)).1) - (wm k (y1.getD y3.toNat T3.dflt)).1)) + if y4.2 < (wm k (y1.getD y3.toNat T3.dflt)).2 then y4.2 else (wm k (y1.getD y3.toNat T3.dflt)).2) - if y4.1 > (wm k (y1.getD y3.toNat T3.dflt)).1 then y4.1 else (wm k (y1.getD y3.toNat T3.dflt)).1))])
 else none
 else
 ZU k j (qa .i64 (y0 + (y1.getD y3.toNat T3.dflt).2.1)) y1 y2 (qa .i64 (y3 + 1)) y4 y5
 else none
 else none
 else
 qfo k j y5
def qfo (k : Nat) : Nat → List T21.T → Option qlJ
 | 0, _ => none
 | j + 1, y0 =>
 if ((qbB k y0).isSome) then
 some ((qan k y0).1, (qan k y0).2)
 else none
end
def qiW (k : Nat) (a : List T3.T) (b : T21.T) : Option qlJ :=
 if ((ZT k a).isSome) then
 bif (vP k a != (0 : Int)) then
 some ([], vP k a)
 else
 bif (decide (b.1 < (0 : Int)) || decide (b.1 > b.2) || decide (b.2 > (17179869184 : Int))) then
 some ([], 1)
 else
 ZU k k 0 a (↑a.length : Int) 0 b ([])
 else none
def qc0 := fun k a b => (qiW k a b).getD ([], 0)
def qOk (k : Nat) : Ke := (115, mo 2, fun
 | [.r (.ro f d), .agg e], [] => (qC f T3 d).bind fun a => (qX [] T21 e).bind fun b => some (.one (qoA (qc0 k a b), []))
 | _, _ => none)
def qA4 : List (Nat × List Cmd) := [(9, [.row 7 91 T21, .autoB [3, 7, 8, 35, 36, 37] false []]), (20, [.frz 7 false (RTy.list T21), .autoB [7] false []])]
abbrev qHG := EP Tryz.f115 0 qoA nb
theorem qBP (k) : ∀ j, (∀ {y0 y1 y2 y3 y4 y5}, qHG 9 (qFO y0 y1 y2 y3 y4 y5) (ZU k j y0 y1 y2 y3 y4 y5)) ∧ (∀ {y0}, qHG 20 (qEe y0) (qfo k j y0))
 | 0 => by and_intros <;> intros <;> exact e0
 | j + 1 => by
  have ih := @qBP k j
  have g := @go (qA [qbR k, qmD k, qjj k]) [20] qA4 [.frz 4 false (RTy.list T21), .autoB [4, 5] true []]
  refine ⟨?_, ?_⟩
  ·intro y0 y1 y2 y3 y4 y5 r h
   rw [ZU] at h
   exact g (gS h (fun h => qU h fun h => qv h qAw fun h => gS h (fun h => gS h (fun h => qv h id fun h => gD h 9 ih.1) fun h => qv h id fun h => gD h 9 ih.1) fun h => gD h 9 ih.1) fun h => gD h 20 ih.2)
  ·intro y0 r h
   rw [qfo] at h
   exact g (qv h qux fun h => gL h)
theorem qPD (k a b r) (h : qiW k a b = some r): qGY a b r := qO Tryz.f115 (go (qA [qbR k, qmD k, qjj k]) [20] qA4 [.frz 4 false (RTy.list T21), .autoB [4, 5] true []] (qv h qbk fun h => qu h fun h => qu h fun h => gD h 9 (qBP k k).1))
theorem qNp {k a b} (h : (qiW k a b).isSome): qGY a b (qc0 k a b) := qJ h (qPD k a b)
abbrev qlH : Type := List T7.T × Int
def qox (r : qlH) : AV := .tup [ro T7 r.1, ri r.2]
abbrev qGP (a : List T5.T) (b : T19.T) (d : List T7.T) (e : Int) (r : qlH) : Prop := CC Tryz.prog 67 [ro T5 a, .agg (qB (qr T19 b)), ro T7 d, ri e] [] (qox r) (nb r)
def qFK := fun y0 y1 y2 y3 y4 => (⟨qM 111 [(10, .ptr 1000000 0 0), (13, .own 1000001 0), (37, ro T7 y0), (38, ri y1), (39, ri y2)], [(1000000, 0, .var 45 (qB (qr T4 y3))), (1000001, 0, .row 127 T7 y4)]⟩ : St)
def qEc := fun y0 y1 y2 y3 y4 y5 y6 y7 y8 y9 y10 => (⟨qM 111 [(10, .ptr 1000000 0 0), (13, .own 1000001 0), (15, .ptr 1000002 0 0), (16, ri y0), (17, ri y1), (37, ro T7 y2), (38, ri y3), (39, ri y4), (84, ro T21 y5), (85, ri y6), (86, ri y7)], [(1000000, 0, .var 45 (qB (qr T4 y8))), (1000001, 0, .row 127 T7 y9), (1000002, 0, .var 127 (qB (qr T7 y10)))]⟩ : St)
mutual
def ZS (k : Nat) : Nat → List T7.T → Int → Int → T4.T → List T7.T → Option qlH
 | 0, _, _, _, _, _ => none
 | j + 1, y0, y1, y2, y3, y4 =>
 bif y2 < y1 then
 if (0 ≤ y2) ∧ (y2 < y0.length) then
 bif (if y3.1 > (y0.getD y2.toNat T7.dflt).1.1 then y3.1 else (y0.getD y2.toNat T7.dflt).1.1) ≥ if qa .i64 (y3.1 + y3.2.1) < (y0.getD y2.toNat T7.dflt).1.2.1 then qa .i64 (y3.1 + y3.2.1) else (y0.getD y2.toNat T7.dflt).1.2.1 then
 ZS k j y0 y1 (qa .i64 (y2 + 1)) y3 y4
 else
 if ((qiT k y3 (if y3.1 > (y0.getD y2.toNat T7.dflt).1.1 then y3.1 else (y0.getD y2.toNat T7.dflt).1.1) (if qa .i64 (y3.1 + y3.2.1) < (y0.getD y2.toNat T7.dflt).1.2.1 then qa .i64 (y3.1 + y3.2.1) else (y0.getD y2.toNat T7.dflt).1.2.1)).isSome) then
 if ((qiW k y3.2.2.2 (y0.getD y2.toNat T7.dflt).1.2.2).isSome) then
 bif ((qc0 k y3.2.2.2 (y0.getD y2.toNat T7.dflt).1.2.2).2 != (0 : Int)) then
 some ([], (qc0 k y3.2.2.2 (y0.getD y2.toNat T7.dflt).1.2.2).2)
 else
 ZB k j ((qm7 k y3 (if y3.1 > (y0.getD y2.toNat T7.dflt).1.1 then y3.1 else (y0.getD y2.toNat T7.dflt).1.1) (if qa .i64 (y3.1 + y3.2.1) < (y0.getD y2.toNat T7.dflt).1.2.1 then qa .i64 (y3.1 + y3.2.1) else (y0.getD y2.toNat T7.dflt).1.2.1)).1) ((qm7 k y3 (if y3.1 > (y0.getD y2.toNat T7.dflt).1.1 then y3.1 else (y0.getD y2.toNat T7.dflt).1.1) (if qa .i64 (y3.1 + y3.2.1) < (y0.getD y2.toNat T7.dflt).1.2.1 then qa .i64 (y3.1 + y3.2.1) else (y0.getD y2.toNat T7.dflt).1.2.1)).2) y0 y1 y2 ((qc0 k y3.2.2.2 (y0.getD y2.toNat T7.dflt).1.2.2).1) (↑ (qc0 k y3.2.2.2 (y0.getD y2.toNat T7.dflt).1.2.2).1.length : Int) 0 y3 y4 (y0.getD y2.toNat T7.dflt)
 else none
 else none
 else none
 else
 bif (↑y4.length : Int) > (128 : Int) then
 some ([], 8)
 else
 some (y4, 0)
def ZB (k : Nat) : Nat → Int → Int → List T7.T → Int → Int → List T21.T → Int → Int → T4.T → List T7.T → T7.T → Option qlH
 | 0, _, _, _, _, _, _, _, _, _, _, _ => none
 | j + 1, y0, y1, y2, y3, y4, y5, y6, y7, y8, y9, y10 =>
 bif y7 < y6 then
 if (0 ≤ y7) ∧ (y7 < y5.length) then
 if ((y9.length + [((y0, y1, y5.getD y7.toNat T21.dflt), y10.2)].length) * (48 : Nat) ≤ (140737488355328 : Nat)) then
 ZB k j y0 y1 y2 y3 y4 y5 y6 (qa .i64 (y7 + 1)) y8 (y9 ++ [((y0, y1, y5.getD y7.toNat T21.dflt), y10.2)]) y10
 else none
 else none
 else
 ZS k j y2 y3 (qa .i64 (y4 + 1)) y8 y9
end
def qiR (k : Nat) (a : List T5.T) (b : T19.T) (d : List T7.T) (e : Int) : Option qlH :=
 if ((qfm k a b e).isSome) then
 bif ((ze k a b e).2 != (0 : Int)) then
 some ([], (ze k a b e).2)
 else
 if ((qiK k d).isSome) then
 bif (qjB k d != (0 : Int)) then
 some ([], qjB k d)
 else
 ZS k k d (↑d.length : Int) 0 ((ze k a b e).1) ([])
 else none
 else none
def qcY := fun k a b d e => (qiR k a b d e).getD ([], 0)
def qCx (k : Nat) : Ke := (67, mo 4, fun
 | [.r (.ro m f), .agg l, .r (.ro n i), .r (.v (.int .i64 e))], [] => (qC m T5 f).bind fun a => (qX [] T19 l).bind fun b => (qC n T7 i).bind fun d => some (.one (qox (qcY k a b d e), []))
 | _, _ => none)
def qHZ (k : Nat) : Calld := qA [qCs k, qN5 k, qOf k, qOk k]
def qA0 : List (Nat × List Cmd) := [(9, [.row 13 127 T7, .autoB [10, 13, 37, 38, 39] false []]), (18, [.row 13 127 T7, .autoB [10, 13, 15, 16, 17, 37, 38, 39, 84, 85, 86] false []])]
abbrev qHE := EP Tryz.f67 0 qox nb
theorem qBL (k) : ∀ j, (∀ {y0 y1 y2 y3 y4}, qHE 9 (qFK y0 y1 y2 y3 y4) (ZS k j y0 y1 y2 y3 y4)) ∧ (∀ {y0 y1 y2 y3 y4 y5 y6 y7 y8 y9 y10}, qHE 18 (qEc y0 y1 y2 y3 y4 y5 y6 y7 y8 y9 y10) (ZB k j y0 y1 y2 y3 y4 y5 y6 y7 y8 y9 y10))
 | 0 => by and_intros <;> intros <;> exact e0
 | j + 1 => by
  have ih := @qBL k j
  have g := @go (qHZ k) [] qA0 [.frz 8 false (RTy.list T7), .autoB [8, 9] true []]
  refine ⟨?_, ?_⟩
  ·intro y0 y1 y2 y3 y4 r h
   rw [ZS] at h
   exact g (gS h (fun h => qU h fun h => gS h (fun h => gD h 9 ih.1) fun h => qv h qNj fun h => qv h qNp fun h => qu h fun h => gD h 18 ih.2) fun h => qu h fun h => gL h)
  ·intro y0 y1 y2 y3 y4 y5 y6 y7 y8 y9 y10 r h
   rw [ZB] at h
   exact g (gS h (fun h => qU h fun h => qv h id fun h => gD h 18 ih.2) fun h => gD h 9 ih.1)
theorem qPu (k a b d e r) (h : qiR k a b d e = some r): qGP a b d e r := qO Tryz.f67 (go (qHZ k) [] qA0 [.frz 8 false (RTy.list T7), .autoB [8, 9] true []] (qv h qAp fun h => qu h fun h => qv h qM6 fun h => qu h fun h => gD h 9 (qBL k k).1))
theorem qNh {k a b d e} (h : (qiR k a b d e).isSome): qGP a b d e (qcY k a b d e) := qJ h (qPu k a b d e)
def qoy (r : Int × Int) : AV := .tup [ri r.1, ri r.2]
abbrev qGQ (a : List T5.T) (b : T19.T) (d : List T7.T) (e : Int) (r : Int × Int) : Prop := CC Tryz.prog 180 [ro T5 a, .agg (qB (qr T19 b)), ro T7 d, ri e] [] (qoy r) (nb r)
def qFL := fun y0 y1 y2 y3 => (⟨qM 38 [(12, ri y0), (26, ro T7 y1), (27, ri y2), (28, ri y3)], []⟩ : St)
def Yc (k : Nat) : Nat → Int → List T7.T → Int → Int → Option (Int × Int)
 | 0, _, _, _, _ => none
 | j + 1, y0, y1, y2, y3 =>
 bif y3 < y2 then
 if (0 ≤ y3) ∧ (y3 < y1.length) then
 Yc k j (if (y1.getD y3.toNat T7.dflt).2.2 > y0 then (y1.getD y3.toNat T7.dflt).2.2 else y0) y1 y2 (qa .i64 (y3 + 1))
 else none
 else
 some (y0, 0)
def qiS (k : Nat) (a : List T5.T) (b : T19.T) (d : List T7.T) (e : Int) : Option (Int × Int) :=
 if ((qiR k a b d e).isSome) then
 bif ((qcY k a b d e).2 != (0 : Int)) then
 some (0, (qcY k a b d e).2)
 else
 Yc k k 0 ((qcY k a b d e).1) (↑ (qcY k a b d e).1.length : Int) 0
 else none
def qf6 := fun k a b d e => (qiS k a b d e).getD (0, 0)
def qOe (k : Nat) : Ke := (180, mo 4, fun
 | [.r (.ro l f), .agg i, .r (.ro m g), .r (.v (.int .i64 e))], [] => (qC l T5 f).bind fun a => (qX [] T19 i).bind fun b => (qC m T7 g).bind fun d => some (.one (qoy (qf6 k a b d e), []))
 | _, _ => none)
def qA1 : List (Nat × List Cmd) := [(6, [.autoB [12, 26, 27, 28] false []])]
abbrev qQN := EP Tryz.f180 0 qoy nb
theorem qBM (k) : ∀ j, (∀ y0 y1 y2 y3, qQN 6 (qFL y0 y1 y2 y3) (Yc k j y0 y1 y2 y3))
 | 0 => by intros; exact e0
 | j + 1 => by
  have ih := @qBM k j
  ·intro y0 y1 y2 y3 r h
   rw [Yc] at h
   exact go (qA [qCx k]) [] qA1 [.autoB [8, 9] true []] (gS h (fun h => qU h fun h => gC h 6 (ih _ _ _ _ _)) fun h => gL h)
theorem qPv (k a b d e r) (h : qiS k a b d e = some r): qGQ a b d e r := qO Tryz.f180 (go (qA [qCx k]) [] qA1 [.autoB [8, 9] true []] (qv h qNh fun h => qu h fun h => gC h 6 ((qBM k k) _ _ _ _ _)))
theorem qNi {k a b d e} (h : (qiS k a b d e).isSome): qGQ a b d e (qf6 k a b d e) := qJ h (qPv k a b d e)
abbrev qq2 : Type := T22.T × Int
def qs9 (r : qq2) : AV := .tup [.agg (qB (qr T22 r.1)), ri r.2]
abbrev qzo (a : T28.T) (b : Int) (r : qq2) : Prop := CC Tryz.prog 132 [.agg (qB (qr T28 a)), ri b] [] (qs9 r) (nb r)
def Y6 (k : Nat) (a : T28.T) (b : Int) : Option qq2 :=
 if ((qfm k a.1 a.2.1 b).isSome) then
 bif ((ze k a.1 a.2.1 b).2 != (0 : Int)) then
 some ((0, (false, (0, (0, (0, 0))))), (ze k a.1 a.2.1 b).2)
 else
 bif (b == 0) then
 some ((0, (false, (0, (0, (0, 0))))), 7)
 else
 if ((Xf k a.2.2.1).isSome) then
 bif (QP k a.2.2.1 != (0 : Int)) then
 some ((0, (false, (0, (0, (0, 0))))), QP k a.2.2.1)
 else
 if ((qej k a).isSome) then
 bif (!qij k a) then
 some ((0, (false, (0, (0, (0, 0))))), 21)
 else
 if ((qfp k (ze k a.1 a.2.1 b).1.2.2.2).isSome) then
 bif ((vb k (ze k a.1 a.2.1 b).1.2.2.2).2 != (0 : Int)) then
 some ((0, (false, (0, (0, (0, 0))))), (vb k (ze k a.1 a.2.1 b).1.2.2.2).2)
 else
 if ((qhk k a (vb k (ze k a.1 a.2.1 b).1.2.2.2).1).isSome) then
 bif (decide ((QQ k a (vb k (ze k a.1 a.2.1 b).1.2.2.2).1).1 < (0 : Int)) || decide ((QQ k a (vb k (ze k a.1 a.2.1 b).1.2.2.2).1).1 ≥ (↑ (qb a.2.2.2.2.1) : Int))) then
 some ((0, (false, (0, (0, (0, 0))))), 22)
 else
 if ((qaJ k (ze k a.1 a.2.1 b).1.2.2.2).isSome) then
 if ((0 : Int) ≤ (QQ k a (vb k (ze k a.1 a.2.1 b).1.2.2.2).1).1) ∧ ((QQ k a (vb k (ze k a.1 a.2.1 b).1.2.2.2).1).1 < (↑ (qb a.2.2.2.2.1) : Int)) ∧ ((qiL k a.2.2.2.2.2 (XQ k (ze k a.1 a.2.1 b).1.2.2.2).1 (qI a.2.2.2.2.1 (QQ k a (vb k (ze k a.1 a.2.1 b).1.2.2.2).1).1.toNat T0.dflt).2.2.2.2.2.1).isSome) then
 bif ((qf4 k a.2.2.2.2.2 (XQ k (ze k a.1 a.2.1 b).1.2.2.2).1 (qI a.2.2.2.2.1 (QQ k a (vb k (ze k a.1 a.2.1 b).1.2.2.2).1).1.toNat T0.dflt).2.2.2.2.2.1).2 != (0 : Int)) then
 some ((0, (false, (0, (0, (0, 0))))), (qf4 k a.2.2.2.2.2 (XQ k (ze k a.1 a.2.1 b).1.2.2.2).1 (qI a.2.2.2.2.1 (QQ k a (vb k (ze k a.1 a.2.1 b).1.2.2.2).1).1.toNat T0.dflt).2.2.2.2.2.1).2)
 else
 if ((qiS k a.1 a.2.1 a.2.2.2.1 b).isSome) then
 bif ((qf6 k a.1 a.2.1 a.2.2.2.1 b).2 != (0 : Int)) then
 some ((0, (false, (0, (0, (0, 0))))), (qf6 k a.1 a.2.1 a.2.2.2.1 b).2)
 else
 some (((QQ k a (vb k (ze k a.1 a.2.1 b).1.2.2.2).1).1, ((QQ k a (vb k (ze k a.1 a.2.1 b).1.2.2.2).1).2, ((ze k a.1 a.2.1 b).1.2.1, ((qf4 k a.2.2.2.2.2 (XQ k (ze k a.1 a.2.1 b).1.2.2.2).1 (qI a.2.2.2.2.1 (QQ k a (vb k (ze k a.1 a.2.1 b).1.2.2.2).1).1.toNat T0.dflt).2.2.2.2.2.1).1, (qa .i64 ((↑ (qb (ze k a.1 a.2.1 b).1.2.2.2) : Int) - 1), (qf6 k a.1 a.2.1 a.2.2.2.1 b).1))))), 0)
 else none
 else none
 else none
 else none
 else none
 else none
 else none
 else none
def va := fun k a b => (Y6 k a b).getD ((T22).dflt, 0)
def qvX (k : Nat) : Ke := (132, mo 2, fun
 | [.agg d, .r (.v (.int .i64 b))], [] => (qX [] T28 d).bind fun a => some (.one (qs9 (va k a b), []))
 | _, _ => none)
theorem qLn (k a b r) (h : Y6 k a b = some r): qzo a b r := qO Tryz.f132 (go (qA [qr7 k, qCy k, qev k, qCs k, qKh k, qKi k, qN6 k, qOe k]) [] [] [.autoB [4, 5] true []] (qv h qAp fun h => qu h fun h => qu h fun h => qv h qix fun h => qu h fun h => qv h qJk fun h => qu h fun h => qv h qAs fun h => qu h fun h => qv h qJl fun h => qu h fun h => qv h qrE fun h => gN h (fun q => qf q.1 (qf q.2.1 (qf (qM7 q.2.2) qP))) fun h => qu h fun h => qv h qNi fun h => qu h fun h => gL h))
theorem quw {k a b} (h : (Y6 k a b).isSome): qzo a b (va k a b) := qJ h (qLn k a b)
def qwc (r : T19.T) : AV := .agg (qB (qr T19 r))
def qz6 (a : T17.T) (b : List T18.T) (r : T19.T) : List (Nat × Blk) := [(0, .var 140 (qB (qr T17 a) ++ [.own 1 0])), (0, .row 54 T18 b)]
abbrev qGi (a : T17.T) (b : List T18.T) (r : T19.T) : Prop := CC Tryz.prog 144 [.ptr 0 0 0] [.var 140 (qB (qr T17 a) ++ [.own 1 0]), .row 54 T18 b] (qwc r) (qz6 a b r)
def qiE (k : Nat) (a : T17.T) (b : List T18.T) : Option T19.T :=
 some (a.2.1, a.2.2.1)
def vN := fun k a b => (qiE k a b).getD (T19).dflt
def qCm (k : Nat) : Ke := (144, fun
 | [.ptr _ _ _] => some [true, true, true]
 | _ => none, fun
 | [.ptr 0 0 0], [.var 140 d, .row 54 tb_22_ qb_22] => (qX [] T17 (d.take 22)).bind fun a => (qC tb_22_ T18 qb_22).bind fun b => some (.one (qwc (vN k a b), qz6 a b (vN k a b)))
 | _, _ => none)
theorem qOV (k a b r) (h : qiE k a b = some r): qGi a b r := qO Tryz.f144 (go (qA []) [] [] [.autoB [2] true []] (gL h))
theorem qAh {k a b} (h : (qiE k a b).isSome): qGi a b (vN k a b) := qJ h (qOV k a b)
def qwd (r : T28.T) : AV := .agg (qB (qr T28 r))
def qz7 (a : T17.T) (b : List T18.T) (r : T28.T) : List (Nat × Blk) := [(0, .var 140 (qB (qr T17 a) ++ [.own 1 0])), (0, .row 54 T18 b)]
abbrev qGm (a : T17.T) (b : List T18.T) (r : T28.T) : Prop := CC Tryz.prog 133 [.ptr 0 0 0] [.var 140 (qB (qr T17 a) ++ [.own 1 0]), .row 54 T18 b] (qwd r) (qz7 a b r)
def qiF (k : Nat) (a : T17.T) (b : List T18.T) : Option T28.T :=
 if ((qiE k a b).isSome) then
 some (a.2.2.2.2.2.2.2.2.2.2.2.1, (((vN k a b).1, (vN k a b).2), (a.2.2.2.2.2.2.2.2.2.1, (a.2.2.2.2.2.2.2.2.2.2.2.2.2.2.1, (a.2.2.2.2.2.2.2.1, a.2.2.2.2.2.1)))))
 else none
def vO := fun k a b => (qiF k a b).getD (T28).dflt
def qCp (k : Nat) : Ke := (133, fun
 | [.ptr _ _ _] => some [true, true, true]
 | _ => none, fun
 | [.ptr 0 0 0], [.var 140 d, .row 54 tb_22_ qb_22] => (qX [] T17 (d.take 22)).bind fun a => (qC tb_22_ T18 qb_22).bind fun b => some (.one (qwd (vO k a b), qz7 a b (vO k a b)))
 | _, _ => none)
theorem qOZ (k a b r) (h : qiF k a b = some r): qGm a b r := qO Tryz.f133 (go (qA [qCm k]) [] [] [.frz 2 true T28, .autoB [2] true []] (gN h (fun q => qf (⟨rfl, ⟨rfl, trivial⟩⟩ : QL (0, .var 140 ((qB (qr T17 a)) ++ [.own 1 0])) ∧ QL (0, .row 54 T18 b) ∧ True) (qf (qAh q) qP)) fun h => gL h))
theorem qAk {k a b} (h : (qiF k a b).isSome): qGm a b (vO k a b) := qJ h (qOZ k a b)
abbrev qci : Type := T17.T × List T18.T
def qor (r : qci) : AV := .tup []
def qrn (a : T17.T) (b : List T18.T) (r : qci) : List (Nat × Blk) := [(0, .var 140 ((qB (qr T17 r.1)) ++ [.own 1 1])), (1, .row 54 T18 r.2)]
abbrev qGo (a : T17.T) (b : List T18.T) (r : qci) : Prop := CC Tryz.prog 90 [.ptr 0 0 0] [.var 140 (qB (qr T17 a) ++ [.own 1 0]), .row 54 T18 b] (qor r) (qrn a b r)
def qFz := fun (a : T17.T) (b : List T18.T) y0 y1 y2 y3 y4 y5 => (⟨qM 111 [(0, .ptr 0 0 0), (3, .own 1000000 0), (31, ro T11 y0), (32, ri y1), (33, ri y2)], [(0, 0, .var 140 ((qB (qr T17 y3)) ++ [.own 1 1])), (1, 1, .row 54 T18 y4), (1000000, 0, .row 3 I y5)]⟩ : St)
def qFA := fun (a : T17.T) (b : List T18.T) y0 y1 y2 y3 y4 y5 y6 y7 y8 => (⟨qM 111 [(0, .ptr 0 0 0), (3, .own 1000000 0), (31, ro T11 y0), (32, ri y1), (33, ri y2), (38, ro I y3), (39, ri y4), (40, ri y5)], [(0, 0, .var 140 ((qB (qr T17 y6)) ++ [.own 1 1])), (1, 1, .row 54 T18 y7), (1000000, 0, .row 3 I y8)]⟩ : St)
def qD3 := fun (a : T17.T) (b : List T18.T) y0 y1 y2 y3 y4 y5 => (⟨qM 111 [(0, .ptr 0 0 0), (3, .own 1000000 0), (89, ro T9 y0), (90, ri y1), (91, ri y2)], [(0, 0, .var 140 ((qB (qr T17 y3)) ++ [.own 1 1])), (1, 1, .row 54 T18 y4), (1000000, 0, .row 3 I y5)]⟩ : St)
def qD4 := fun (a : T17.T) (b : List T18.T) y0 y1 y2 y3 y4 y5 y6 y7 y8 => (⟨qM 111 [(0, .ptr 0 0 0), (3, .own 1000000 0), (89, ro T9 y0), (90, ri y1), (91, ri y2), (96, ro I y3), (97, ri y4), (98, ri y5)], [(0, 0, .var 140 ((qB (qr T17 y6)) ++ [.own 1 1])), (1, 1, .row 54 T18 y7), (1000000, 0, .row 3 I y8)]⟩ : St)
mutual
def qiG (k : Nat) (a : T17.T) (b : List T18.T) : Nat → List T11.T → Int → Int → T17.T → List T18.T → List I.T → Option qci
 | 0, _, _, _, _, _, _ => none
 | j + 1, y0, y1, y2, y3, y4, y5 =>
 bif y2 < y1 then
 if (0 ≤ y2) ∧ (y2 < y0.length) then
 qa4 k a b j y0 y1 y2 ((y0.getD y2.toNat T11.dflt).2.2) (↑ (qb (y0.getD y2.toNat T11.dflt).2.2) : Int) 0 y3 y4 y5
 else none
 else
 qfi k a b j y3.2.2.2.2.2.2.2.2.2.2.2.2.2.2.2.1 (↑ (qb y3.2.2.2.2.2.2.2.2.2.2.2.2.2.2.2.1) : Int) 0 y3 y4 y5
def qa4 (k : Nat) (a : T17.T) (b : List T18.T) : Nat → List T11.T → Int → Int → List I.T → Int → Int → T17.T → List T18.T → List I.T → Option qci
 | 0, _, _, _, _, _, _, _, _, _ => none
 | j + 1, y0, y1, y2, y3, y4, y5, y6, y7, y8 =>
 bif y5 < y4 then
 if (0 ≤ y5) ∧ (y5 < y3.length) then
 if ((y8.length + [y3.getD y5.toNat I.dflt].length) * (8 : Nat) ≤ (140737488355328 : Nat)) then
 if ((qfg k y6 y7 (y3.getD y5.toNat I.dflt)).isSome) then
 bif (! (XO k y6 y7 (y3.getD y5.toNat I.dflt)).2) then
 if ((zl k y6 y7 6 (y3.getD y5.toNat I.dflt) 1).isSome) then
 qa4 k a b j y0 y1 y2 y3 y4 (qa .i64 (y5 + 1)) ((wg k y6 y7 6 (y3.getD y5.toNat I.dflt) 1).1) ((wg k y6 y7 6 (y3.getD y5.toNat I.dflt) 1).2) (y8 ++ [y3.getD y5.toNat I.dflt])
 else none
 else
 if ((qiF k y6 y7).isSome) ∧ ((Y6 k (vO k y6 y7) (y3.getD y5.toNat I.dflt)).isSome) then
 bif ((va k (vO k y6 y7) (y3.getD y5.toNat I.dflt)).2 == (0 : Int)) then
 none
 else
 bif ((va k (vO k y6 y7) (y3.getD y5.toNat I.dflt)).2 != (0 : Int)) then
 if ((zl k y6 y7 7 (y3.getD y5.toNat I.dflt) (va k (vO k y6 y7) (y3.getD y5.toNat I.dflt)).2).isSome) then
 qa4 k a b j y0 y1 y2 y3 y4 (qa .i64 (y5 + 1)) ((wg k y6 y7 7 (y3.getD y5.toNat I.dflt) (va k (vO k y6 y7) (y3.getD y5.toNat I.dflt)).2).1) ((wg k y6 y7 7 (y3.getD y5.toNat I.dflt) (va k (vO k y6 y7) (y3.getD y5.toNat I.dflt)).2).2) (y8 ++ [y3.getD y5.toNat I.dflt])
 else none
 else
 qa4 k a b j y0 y1 y2 y3 y4 (qa .i64 (y5 + 1)) y6 y7 (y8 ++ [y3.getD y5.toNat I.dflt])
 else none
 else none
 else none
 else none
 else
 qiG k a b j y0 y1 (qa .i64 (y2 + 1)) y6 y7 y8
def qfi (k : Nat) (a : T17.T) (b : List T18.T) : Nat → List T9.T → Int → Int → T17.T → List T18.T → List I.T → Option qci
 | 0, _, _, _, _, _, _ => none
 | j + 1, y0, y1, y2, y3, y4, y5 =>
 bif y2 < y1 then
 if (0 ≤ y2) ∧ (y2 < y0.length) then
 qbE k a b j y0 y1 y2 ((y0.getD y2.toNat T9.dflt).2.2.1) (↑ (qb (y0.getD y2.toNat T9.dflt).2.2.1) : Int) 0 y3 y4 y5
 else none
 else
 some (y3, y4)
def qbE (k : Nat) (a : T17.T) (b : List T18.T) : Nat → List T9.T → Int → Int → List I.T → Int → Int → T17.T → List T18.T → List I.T → Option qci
 | 0, _, _, _, _, _, _, _, _, _ => none
 | j + 1, y0, y1, y2, y3, y4, y5, y6, y7, y8 =>
 bif y5 < y4 then
 if (0 ≤ y5) ∧ (y5 < y3.length) then
 if ((qfk k y8 (y3.getD y5.toNat I.dflt)).isSome) then
 bif (!qjy k y8 (y3.getD y5.toNat I.dflt)) then
 if ((zl k y6 y7 6 (y3.getD y5.toNat I.dflt) 2).isSome) then
 qbE k a b j y0 y1 y2 y3 y4 (qa .i64 (y5 + 1)) ((wg k y6 y7 6 (y3.getD y5.toNat I.dflt) 2).1) ((wg k y6 y7 6 (y3.getD y5.toNat I.dflt) 2).2) y8
 else none
 else
 qbE k a b j y0 y1 y2 y3 y4 (qa .i64 (y5 + 1)) y6 y7 y8
 else none
 else none
 else
 qfi k a b j y0 y1 (qa .i64 (y2 + 1)) y6 y7 y8
end
def qqx (k : Nat) (a : T17.T) (b : List T18.T) : Option qci :=
 if ((qma k a.2.2.2.2.2.2.2.2.2.2.2.2.2.2.2.2.2.1).isSome) then
 bif (qeU k a.2.2.2.2.2.2.2.2.2.2.2.2.2.2.2.2.2.1 != (0 : Int)) then
 if ((zl k a b 6 0 (qeU k a.2.2.2.2.2.2.2.2.2.2.2.2.2.2.2.2.2.1)).isSome) then
 some ((wg k a b 6 0 (qeU k a.2.2.2.2.2.2.2.2.2.2.2.2.2.2.2.2.2.1)).1, (wg k a b 6 0 (qeU k a.2.2.2.2.2.2.2.2.2.2.2.2.2.2.2.2.2.1)).2)
 else none
 else
 qiG k a b k a.2.2.2.2.2.2.2.2.2.2.2.2.2.2.2.2.2.1 (↑ (qb a.2.2.2.2.2.2.2.2.2.2.2.2.2.2.2.2.2.1) : Int) 0 a b ([])
 else none
def qm4 := fun k a b => (qqx k a b).getD ((T17).dflt, [])
def qNY (k : Nat) : Ke := (90, fun
 | [.ptr _ _ _] => some [true]
 | _ => none, fun
 | [.ptr 0 0 0], [.var 140 d, .row 54 tb_22_ qb_22] => (qX [] T17 (d.take 22)).bind fun a => (qC tb_22_ T18 qb_22).bind fun b => some (.one (qor (qm4 k a b), qrn a b (qm4 k a b)))
 | _, _ => none)
def qHR (k : Nat) : Calld := qA [qbQ k, qmC k, qKj k, qCo k, qvX k, qCp k]
def qAM : List (Nat × List Cmd) := [(5, [.row 3 3 I, .autoB [0, 3, 31, 32, 33] false [1]]), (8, [.row 3 3 I, .autoB [0, 3, 31, 32, 33, 38, 39, 40] false [1]]), (22, [.autoB [0, 3, 89, 90, 91] false [1]]), (25, [.autoB [0, 3, 89, 90, 91, 96, 97, 98] false [1]])]
abbrev qqn := fun a b => EP Tryz.f90 2 qor (qrn a b)
theorem qBz (k a b) : ∀ j, (∀ {y0 y1 y2 y3 y4 y5}, qqn a b 5 (qFz a b y0 y1 y2 y3 y4 y5) (qiG k a b j y0 y1 y2 y3 y4 y5)) ∧ (∀ {y0 y1 y2 y3 y4 y5 y6 y7 y8}, qqn a b 8 (qFA a b y0 y1 y2 y3 y4 y5 y6 y7 y8) (qa4 k a b j y0 y1 y2 y3 y4 y5 y6 y7 y8)) ∧ (∀ {y0 y1 y2 y3 y4 y5}, qqn a b 22 (qD3 a b y0 y1 y2 y3 y4 y5) (qfi k a b j y0 y1 y2 y3 y4 y5)) ∧ (∀ {y0 y1 y2 y3 y4 y5 y6 y7 y8}, qqn a b 25 (qD4 a b y0 y1 y2 y3 y4 y5 y6 y7 y8) (qbE k a b j y0 y1 y2 y3 y4 y5 y6 y7 y8))
 | 0 => by and_intros <;> intros <;> exact e0
 | j + 1 => by
  have ih := @qBz k a b j
  have g := @go (qHR k) [] qAM [.autoB [] true [1]]
  refine ⟨?_, ?_, ?_, ?_⟩
  ·intro y0 y1 y2 y3 y4 y5 r h
   rw [qiG] at h
   exact g (gS h (fun h => qU h fun h => gD h 8 ih.2.1) fun h => gD h 22 ih.2.2.1)
  ·intro y0 y1 y2 y3 y4 y5 y6 y7 y8 r h
   rw [qa4] at h
   exact g (gS h (fun h => qU h fun h => qv h id fun h => gN h (fun q => qf (⟨rfl, ⟨rfl, trivial⟩⟩ : QL (0, .var 140 ((qB (qr T17 y6)) ++ [.own 1 1])) ∧ QL (1, .row 54 T18 y7) ∧ True) (qf (qAj q) qP)) fun h => gS h (fun h => qv h zk fun h => gD h 8 ih.2.1) fun h => gN h (fun q => qf (⟨rfl, ⟨rfl, trivial⟩⟩ : QL (0, .var 140 ((qB (qr T17 y6)) ++ [.own 1 1])) ∧ QL (1, .row 54 T18 y7) ∧ True) (qf (qAk q.1) (qf (quw q.2) qP))) fun h => gS h (fun h => gZ h (.stuck 2008)) fun h => gS h (fun h => qv h zk fun h => gD h 8 ih.2.1) fun h => gD h 8 ih.2.1) fun h => gD h 5 ih.1)
  ·intro y0 y1 y2 y3 y4 y5 r h
   rw [qfi] at h
   exact g (gS h (fun h => qU h fun h => gD h 25 ih.2.2.2) fun h => gL h)
  ·intro y0 y1 y2 y3 y4 y5 y6 y7 y8 r h
   rw [qbE] at h
   exact g (gS h (fun h => qU h fun h => qv h qAn fun h => gS h (fun h => qv h zk fun h => gD h 25 ih.2.2.2) fun h => gD h 25 ih.2.2.2) fun h => gD h 22 ih.2.2.1)
theorem qO1 (k a b r) (h : qqx k a b = some r): qGo a b r := qO Tryz.f90 (go (qHR k) [] qAM [.autoB [] true [1]] (qv h qJm fun h => gS h (fun h => qv h zk fun h => gL h) fun h => gD h 5 (qBz k a b k).1))
theorem qMX {k a b} (h : (qqx k a b).isSome): qGo a b (qm4 k a b) := qJ h (qO1 k a b)
abbrev qlC : Type := T17.T × List T18.T
def qoo (r : qlC) : AV := .tup []
def qrk (a : T17.T) (b : List T18.T) (r : qlC) : List (Nat × Blk) := [(0, .var 140 ((qB (qr T17 r.1)) ++ [.own 1 1])), (1, .row 54 T18 r.2)]
abbrev qGk (a : T17.T) (b : List T18.T) (r : qlC) : Prop := CC Tryz.prog 48 [.ptr 0 0 0] [.var 140 (qB (qr T17 a) ++ [.own 1 0]), .row 54 T18 b] (qoo r) (qrk a b r)
def qFw := fun (a : T17.T) (b : List T18.T) y0 y1 y2 y3 y4 => (⟨qM 121 [(0, .ptr 0 0 0), (2, .r (.v (Value.slice none 0 0))), (15, ro T9 y0), (16, ri y1), (17, ri y2)], [(0, 0, .var 140 ((qB (qr T17 y3)) ++ [.own 1 1])), (1, 1, .row 54 T18 y4)]⟩ : St)
def qnJ (k : Nat) (a : T17.T) (b : List T18.T) : Nat → List T9.T → Int → Int → T17.T → List T18.T → Option qlC
 | 0, _, _, _, _, _ => none
 | j + 1, y0, y1, y2, y3, y4 =>
 bif y2 < y1 then
 if (0 ≤ y2) ∧ (y2 < y0.length) then
 none
 else none
 else
 if ((qqx k y3 y4).isSome) then
 some ((qm4 k y3 y4).1, (qm4 k y3 y4).2)
 else none
def qqw (k : Nat) (a : T17.T) (b : List T18.T) : Option qlC :=
 qnJ k a b k a.2.2.2.2.2.2.2.2.2.2.2.2.2.2.2.1 (↑ (qb a.2.2.2.2.2.2.2.2.2.2.2.2.2.2.2.1) : Int) 0 a b
def qm3 := fun k a b => (qqw k a b).getD ((T17).dflt, [])
def qCn (k : Nat) : Ke := (48, fun
 | [.ptr _ _ _] => some [true]
 | _ => none, fun
 | [.ptr 0 0 0], [.var 140 d, .row 54 tb_22_ qb_22] => (qX [] T17 (d.take 22)).bind fun a => (qC tb_22_ T18 qb_22).bind fun b => some (.one (qoo (qm3 k a b), qrk a b (qm3 k a b)))
 | _, _ => none)
def qHP (k : Nat) : Calld := qA [qbQ k, qmC k, qNY k]
def qAJ : List (Nat × List Cmd) := [(2, [.autoB [0, 2, 15, 16, 17] false [1]]), (13, [.autoB [0, 2, 4, 5, 15, 16, 17, 66, 67, 68] false [1]]), (19, [.autoB [0, 2, 4, 5, 15, 16, 17, 89, 90, 91] false [1]])]
abbrev qQH := fun a b => EP Tryz.f48 2 qoo (qrk a b)
theorem qBw (k a b) : ∀ j, (∀ y0 y1 y2 y3 y4, qQH a b 2 (qFw a b y0 y1 y2 y3 y4) (qnJ k a b j y0 y1 y2 y3 y4))
 | 0 => by intros; exact e0
 | j + 1 => by
  have ih := @qBw k a b j
  ·intro y0 y1 y2 y3 y4 r h
   rw [qnJ] at h
   exact go (qHP k) [] qAJ [.autoB [] true [1]] (gS h (fun h => qU h fun h => gZ h (.stuck 2002)) fun h => qv h qMX fun h => gL h)
theorem qOX (k a b r) (h : qqw k a b = some r): qGk a b r := qO Tryz.f48 (go (qHP k) [] qAJ [.autoB [] true [1]] (gC h 2 ((qBw k a b k) _ _ _ _ _ _)))
theorem qMW {k a b} (h : (qqw k a b).isSome): qGk a b (qm3 k a b) := qJ h (qOX k a b)
abbrev qlx : Type := T17.T × List T18.T
def qom (r : qlx) : AV := .tup []
def qrh (a : T17.T) (b : List T18.T) (r : qlx) : List (Nat × Blk) := [(0, .var 140 ((qB (qr T17 r.1)) ++ [.own 1 1])), (1, .row 54 T18 r.2)]
abbrev qGe (a : T17.T) (b : List T18.T) (r : qlx) : Prop := CC Tryz.prog 57 [.ptr 0 0 0] [.var 140 (qB (qr T17 a) ++ [.own 1 0]), .row 54 T18 b] (qom r) (qrh a b r)
def qFt := fun (a : T17.T) (b : List T18.T) y0 y1 y2 y3 y4 => (⟨qM 74 [(0, .ptr 0 0 0), (37, ro T12 y0), (38, ri y1), (39, ri y2)], [(0, 0, .var 140 ((qB (qr T17 y3)) ++ [.own 1 1])), (1, 1, .row 54 T18 y4)]⟩ : St)
def qnI (k : Nat) (a : T17.T) (b : List T18.T) : Nat → List T12.T → Int → Int → T17.T → List T18.T → Option qlx
 | 0, _, _, _, _, _ => none
 | j + 1, y0, y1, y2, y3, y4 =>
 bif y2 < y1 then
 if (0 ≤ y2) ∧ (y2 < y0.length) then
 none
 else none
 else
 some (y3, y4)
def qqu (k : Nat) (a : T17.T) (b : List T18.T) : Option qlx :=
 bif ((↑ (qb a.2.2.2.2.2.2.2.2.2.2.2.2.2.2.2.2.2.2.1) : Int) != (↑ (qb a.2.2.2.2.2.2.2.2.2.2.2.2.2.2.2.2.2.2.2.1) : Int)) then
 if ((zl k a b 8 (↑ (qb a.2.2.2.2.2.2.2.2.2.2.2.2.2.2.2.2.2.2.1) : Int) (↑ (qb a.2.2.2.2.2.2.2.2.2.2.2.2.2.2.2.2.2.2.2.1) : Int)).isSome) then
 some ((wg k a b 8 (↑ (qb a.2.2.2.2.2.2.2.2.2.2.2.2.2.2.2.2.2.2.1) : Int) (↑ (qb a.2.2.2.2.2.2.2.2.2.2.2.2.2.2.2.2.2.2.2.1) : Int)).1, (wg k a b 8 (↑ (qb a.2.2.2.2.2.2.2.2.2.2.2.2.2.2.2.2.2.2.1) : Int) (↑ (qb a.2.2.2.2.2.2.2.2.2.2.2.2.2.2.2.2.2.2.2.1) : Int)).2)
 else none
 else
 qnI k a b k a.2.2.2.2.2.2.2.2.2.2.2.2.2.2.2.2.2.2.1 (↑ (qb a.2.2.2.2.2.2.2.2.2.2.2.2.2.2.2.2.2.2.1) : Int) 0 a b
def qm1 := fun k a b => (qqu k a b).getD ((T17).dflt, [])
def qCl (k : Nat) : Ke := (57, fun
 | [.ptr _ _ _] => some [true]
 | _ => none, fun
 | [.ptr 0 0 0], [.var 140 d, .row 54 tb_22_ qb_22] => (qX [] T17 (d.take 22)).bind fun a => (qC tb_22_ T18 qb_22).bind fun b => some (.one (qom (qm1 k a b), qrh a b (qm1 k a b)))
 | _, _ => none)
def qAG : List (Nat × List Cmd) := [(3, [.autoB [0, 37, 38, 39] false [1]])]
abbrev qQG := fun a b => EP Tryz.f57 2 qom (qrh a b)
theorem qBu (k a b) : ∀ j, (∀ y0 y1 y2 y3 y4, qQG a b 3 (qFt a b y0 y1 y2 y3 y4) (qnI k a b j y0 y1 y2 y3 y4))
 | 0 => by intros; exact e0
 | j + 1 => by
  have ih := @qBu k a b j
  ·intro y0 y1 y2 y3 y4 r h
   rw [qnI] at h
   exact go (qA [qbQ k]) [] qAG [.autoB [] true [1]] (gS h (fun h => qU h fun h => gZ h (.stuck 2002)) fun h => gL h)
theorem qOR (k a b r) (h : qqu k a b = some r): qGe a b r := qO Tryz.f57 (go (qA [qbQ k]) [] qAG [.autoB [] true [1]] (gS h (fun h => qv h zk fun h => gL h) fun h => gC h 3 ((qBu k a b k) _ _ _ _ _ _)))
theorem qMT {k a b} (h : (qqu k a b).isSome): qGe a b (qm1 k a b) := qJ h (qOR k a b)
abbrev qGz (a : T14.T) (r : Int) : Prop := CC Tryz.prog 153 [.agg (qB (qr T14 a))] [] (ri r) (nb r)
def qiJ (k : Nat) (a : T14.T) : Option Int :=
 bif (decide (a.1 < (0 : Int)) || decide (a.1 > (2147483647 : Int))) then
 some 1
 else
 bif (decide (a.2.1 < (1 : Int)) || decide (a.2.1 > (7 : Int))) then
 some 17
 else
 bif (decide (a.2.2.1 < (1 : Int)) || decide (a.2.2.1 > (1099511627776 : Int))) then
 some 1
 else
 bif (decide (a.2.2.2 < (0 : Int)) || decide (a.2.2.2 > (206158430208000 : Int))) then
 some 1
 else
 some 0
def qjA := fun k a => (qiJ k a).getD 0
def qCq (k : Nat) : Ke := (153, mo 1, fun
 | [.agg b], [] => (qX [] T14 b).bind fun a => some (.one (ri (qjA k a), []))
 | _, _ => none)
theorem qPc (k a r) (h : qiJ k a = some r): qGz a r := qO Tryz.f153 (go (qA []) [] [] [.autoB [2] true []] (qu h fun h => qu h fun h => qu h fun h => qu h fun h => gL h))
theorem qM4 {k a} (h : (qiJ k a).isSome): qGz a (qjA k a) := qJ h (qPc k a)
abbrev qGA (a : T14.T) (r : Int) : Prop := CC Tryz.prog 154 [.agg (qB (qr T14 a))] [] (ri r) (nb r)
def qfl (k : Nat) (a : T14.T) : Option Int :=
 bif (a.2.1 == (1 : Int)) then
 bif (a.2.1 == (1 : Int)) then
 some a.2.2.1
 else
 bif (a.2.1 == (7 : Int)) then
 some a.2.2.1
 else
 bif (a.2.1 == (6 : Int)) then
 some (qa .i64 (0 - a.2.2.1))
 else
 some 0
 else
 bif (a.2.1 == (2 : Int)) then
 bif (a.2.1 == (2 : Int)) then
 some a.2.2.1
 else
 bif (a.2.1 == (7 : Int)) then
 some a.2.2.1
 else
 bif (a.2.1 == (6 : Int)) then
 some (qa .i64 (0 - a.2.2.1))
 else
 some 0
 else
 bif (a.2.1 == (3 : Int)) then
 bif (a.2.1 == (3 : Int)) then
 some a.2.2.1
 else
 bif (a.2.1 == (7 : Int)) then
 some a.2.2.1
 else
 bif (a.2.1 == (6 : Int)) then
 some (qa .i64 (0 - a.2.2.1))
 else
 some 0
 else
 bif (a.2.1 == (4 : Int)) then
 bif (a.2.1 == (4 : Int)) then
 some a.2.2.1
 else
 bif (a.2.1 == (7 : Int)) then
 some a.2.2.1
 else
 bif (a.2.1 == (6 : Int)) then
 some (qa .i64 (0 - a.2.2.1))
 else
 some 0
 else
 bif (a.2.1 == (5 : Int)) then
 some a.2.2.1
 else
 bif (a.2.1 == (7 : Int)) then
 some a.2.2.1
 else
 bif (a.2.1 == (6 : Int)) then
 some (qa .i64 (0 - a.2.2.1))
 else
 some 0
def qcX := fun k a => (qfl k a).getD 0
def qCr (k : Nat) : Ke := (154, mo 1, fun
 | [.agg b], [] => (qX [] T14 b).bind fun a => some (.one (ri (qcX k a), []))
 | _, _ => none)
theorem qPd (k a r) (h : qfl k a = some r): qGA a r := qO Tryz.f154 (go (qA []) [] [] [.autoB [2] true []] (gS h (fun h => qu h fun h => qu h fun h => qu h fun h => gL h) fun h => gS h (fun h => qu h fun h => qu h fun h => qu h fun h => gL h) fun h => gS h (fun h => qu h fun h => qu h fun h => qu h fun h => gL h) fun h => gS h (fun h => qu h fun h => qu h fun h => qu h fun h => gL h) fun h => qu h fun h => qu h fun h => qu h fun h => gL h))
theorem qM5 {k a} (h : (qfl k a).isSome): qGA a (qcX k a) := qJ h (qPd k a)
abbrev qGy (a : List T14.T) (b : Int) (r : Int) : Prop := CC Tryz.prog 105 [ro T14 a, ri b] [] (ri r) (nb r)
def qFF := fun y0 y1 y2 y3 => (⟨qM 72 [(0, ro T14 y0), (1, ri y1), (20, ri y2), (21, ri y3)], []⟩ : St)
def qD8 := fun y0 y1 y2 y3 y4 => (⟨qM 72 [(0, ro T14 y0), (1, ri y1), (7, ri y2), (34, ri y3), (35, ri y4)], []⟩ : St)
mutual
def X9 (k : Nat) : Nat → List T14.T → Int → Int → Int → Option Int
 | 0, _, _, _, _ => none
 | j + 1, y0, y1, y2, y3 =>
 bif y3 < y2 then
 if (0 ≤ y3) ∧ (y3 < y0.length) ∧ ((qiJ k (y0.getD y3.toNat T14.dflt)).isSome) then
 bif (qjA k (y0.getD y3.toNat T14.dflt) != (0 : Int)) then
 some (qjA k (y0.getD y3.toNat T14.dflt))
 else
 X9 k j y0 y1 y2 (qa .i64 (y3 + 1))
 else none
 else
 Zy k j y0 y1 0 (↑y0.length : Int) 0
def Zy (k : Nat) : Nat → List T14.T → Int → Int → Int → Int → Option Int
 | 0, _, _, _, _, _ => none
 | j + 1, y0, y1, y2, y3, y4 =>
 bif y4 < y3 then
 if (0 ≤ y4) ∧ (y4 < y0.length) then
 if (decide (y4 > 0) = true → (0 : Int) ≤ qa .i64 (y4 - 1)) ∧ (decide (y4 > 0) = true → qa .i64 (y4 - 1) < (↑y0.length : Int)) then
 bif (decide (y4 > 0) && decide ((y0.getD y4.toNat T14.dflt).1 < (y0.getD (qa .i64 (y4 - 1)).toNat T14.dflt).1)) then
 some 9
 else
 bif ((y0.getD y4.toNat T14.dflt).2.1 == (6 : Int) && decide ((y0.getD y4.toNat T14.dflt).2.2.1 > y2)) then
 some 19
 else
 if ((qfl k (y0.getD y4.toNat T14.dflt)).isSome) then
 bif qa .i64 (y2 + qcX k (y0.getD y4.toNat T14.dflt)) > y1 then
 some 8
 else
 Zy k j y0 y1 (qa .i64 (y2 + qcX k (y0.getD y4.toNat T14.dflt))) y3 (qa .i64 (y4 + 1))
 else none
 else none
 else none
 else
 some 0
end
def qiI (k : Nat) (a : List T14.T) (b : Int) : Option Int :=
 bif (decide (b < 0) || decide (b > 1099511627776)) then
 some 1
 else
 bif (↑a.length : Int) > (512 : Int) then
 some 8
 else
 X9 k k a b (↑a.length : Int) 0
def YJ := fun k a b => (qiI k a b).getD 0
def qN4 (k : Nat) : Ke := (105, mo 2, fun
 | [.r (.ro e d), .r (.v (.int .i64 b))], [] => (qC e T14 d).bind fun a => some (.one (ri (YJ k a b), []))
 | _, _ => none)
def qAV : List (Nat × List Cmd) := [(6, [.autoB [0, 1, 20, 21] false []]), (14, [.autoB [0, 1, 7, 34, 35] false []])]
abbrev qHC := EP Tryz.f105 0 ri nb
theorem qBH (k) : ∀ j, (∀ {y0 y1 y2 y3}, qHC 6 (qFF y0 y1 y2 y3) (X9 k j y0 y1 y2 y3)) ∧ (∀ {y0 y1 y2 y3 y4}, qHC 14 (qD8 y0 y1 y2 y3 y4) (Zy k j y0 y1 y2 y3 y4))
 | 0 => by and_intros <;> intros <;> exact e0
 | j + 1 => by
  have ih := @qBH k j
  have g := @go (qA [qCq k, qCr k]) [] qAV [.autoB [4] true []]
  refine ⟨?_, ?_⟩
  ·intro y0 y1 y2 y3 r h
   rw [X9] at h
   exact g (gS h (fun h => gN h (fun q => qf q.1 (qf q.2.1 (qf (qM4 q.2.2) qP))) fun h => qu h fun h => gD h 6 ih.1) fun h => gD h 14 ih.2)
  ·intro y0 y1 y2 y3 y4 r h
   rw [Zy] at h
   exact g (gS h (fun h => qU h fun h => qU h fun h => qu h fun h => qu h fun h => qv h qM5 fun h => qu h fun h => gD h 14 ih.2) fun h => gL h)
theorem qPb (k a b r) (h : qiI k a b = some r): qGy a b r := qO Tryz.f105 (go (qA [qCq k, qCr k]) [] qAV [.autoB [4] true []] (qu h fun h => qu h fun h => gD h 6 (qBH k k).1))
theorem qM3 {k a b} (h : (qiI k a b).isSome): qGy a b (YJ k a b) := qJ h (qPb k a b)
abbrev qG9 (a : T16.T) (r : Int) : Prop := CC Tryz.prog 106 [.agg (qB (qr T16 a))] [] (ri r) (nb r)
def qFU := fun y0 y1 y2 y3 => (⟨qM 69 [(3, ri y0), (33, ro T15 y1), (34, ri y2), (35, ri y3)], []⟩ : St)
def Yf (k : Nat) : Nat → Int → List T15.T → Int → Int → Option Int
 | 0, _, _, _, _ => none
 | j + 1, y0, y1, y2, y3 =>
 bif y3 < y2 then
 if (0 ≤ y3) ∧ (y3 < y1.length) then
 bif (decide ((y1.getD y3.toNat T15.dflt).1 < (0 : Int)) || decide ((y1.getD y3.toNat T15.dflt).1 > (1000000 : Int)) || (y1.getD y3.toNat T15.dflt).2 == (0 : Int) || decide ((y1.getD y3.toNat T15.dflt).2 < (-1000000000000 : Int)) || decide ((y1.getD y3.toNat T15.dflt).2 > (1000000000000 : Int))) then
 some 1
 else
 Yf k j (qa .i64 (y0 + (y1.getD y3.toNat T15.dflt).2)) y1 y2 (qa .i64 (y3 + 1))
 else none
 else
 bif (y0 != 0) then
 some 39
 else
 some 0
def qi0 (k : Nat) (a : T16.T) : Option Int :=
 bif (decide (a.1 < (1 : Int)) || decide (a.1 > (1000000 : Int)) || decide (a.2.1 < (0 : Int)) || decide (a.2.1 > (2147483647 : Int))) then
 some 1
 else
 bif (↑ (qb a.2.2) : Int) < (2 : Int) then
 some 10
 else
 bif (↑ (qb a.2.2) : Int) > (16 : Int) then
 some 8
 else
 Yf k k 0 a.2.2 (↑ (qb a.2.2) : Int) 0
def qc8 := fun k a => (qi0 k a).getD 0
def qOq (k : Nat) : Ke := (106, mo 1, fun
 | [.agg b], [] => (qX [] T16 b).bind fun a => some (.one (ri (qc8 k a), []))
 | _, _ => none)
def qBa : List (Nat × List Cmd) := [(9, [.autoB [3, 33, 34, 35] false []])]
abbrev qQT := EP Tryz.f106 0 ri nb
theorem qBV (k) : ∀ j, (∀ y0 y1 y2 y3, qQT 9 (qFU y0 y1 y2 y3) (Yf k j y0 y1 y2 y3))
 | 0 => by intros; exact e0
 | j + 1 => by
  have ih := @qBV k j
  ·intro y0 y1 y2 y3 r h
   rw [Yf] at h
   exact go (qA []) [] qBa [.autoB [2] true []] (gS h (fun h => qU h fun h => qu h fun h => gC h 9 (ih _ _ _ _ _)) fun h => qu h fun h => gL h)
theorem qPP (k a r) (h : qi0 k a = some r): qG9 a r := qO Tryz.f106 (go (qA []) [] qBa [.autoB [2] true []] (qu h fun h => qu h fun h => qu h fun h => gC h 9 ((qBV k k) _ _ _ _ _)))
theorem qNt {k a} (h : (qi0 k a).isSome): qG9 a (qc8 k a) := qJ h (qPP k a)
abbrev qwV : Type := Int × Int × Int
def qwh (r : qwV) : AV := .tup [ri r.1, ri r.2.1, ri r.2.2]
abbrev qGJ (a : List T5.T) (b : T19.T) (d : Int) (r : qwV) : Prop := CC Tryz.prog 145 [ro T5 a, .agg (qB (qr T19 b)), ri d] [] (qwh r) (nb r)
def qfn (k : Nat) (a : List T5.T) (b : T19.T) (d : Int) : Option qwV :=
 bif (Sum.isLeft (YK k a b d)) then
 if ((Wv k a b d).isSome) then
 bif (XJ k a b d != 0) then
 some (0, 0, XJ k a b d)
 else
 none
 else none
 else
 if ((Wv k a b d).isSome) then
 bif ((wC k a b d).1 != (0 : Int)) then
 some (0, 0, (wC k a b d).1)
 else
 if ((Yy k (wC k a b d).2.1 (wC k a b d).2.2.1 (wC k a b d).2.2.2.1 (wC k a b d).2.2.2.2 d).isSome) then
 some ((Q7 k (wC k a b d).2.1 (wC k a b d).2.2.1 (wC k a b d).2.2.2.1 (wC k a b d).2.2.2.2 d).1, (Q7 k (wC k a b d).2.1 (wC k a b d).2.2.1 (wC k a b d).2.2.2.1 (wC k a b d).2.2.2.2 d).2, 0)
 else none
 else none
def Qt := fun k a b d => (qfn k a b d).getD (0, 0, 0)
def qOb (k : Nat) : Ke := (145, mo 3, fun
 | [.r (.ro g e), .agg f, .r (.v (.int .i64 d))], [] => (qC g T5 e).bind fun a => (qX [] T19 f).bind fun b => some (.one (qwh (Qt k a b d), []))
 | _, _ => none)
theorem qPm (k a b d r) (h : qfn k a b d = some r): qGJ a b d r := qO Tryz.f145 (go (qA [qCw k, qCt k]) [] [] [.autoB [6, 7, 8] true []] (gT h (fun c h => qv h (fun q => quh q (by assumption)) fun h => gTl h fun c h => gZ h (.stuck 2002)) fun c h => qv h (fun q => quj q (by assumption)) fun h => gTl h fun c h => qv h qrD fun h => gL h))
theorem qNd {k a b d} (h : (qfn k a b d).isSome): qGJ a b d (Qt k a b d) := qJ h (qPm k a b d)
abbrev qHb (a : List I.T) (r : Bool) : Prop := CC Tryz.prog 200 [ro I a] [] (rb r) (nb r)
def qFV := fun y0 y1 y2 => (⟨qM 18 [(5, ro I y0), (6, ri y1), (7, ri y2)], []⟩ : St)
def Yg (k : Nat) : Nat → List I.T → Int → Int → Option Bool
 | 0, _, _, _ => none
 | j + 1, y0, y1, y2 =>
 bif y2 < y1 then
 if (0 ≤ y2) ∧ (y2 < y0.length) then
 bif (decide (y0.getD y2.toNat I.dflt < (-1125899906842624 : Int)) || decide (y0.getD y2.toNat I.dflt > (1125899906842624 : Int))) then
 some false
 else
 Yg k j y0 y1 (qa .i64 (y2 + 1))
 else none
 else
 some true
def qi1 (k : Nat) (a : List I.T) : Option Bool :=
 Yg k k a (↑a.length : Int) 0
def qm8 := fun k a => (qi1 k a).getD false
def qOr (k : Nat) : Ke := (200, mo 1, fun
 | [.r (.ro d b)], [] => (qC d I b).bind fun a => some (.one (rb (qm8 k a), []))
 | _, _ => none)
def qBb : List (Nat × List Cmd) := [(2, [.autoB [5, 6, 7] false []])]
abbrev qQU := EP Tryz.f200 0 rb nb
theorem qBW (k) : ∀ j, (∀ y0 y1 y2, qQU 2 (qFV y0 y1 y2) (Yg k j y0 y1 y2))
 | 0 => by intros; exact e0
 | j + 1 => by
  have ih := @qBW k j
  ·intro y0 y1 y2 r h
   rw [Yg] at h
   exact go (qA []) [] qBb [.autoB [2] true []] (gS h (fun h => qU h fun h => qu h fun h => gC h 2 (ih _ _ _ _)) fun h => gL h)
theorem qPR (k a r) (h : qi1 k a = some r): qHb a r := qO Tryz.f200 (go (qA []) [] qBb [.autoB [2] true []] (gC h 2 ((qBW k k) _ _ _ _)))
theorem qNu {k a} (h : (qi1 k a).isSome): qHb a (qm8 k a) := qJ h (qPR k a)
def qww (r : Int × Int) : AV := .agg [.r (.v (.int .u64 r.1)), .r (.v (.int .u64 r.2))]
abbrev qHc (a : Int) (b : Int) (r : Int × Int) : Prop := CC Tryz.prog 201 [.r (.v (.int .u64 a)), .r (.v (.int .u64 b))] [] (qww r) (nb r)
def qi2 (k : Nat) (a : Int) (b : Int) : Option (Int × Int) :=
 if ((0 : Int) ≤ (32 : Int)) ∧ ((0 : Int) ≤ (32 : Int)) then
 if ((0 : Int) ≤ (32 : Int)) then
 if ((0 : Int) ≤ (32 : Int)) ∧ ((0 : Int) ≤ (32 : Int)) ∧ ((0 : Int) ≤ (32 : Int)) then
 some (IntKind.u64.wrap (IntKind.u64.wrap (IntKind.u64.wrap (a.fdiv (2 ^ min (ql 32) IntKind.u64.bits) * b.fdiv (2 ^ min (ql 32) IntKind.u64.bits)) + (IntKind.u64.wrap (IntKind.u64.wrap (a.fdiv (2 ^ min (ql 32) IntKind.u64.bits) * IntKind.u64.wrap (↑ (BitVec.ofInt IntKind.u64.bits b &&& BitVec.ofInt IntKind.u64.bits 4294967295).toNat : Int)) + (IntKind.u64.wrap (IntKind.u64.wrap (↑ (BitVec.ofInt IntKind.u64.bits a &&& BitVec.ofInt IntKind.u64.bits 4294967295).toNat : Int) * IntKind.u64.wrap (↑ (BitVec.ofInt IntKind.u64.bits b &&& BitVec.ofInt IntKind.u64.bits 4294967295).toNat : Int))).fdiv (2 ^ min (ql 32) IntKind.u64.bits))).fdiv (2 ^ min (ql 32) IntKind.u64.bits)) + (IntKind.u64.wrap (IntKind.u64.wrap (IntKind.u64.wrap (↑ (BitVec.ofInt IntKind.u64.bits a &&& BitVec.ofInt IntKind.u64.bits 4294967295).toNat : Int) * b.fdiv (2 ^ min (ql 32) IntKind.u64.bits)) + IntKind.u64.wrap (↑ (BitVec.ofInt IntKind.u64.bits (IntKind.u64.wrap (IntKind.u64.wrap (a.fdiv (2 ^ min (ql 32) IntKind.u64.bits) * IntKind.u64.wrap (↑ (BitVec.ofInt IntKind.u64.bits b &&& BitVec.ofInt IntKind.u64.bits 4294967295).toNat : Int)) + (IntKind.u64.wrap (IntKind.u64.wrap (↑ (BitVec.ofInt IntKind.u64.bits a &&& BitVec.ofInt IntKind.u64.bits 4294967295).toNat : Int) * IntKind.u64.wrap (↑ (BitVec.ofInt IntKind.u64.bits b &&& BitVec.ofInt IntKind.u64.bits 4294967295).toNat : Int))).fdiv (2 ^ min (ql 32) IntKind.u64.bits))) &&& BitVec.ofInt IntKind.u64.bits 4294967295).toNat : Int))).fdiv (2 ^ min (ql 32) IntKind.u64.bits)), IntKind.u64.wrap (↑ (BitVec.ofInt IntKind.u64.bits (IntKind.u64.wrap (IntKind.u64.wrap (IntKind.u64.wrap (IntKind.u64.wrap (↑ (BitVec.ofInt IntKind.u64.bits a &&& BitVec.ofInt IntKind.u64.bits 4294967295).toNat : Int) * b.fdiv (2 ^ min (ql 32) IntKind.u64.bits)) + IntKind.u64.wrap (↑ (BitVec.ofInt IntKind.u64.bits (IntKind.u64.wrap (IntKind.u64.wrap (a.fdiv (2 ^ min (ql 32) IntKind.u64.bits) * IntKind.u64.wrap (↑ (BitVec.ofInt IntKind.u64.bits b &&& BitVec.ofInt IntKind.u64.bits 4294967295).toNat : Int)) + (IntKind.u64.wrap (IntKind.u64.wrap (↑ (BitVec.ofInt IntKind.u64.bits a &&& BitVec.ofInt IntKind.u64.bits 4294967295).toNat : Int) * IntKind.u64.wrap (↑ (BitVec.ofInt IntKind.u64.bits b &&& BitVec.ofInt IntKind.u64.bits 4294967295).toNat : Int))).fdiv (2 ^ min (ql 32) IntKind.u64.bits))) &&& BitVec.ofInt IntKind.u64.bits 4294967295).toNat : Int)) * 2 ^ min (ql 32) IntKind.u64.bits)) ||| BitVec.ofInt IntKind.u64.bits (IntKind.u64.wrap (↑ (BitVec.ofInt IntKind.u64.bits (IntKind.u64.wrap (IntKind.u64.wrap (↑ (BitVec.ofInt IntKind.u64.bits a &&& BitVec.ofInt IntKind.u64.bits 4294967295).toNat : Int) * IntKind.u64.wrap (↑ (BitVec.ofInt IntKind.u64.bits b &&& BitVec.ofInt IntKind.u64.bits 4294967295).toNat : Int))) &&& BitVec.ofInt IntKind.u64.bits 4294967295).toNat : Int))).toNat : Int))
 else none
 else none
 else none
def wI := fun k a b => (qi2 k a b).getD (0, 0)
def qOs (k : Nat) : Ke := (201, mo 2, fun
 | [.r (.v (.int .u64 a)), .r (.v (.int .u64 b))], [] => some (.one (qww (wI k a b), []))
 | _, _ => none)
theorem qPS (k a b r) (h : qi2 k a b = some r): qHc a b r := qO Tryz.f201 (go (qA []) [] [] [.autoB [4] true []] (qU h fun h => qv h id fun h => gN h cj3 fun h => gL h))
theorem qNv {k a b} (h : (qi2 k a b).isSome): qHc a b (wI k a b) := qJ h (qPS k a b)
def qwx (r : Int) : AV := .r (.v (.int .u64 r))
abbrev qHd (a : Int) (r : Int) : Prop := CC Tryz.prog 202 [ri a] [] (qwx r) (nb r)
def Xk (k : Nat) (a : Int) : Option Int :=
 bif a < 0 then
 some (IntKind.u64.wrap (qa .i64 (0 - a)))
 else
 some (IntKind.u64.wrap a)
def qG := fun k a => (Xk k a).getD 0
def qOt (k : Nat) : Ke := (202, mo 1, fun
 | [.r (.v (.int .i64 a))], [] => some (.one (qwx (qG k a), []))
 | _, _ => none)
theorem qPT (k a r) (h : Xk k a = some r): qHd a r := qO Tryz.f202 (go (qA []) [] [] [.autoB [2] true []] (qu h fun h => gL h))
theorem qdN {k a} (h : (Xk k a).isSome): qHd a (qG k a) := qJ h (qPT k a)
def qoF (r : Int × Int × Bool) : AV := .tup [.r (.v (.int .u64 r.1)), .r (.v (.int .u64 r.2.1)), rb r.2.2]
abbrev qHe (a : T30.T) (b : Int) (r : Int × Int × Bool) : Prop := CC Tryz.prog 203 [.agg (qB (qr T30 a)), .r (.v (.int .u64 b))] [] (qoF r) (nb r)
def qFW := fun y0 y1 y2 y3 y4 => (⟨qM 46 [(1, .r (.v (.int .u64 y0))), (2, .ptr 1000000 0 0), (7, .r (.v (.int .u64 y1))), (8, .r (.v (.int .u64 y2))), (12, ri y3)], [(1000000, 0, .var 257 (qB (qr T30 y4)))]⟩ : St)
def V3 (k : Nat) : Nat → Int → Int → Int → Int → T30.T → Option (Int × Int × Bool)
 | 0, _, _, _, _, _ => none
 | j + 1, y0, y1, y2, y3, y4 =>
 bif y3 < 128 then
 if ((64 : Int) ≠ (0 : Int)) ∧ ((0 : Int) ≤ qa .i64 (y3.tdiv (64 : Int))) ∧ (qa .i64 (y3.tdiv (64 : Int)) < (↑ (2 : Nat) : Int)) ∧ ((0 : Nat) + (qa .i64 (y3.tdiv (64 : Int))).toNat * (1 : Nat) < [y4.1, y4.2].length) ∧ ((64 : Int) ≠ (0 : Int)) then
 if ((0 : Int) ≤ (61 : Int)) then
 bif (y1.fdiv ((2 : Int) ^ min (ql (61 : Int)) IntKind.u64.bits) != (0 : Int)) then
 some (0, 0, false)
 else
 if ((0 : Int) ≤ (1 : Int)) ∧ ((0 : Int) ≤ (1 : Int)) ∧ ((0 : Int) ≤ IntKind.u64.wrap (qa .i64 ((63 : Int) - y3.tmod (64 : Int)))) then
 bif IntKind.u64.wrap (↑ (BitVec.ofInt IntKind.u64.bits (IntKind.u64.wrap (y2 * 2 ^ min (ql (1 : Int)) IntKind.u64.bits)) ||| BitVec.ofInt IntKind.u64.bits (IntKind.u64.wrap (↑ (BitVec.ofInt IntKind.u64.bits (([y4.1, y4.2].getD ((0 : Nat) + (qa .i64 (y3.tdiv (64 : Int))).toNat * (1 : Nat)) (0 : Int)).fdiv ((2 : Int) ^ min (IntKind.u64.wrap (qa .i64 ((63 : Int) - y3.tmod (64 : Int)))).toNat IntKind.u64.bits)) &&& BitVec.ofInt IntKind.u64.bits (1 : Int)).toNat : Int))).toNat : Int) ≥ y0 then
 V3 k j y0 (IntKind.u64.wrap (↑ (BitVec.ofInt IntKind.u64.bits (IntKind.u64.wrap (y1 * 2 ^ min (ql 1) IntKind.u64.bits)) ||| BitVec.ofInt IntKind.u64.bits 1).toNat : Int)) (IntKind.u64.wrap (IntKind.u64.wrap (↑ (BitVec.ofInt IntKind.u64.bits (IntKind.u64.wrap (y2 * 2 ^ min (ql 1) IntKind.u64.bits)) ||| BitVec.ofInt IntKind.u64.bits (IntKind.u64.wrap (↑ (BitVec.ofInt IntKind.u64.bits (([y4.1, y4.2].getD (0 + (qa .i64 (y3.tdiv 64)).toNat * 1) 0).fdiv (2 ^ min (IntKind.u64.wrap (qa .i64 (63 - y3.tmod 64))).toNat IntKind.u64.bits)) &&& BitVec.ofInt IntKind.u64.bits 1).toNat : Int))).toNat : Int) - y0)) (qa .i64 (y3 + 1)) y4
 else
 V3 k j y0 (IntKind.u64.wrap (y1 * 2 ^ min (ql 1) IntKind.u64.bits)) (IntKind.u64.wrap (↑ (BitVec.ofInt IntKind.u64.bits (IntKind.u64.wrap (y2 * 2 ^ min (ql 1) IntKind.u64.bits)) ||| BitVec.ofInt IntKind.u64.bits (IntKind.u64.wrap (↑ (BitVec.ofInt IntKind.u64.bits (([y4.1, y4.2].getD (0 + (qa .i64 (y3.tdiv 64)).toNat * 1) 0).fdiv (2 ^ min (IntKind.u64.wrap (qa .i64 (63 - y3.tmod 64))).toNat IntKind.u64.bits)) &&& BitVec.ofInt IntKind.u64.bits 1).toNat : Int))).toNat : Int)) (qa .i64 (y3 + 1)) y4
 else none
 else none
 else none
 else
 some (y1, y2, true)
def qi3 (k : Nat) (a : T30.T) (b : Int) : Option (Int × Int × Bool) :=
 V3 k k b 0 0 0 a
def wK := fun k a b => (qi3 k a b).getD (0, 0, false)
def qOu (k : Nat) : Ke := (203, mo 2, fun
 | [.agg d, .r (.v (.int .u64 b))], [] => (qX [] T30 d).bind fun a => some (.one (qoF (wK k a b), []))
 | _, _ => none)
def qBc : List (Nat × List Cmd) := [(3, [.autoB [1, 2, 7, 8, 12] false []])]
abbrev qQV := EP Tryz.f203 0 qoF nb
theorem qBX (k) : ∀ j, (∀ y0 y1 y2 y3 y4, qQV 3 (qFW y0 y1 y2 y3 y4) (V3 k j y0 y1 y2 y3 y4))
 | 0 => by intros; exact e0
 | j + 1 => by
  have ih := @qBX k j
  ·intro y0 y1 y2 y3 y4 r h
   rw [V3] at h
   exact go (qA []) [] qBc [.autoB [4, 5, 6] true []] (gS h (fun h => gN h (fun q => qf q.1 (qf q.2.1 (qf q.2.2.1 (qf q.2.2.2.1 (qf q.2.2.2.2 qP))))) fun h => qv h id fun h => qu h fun h => gN h cj3 fun h => gS h (fun h => gC h 3 (ih _ _ _ _ _ _)) fun h => gC h 3 (ih _ _ _ _ _ _)) fun h => gL h)
theorem qPU (k a b r) (h : qi3 k a b = some r): qHe a b r := qO Tryz.f203 (go (qA []) [] qBc [.autoB [4, 5, 6] true []] (gC h 3 ((qBX k k) _ _ _ _ _ _)))
theorem qNw {k a b} (h : (qi3 k a b).isSome): qHe a b (wK k a b) := qJ h (qPU k a b)
def qwv (r : Int × Int) : AV := .tup [ri r.1, ri r.2]
abbrev qHa (a : Int) (b : Int) (d : Int) (e : Int) (r : Int × Int) : Prop := CC Tryz.prog 156 [ri a, ri b, ri d, ri e] [] (qwv r) (nb r)
def qaK (k : Nat) (a : Int) (b : Int) (d : Int) (e : Int) : Option (Int × Int) :=
 if ((qi1 k [a, b, d]).isSome) then
 bif (!qm8 k [a, b, d]) then
 some (0, 1)
 else
 bif (d == 0) then
 some (0, 16)
 else
 bif (decide (e < 0) || decide (e ≥ 3)) then
 some (0, 17)
 else
 if ((Xk k a).isSome) ∧ ((Xk k b).isSome) ∧ ((qi2 k (qG k a) (qG k b)).isSome) ∧ ((Xk k d).isSome) ∧ ((qi3 k (wI k (qG k a) (qG k b)) (qG k d)).isSome) then
 bif (! (wK k (wI k (qG k a) (qG k b)) (qG k d)).2.2) then
 some (0, 2)
 else
 bif (e == 0) then
 bif (! (!decide (a < 0) == decide (b < 0)) == decide (d < 0) && decide ((wK k (wI k (qG k a) (qG k b)) (qG k d)).2.1 > (0 : Int))) then
 bif IntKind.u64.wrap ((wK k (wI k (qG k a) (qG k b)) (qG k d)).1 + (1 : Int)) > (1125899906842624 : Int) then
 some (0, 2)
 else
 bif (! (!decide (a < 0) == decide (b < 0)) == decide (d < 0)) then
 some (qa .i64 (0 - qa .i64 (IntKind.u64.wrap ((wK k (wI k (qG k a) (qG k b)) (qG k d)).1 + 1))), 0)
 else
 some (qa .i64 (IntKind.u64.wrap ((wK k (wI k (qG k a) (qG k b)) (qG k d)).1 + 1)), 0)
 else
 bif (wK k (wI k (qG k a) (qG k b)) (qG k d)).1 > (1125899906842624 : Int) then
 some (0, 2)
 else
 bif (! (!decide (a < 0) == decide (b < 0)) == decide (d < 0)) then
 some (qa .i64 (0 - qa .i64 (wK k (wI k (qG k a) (qG k b)) (qG k d)).1), 0)
 else
 some (qa .i64 (wK k (wI k (qG k a) (qG k b)) (qG k d)).1, 0)
 else
 bif (e == 1) then
 bif (!! (!decide (a < 0) == decide (b < 0)) == decide (d < 0) && decide ((wK k (wI k (qG k a) (qG k b)) (qG k d)).2.1 > (0 : Int))) then
 bif IntKind.u64.wrap ((wK k (wI k (qG k a) (qG k b)) (qG k d)).1 + (1 : Int)) > (1125899906842624 : Int) then
 some (0, 2)
 else
 bif (! (!decide (a < 0) == decide (b < 0)) == decide (d < 0)) then
 some (qa .i64 (0 - qa .i64 (IntKind.u64.wrap ((wK k (wI k (qG k a) (qG k b)) (qG k d)).1 + 1))), 0)
 else
 some (qa .i64 (IntKind.u64.wrap ((wK k (wI k (qG k a) (qG k b)) (qG k d)).1 + 1)), 0)
 else
 bif (wK k (wI k (qG k a) (qG k b)) (qG k d)).1 > (1125899906842624 : Int) then
 some (0, 2)
 else
 bif (! (!decide (a < 0) == decide (b < 0)) == decide (d < 0)) then
 some (qa .i64 (0 - qa .i64 (wK k (wI k (qG k a) (qG k b)) (qG k d)).1), 0)
 else
 some (qa .i64 (wK k (wI k (qG k a) (qG k b)) (qG k d)).1, 0)
 else
 bif IntKind.u64.wrap ((2 : Int) * (wK k (wI k (qG k a) (qG k b)) (qG k d)).2.1) > qG k d then
 if ((Xk k d).isSome) ∧ (decide (IntKind.u64.wrap ((2 : Int) * (wK k (wI k (qG k a) (qG k b)) (qG k d)).2.1) > qG k d) = true) then
 bif IntKind.u64.wrap ((wK k (wI k (qG k a) (qG k b)) (qG k d)).1 + (1 : Int)) > (1125899906842624 : Int) then
 some (0, 2)
 else
 bif (! (!decide (a < 0) == decide (b < 0)) == decide (d < 0)) then
 some (qa .i64 (0 - qa .i64 (IntKind.u64.wrap ((wK k (wI k (qG k a) (qG k b)) (qG k d)).1 + 1))), 0)
 else
 some (qa .i64 (IntKind.u64.wrap ((wK k (wI k (qG k a) (qG k b)) (qG k d)).1 + 1)), 0)
 else none
 else
 if ((Xk k d).isSome) ∧ (decide (IntKind.u64.wrap ((2 : Int) * (wK k (wI k (qG k a) (qG k b)) (qG k d)).2.1) > qG k d) = false) ∧ ((Xk k d).isSome) ∧ ((IntKind.u64.wrap ((2 : Int) * (wK k (wI k (qG k a) (qG k b)) (qG k d)).2.1) == qG k d) = true → (2 : Int) ≠ (0 : Int)) then
 bif (false || IntKind.u64.wrap ((2 : Int) * (wK k (wI k (qG k a) (qG k b)) (qG k d)).2.1) == qG k d && (wK k (wI k (qG k a) (qG k b)) (qG k d)).1.tmod (2 : Int) == (1 : Int)) then
 bif IntKind.u64.wrap ((wK k (wI k (qG k a) (qG k b)) (qG k d)).1 + (1 : Int)) > (1125899906842624 : Int) then
 some (0, 2)
 else
 bif (! (!decide (a < 0) == decide (b < 0)) == decide (d < 0)) then
 some (qa .i64 (0 - qa .i64 (IntKind.u64.wrap ((wK k (wI k (qG k a) (qG k b)) (qG k d)).1 + 1))), 0)
 else
 some (qa .i64 (IntKind.u64.wrap ((wK k (wI k (qG k a) (qG k b)) (qG k d)).1 + 1)), 0)
 else
 bif (wK k (wI k (qG k a) (qG k b)) (qG k d)).1 > (1125899906842624 : Int) then
 some (0, 2)
 else
 bif (! (!decide (a < 0) == decide (b < 0)) == decide (d < 0)) then
 some (qa .i64 (0 - qa .i64 (wK k (wI k (qG k a) (qG k b)) (qG k d)).1), 0)
 else
 some (qa .i64 (wK k (wI k (qG k a) (qG k b)) (qG k d)).1, 0)
 else none
 else none
 else none
def Vw := fun k a b d e => (qaK k a b d e).getD (0, 0)
def qCz (k : Nat) : Ke := (156, mo 4, fun
 | [.r (.v (.int .i64 a)), .r (.v (.int .i64 b)), .r (.v (.int .i64 d)), .r (.v (.int .i64 e))], [] => some (.one (qwv (Vw k a b d e), []))
 | _, _ => none)
theorem qPQ (k a b d e r) (h : qaK k a b d e = some r): qHa a b d e r := qO Tryz.f156 (go (qA [qOr k, qOs k, qOt k, qOu k]) [] [] [.autoB [8, 9] true []] (qv h qNu fun h => qu h fun h => qu h fun h => qu h fun h => gN h (fun q => qf (qdN q.1) (qf (qdN q.2.1) (qf (qNv q.2.2.1) (qf (qdN q.2.2.2.1) (qf (qNw q.2.2.2.2) qP))))) fun h => qu h fun h => gS h (fun h => gS h (fun h => qu h fun h => qu h fun h => gL h) fun h => qu h fun h => qu h fun h => gL h) fun h => gS h (fun h => gS h (fun h => qu h fun h => qu h fun h => gL h) fun h => qu h fun h => qu h fun h => gL h) fun h => gS h (fun h => gN h (fun q => qf (qdN q.1) (qf q.2 qP)) fun h => gU1 h (.test (decide ((wK k (wI k (qG k a) (qG k b)) (qG k d)).1 > (1125899906842624 : Int))) (.leaf (.tup [.r (.v (.int .i64 0)), .r (.v (.int .i64 2))]) []) (.test (! (!decide (a < (0 : Int)) == decide (b < (0 : Int))) == decide (d < (0 : Int))) (.leaf (.tup [.r (.v (.int .i64 (qa .i64 (0 - qa .i64 (wK k (wI k (qG k a) (qG k b)) (qG k d)).1)))), .r (.v (.int .i64 0))]) []) (.leaf (.tup [.r (.v (.int .i64 (qa .i64 (wK k (wI k (qG k a) (qG k b)) (qG k d)).1))), .r (.v (.int .i64 0))]) []))) fun h => qu h fun h => qu h fun h => gL h) fun h => gN h (fun q => qf (qdN q.1) (qf q.2.1 (qf (qdN q.2.2.1) (qf q.2.2.2 qP)))) fun h => gS h (fun h => qu h fun h => qu h fun h => gL h) fun h => qu h fun h => qu h fun h => gL h))
theorem qAx {k a b d e} (h : (qaK k a b d e).isSome): qHa a b d e (Vw k a b d e) := qJ h (qPQ k a b d e)
def qwf (r : Int × Int) : AV := .tup [ri r.1, ri r.2]
abbrev qGE (a : Int) (b : Int) (d : Int) (r : Int × Int) : Prop := CC Tryz.prog 155 [ri a, ri b, ri d] [] (qwf r) (nb r)
def qiN (k : Nat) (a : Int) (b : Int) (d : Int) : Option (Int × Int) :=
 bif (decide (a < 0) || decide (a > 12000) || decide (b < 0) || decide (b > 17179869184) || decide (d < 0) || decide (d > 1000000)) then
 some (0, 1)
 else
 if ((qaK k (qa .i64 (a * b)) d 1000000000 2).isSome) then
 some ((Vw k (qa .i64 (a * b)) d 1000000000 2).1, (Vw k (qa .i64 (a * b)) d 1000000000 2).2)
 else none
def qaX := fun k a b d => (qiN k a b d).getD (0, 0)
def qN7 (k : Nat) : Ke := (155, mo 3, fun
 | [.r (.v (.int .i64 a)), .r (.v (.int .i64 b)), .r (.v (.int .i64 d))], [] => some (.one (qwf (qaX k a b d), []))
 | _, _ => none)
theorem qPh (k a b d r) (h : qiN k a b d = some r): qGE a b d r := qO Tryz.f155 (go (qA [qCz k]) [] [] [.autoB [6, 7] true []] (qu h fun h => qv h qAx fun h => gL h))
theorem qM9 {k a b d} (h : (qiN k a b d).isSome): qGE a b d (qaX k a b d) := qJ h (qPh k a b d)
def qz5 (a : T17.T) (b : List T18.T) (d : Int) (r : Int) : List (Nat × Blk) := [(0, .var 140 (qB (qr T17 a) ++ [.own 1 0])), (0, .row 54 T18 b)]
abbrev qGh (a : T17.T) (b : List T18.T) (d : Int) (r : Int) : Prop := CC Tryz.prog 107 [.ptr 0 0 0, ri d] [.var 140 (qB (qr T17 a) ++ [.own 1 0]), .row 54 T18 b] (ri r) (qz5 a b d r)
def qiD (k : Nat) (a : T17.T) (b : List T18.T) (d : Int) : Option Int :=
 if ((qfg k a b d).isSome) then
 bif (! (XO k a b d).2) then
 some 0
 else
 if ((qiF k a b).isSome) ∧ ((Y6 k (vO k a b) d).isSome) then
 bif ((va k (vO k a b) d).2 != (0 : Int)) then
 some 0
 else
 if ((qiE k a b).isSome) ∧ ((qfn k a.2.2.2.2.2.2.2.2.2.2.2.1 (vN k a b) d).isSome) then
 bif ((Qt k a.2.2.2.2.2.2.2.2.2.2.2.1 (vN k a b) d).2.2 != (0 : Int)) then
 some 0
 else
 if ((0 : Int) ≤ (va k (vO k a b) d).1.1) ∧ ((va k (vO k a b) d).1.1 < (↑ (qb a.2.2.2.2.2.2.2.1) : Int)) ∧ ((qiN k (Qt k a.2.2.2.2.2.2.2.2.2.2.2.1 (vN k a b) d).1 (Qt k a.2.2.2.2.2.2.2.2.2.2.2.1 (vN k a b) d).2.1 (qI a.2.2.2.2.2.2.2.1 (ql (va k (vO k a b) d).1.1) T0.dflt).2.1).isSome) then
 bif ((qaX k (Qt k a.2.2.2.2.2.2.2.2.2.2.2.1 (vN k a b) d).1 (Qt k a.2.2.2.2.2.2.2.2.2.2.2.1 (vN k a b) d).2.1 (qI a.2.2.2.2.2.2.2.1 (ql (va k (vO k a b) d).1.1) T0.dflt).2.1).2 != (0 : Int)) then
 some 0
 else
 if ((qaK k (qaX k (Qt k a.2.2.2.2.2.2.2.2.2.2.2.1 (vN k a b) d).1 (Qt k a.2.2.2.2.2.2.2.2.2.2.2.1 (vN k a b) d).2.1 (qI a.2.2.2.2.2.2.2.1 (ql (va k (vO k a b) d).1.1) T0.dflt).2.1).1 (XO k a b d).1.2.2.2.2.2.2.2.2.2.2.2 1000000 2).isSome) then
 bif ((Vw k (qaX k (Qt k a.2.2.2.2.2.2.2.2.2.2.2.1 (vN k a b) d).1 (Qt k a.2.2.2.2.2.2.2.2.2.2.2.1 (vN k a b) d).2.1 (qI a.2.2.2.2.2.2.2.1 (ql (va k (vO k a b) d).1.1) T0.dflt).2.1).1 (XO k a b d).1.2.2.2.2.2.2.2.2.2.2.2 (1000000 : Int) (2 : Int)).2 != (0 : Int)) then
 some 0
 else
 some (if 1000000000000 < (Vw k (qaX k (Qt k a.2.2.2.2.2.2.2.2.2.2.2.1 (vN k a b) d).1 (Qt k a.2.2.2.2.2.2.2.2.2.2.2.1 (vN k a b) d).2.1 (qI a.2.2.2.2.2.2.2.1 (ql (va k (vO k a b) d).1.1) T0.dflt).2.1).1 (XO k a b d).1.2.2.2.2.2.2.2.2.2.2.2 1000000 2).1 then 1000000000000 else (Vw k (qaX k (Qt k a.2.2.2.2.2.2.2.2.2.2.2.1 (vN k a b) d).1 (Qt k a.2.2.2.2.2.2.2.2.2.2.2.1 (vN k a b) d).2.1 (qI a.2.2.2.2.2.2.2.1 (ql (va k (vO k a b) d).1.1) T0.dflt).2.1).1 (XO k a b d).1.2.2.2.2.2.2.2.2.2.2.2 1000000 2).1)
 else none
 else none
 else none
 else none
 else none
def qjx := fun k a b d => (qiD k a b d).getD 0
def qNX (k : Nat) : Ke := (107, fun
 | [.ptr _ _ _, _] => some [true, false, true, true]
 | _ => none, fun
 | [.ptr 0 0 0, .r (.v (.int .i64 d))], [.var 140 e, .row 54 tb_22_ qb_22] => (qX [] T17 (e.take 22)).bind fun a => (qC tb_22_ T18 qb_22).bind fun b => some (.one (ri (qjx k a b d), qz5 a b d (qjx k a b d)))
 | _, _ => none)
theorem qOU (k a b d r) (h : qiD k a b d = some r): qGh a b d r := qO Tryz.f107 (go (qA [qCo k, qvX k, qCm k, qCp k, qOb k, qCz k, qN7 k]) [] [] [.autoB [4] true []] (gN h (fun q => qf (⟨rfl, ⟨rfl, trivial⟩⟩ : QL (0, .var 140 ((qB (qr T17 a)) ++ [.own 1 0])) ∧ QL (0, .row 54 T18 b) ∧ True) (qf (qAj q) qP)) fun h => qu h fun h => gN h (fun q => qf (⟨rfl, ⟨rfl, trivial⟩⟩ : QL (0, .var 140 ((qB (qr T17 a)) ++ [.own 1 0])) ∧ QL (0, .row 54 T18 b) ∧ True) (qf (qAk q.1) (qf (quw q.2) qP))) fun h => qu h fun h => gN h (fun q => qf (⟨rfl, ⟨rfl, trivial⟩⟩ : QL (0, .var 140 ((qB (qr T17 a)) ++ [.own 1 0])) ∧ QL (0, .row 54 T18 b) ∧ True) (qf (qAh q.1) (qf (qNd q.2) qP))) fun h => qu h fun h => gN h (fun q => qf q.1 (qf q.2.1 (qf (qM9 q.2.2) qP))) fun h => qu h fun h => qv h qAx fun h => qu h fun h => gL h))
theorem qMV {k a b d} (h : (qiD k a b d).isSome): qGh a b d (qjx k a b d) := qJ h (qOU k a b d)
abbrev qaA : Type := T17.T × List T18.T
def qon (r : qaA) : AV := .tup []
def qrj (a : T17.T) (b : List T18.T) (r : qaA) : List (Nat × Blk) := [(0, .var 140 ((qB (qr T17 r.1)) ++ [.own 1 1])), (1, .row 54 T18 r.2)]
abbrev qGj (a : T17.T) (b : List T18.T) (r : qaA) : Prop := CC Tryz.prog 60 [.ptr 0 0 0] [.var 140 (qB (qr T17 a) ++ [.own 1 0]), .row 54 T18 b] (qon r) (qrj a b r)
def qFv := fun (a : T17.T) (b : List T18.T) y0 y1 y2 y3 y4 y5 y6 => (⟨qM 120 [(0, .ptr 0 0 0), (3, ri y0), (4, .own 1000000 0), (32, ro T16 y1), (33, ri y2), (34, ri y3)], [(0, 0, .var 140 ((qB (qr T17 y4)) ++ [.own 1 1])), (1, 1, .row 54 T18 y5), (1000000, 0, .map false I RTy.bool y6)]⟩ : St)
def qDU := fun (a : T17.T) (b : List T18.T) y0 y1 y2 y3 y4 y5 y6 y7 y8 y9 y10 => (⟨qM 120 [(0, .ptr 0 0 0), (3, ri y0), (4, .own 1000000 0), (6, .ptr 1000001 0 0), (32, ro T16 y1), (33, ri y2), (34, ri y3), (56, ro T15 y4), (57, ri y5), (58, ri y6)], [(0, 0, .var 140 ((qB (qr T17 y7)) ++ [.own 1 1])), (1, 1, .row 54 T18 y8), (1000000, 0, .map false I RTy.bool y9), (1000001, 0, .var 117 (qB (qr T16 y10)))]⟩ : St)
def qDV := fun (a : T17.T) (b : List T18.T) y0 y1 y2 y3 y4 y5 => (⟨qM 120 [(0, .ptr 0 0 0), (3, ri y0), (78, ro T11 y1), (79, ri y2), (80, ri y3)], [(0, 0, .var 140 ((qB (qr T17 y4)) ++ [.own 1 1])), (1, 1, .row 54 T18 y5)]⟩ : St)
def qDW := fun (a : T17.T) (b : List T18.T) y0 y1 y2 y3 y4 y5 y6 y7 y8 => (⟨qM 120 [(0, .ptr 0 0 0), (3, ri y0), (78, ro T11 y1), (79, ri y2), (80, ri y3), (85, ro I y4), (86, ri y5), (87, ri y6)], [(0, 0, .var 140 ((qB (qr T17 y7)) ++ [.own 1 1])), (1, 1, .row 54 T18 y8)]⟩ : St)
def qDX := fun (a : T17.T) (b : List T18.T) y0 y1 y2 y3 y4 y5 => (⟨qM 120 [(0, .ptr 0 0 0), (3, ri y0), (102, ro T13 y1), (103, ri y2), (104, ri y3)], [(0, 0, .var 140 ((qB (qr T17 y4)) ++ [.own 1 1])), (1, 1, .row 54 T18 y5)]⟩ : St)
mutual
def vq (k : Nat) (a : T17.T) (b : List T18.T) : Nat → Int → List T16.T → Int → Int → T17.T → List T18.T → (List (I.T × (RTy.bool).T)) → Option qaA
 | 0, _, _, _, _, _, _, _ => none
 | j + 1, y0, y1, y2, y3, y4, y5, y6 =>
 bif y3 < y2 then
 if (0 ≤ y3) ∧ (y3 < y1.length) then
 if ((qi0 k (y1.getD y3.toNat T16.dflt)).isSome) then
 bif ((wb I (y1.getD y3.toNat T16.dflt).1 y6).getD false) then
 if ((zl k y4 y5 12 (y1.getD y3.toNat T16.dflt).1 0).isSome) then
 vq k a b j y0 y1 y2 (qa .i64 (y3 + 1)) ((wg k y4 y5 12 (y1.getD y3.toNat T16.dflt).1 0).1) ((wg k y4 y5 12 (y1.getD y3.toNat T16.dflt).1 0).2) (zP I (y1.getD y3.toNat T16.dflt).1 true y6)
 else none
 else
 bif (qc8 k (y1.getD y3.toNat T16.dflt) != (0 : Int)) then
 if ((zl k y4 y5 11 (y1.getD y3.toNat T16.dflt).1 (qc8 k (y1.getD y3.toNat T16.dflt))).isSome) then
 vq k a b j y0 y1 y2 (qa .i64 (y3 + 1)) ((wg k y4 y5 11 (y1.getD y3.toNat T16.dflt).1 (qc8 k (y1.getD y3.toNat T16.dflt))).1) ((wg k y4 y5 11 (y1.getD y3.toNat T16.dflt).1 (qc8 k (y1.getD y3.toNat T16.dflt))).2) (zP I (y1.getD y3.toNat T16.dflt).1 true y6)
 else none
 else
 Wu k a b j y0 y1 y2 y3 ((y1.getD y3.toNat T16.dflt).2.2) (↑ (qb (y1.getD y3.toNat T16.dflt).2.2) : Int) 0 y4 y5 y6 (y1.getD y3.toNat T16.dflt)
 else none
 else none
 else
 Zw k a b j y0 y4.2.2.2.2.2.2.2.2.2.2.2.2.2.2.2.2.2.1 (↑ (qb y4.2.2.2.2.2.2.2.2.2.2.2.2.2.2.2.2.2.1) : Int) 0 y4 y5
def Wu (k : Nat) (a : T17.T) (b : List T18.T) : Nat → Int → List T16.T → Int → Int → List T15.T → Int → Int → T17.T → List T18.T → (List (I.T × (RTy.bool).T)) → T16.T → Option qaA
 | 0, _, _, _, _, _, _, _, _, _, _, _ => none
 | j + 1, y0, y1, y2, y3, y4, y5, y6, y7, y8, y9, y10 =>
 bif y6 < y5 then
 if (0 ≤ y6) ∧ (y6 < y4.length) then
 bif ((y4.getD y6.toNat T15.dflt).1 == (1 : Int)) then
 Wu k a b j (qa .i64 (y0 + (y4.getD y6.toNat T15.dflt).2)) y1 y2 y3 y4 y5 (qa .i64 (y6 + 1)) y7 y8 y9 y10
 else
 Wu k a b j y0 y1 y2 y3 y4 y5 (qa .i64 (y6 + 1)) y7 y8 y9 y10
 else none
 else
 vq k a b j y0 y1 y2 (qa .i64 (y3 + 1)) y7 y8 (zP I y10.1 true y9)
def Zw (k : Nat) (a : T17.T) (b : List T18.T) : Nat → Int → List T11.T → Int → Int → T17.T → List T18.T → Option qaA
 | 0, _, _, _, _, _, _ => none
 | j + 1, y0, y1, y2, y3, y4, y5 =>
 bif y3 < y2 then
 if (0 ≤ y3) ∧ (y3 < y1.length) then
 VM k a b j y0 y1 y2 y3 ((y1.getD y3.toNat T11.dflt).2.2) (↑ (qb (y1.getD y3.toNat T11.dflt).2.2) : Int) 0 y4 y5
 else none
 else
 VN k a b j y0 y4.2.2.2.2.2.2.2.2.2.2.2.2.2.2.2.2.2.2.2.1 (↑ (qb y4.2.2.2.2.2.2.2.2.2.2.2.2.2.2.2.2.2.2.2.1) : Int) 0 y4 y5
def VM (k : Nat) (a : T17.T) (b : List T18.T) : Nat → Int → List T11.T → Int → Int → List I.T → Int → Int → T17.T → List T18.T → Option qaA
 | 0, _, _, _, _, _, _, _, _, _ => none
 | j + 1, y0, y1, y2, y3, y4, y5, y6, y7, y8 =>
 bif y6 < y5 then
 if (0 ≤ y6) ∧ (y6 < y4.length) then
 if ((qiD k y7 y8 (y4.getD y6.toNat I.dflt)).isSome) then
 VM k a b j (qa .i64 (y0 - qjx k y7 y8 (y4.getD y6.toNat I.dflt))) y1 y2 y3 y4 y5 (qa .i64 (y6 + 1)) y7 y8
 else none
 else none
 else
 Zw k a b j y0 y1 y2 (qa .i64 (y3 + 1)) y7 y8
def VN (k : Nat) (a : T17.T) (b : List T18.T) : Nat → Int → List T13.T → Int → Int → T17.T → List T18.T → Option qaA
 | 0, _, _, _, _, _, _ => none
 | j + 1, y0, y1, y2, y3, y4, y5 =>
 bif y3 < y2 then
 if (0 ≤ y3) ∧ (y3 < y1.length) then
 VN k a b j (qa .i64 (y0 + if (if 1000000000000 < (y1.getD y3.toNat T13.dflt).2.2.2 then 1000000000000 else (y1.getD y3.toNat T13.dflt).2.2.2) > 0 then if 1000000000000 < (y1.getD y3.toNat T13.dflt).2.2.2 then 1000000000000 else (y1.getD y3.toNat T13.dflt).2.2.2 else 0)) y1 y2 (qa .i64 (y3 + 1)) y4 y5
 else none
 else
 bif (y0 != 0) then
 if ((zl k y4 y5 11 0 y0).isSome) then
 some ((wg k y4 y5 11 0 y0).1, (wg k y4 y5 11 0 y0).2)
 else none
 else
 some (y4, y5)
end
def qff (k : Nat) (a : T17.T) (b : List T18.T) : Option qaA :=
 if ((qiI k a.2.2.2.2.2.2.2.2.2.2.2.2.2.2.2.2.2.2.2.2.1 1099511627776).isSome) then
 bif (YJ k a.2.2.2.2.2.2.2.2.2.2.2.2.2.2.2.2.2.2.2.2.1 (1099511627776 : Int) != (0 : Int)) then
 if ((zl k a b 10 (YJ k a.2.2.2.2.2.2.2.2.2.2.2.2.2.2.2.2.2.2.2.2.1 1099511627776) 0).isSome) then
 vq k a b k 0 ((wg k a b 10 (YJ k a.2.2.2.2.2.2.2.2.2.2.2.2.2.2.2.2.2.2.2.2.1 1099511627776) 0).1.2.2.2.2.2.2.2.2.2.2.2.2.2.2.2.2.2.2.2.2.2) (↑ (qb (wg k a b 10 (YJ k a.2.2.2.2.2.2.2.2.2.2.2.2.2.2.2.2.2.2.2.2.1 1099511627776) 0).1.2.2.2.2.2.2.2.2.2.2.2.2.2.2.2.2.2.2.2.2.2) : Int) 0 ((wg k a b 10 (YJ k a.2.2.2.2.2.2.2.2.2.2.2.2.2.2.2.2.2.2.2.2.1 1099511627776) 0).1) ((wg k a b 10 (YJ k a.2.2.2.2.2.2.2.2.2.2.2.2.2.2.2.2.2.2.2.2.1 1099511627776) 0).2) ([])
 else none
 else
 vq k a b k 0 a.2.2.2.2.2.2.2.2.2.2.2.2.2.2.2.2.2.2.2.2.2 (↑ (qb a.2.2.2.2.2.2.2.2.2.2.2.2.2.2.2.2.2.2.2.2.2) : Int) 0 a b ([])
 else none
def qaV := fun k a b => (qff k a b).getD ((T17).dflt, [])
def qmy (k : Nat) : Ke := (60, fun
 | [.ptr _ _ _] => some [true]
 | _ => none, fun
 | [.ptr 0 0 0], [.var 140 d, .row 54 tb_22_ qb_22] => (qX [] T17 (d.take 22)).bind fun a => (qC tb_22_ T18 qb_22).bind fun b => some (.one (qon (qaV k a b), qrj a b (qaV k a b)))
 | _, _ => none)
def qHO (k : Nat) : Calld := qA [qbQ k, qN4 k, qOq k, qNX k]
def qAI : List (Nat × List Cmd) := [(6, [.autoB [0, 3, 4, 32, 33, 34] false [1]]), (14, [.autoB [0, 3, 4, 6, 32, 33, 34, 56, 57, 58] false [1]]), (22, [.autoB [0, 3, 78, 79, 80] false [1]]), (25, [.autoB [0, 3, 78, 79, 80, 85, 86, 87] false [1]]), (31, [.autoB [0, 3, 102, 103, 104] false [1]])]
abbrev qlt := fun a b => EP Tryz.f60 2 qon (qrj a b)
theorem qrN (k a b) : ∀ j, (∀ {y0 y1 y2 y3 y4 y5 y6}, qlt a b 6 (qFv a b y0 y1 y2 y3 y4 y5 y6) (vq k a b j y0 y1 y2 y3 y4 y5 y6)) ∧ (∀ {y0 y1 y2 y3 y4 y5 y6 y7 y8 y9 y10}, qlt a b 14 (qDU a b y0 y1 y2 y3 y4 y5 y6 y7 y8 y9 y10) (Wu k a b j y0 y1 y2 y3 y4 y5 y6 y7 y8 y9 y10)) ∧ (∀ {y0 y1 y2 y3 y4 y5}, qlt a b 22 (qDV a b y0 y1 y2 y3 y4 y5) (Zw k a b j y0 y1 y2 y3 y4 y5)) ∧ (∀ {y0 y1 y2 y3 y4 y5 y6 y7 y8}, qlt a b 25 (qDW a b y0 y1 y2 y3 y4 y5 y6 y7 y8) (VM k a b j y0 y1 y2 y3 y4 y5 y6 y7 y8)) ∧ (∀ {y0 y1 y2 y3 y4 y5}, qlt a b 31 (qDX a b y0 y1 y2 y3 y4 y5) (VN k a b j y0 y1 y2 y3 y4 y5))
 | 0 => by and_intros <;> intros <;> exact e0
 | j + 1 => by
  have ih := @qrN k a b j
  have g := @go (qHO k) [] qAI [.autoB [] true [1]]
  refine ⟨?_, ?_, ?_, ?_, ?_⟩
  ·intro y0 y1 y2 y3 y4 y5 y6 r h
   rw [vq] at h
   exact g (gS h (fun h => qU h fun h => qv h qNt fun h => gS h (fun h => qv h zk fun h => gD h 6 ih.1) fun h => gS h (fun h => qv h zk fun h => gD h 6 ih.1) fun h => gD h 14 ih.2.1) fun h => gD h 22 ih.2.2.1)
  ·intro y0 y1 y2 y3 y4 y5 y6 y7 y8 y9 y10 r h
   rw [Wu] at h
   exact g (gS h (fun h => qU h fun h => gS h (fun h => gD h 14 ih.2.1) fun h => gD h 14 ih.2.1) fun h => gD h 6 ih.1)
  ·intro y0 y1 y2 y3 y4 y5 r h
   rw [Zw] at h
   exact g (gS h (fun h => qU h fun h => gD h 25 ih.2.2.2.1) fun h => gD h 31 ih.2.2.2.2)
  ·intro y0 y1 y2 y3 y4 y5 y6 y7 y8 r h
   rw [VM] at h
   exact g (gS h (fun h => qU h fun h => gN h (fun q => qf (⟨rfl, ⟨rfl, trivial⟩⟩ : QL (0, .var 140 ((qB (qr T17 y7)) ++ [.own 1 1])) ∧ QL (1, .row 54 T18 y8) ∧ True) (qf (qMV q) qP)) fun h => gD h 25 ih.2.2.2.1) fun h => gD h 22 ih.2.2.1)
  ·intro y0 y1 y2 y3 y4 y5 r h
   rw [VN] at h
   exact g (gS h (fun h => qU h fun h => gD h 31 ih.2.2.2.2) fun h => gS h (fun h => qv h zk fun h => gL h) fun h => gL h)
theorem qOW (k a b r) (h : qff k a b = some r): qGj a b r := qO Tryz.f60 (go (qHO k) [] qAI [.autoB [] true [1]] (qv h qM3 fun h => gS h (fun h => qv h zk fun h => gD h 6 (qrN k a b k).1) fun h => gD h 6 (qrN k a b k).1))
theorem qAi {k a b} (h : (qff k a b).isSome): qGj a b (qaV k a b) := qJ h (qOW k a b)
def qC1 (r : T17.T) : AV := .sub 2 0 1 0 5
def qH8 (a : T17.T) (b : List T18.T) (r : T17.T) : List (Nat × Blk) := [(0, .var 140 ((qB (qr T17 r)) ++ [.own 1 0])), (0, .row 54 T18 b), (0, .var 1 [.fn (Fn.func 37) [.ptr 0 0 0] [], .fn (Fn.func 35) [.ptr 0 0 0] [], .fn (Fn.func 48) [.ptr 0 0 0] [], .fn (Fn.func 57) [.ptr 0 0 0] [], .fn (Fn.func 60) [.ptr 0 0 0] []])]
abbrev qL8 (a : T17.T) (b : List T18.T) (r : T17.T) : Prop := CC Tryz.prog 66 [.ptr 0 0 0] [.var 140 (qB (qr T17 a) ++ [.own 1 0]), .row 54 T18 b] (qC1 r) (qH8 a b r)
def qxf (k : Nat) (a : T17.T) (b : List T18.T) : Option T17.T :=
 some a
def qym := fun k a b => (qxf k a b).getD (T17).dflt
def qIi (k : Nat) : Ke := (66, fun
 | [.ptr _ _ _] => some [true]
 | _ => none, fun
 | [.ptr 0 0 0], [.var 140 d, .row 54 tx_22_ qx_22] => (qX [] T17 (d.take 22)).bind fun a => (qC tx_22_ T18 qx_22).bind fun b => some (.one (qC1 (qym k a b), qH8 a b (qym k a b)))
 | _, _ => none)
theorem qRD (k a b r) (h : qxf k a b = some r): qL8 a b r := qO Tryz.f66 (go (qA [qmz k, qmA k, qCn k, qCl k, qmy k]) [] [] [.autoB [2] true []] (gL h))
theorem qQ9 {k a b} (h : (qxf k a b).isSome): qL8 a b (qym k a b) := qJ h (qRD k a b)
abbrev qaC : Type := List T18.T × Int
def qot (r : qaC) : AV := .tup [ro T18 r.1, ri r.2]
abbrev qGu (a : T17.T) (r : qaC) : Prop := CC Tryz.prog 33 [.agg (qB (qr T17 a)), .r (.v (.func (.func 66) #[] #[]))] [] (qot r) (nb r)
def qti := fun y0 y1 => (⟨qM 29 [(6, .ptr 1000000 0 0), (16, .sub 1000002 0 1 0 5), (17, ri 5), (18, ri 0)], [(1000000, 0, .var 140 ((qB (qr T17 y0)) ++ [.own 1000001 0])), (1000001, 0, .row 54 T18 y1), (1000002, 0, .var 1 [.fn (Fn.func 37) [.ptr 1000000 0 0] [], .fn (Fn.func 35) [.ptr 1000000 0 0] [], .fn (Fn.func 48) [.ptr 1000000 0 0] [], .fn (Fn.func 57) [.ptr 1000000 0 0] [], .fn (Fn.func 60) [.ptr 1000000 0 0] []])]⟩ : St)
def qtj := fun y0 y1 => (⟨qM 29 [(6, .ptr 1000000 0 0), (16, .sub 1000002 0 1 0 5), (17, ri 5), (18, ri 1)], [(1000000, 0, .var 140 ((qB (qr T17 y0)) ++ [.own 1000001 0])), (1000001, 0, .row 54 T18 y1), (1000002, 0, .var 1 [.fn (Fn.func 37) [.ptr 1000000 0 0] [], .fn (Fn.func 35) [.ptr 1000000 0 0] [], .fn (Fn.func 48) [.ptr 1000000 0 0] [], .fn (Fn.func 57) [.ptr 1000000 0 0] [], .fn (Fn.func 60) [.ptr 1000000 0 0] []])]⟩ : St)
def qtk := fun y0 y1 => (⟨qM 29 [(6, .ptr 1000000 0 0), (16, .sub 1000002 0 1 0 5), (17, ri 5), (18, ri 2)], [(1000000, 0, .var 140 ((qB (qr T17 y0)) ++ [.own 1000001 0])), (1000001, 0, .row 54 T18 y1), (1000002, 0, .var 1 [.fn (Fn.func 37) [.ptr 1000000 0 0] [], .fn (Fn.func 35) [.ptr 1000000 0 0] [], .fn (Fn.func 48) [.ptr 1000000 0 0] [], .fn (Fn.func 57) [.ptr 1000000 0 0] [], .fn (Fn.func 60) [.ptr 1000000 0 0] []])]⟩ : St)
def qtl := fun y0 y1 => (⟨qM 29 [(6, .ptr 1000000 0 0), (16, .sub 1000002 0 1 0 5), (17, ri 5), (18, ri 3)], [(1000000, 0, .var 140 ((qB (qr T17 y0)) ++ [.own 1000001 0])), (1000001, 0, .row 54 T18 y1), (1000002, 0, .var 1 [.fn (Fn.func 37) [.ptr 1000000 0 0] [], .fn (Fn.func 35) [.ptr 1000000 0 0] [], .fn (Fn.func 48) [.ptr 1000000 0 0] [], .fn (Fn.func 57) [.ptr 1000000 0 0] [], .fn (Fn.func 60) [.ptr 1000000 0 0] []])]⟩ : St)
def qtm := fun y0 y1 => (⟨qM 29 [(6, .ptr 1000000 0 0), (16, .sub 1000002 0 1 0 5), (17, ri 5), (18, ri 4)], [(1000000, 0, .var 140 ((qB (qr T17 y0)) ++ [.own 1000001 0])), (1000001, 0, .row 54 T18 y1), (1000002, 0, .var 1 [.fn (Fn.func 37) [.ptr 1000000 0 0] [], .fn (Fn.func 35) [.ptr 1000000 0 0] [], .fn (Fn.func 48) [.ptr 1000000 0 0] [], .fn (Fn.func 57) [.ptr 1000000 0 0] [], .fn (Fn.func 60) [.ptr 1000000 0 0] []])]⟩ : St)
def qtn := fun y0 y1 => (⟨qM 29 [(6, .ptr 1000000 0 0), (16, .sub 1000002 0 1 0 5), (17, ri 5), (18, ri 5)], [(1000000, 0, .var 140 ((qB (qr T17 y0)) ++ [.own 1000001 0])), (1000001, 0, .row 54 T18 y1), (1000002, 0, .var 1 [.fn (Fn.func 37) [.ptr 1000000 0 0] [], .fn (Fn.func 35) [.ptr 1000000 0 0] [], .fn (Fn.func 48) [.ptr 1000000 0 0] [], .fn (Fn.func 57) [.ptr 1000000 0 0] [], .fn (Fn.func 60) [.ptr 1000000 0 0] []])]⟩ : St)
mutual
def qdi (k : Nat) : Nat → T17.T → List T18.T → Option qaC
 | 0, _, _ => none
 | j + 1, y0, y1 =>
 if ((0 : Int) ≤ (0 : Int)) ∧ ((0 : Int) < (↑ (5 : Nat) : Int)) then
 if ((qmc k y0 y1).isSome) then
 qdj k j ((qf3 k y0 y1).1) ((qf3 k y0 y1).2)
 else none
 else none
def qdj (k : Nat) : Nat → T17.T → List T18.T → Option qaC
 | 0, _, _ => none
 | j + 1, y0, y1 =>
 if ((0 : Int) ≤ (1 : Int)) ∧ ((1 : Int) < (↑ (5 : Nat) : Int)) then
 if ((qmb k y0 y1).isSome) then
 qdk k j ((qf2 k y0 y1).1) ((qf2 k y0 y1).2)
 else none
 else none
def qdk (k : Nat) : Nat → T17.T → List T18.T → Option qaC
 | 0, _, _ => none
 | j + 1, y0, y1 =>
 if ((0 : Int) ≤ (2 : Int)) ∧ ((2 : Int) < (↑ (5 : Nat) : Int)) then
 if ((qqw k y0 y1).isSome) then
 qdl k j ((qm3 k y0 y1).1) ((qm3 k y0 y1).2)
 else none
 else none
def qdl (k : Nat) : Nat → T17.T → List T18.T → Option qaC
 | 0, _, _ => none
 | j + 1, y0, y1 =>
 if ((0 : Int) ≤ (3 : Int)) ∧ ((3 : Int) < (↑ (5 : Nat) : Int)) then
 if ((qqu k y0 y1).isSome) then
 qdm k j ((qm1 k y0 y1).1) ((qm1 k y0 y1).2)
 else none
 else none
def qdm (k : Nat) : Nat → T17.T → List T18.T → Option qaC
 | 0, _, _ => none
 | j + 1, y0, y1 =>
 if ((0 : Int) ≤ (4 : Int)) ∧ ((4 : Int) < (↑ (5 : Nat) : Int)) then
 if ((qff k y0 y1).isSome) then
 qdn k j ((qaV k y0 y1).1) ((qaV k y0 y1).2)
 else none
 else none
def qdn (k : Nat) : Nat → T17.T → List T18.T → Option qaC
 | 0, _, _ => none
 | j + 1, y0, y1 =>
 some (y1, 0)
end
def qqz (k : Nat) (a : T17.T) : Option qaC :=
 if ((qaI k a).isSome) then
 bif (qcW k a) then
 some ([], 8)
 else
 if ((qxf k a []).isSome) then
 qdi k k (qym k a []) ([])
 else none
 else none
def qqP := fun k a => (qqz k a).getD ([], 0)
def qN0 (k : Nat) : Ke := (33, fun
 | [_, .r (.v (.func (.func 66) _ _))] => some [false, false]
 | _ => none, fun
 | [.agg b, .r (.v (.func (.func 66) _ _))], [] => (qX [] T17 b).bind fun a => some (.one (qot (qqP k a), []))
 | _, _ => none)
def qHT (k : Nat) : Calld := qA [qmB k, qmz k, qmA k, qCn k, qCl k, qmy k, qIi k]
def qAR : List (Nat × List Cmd) := [(5, [.key 18, .autoB [6, 16, 17, 18] false []])]
abbrev qir := EP Tryz.f33 0 qot nb
theorem qBD (k) : ∀ j, (∀ {y0 y1}, qir 5 (qti y0 y1) (qdi k j y0 y1)) ∧ (∀ {y0 y1}, qir 5 (qtj y0 y1) (qdj k j y0 y1)) ∧ (∀ {y0 y1}, qir 5 (qtk y0 y1) (qdk k j y0 y1)) ∧ (∀ {y0 y1}, qir 5 (qtl y0 y1) (qdl k j y0 y1)) ∧ (∀ {y0 y1}, qir 5 (qtm y0 y1) (qdm k j y0 y1)) ∧ (∀ {y0 y1}, qir 5 (qtn y0 y1) (qdn k j y0 y1))
 | 0 => by and_intros <;> intros <;> exact e0
 | j + 1 => by
  have ih := @qBD k j
  have g := @go (qHT k) [] qAR [.frz 4 false (RTy.list T18), .autoB [4, 5] true []]
  refine ⟨?_, ?_, ?_, ?_, ?_, ?_⟩
  ·intro y0 y1 r h
   rw [qdi] at h
   exact g (gU1 h (.leaf (.tup [.r (.ro T18 y1), .r (.v (.int .i64 0))]) []) fun h => qU h fun h => qv h qAm fun h => gD h 20005 ih.2.1)
  ·intro y0 y1 r h
   rw [qdj] at h
   exact g (gU1 h (.leaf (.tup [.r (.ro T18 y1), .r (.v (.int .i64 0))]) []) fun h => qU h fun h => qv h qAl fun h => gD h 30005 ih.2.2.1)
  ·intro y0 y1 r h
   rw [qdk] at h
   exact g (gU1 h (.leaf (.tup [.r (.ro T18 y1), .r (.v (.int .i64 0))]) []) fun h => qU h fun h => qv h qMW fun h => gD h 40005 ih.2.2.2.1)
  ·intro y0 y1 r h
   rw [qdl] at h
   exact g (gU1 h (.leaf (.tup [.r (.ro T18 y1), .r (.v (.int .i64 0))]) []) fun h => qU h fun h => qv h qMT fun h => gD h 50005 ih.2.2.2.2.1)
  ·intro y0 y1 r h
   rw [qdm] at h
   exact g (gU1 h (.leaf (.tup [.r (.ro T18 y1), .r (.v (.int .i64 0))]) []) fun h => qU h fun h => qv h qAi fun h => gD h 60005 ih.2.2.2.2.2)
  ·intro y0 y1 r h
   rw [qdn] at h
   exact g (gU2 h (.stuck 5001) fun h => gL h)
theorem qO7 (k a r) (h : qqz k a = some r): qGu a r := qO Tryz.f33 (go (qHT k) [] qAR [.frz 4 false (RTy.list T18), .autoB [4, 5] true []] (qv h qlW fun h => qu h fun h => qv h qQ9 fun h => gD h 10005 (qBD k k).1))
theorem qMZ {k a} (h : (qqz k a).isSome): qGu a (qqP k a) := qJ h (qO7 k a)
abbrev qEw : Type := List T18.T × Int
def qC0 (r : qEw) : AV := .tup [ro T18 r.1, ri r.2]
abbrev qL3 (a : T17.T) (r : qEw) : Prop := CC Tryz.prog 28 [.agg (qB (qr T17 a))] [] (qC0 r) (nb r)
def qxe (k : Nat) (a : T17.T) : Option qEw :=
 if ((qqz k a).isSome) then
 some ((qqP k a).1, (qqP k a).2)
 else none
def qyl := fun k a => (qxe k a).getD ([], 0)
def qRn (k : Nat) : Ke := (28, mo 1, fun
 | [.agg b], [] => (qX [] T17 b).bind fun a => some (.one (qC0 (qyl k a), []))
 | _, _ => none)
theorem qRC (k a r) (h : qxe k a = some r): qL3 a r := qO Tryz.f28 (go (qA [qIi k, qN0 k]) [] [] [.frz 2 false (RTy.list T18), .autoB [2, 3] true []] (qv h qMZ fun h => gL h))
theorem qQ8 {k a} (h : (qxe k a).isSome): qL3 a (qyl k a) := qJ h (qRC k a)
def qwy (r : T17.T) : AV := .agg (qB (qr T17 r))
abbrev qHh (a : Int) (r : T17.T) : Prop := CC Tryz.prog 32 [ri a] [] (qwy r) (nb r)
def qi4 (k : Nat) (a : Int) : Option T17.T :=
 some (0, (10, (100, (100, (10, (0, (0, ([], ([], ([(0, 100, 1, 0, 0)], ([], ([(1, 0, 0, 10, false, [(0, 100, false)])], ([a], ([], ([], ([], ([], ([], ([], ([], ([], [])))))))))))))))))))))
def qY := fun k a => (qi4 k a).getD (T17).dflt
def qOy (k : Nat) : Ke := (32, mo 1, fun
 | [.r (.v (.int .i64 a))], [] => some (.one (qwy (qY k a), []))
 | _, _ => none)
theorem qPZ (k a r) (h : qi4 k a = some r): qHh a r := qO Tryz.f32 (go (qA []) [] [] [.frz 2 true T17, .autoB [2] true []] (gL h))
theorem qrG {k a} (h : (qi4 k a).isSome): qHh a (qY k a) := qJ h (qPZ k a)
def bs_H62_u81_0 : ByteArray := ByteArray.mk #[114, 111, 108, 108, 32, 55, 58, 32, 101, 114, 114, 111, 114, 32, 49]
def qoG (r : Bool) : AV := rb r
def qrt  (r : Bool) : List (Nat × Blk) := []
def qrg  : List AV := []
def qud  : List Blk := []
abbrev qwN  (r : Bool) : Prop := CC Tryz.prog 13 (qrg ) (qud ) (qoG r) (qrt  r)
def qfs (k : Nat)  : Option Bool :=
 if ((qi4 k 0).isSome) ∧ ((qxe k (qY k 0)).isSome) then
 if ((qi4 k 30).isSome) ∧ ((qxg k (qY k 30)).isSome) then
 if ((qi4 k 0).isSome) then
 if ((qxk k ((qY k 0).1, (qY k 0).2.1, (qY k 0).2.2.1, (qY k 0).2.2.2.1, (qY k 0).2.2.2.2.1, (qY k 0).2.2.2.2.2.1, (qY k 0).2.2.2.2.2.2.1, (qY k 0).2.2.2.2.2.2.2.1, (qY k 0).2.2.2.2.2.2.2.2.1, (qY k 0).2.2.2.2.2.2.2.2.2.1, (qY k 0).2.2.2.2.2.2.2.2.2.2.1, [], [], (qY k 0).2.2.2.2.2.2.2.2.2.2.2.2.2)).isSome) then
 if ((qxi k (3, 7, 1)).isSome) then
 bif ((qyl k (qY k (0 : Int))).2 != (0 : Int) || (qil k (qY k (30 : Int))).2 != (0 : Int) || (qoP k ((qY k (0 : Int)).1, (qY k (0 : Int)).2.1, (qY k (0 : Int)).2.2.1, (qY k (0 : Int)).2.2.2.1, (qY k (0 : Int)).2.2.2.2.1, (qY k (0 : Int)).2.2.2.2.2.1, (qY k (0 : Int)).2.2.2.2.2.2.1, (qY k (0 : Int)).2.2.2.2.2.2.2.1, (qY k (0 : Int)).2.2.2.2.2.2.2.2.1, (qY k (0 : Int)).2.2.2.2.2.2.2.2.2.1, (qY k (0 : Int)).2.2.2.2.2.2.2.2.2.2.1, [], [], (qY k (0 : Int)).2.2.2.2.2.2.2.2.2.2.2.2.2)).2 != (0 : Int) || (qys k ((3 : Int), (7 : Int), (1 : Int))).2 != (0 : Int) || (↑ (qyl k (qY k (0 : Int))).1.length : Int) != (0 : Int) || (↑ (qil k (qY k (30 : Int))).1.length : Int) != (1 : Int) || (↑ (qoP k ((qY k (0 : Int)).1, (qY k (0 : Int)).2.1, (qY k (0 : Int)).2.2.1, (qY k (0 : Int)).2.2.2.1, (qY k (0 : Int)).2.2.2.2.1, (qY k (0 : Int)).2.2.2.2.2.1, (qY k (0 : Int)).2.2.2.2.2.2.1, (qY k (0 : Int)).2.2.2.2.2.2.2.1, (qY k (0 : Int)).2.2.2.2.2.2.2.2.1, (qY k (0 : Int)).2.2.2.2.2.2.2.2.2.1, (qY k (0 : Int)).2.2.2.2.2.2.2.2.2.2.1, [], [], (qY k (0 : Int)).2.2.2.2.2.2.2.2.2.2.2.2.2)).1.length : Int) != (1 : Int)) then
 some false
 else
 if ((0 : Int) ≤ (0 : Int)) ∧ ((0 : Int) < (↑ (qil k (qY k (30 : Int))).1.length : Int)) ∧ (Vd T18 ((qil k (qY k (30 : Int))).1.getD (ql (0 : Int)) T18.dflt) ((4 : Int), (-300 : Int), (0 : Int)) = true → (0 : Int) ≤ (0 : Int)) ∧ (Vd T18 ((qil k (qY k (30 : Int))).1.getD (ql (0 : Int)) T18.dflt) ((4 : Int), (-300 : Int), (0 : Int)) = true → (0 : Int) < (↑ (qoP k ((qY k (0 : Int)).1, (qY k (0 : Int)).2.1, (qY k (0 : Int)).2.2.1, (qY k (0 : Int)).2.2.2.1, (qY k (0 : Int)).2.2.2.2.1, (qY k (0 : Int)).2.2.2.2.2.1, (qY k (0 : Int)).2.2.2.2.2.2.1, (qY k (0 : Int)).2.2.2.2.2.2.2.1, (qY k (0 : Int)).2.2.2.2.2.2.2.2.1, (qY k (0 : Int)).2.2.2.2.2.2.2.2.2.1, (qY k (0 : Int)).2.2.2.2.2.2.2.2.2.2.1, [], [], (qY k (0 : Int)).2.2.2.2.2.2.2.2.2.2.2.2.2)).1.length : Int)) then
 some (Vd T18 ((qil k (qY k 30)).1.getD (ql 0) T18.dflt) (4, (-300), 0) && Vd T18 ((qoP k ((qY k 0).1, (qY k 0).2.1, (qY k 0).2.2.1, (qY k 0).2.2.2.1, (qY k 0).2.2.2.2.1, (qY k 0).2.2.2.2.2.1, (qY k 0).2.2.2.2.2.2.1, (qY k 0).2.2.2.2.2.2.2.1, (qY k 0).2.2.2.2.2.2.2.2.1, (qY k 0).2.2.2.2.2.2.2.2.2.1, (qY k 0).2.2.2.2.2.2.2.2.2.2.1, [], [], (qY k 0).2.2.2.2.2.2.2.2.2.2.2.2.2)).1.getD (ql 0) T18.dflt) (2, 0, 0) && (qys k (3, 7, 1)).1.toList == bs_H62_u81_0.toList)
 else none
 else none
 else none
 else none
 else none
 else none
def YM := fun k => (qfs k ).getD false
def qOv (k : Nat) : Ke := (13, mo 0, fun
 | [], [] => some (.one (qoG (YM k ), qrt  (YM k )))
 | _, _ => none)
theorem qPW (k r) (h : qfs k  = some r): qwN  r := qO Tryz.f13 (go (qA [qRp k, qRr k, qRq k, qRn k, qOy k]) [] [] [.autoB [0] true []] (gN h (fun q => qf (qrG q.1) (qf (qQ8 q.2) qP)) fun h => gN h (fun q => qf (qrG q.1) (qf (qRc q.2) qP)) fun h => qv h (fun q => qrG q) fun h => qv h (fun q => qRf q) fun h => qv h (fun q => qRe q) fun h => gT h (fun c h => gL h) fun c h => gN h (fun q => YW q) fun h => gL h))
theorem qAy {k} (h : (qfs k ).isSome): qwN  (YM k ) := qJ (Φ := qwN ) h (qPW k )
abbrev qHf (a : List T18.T) (b : List T18.T) (r : Bool) : Prop := CC Tryz.prog 17 [ro T18 a, ro T18 b] [] (rb r) (nb r)
def qFX := fun y0 y1 y2 y3 => (⟨qM 26 [(0, ro T18 y0), (1, ro T18 y1), (12, ri y2), (13, ri y3)], []⟩ : St)
def Yh (k : Nat) : Nat → List T18.T → List T18.T → Int → Int → Option Bool
 | 0, _, _, _, _ => none
 | j + 1, y0, y1, y2, y3 =>
 bif y3 < y2 then
 if (0 ≤ y3) ∧ (y3 < y0.length) ∧ (0 ≤ y3) ∧ (y3 < y1.length) then
 bif (!Vd T18 (y0.getD y3.toNat T18.dflt) (y1.getD y3.toNat T18.dflt)) then
 some false
 else
 Yh k j y0 y1 y2 (qa .i64 (y3 + 1))
 else none
 else
 some true
def qaL (k : Nat) (a : List T18.T) (b : List T18.T) : Option Bool :=
 bif ((↑a.length : Int) != (↑b.length : Int)) then
 some false
 else
 Yh k k a b (↑a.length : Int) 0
def YN := fun k a b => (qaL k a b).getD false
def qOw (k : Nat) : Ke := (17, mo 2, fun
 | [.r (.ro f d), .r (.ro g e)], [] => (qC f T18 d).bind fun a => (qC g T18 e).bind fun b => some (.one (rb (YN k a b), []))
 | _, _ => none)
def qBd : List (Nat × List Cmd) := [(4, [.autoB [0, 1, 12, 13] false []])]
abbrev qQW := EP Tryz.f17 0 rb nb
theorem qBY (k) : ∀ j, (∀ y0 y1 y2 y3, qQW 4 (qFX y0 y1 y2 y3) (Yh k j y0 y1 y2 y3))
 | 0 => by intros; exact e0
 | j + 1 => by
  have ih := @qBY k j
  ·intro y0 y1 y2 y3 r h
   rw [Yh] at h
   exact go (qA []) [] qBd [.autoB [4] true []] (gS h (fun h => gN h YW fun h => qu h fun h => gC h 4 (ih _ _ _ _ _)) fun h => gL h)
theorem qPX (k a b r) (h : qaL k a b = some r): qHf a b r := qO Tryz.f17 (go (qA []) [] qBd [.autoB [4] true []] (qu h fun h => gC h 4 ((qBY k k) _ _ _ _ _)))
theorem qAz {k a b} (h : (qaL k a b).isSome): qHf a b (YN k a b) := qJ h (qPX k a b)
end
theorem qNJ (p : vm) : Vd T18 p p = true := by
 show ((p.1 == p.1) && ((p.2.1 == p.2.1) && (p.2.2 == p.2.2))) = true
 rw [beq_self_eq_true, beq_self_eq_true, beq_self_eq_true]; rfl
theorem qxp (k : Nat) (l : List vm) (hl : l.length ≤ 1000000) : ∀ (d i j : Nat), i + d = l.length → d < j → Yh k j l l (l.length : Int) (i : Int) = some true := by
 intro d
 induction d with
 | zero =>
  intro i j hi hj
  obtain ⟨j, rfl⟩ := qW (by omega : 0 < j)
  rw [Yh, qq (by omega : ¬ (i : Int) < (l.length : Int)), qg]
 | succ d ih =>
  intro i j hi hj
  obtain ⟨j, rfl⟩ := qW (by omega : 0 < j)
  rw [Yh, qw (by omega : (i : Int) < (l.length : Int)), qj, qc ⟨by omega, by omega, by omega, by omega⟩, qH i (by omega), qNJ]
  exact ih (i + 1) j (by omega) (by omega)
theorem qmj (k : Nat) (l : List vm) (hl : l.length ≤ 1000000) (hk : l.length < k) : qaL k l l = some true := by
 unfold qaL
 rw [bne_self_eq_false, qg]
 exact qxp k l hl l.length 0 k (by omega) (by omega)
theorem qxq (k : Nat) (l : List vm) (hl : l.length ≤ 1000000) (hk : l.length < k) : YN k l l = true := by
 unfold YN; rw [qmj k l hl hk]; rfl
theorem qJJ (k : Nat) (hk : 100 ≤ k) (b : T17.T) (hw : Wf T17 b) : ∃ r : Bool, qft k b = some r ∧ (r = false → GB b) :=
 qJI k hk b (hw.2.2.2.2.2.2.2.2.2.2.2.2.2.2.2.1).1 (hw.2.2.2.2.2.2.2.2.2.2.2.2.2.2.2.2.2.1).1 (hw.2.2.2.2.2.2.2.2.2.2.2.1).1 (hw.2.2.2.2.2.2.2.2.1).1
end Go.AM
namespace Go.AM
open Go
abbrev Rn := Int × Int × Bool   -- At, Len, Back
def good (r : Rn) : Prop := 1 ≤ r.2.1 ∧ r.2.1 ≤ 17179869184 ∧ 0 ≤ r.1 ∧ r.1 < 17179869184 ∧ (r.2.2 = true → 0 ≤ r.1 - r.2.1 + 1) ∧ (r.2.2 = false → r.1 + r.2.1 ≤ 17179869184)
instance (r : Rn) : Decidable (good r) := by unfold good; infer_instance
def qp : List Rn → Int
 | [] => 0
 | r :: t => r.2.1 + qp t
def goods : List Rn → Prop
 | [] => True
 | r :: t => good r ∧ goods t
instance : (l : List Rn) → Decidable (goods l)
 | [] => .isTrue trivial
 | r :: t => @instDecidableAnd _ _ _ (instDecidableGoods t)
def chk (m : List Rn) : Int := if m.length > 256 then 8 else if goods m then (if qp m > 17179869184 then 21 else 0) else 1
theorem WV (a b : List Rn) : qp (a ++ b) = qp a + qp b := by
 induction a with
 | nil => simp [qp]
 | cons r t ih => simp only [qne, qp, ih]; omega
theorem Qm (a b : List Rn) : goods (a ++ b) ↔ goods a ∧ goods b := by
 induction a with
 | nil => simp [goods]
 | cons r t ih => simp only [qne, goods, ih]; exact and_assoc.symm
theorem goods.mem : ∀ {l : List Rn}, goods l → ∀ r ∈ l, good r
 | [], _, r, h => by simp at h
 | u :: t, ⟨h1, h2⟩, r, hr => by
  rcases qK.1 hr with rfl | hr
  ·exact h1
  ·exact goods.mem h2 r hr
theorem goods.of : ∀ {l : List Rn}, (∀ r ∈ l, good r) → goods l
 | [], _ => trivial
 | u :: t, h => ⟨h u (by simp), goods.of fun r hr => h r (by simp [hr])⟩
theorem zg : ∀ {l : List Rn}, goods l → (l.length : Int) ≤ qp l
 | [], _ => by simp [qp]
 | r :: t, ⟨h1, h2⟩ => by
  have := zg h2
  have := h1.1
  simp only [qp, wB]; omega
structure Chk (m : List Rn) : Prop where
 len : m.length ≤ 256
 goods : goods m
 tot : qp m ≤ 17179869184
theorem wU {m : List Rn} : chk m = 0 ↔ Chk m := by
 unfold chk
 constructor
 ·intro h
  by_cases h1 : m.length > 256
  ·rw [qc h1] at h; omega
  ·rw [qi h1] at h
   by_cases h2 : goods m
   ·rw [qc h2] at h
    by_cases h3 : qp m > 17179869184
    ·rw [qc h3] at h; omega
    ·exact ⟨by omega, h2, by omega⟩
   ·rw [qi h2] at h; omega
 ·rintro ⟨h1, h2, h3⟩
  rw [qi (by omega), qc h2, qi (by omega)]
def wd (r : Rn) (x : Int) : Int := if r.2.2 = true then r.1 - x else r.1 + x
def q9 : List Rn → Int → Int
 | [], _ => 0
 | r :: t, x => if x < r.2.1 then wd r x else q9 t (x - r.2.1)
def lo (r : Rn) : Int := if r.2.2 = true then r.1 - r.2.1 + 1 else r.1
def hi (r : Rn) : Int := if r.2.2 = true then r.1 else r.1 + r.2.1 - 1
def Qd (r : Rn) : Sp := (lo r, hi r + 1)
theorem good.lohi {r : Rn} (h : good r) : 0 ≤ lo r ∧ lo r ≤ hi r ∧ hi r < 17179869184 ∧ hi r - lo r + 1 = r.2.1 := by
 obtain ⟨h1, h2, h3, h4, h5, h6⟩ := h
 unfold lo hi
 cases hb : r.2.2
 ·have := h6 hb; simp only [qE, if_false]; omega
 ·have := h5 hb; simp only [if_true]; omega
theorem qjg {r : Rn} {x : Int} (h0 : 0 ≤ x) (h1 : x < r.2.1) : lo r ≤ wd r x ∧ wd r x ≤ hi r := by
 unfold lo hi wd
 cases r.2.2 <;> simp only [qE, if_false, if_true] <;> omega
def wG (r : Rn) (x n : Int) : Rn := (wd r x, n, r.2.2 && decide (n > 1))
def wA (c r : Rn) : Int := r.1 - wd c (c.2.1 - 1)
def apart (c r : Rn) : Bool := (wA c r != 1 && wA c r != -1) || (decide (c.2.1 > 1) && !((wA c r == -1) == c.2.2))
def vC (b : List Rn) (r : Rn) : List Rn :=
 if r.2.1 < 1 then b else match b.getLast? with
  | none => b ++ [wG r 0 r.2.1]
  | some c => bif apart c r then b ++ [wG r 0 r.2.1]
   else bif decide (r.2.1 > 1) && !(r.2.2 == (wA c r == -1)) then b.dropLast ++ [(c.1, c.2.1 + 1, wA c r == -1), wG r 1 (r.2.1 - 1)]
   else b.dropLast ++ [(c.1, c.2.1 + r.2.1, wA c r == -1)]
def zp (b : List Rn) (l : List Rn) : List Rn := l.foldl vC b
def wc : List Rn → Int → Int → List Rn
 | [], _, _ => []
 | r :: t, a, b =>
  (if max a 0 < min b r.2.1 then [wG r (max a 0) (min b r.2.1 - max a 0)] else []) ++ wc t (a - r.2.1) (b - r.2.1)
def vV (p : Rn) : Rn := (wd p (p.2.1 - 1), p.2.1, !p.2.2 && decide (p.2.1 > 1))
def steps (outer : List Rn) (r : Rn) : List Rn :=
 if r.2.2 = true then ((wc outer (r.1 - r.2.1 + 1) (r.1 + 1)).reverse).map vV else wc outer r.1 (r.1 + r.2.1)
def fitsIn (n : Int) : List Rn → Prop
 | [] => True
 | r :: t => hi r < n ∧ fitsIn n t
instance (n : Int) : (l : List Rn) → Decidable (fitsIn n l)
 | [] => .isTrue trivial
 | r :: t => @instDecidableAnd _ _ _ (instDecidableFitsIn n t)
def Xa (inner outer : List Rn) : List Rn := inner.foldl (fun b r => zp b (steps outer r)) []
def V9 (inner outer : List Rn) : List Rn × Int :=
 if chk inner ≠ 0 then ([], chk inner) else if chk outer ≠ 0 then ([], chk outer) else if ¬ fitsIn (qp outer) inner then ([], 21)
 else if (Xa inner outer).length > 256 then ([], 8) else (Xa inner outer, 0)
end Go.AM
namespace Go.AM
open Go Go.Proofs
noncomputable section
abbrev qyD (a : T3.T) (r : Bool) : Prop := CC Tryz.prog 173 [.agg (qB (qr T3 a))] [] (rb r) (nb r)
def qdU (k : Nat) (a : T3.T) : Option Bool :=
 bif (decide (a.2.1 < (1 : Int)) || decide (a.2.1 > (17179869184 : Int)) || decide (a.1 < (0 : Int)) || decide (a.1 ≥ (17179869184 : Int))) then
 some false
 else
 bif a.2.2 then
 some (decide (qa .i64 (qa .i64 (a.1 - a.2.1) + 1) ≥ 0))
 else
 some (decide (qa .i64 (a.1 + a.2.1) ≤ 17179869184))
def qib := fun k a => (qdU k a).getD false
def qvM (k : Nat) : Ke := (173, mo 1, fun
 | [.agg b], [] => (qX [] T3 b).bind fun a => some (.one (rb (qib k a), []))
 | _, _ => none)
theorem qKC (k a r) (h : qdU k a = some r): qyD a r := qO Tryz.f173 (go (qA []) [] [] [.autoB [2] true []] (qu h fun h => qu h fun h => gL h))
theorem qIN {k a} (h : (qdU k a).isSome): qyD a (qib k a) := qJ h (qKC k a)
abbrev qyF (a : List T3.T) (r : Int) : Prop := CC Tryz.prog 174 [ro T3 a] [] (ri r) (nb r)
def qDo := fun y0 y1 y2 => (⟨qM 19 [(0, ro T3 y0), (3, ri y1), (4, ri y2)], []⟩ : St)
def X0 (k : Nat) : Nat → List T3.T → Int → Int → Option Int
 | 0, _, _, _ => none
 | j + 1, y0, y1, y2 =>
 bif y2 < y0.length then
 if (0 ≤ y2) ∧ (y2 < y0.length) then
 X0 k j y0 (qa .i64 (y1 + (y0.getD y2.toNat T3.dflt).2.1)) (qa .i64 (y2 + 1))
 else none
 else
 some y1
def qbr (k : Nat) (a : List T3.T) : Option Int :=
 X0 k k a 0 0
def qeJ := fun k a => (qbr k a).getD 0
def qnT (k : Nat) : Ke := (174, mo 1, fun
 | [.r (.ro d b)], [] => (qC d T3 b).bind fun a => some (.one (ri (qeJ k a), []))
 | _, _ => none)
def quC : List (Nat × List Cmd) := [(3, [.autoB [0, 3, 4] false []])]
abbrev qMg := EP Tryz.f174 0 ri nb
theorem qvd (k) : ∀ j, (∀ y0 y1 y2, qMg 3 (qDo y0 y1 y2) (X0 k j y0 y1 y2))
 | 0 => by intros; exact e0
 | j + 1 => by
  have ih := @qvd k j
  ·intro y0 y1 y2 r h
   rw [X0] at h
   exact go (qA []) [] quC [.autoB [2] true []] (gS h (fun h => qU h fun h => gC h 3 (ih _ _ _ _)) fun h => gL h)
theorem qKE (k a r) (h : qbr k a = some r): qyF a r := qO Tryz.f174 (go (qA []) [] quC [.autoB [2] true []] (gC h 3 ((qvd k k) _ _ _ _)))
theorem qum {k a} (h : (qbr k a).isSome): qyF a (qeJ k a) := qJ h (qKE k a)
abbrev qHv (a : List T3.T) (r : Int) : Prop := CC Tryz.prog 127 [ro T3 a] [] (ri r) (nb r)
def qF8 := fun y0 y1 => (⟨qM 22 [(0, ro T3 y0), (3, ri y1)], []⟩ : St)
def qbf (k : Nat) : Nat → List T3.T → Int → Option Int
 | 0, _, _ => none
 | j + 1, y0, y1 =>
 bif y1 < y0.length then
 if (0 ≤ y1) ∧ (y1 < y0.length) ∧ ((qdU k (y0.getD y1.toNat T3.dflt)).isSome) then
 bif (!qib k (y0.getD y1.toNat T3.dflt)) then
 some 1
 else
 qbf k j y0 (qa .i64 (y1 + 1))
 else none
 else
 if ((qbr k y0).isSome) then
 bif qeJ k y0 > (17179869184 : Int) then
 some 21
 else
 some 0
 else none
def ZW (k : Nat) (a : List T3.T) : Option Int :=
 bif (↑a.length : Int) > (256 : Int) then
 some 8
 else
 qbf k k a 0
def Qb := fun k a => (ZW k a).getD 0
def qey (k : Nat) : Ke := (127, mo 1, fun
 | [.r (.ro d b)], [] => (qC d T3 b).bind fun a => some (.one (ri (Qb k a), []))
 | _, _ => none)
def qBn : List (Nat × List Cmd) := [(4, [.autoB [0, 3] false []])]
abbrev qQ3 := EP Tryz.f127 0 ri nb
theorem qB7 (k) : ∀ j, (∀ y0 y1, qQ3 4 (qF8 y0 y1) (qbf k j y0 y1))
 | 0 => by intros; exact e0
 | j + 1 => by
  have ih := @qB7 k j
  ·intro y0 y1 r h
   rw [qbf] at h
   exact go (qA [qvM k, qnT k]) [] qBn [.autoB [2] true []] (gS h (fun h => gN h (fun q => qf q.1 (qf q.2.1 (qf (qIN q.2.2) qP))) fun h => qu h fun h => gC h 4 (ih _ _ _)) fun h => qv h qum fun h => qu h fun h => gL h)
theorem qQd (k a r) (h : ZW k a = some r): qHv a r := qO Tryz.f127 (go (qA [qvM k, qnT k]) [] qBn [.autoB [2] true []] (qu h fun h => gC h 4 ((qB7 k k) _ _ _)))
theorem qbm {k a} (h : (ZW k a).isSome): qHv a (Qb k a) := qJ h (qQd k a)
abbrev qyE (a : T3.T) (b : Int) (r : Int) : Prop := CC Tryz.prog 136 [.agg (qB (qr T3 a)), ri b] [] (ri r) (nb r)
def WI (k : Nat) (a : T3.T) (b : Int) : Option Int :=
 bif a.2.2 then
 some (qa .i64 (a.1 - b))
 else
 some (qa .i64 (a.1 + b))
def wS := fun k a b => (WI k a b).getD 0
def qeu (k : Nat) : Ke := (136, mo 2, fun
 | [.agg d, .r (.v (.int .i64 b))], [] => (qX [] T3 d).bind fun a => some (.one (ri (wS k a b), []))
 | _, _ => none)
theorem qKD (k a b r) (h : WI k a b = some r): qyE a b r := qO Tryz.f136 (go (qA []) [] [] [.autoB [4] true []] (qu h fun h => gL h))
theorem XV {k a b} (h : (WI k a b).isSome): qyE a b (wS k a b) := qJ h (qKD k a b)
def qkZ (r : Int × Int) : AV := .tup [ri r.1, ri r.2]
abbrev qyI (a : List T3.T) (b : Int) (r : Int × Int) : Prop := CC Tryz.prog 182 [ro T3 a, ri b] [] (qkZ r) (nb r)
def qDq := fun y0 y1 y2 => (⟨qM 33 [(0, ro T3 y0), (1, ri y1), (6, ri y2)], []⟩ : St)
def Vx (k : Nat) : Nat → List T3.T → Int → Int → Option (Int × Int)
 | 0, _, _, _ => none
 | j + 1, y0, y1, y2 =>
 bif (decide (y2 < y0.length) && decide (y1 ≥ 0)) then
 if (0 ≤ y2) ∧ (y2 < y0.length) then
 bif y1 < (y0.getD y2.toNat T3.dflt).2.1 then
 some (y2, y1)
 else
 if (0 ≤ y2) ∧ (y2 < y0.length) then
 Vx k j y0 (qa .i64 (y1 - (y0.getD y2.toNat T3.dflt).2.1)) (qa .i64 (y2 + 1))
 else none
 else none
 else
 some (-1, 0)
def WJ (k : Nat) (a : List T3.T) (b : Int) : Option (Int × Int) :=
 Vx k k a b 0
def qF := fun k a b => (WJ k a b).getD (0, 0)
def qJT (k : Nat) : Ke := (182, mo 2, fun
 | [.r (.ro e d), .r (.v (.int .i64 b))], [] => (qC e T3 d).bind fun a => some (.one (qkZ (qF k a b), []))
 | _, _ => none)
def quE : List (Nat × List Cmd) := [(2, [.autoB [0, 1, 6] false []])]
abbrev qMi := EP Tryz.f182 0 qkZ nb
theorem qvf (k) : ∀ j, (∀ y0 y1 y2, qMi 2 (qDq y0 y1 y2) (Vx k j y0 y1 y2))
 | 0 => by intros; exact e0
 | j + 1 => by
  have ih := @qvf k j
  ·intro y0 y1 y2 r h
   rw [Vx] at h
   exact go (qA []) [] quE [.autoB [4, 5] true []] (gS h (fun h => qU h fun h => qu h fun h => qU h fun h => gC h 2 (ih _ _ _ _)) fun h => gL h)
theorem qKH (k a b r) (h : WJ k a b = some r): qyI a b r := qO Tryz.f182 (go (qA []) [] quE [.autoB [4, 5] true []] (gC h 2 ((qvf k k) _ _ _ _)))
theorem qIP {k a b} (h : (WJ k a b).isSome): qyI a b (qF k a b) := qJ h (qKH k a b)
def qsV (r : T3.T) : AV := .agg (qB (qr T3 r))
abbrev qyC (a : T3.T) (b : Int) (d : Int) (r : T3.T) : Prop := CC Tryz.prog 221 [.agg (qB (qr T3 a)), ri b, ri d] [] (qsV r) (nb r)
def Xe (k : Nat) (a : T3.T) (b : Int) (d : Int) : Option T3.T :=
 if ((WI k a b).isSome) then
 some (wS k a b, (d, a.2.2 && decide (d > 1)))
 else none
def Vm := fun k a b d => (Xe k a b d).getD (T3).dflt
def qvL (k : Nat) : Ke := (221, mo 3, fun
 | [.agg e, .r (.v (.int .i64 b)), .r (.v (.int .i64 d))], [] => (qX [] T3 e).bind fun a => some (.one (qsV (Vm k a b d), []))
 | _, _ => none)
theorem qKB (k a b d r) (h : Xe k a b d = some r): qyC a b d r := qO Tryz.f221 (go (qA [qeu k]) [] [] [.autoB [6] true []] (qv h XV fun h => gL h))
theorem qiv {k a b d} (h : (Xe k a b d).isSome): qyC a b d (Vm k a b d) := qJ h (qKB k a b d)
def qkY (r : List T3.T) : AV := ro T3 r
abbrev qyH (a : List T3.T) (b : T3.T) (r : List T3.T) : Prop := CC Tryz.prog 183 [ro T3 a, .agg (qB (qr T3 b))] [] (qkY r) (nb r)
def qDp := fun y0 y1 => (⟨qM 101 [(3, .ptr 1000000 0 0), (5, .own 1000001 0)], [(1000000, 0, .var 49 (qB (qr T3 y0))), (1000001, 0, .row 49 T3 y1)]⟩ : St)
def Qk (k : Nat) : Nat → T3.T → List T3.T → Option (List T3.T)
 | 0, _, _ => none
 | j + 1, y0, y1 =>
 bif y0.2.1 > (0 : Int) then
 bif qa .i64 ((↑y1.length : Int) - (1 : Int)) < (0 : Int) then
 if ((Xe k y0 0 y0.2.1).isSome) ∧ ((y1.length + [Vm k y0 (0 : Int) y0.2.1].length) * (24 : Nat) ≤ (140737488355328 : Nat)) then
 some (y1 ++ [Vm k y0 0 y0.2.1])
 else none
 else
 if ((0 : Int) ≤ qa .i64 ((↑y1.length : Int) - (1 : Int))) ∧ (qa .i64 ((↑y1.length : Int) - (1 : Int)) < (↑y1.length : Int)) then
 if ((WI k (y1.getD (qa .i64 ((↑y1.length : Int) - 1)).toNat T3.dflt) (qa .i64 ((y1.getD (qa .i64 ((↑y1.length : Int) - 1)).toNat T3.dflt).2.1 - 1))).isSome) then
 bif (qa .i64 (y0.1 - wS k (y1.getD (qa .i64 ((↑y1.length : Int) - (1 : Int))).toNat T3.dflt) (qa .i64 ((y1.getD (qa .i64 ((↑y1.length : Int) - (1 : Int))).toNat T3.dflt).2.1 - (1 : Int)))) != (1 : Int) && qa .i64 (y0.1 - wS k (y1.getD (qa .i64 ((↑y1.length : Int) - (1 : Int))).toNat T3.dflt) (qa .i64 ((y1.getD (qa .i64 ((↑y1.length : Int) - (1 : Int))).toNat T3.dflt).2.1 - (1 : Int)))) != (-1 : Int) || decide ((y1.getD (qa .i64 ((↑y1.length : Int) - (1 : Int))).toNat T3.dflt).2.1 > (1 : Int)) && (! (y1.getD (qa .i64 ((↑y1.length : Int) - (1 : Int))).toNat T3.dflt).2.2 == (qa .i64 (y0.1 - wS k (y1.getD (qa .i64 ((↑y1.length : Int) - (1 : Int))).toNat T3.dflt) (qa .i64 ((y1.getD (qa .i64 ((↑y1.length : Int) - (1 : Int))).toNat T3.dflt).2.1 - (1 : Int)))) == (-1 : Int)))) then
 if ((Xe k y0 0 y0.2.1).isSome) ∧ ((y1.length + [Vm k y0 (0 : Int) y0.2.1].length) * (24 : Nat) ≤ (140737488355328 : Nat)) then
 some (y1 ++ [Vm k y0 0 y0.2.1])
 else none
 else
 bif (decide (y0.2.1 > (1 : Int)) && (!y0.2.2 == (qa .i64 (y0.1 - wS k (y1.getD (qa .i64 ((↑y1.length : Int) - (1 : Int))).toNat T3.dflt) (qa .i64 ((y1.getD (qa .i64 ((↑y1.length : Int) - (1 : Int))).toNat T3.dflt).2.1 - (1 : Int)))) == (-1 : Int)))) then
 if ((0 : Int) ≤ qa .i64 ((↑y1.length : Int) - (1 : Int))) ∧ (qa .i64 ((↑y1.length : Int) - (1 : Int)) < (↑y1.length : Int)) then
 bif ((1 : Int) == y0.2.1) then
 some (y1.set (qa .i64 ((↑y1.length : Int) - 1)).toNat ((y1.getD (qa .i64 ((↑y1.length : Int) - 1)).toNat T3.dflt).1, qa .i64 ((y1.getD (qa .i64 ((↑y1.length : Int) - 1)).toNat T3.dflt).2.1 + 1), qa .i64 (y0.1 - wS k (y1.getD (qa .i64 ((↑y1.length : Int) - 1)).toNat T3.dflt) (qa .i64 ((y1.getD (qa .i64 ((↑y1.length : Int) - 1)).toNat T3.dflt).2.1 - 1))) == (-1)))
 else
 if ((Xe k y0 1 (qa .i64 (y0.2.1 - 1))).isSome) then
 Qk k j (Vm k y0 1 (qa .i64 (y0.2.1 - 1))) (y1.set (qa .i64 ((↑y1.length : Int) - 1)).toNat ((y1.getD (qa .i64 ((↑y1.length : Int) - 1)).toNat T3.dflt).1, qa .i64 ((y1.getD (qa .i64 ((↑y1.length : Int) - 1)).toNat T3.dflt).2.1 + 1), qa .i64 (y0.1 - wS k (y1.getD (qa .i64 ((↑y1.length : Int) - 1)).toNat T3.dflt) (qa .i64 ((y1.getD (qa .i64 ((↑y1.length : Int) - 1)).toNat T3.dflt).2.1 - 1))) == (-1)))
 else none
 else none
 else
 if ((0 : Int) ≤ qa .i64 ((↑y1.length : Int) - (1 : Int))) ∧ (qa .i64 ((↑y1.length : Int) - (1 : Int)) < (↑y1.length : Int)) then
 bif (y0.2.1 == y0.2.1) then
 some (y1.set (qa .i64 ((↑y1.length : Int) - 1)).toNat ((y1.getD (qa .i64 ((↑y1.length : Int) - 1)).toNat T3.dflt).1, qa .i64 ((y1.getD (qa .i64 ((↑y1.length : Int) - 1)).toNat T3.dflt).2.1 + y0.2.1), qa .i64 (y0.1 - wS k (y1.getD (qa .i64 ((↑y1.length : Int) - 1)).toNat T3.dflt) (qa .i64 ((y1.getD (qa .i64 ((↑y1.length : Int) - 1)).toNat T3.dflt).2.1 - 1))) == (-1)))
 else
 if ((Xe k y0 y0.2.1 (qa .i64 (y0.2.1 - y0.2.1))).isSome) then
 Qk k j (Vm k y0 y0.2.1 (qa .i64 (y0.2.1 - y0.2.1))) (y1.set (qa .i64 ((↑y1.length : Int) - 1)).toNat ((y1.getD (qa .i64 ((↑y1.length : Int) - 1)).toNat T3.dflt).1, qa .i64 ((y1.getD (qa .i64 ((↑y1.length : Int) - 1)).toNat T3.dflt).2.1 + y0.2.1), qa .i64 (y0.1 - wS k (y1.getD (qa .i64 ((↑y1.length : Int) - 1)).toNat T3.dflt) (qa .i64 ((y1.getD (qa .i64 ((↑y1.length : Int) - 1)).toNat T3.dflt).2.1 - 1))) == (-1)))
 else none
 else none
 else none
 else none
 else
 some y1
def qbs (k : Nat) (a : List T3.T) (b : T3.T) : Option (List T3.T) :=
 if (((0 : Nat) + a.length) * (24 : Nat) ≤ (140737488355328 : Nat)) then
 Qk k k b ([] ++ a)
 else none
def qai := fun k a b => (qbs k a b).getD []
def qJS (k : Nat) : Ke := (183, mo 2, fun
 | [.r (.ro f d), .agg e], [] => (qC f T3 d).bind fun a => (qX [] T3 e).bind fun b => some (.one (qkY (qai k a b), []))
 | _, _ => none)
def quD : List (Nat × List Cmd) := [(2, [.autoB [3, 5] false []])]
abbrev qMh := EP Tryz.f183 0 qkY nb
theorem qve (k) : ∀ j, (∀ y0 y1, qMh 2 (qDp y0 y1) (Qk k j y0 y1))
 | 0 => by intros; exact e0
 | j + 1 => by
  have ih := @qve k j
  ·intro y0 y1 r h
   rw [Qk] at h
   exact go (qA [qeu k, qvL k]) [] quD [.frz 4 false (RTy.list T3), .autoB [4] true []] (gS h (fun h => gS h (fun h => gN h (fun q => qf (qiv q.1) (qf q.2 qP)) fun h => gL h) fun h => qU h fun h => qv h XV fun h => gS h (fun h => gN h (fun q => qf (qiv q.1) (qf q.2 qP)) fun h => gL h) fun h => gS h (fun h => qU h fun h => qu h fun h => qv h qiv fun h => gC h 2 (ih _ _ _)) fun h => qU h fun h => qu h fun h => qv h qiv fun h => gC h 2 (ih _ _ _)) fun h => gL h)
theorem qKG (k a b r) (h : qbs k a b = some r): qyH a b r := qO Tryz.f183 (go (qA [qeu k, qvL k]) [] quD [.frz 4 false (RTy.list T3), .autoB [4] true []] (qv h id fun h => gC h 2 ((qve k k) _ _ _)))
theorem qun {k a b} (h : (qbs k a b).isSome): qyH a b (qai k a b) := qJ h (qKG k a b)
def qsW (r : List T3.T × Int) : AV := .tup [ro T3 r.1, ri r.2]
abbrev qyG (a : List T3.T) (r : List T3.T × Int) : Prop := CC Tryz.prog 184 [ro T3 a] [] (qsW r) (nb r)
def Y0 (k : Nat) (a : List T3.T) : Option (List T3.T × Int) :=
 bif (↑a.length : Int) > (256 : Int) then
 some ([], 8)
 else
 some (a, 0)
def qah := fun k a => (Y0 k a).getD ([], 0)
def qJR (k : Nat) : Ke := (184, mo 1, fun
 | [.r (.ro d b)], [] => (qC d T3 b).bind fun a => some (.one (qsW (qah k a), []))
 | _, _ => none)
theorem qKF (k a r) (h : Y0 k a = some r): qyG a r := qO Tryz.f184 (go (qA []) [] [] [.frz 2 false (RTy.list T3), .autoB [2, 3] true []] (qu h fun h => gL h))
theorem qIO {k a} (h : (Y0 k a).isSome): qyG a (qah k a) := qJ h (qKF k a)
def qoM (r : List T3.T × Int) : AV := .tup [ro T3 r.1, ri r.2]
abbrev qHw (a : List T3.T) (b : List T3.T) (r : List T3.T × Int) : Prop := CC Tryz.prog 135 [ro T3 a, ro T3 b] [] (qoM r) (nb r)
def qF9 := fun y0 y1 y2 y3 => (⟨qM 101 [(0, ro T3 y0), (1, ro T3 y1), (8, ro T3 y2), (9, ri y3)], []⟩ : St)
def qEn := fun y0 y1 y2 y3 y4 => (⟨qM 101 [(0, ro T3 y0), (1, ro T3 y1), (8, ro T3 y2), (9, ri y3), (10, .ptr 1000000 0 0)], [(1000000, 0, .var 49 (qB (qr T3 y4)))]⟩ : St)
mutual
def WS (k : Nat) : Nat → List T3.T → List T3.T → List T3.T → Int → Option (List T3.T × Int)
 | 0, _, _, _, _ => none
 | j + 1, y0, y1, y2, y3 =>
 bif y3 < y0.length then
 if (0 ≤ y3) ∧ (y3 < y0.length) then
 Ql k j y0 y1 y2 y3 (y0.getD y3.toNat T3.dflt)
 else none
 else
 if ((Y0 k y2).isSome) then
 some ((qah k y2).1, (qah k y2).2)
 else none
def Ql (k : Nat) : Nat → List T3.T → List T3.T → List T3.T → Int → T3.T → Option (List T3.T × Int)
 | 0, _, _, _, _, _ => none
 | j + 1, y0, y1, y2, y3, y4 =>
 bif y4.2.1 > (0 : Int) then
 if ((WJ k y1 y4.1).isSome) then
 bif (qF k y1 y4.1).1 < (0 : Int) then
 some ([], 21)
 else
 if ((0 : Int) ≤ (qF k y1 y4.1).1) ∧ ((qF k y1 y4.1).1 < (↑y1.length : Int)) then
 bif y4.2.2 then
 if ((WI k (y1.getD (qF k y1 y4.1).1.toNat T3.dflt) (qF k y1 y4.1).2).isSome) ∧ ((qbs k y2 (wS k (y1.getD (qF k y1 y4.1).1.toNat T3.dflt) (qF k y1 y4.1).2, if qa .i64 ((qF k y1 y4.1).2 + 1) < y4.2.1 then qa .i64 ((qF k y1 y4.1).2 + 1) else y4.2.1, ! (y1.getD (qF k y1 y4.1).1.toNat T3.dflt).2.2 && decide ((if qa .i64 ((qF k y1 y4.1).2 + 1) < y4.2.1 then qa .i64 ((qF k y1 y4.1).2 + 1) else y4.2.1) > 1))).isSome) then
 bif ((if qa .i64 ((qF k y1 y4.1).2 + (1 : Int)) < y4.2.1 then qa .i64 ((qF k y1 y4.1).2 + (1 : Int)) else y4.2.1) == y4.2.1) then
 WS k j y0 y1 (qai k y2 (wS k (y1.getD (qF k y1 y4.1).1.toNat T3.dflt) (qF k y1 y4.1).2, if qa .i64 ((qF k y1 y4.1).2 + 1) < y4.2.1 then qa .i64 ((qF k y1 y4.1).2 + 1) else y4.2.1, ! (y1.getD (qF k y1 y4.1).1.toNat T3.dflt).2.2 && decide ((if qa .i64 ((qF k y1 y4.1).2 + 1) < y4.2.1 then qa .i64 ((qF k y1 y4.1).2 + 1) else y4.2.1) > 1))) (qa .i64 (y3 + 1))
 else
 if ((WI k y4 (if qa .i64 ((qF k y1 y4.1).2 + 1) < y4.2.1 then qa .i64 ((qF k y1 y4.1).2 + 1) else y4.2.1)).isSome) then
 Ql k j y0 y1 (qai k y2 (wS k (y1.getD (qF k y1 y4.1).1.toNat T3.dflt) (qF k y1 y4.1).2, if qa .i64 ((qF k y1 y4.1).2 + 1) < y4.2.1 then qa .i64 ((qF k y1 y4.1).2 + 1) else y4.2.1, ! (y1.getD (qF k y1 y4.1).1.toNat T3.dflt).2.2 && decide ((if qa .i64 ((qF k y1 y4.1).2 + 1) < y4.2.1 then qa .i64 ((qF k y1 y4.1).2 + 1) else y4.2.1) > 1))) y3 (wS k y4 (if qa .i64 ((qF k y1 y4.1).2 + 1) < y4.2.1 then qa .i64 ((qF k y1 y4.1).2 + 1) else y4.2.1), (qa .i64 (y4.2.1 - if qa .i64 ((qF k y1 y4.1).2 + 1) < y4.2.1 then qa .i64 ((qF k y1 y4.1).2 + 1) else y4.2.1), y4.2.2))
 else none
 else none
 else
 if ((WI k (y1.getD (qF k y1 y4.1).1.toNat T3.dflt) (qF k y1 y4.1).2).isSome) ∧ ((qbs k y2 (wS k (y1.getD (qF k y1 y4.1).1.toNat T3.dflt) (qF k y1 y4.1).2, if qa .i64 ((y1.getD (qF k y1 y4.1).1.toNat T3.dflt).2.1 - (qF k y1 y4.1).2) < y4.2.1 then qa .i64 ((y1.getD (qF k y1 y4.1).1.toNat T3.dflt).2.1 - (qF k y1 y4.1).2) else y4.2.1, (y1.getD (qF k y1 y4.1).1.toNat T3.dflt).2.2 && decide ((if qa .i64 ((y1.getD (qF k y1 y4.1).1.toNat T3.dflt).2.1 - (qF k y1 y4.1).2) < y4.2.1 then qa .i64 ((y1.getD (qF k y1 y4.1).1.toNat T3.dflt).2.1 - (qF k y1 y4.1).2) else y4.2.1) > 1))).isSome) then
 bif ((if qa .i64 ((y1.getD (qF k y1 y4.1).1.toNat T3.dflt).2.1 - (qF k y1 y4.1).2) < y4.2.1 then qa .i64 ((y1.getD (qF k y1 y4.1).1.toNat T3.dflt).2.1 - (qF k y1 y4.1).2) else y4.2.1) == y4.2.1) then
 WS k j y0 y1 (qai k y2 (wS k (y1.getD (qF k y1 y4.1).1.toNat T3.dflt) (qF k y1 y4.1).2, if qa .i64 ((y1.getD (qF k y1 y4.1).1.toNat T3.dflt).2.1 - (qF k y1 y4.1).2) < y4.2.1 then qa .i64 ((y1.getD (qF k y1 y4.1).1.toNat T3.dflt).2.1 - (qF k y1 y4.1).2) else y4.2.1, (y1.getD (qF k y1 y4.1).1.toNat T3.dflt).2.2 && decide ((if qa .i64 ((y1.getD (qF k y1 y4.1).1.toNat T3.dflt).2.1 - (qF k y1 y4.1).2) < y4.2.1 then qa .i64 ((y1.getD (qF k y1 y4.1).1.toNat T3.dflt).2.1 - (qF k y1 y4.1).2) else y4.2.1) > 1))) (qa .i64 (y3 + 1))
 else
 if ((WI k y4 (if qa .i64 ((y1.getD (qF k y1 y4.1).1.toNat T3.dflt).2.1 - (qF k y1 y4.1).2) < y4.2.1 then qa .i64 ((y1.getD (qF k y1 y4.1).1.toNat T3.dflt).2.1 - (qF k y1 y4.1).2) else y4.2.1)).isSome) then
 Ql k j y0 y1 (qai k y2 (wS k (y1.getD (qF k y1 y4.1).1.toNat T3.dflt) (qF k y1 y4.1).2, if qa .i64 ((y1.getD (qF k y1 y4.1).1.toNat T3.dflt).2.1 - (qF k y1 y4.1).2) < y4.2.1 then qa .i64 ((y1.getD (qF k y1 y4.1).1.toNat T3.dflt).2.1 - (qF k y1 y4.1).2) else y4.2.1, (y1.getD (qF k y1 y4.1).1.toNat T3.dflt).2.2 && decide ((if qa .i64 ((y1.getD (qF k y1 y4.1).1.toNat T3.dflt).2.1 - (qF k y1 y4.1).2) < y4.2.1 then qa .i64 ((y1.getD (qF k y1 y4.1).1.toNat T3.dflt).2.1 - (qF k y1 y4.1).2) else y4.2.1) > 1))) y3 (wS k y4 (if qa .i64 ((y1.getD (qF k y1 y4.1).1.toNat T3.dflt).2.1 - (qF k y1 y4.1).2) < y4.2.1 then qa .i64 ((y1.getD (qF k y1 y4.1).1.toNat T3.dflt).2.1 - (qF k y1 y4.1).2) else y4.2.1), (qa .i64 (y4.2.1 - if qa .i64 ((y1.getD (qF k y1 y4.1).1.toNat T3.dflt).2.1 - (qF k y1 y4.1).2) < y4.2.1 then qa .i64 ((y1.getD (qF k y1 y4.1).1.toNat T3.dflt).2.1 - (qF k y1 y4.1).2) else y4.2.1), y4.2.2))
 else none
 else none
 else none
 else none
 else
 WS k j y0 y1 y2 (qa .i64 (y3 + 1))
end
def qfw (k : Nat) (a : List T3.T) (b : List T3.T) : Option (List T3.T × Int) :=
 if ((ZW k a).isSome) then
 bif (Qb k a != (0 : Int)) then
 some ([], Qb k a)
 else
 if ((ZW k b).isSome) then
 bif (Qb k b != (0 : Int)) then
 some ([], Qb k b)
 else
 WS k k a b ([]) 0
 else none
 else none
def YR := fun k a b => (qfw k a b).getD ([], 0)
def qOG (k : Nat) : Ke := (135, mo 2, fun
 | [.r (.ro f d), .r (.ro i e)], [] => (qC f T3 d).bind fun a => (qC i T3 e).bind fun b => some (.one (qoM (YR k a b), []))
 | _, _ => none)
def qH2 (k : Nat) : Calld := qA [qey k, qeu k, qJT k, qJS k, qJR k]
def qBo : List (Nat × List Cmd) := [(9, [.frz 8 false (RTy.list T3), .autoB [0, 1, 8, 9] false []]), (12, [.autoB [0, 1, 8, 9, 10] false []])]
abbrev qHJ := EP Tryz.f135 0 qoM nb
theorem qB8 (k) : ∀ j, (∀ {y0 y1 y2 y3}, qHJ 9 (qF9 y0 y1 y2 y3) (WS k j y0 y1 y2 y3)) ∧ (∀ {y0 y1 y2 y3 y4}, qHJ 12 (qEn y0 y1 y2 y3 y4) (Ql k j y0 y1 y2 y3 y4))
 | 0 => by and_intros <;> intros <;> exact e0
 | j + 1 => by
  have ih := @qB8 k j
  have g := @go (qH2 k) [] qBo [.frz 4 false (RTy.list T3), .autoB [4, 5] true []]
  refine ⟨?_, ?_⟩
  ·intro y0 y1 y2 y3 r h
   rw [WS] at h
   exact g (gS h (fun h => qU h fun h => gD h 12 ih.2) fun h => qv h qIO fun h => gL h)
  ·intro y0 y1 y2 y3 y4 r h
   rw [Ql] at h
   exact g (gS h (fun h => qv h qIP fun h => qu h fun h => qU h fun h => gS h (fun h => gN h (fun q => qf (XV q.1) (qf (qun q.2) qP)) fun h => gS h (fun h => gD h 9 ih.1) fun h => qv h XV fun h => gD h 12 ih.2) fun h => gN h (fun q => qf (XV q.1) (qf (qun q.2) qP)) fun h => gS h (fun h => gD h 9 ih.1) fun h => qv h XV fun h => gD h 12 ih.2) fun h => gD h 9 ih.1)
theorem qQe (k a b r) (h : qfw k a b = some r): qHw a b r := qO Tryz.f135 (go (qH2 k) [] qBo [.frz 4 false (RTy.list T3), .autoB [4, 5] true []] (qv h qbm fun h => qu h fun h => qv h qbm fun h => qu h fun h => gD h 9 (qB8 k k).1))
theorem qAD {k a b} (h : (qfw k a b).isSome): qHw a b (YR k a b) := qJ h (qQe k a b)
abbrev qHn (a : List T21.T) (r : Int) : Prop := CC Tryz.prog 222 [ro T21 a] [] (ri r) (nb r)
def qF1 := fun y0 y1 => (⟨qM 40 [(0, ro T21 y0), (3, ri y1)], []⟩ : St)
def qba (k : Nat) : Nat → List T21.T → Int → Option Int
 | 0, _, _ => none
 | j + 1, y0, y1 =>
 bif y1 < y0.length then
 if (0 ≤ y1) ∧ (y1 < y0.length) ∧ (decide ((y0.getD y1.toNat T21.dflt).1 < (0 : Int)) = false → 0 ≤ y1) ∧ (decide ((y0.getD y1.toNat T21.dflt).1 < (0 : Int)) = false → y1 < y0.length) ∧ (decide ((y0.getD y1.toNat T21.dflt).1 < (0 : Int)) = false → 0 ≤ y1) ∧ (decide ((y0.getD y1.toNat T21.dflt).1 < (0 : Int)) = false → y1 < y0.length) ∧ ((decide ((y0.getD y1.toNat T21.dflt).1 < (0 : Int)) || decide ((y0.getD y1.toNat T21.dflt).1 > (y0.getD y1.toNat T21.dflt).2)) = false → 0 ≤ y1) ∧ ((decide ((y0.getD y1.toNat T21.dflt).1 < (0 : Int)) || decide ((y0.getD y1.toNat T21.dflt).1 > (y0.getD y1.toNat T21.dflt).2)) = false → y1 < y0.length) then
 bif (decide ((y0.getD y1.toNat T21.dflt).1 < (0 : Int)) || decide ((y0.getD y1.toNat T21.dflt).1 > (y0.getD y1.toNat T21.dflt).2) || decide ((y0.getD y1.toNat T21.dflt).2 > (17179869184 : Int))) then
 some 1
 else
 qba k j y0 (qa .i64 (y1 + 1))
 else none
 else
 some 0
def qfv (k : Nat) (a : List T21.T) : Option Int :=
 bif (↑a.length : Int) > (256 : Int) then
 some 8
 else
 qba k k a 0
def qc9 := fun k a => (qfv k a).getD 0
def qOC (k : Nat) : Ke := (222, mo 1, fun
 | [.r (.ro d b)], [] => (qC d T21 b).bind fun a => some (.one (ri (qc9 k a), []))
 | _, _ => none)
def qBh : List (Nat × List Cmd) := [(4, [.autoB [0, 3] false []])]
abbrev qQY := EP Tryz.f222 0 ri nb
theorem qB1 (k) : ∀ j, (∀ y0 y1, qQY 4 (qF1 y0 y1) (qba k j y0 y1))
 | 0 => by intros; exact e0
 | j + 1 => by
  have ih := @qB1 k j
  ·intro y0 y1 r h
   rw [qba] at h
   exact go (qA []) [] qBh [.autoB [2] true []] (gS h (fun h => gN h (fun q => qf q.1 (qf q.2.1 (qf q.2.2.1 (qf q.2.2.2.1 (qf q.2.2.2.2.1 (qf q.2.2.2.2.2.1 (qf q.2.2.2.2.2.2.1 (qf q.2.2.2.2.2.2.2 qP)))))))) fun h => qu h fun h => gC h 4 (ih _ _ _)) fun h => gL h)
theorem qP5 (k a r) (h : qfv k a = some r): qHn a r := qO Tryz.f222 (go (qA []) [] qBh [.autoB [2] true []] (qu h fun h => gC h 4 ((qB1 k k) _ _ _)))
theorem qAB {k a} (h : (qfv k a).isSome): qHn a (qc9 k a) := qJ h (qP5 k a)
abbrev qHo (a : List T21.T) (b : Int) (r : Bool) : Prop := CC Tryz.prog 234 [ro T21 a, ri b] [] (rb r) (nb r)
def qF2 := fun y0 y1 y2 => (⟨qM 28 [(0, ro T21 y0), (1, ri y1), (5, ri y2)], []⟩ : St)
def qbb (k : Nat) : Nat → List T21.T → Int → Int → Option Bool
 | 0, _, _, _ => none
 | j + 1, y0, y1, y2 =>
 bif y2 < y0.length then
 if (0 ≤ y2) ∧ (y2 < y0.length) ∧ (decide ((y0.getD y2.toNat T21.dflt).1 ≤ y1) = true → 0 ≤ y2) ∧ (decide ((y0.getD y2.toNat T21.dflt).1 ≤ y1) = true → y2 < y0.length) then
 bif (decide ((y0.getD y2.toNat T21.dflt).1 ≤ y1) && decide (y1 < (y0.getD y2.toNat T21.dflt).2)) then
 some true
 else
 qbb k j y0 y1 (qa .i64 (y2 + 1))
 else none
 else
 some false
def qi7 (k : Nat) (a : List T21.T) (b : Int) : Option Bool :=
 qbb k k a b 0
def YO := fun k a b => (qi7 k a b).getD false
def qCC (k : Nat) : Ke := (234, mo 2, fun
 | [.r (.ro e d), .r (.v (.int .i64 b))], [] => (qC e T21 d).bind fun a => some (.one (rb (YO k a b), []))
 | _, _ => none)
def qBi : List (Nat × List Cmd) := [(2, [.autoB [0, 1, 5] false []])]
abbrev qQZ := EP Tryz.f234 0 rb nb
theorem qB2 (k) : ∀ j, (∀ y0 y1 y2, qQZ 2 (qF2 y0 y1 y2) (qbb k j y0 y1 y2))
 | 0 => by intros; exact e0
 | j + 1 => by
  have ih := @qB2 k j
  ·intro y0 y1 y2 r h
   rw [qbb] at h
   exact go (qA []) [] qBi [.autoB [4] true []] (gS h (fun h => gN h YW fun h => qu h fun h => gC h 2 (ih _ _ _ _)) fun h => gL h)
theorem qP6 (k a b r) (h : qi7 k a b = some r): qHo a b r := qO Tryz.f234 (go (qA []) [] qBi [.autoB [4] true []] (gC h 2 ((qB2 k k) _ _ _ _)))
theorem qAC {k a b} (h : (qi7 k a b).isSome): qHo a b (YO k a b) := qJ h (qP6 k a b)
def qoL (r : List I.T) : AV := ro I r
abbrev qHu (a : List I.T) (b : Int) (r : List I.T) : Prop := CC Tryz.prog 280 [ro I a, ri b] [] (qoL r) (nb r)
def qF7 := fun y0 y1 y2 => (⟨qM 48 [(0, ro I y0), (1, ri y1), (5, ri y2)], []⟩ : St)
def qbe (k : Nat) : Nat → List I.T → Int → Int → Option (List I.T)
 | 0, _, _, _ => none
 | j + 1, y0, y1, y2 =>
 if (decide (y2 < y0.length) = true → 0 ≤ y2) ∧ (decide (y2 < y0.length) = true → y2 < y0.length) then
 bif (decide (y2 < y0.length) && decide (y0.getD y2.toNat I.dflt < y1)) then
 qbe k j y0 y1 (qa .i64 (y2 + 1))
 else
 if (decide (y2 < y0.length) = true → 0 ≤ y2) ∧ (decide (y2 < y0.length) = true → y2 < y0.length) then
 bif (decide (y2 < y0.length) && y0.getD y2.toNat I.dflt == y1) then
 some y0
 else
 if ((0 : Int) ≤ (0 : Int)) ∧ (0 ≤ y2) ∧ (y2 ≤ y0.length) ∧ (((0 : Nat) + (qS3 (y2.toNat - ql (0 : Int)) (Wm (ql (0 : Int)) y0)).length) * (8 : Nat) ≤ (140737488355328 : Nat)) then
 if ((([] ++ qS3 (y2.toNat - ql (0 : Int)) (Wm (ql (0 : Int)) y0)).length + [y1].length) * (8 : Nat) ≤ (140737488355328 : Nat)) then
 if (0 ≤ y2) ∧ (y2 ≤ y0.length) ∧ ((↑y0.length : Int) ≤ (↑y0.length : Int)) ∧ ((([] ++ qS3 (y2.toNat - ql (0 : Int)) (Wm (ql (0 : Int)) y0) ++ [y1]).length + (qS3 ((↑y0.length : Int).toNat - y2.toNat) (Wm y2.toNat y0)).length) * (8 : Nat) ≤ (140737488355328 : Nat)) then
 some ([] ++ qS3 (y2.toNat - ql 0) (Wm (ql 0) y0) ++ [y1] ++ qS3 ((↑y0.length : Int).toNat - y2.toNat) (Wm y2.toNat y0))
 else none
 else none
 else none
 else none
 else none
def qcF (k : Nat) (a : List I.T) (b : Int) : Option (List I.T) :=
 qbe k k a b 0
def YQ := fun k a b => (qcF k a b).getD []
def qCE (k : Nat) : Ke := (280, mo 2, fun
 | [.r (.ro e d), .r (.v (.int .i64 b))], [] => (qC e I d).bind fun a => some (.one (qoL (YQ k a b), []))
 | _, _ => none)
def qBm : List (Nat × List Cmd) := [(2, [.autoB [0, 1, 5] false []])]
abbrev qQ2 := EP Tryz.f280 0 qoL nb
theorem qB6 (k) : ∀ j, (∀ y0 y1 y2, qQ2 2 (qF7 y0 y1 y2) (qbe k j y0 y1 y2))
 | 0 => by intros; exact e0
 | j + 1 => by
  have ih := @qB6 k j
  ·intro y0 y1 y2 r h
   rw [qbe] at h
   exact go (qA []) [] qBm [.frz 4 false (RTy.list I), .autoB [4] true []] (qU h fun h => gS h (fun h => gC h 2 (ih _ _ _ _)) fun h => qU h fun h => qu h fun h => gN h YW fun h => qv h id fun h => gN h YW fun h => gL h)
theorem qQc (k a b r) (h : qcF k a b = some r): qHu a b r := qO Tryz.f280 (go (qA []) [] qBm [.frz 4 false (RTy.list I), .autoB [4] true []] (gC h 2 ((qB6 k k) _ _ _ _)))
theorem qlX {k a b} (h : (qcF k a b).isSome): qHu a b (YQ k a b) := qJ h (qQc k a b)
def qoK (r : List I.T) : AV := ro I r
abbrev qHt (a : List T21.T) (b : List T21.T) (r : List I.T) : Prop := CC Tryz.prog 262 [ro T21 a, ro T21 b] [] (qoK r) (nb r)
def qF5 := fun y0 y1 y2 y3 => (⟨qM 47 [(0, ro T21 y0), (1, ro T21 y1), (5, ro I y2), (6, ri y3)], []⟩ : St)
def qF6 := fun y0 y1 y2 => (⟨qM 47 [(1, ro T21 y0), (5, ro I y1), (7, ri y2)], []⟩ : St)
mutual
def qbd (k : Nat) : Nat → List T21.T → List T21.T → List I.T → Int → Option (List I.T)
 | 0, _, _, _, _ => none
 | j + 1, y0, y1, y2, y3 =>
 bif y3 < y0.length then
 if (0 ≤ y3) ∧ (y3 < y0.length) ∧ ((qcF k y2 (y0.getD y3.toNat T21.dflt).1).isSome) ∧ (0 ≤ y3) ∧ (y3 < y0.length) ∧ ((qcF k (YQ k y2 (y0.getD y3.toNat T21.dflt).1) (y0.getD y3.toNat T21.dflt).2).isSome) then
 qbd k j y0 y1 (YQ k (YQ k y2 (y0.getD y3.toNat T21.dflt).1) (y0.getD y3.toNat T21.dflt).2) (qa .i64 (y3 + 1))
 else none
 else
 qep k j y1 y2 0
def qep (k : Nat) : Nat → List T21.T → List I.T → Int → Option (List I.T)
 | 0, _, _, _ => none
 | j + 1, y0, y1, y2 =>
 bif y2 < y0.length then
 if (0 ≤ y2) ∧ (y2 < y0.length) ∧ ((qcF k y1 (y0.getD y2.toNat T21.dflt).1).isSome) ∧ (0 ≤ y2) ∧ (y2 < y0.length) ∧ ((qcF k (YQ k y1 (y0.getD y2.toNat T21.dflt).1) (y0.getD y2.toNat T21.dflt).2).isSome) then
 qep k j y0 (YQ k (YQ k y1 (y0.getD y2.toNat T21.dflt).1) (y0.getD y2.toNat T21.dflt).2) (qa .i64 (y2 + 1))
 else none
 else
 some y1
end
def qmf (k : Nat) (a : List T21.T) (b : List T21.T) : Option (List I.T) :=
 qbd k k a b ([]) 0
def qna := fun k a b => (qmf k a b).getD []
def qCD (k : Nat) : Ke := (262, mo 2, fun
 | [.r (.ro f d), .r (.ro i e)], [] => (qC f T21 d).bind fun a => (qC i T21 e).bind fun b => some (.one (qoK (qna k a b), []))
 | _, _ => none)
def qBl : List (Nat × List Cmd) := [(3, [.frz 5 false (RTy.list I), .autoB [0, 1, 5, 6] false []]), (7, [.autoB [1, 5, 7] false []])]
abbrev qHI := EP Tryz.f262 0 qoK nb
theorem qB5 (k) : ∀ j, (∀ {y0 y1 y2 y3}, qHI 3 (qF5 y0 y1 y2 y3) (qbd k j y0 y1 y2 y3)) ∧ (∀ {y0 y1 y2}, qHI 7 (qF6 y0 y1 y2) (qep k j y0 y1 y2))
 | 0 => by and_intros <;> intros <;> exact e0
 | j + 1 => by
  have ih := @qB5 k j
  have g := @go (qA [qCE k]) [] qBl [.frz 4 false (RTy.list I), .autoB [4] true []]
  refine ⟨?_, ?_⟩
  ·intro y0 y1 y2 y3 r h
   rw [qbd] at h
   exact g (gS h (fun h => gN h (fun q => qf q.1 (qf q.2.1 (qf (qlX q.2.2.1) (qf q.2.2.2.1 (qf q.2.2.2.2.1 (qf (qlX q.2.2.2.2.2) qP)))))) fun h => gD h 3 ih.1) fun h => gD h 7 ih.2)
  ·intro y0 y1 y2 r h
   rw [qep] at h
   exact g (gS h (fun h => gN h (fun q => qf q.1 (qf q.2.1 (qf (qlX q.2.2.1) (qf q.2.2.2.1 (qf q.2.2.2.2.1 (qf (qlX q.2.2.2.2.2) qP)))))) fun h => gD h 7 ih.2) fun h => gL h)
theorem qQb (k a b r) (h : qmf k a b = some r): qHt a b r := qO Tryz.f262 (go (qA [qCE k]) [] qBl [.frz 4 false (RTy.list I), .autoB [4] true []] (gD h 3 (qB5 k k).1))
theorem qND {k a b} (h : (qmf k a b).isSome): qHt a b (qna k a b) := qJ h (qQb k a b)
def qoJ (r : List T21.T) : AV := ro T21 r
abbrev qHs (a : List T21.T) (b : List T21.T) (d : Int) (r : List T21.T) : Prop := CC Tryz.prog 223 [ro T21 a, ro T21 b, ri d] [] (qoJ r) (nb r)
def qF4 := fun y0 y1 y2 y3 y4 y5 => (⟨qM 107 [(0, ro T21 y0), (1, ro T21 y1), (2, ri y2), (7, ro I y3), (8, .own 1000000 0), (9, ri y4)], [(1000000, 0, .row 91 T21 y5)]⟩ : St)
def Qx (k : Nat) : Nat → List T21.T → List T21.T → Int → List I.T → Int → List T21.T → Option (List T21.T)
 | 0, _, _, _, _, _, _ => none
 | j + 1, y0, y1, y2, y3, y4, y5 =>
 bif qa .i64 (y4 + 1) < (↑y3.length : Int) then
 if (0 ≤ y4) ∧ (y4 < y3.length) ∧ ((qi7 k y0 (y3.getD y4.toNat I.dflt)).isSome) ∧ (0 ≤ y4) ∧ (y4 < y3.length) ∧ ((qi7 k y1 (y3.getD y4.toNat I.dflt)).isSome) then
 bif (y2 == 0 && (!YO k y0 (y3.getD y4.toNat I.dflt)) && (!YO k y1 (y3.getD y4.toNat I.dflt)) || y2 == 1 && (! (YO k y0 (y3.getD y4.toNat I.dflt) && YO k y1 (y3.getD y4.toNat I.dflt))) || y2 == 2 && (!YO k y0 (y3.getD y4.toNat I.dflt) || YO k y1 (y3.getD y4.toNat I.dflt))) then
 Qx k j y0 y1 y2 y3 (qa .i64 (y4 + 1)) y5
 else
 if (decide (qa .i64 ((↑y5.length : Int) - (1 : Int)) ≥ (0 : Int)) = true → (0 : Int) ≤ qa .i64 ((↑y5.length : Int) - (1 : Int))) ∧ (decide (qa .i64 ((↑y5.length : Int) - (1 : Int)) ≥ (0 : Int)) = true → qa .i64 ((↑y5.length : Int) - (1 : Int)) < (↑y5.length : Int)) ∧ (decide (qa .i64 ((↑y5.length : Int) - (1 : Int)) ≥ (0 : Int)) = true → 0 ≤ y4) ∧ (decide (qa .i64 ((↑y5.length : Int) - (1 : Int)) ≥ (0 : Int)) = true → y4 < y3.length) then
 bif (decide (qa .i64 ((↑y5.length : Int) - (1 : Int)) ≥ (0 : Int)) && (y5.getD (qa .i64 ((↑y5.length : Int) - (1 : Int))).toNat T21.dflt).2 == y3.getD y4.toNat I.dflt) then
 if ((0 : Int) ≤ qa .i64 (y4 + 1)) ∧ (qa .i64 (y4 + 1) < (↑y3.length : Int)) ∧ ((0 : Int) ≤ qa .i64 ((↑y5.length : Int) - (1 : Int))) ∧ (qa .i64 ((↑y5.length : Int) - (1 : Int)) < (↑y5.length : Int)) then
 Qx k j y0 y1 y2 y3 (qa .i64 (y4 + 1)) (y5.set (qa .i64 ((↑y5.length : Int) - 1)).toNat ((y5.getD (qa .i64 ((↑y5.length : Int) - 1)).toNat T21.dflt).1, y3.getD (qa .i64 (y4 + 1)).toNat I.dflt))
 else none
 else
 if (0 ≤ y4) ∧ (y4 < y3.length) ∧ ((0 : Int) ≤ qa .i64 (y4 + 1)) ∧ (qa .i64 (y4 + 1) < (↑y3.length : Int)) ∧ ((y5.length + [(y3.getD y4.toNat I.dflt, y3.getD (qa .i64 (y4 + 1)).toNat I.dflt)].length) * (16 : Nat) ≤ (140737488355328 : Nat)) then
 Qx k j y0 y1 y2 y3 (qa .i64 (y4 + 1)) (y5 ++ [(y3.getD y4.toNat I.dflt, y3.getD (qa .i64 (y4 + 1)).toNat I.dflt)])
 else none
 else none
 else none
 else
 some y5
def qja (k : Nat) (a : List T21.T) (b : List T21.T) (d : Int) : Option (List T21.T) :=
 if ((qmf k a b).isSome) then
 Qx k k a b d (qna k a b) 0 ([])
 else none
def qjJ := fun k a b d => (qja k a b d).getD []
def qOF (k : Nat) : Ke := (223, mo 3, fun
 | [.r (.ro g e), .r (.ro i f), .r (.v (.int .i64 d))], [] => (qC g T21 e).bind fun a => (qC i T21 f).bind fun b => some (.one (qoJ (qjJ k a b d), []))
 | _, _ => none)
def qBk : List (Nat × List Cmd) := [(4, [.row 8 91 T21, .autoB [0, 1, 2, 7, 8, 9] false []])]
abbrev qQ1 := EP Tryz.f223 0 qoJ nb
theorem qB4 (k) : ∀ j, (∀ y0 y1 y2 y3 y4 y5, qQ1 4 (qF4 y0 y1 y2 y3 y4 y5) (Qx k j y0 y1 y2 y3 y4 y5))
 | 0 => by intros; exact e0
 | j + 1 => by
  have ih := @qB4 k j
  ·intro y0 y1 y2 y3 y4 y5 r h
   rw [Qx] at h
   exact go (qA [qCC k, qCD k]) [] qBk [.frz 6 false (RTy.list T21), .autoB [6] true []] (gS h (fun h => gN h (fun q => qf q.1 (qf q.2.1 (qf (qAC q.2.2.1) (qf q.2.2.2.1 (qf q.2.2.2.2.1 (qf (qAC q.2.2.2.2.2) qP)))))) fun h => gS h (fun h => gC h 4 (ih _ _ _ _ _ _ _)) fun h => gN h YW fun h => gS h (fun h => gN h YW fun h => gC h 4 (ih _ _ _ _ _ _ _)) fun h => gN h (fun q => qf q.1 (qf q.2.1 (qf q.2.2.1 (qf q.2.2.2.1 (qf q.2.2.2.2 qP))))) fun h => gC h 4 (ih _ _ _ _ _ _ _)) fun h => gL h)
theorem qQa (k a b d r) (h : qja k a b d = some r): qHs a b d r := qO Tryz.f223 (go (qA [qCC k, qCD k]) [] qBk [.frz 6 false (RTy.list T21), .autoB [6] true []] (qv h qND fun h => gC h 4 ((qB4 k k) _ _ _ _ _ _ _)))
theorem qNC {k a b d} (h : (qja k a b d).isSome): qHs a b d (qjJ k a b d) := qJ h (qQa k a b d)
abbrev qwX : Type := List T21.T × Int
def qwB (r : qwX) : AV := .tup [ro T21 r.1, ri r.2]
abbrev qHr (a : List T21.T) (b : List T21.T) (d : Int) (r : qwX) : Prop := CC Tryz.prog 185 [ro T21 a, ro T21 b, ri d] [] (qwB r) (nb r)
def qi9 (k : Nat) (a : List T21.T) (b : List T21.T) (d : Int) : Option qwX :=
 if ((qfv k a).isSome) then
 bif (qc9 k a != (0 : Int)) then
 some ([], qc9 k a)
 else
 if ((qfv k b).isSome) then
 bif (qc9 k b != (0 : Int)) then
 some ([], qc9 k b)
 else
 if ((qja k a b d).isSome) then
 bif (↑ (qb (qjJ k a b d)) : Int) > (256 : Int) then
 some ([], 8)
 else
 some (qjJ k a b d, 0)
 else none
 else none
 else none
def qjI := fun k a b d => (qi9 k a b d).getD ([], 0)
def qOE (k : Nat) : Ke := (185, mo 3, fun
 | [.r (.ro g e), .r (.ro i f), .r (.v (.int .i64 d))], [] => (qC g T21 e).bind fun a => (qC i T21 f).bind fun b => some (.one (qwB (qjI k a b d), []))
 | _, _ => none)
theorem qP9 (k a b d r) (h : qi9 k a b d = some r): qHr a b d r := qO Tryz.f185 (go (qA [qOC k, qOF k]) [] [] [.frz 6 false (RTy.list T21), .autoB [6, 7] true []] (qv h qAB fun h => qu h fun h => qv h qAB fun h => qu h fun h => qv h qNC fun h => qu h fun h => gL h))
theorem qNB {k a b d} (h : (qi9 k a b d).isSome): qHr a b d (qjI k a b d) := qJ h (qP9 k a b d)
abbrev qwW : Type := List T21.T × Int
def qwA (r : qwW) : AV := .tup [ro T21 r.1, ri r.2]
abbrev qHp (a : List T21.T) (r : qwW) : Prop := CC Tryz.prog 137 [ro T21 a] [] (qwA r) (nb r)
def qcE (k : Nat) (a : List T21.T) : Option qwW :=
 if ((qi9 k a [] 0).isSome) then
 some ((qjI k a [] 0).1, (qjI k a [] 0).2)
 else none
def YP := fun k a => (qcE k a).getD ([], 0)
def qhG (k : Nat) : Ke := (137, mo 1, fun
 | [.r (.ro d b)], [] => (qC d T21 b).bind fun a => some (.one (qwA (YP k a), []))
 | _, _ => none)
theorem qP7 (k a r) (h : qcE k a = some r): qHp a r := qO Tryz.f137 (go (qA [qOE k]) [] [] [.frz 2 false (RTy.list T21), .autoB [2, 3] true []] (qv h qNB fun h => gL h))
theorem qrH {k a} (h : (qcE k a).isSome): qHp a (YP k a) := qJ h (qP7 k a)
def qkX (r : List T21.T × Int) : AV := .tup [ro T21 r.1, ri r.2]
abbrev qyA (a : List T3.T) (r : List T21.T × Int) : Prop := CC Tryz.prog 95 [ro T3 a] [] (qkX r) (nb r)
def qDn := fun y0 y1 y2 => (⟨qM 51 [(0, ro T3 y0), (5, .own 1000000 0), (6, ri y1)], [(1000000, 0, .row 91 T21 y2)]⟩ : St)
def qxS := fun y0 => (⟨qM 51 [(5, ro T21 y0)], []⟩ : St)
mutual
def XZ (k : Nat) : Nat → List T3.T → Int → List T21.T → Option (List T21.T × Int)
 | 0, _, _, _ => none
 | j + 1, y0, y1, y2 =>
 bif y1 < y0.length then
 if (0 ≤ y1) ∧ (y1 < y0.length) ∧ (0 ≤ y1) ∧ (y1 < y0.length) ∧ (0 ≤ y1) ∧ (y1 < y0.length) ∧ ((WI k (y0.getD y1.toNat T3.dflt) (qa .i64 ((y0.getD y1.toNat T3.dflt).2.1 - 1))).isSome) then
 if ((y2.length + [(if wS k (y0.getD y1.toNat T3.dflt) (qa .i64 ((y0.getD y1.toNat T3.dflt).2.1 - (1 : Int))) < (y0.getD y1.toNat T3.dflt).1 then wS k (y0.getD y1.toNat T3.dflt) (qa .i64 ((y0.getD y1.toNat T3.dflt).2.1 - (1 : Int))) else (y0.getD y1.toNat T3.dflt).1, qa .i64 ((if wS k (y0.getD y1.toNat T3.dflt) (qa .i64 ((y0.getD y1.toNat T3.dflt).2.1 - (1 : Int))) > (y0.getD y1.toNat T3.dflt).1 then wS k (y0.getD y1.toNat T3.dflt) (qa .i64 ((y0.getD y1.toNat T3.dflt).2.1 - (1 : Int))) else (y0.getD y1.toNat T3.dflt).1) + (1 : Int)))].length) * (16 : Nat) ≤ (140737488355328 : Nat)) then
 XZ k j y0 (qa .i64 (y1 + 1)) (y2 ++ [(if wS k (y0.getD y1.toNat T3.dflt) (qa .i64 ((y0.getD y1.toNat T3.dflt).2.1 - 1)) < (y0.getD y1.toNat T3.dflt).1 then wS k (y0.getD y1.toNat T3.dflt) (qa .i64 ((y0.getD y1.toNat T3.dflt).2.1 - 1)) else (y0.getD y1.toNat T3.dflt).1, qa .i64 ((if wS k (y0.getD y1.toNat T3.dflt) (qa .i64 ((y0.getD y1.toNat T3.dflt).2.1 - 1)) > (y0.getD y1.toNat T3.dflt).1 then wS k (y0.getD y1.toNat T3.dflt) (qa .i64 ((y0.getD y1.toNat T3.dflt).2.1 - 1)) else (y0.getD y1.toNat T3.dflt).1) + 1))])
 else none
 else none
 else
 qcu k j y2
def qcu (k : Nat) : Nat → List T21.T → Option (List T21.T × Int)
 | 0, _ => none
 | j + 1, y0 =>
 if ((qcE k y0).isSome) then
 some ((YP k y0).1, (YP k y0).2)
 else none
end
def YY (k : Nat) (a : List T3.T) : Option (List T21.T × Int) :=
 if ((ZW k a).isSome) then
 bif (Qb k a != (0 : Int)) then
 some ([], Qb k a)
 else
 XZ k k a 0 ([])
 else none
def ZM := fun k a => (YY k a).getD ([], 0)
def qvK (k : Nat) : Ke := (95, mo 1, fun
 | [.r (.ro d b)], [] => (qC d T3 b).bind fun a => some (.one (qkX (ZM k a), []))
 | _, _ => none)
def qzQ (k : Nat) : Calld := qA [qey k, qeu k, qhG k]
def quB : List (Nat × List Cmd) := [(6, [.row 5 91 T21, .autoB [0, 5, 6] false []]), (10, [.frz 5 false (RTy.list T21), .autoB [5] false []])]
abbrev qzC := EP Tryz.f95 0 qkX nb
theorem qvc (k) : ∀ j, (∀ {y0 y1 y2}, qzC 6 (qDn y0 y1 y2) (XZ k j y0 y1 y2)) ∧ (∀ {y0}, qzC 10 (qxS y0) (qcu k j y0))
 | 0 => by and_intros <;> intros <;> exact e0
 | j + 1 => by
  have ih := @qvc k j
  have g := @go (qzQ k) [10] quB [.frz 2 false (RTy.list T21), .autoB [2, 3] true []]
  refine ⟨?_, ?_⟩
  ·intro y0 y1 y2 r h
   rw [XZ] at h
   exact g (gS h (fun h => gN h (fun q => qf q.1 (qf q.2.1 (qf q.2.2.1 (qf q.2.2.2.1 (qf q.2.2.2.2.1 (qf q.2.2.2.2.2.1 (qf (XV q.2.2.2.2.2.2) qP))))))) fun h => qv h id fun h => gD h 6 ih.1) fun h => gD h 10 ih.2)
  ·intro y0 r h
   rw [qcu] at h
   exact g (qv h qrH fun h => gL h)
theorem qKz (k a r) (h : YY k a = some r): qyA a r := qO Tryz.f95 (go (qzQ k) [10] quB [.frz 2 false (RTy.list T21), .autoB [2, 3] true []] (qv h qbm fun h => qu h fun h => gD h 6 (qvc k k).1))
theorem qnv {k a} (h : (YY k a).isSome): qyA a (ZM k a) := qJ h (qKz k a)
def qoI (r : Int × Int) : AV := .tup [ri r.1, ri r.2]
abbrev qHq (a : List T21.T) (r : Int × Int) : Prop := CC Tryz.prog 175 [ro T21 a] [] (qoI r) (nb r)
def qF3 := fun y0 y1 y2 y3 => (⟨qM 34 [(4, ro T21 y0), (5, ri y1), (6, ri y2), (7, ri y3)], []⟩ : St)
def qbc (k : Nat) : Nat → List T21.T → Int → Int → Int → Option (Int × Int)
 | 0, _, _, _, _ => none
 | j + 1, y0, y1, y2, y3 =>
 bif y3 < y0.length then
 if (0 ≤ y3) ∧ (y3 < y0.length) ∧ (0 ≤ y3) ∧ (y3 < y0.length) then
 qbc k j y0 y1 (qa .i64 (qa .i64 (y2 + (y0.getD y3.toNat T21.dflt).2) - (y0.getD y3.toNat T21.dflt).1)) (qa .i64 (y3 + 1))
 else none
 else
 some (y2, y1)
def qi8 (k : Nat) (a : List T21.T) : Option (Int × Int) :=
 if ((qcE k a).isSome) then
 qbc k k ((YP k a).1) ((YP k a).2) 0 0
 else none
def qda := fun k a => (qi8 k a).getD (0, 0)
def qOD (k : Nat) : Ke := (175, mo 1, fun
 | [.r (.ro d b)], [] => (qC d T21 b).bind fun a => some (.one (qoI (qda k a), []))
 | _, _ => none)
def qBj : List (Nat × List Cmd) := [(4, [.autoB [4, 5, 6, 7] false []])]
abbrev qQ0 := EP Tryz.f175 0 qoI nb
theorem qB3 (k) : ∀ j, (∀ y0 y1 y2 y3, qQ0 4 (qF3 y0 y1 y2 y3) (qbc k j y0 y1 y2 y3))
 | 0 => by intros; exact e0
 | j + 1 => by
  have ih := @qB3 k j
  ·intro y0 y1 y2 y3 r h
   rw [qbc] at h
   exact go (qA [qhG k]) [] qBj [.autoB [2, 3] true []] (gS h (fun h => gN h YW fun h => gC h 4 (ih _ _ _ _ _)) fun h => gL h)
theorem qP8 (k a r) (h : qi8 k a = some r): qHq a r := qO Tryz.f175 (go (qA [qhG k]) [] qBj [.autoB [2, 3] true []] (qv h qrH fun h => gC h 4 ((qB3 k k) _ _ _ _ _)))
theorem qNA {k a} (h : (qi8 k a).isSome): qHq a (qda k a) := qJ h (qP8 k a)
abbrev qyB (a : List T3.T) (r : Bool) : Prop := CC Tryz.prog 128 [ro T3 a] [] (rb r) (nb r)
def YZ (k : Nat) (a : List T3.T) : Option Bool :=
 if ((ZW k a).isSome) then
 bif (Qb k a != (0 : Int)) then
 some false
 else
 if ((YY k a).isSome) then
 if ((qi8 k (ZM k a).1).isSome) then
 bif ((qda k (ZM k a).1).2 == (0 : Int)) then
 if (((qda k (ZM k a).1).2 == (0 : Int)) = true) ∧ ((qbr k a).isSome) then
 some (true && (qda k (ZM k a).1).1 == qeJ k a)
 else none
 else
 if (((qda k (ZM k a).1).2 == (0 : Int)) = false) then
 some false
 else none
 else none
 else none
 else none
def qb8 := fun k a => (YZ k a).getD false
def qJQ (k : Nat) : Ke := (128, mo 1, fun
 | [.r (.ro d b)], [] => (qC d T3 b).bind fun a => some (.one (rb (qb8 k a), []))
 | _, _ => none)
theorem qKA (k a r) (h : YZ k a = some r): qyB a r := qO Tryz.f128 (go (qA [qnT k, qey k, qvK k, qOD k]) [] [] [.autoB [2] true []] (qv h qbm fun h => qu h fun h => qv h qnv fun h => qv h qNA fun h => gS h (fun h => gN h (fun q => qf q.1 (qf (qum q.2) qP)) fun h => gL h) fun h => qv h id fun h => gL h))
theorem qul {k a} (h : (YZ k a).isSome): qyB a (qb8 k a) := qJ h (qKA k a)
end
theorem QY (k : Nat) (r : Rn) (x : Int) (h1 : -4611686018427387904 ≤ r.1) (h2 : r.1 ≤ 4611686018427387903) (h3 : -4611686018427387904 ≤ x) (h4 : x ≤ 4611686018427387903) : Yz k r x = some (wd r x) := by
 unfold Yz wd
 cases r.2.2
 ·rw [qg, qm (by omega) (by omega), qi (by decide)]
 ·rw [qj, qm (by omega) (by omega), qc rfl]
theorem WU (k : Nat) (r : Rn) (x : Int) (h1 : -4611686018427387904 ≤ r.1) (h2 : r.1 ≤ 4611686018427387903) (h3 : -4611686018427387904 ≤ x) (h4 : x ≤ 4611686018427387903) : vz k r x = wd r x := by
 unfold vz; rw [QY k r x h1 h2 h3 h4]; rfl
theorem zA (k : Nat) (r : Rn) (x : Int) (h1 : -4611686018427387904 ≤ r.1) (h2 : r.1 ≤ 4611686018427387903) (h3 : -4611686018427387904 ≤ x) (h4 : x ≤ 4611686018427387903) : WI k r x = some (wd r x) := by
 unfold WI wd
 cases r.2.2
 ·rw [qg, qm (by omega) (by omega), qi (by decide)]
 ·rw [qj, qm (by omega) (by omega), qc rfl]
theorem zN (k : Nat) (r : Rn) (x : Int) (h1 : -4611686018427387904 ≤ r.1) (h2 : r.1 ≤ 4611686018427387903) (h3 : -4611686018427387904 ≤ x) (h4 : x ≤ 4611686018427387903) : wS k r x = wd r x := by
 unfold wS; rw [zA k r x h1 h2 h3 h4]; rfl
theorem qhx {r : Rn} : good r ↔ ¬ ((decide (r.2.1 < 1) || decide (r.2.1 > 17179869184) || decide (r.1 < 0) || decide (r.1 ≥ 17179869184)) = true) ∧ ¬ ((r.2.2 && decide (r.1 - r.2.1 + 1 < 0) || (!r.2.2) && decide (r.1 + r.2.1 > 17179869184)) = true) := by
 unfold good
 simp only [qGc, decide_eq_true_eq, qh, Bool.not_eq_true', not_or, not_and]
 constructor
 ·rintro ⟨h1, h2, h3, h4, h5, h6⟩
  refine ⟨⟨⟨⟨by omega, by omega⟩, by omega⟩, by omega⟩, fun h => ?_, fun h => ?_⟩
  ·have := h5 h; omega
  ·have := h6 h; omega
 ·rintro ⟨⟨⟨⟨h1, h2⟩, h3⟩, h4⟩, h5, h6⟩
  refine ⟨by omega, by omega, by omega, by omega, fun h => ?_, fun h => ?_⟩
  ·have := h5 h; omega
  ·have := h6 h; omega
def qcn : Int → List Rn → Int
 | n, [] => if n > 17179869184 then 21 else 0
 | n, r :: t => if good r then qcn (n + r.2.1) t else 1
theorem qrI : ∀ (m : List Rn) (n : Int), qcn n m = if goods m then (if n + qp m > 17179869184 then 21 else 0) else 1
 | [], n => by simp [qcn, goods, qp]
 | r :: t, n => by
  unfold qcn
  by_cases h : good r
  ·rw [qc h, qrI t]
   by_cases h2 : goods t
   ·rw [qc h2, qc (show goods (r :: t) from ⟨h, h2⟩)]
    rw [show n + qp (r :: t) = n + r.2.1 + qp t by simp only [qp]; omega]
   ·rw [qi h2, qi (fun h3 : goods (r :: t) => h2 h3.2)]
  ·rw [qi h, qi (fun h3 : goods (r :: t) => h h3.1)]
theorem qNE (m : List Rn) : chk m = if m.length > 256 then 8 else qcn 0 m := by
 unfold chk; rw [qrI, Int.zero_add]
theorem qtW (k : Nat) (m : List Rn) (hm : m.length ≤ 256) : ∀ (j i : Nat) (n : Int), i ≤ m.length → m.length - i < j → 0 ≤ n → n ≤ (i : Int) * 17179869184 →
  qa5 k j n m (m.length : Int) (i : Int) = some (qcn n (m.drop i)) := by
 intro j
 induction j with
 | zero => intros; omega
 | succ j ih =>
  intro i n hi hj h0 hn
  unfold qa5
  by_cases h : i < m.length
  ·rw [qw (by omega : (i : Int) < (m.length : Int)), qj, qc ⟨by omega, by omega⟩, qt m i T3.dflt h]
   rw [qe]
   unfold qcn
   by_cases hg : good (m.getD i T3.dflt)
   ·obtain ⟨t1, t2⟩ := qhx.1 hg
    have hr := hg
    obtain ⟨g1, g2, g3, g4, _, _⟩ := hr
    rw [qc hg, Bool.eq_false_iff.2 t1, qg, qm (i := (m.getD i T3.dflt).fst - (m.getD i T3.dflt).snd.fst) (by omega) (by omega), qm (i := (m.getD i T3.dflt).fst - (m.getD i T3.dflt).snd.fst + 1) (by omega) (by omega), qm (i := (m.getD i T3.dflt).fst + (m.getD i T3.dflt).snd.fst) (by omega) (by omega), Bool.eq_false_iff.2 t2, qg, qm (i := n + (m.getD i T3.dflt).snd.fst) (by omega) (by omega), qH i (by omega)]
    exact ih (i + 1) _ (by omega) (by omega) (by omega) (by omega)
   ·rw [qi hg]
    by_cases t1 : (decide ((m.getD i T3.dflt).2.1 < 1) || decide ((m.getD i T3.dflt).2.1 > 17179869184) || decide ((m.getD i T3.dflt).1 < 0) || decide ((m.getD i T3.dflt).1 ≥ 17179869184)) = true
    ·rw [t1, qj]
    ·have t2 := fun t2 => hg (qhx.2 ⟨t1, t2⟩)
     have t2 := Classical.not_not.1 t2
     have t3 := t1
     simp only [qGc, decide_eq_true_eq, not_or] at t3
     obtain ⟨⟨⟨q1, q2⟩, q3⟩, q4⟩ := t3
     rw [Bool.eq_false_iff.2 t1, qg, qm (i := (m.getD i T3.dflt).fst - (m.getD i T3.dflt).snd.fst) (by omega) (by omega), qm (i := (m.getD i T3.dflt).fst - (m.getD i T3.dflt).snd.fst + 1) (by omega) (by omega), qm (i := (m.getD i T3.dflt).fst + (m.getD i T3.dflt).snd.fst) (by omega) (by omega), t2, qj]
  ·rw [qq (by omega : ¬ (i : Int) < (m.length : Int)), qg, zh m i (by omega)]
   unfold qcn
   by_cases h : n > 17179869184
   ·rw [qw h, qj, qc h]
   ·rw [qq h, qg, qi h]
theorem QX (k : Nat) (hk : 300 ≤ k) (m : List Rn) : ZT k m = some (chk m) := by
 unfold ZT
 rw [qNE]
 by_cases h : m.length > 256
 ·rw [qw (by omega : (m.length : Int) > 256), qj, qc h]
 ·rw [qq (by omega : ¬ (m.length : Int) > 256), qg, qi h]
  exact qtW k m (by omega) k 0 0 (by omega) (by omega) (by omega) (by omega)
theorem WT (k : Nat) (hk : 300 ≤ k) (m : List Rn) : vP k m = chk m := by
 unfold vP; rw [QX k hk]; rfl
theorem qr1 (k : Nat) (m : List Rn) (hg : goods m) (hm : m.length ≤ 1000) : ∀ (j i : Nat) (n : Int), i ≤ m.length → m.length - i < j → 0 ≤ n → n ≤ (i : Int) * 17179869184 →
  qa8 k j n m (m.length : Int) (i : Int) = some (n + qp (m.drop i)) := by
 intro j
 induction j with
 | zero => intros; omega
 | succ j ih =>
  intro i n hi hj h0 hn
  unfold qa8
  by_cases h : i < m.length
  ·have hgr : good (m.getD i T3.dflt) := hg.mem _ (by simp [h])
   rw [qw (by omega : (i : Int) < (m.length : Int)), qj, qc ⟨by omega, by omega⟩, qt m i T3.dflt h]
   rw [qe]
   generalize m.getD i T3.dflt = r at hgr
   obtain ⟨g1, g2, _⟩ := hgr
   rw [qm (i := n + r.snd.fst) (by omega) (by omega), qH i (by omega), ih (i + 1) _ (by omega) (by omega) (by omega) (by omega)]
   simp only [qp, Int.add_assoc]
  ·rw [qq (by omega : ¬ (i : Int) < (m.length : Int)), qg, zh m i (by omega)]
   simp [qp]
theorem Xp (k : Nat) (m : List Rn) (hg : goods m) (hm : m.length ≤ 1000) (hk : m.length < k) : qcC k m = some (qp m) := by
 unfold qcC
 have := qr1 k m hg hm k 0 0 (by omega) (by omega) (by omega) (by omega)
 rw [Int.zero_add] at this
 exact this
theorem qbP (k : Nat) (m : List Rn) (hg : goods m) (hm : m.length ≤ 1000) (hk : m.length < k) : qf9 k m = qp m := by
 unfold qf9; rw [Xp k m hg hm hk]; rfl
theorem qhY (k : Nat) (r : Rn) : qdU k r = some (decide (good r)) := by
 unfold qdU
 by_cases t1 : (decide (r.2.1 < 1) || decide (r.2.1 > 17179869184) || decide (r.1 < 0) || decide (r.1 ≥ 17179869184)) = true
 ·rw [t1, qj, qq (fun h => (qhx.1 h).1 t1)]
 ·rw [Bool.eq_false_iff.2 t1, qg]
  have t3 := t1
  simp only [qGc, decide_eq_true_eq, not_or] at t3
  obtain ⟨⟨⟨q1, q2⟩, q3⟩, q4⟩ := t3
  rw [qm (i := r.fst - r.snd.fst) (by omega) (by omega), qm (i := r.fst - r.snd.fst + 1) (by omega) (by omega), qm (i := r.fst + r.snd.fst) (by omega) (by omega)]
  cases hb : r.snd.snd
  ·rw [qg]
   congr 1
   apply decide_eq_decide.2
   constructor
   ·intro h
    exact ⟨by omega, by omega, by omega, by omega, fun e => by simp [hb] at e, fun _ => h⟩
   ·rintro ⟨_, _, _, _, _, h⟩
    exact h hb
  ·rw [qj]
   congr 1
   apply decide_eq_decide.2
   constructor
   ·intro h
    exact ⟨by omega, by omega, by omega, by omega, fun _ => h, fun e => by simp [hb] at e⟩
   ·rintro ⟨_, _, _, _, h, _⟩
    exact h hb
theorem qsJ (k : Nat) (r : Rn) : qib k r = decide (good r) := by
 unfold qib; rw [qhY]; rfl
theorem qof (k : Nat) (m : List Rn) (hg : goods m) (hm : m.length ≤ 1000) : ∀ (j i : Nat) (n : Int), i ≤ m.length → m.length - i < j → 0 ≤ n → n ≤ (i : Int) * 17179869184 →
  X0 k j m n (i : Int) = some (n + qp (m.drop i)) := by
 intro j
 induction j with
 | zero => intros; omega
 | succ j ih =>
  intro i n hi hj h0 hn
  unfold X0
  by_cases h : i < m.length
  ·have hgr : good (m.getD i T3.dflt) := hg.mem _ (by simp [h])
   rw [qw (by omega : (i : Int) < (m.length : Int)), qj, qc ⟨by omega, by omega⟩, qt m i T3.dflt h]
   rw [qe]
   generalize m.getD i T3.dflt = r at hgr
   obtain ⟨g1, g2, _⟩ := hgr
   rw [qm (i := n + r.snd.fst) (by omega) (by omega), qH i (by omega), ih (i + 1) _ (by omega) (by omega) (by omega) (by omega)]
   simp only [qp, Int.add_assoc]
  ·rw [qq (by omega : ¬ (i : Int) < (m.length : Int)), qg, zh m i (by omega)]
   simp [qp]
theorem Yo (k : Nat) (m : List Rn) (hg : goods m) (hm : m.length ≤ 1000) (hk : m.length < k) : qbr k m = some (qp m) := by
 unfold qbr
 have := qof k m hg hm k 0 0 (by omega) (by omega) (by omega) (by omega)
 rw [Int.zero_add] at this
 exact this
theorem qeC (k : Nat) (m : List Rn) (hg : goods m) (hm : m.length ≤ 1000) (hk : m.length < k) : qeJ k m = qp m := by
 unfold qeJ; rw [Yo k m hg hm hk]; rfl
theorem qp0 (k : Nat) (hk : 300 ≤ k) (m : List Rn) (hm : m.length ≤ 256) : ∀ (j i : Nat), i ≤ m.length → m.length - i < j → goods (m.take i) →
  qbf k j m (i : Int) = some (if goods m then (if qp m > 17179869184 then 21 else 0) else 1) := by
 intro j
 induction j with
 | zero => intros; omega
 | succ j ih =>
  intro i hi hj hg
  unfold qbf
  by_cases h : i < m.length
  ·rw [qw (by omega : (i : Int) < (m.length : Int)), qj, qhY, qsJ, qc ⟨by omega, by omega, rfl⟩, qe]
   have hmem : m.getD i T3.dflt ∈ m := by simp [h]
   have htk : m.take (i + 1) = m.take i ++ [m.getD i T3.dflt] := by
    rw [List.take_add_one]; simp [h]
   by_cases hgr : good (m.getD i T3.dflt)
   ·rw [qw hgr, ve, qg, qH i (by omega)]
    exact ih (i + 1) (by omega) (by omega) (by rw [htk, Qm]; exact ⟨hg, hgr, trivial⟩)
   ·rw [qq hgr, qS1, qj, qi (fun hgs => hgr (goods.mem hgs _ hmem))]
  ·have : m.take i = m := zj (by omega)
   rw [this] at hg
   rw [qq (by omega : ¬ (i : Int) < (m.length : Int)), qg, Yo k m hg (by omega) (by omega), qeC k m hg (by omega) (by omega), qd, qc rfl, qc hg]
   by_cases h : qp m > 17179869184
   ·rw [qw h, qj, qc h]
   ·rw [qq h, qg, qi h]
theorem vU (k : Nat) (hk : 300 ≤ k) (m : List Rn) : ZW k m = some (chk m) := by
 unfold ZW chk
 by_cases h : m.length > 256
 ·rw [qw (by omega : (m.length : Int) > 256), qj, qc h]
 ·rw [qq (by omega : ¬ (m.length : Int) > 256), qg, qi h]
  exact qp0 k hk m (by omega) k 0 (by omega) (by omega) (by simp [goods])
theorem Qy (k : Nat) (hk : 300 ≤ k) (m : List Rn) : Qb k m = chk m := by
 unfold Qb; rw [vU k hk]; rfl
def Bnd (r : Rn) : Prop := -1125899906842624 ≤ r.1 ∧ r.1 ≤ 1125899906842624 ∧ 0 ≤ r.2.1 ∧ r.2.1 ≤ 1125899906842624
theorem good.bnd {r : Rn} (h : good r) : Bnd r := by
 obtain ⟨h1, h2, h3, h4, _⟩ := h
 exact ⟨by omega, by omega, by omega, by omega⟩
theorem qkg (r : Rn) (h : ¬ r.2.1 < 1) : vC [] r = [wG r 0 r.2.1] := by
 unfold vC; rw [qi h]; rfl
theorem qgV (pre : List Rn) (c r : Rn) (h : ¬ r.2.1 < 1) : vC (pre ++ [c]) r = (bif apart c r then pre ++ [c] ++ [wG r 0 r.2.1]
   else bif decide (r.2.1 > 1) && !(r.2.2 == (wA c r == -1)) then pre ++ [(c.1, c.2.1 + 1, wA c r == -1), wG r 1 (r.2.1 - 1)]
   else pre ++ [(c.1, c.2.1 + r.2.1, wA c r == -1)]) := by
 unfold vC; rw [qi h]; simp
theorem qgW (b : List Rn) (r : Rn) (h : r.2.1 < 1) : vC b r = b := by unfold vC; rw [qc h]
theorem qsz (r : Rn) (n : Int) : wG (wG r 1 n) 0 n = wG r 1 n := by
 unfold wG
 have e : wd (wd r 1, n, r.2.2 && decide (n > 1)) 0 = wd r 1 := by
  unfold wd; cases r.2.2 && decide (n > 1) <;> simp
 rw [e]
 simp
theorem qwa {r : Rn} (h : Bnd r) {x n : Int} (h0 : 0 ≤ x) (h1 : x ≤ r.2.1) (h2 : 0 ≤ n) (h3 : n ≤ r.2.1) : -2251799813685248 ≤ (wG r x n).1 ∧ (wG r x n).1 ≤ 2251799813685248 ∧ (wG r x n).2.1 = n := by
 obtain ⟨b1, b2, b3, b4⟩ := h
 unfold wG wd
 refine ⟨?_, ?_, rfl⟩ <;> cases r.2.2 <;> simp only [qE, if_false, if_true] <;> omega
theorem qlS {c r : Rn} (hc : 1 ≤ c.2.1) (h1 : apart c r = false) (h3 : (r.2.2 == (wA c r == -1)) = false) : apart (c.1, c.2.1 + 1, wA c r == -1) (wG r 1 (r.2.1 - 1)) = true := by
 obtain ⟨ca, cl, cb⟩ := c
 obtain ⟨ra, rl, rb⟩ := r
 unfold apart at h1
 simp only [v6] at h1
 obtain ⟨h1, h2⟩ := h1
 have hs : wA (ca, cl, cb) (ra, rl, rb) = 1 ∨ wA (ca, cl, cb) (ra, rl, rb) = -1 := by
  generalize wA (ca, cl, cb) (ra, rl, rb) = s at h1
  by_cases e1 : s = 1
  ·exact .inl e1
  ·by_cases e2 : s = -1
   ·exact .inr e2
   ·simp [e1, e2] at h1
 have hcl : (1 : Int) ≤ cl := hc
 unfold apart
 rw [qGc]
 right
 rw [qh]
 refine ⟨qw (show cl + 1 > 1 by omega), ?_⟩
 rcases hs with hs | hs
 ·rw [hs] at h2 h3
  have hrb : rb = true := by cases rb <;> simp_all
  subst hrb
  have hcb : cl > 1 → cb = false := fun h => by
   rw [qw (show (ca, cl, cb).2.1 > 1 from h), wH] at h2
   cases cb
   ·rfl
   ·simp at h2
  rw [hs]
  have e : wA (ca, cl + 1, (1 : Int) == -1) (wG (ra, rl, true) 1 (rl - 1)) = -1 := by
   unfold wA wd at hs
   unfold wA wG wd
   simp only [show ((1 : Int) == -1) = false from rfl, qE, if_false, if_true] at hs ⊢
   by_cases hl : cl > 1
   ·rw [hcb hl] at hs; simp only [qE, if_false] at hs; omega
   ·cases cb <;> simp only [qE, if_false, if_true] at hs <;> omega
  show (!((wA (ca, cl + 1, (1 : Int) == -1) (wG (ra, rl, true) 1 (rl - 1)) == -1) == ((1 : Int) == -1))) = true
  rw [e]; rfl
 ·rw [hs] at h2 h3
  have hrb : rb = false := by cases rb <;> simp_all
  subst hrb
  have hcb : cl > 1 → cb = true := fun h => by
   rw [qw (show (ca, cl, cb).2.1 > 1 from h), wH] at h2
   cases cb
   ·simp at h2
   ·rfl
  rw [hs]
  have e : wA (ca, cl + 1, (-1 : Int) == -1) (wG (ra, rl, false) 1 (rl - 1)) = 1 := by
   unfold wA wd at hs
   unfold wA wG wd
   simp only [show ((-1 : Int) == -1) = true from rfl, qE, if_false, if_true] at hs ⊢
   by_cases hl : cl > 1
   ·rw [hcb hl] at hs; simp only [if_true] at hs; omega
   ·cases cb <;> simp only [qE, if_false, if_true] at hs <;> omega
  show (!((wA (ca, cl + 1, (-1 : Int) == -1) (wG (ra, rl, false) 1 (rl - 1)) == -1) == ((-1 : Int) == -1))) = true
  rw [e]; rfl
theorem Wx (k : Nat) (r : Rn) (x n : Int) (h1 : -4611686018427387904 ≤ r.1) (h2 : r.1 ≤ 4611686018427387903) (h3 : -4611686018427387904 ≤ x) (h4 : x ≤ 4611686018427387903) : Xj k r x n = some (wG r x n) := by
 unfold Xj wG
 rw [QY k r x h1 h2 h3 h4, WU k r x h1 h2 h3 h4]; rfl
theorem ZZ (k : Nat) (r : Rn) (x n : Int) (h1 : -4611686018427387904 ≤ r.1) (h2 : r.1 ≤ 4611686018427387903) (h3 : -4611686018427387904 ≤ x) (h4 : x ≤ 4611686018427387903) : Q8 k r x n = wG r x n := by
 unfold Q8; rw [Wx k r x n h1 h2 h3 h4]; rfl
theorem YI (k : Nat) (r : Rn) (x n : Int) (h1 : -4611686018427387904 ≤ r.1) (h2 : r.1 ≤ 4611686018427387903) (h3 : -4611686018427387904 ≤ x) (h4 : x ≤ 4611686018427387903) : Xe k r x n = some (wG r x n) := by
 unfold Xe wG
 rw [zA k r x h1 h2 h3 h4, zN k r x h1 h2 h3 h4]; rfl
theorem qdB (k : Nat) (r : Rn) (x n : Int) (h1 : -4611686018427387904 ≤ r.1) (h2 : r.1 ≤ 4611686018427387903) (h3 : -4611686018427387904 ≤ x) (h4 : x ≤ 4611686018427387903) : Vm k r x n = wG r x n := by
 unfold Vm; rw [YI k r x n h1 h2 h3 h4]; rfl
theorem qfJ (pre : List Rn) (c : Rn) (h : pre.length < 4611686018427387904) : (qa .i64 (((pre ++ [c]).length : Int) - 1)).toNat = pre.length := by
 rw [qT, qz, qm (by omega) (by omega)]; omega
theorem qfI (pre : List Rn) (c d : Rn) : (pre ++ [c]).getD pre.length d = c := by simp
theorem qfK (pre : List Rn) (c d : Rn) : (pre ++ [c]).set pre.length d = pre ++ [d] := by simp
theorem qjV (k : Nat) (pre : List Rn) (c r : Rn) (hl : pre.length ≤ 1000000000) (hr : ¬ r.2.1 < 1) (b1 : -9007199254740992 ≤ r.1 ∧ r.1 ≤ 9007199254740992) (hc : -9007199254740992 ≤ c.1 ∧ c.1 ≤ 9007199254740992 ∧ 1 ≤ c.2.1 ∧ c.2.1 ≤ 9007199254740992) (ha : apart c r = true) :
  vk (k + 1) (pre ++ [c]) r = some (pre ++ [c] ++ [wG r 0 r.2.1]) := by
 have hi := qfJ pre c (by omega)
 have hlen : (pre ++ [c]).length = pre.length + 1 := by simp
 have hst : qa .i64 (r.fst - wd c (c.snd.fst - 1)) = wA c r := by
  unfold wA
  refine qm ?_ ?_ <;> unfold wd <;> cases c.2.2 <;> simp only [qE, if_false, if_true] <;> omega
 unfold vk
 rw [qq hr, qg, show (((pre ++ [c]).length : Int) == 0) = false by rw [hlen]; exact Z5 (by omega), qg, hi, qfI]
 rw [qm (i := c.snd.fst - 1) (by omega) (by omega), QY k c _ (by omega) (by omega) (by omega) (by omega), WU k c _ (by omega) (by omega) (by omega) (by omega), hst]
 rw [qc (by rw [hlen, qm (by omega) (by omega)]; exact ⟨by omega, by omega⟩), qd, qc rfl]
 have ha' : ((wA c r != 1 && wA c r != -1) || decide (c.snd.fst > 1) && !((wA c r == -1) == c.snd.snd)) = true := ha
 rw [ha', qj, Wx k r 0 _ (by omega) (by omega) (by omega) (by omega), ZZ k r 0 _ (by omega) (by omega) (by omega) (by omega), qc ⟨rfl, by rw [hlen, qz]; omega⟩]
theorem qhC (k : Nat) (hk : 4 ≤ k) (b : List Rn) (r : Rn) (hl : b.length ≤ 1000000000) (hr : Bnd r) (hb : ∀ c ∈ b, Bnd c ∧ 1 ≤ c.2.1) : vk k b r = some (vC b r) := by
 obtain ⟨k, rfl⟩ := qW (by omega : 0 < k)
 obtain ⟨r1, r2, r3, r4⟩ := hr
 by_cases h0 : r.2.1 < 1
 ·rw [qgW _ _ h0]; unfold vk; rw [qw h0, qj]
 rcases List.eq_nil_or_concat b with rfl | ⟨pre, c, rfl⟩
 ·rw [qkg _ h0]
  unfold vk
  rw [qq h0, qg, show ((([] : List Rn).length : Int) == 0) = true from rfl, qj, Wx k r 0 _ (by omega) (by omega) (by omega) (by omega), ZZ k r 0 _ (by omega) (by omega) (by omega) (by omega), qc ⟨rfl, by simp⟩]
  rfl
 rw [List.concat_eq_append] at *
 obtain ⟨⟨c1, c2, c3, c4⟩, c5⟩ := hb c (by simp)
 have hlen : (pre ++ [c]).length = pre.length + 1 := by simp
 rw [qgV _ _ _ h0]
 cases ha : apart c r with
 | true =>
  rw [qj]
  exact qjV k pre c r (by omega) h0 ⟨by omega, by omega⟩ ⟨by omega, by omega, by omega, by omega⟩ ha
 | false =>
 rw [qg]
 have hi := qfJ pre c (by omega)
 have hst : qa .i64 (r.fst - wd c (c.snd.fst - 1)) = wA c r := by
  unfold wA
  refine qm ?_ ?_ <;> unfold wd <;> cases c.2.2 <;> simp only [qE, if_false, if_true] <;> omega
 have ha' : ((wA c r != 1 && wA c r != -1) || decide (c.snd.fst > 1) && !((wA c r == -1) == c.snd.snd)) = false := ha
 unfold vk
 rw [qq h0, qg, show (((pre ++ [c]).length : Int) == 0) = false by rw [hlen]; exact Z5 (by omega), qg, hi, qfI]
 rw [qm (i := c.snd.fst - 1) (by omega) (by omega), QY k c _ (by omega) (by omega) (by omega) (by omega), WU k c _ (by omega) (by omega) (by omega) (by omega), hst]
 have hidx : (0 : Int) ≤ qa .i64 (((pre ++ [c]).length : Int) - 1) ∧ qa .i64 (((pre ++ [c]).length : Int) - 1) < ((pre ++ [c]).length : Int) := by
  rw [hlen, qm (by omega) (by omega)]; exact ⟨by omega, by omega⟩
 rw [qc hidx, qd, qc rfl, ha', qg]
 rw [qm (i := c.snd.fst + r.snd.fst) (by omega) (by omega), qm (i := c.snd.fst + 1) (by omega) (by omega), qm (i := r.snd.fst - r.snd.fst) (by omega) (by omega), qm (i := r.snd.fst - 1) (by omega) (by omega), qfK, qfK]
 rw [Wx k r r.snd.fst _ (by omega) (by omega) (by omega) (by omega), ZZ k r r.snd.fst _ (by omega) (by omega) (by omega) (by omega), Wx k r 1 _ (by omega) (by omega) (by omega) (by omega), ZZ k r 1 _ (by omega) (by omega) (by omega) (by omega)]
 obtain ⟨k, rfl⟩ := qW (by omega : 0 < k)
 have z : ∀ (b : List Rn) (r : Rn), r.2.1 < 1 → vk (k + 1) b r = some b := fun b r h => by
  unfold vk; rw [qw h, qj]
 have w : ∀ (b b' : List Rn) (r : Rn), vk (k + 1) b r = some b' → qqT (vk (k + 1)) b r = b' := fun b b' r h => by
  unfold qqT; rw [h]; rfl
 by_cases hone : r.2.1 > 1
 ·rw [qw hone, wH, wH]
  cases hd : (r.snd.snd == (wA c r == -1)) with
  | true =>
   rw [qj, ve, qg, qc hidx]
   have e := z (pre ++ [(c.fst, c.snd.fst + r.snd.fst, wA c r == -1)]) (wG r r.snd.fst (r.snd.fst - r.snd.fst)) (by show r.snd.fst - r.snd.fst < 1; omega)
   rw [w _ _ _ e, e, qc ⟨rfl, rfl⟩]
  | false =>
   rw [qg, qS1, qj, qc hidx]
   obtain ⟨p1, p2, p3⟩ := qwa (r := r) ⟨r1, r2, r3, r4⟩ (x := 1) (n := r.2.1 - 1) (by omega) (by omega) (by omega) (by omega)
   have e := qjV k pre (c.fst, c.snd.fst + 1, wA c r == -1) (wG r 1 (r.snd.fst - 1)) (by omega) (by rw [p3]; omega) ⟨by omega, by omega⟩ ⟨by show -9007199254740992 ≤ c.1; omega, by show c.1 ≤ 9007199254740992; omega, by show 1 ≤ c.2.1 + 1; omega, by show c.2.1 + 1 ≤ 9007199254740992; omega⟩ (qlS c5 ha hd)
   rw [p3, qsz] at e
   rw [w _ _ _ e, e, qc ⟨rfl, rfl⟩]
   simp
 ·have h1 : r.2.1 = 1 := by omega
  rw [qq hone, wE, wE, qg, qg, qc hidx]
  have e := z (pre ++ [(c.fst, c.snd.fst + 1, wA c r == -1)]) (wG r 1 (r.snd.fst - 1)) (by show r.snd.fst - 1 < 1; omega)
  rw [w _ _ _ e, e, qc ⟨rfl, rfl⟩, h1]
theorem qpe (k : Nat) (hk : 4 ≤ k) (b : List Rn) (r : Rn) (hl : b.length ≤ 1000000000) (hr : Bnd r) (hb : ∀ c ∈ b, Bnd c ∧ 1 ≤ c.2.1) : qc7 k b r = vC b r := by
 unfold qc7; rw [qhC k hk b r hl hr hb]; rfl
theorem qgs (k j : Nat) (pre : List Rn) (c r : Rn) (hl : pre.length ≤ 1000000000) (hr : ¬ r.2.1 < 1) (b1 : -9007199254740992 ≤ r.1 ∧ r.1 ≤ 9007199254740992) (hc : -9007199254740992 ≤ c.1 ∧ c.1 ≤ 9007199254740992 ∧ 1 ≤ c.2.1 ∧ c.2.1 ≤ 9007199254740992) (ha : apart c r = true) :
  Qk k (j + 1) r (pre ++ [c]) = some (pre ++ [c] ++ [wG r 0 r.2.1]) := by
 have hi := qfJ pre c (by omega)
 have hlen : (pre ++ [c]).length = pre.length + 1 := by simp
 have hst : qa .i64 (r.fst - wd c (c.snd.fst - 1)) = wA c r := by
  unfold wA
  refine qm ?_ ?_ <;> unfold wd <;> cases c.2.2 <;> simp only [qE, if_false, if_true] <;> omega
 have hidx : (0 : Int) ≤ qa .i64 (((pre ++ [c]).length : Int) - 1) ∧ qa .i64 (((pre ++ [c]).length : Int) - 1) < ((pre ++ [c]).length : Int) := by
  rw [hlen, qm (by omega) (by omega)]; exact ⟨by omega, by omega⟩
 unfold Qk
 rw [qw (by omega : r.snd.fst > 0), qj, qq (by omega : ¬ qa .i64 (((pre ++ [c]).length : Int) - 1) < 0), qg, hi, qfI]
 rw [qm (i := c.snd.fst - 1) (by omega) (by omega), zA k c _ (by omega) (by omega) (by omega) (by omega), zN k c _ (by omega) (by omega) (by omega) (by omega), hst]
 rw [qc hidx, qd, qc rfl]
 have ha' : ((wA c r != 1 && wA c r != -1) || decide (c.snd.fst > 1) && !(c.snd.snd == (wA c r == -1))) = true := by
  rw [Bool.beq_comm]; exact ha
 rw [ha', qj, YI k r 0 _ (by omega) (by omega) (by omega) (by omega), qdB k r 0 _ (by omega) (by omega) (by omega) (by omega), qc ⟨rfl, by rw [hlen, qz]; omega⟩]
theorem qsK (k j : Nat) (b : List Rn) (r : Rn) (hl : b.length ≤ 1000000000) (hr : Bnd r) (hb : ∀ c ∈ b, Bnd c ∧ 1 ≤ c.2.1) : Qk k (j + 2) r b = some (vC b r) := by
 obtain ⟨r1, r2, r3, r4⟩ := hr
 by_cases h0 : r.2.1 < 1
 ·rw [qgW _ _ h0]; unfold Qk; rw [qq (by omega : ¬ r.snd.fst > 0), qg]
 rcases List.eq_nil_or_concat b with rfl | ⟨pre, c, rfl⟩
 ·rw [qkg _ h0]
  unfold Qk
  rw [qw (by omega : r.snd.fst > 0), qj, show qa .i64 ((([] : List Rn).length : Int) - 1) = -1 by rw [List.length_nil, qm (by omega) (by omega)]; rfl, qw (by omega : (-1 : Int) < 0), qj, YI k r 0 _ (by omega) (by omega) (by omega) (by omega), qdB k r 0 _ (by omega) (by omega) (by omega) (by omega), qc ⟨rfl, by simp⟩]
  rfl
 rw [List.concat_eq_append] at *
 obtain ⟨⟨c1, c2, c3, c4⟩, c5⟩ := hb c (by simp)
 have hlen : (pre ++ [c]).length = pre.length + 1 := by simp
 rw [qgV _ _ _ h0]
 cases ha : apart c r with
 | true =>
  rw [qj]
  exact qgs k (j + 1) pre c r (by omega) h0 ⟨by omega, by omega⟩ ⟨by omega, by omega, by omega, by omega⟩ ha
 | false =>
 rw [qg]
 have hi := qfJ pre c (by omega)
 have hst : qa .i64 (r.fst - wd c (c.snd.fst - 1)) = wA c r := by
  unfold wA
  refine qm ?_ ?_ <;> unfold wd <;> cases c.2.2 <;> simp only [qE, if_false, if_true] <;> omega
 have ha' : ((wA c r != 1 && wA c r != -1) || decide (c.snd.fst > 1) && !(c.snd.snd == (wA c r == -1))) = false := by
  rw [Bool.beq_comm]; exact ha
 have hidx : (0 : Int) ≤ qa .i64 (((pre ++ [c]).length : Int) - 1) ∧ qa .i64 (((pre ++ [c]).length : Int) - 1) < ((pre ++ [c]).length : Int) := by
  rw [hlen, qm (by omega) (by omega)]; exact ⟨by omega, by omega⟩
 rw [Qk]
 rw [qw (by omega : r.snd.fst > 0), qj, qq (by omega : ¬ qa .i64 (((pre ++ [c]).length : Int) - 1) < 0), qg, hi, qfI]
 rw [qm (i := c.snd.fst - 1) (by omega) (by omega), zA k c _ (by omega) (by omega) (by omega) (by omega), zN k c _ (by omega) (by omega) (by omega) (by omega), hst]
 rw [qc hidx, qd, qc rfl, ha', qg]
 rw [qm (i := c.snd.fst + r.snd.fst) (by omega) (by omega), qm (i := c.snd.fst + 1) (by omega) (by omega), qm (i := r.snd.fst - r.snd.fst) (by omega) (by omega), qm (i := r.snd.fst - 1) (by omega) (by omega), qfK, qfK]
 rw [YI k r 1 _ (by omega) (by omega) (by omega) (by omega), qdB k r 1 _ (by omega) (by omega) (by omega) (by omega)]
 cases hd : (decide (r.snd.fst > 1) && !(r.snd.snd == (wA c r == -1))) with
 | true =>
  rw [qj, qj, qc hidx]
  simp only [qh, decide_eq_true_eq] at hd
  obtain ⟨hone, hd⟩ := hd
  have hd : (r.2.2 == (wA c r == -1)) = false := by
   cases e : (r.2.2 == (wA c r == -1)) with
   | false => rfl
   | true => rw [show r.snd.snd = r.2.2 from rfl, e] at hd; cases hd
  rw [show ((1 : Int) == r.snd.fst) = false by exact Z5 (by omega), qg, qd, qc rfl]
  obtain ⟨p1, p2, p3⟩ := qwa (r := r) ⟨r1, r2, r3, r4⟩ (x := 1) (n := r.2.1 - 1) (by omega) (by omega) (by omega) (by omega)
  have e := qgs k j pre (c.fst, c.snd.fst + 1, wA c r == -1) (wG r 1 (r.snd.fst - 1)) (by omega) (by rw [p3]; omega) ⟨by omega, by omega⟩ ⟨by show -9007199254740992 ≤ c.1; omega, by show c.1 ≤ 9007199254740992; omega, by show 1 ≤ c.2.1 + 1; omega, by show c.2.1 + 1 ≤ 9007199254740992; omega⟩ (qlS c5 ha hd)
  rw [p3, qsz] at e
  rw [e]
  simp
 | false =>
  rw [qg, qg, qc hidx, beq_self_eq_true, qj]
theorem Xz (k : Nat) (hk : 4 ≤ k) (b : List Rn) (r : Rn) (hl : b.length ≤ 1000000000) (hr : Bnd r) (hb : ∀ c ∈ b, Bnd c ∧ 1 ≤ c.2.1) : qbs k b r = some (vC b r) := by
 unfold qbs
 rw [qc (by omega), wk]
 obtain ⟨j, rfl⟩ : ∃ m, k = m + 2 := ⟨k - 2, by omega⟩
 exact qsK _ j b r hl hr hb
theorem qb2 (k : Nat) (hk : 4 ≤ k) (b : List Rn) (r : Rn) (hl : b.length ≤ 1000000000) (hr : Bnd r) (hb : ∀ c ∈ b, Bnd c ∧ 1 ≤ c.2.1) : qai k b r = vC b r := by
 unfold qai; rw [Xz k hk b r hl hr hb]; rfl
end Go.AM
