/- Contracts of the functions that the law reaches, and the plain law. -/
import Derived.Test.YtlakpahbdecdpaaGreatDoorLibb
import Derived.Test.YtlakpahbdecdpaaGreatDoorProg
import Derived.Laws.RangeAny
import Derived.Lib.IndexAny
import Derived.Shelf.Strings.IndexAnyAll
import Derived.Shelf.Small.Utf8
import Derived.Shelf.SlicesE.Clone
import Derived.Shelf.SlSortCmp.WholeK
import Derived.Shelf.SlSortCmp.NoneTotal
import Derived.Shelf.Sort.Plain
import Derived.Shelf.Slices.In.SortNone
import Derived.Shelf.Spec.SlicesGrow
import Derived.Shelf.SlGeneric
import Derived.Shelf.Small.Bits
import Derived.Ground.NamesProg
import Derived.Ground.Names2Prog
import Derived.Ground.Names8Prog
import Derived.Ground.SlgnProg
import Derived.Ground.SlsfProg
set_option linter.unusedVariables false
set_option linter.unusedSimpArgs false
set_option linter.unusedSectionVars false
open Bool renaming and_eq_true → qj, false_and → wD, false_eq_true → qG, false_or → zn, or_eq_false_iff → WN, true_and → ww
open Int renaming le_refl → Wg, toNat → qt, toNat_natCast → qc
open List renaming all_eq_true → vA, append_assoc → qw, append_nil → qY, cons_append → qpk, drop_of_length_le → qh, drop_zero → wm, getD → qM, length → qe, length_append → qn, length_cons → wc, length_singleton → qk, mem_append → zW, mem_cons → qK, nil_append → qH, take_of_length_le → wI
open Nat renaming add_mul → qaS, beq → qC, eq_of_beq_eq_true → ql, le_of_ble_eq_true → wo, le_refl → qT, mul_le_mul_right → vT, succ_mul → qTX, zero_add → Yd, zero_le → z8
open Option renaming isSome_some → qb
open Go.IntKind renaming wrap → qa
namespace Go.AM
open Go
theorem wU {α : Type} (l : List α) (i : Nat) (d : α) (h : i < l.length) : l.take (i + 1) = l.take i ++ [l.getD i d] := by
 rw [List.take_add_one]; simp [h]
abbrev Sp := Int × Int
def Qq : List Sp → Int → Prop
 | [], _ => False
 | s :: t, x => (s.1 ≤ x ∧ x < s.2) ∨ Qq t x
theorem v8 (l : List Sp) (x : Int) : Qq l x ↔ ∃ s ∈ l, s.1 ≤ x ∧ x < s.2 := by
 induction l with
 | nil => simp [Qq]
 | cons s t ih => simp [Qq, ih]
theorem qGP {a b : List Sp} (h : a.Perm b) (x : Int) : Qq a x ↔ Qq b x := by
 rw [v8, v8]
 exact ⟨fun ⟨s, hs, h2⟩ => ⟨s, h.mem_iff.1 hs, h2⟩, fun ⟨s, hs, h2⟩ => ⟨s, h.mem_iff.2 hs, h2⟩⟩
def Nr : Int → List Sp → Prop
 | _, [] => True
 | b, s :: t => b < s.1 ∧ s.1 < s.2 ∧ Nr s.2 t
theorem Nr.weaken {a b : Int} (h : a ≤ b) : ∀ {l : List Sp}, Nr b l → Nr a l
 | [], _ => trivial
 | _ :: _, ⟨h1, h2, h3⟩ => ⟨by omega, h2, h3⟩
theorem Nr.low : ∀ {b : Int} {l : List Sp}, Nr b l → ∀ x, Qq l x → b < x
 | _, [], _, x, hx => hx.elim
 | b, s :: t, ⟨h1, h2, h3⟩, x, hx => by
  rcases hx with ⟨h, _⟩ | hx
  ·omega
  ·have := Nr.low h3 x hx; omega
theorem Nr.uniq : ∀ {b : Int} {l m : List Sp}, Nr b l → Nr b m → (∀ x, Qq l x ↔ Qq m x) → l = m
 | _, [], [], _, _, _ => rfl
 | b, [], s :: t, _, ⟨h1, h2, _⟩, h => ((h s.1).2 (.inl ⟨by omega, h2⟩)).elim
 | b, s :: t, [], ⟨h1, h2, _⟩, _, h => ((h s.1).1 (.inl ⟨by omega, h2⟩)).elim
 | b, s :: t, u :: v, ⟨h1, h2, h3⟩, ⟨k1, k2, k3⟩, h => by
  have e1 : s.1 = u.1 := by
   have a1 := (h s.1).1 (.inl ⟨by omega, h2⟩)
   have a2 := (h u.1).2 (.inl ⟨by omega, k2⟩)
   rcases a1 with a1 | a1
   ·rcases a2 with a2 | a2
    ·omega
    ·have := Nr.low h3 _ a2; omega
   ·have := Nr.low k3 _ a1
    rcases a2 with a2 | a2
    ·omega
    ·have := Nr.low h3 _ a2; omega
  have e2 : s.2 = u.2 := by
   rcases Int.lt_trichotomy s.2 u.2 with hlt | heq | hgt
   ·have a1 := (h s.2).2 (.inl ⟨by omega, hlt⟩)
    rcases a1 with a1 | a1
    ·omega
    ·have := Nr.low h3 _ a1; omega
   ·exact heq
   ·have a1 := (h u.2).1 (.inl ⟨by omega, hgt⟩)
    rcases a1 with a1 | a1
    ·omega
    ·have := Nr.low k3 _ a1; omega
  have e3 : s = u := Prod.ext e1 e2
  subst e3
  congr 1
  refine Nr.uniq h3 k3 fun x => ?_
  constructor
  ·intro hx
   have := Nr.low h3 _ hx
   rcases (h x).1 (.inr hx) with a | a
   ·omega
   ·exact a
  ·intro hx
   have := Nr.low k3 _ hx
   rcases (h x).2 (.inr hx) with a | a
   ·omega
   ·exact a
def tot : List Sp → Int
 | [] => 0
 | s :: t => (s.2 - s.1) + tot t
def jn : Sp → List Sp → List Sp
 | c, [] => [c]
 | c, s :: t => if s.1 ≥ s.2 then jn c t else if s.1 ≤ c.2 then jn (c.1, if s.2 > c.2 then s.2 else c.2) t else c :: jn s t
def jn0 : List Sp → List Sp
 | [] => []
 | s :: t => if s.1 ≥ s.2 then jn0 t else jn s t
def Asc : Int → List Sp → Prop
 | _, [] => True
 | b, s :: t => b ≤ s.1 ∧ Asc s.1 t
theorem Asc.weaken {a b : Int} (h : a ≤ b) : ∀ {l : List Sp}, Asc b l → Asc a l
 | [], _ => trivial
 | _ :: _, ⟨h1, h3⟩ => ⟨by omega, h3⟩
theorem qru : ∀ (l : List Sp) (c : Sp) (b : Int), b < c.1 → c.1 < c.2 → Asc c.1 l → Nr b (jn c l)
 | [], c, b, h1, h2, _ => ⟨h1, h2, trivial⟩
 | s :: t, c, b, h1, h2, ⟨h3, h4⟩ => by
  unfold jn
  by_cases q : s.1 ≥ s.2
  ·rw [qd q]; exact qru t c b h1 h2 (h4.weaken h3)
  ·rw [qm q]
   by_cases q2 : s.1 ≤ c.2
   ·rw [qd q2]
    refine qru t _ b h1 ?_ (h4.weaken h3)
    show c.1 < if s.2 > c.2 then s.2 else c.2
    split <;> omega
   ·rw [qm q2]
    exact ⟨h1, h2, qru t s c.2 (by omega) (by omega) h4⟩
theorem qnu : ∀ (l : List Sp) (c : Sp) (x : Int), c.1 < c.2 → Asc c.1 l → (Qq (jn c l) x ↔ (c.1 ≤ x ∧ x < c.2) ∨ Qq l x)
 | [], c, x, _, _ => by simp [jn, Qq]
 | s :: t, c, x, h2, ⟨h3, h4⟩ => by
  unfold jn
  by_cases q : s.1 ≥ s.2
  ·rw [qd q, qnu t c x h2 (h4.weaken h3)]
   simp only [Qq]
   constructor
   ·rintro (h | h)
    ·exact .inl h
    ·exact .inr (.inr h)
   ·rintro (h | h | h)
    ·exact .inl h
    ·omega
    ·exact .inr h
  ·rw [qm q]
   by_cases q2 : s.1 ≤ c.2
   ·rw [qd q2, qnu t (c.1, if s.2 > c.2 then s.2 else c.2) x (by show c.1 < if s.2 > c.2 then s.2 else c.2; split <;> omega) (h4.weaken h3)]
    simp only [Qq]
    constructor
    ·rintro (h | h)
     ·by_cases q3 : x < c.2
      ·exact .inl ⟨h.1, q3⟩
      ·refine .inr (.inl ⟨by omega, ?_⟩)
       have := h.2
       split at this <;> omega
     ·exact .inr (.inr h)
    ·rintro (h | h | h)
     ·exact .inl ⟨h.1, by split <;> omega⟩
     ·exact .inl ⟨by omega, by split <;> omega⟩
     ·exact .inr h
   ·rw [qm q2]
    simp only [Qq, qnu t s x (by omega) h4]
theorem qEt : ∀ (l : List Sp) (b : Int), Asc (b + 1) l → Nr b (jn0 l)
 | [], b, _ => trivial
 | s :: t, b, ⟨h3, h4⟩ => by
  unfold jn0
  by_cases q : s.1 ≥ s.2
  ·rw [qd q]; exact qEt t b (h4.weaken h3)
  ·rw [qm q]; exact qru t s b (by omega) (by omega) h4
theorem qwI : ∀ (l : List Sp) (b x : Int), Asc b l → (Qq (jn0 l) x ↔ Qq l x)
 | [], b, x, _ => Iff.rfl
 | s :: t, b, x, ⟨h3, h4⟩ => by
  unfold jn0
  by_cases q : s.1 ≥ s.2
  ·rw [qd q, qwI t _ x h4]
   simp only [Qq]
   exact ⟨.inr, fun h => h.elim (fun h => by omega) id⟩
  ·rw [qm q, qnu t s x (by omega) h4]; rfl
theorem qmF : ∀ (l : List Sp) (c : Sp), (jn c l).length ≤ l.length + 1
 | [], c => by simp [jn]
 | s :: t, c => by
  unfold jn
  split
  ·have := qmF t c; simp; omega
  ·split
   ·have := qmF t (c.1, if s.2 > c.2 then s.2 else c.2); simp at this ⊢; omega
   ·have := qmF t s; simp; omega
theorem qvf : ∀ (l : List Sp), (jn0 l).length ≤ l.length
 | [] => qT _
 | s :: t => by
  unfold jn0
  split
  ·have := qvf t; simp; omega
  ·have := qmF t s; simpa using this
def In (a b : Int) : List Sp → Prop
 | [] => True
 | s :: t => (a ≤ s.1 ∧ s.1 ≤ s.2 ∧ s.2 ≤ b) ∧ In a b t
theorem In.mem {a b : Int} : ∀ {l : List Sp}, In a b l → ∀ s ∈ l, a ≤ s.1 ∧ s.1 ≤ s.2 ∧ s.2 ≤ b
 | [], _, s, hs => by simp at hs
 | u :: t, ⟨h1, h2⟩, s, hs => by
  rcases qK.1 hs with rfl | hs
  ·exact h1
  ·exact In.mem h2 s hs
theorem In.of {a b : Int} : ∀ {l : List Sp}, (∀ s ∈ l, a ≤ s.1 ∧ s.1 ≤ s.2 ∧ s.2 ≤ b) → In a b l
 | [], _ => trivial
 | u :: t, h => ⟨h u (by simp), In.of fun s hs => h s (by simp [hs])⟩
theorem qrv {a b : Int} : ∀ (l : List Sp) (c : Sp), In a b l → (a ≤ c.1 ∧ c.1 ≤ c.2 ∧ c.2 ≤ b) → In a b (jn c l)
 | [], c, _, hc => ⟨hc, trivial⟩
 | s :: t, c, ⟨h1, h2⟩, hc => by
  unfold jn
  split
  ·exact qrv t c h2 hc
  ·split
   ·refine qrv t _ h2 ⟨hc.1, ?_, ?_⟩
    ·show c.1 ≤ if s.2 > c.2 then s.2 else c.2
     split <;> omega
    ·show (if s.2 > c.2 then s.2 else c.2) ≤ b
     split <;> omega
   ·exact ⟨hc, qrv t s h2 h1⟩
theorem qCQ {a b : Int} : ∀ (l : List Sp), In a b l → In a b (jn0 l)
 | [], h => h
 | s :: t, ⟨h1, h2⟩ => by
  unfold jn0
  split
  ·exact qCQ t h2
  ·exact qrv t s h2 h1
end Go.AM
namespace Go.AM
open Go
end Go.AM
namespace Go.AM
open Go Go.Proofs
noncomputable section
def rpt : Nat → RTy → RTy
 | 0, a => a
 | n + 1, a => .pair a (rpt n a)
abbrev I : RTy := .int .i64
abbrev t7 : RTy := (RTy.pair I (RTy.pair I (RTy.pair RTy.bool (RTy.int .u8))))
abbrev t8 : RTy := (RTy.pair I (RTy.pair I (RTy.pair RTy.bool (RTy.int .u8))))
abbrev t13 : RTy := (RTy.pair RTy.str (RTy.int .u64))
abbrev t14 : RTy := (RTy.pair RTy.str (RTy.int .u64))
abbrev T0 : RTy := (RTy.pair RTy.str (RTy.pair I (RTy.pair I (RTy.pair I (RTy.pair I (RTy.pair I (RTy.pair (RTy.list I) I)))))))
abbrev T1 : RTy := (RTy.pair I (RTy.list I))
abbrev T2 : RTy := (RTy.pair I (RTy.pair I (RTy.pair I (RTy.pair I I))))
abbrev T3 : RTy := (RTy.pair I (RTy.pair I RTy.bool))
abbrev T4 : RTy := (RTy.pair I (RTy.pair I (RTy.pair RTy.bool (RTy.list T3))))
abbrev T5 : RTy := (RTy.pair I (RTy.pair I T4))
abbrev T6 : RTy := (RTy.pair I (RTy.pair I (RTy.pair I I)))
abbrev T7 : RTy := (RTy.pair T6 (RTy.pair I I))
abbrev T8 : RTy := (RTy.pair I (RTy.pair I (RTy.pair I (RTy.pair I (RTy.pair I (RTy.pair I (RTy.pair I (RTy.pair I (RTy.pair I (RTy.pair I (RTy.pair I I)))))))))))
abbrev T9 : RTy := (RTy.pair T8 (RTy.pair (RTy.list I) (RTy.pair (RTy.list I) RTy.bool)))
abbrev T10 : RTy := (RTy.pair I (RTy.pair I I))
abbrev T11 : RTy := (RTy.pair I (RTy.pair I (RTy.list I)))
abbrev T12 : RTy := (RTy.pair I (RTy.pair I (RTy.pair I (RTy.pair I (RTy.pair I I)))))
abbrev T13 : RTy := (RTy.pair I (RTy.pair I (RTy.pair I I)))
abbrev T14 : RTy := (RTy.pair I (RTy.pair I (RTy.pair I I)))
abbrev T15 : RTy := (RTy.pair I I)
abbrev T16 : RTy := (RTy.pair I (RTy.pair I (RTy.list T15)))
abbrev t35 : RTy := (RTy.pair I (RTy.pair I (RTy.pair I (RTy.pair I (RTy.pair I (RTy.pair I (RTy.pair I (RTy.pair (RTy.list T0) (RTy.pair (RTy.list T1) (RTy.pair (RTy.list T2) (RTy.pair (RTy.list I) (RTy.pair (RTy.list T5) (RTy.pair (RTy.list I) (RTy.pair (RTy.list I) (RTy.pair (RTy.list T7) (RTy.pair (RTy.list T9) (RTy.pair (RTy.list T10) (RTy.pair (RTy.list T11) (RTy.pair (RTy.list T12) (RTy.pair (RTy.list T13) (RTy.pair (RTy.list T14) (RTy.list T16))))))))))))))))))))))
abbrev T17 : RTy := (RTy.pair I (RTy.pair I (RTy.pair I (RTy.pair I (RTy.pair I (RTy.pair I (RTy.pair I (RTy.pair (RTy.list T0) (RTy.pair (RTy.list T1) (RTy.pair (RTy.list T2) (RTy.pair (RTy.list I) (RTy.pair (RTy.list T5) (RTy.pair (RTy.list I) (RTy.pair (RTy.list I) (RTy.pair (RTy.list T7) (RTy.pair (RTy.list T9) (RTy.pair (RTy.list T10) (RTy.pair (RTy.list T11) (RTy.pair (RTy.list T12) (RTy.pair (RTy.list T13) (RTy.pair (RTy.list T14) (RTy.list T16))))))))))))))))))))))
abbrev t41 : RTy := (RTy.pair I (RTy.pair I (RTy.pair I I)))
abbrev t44 : RTy := (RTy.pair I (RTy.pair I (RTy.pair RTy.bool (RTy.list T3))))
abbrev t46 : RTy := (RTy.pair I (RTy.pair I T4))
abbrev t48 : RTy := (RTy.pair I (RTy.pair I RTy.bool))
abbrev T18 : RTy := (RTy.pair I (RTy.pair I I))
abbrev t53 : RTy := (RTy.pair I (RTy.pair I I))
abbrev t60 : RTy := (RTy.pair I (RTy.pair I (RTy.pair I (RTy.pair I (RTy.pair I I)))))
abbrev t62 : RTy := (RTy.pair I (RTy.pair I (RTy.pair I I)))
abbrev t66 : RTy := (RTy.pair I I)
abbrev T19 : RTy := (RTy.pair I I)
abbrev t68 : RTy := (RTy.pair I (RTy.pair I I))
abbrev T20 : RTy := (RTy.pair I (RTy.pair I I))
abbrev t71 : RTy := (RTy.pair I (RTy.pair I (RTy.pair I (RTy.pair I (RTy.pair I (RTy.pair I (RTy.pair I (RTy.pair I (RTy.pair I (RTy.pair I (RTy.pair I I)))))))))))
abbrev t73 : RTy := (RTy.pair T8 (RTy.pair (RTy.list I) (RTy.pair (RTy.list I) RTy.bool)))
abbrev t75 : RTy := (RTy.pair I (RTy.pair I (RTy.list I)))
abbrev t86 : RTy := (RTy.pair I (RTy.pair I (RTy.pair I (RTy.pair I I))))
abbrev t90 : RTy := (RTy.pair I I)
abbrev T21 : RTy := (RTy.pair I I)
abbrev qSX : RTy := (RTy.pair I (RTy.pair RTy.bool (RTy.pair I (RTy.pair I (RTy.pair I I)))))
abbrev T22 : RTy := (RTy.pair I (RTy.pair RTy.bool (RTy.pair I (RTy.pair I (RTy.pair I I)))))
abbrev T23 : RTy := (RTy.pair I I)
abbrev qTp : RTy := (RTy.pair (RTy.list T5) (RTy.pair T23 (RTy.pair (RTy.list T2) (RTy.pair (RTy.list T7) (RTy.pair (RTy.list T0) I)))))
abbrev T24 : RTy := (RTy.pair (RTy.list T5) (RTy.pair T23 (RTy.pair (RTy.list T2) (RTy.pair (RTy.list T7) (RTy.pair (RTy.list T0) I)))))
abbrev qTi : RTy := (RTy.pair I (RTy.pair I (RTy.list T15)))
abbrev qSZ : RTy := (RTy.pair I I)
abbrev qTf : RTy := (RTy.pair I (RTy.pair I (RTy.pair I I)))
abbrev qTk : RTy := (RTy.pair T6 (RTy.pair I I))
abbrev qSN : RTy := RTy.fn
abbrev T25 : RTy := RTy.fn
abbrev qTr : RTy := (RTy.pair T17 (RTy.list T18))
abbrev T26 : RTy := (RTy.pair T17 (RTy.list T18))
abbrev qS8 : RTy := (RTy.pair RTy.str (RTy.pair I (RTy.pair I (RTy.pair I (RTy.pair I (RTy.pair I (RTy.pair (RTy.list I) I)))))))
abbrev qTo : RTy := (RTy.pair I (RTy.pair I (RTy.pair I (RTy.pair I (RTy.pair I I)))))
abbrev T27 : RTy := (RTy.pair I (RTy.pair I (RTy.pair I (RTy.pair I (RTy.pair I I)))))
abbrev qSO : RTy := (RTy.pair (RTy.list T5) (RTy.pair T19 (RTy.pair (RTy.list T2) (RTy.pair (RTy.list T7) (RTy.pair (RTy.list T0) I)))))
abbrev T28 : RTy := (RTy.pair (RTy.list T5) (RTy.pair T19 (RTy.pair (RTy.list T2) (RTy.pair (RTy.list T7) (RTy.pair (RTy.list T0) I)))))
abbrev qS1 : RTy := (RTy.pair I (RTy.pair I I))
abbrev T29 : RTy := (RTy.pair I (RTy.pair I (RTy.pair I (RTy.pair I (RTy.pair I I)))))
abbrev qS7 : RTy := (RTy.pair (RTy.int .u64) (RTy.int .u64))
abbrev T30 : RTy := (RTy.pair (RTy.int .u64) (RTy.int .u64))
abbrev qTn : RTy := rpt 23 (RTy.int .u8)
abbrev qS5 : RTy := rpt 19 (RTy.int .u64)
abbrev qST : RTy := (RTy.list T3)
abbrev T31 : RTy := (RTy.list T3)
abbrev qTc : RTy := (RTy.pair T22 T8)
abbrev T32 : RTy := (RTy.pair T22 T8)
abbrev qS3 : RTy := rpt 31 (RTy.int .u8)
abbrev qTj : RTy := rpt 63 (RTy.int .u8)
abbrev qS4 : RTy := RTy.unit
abbrev qSW : RTy := RTy.unit
abbrev qTa : RTy := (RTy.pair I (RTy.list I))
instance : GT Tryz.prog := ⟨fun _ => True, fun _ _ _ h => h⟩
def Rt : wV := qIu (([1, 37, 39, 40, 52, 55, 57, 58, 59, 65, 70, 79, 80, 81, 84, 85, 89, 94, 95, 96, 97, 98, 99, 100, 101, 105, 109, 110, 111, 113, 114, 118, 121, 123, 128, 131, 132, 136, 137, 138, 141, 142, 144, 146, 147, 148, 149, 150, 151, 152, 153, 154, 156, 158, 160, 161, 164, 165, 167, 168, 169, 171, 174, 175, 176, 177, 179, 180, 182, 183, 184, 185, 186, 187, 188, 189, 191, 192, 193, 194, 195, 196, 198, 199, 202, 204, 205, 206, 207, 208, 212, 213, 214, 216, 218, 219, 221, 222, 223, 224, 225, 226, 227, 228, 229, 230, 231, 232, 233, 234, 235, 236, 237, 238, 239, 240, 241, 242, 243, 244, 245, 246, 247, 248, 249, 250, 251, 252, 253, 258, 259, 260, 262, 263, 265, 266, 267, 268, 269, 271, 272, 273, 274, 275, 276, 277, 278, 279, 280, 281, 282, 288, 289, 290, 291, 292, 293, 294, 297, 298, 299, 300, 301, 305, 306, 307, 308, 310, 311, 313, 314, 315, 317, 318, 319, 322, 323, 324, 325, 327, 328, 329, 330, 331, 337, 340].map fun n => (n, RTy.fn)) ++ [(2, I), (3, I), (4, RTy.bool), (5, (RTy.int .u8)), (6, (RTy.int .u8)), (7, t7), (8, t8), (9, RTy.str), (10, RTy.str), (11, RTy.str), (12, (RTy.int .u64)), (13, t13), (14, t14), (21, (RTy.int .i32)), (22, (RTy.list T0)), (23, (RTy.list T1)), (24, (RTy.list T2)), (25, (RTy.list I)), (26, (RTy.list T5)), (27, (RTy.list T7)), (28, (RTy.list T9)), (29, (RTy.list T10)), (30, (RTy.list T11)), (31, (RTy.list T12)), (32, (RTy.list T13)), (33, (RTy.list T14)), (34, (RTy.list T16)), (35, t35), (36, T17), (38, I), (41, t41), (42, T14), (43, (RTy.list T3)), (44, t44), (45, T4), (46, t46), (47, T5), (48, t48), (49, T3), (50, (RTy.list T18)), (53, t53), (54, T18), (60, t60), (61, T12), (62, t62), (63, T13), (66, t66), (67, T19), (68, t68), (69, T20), (71, t71), (72, T8), (73, t73), (74, T9), (75, t75), (76, T11), (83, (RTy.list RTy.fn)), (86, t86), (87, T2), (90, t90), (91, T21), (92, (RTy.list T21)), (102, qSX), (103, T22), (106, T23), (107, qTp), (108, T24), (115, (RTy.list T15)), (116, qTi), (117, T16), (119, qSZ), (120, T15), (124, qTf), (125, T6), (126, qTk), (127, T7), (129, qSN), (130, T25), (139, qTr), (140, T26), (145, (RTy.list T4)), (162, qS8), (163, T0), (172, qTo), (173, T27), (178, (RTy.list (RTy.int .u8))), (200, qSO), (201, T28), (209, qS1), (210, T10), (215, T29), (220, (RTy.list (RTy.list T21))), (254, (RTy.int .u64)), (256, qS7), (257, T30), (261, qTn), (270, (RTy.int .u64)), (283, qS5), (284, (RTy.int .u32)), (286, qST), (287, T31), (295, I), (302, qTc), (303, T32), (304, (RTy.list RTy.fn)), (312, (RTy.int .u64)), (320, qS3), (321, qTj), (334, RTy.unit), (335, qS4), (336, qSW), (338, (RTy.int .u8)), (339, (RTy.int .u8)), (342, (RTy.int .i32)), (343, (RTy.int .i32)), (346, qTa), (347, T1)])
theorem hm : Tryz.prog.follows .mixedOrders = true := by kernel_rfl
theorem go (K : Calld) (l : List Nat) (C : List (Nat × List Cmd)) (E : List Cmd) {fn : Wy} {m : Nat} {todo : List Item} {st : St} {res : AV} {bout : List (Nat × Blk)} {T : Tree} (h : T.gives Tryz.prog fn m res bout) (e : tree Tryz.prog Rt K fn.rd m l fn.fn.results.toList C E 1000 todo st = T := by kernel_rfl) : Ev Tryz.prog fn m todo st res bout := Ev.tree hm (R := Rt) (K := K) e h
theorem qN {f : FuncId} (fn : Func) {args : List AV} {bin : List Blk} {res : AV} {bout : List (Nat × Blk)} (h : Ev Tryz.prog (.of fn) bin.length (qtX fn) (qbn fn args bin) res bout) (hf : Tryz.prog.funcs[f]? = some fn := by kernel_rfl) (hb : fn.body.isSome = true := by kernel_rfl) (hn : (fn.name == "runtime.NumGoroutine") = false := by kernel_rfl) (hg : zm args = true := by kernel_rfl) : CC Tryz.prog f args bin res bout := CC.of hf hb hn hg h
abbrev ri (n : Int) : AV := .r (.v (.int .i64 n))
abbrev rb (n : Bool) : AV := .r (.v (.bool n))
abbrev ro (τ : RTy) (l : List τ.T) : AV := .r (.ro τ l)
abbrev EE {R : Type} (fn : Wy) (m : Nat) (s : R → AV) (b : R → List (Nat × Blk)) (todo : List Item) (st : St) (o : Option R) : Prop := ∀ r, o = some r → Ev Tryz.prog fn m todo st (s r) (b r)
section
variable {fn : Wy} {m : Nat} {R : Type} {r : R} {s : R → AV} {b : R → List (Nat × Blk)}
theorem gD {o : Option R} {todo : List Item} {st : St} (h : o = some r) (key : Nat) (H : ∀ r, o = some r → Ev Tryz.prog fn m todo st (s r) (b r)) : (Tree.cut key todo st).gives Tryz.prog fn m (s r) (b r) := H r h
theorem gTl {c : Bool} {x : R} {y : Option R} {f : Tree} (h : (bif c then some x else y) = some r) (hf : c = false → y = some r → f.gives Tryz.prog fn m (s r) (b r)) : (Tree.test c (.leaf (s x) (b x)) f).gives Tryz.prog fn m (s r) (b r) := gT h (fun _ h => gL h) hf
theorem qB {c : Bool} {x : R} {y : Option R} {f : Tree} (h : (bif c then some x else y) = some r) (hf : y = some r → f.gives Tryz.prog fn m (s r) (b r)) : (Tree.test c (.leaf (s x) (b x)) f).gives Tryz.prog fn m (s r) (b r) := gT h (fun _ h => gL h) fun _ => hf
theorem gS {c : Bool} {x y : Option R} {t f : Tree} {res : AV} {bout : List (Nat × Blk)} (h : (bif c then x else y) = some r) (ht : x = some r → t.gives Tryz.prog fn m res bout) (hf : y = some r → f.gives Tryz.prog fn m res bout) : (Tree.test c t f).gives Tryz.prog fn m res bout := gT h (fun _ => ht) fun _ => hf
end
abbrev EP {R : Type} (fn : Func) (m : Nat) (s : R → AV) (b : R → List (Nat × Blk)) (n : Nat) (st : St) (o : Option R) : Prop := EE (.of fn) m s b (Qc fn n) st o
theorem e0 {R : Type} {fn : Wy} {m : Nat} {s : R → AV} {b : R → List (Nat × Blk)} {todo : List Item} {st : St} : EE fn m s b todo st none := fun _ h => nomatch h
theorem Xn {a b c : Prop} (q : a ∧ b ∧ c) : zk [a, b, c] := qf q.1 (qf q.2.1 (qf q.2.2 qR))
theorem Xs {a b c d : Prop} (q : a ∧ b ∧ c ∧ d) : zk [a, b, c, d] := qf q.1 (Xn q.2)
def nb {R : Type} (_ : R) : List (Nat × Blk) := []
def mo (n : Nat) (xs : List AV) : Option (List Bool) := bif qC xs.length n then some (List.replicate n false) else none
abbrev ql5 : Type := Int × List T21.T × List T21.T
def qsL (r : ql5) : AV := .tup []
def qxo (a : Int) (b : Int) (d : Int) (e : List T21.T) (f : List T21.T) (r : ql5) : List (Nat × Blk) := [(0, .var 3 [ri r.1]), (0, .var 3 [ri d]), (0, .var 92 [.own 3 1]), (1, .row 91 T21 r.2.1), (0, .var 92 [.own 5 1]), (1, .row 91 T21 r.2.2)]
abbrev qDx (a : Int) (b : Int) (d : Int) (e : List T21.T) (f : List T21.T) (r : ql5) : Prop := CC Tryz.prog 126 [ri a, .ptr 0 0 0, .ptr 1 0 0, .ptr 2 0 0, .ptr 4 0 0] [.var 3 [ri b], .var 3 [ri d], .var 92 [.own 3 0], .row 91 T21 e, .var 92 [.own 5 0], .row 91 T21 f] (qsL r) (qxo a b d e f r)
def qh7 (k : Nat) (a : Int) (b : Int) (d : Int) (e : List T21.T) (f : List T21.T) : Option ql5 :=
 bif qa .i64 (a - b) ≥ d then
 if ((e.length + [(b, a)].length) * (16 : Nat) ≤ (140737488355328 : Nat)) then
 some (a, e ++ [(b, a)], f)
 else none
 else
 if ((f.length + [(b, a)].length) * (16 : Nat) ≤ (140737488355328 : Nat)) then
 some (a, e, f ++ [(b, a)])
 else none
def qan := fun k a b d e f => (qh7 k a b d e f).getD (0, [], [])
def qnL (k : Nat) : Ke := (126, fun
 | [_, .ptr _ _ _, .ptr _ _ _, .ptr _ _ _, .ptr _ _ _] => some [false, true, true, true, true]
 | _ => none, fun
 | [.r (.v (.int .i64 a)), .ptr 0 0 0, .ptr 1 0 0, .ptr 2 0 0, .ptr 4 0 0], [.var 3 [.r (.v (.int .i64 b))], .var 3 [.r (.v (.int .i64 d))], .var 92 [.own 3 0], .row 91 tz20_ qz20, .var 92 [.own 5 0], .row 91 tz30_ qz30] => (qE tz20_ T21 qz20).bind fun e => (qE tz30_ T21 qz30).bind fun f => some (.one (qsL (qan k a b d e f), qxo a b d e f (qan k a b d e f)))
 | _, _ => none)
theorem qLT (k a b d e f r) (h : qh7 k a b d e f = some r): qDx a b d e f r := qN Tryz.f126 (go (qD []) [] [] [.autoB [] true [3, 5]] (gS h (fun h => qu h id fun h => gL h) fun h => qu h id fun h => gL h))
theorem qvh {k a b d e f} (h : (qh7 k a b d e f).isSome): qDx a b d e f (qan k a b d e f) := qJ h (qLT k a b d e f)
abbrev qsM : Type := List T21.T × List T21.T
def qsu (r : qsM) : AV := rb true
def qyv (a : List I.T) (b : Int) (d : List T21.T) (e : List T21.T) (f : T21.T) (r : qsM) : List (Nat × Blk) := [(0, .loop .ready none (qf2 Tryz.f81 11 [91]) (qI 66 [(4, .ptr 1 0 0), (5, .ptr 2 0 0), (11, .ptr 3 0 0), (12, .ptr 5 0 0)])), (0, .var 25 [ro I a]), (0, .var 3 [ri b]), (0, .var 92 [.own 4 1]), (1, .row 91 T21 r.1), (0, .var 92 [.own 6 1]), (1, .row 91 T21 r.2)]
abbrev qQk (a : List I.T) (b : Int) (d : List T21.T) (e : List T21.T) (f : T21.T) (r : qsM) : Prop := YC Tryz.prog [.agg (qy (qr T21 f))] [.loop .ready none (qf2 Tryz.f81 11 [91]) (qI 66 [(4, .ptr 1 0 0), (5, .ptr 2 0 0), (11, .ptr 3 0 0), (12, .ptr 5 0 0)]), .var 25 [ro I a], .var 3 [ri b], .var 92 [.own 4 0], .row 91 T21 d, .var 92 [.own 6 0], .row 91 T21 e] (qsu r) (qyv a b d e f r)
def qFC := fun a b (d : List T21.T) (e : List T21.T) (f : T21.T) y0 y1 y2 y3 y4 y5 y6 => (⟨qI 66 [(13, .ptr 1000000 0 0), (15, .fn (Fn.func 126) [] [.ptr 1000001 0 0, .ptr 2 0 0, .ptr 3 0 0, .ptr 5 0 0]), (40, ro I y0), (41, ri y1), (42, ri y2)], [(0, 0, .loop .busy none (qf2 Tryz.f81 11 [91]) (qI 66 [(4, .ptr 1 0 0), (5, .ptr 2 0 0), (11, .ptr 3 0 0), (12, .ptr 5 0 0)])), (1, 0, .var 25 [ro I a]), (2, 0, .var 3 [ri b]), (3, 0, .var 92 [.own 4 1]), (4, 1, .row 91 T21 y3), (5, 0, .var 92 [.own 6 1]), (6, 1, .row 91 T21 y4), (1000000, 0, .var 91 (qy (qr T21 y5))), (1000001, 0, .var 3 [ri y6])]⟩ : St)
def qe1 (k : Nat) (a : List I.T) (b : Int) (d : List T21.T) (e : List T21.T) (f : T21.T) : Nat → List I.T → Int → Int → List T21.T → List T21.T → T21.T → Int → Option qsM
 | 0, _, _, _, _, _, _, _ => none
 | j + 1, y0, y1, y2, y3, y4, y5, y6 =>
 bif y2 < y1 then
 if (0 ≤ y2) ∧ (y2 < y0.length) then
 bif (decide (y0.getD y2.toNat I.dflt > y5.1) && decide (y0.getD y2.toNat I.dflt < y5.2)) then
 if ((qh7 k (y0.getD y2.toNat I.dflt) y6 b y3 y4).isSome) then
 qe1 k a b d e f j y0 y1 (qa .i64 (y2 + 1)) ((qan k (y0.getD y2.toNat I.dflt) y6 b y3 y4).2.1) ((qan k (y0.getD y2.toNat I.dflt) y6 b y3 y4).2.2) y5 ((qan k (y0.getD y2.toNat I.dflt) y6 b y3 y4).1)
 else none
 else
 qe1 k a b d e f j y0 y1 (qa .i64 (y2 + 1)) y3 y4 y5 y6
 else none
 else
 if ((qh7 k y5.2 y6 b y3 y4).isSome) then
 some ((qan k y5.2 y6 b y3 y4).2.1, (qan k y5.2 y6 b y3 y4).2.2)
 else none
def qtR (k : Nat) (a : List I.T) (b : Int) (d : List T21.T) (e : List T21.T) (f : T21.T) : Option qsM :=
 qe1 k a b d e f k a (↑a.length : Int) 0 d e f f.1
def qll := fun k a b d e f => (qtR k a b d e f).getD ([], [])
def qHd (k : Nat) : Ke := (1000000, mo 1, fun
 | [.agg qx0], [.loop _ _ _ qs, .var 25 [.r (.ro p l)], .var 3 [.r (.v (.int .i64 b))], .var 92 [.own 4 0], .row 91 m g, .var 92 [.own 6 0], .row 91 n i] => (qW [] T21 qx0).bind fun f => (qE p I l).bind fun a => (qE m T21 g).bind fun d => (qE n T21 i).bind fun e => some (.one (qsu (qll k a b d e f), qyv a b d e f (qll k a b d e f)))
 | _, _ => none)
def qIv : List (Nat × List Cmd) := [(15, [.autoB [13, 15, 40, 41, 42] false [4, 6]])]
abbrev qSU := fun a b d e f => EE .round 7 qsu (qyv a b d e f)
theorem qHm (k a b d e f) : ∀ j, (∀ y0 y1 y2 y3 y4 y5 y6, qSU a b d e f (qQS (qf2 Tryz.f81 11 [91]).body 15) (qFC a b d e f y0 y1 y2 y3 y4 y5 y6) (qe1 k a b d e f j y0 y1 y2 y3 y4 y5 y6))
 | 0 => by intros; exact e0
 | j + 1 => by
  have ih := @qHm k a b d e f j
  ·intro y0 y1 y2 y3 y4 y5 y6 r h
   rw [qe1] at h
   exact go (qD [qnL k]) [] qIv [.autoB [0] true [4, 6]] (gS h (fun h => qS h fun h => gS h (fun h => qu h qvh fun h => gC h 15 (ih _ _ _ _ _ _ _ _)) fun h => gC h 15 (ih _ _ _ _ _ _ _ _)) fun h => qu h qvh fun h => gL h)
theorem qR3 (k a b d e f r) (h : qtR k a b d e f = some r): qQk a b d e f r := by
 refine YC.of (List.cons_ne_nil _ _) (by kernel_rfl) ?_
 unfold qtR at h
 exact go (qD [qnL k]) [] qIv [.autoB [0] true [4, 6]] (gC h 15 ((qHm k a b d e f k) _ _ _ _ _ _ _ _))
theorem qSC {k a b d e f} (h : (qtR k a b d e f).isSome): qQk a b d e f (qll k a b d e f) := qJ h (qR3 k a b d e f)
end
theorem Vh {α : Type} (l : List α) (i : Nat) (d : α) (h : i < l.length) : l.getD i d ∈ l := by simp [h]
end Go.AM
namespace Go.AM
open Go Go.Proofs
noncomputable section
abbrev qAX (a : List I.T) (r : Int) : Prop := CC Tryz.prog 124 [ro I a] [] (ri r) (nb r)
def qEi := fun y0 y1 y2 y3 => (⟨qI 42 [(0, ro I y0), (9, ro I y1), (10, ri y2), (11, ri y3)], []⟩ : St)
def qyF := fun y0 y1 y2 => (⟨qI 42 [(0, ro I y0), (23, ri y1), (24, ri y2)], []⟩ : St)
mutual
def qfQ (k : Nat) : Nat → List I.T → List I.T → Int → Int → Option Int
 | 0, _, _, _, _ => none
 | j + 1, y0, y1, y2, y3 =>
 bif y3 < y2 then
 if (0 ≤ y3) ∧ (y3 < y1.length) then
 bif (decide (y1.getD y3.toNat I.dflt < (0 : Int)) || decide (y1.getD y3.toNat I.dflt > (17179869184 : Int))) then
 some 1
 else
 qfQ k j y0 y1 y2 (qa .i64 (y3 + 1))
 else none
 else
 qds k j y0 (↑y0.length : Int) 0
def qds (k : Nat) : Nat → List I.T → Int → Int → Option Int
 | 0, _, _, _ => none
 | j + 1, y0, y1, y2 =>
 bif y2 < y1 then
 if (decide (y2 > 0) = true → 0 ≤ y2) ∧ (decide (y2 > 0) = true → y2 < y0.length) ∧ (decide (y2 > 0) = true → (0 : Int) ≤ qa .i64 (y2 - 1)) ∧ (decide (y2 > 0) = true → qa .i64 (y2 - 1) < (↑y0.length : Int)) then
 bif (decide (y2 > 0) && decide (y0.getD y2.toNat I.dflt ≤ y0.getD (qa .i64 (y2 - 1)).toNat I.dflt)) then
 some 9
 else
 qds k j y0 y1 (qa .i64 (y2 + 1))
 else none
 else
 some 0
end
def qmq (k : Nat) (a : List I.T) : Option Int :=
 bif (↑a.length : Int) > (512 : Int) then
 some 8
 else
 qfQ k k a a (↑a.length : Int) 0
def qnp := fun k a => (qmq k a).getD 0
def qKh (k : Nat) : Ke := (124, mo 1, fun
 | [.r (.ro d b)], [] => (qE d I b).bind fun a => some (.one (ri (qnp k a), []))
 | _, _ => none)
def qvn : List (Nat × List Cmd) := [(4, [.autoB [0, 9, 10, 11] false []]), (10, [.autoB [0, 23, 24] false []])]
abbrev qzq := EP Tryz.f124 0 ri nb
theorem qwn (k) : ∀ j, (∀ {y0 y1 y2 y3}, qzq 4 (qEi y0 y1 y2 y3) (qfQ k j y0 y1 y2 y3)) ∧ (∀ {y0 y1 y2}, qzq 10 (qyF y0 y1 y2) (qds k j y0 y1 y2))
 | 0 => by and_intros <;> intros <;> exact e0
 | j + 1 => by
  have ih := @qwn k j
  have g := @go (qD []) [] qvn [.autoB [2] true []]
  refine ⟨?_, ?_⟩
  ·intro y0 y1 y2 y3 r h
   rw [qfQ] at h
   exact g (gS h (fun h => qS h fun h => qB h fun h => gD h 4 ih.1) fun h => gD h 10 ih.2)
  ·intro y0 y1 y2 r h
   rw [qds] at h
   exact g (gS h (fun h => gN h Xs fun h => qB h fun h => gD h 10 ih.2) fun h => gL h)
theorem qMP (k a r) (h : qmq k a = some r): qAX a r := qN Tryz.f124 (go (qD []) [] qvn [.autoB [2] true []] (qB h fun h => gD h 4 (qwn k k).1))
theorem qMV {k a} (h : (qmq k a).isSome): qAX a (qnp k a) := qJ h (qMP k a)
end
end Go.AM
namespace Go.AM
open Go Go.Proofs
noncomputable section
end
end Go.AM
namespace Go.AM
open Go Go.Proofs
noncomputable section
abbrev qJj (a : List T2.T) (r : Int) : Prop := CC Tryz.prog 38 [ro T2 a] [] (ri r) (nb r)
def qG5 := fun y0 y1 => (⟨qI 106 [(0, ro T2 y0), (3, ri y1)], []⟩ : St)
def qCq := fun y0 y1 => (⟨qI 106 [(0, ro T2 y0), (5, ri y1)], []⟩ : St)
mutual
def Yr (k : Nat) : Nat → List T2.T → Int → Option Int
 | 0, _, _ => none
 | j + 1, y0, y1 =>
 bif y1 < y0.length then
 if (0 ≤ y1) ∧ (y1 < y0.length) then
 bif (decide ((y0.getD y1.toNat T2.dflt).1 < (0 : Int)) || decide ((y0.getD y1.toNat T2.dflt).1 ≥ (y0.getD y1.toNat T2.dflt).2.1) || decide ((y0.getD y1.toNat T2.dflt).2.1 > (17179869184 : Int))) then
 some 1
 else
 bif (decide ((y0.getD y1.toNat T2.dflt).2.2.1 < (1 : Int)) || decide ((y0.getD y1.toNat T2.dflt).2.2.1 > (3 : Int))) then
 some 17
 else
 bif (decide ((y0.getD y1.toNat T2.dflt).2.2.2.1 < (-1 : Int)) || decide ((y0.getD y1.toNat T2.dflt).2.2.2.1 ≥ (16 : Int))) then
 some 22
 else
 bif (decide ((y0.getD y1.toNat T2.dflt).2.2.2.2 < (0 : Int)) || decide ((y0.getD y1.toNat T2.dflt).2.2.2.2 > (2048 : Int))) then
 some 1
 else
 Yr k j y0 (qa .i64 (y1 + 1))
 else none
 else
 Xd k j y0 0
def Xd (k : Nat) : Nat → List T2.T → Int → Option Int
 | 0, _, _ => none
 | j + 1, y0, y1 =>
 bif y1 < y0.length then
 if ((y1 == 0) = true → 0 ≤ y1) ∧ ((y1 == 0) = true → y1 < y0.length) ∧ ((y1 == 0 && (y0.getD y1.toNat T2.dflt).1 != (0 : Int)) = false → decide (y1 > 0) = true → 0 ≤ y1) ∧ ((y1 == 0 && (y0.getD y1.toNat T2.dflt).1 != (0 : Int)) = false → decide (y1 > 0) = true → y1 < y0.length) ∧ ((y1 == 0 && (y0.getD y1.toNat T2.dflt).1 != (0 : Int)) = false → decide (y1 > 0) = true → (0 : Int) ≤ qa .i64 (y1 - 1)) ∧ ((y1 == 0 && (y0.getD y1.toNat T2.dflt).1 != (0 : Int)) = false → decide (y1 > 0) = true → qa .i64 (y1 - 1) < (↑y0.length : Int)) ∧ ((y1 == 0 && (y0.getD y1.toNat T2.dflt).1 != (0 : Int)) = false → decide (y1 > 0) = true → ((y0.getD y1.toNat T2.dflt).1 != (y0.getD (qa .i64 (y1 - 1)).toNat T2.dflt).2.1) = false → 0 ≤ y1) ∧ ((y1 == 0 && (y0.getD y1.toNat T2.dflt).1 != (0 : Int)) = false → decide (y1 > 0) = true → ((y0.getD y1.toNat T2.dflt).1 != (y0.getD (qa .i64 (y1 - 1)).toNat T2.dflt).2.1) = false → y1 < y0.length) ∧ ((y1 == 0 && (y0.getD y1.toNat T2.dflt).1 != (0 : Int)) = false → decide (y1 > 0) = true → ((y0.getD y1.toNat T2.dflt).1 != (y0.getD (qa .i64 (y1 - 1)).toNat T2.dflt).2.1) = false → (0 : Int) ≤ qa .i64 (y1 - 1)) ∧ ((y1 == 0 && (y0.getD y1.toNat T2.dflt).1 != (0 : Int)) = false → decide (y1 > 0) = true → ((y0.getD y1.toNat T2.dflt).1 != (y0.getD (qa .i64 (y1 - 1)).toNat T2.dflt).2.1) = false → qa .i64 (y1 - 1) < (↑y0.length : Int)) then
 bif (y1 == 0 && (y0.getD y1.toNat T2.dflt).1 != (0 : Int) || decide (y1 > 0) && ((y0.getD y1.toNat T2.dflt).1 != (y0.getD (qa .i64 (y1 - 1)).toNat T2.dflt).2.1 || decide ((y0.getD y1.toNat T2.dflt).2.2.2.2 < (y0.getD (qa .i64 (y1 - 1)).toNat T2.dflt).2.2.2.2))) then
 some 9
 else
 Xd k j y0 (qa .i64 (y1 + 1))
 else none
 else
 some 0
end
def qfq (k : Nat) (a : List T2.T) : Option Int :=
 bif (↑a.length : Int) > (512 : Int) then
 some 8
 else
 Yr k k a 0
def qcK := fun k a => (qfq k a).getD 0
def qtt (k : Nat) : Ke := (38, mo 1, fun
 | [.r (.ro d b)], [] => (qE d T2 b).bind fun a => some (.one (ri (qcK k a), []))
 | _, _ => none)
def qE2 : List (Nat × List Cmd) := [(4, [.autoB [0, 3] false []]), (16, [.autoB [0, 5] false []])]
abbrev qID := EP Tryz.f38 0 ri nb
theorem qFb (k) : ∀ j, (∀ {y0 y1}, qID 4 (qG5 y0 y1) (Yr k j y0 y1)) ∧ (∀ {y0 y1}, qID 16 (qCq y0 y1) (Xd k j y0 y1))
 | 0 => by and_intros <;> intros <;> exact e0
 | j + 1 => by
  have ih := @qFb k j
  have g := @go (qD []) [] qE2 [.autoB [2] true []]
  refine ⟨?_, ?_⟩
  ·intro y0 y1 r h
   rw [Yr] at h
   exact g (gS h (fun h => qS h fun h => qB h fun h => qB h fun h => qB h fun h => qB h fun h => gD h 4 ih.1) fun h => gD h 16 ih.2)
  ·intro y0 y1 r h
   rw [Xd] at h
   exact g (gS h (fun h => gN h (fun q => qf q.1 (qf q.2.1 (qf q.2.2.1 (qf q.2.2.2.1 (qf q.2.2.2.2.1 (qf q.2.2.2.2.2.1 (qf q.2.2.2.2.2.2.1 (qf q.2.2.2.2.2.2.2.1 (qf q.2.2.2.2.2.2.2.2.1 (qf q.2.2.2.2.2.2.2.2.2 qR)))))))))) fun h => qB h fun h => gD h 16 ih.2) fun h => gL h)
theorem qPl (k a r) (h : qfq k a = some r): qJj a r := qN Tryz.f38 (go (qD []) [] qE2 [.autoB [2] true []] (qB h fun h => gD h 4 (qFb k k).1))
theorem qCE {k a} (h : (qfq k a).isSome): qJj a (qcK k a) := qJ h (qPl k a)
end
end Go.AM
namespace Go.AM
open Go Go.Proofs
noncomputable section
abbrev qez : Type := List T21.T × List T21.T
def qln (r : qez) : AV := .tup []
def qoi (a : List I.T) (b : Int) (d : List T21.T) (e : List T21.T) (f : List T2.T) (r : qez) : List (Nat × Blk) := [(0, .loop .ready none (qf2 Tryz.f81 11 [91]) (qI 66 [(4, .ptr 1 0 0), (5, .ptr 2 0 0), (11, .ptr 3 0 0), (12, .ptr 5 0 0)])), (0, .var 25 [ro I a]), (0, .var 3 [ri b]), (0, .var 92 [.own 4 1]), (1, .row 91 T21 r.1), (0, .var 92 [.own 6 1]), (1, .row 91 T21 r.2), (0, .var 24 [ro T2 f])]
abbrev qCT (a : List I.T) (b : Int) (d : List T21.T) (e : List T21.T) (f : List T2.T) (r : qez) : Prop := CC Tryz.prog 172 [.own 0 0, .ptr 7 0 0] [.loop .ready none (qf2 Tryz.f81 11 [91]) (qI 66 [(4, .ptr 1 0 0), (5, .ptr 2 0 0), (11, .ptr 3 0 0), (12, .ptr 5 0 0)]), .var 25 [ro I a], .var 3 [ri b], .var 92 [.own 4 0], .row 91 T21 d, .var 92 [.own 6 0], .row 91 T21 e, .var 24 [ro T2 f]] (qln r) (qoi a b d e f r)
def qAm := fun a b (d : List T21.T) (e : List T21.T) f y0 y1 y2 => (⟨qI 61 [(0, .own 0 0), (1, .ptr 7 0 0), (3, ri y0)], [(0, 0, .loop .ready none (qf2 Tryz.f81 11 [91]) (qI 66 [(4, .ptr 1 0 0), (5, .ptr 2 0 0), (11, .ptr 3 0 0), (12, .ptr 5 0 0)])), (1, 0, .var 25 [ro I a]), (2, 0, .var 3 [ri b]), (3, 0, .var 92 [.own 4 1]), (4, 1, .row 91 T21 y1), (5, 0, .var 92 [.own 6 1]), (6, 1, .row 91 T21 y2), (7, 0, .var 24 [ro T2 f])]⟩ : St)
def qz0 := fun a b (d : List T21.T) (e : List T21.T) f y0 y1 y2 y3 => (⟨qI 61 [(0, .own 0 0), (1, .ptr 7 0 0), (3, ri y0), (4, ri y1)], [(0, 0, .loop .ready none (qf2 Tryz.f81 11 [91]) (qI 66 [(4, .ptr 1 0 0), (5, .ptr 2 0 0), (11, .ptr 3 0 0), (12, .ptr 5 0 0)])), (1, 0, .var 25 [ro I a]), (2, 0, .var 3 [ri b]), (3, 0, .var 92 [.own 4 1]), (4, 1, .row 91 T21 y2), (5, 0, .var 92 [.own 6 1]), (6, 1, .row 91 T21 y3), (7, 0, .var 24 [ro T2 f])]⟩ : St)
mutual
def qbG (k : Nat) (a : List I.T) (b : Int) (d : List T21.T) (e : List T21.T) (f : List T2.T) : Nat → Int → List T21.T → List T21.T → Option qez
 | 0, _, _, _ => none
 | j + 1, y0, y1, y2 =>
 bif y0 < f.length then
 if (0 ≤ y0) ∧ (y0 < f.length) then
 bif ((f.getD y0.toNat T2.dflt).2.2.1 == (3 : Int)) then
 qbG k a b d e f j (qa .i64 (y0 + 1)) y1 y2
 else
 qfr k a b d e f j y0 y0 y1 y2
 else none
 else
 some (y1, y2)
def qfr (k : Nat) (a : List I.T) (b : Int) (d : List T21.T) (e : List T21.T) (f : List T2.T) : Nat → Int → Int → List T21.T → List T21.T → Option qez
 | 0, _, _, _, _ => none
 | j + 1, y0, y1, y2, y3 =>
 if (decide (y1 < f.length) = true → 0 ≤ y1) ∧ (decide (y1 < f.length) = true → y1 < f.length) ∧ ((decide (y1 < f.length) && (f.getD y1.toNat T2.dflt).2.2.1 != (3 : Int)) = true → 0 ≤ y1) ∧ ((decide (y1 < f.length) && (f.getD y1.toNat T2.dflt).2.2.1 != (3 : Int)) = true → y1 < f.length) ∧ ((decide (y1 < f.length) && (f.getD y1.toNat T2.dflt).2.2.1 != (3 : Int)) = true → 0 ≤ y0) ∧ ((decide (y1 < f.length) && (f.getD y1.toNat T2.dflt).2.2.1 != (3 : Int)) = true → y0 < f.length) then
 bif (decide (y1 < f.length) && (f.getD y1.toNat T2.dflt).2.2.1 != (3 : Int) && (f.getD y1.toNat T2.dflt).2.2.2.2 == (f.getD y0.toNat T2.dflt).2.2.2.2) then
 qfr k a b d e f j y0 (qa .i64 (y1 + 1)) y2 y3
 else
 if (0 ≤ y0) ∧ (y0 < f.length) ∧ ((0 : Int) ≤ qa .i64 (y1 - 1)) ∧ (qa .i64 (y1 - 1) < (↑f.length : Int)) ∧ ((qtR k a b y2 y3 ((f.getD y0.toNat T2.dflt).1, (f.getD (qa .i64 (y1 - 1)).toNat T2.dflt).2.1)).isSome) then
 qbG k a b d e f j y1 ((qll k a b y2 y3 ((f.getD y0.toNat T2.dflt).1, (f.getD (qa .i64 (y1 - 1)).toNat T2.dflt).2.1)).1) ((qll k a b y2 y3 ((f.getD y0.toNat T2.dflt).1, (f.getD (qa .i64 (y1 - 1)).toNat T2.dflt).2.1)).2)
 else none
 else none
end
def qmu (k : Nat) (a : List I.T) (b : Int) (d : List T21.T) (e : List T21.T) (f : List T2.T) : Option qez :=
 qbG k a b d e f k 0 d e
def qiT := fun k a b d e f => (qmu k a b d e f).getD ([], [])
def qM4 (k : Nat) : Ke := (172, fun
 | [.own _ _, .ptr _ _ _] => some [true, true]
 | _ => none, fun
 | [.own 0 0, .ptr 7 0 0], [.loop _ _ _ i, .var 25 [.r (.ro tyield_40_ qyield_40)], .var 3 [.r (.v (.int .i64 b))], .var 92 [.own 4 0], .row 91 tyield_110_ qyield_110, .var 92 [.own 6 0], .row 91 tyield_120_ qyield_120, .var 24 [.r (.ro tz00_ qz00)]] => (qE tyield_40_ I qyield_40).bind fun a => (qE tyield_110_ T21 qyield_110).bind fun d => (qE tyield_120_ T21 qyield_120).bind fun e => (qE tz00_ T2 qz00).bind fun f => some (.one (qln (qiT k a b d e f), qoi a b d e f (qiT k a b d e f)))
 | _, _ => none)
def qvU : List (Nat × List Cmd) := [(1, [.autoB [0, 1, 3] false [4, 6]]), (5, [.autoB [0, 1, 3, 4] false [4, 6]])]
abbrev qAf := fun a b d e f => EP Tryz.f172 8 qln (qoi a b d e f)
theorem qwi (k a b d e f) : ∀ j, (∀ {y0 y1 y2}, qAf a b d e f 1 (qAm a b d e f y0 y1 y2) (qbG k a b d e f j y0 y1 y2)) ∧ (∀ {y0 y1 y2 y3}, qAf a b d e f 5 (qz0 a b d e f y0 y1 y2 y3) (qfr k a b d e f j y0 y1 y2 y3))
 | 0 => by and_intros <;> intros <;> exact e0
 | j + 1 => by
  have ih := @qwi k a b d e f j
  have g := @go (qD [qHd k]) [] qvU [.autoB [] true [4, 6]]
  refine ⟨?_, ?_⟩
  ·intro y0 y1 y2 r h
   rw [qbG] at h
   exact g (gS h (fun h => qS h fun h => gS h (fun h => gD h 1 ih.1) fun h => gD h 5 ih.2) fun h => gL h)
  ·intro y0 y1 y2 y3 r h
   rw [qfr] at h
   exact g (gN h (fun q => qf q.1 (qf q.2.1 (qf q.2.2.1 (qf q.2.2.2.1 (qf q.2.2.2.2.1 (qf q.2.2.2.2.2 qR)))))) fun h => gS h (fun h => gD h 5 ih.2) fun h => gN h (fun q => qf q.1 (qf q.2.1 (qf q.2.2.1 (qf q.2.2.2.1 (qf (qSC q.2.2.2.2) qR))))) fun h => gU2 h (.leaf (.tup []) [(0, .loop .ready none (qf2 Tryz.f81 11 [91]) (qI 66 [(4, .ptr 1 0 0), (5, .ptr 2 0 0), (11, .ptr 3 0 0), (12, .ptr 5 0 0)])), (0, .var 25 [.r (.ro I a)]), (0, .var 3 [.r (.v (.int .i64 b))]), (0, .var 92 [.own 4 1]), (1, .row 91 T21 ((qll k a b y2 y3 ((f.getD y0.toNat T2.dflt).1, (f.getD (qa .i64 (y1 - 1)).toNat T2.dflt).2.1)).1)), (0, .var 92 [.own 6 1]), (1, .row 91 T21 ((qll k a b y2 y3 ((f.getD y0.toNat T2.dflt).1, (f.getD (qa .i64 (y1 - 1)).toNat T2.dflt).2.1)).2)), (0, .var 24 [.r (.ro T2 f)])]) fun h => gD h 1 ih.1)
theorem qMa (k a b d e f r) (h : qmu k a b d e f = some r): qCT a b d e f r := qN Tryz.f172 (go (qD [qHd k]) [] qvU [.autoB [] true [4, 6]] (gD h 1 (qwi k a b d e f k).1))
theorem qKU {k a b d e f} (h : (qmu k a b d e f).isSome): qCT a b d e f (qiT k a b d e f) := qJ h (qMa k a b d e f)
abbrev qEx (a : T2.T) (r : Int) : Prop := CC Tryz.prog 123 [.agg (qy (qr T2 a))] [] (ri r) (nb r)
def qd6 (k : Nat) (a : T2.T) : Option Int :=
 bif (decide (a.1 < (0 : Int)) || decide (a.1 ≥ a.2.1) || decide (a.2.1 > (17179869184 : Int))) then
 some 1
 else
 bif (decide (a.2.2.1 < (1 : Int)) || decide (a.2.2.1 > (3 : Int))) then
 some 17
 else
 bif (decide (a.2.2.2.1 < (-1 : Int)) || decide (a.2.2.2.1 ≥ (16 : Int))) then
 some 22
 else
 bif (decide (a.2.2.2.2 < (0 : Int)) || decide (a.2.2.2.2 > (2048 : Int))) then
 some 1
 else
 some 0
def qfi := fun k a => (qd6 k a).getD 0
def qxk (k : Nat) : Ke := (123, mo 1, fun
 | [.agg b], [] => (qW [] T2 b).bind fun a => some (.one (ri (qfi k a), []))
 | _, _ => none)
theorem qKA (k a r) (h : qd6 k a = some r): qEx a r := qN Tryz.f123 (go (qD []) [] [] [.autoB [2] true []] (qB h fun h => qB h fun h => qB h fun h => qB h fun h => gL h))
theorem qMA {k a} (h : (qd6 k a).isSome): qEx a (qfi k a) := qJ h (qKA k a)
abbrev qzv (a : List T2.T) (r : Int) : Prop := CC Tryz.prog 79 [ro T2 a] [] (ri r) (nb r)
def qDZ := fun y0 y1 y2 y3 => (⟨qI 46 [(0, ro T2 y0), (13, ro T2 y1), (14, ri y2), (15, ri y3)], []⟩ : St)
def qx6 := fun y0 y1 y2 y3 y4 => (⟨qI 46 [(6, ri y0), (7, ri y1), (25, ro T2 y2), (26, ri y3), (27, ri y4)], []⟩ : St)
mutual
def VQ (k : Nat) : Nat → List T2.T → List T2.T → Int → Int → Option Int
 | 0, _, _, _, _ => none
 | j + 1, y0, y1, y2, y3 =>
 bif y3 < y2 then
 if (0 ≤ y3) ∧ (y3 < y1.length) then
 if ((qd6 k (y1.getD y3.toNat T2.dflt)).isSome) then
 bif (qfi k (y1.getD y3.toNat T2.dflt) != (0 : Int)) then
 some (qfi k (y1.getD y3.toNat T2.dflt))
 else
 VQ k j y0 y1 y2 (qa .i64 (y3 + 1))
 else none
 else none
 else
 Zv k j 0 0 y0 (↑y0.length : Int) 0
def Zv (k : Nat) : Nat → Int → Int → List T2.T → Int → Int → Option Int
 | 0, _, _, _, _, _ => none
 | j + 1, y0, y1, y2, y3, y4 =>
 bif y4 < y3 then
 if (0 ≤ y4) ∧ (y4 < y2.length) then
 bif ((y2.getD y4.toNat T2.dflt).1 != y0 || decide ((y2.getD y4.toNat T2.dflt).2.2.2.2 < y1)) then
 some 9
 else
 Zv k j ((y2.getD y4.toNat T2.dflt).2.1) ((y2.getD y4.toNat T2.dflt).2.2.2.2) y2 y3 (qa .i64 (y4 + 1))
 else none
 else
 some 0
end
def Xw (k : Nat) (a : List T2.T) : Option Int :=
 bif (↑a.length : Int) > (512 : Int) then
 some 8
 else
 VQ k k a a (↑a.length : Int) 0
def QL := fun k a => (Xw k a).getD 0
def qfk (k : Nat) : Ke := (79, mo 1, fun
 | [.r (.ro d b)], [] => (qE d T2 b).bind fun a => some (.one (ri (QL k a), []))
 | _, _ => none)
def qvV : List (Nat × List Cmd) := [(4, [.autoB [0, 13, 14, 15] false []]), (12, [.autoB [6, 7, 25, 26, 27] false []])]
abbrev qFc := EP Tryz.f79 0 ri nb
theorem qvl (k) : ∀ j, (∀ {y0 y1 y2 y3}, qFc 4 (qDZ y0 y1 y2 y3) (VQ k j y0 y1 y2 y3)) ∧ (∀ {y0 y1 y2 y3 y4}, qFc 12 (qx6 y0 y1 y2 y3 y4) (Zv k j y0 y1 y2 y3 y4))
 | 0 => by and_intros <;> intros <;> exact e0
 | j + 1 => by
  have ih := @qvl k j
  have g := @go (qD [qxk k]) [] qvV [.autoB [2] true []]
  refine ⟨?_, ?_⟩
  ·intro y0 y1 y2 y3 r h
   rw [VQ] at h
   exact g (gS h (fun h => qS h fun h => qu h qMA fun h => qB h fun h => gD h 4 ih.1) fun h => gD h 12 ih.2)
  ·intro y0 y1 y2 y3 y4 r h
   rw [Zv] at h
   exact g (gS h (fun h => qS h fun h => qB h fun h => gD h 12 ih.2) fun h => gL h)
theorem qM8 (k a r) (h : Xw k a = some r): qzv a r := qN Tryz.f79 (go (qD [qxk k]) [] qvV [.autoB [2] true []] (qB h fun h => gD h 4 (qvl k k).1))
theorem qj6 {k a} (h : (Xw k a).isSome): qzv a (QL k a) := qJ h (qM8 k a)
abbrev qlY : Type := List T2.T × Int
def qle (r : qlY) : AV := .tup [ro T2 r.1, ri r.2]
abbrev qCX (a : List T2.T) (b : T21.T) (r : qlY) : Prop := CC Tryz.prog 80 [ro T2 a, .agg (qy (qr T21 b))] [] (qle r) (nb r)
def qxW := fun y0 y1 y2 y3 y4 => (⟨qI 77 [(3, .ptr 1000000 0 0), (8, .own 1000001 0), (42, ro T2 y0), (43, ri y1), (44, ri y2)], [(1000000, 0, .var 91 (qy (qr T21 y3))), (1000001, 0, .row 87 T2 y4)]⟩ : St)
def QG (k : Nat) : Nat → List T2.T → Int → Int → T21.T → List T2.T → Option qlY
 | 0, _, _, _, _, _ => none
 | j + 1, y0, y1, y2, y3, y4 =>
 bif y2 < y1 then
 if (0 ≤ y2) ∧ (y2 < y0.length) then
 bif qa .i64 ((if y3.1 > (y0.getD y2.toNat T2.dflt).1 then y3.1 else (y0.getD y2.toNat T2.dflt).1) - y3.1) < qa .i64 ((if y3.2 < (y0.getD y2.toNat T2.dflt).2.1 then y3.2 else (y0.getD y2.toNat T2.dflt).2.1) - y3.1) then
 if ((y4.length + [(qa .i64 ((if y3.1 > (y0.getD y2.toNat T2.dflt).1 then y3.1 else (y0.getD y2.toNat T2.dflt).1) - y3.1), qa .i64 ((if y3.2 < (y0.getD y2.toNat T2.dflt).2.1 then y3.2 else (y0.getD y2.toNat T2.dflt).2.1) - y3.1), (y0.getD y2.toNat T2.dflt).2.2)].length) * (40 : Nat) ≤ (140737488355328 : Nat)) then
 QG k j y0 y1 (qa .i64 (y2 + 1)) y3 (y4 ++ [(qa .i64 ((if y3.1 > (y0.getD y2.toNat T2.dflt).1 then y3.1 else (y0.getD y2.toNat T2.dflt).1) - y3.1), qa .i64 ((if y3.2 < (y0.getD y2.toNat T2.dflt).2.1 then y3.2 else (y0.getD y2.toNat T2.dflt).2.1) - y3.1), (y0.getD y2.toNat T2.dflt).2.2)])
 else none
 else
 QG k j y0 y1 (qa .i64 (y2 + 1)) y3 y4
 else none
 else
 some (y4, 0)
def qau (k : Nat) (a : List T2.T) (b : T21.T) : Option qlY :=
 if ((Xw k a).isSome) then
 bif (QL k a != (0 : Int)) then
 some ([], QL k a)
 else
 bif (↑a.length : Int) > (0 : Int) then
 if ((0 : Int) ≤ qa .i64 ((↑a.length : Int) - (1 : Int))) ∧ (qa .i64 ((↑a.length : Int) - (1 : Int)) < (↑a.length : Int)) then
 bif (decide (b.1 < (0 : Int)) || decide (b.1 > b.2) || decide (b.2 > (a.getD (qa .i64 ((↑a.length : Int) - (1 : Int))).toNat T2.dflt).2.1)) then
 some ([], 1)
 else
 QG k k a (↑a.length : Int) 0 b ([])
 else none
 else
 bif (decide (b.1 < (0 : Int)) || decide (b.1 > b.2) || decide (b.2 > (0 : Int))) then
 some ([], 1)
 else
 QG k k a (↑a.length : Int) 0 b ([])
 else none
def wX := fun k a b => (qau k a b).getD ([], 0)
def qn7 (k : Nat) : Ke := (80, mo 2, fun
 | [.r (.ro f d), .agg e], [] => (qE f T2 d).bind fun a => (qW [] T21 e).bind fun b => some (.one (qle (wX k a b), []))
 | _, _ => none)
def qv9 : List (Nat × List Cmd) := [(11, [.row 8 87 T2, .autoB [3, 8, 42, 43, 44] false []])]
abbrev qP2 := EP Tryz.f80 0 qle nb
theorem qor (k) : ∀ j, (∀ y0 y1 y2 y3 y4, qP2 11 (qxW y0 y1 y2 y3 y4) (QG k j y0 y1 y2 y3 y4))
 | 0 => by intros; exact e0
 | j + 1 => by
  have ih := @qor k j
  ·intro y0 y1 y2 y3 y4 r h
   rw [QG] at h
   exact go (qD [qfk k]) [] qv9 [.frz 4 false (RTy.list T2), .autoB [4, 5] true []] (gS h (fun h => qS h fun h => gS h (fun h => qu h id fun h => gC h 11 (ih _ _ _ _ _ _)) fun h => gC h 11 (ih _ _ _ _ _ _)) fun h => gL h)
theorem qMq (k a b r) (h : qau k a b = some r): qCX a b r := qN Tryz.f80 (go (qD [qfk k]) [] qv9 [.frz 4 false (RTy.list T2), .autoB [4, 5] true []] (qu h qj6 fun h => qB h fun h => gS h (fun h => qS h fun h => qB h fun h => gC h 11 ((qor k k) _ _ _ _ _ _)) fun h => qB h fun h => gC h 11 ((qor k k) _ _ _ _ _ _)))
theorem qnD {k a b} (h : (qau k a b).isSome): qCX a b (wX k a b) := qJ h (qMq k a b)
abbrev qDn (a : List T2.T) (r : Int) : Prop := CC Tryz.prog 83 [ro T2 a] [] (ri r) (nb r)
def qeu (k : Nat) (a : List T2.T) : Option Int :=
 bif ((↑a.length : Int) == (0 : Int)) then
 some 0
 else
 if ((0 : Int) ≤ qa .i64 ((↑a.length : Int) - (1 : Int))) ∧ (qa .i64 ((↑a.length : Int) - (1 : Int)) < (↑a.length : Int)) then
 some ((a.getD (qa .i64 ((↑a.length : Int) - 1)).toNat T2.dflt).2.1)
 else none
def qhg := fun k a => (qeu k a).getD 0
def qwR (k : Nat) : Ke := (83, mo 1, fun
 | [.r (.ro d b)], [] => (qE d T2 b).bind fun a => some (.one (ri (qhg k a), []))
 | _, _ => none)
theorem qMr (k a r) (h : qeu k a = some r): qDn a r := qN Tryz.f83 (go (qD []) [] [] [.autoB [2] true []] (qB h fun h => qS h fun h => gL h))
theorem qK8 {k a} (h : (qeu k a).isSome): qDn a (qhg k a) := qJ h (qMr k a)
abbrev qmZ : Type := List T2.T × Int
def qlw (r : qmZ) : AV := .tup [ro T2 r.1, ri r.2]
abbrev qDt (a : List T2.T) (b : T21.T) (r : qmZ) : Prop := CC Tryz.prog 39 [ro T2 a, .agg (qy (qr T21 b))] [] (qlw r) (nb r)
def qA5 := fun y0 y1 y2 y3 => (⟨qI 75 [(0, ro T2 y0), (3, .ptr 1000000 0 0), (7, .own 1000001 0), (8, ri y1)], [(1000000, 0, .var 91 (qy (qr T21 y2))), (1000001, 0, .row 87 T2 y3)]⟩ : St)
def ZG (k : Nat) : Nat → List T2.T → Int → T21.T → List T2.T → Option qmZ
 | 0, _, _, _, _ => none
 | j + 1, y0, y1, y2, y3 =>
 bif y1 < y0.length then
 if (0 ≤ y1) ∧ (y1 < y0.length) then
 bif qa .i64 ((if y2.1 > (y0.getD y1.toNat T2.dflt).1 then y2.1 else (y0.getD y1.toNat T2.dflt).1) - y2.1) < qa .i64 ((if y2.2 < (y0.getD y1.toNat T2.dflt).2.1 then y2.2 else (y0.getD y1.toNat T2.dflt).2.1) - y2.1) then
 if ((y3.length + [(qa .i64 ((if y2.1 > (y0.getD y1.toNat T2.dflt).1 then y2.1 else (y0.getD y1.toNat T2.dflt).1) - y2.1), qa .i64 ((if y2.2 < (y0.getD y1.toNat T2.dflt).2.1 then y2.2 else (y0.getD y1.toNat T2.dflt).2.1) - y2.1), (y0.getD y1.toNat T2.dflt).2.2)].length) * (40 : Nat) ≤ (140737488355328 : Nat)) then
 ZG k j y0 (qa .i64 (y1 + 1)) y2 (y3 ++ [(qa .i64 ((if y2.1 > (y0.getD y1.toNat T2.dflt).1 then y2.1 else (y0.getD y1.toNat T2.dflt).1) - y2.1), qa .i64 ((if y2.2 < (y0.getD y1.toNat T2.dflt).2.1 then y2.2 else (y0.getD y1.toNat T2.dflt).2.1) - y2.1), (y0.getD y1.toNat T2.dflt).2.2)])
 else none
 else
 ZG k j y0 (qa .i64 (y1 + 1)) y2 y3
 else none
 else
 some (y3, 0)
def qek (k : Nat) (a : List T2.T) (b : T21.T) : Option qmZ :=
 if ((qfq k a).isSome) then
 bif (qcK k a != (0 : Int)) then
 some ([], qcK k a)
 else
 bif (decide (b.1 < (0 : Int)) || decide (b.1 > b.2) || decide (b.2 > (17179869184 : Int))) then
 if ((decide (b.1 < (0 : Int)) || decide (b.1 > b.2) || decide (b.2 > (17179869184 : Int))) = true) then
 some ([], 1)
 else none
 else
 if ((decide (b.1 < (0 : Int)) || decide (b.1 > b.2) || decide (b.2 > (17179869184 : Int))) = false) ∧ ((qeu k a).isSome) then
 bif (false || decide (b.2 > qhg k a)) then
 some ([], 1)
 else
 ZG k k a 0 b ([])
 else none
 else none
def VD := fun k a b => (qek k a b).getD ([], 0)
def qu0 (k : Nat) : Ke := (39, mo 2, fun
 | [.r (.ro f d), .agg e], [] => (qE f T2 d).bind fun a => (qW [] T21 e).bind fun b => some (.one (qlw (VD k a b), []))
 | _, _ => none)
def qvi : List (Nat × List Cmd) := [(8, [.row 7 87 T2, .autoB [0, 3, 7, 8] false []])]
abbrev qPI := EE Tryz.f39 0 qlw nb
theorem qwX (k) : ∀ j, (∀ y0 y1 y2 y3, qPI (Qc Tryz.f39 8) (qA5 y0 y1 y2 y3) (ZG k j y0 y1 y2 y3))
 | 0 => by intros; exact e0
 | j + 1 => by
  have ih := @qwX k j
  ·intro y0 y1 y2 y3 r h
   rw [ZG] at h
   exact go (qD [qtt k, qwR k]) [] qvi [.frz 4 false (RTy.list T2), .autoB [4, 5] true []] (gS h (fun h => qS h fun h => gS h (fun h => qu h id fun h => gC h 8 (ih _ _ _ _ _)) fun h => gC h 8 (ih _ _ _ _ _)) fun h => gL h)
theorem qJ3 (k a b r) (h : qek k a b = some r): qDt a b r := qN Tryz.f39 (go (qD [qtt k, qwR k]) [] qvi [.frz 4 false (RTy.list T2), .autoB [4, 5] true []] (qu h qCE fun h => qB h fun h => gS h (fun h => qu h id fun h => gU1 h (.cut 8 (Qc Tryz.f39 8) ⟨qI 75 [(0, .r (.ro T2 a)), (3, .ptr 1000000 0 0), (7, .own 1000001 0), (8, .r (.v (.int .i64 0)))], [(1000000, 0, .var 91 (qy (qr T21 b))), (1000001, 0, .row 87 T2 ([]))]⟩) fun h => gL h) fun h => gN h (fun q => qf q.1 (qf (qK8 q.2) qR)) fun h => qB h fun h => gC h 8 ((qwX k k) _ _ _ _ _)))
theorem qLd {k a b} (h : (qek k a b).isSome): qDt a b (VD k a b) := qJ h (qJ3 k a b)
end
abbrev wE := Int × Int × Int × Int × Int   -- From, To, Kind, Grade, Phase
def Qd (s : wE) : Int :=
 bif (decide (s.1 < (0 : Int)) || decide (s.1 ≥ s.2.1) || decide (s.2.1 > (17179869184 : Int))) then 1
 else bif (decide (s.2.2.1 < (1 : Int)) || decide (s.2.2.1 > (3 : Int))) then 17
 else bif (decide (s.2.2.2.1 < (-1 : Int)) || decide (s.2.2.2.1 ≥ (16 : Int))) then 22
 else bif (decide (s.2.2.2.2 < (0 : Int)) || decide (s.2.2.2.2 > (2048 : Int))) then 1 else 0
def W9 : List wE → Int
 | [] => 0
 | x :: t => bif Qd x != 0 then Qd x else W9 t
def Zz (e p : Int) : List wE → Int
 | [] => 0
 | x :: t => bif (x.1 != e || decide (x.2.2.2.2 < p)) then 9 else Zz x.2.1 x.2.2.2.2 t
def vw (l : List wE) : Int := if l.length > 512 then 8 else if W9 l ≠ 0 then W9 l else Zz 0 0 l
theorem qlX (k : Nat) (s : wE) : qd6 k s = some (Qd s) := by
 unfold qd6 Qd
 cases (decide (s.1 < (0 : Int)) || decide (s.1 ≥ s.2.1) || decide (s.2.1 > (17179869184 : Int)))
 ·cases (decide (s.2.2.1 < (1 : Int)) || decide (s.2.2.1 > (3 : Int)))
  ·cases (decide (s.2.2.2.1 < (-1 : Int)) || decide (s.2.2.2.1 ≥ (16 : Int)))
   ·cases (decide (s.2.2.2.2 < (0 : Int)) || decide (s.2.2.2.2 > (2048 : Int))) <;> rfl
   ·rfl
  ·rfl
 ·rfl
theorem qyz (k : Nat) (s : wE) : qfi k s = Qd s := by unfold qfi; rw [qlX]; rfl
structure SecOk (s : wE) : Prop where
 f : 0 ≤ s.1
 ft : s.1 < s.2.1
 t : s.2.1 ≤ 17179869184
 p : 0 ≤ s.2.2.2.2
theorem qkf {s : wE} (h : Qd s = 0) : SecOk s := by
 unfold Qd at h
 cases h1 : (decide (s.1 < (0 : Int)) || decide (s.1 ≥ s.2.1) || decide (s.2.1 > (17179869184 : Int)))
 ·rw [h1, qg] at h
  cases h2 : (decide (s.2.2.1 < (1 : Int)) || decide (s.2.2.1 > (3 : Int)))
  ·rw [h2, qg] at h
   cases h3 : (decide (s.2.2.2.1 < (-1 : Int)) || decide (s.2.2.2.1 ≥ (16 : Int)))
   ·rw [h3, qg] at h
    cases h4 : (decide (s.2.2.2.2 < (0 : Int)) || decide (s.2.2.2.2 > (2048 : Int)))
    ·simp only [WN, decide_eq_false_iff_not] at h1 h4
     exact ⟨by omega, by omega, by omega, by omega⟩
    ·rw [h4] at h; cases h
   ·rw [h3] at h; cases h
  ·rw [h2] at h; cases h
 ·rw [h1] at h; cases h
theorem ql4 : ∀ {l : List wE}, W9 l = 0 → ∀ x ∈ l, SecOk x
 | [], _, x, hx => by simp at hx
 | y :: t, h, x, hx => by
  unfold W9 at h
  by_cases h1 : Qd y = 0
  ·rw [show (Qd y != 0) = false by simp [h1], qg] at h
   rcases qK.1 hx with e | hx'
   ·rw [e]; exact qkf h1
   ·exact ql4 h x hx'
  ·rw [bne_iff_ne.2 h1, qi] at h; exact absurd h h1
theorem qMg (k : Nat) (l : List wE) (hl : l.length ≤ 512) : ∀ (d i j : Nat) (e p : Int), i + d = l.length → d < j → Zv k j e p l (l.length : Int) (i : Int) = some (Zz e p (l.drop i)) := by
 intro d
 induction d with
 | zero =>
  intro i j e p hi hj
  obtain ⟨j, rfl⟩ := qQ (by omega : 0 < j)
  rw [Zv, qx (by omega : ¬ (i : Int) < (l.length : Int)), qg, qh (by omega)]; rfl
 | succ d ih =>
  intro i j e p hi hj
  obtain ⟨j, rfl⟩ := qQ (by omega : 0 < j)
  rw [Zv, qA (by omega : (i : Int) < (l.length : Int)), qi, qd ⟨by omega, by omega⟩, qc, qF i (by omega), qq l i T2.dflt (by omega), Zz, ih (i + 1) j _ _ (by omega) (by omega)]
  cases ((l.getD i T2.dflt).1 != e || decide ((l.getD i T2.dflt).2.2.2.2 < p)) <;> rfl
theorem qNj (k : Nat) (l : List wE) (hl : l.length ≤ 512) : ∀ (d i j : Nat), i + d = l.length → d + 600 < j → VQ k j l l (l.length : Int) (i : Int) = some (if W9 (l.drop i) ≠ 0 then W9 (l.drop i) else Zz 0 0 l) := by
 intro d
 induction d with
 | zero =>
  intro i j hi hj
  obtain ⟨j, rfl⟩ := qQ (by omega : 0 < j)
  rw [VQ, qx (by omega : ¬ (i : Int) < (l.length : Int)), qg, qh (by omega), W9, qm (fun h => h rfl)]
  exact qMg k l hl l.length 0 j 0 0 (by omega) (by omega)
 | succ d ih =>
  intro i j hi hj
  obtain ⟨j, rfl⟩ := qQ (by omega : 0 < j)
  rw [VQ, qA (by omega : (i : Int) < (l.length : Int)), qi, qd ⟨by omega, by omega⟩, qc, qlX, qyz, qb, qd rfl, qF i (by omega), qq l i T2.dflt (by omega), W9, ih (i + 1) j (by omega) (by omega)]
  by_cases h : Qd (l.getD i T2.dflt) = 0
  ·rw [show (Qd (l.getD i T2.dflt) != 0) = false by rw [h]; rfl, qg, qg]
  ·rw [bne_iff_ne.2 h, qi, qi, qd h]
theorem qbS (k : Nat) (hk : 1200 ≤ k) (l : List wE) : Xw k l = some (vw l) := by
 unfold Xw vw
 by_cases h : l.length > 512
 ·rw [qd h, qA (by omega : (l.length : Int) > 512)]; rfl
 ·rw [qm h, qx (by omega : ¬ (l.length : Int) > 512), qg]
  exact qNj k l (by omega) l.length 0 k (by omega) (by omega)
theorem qhG (k : Nat) (hk : 1200 ≤ k) (l : List wE) : QL k l = vw l := by
 unfold QL; rw [qbS k hk]; rfl
def qpf (l : List wE) (i : Nat) : Int := if i = 0 then 0 else (l.getD (i - 1) T2.dflt).2.1
def qnK (l : List wE) (i : Nat) : Int := if i = 0 then 0 else (l.getD (i - 1) T2.dflt).2.2.2.2
theorem qGd (k : Nat) (l : List wE) (hl : l.length ≤ 512) (ho : ∀ x ∈ l, SecOk x) : ∀ (d i j : Nat), i + d = l.length → d < j → Xd k j l (i : Int) = some (Zz (qpf l i) (qnK l i) (l.drop i)) := by
 intro d
 induction d with
 | zero =>
  intro i j hi hj
  obtain ⟨j, rfl⟩ := qQ (by omega : 0 < j)
  rw [Xd, qx (by omega : ¬ (i : Int) < (l.length : Int)), qg, qh (by omega)]; rfl
 | succ d ih =>
  intro i j hi hj
  obtain ⟨j, rfl⟩ := qQ (by omega : 0 < j)
  have h3 : (0 : Int) ≤ (i : Int) := by omega
  have h4 : (i : Int) < (l.length : Int) := by omega
  have hx := (ho (l.getD i T2.dflt) (Vh _ _ _ (by omega))).p
  have hw : (i : Int) > 0 → qa .i64 ((i : Int) - 1) = ((i - 1 : Nat) : Int) := fun h => by rw [qo (by omega) (by omega)]; omega
  have g1 : decide ((i : Int) > 0) = true → (0 : Int) ≤ qa .i64 ((i : Int) - 1) := fun h => by rw [hw (of_decide_eq_true h)]; omega
  have g2 : decide ((i : Int) > 0) = true → qa .i64 ((i : Int) - 1) < (l.length : Int) := fun h => by rw [hw (of_decide_eq_true h)]; omega
  rw [Xd, qA h4, qi, qc, qd ⟨fun _ => h3, fun _ => h4, fun _ _ => h3, fun _ _ => h4, fun _ h => g1 h, fun _ h => g2 h, fun _ _ _ => h3, fun _ _ _ => h4, fun _ h _ => g1 h, fun _ h _ => g2 h⟩, qF i (by omega), ih (i + 1) j (by omega) (by omega), qq l i T2.dflt (by omega), Zz]
  have e1 : qpf l (i + 1) = (l.getD i T2.dflt).2.1 := by unfold qpf; rw [qm (by omega), Nat.add_sub_cancel]
  have e2 : qnK l (i + 1) = (l.getD i T2.dflt).2.2.2.2 := by unfold qnK; rw [qm (by omega), Nat.add_sub_cancel]
  rw [e1, e2]
  have hb : ((i : Int) == 0 && (l.getD i T2.dflt).1 != 0 || decide ((i : Int) > 0) && ((l.getD i T2.dflt).1 != (l.getD (qa .i64 ((i : Int) - 1)).toNat T2.dflt).2.1 || decide ((l.getD i T2.dflt).2.2.2.2 < (l.getD (qa .i64 ((i : Int) - 1)).toNat T2.dflt).2.2.2.2))) = ((l.getD i T2.dflt).1 != qpf l i || decide ((l.getD i T2.dflt).2.2.2.2 < qnK l i)) := by
   unfold qpf qnK
   by_cases h : i = 0
   ·subst h
    rw [qd rfl, qd rfl, qx (by omega : ¬ (l.getD 0 T2.dflt).2.2.2.2 < 0)]
    show (true && _ || false && _) = _
    rw [ww, wD]
   ·have h' : (i : Int) > 0 := by omega
    rw [qm h, qm h, hw h', qc, qA h', ww, show ((i : Int) == 0) = false from beq_eq_false_iff_ne.2 (by omega), wD, zn]
  rw [hb]
  cases ((l.getD i T2.dflt).1 != qpf l i || decide ((l.getD i T2.dflt).2.2.2.2 < qnK l i)) <;> rfl
theorem qKq (k : Nat) (l : List wE) (hl : l.length ≤ 512) : ∀ (d i j : Nat), i + d = l.length → d + 600 < j → (∀ x ∈ l.take i, SecOk x) → Yr k j l (i : Int) = some (if W9 (l.drop i) ≠ 0 then W9 (l.drop i) else Zz 0 0 l) := by
 intro d
 induction d with
 | zero =>
  intro i j hi hj ho
  obtain ⟨j, rfl⟩ := qQ (by omega : 0 < j)
  rw [Yr, qx (by omega : ¬ (i : Int) < (l.length : Int)), qg, qh (by omega), W9, qm (fun h => h rfl)]
  rw [wI (by omega)] at ho
  exact qGd k l hl ho l.length 0 j (by omega) (by omega)
 | succ d ih =>
  intro i j hi hj ho
  obtain ⟨j, rfl⟩ := qQ (by omega : 0 < j)
  rw [Yr, qA (by omega : (i : Int) < (l.length : Int)), qi, qd ⟨by omega, by omega⟩, qc, qF i (by omega), qq l i T2.dflt (by omega), W9]
  have ht : l.take (i + 1) = l.take i ++ [l.getD i T2.dflt] := by
   rw [List.take_add_one, List.getD_eq_getElem?_getD]
   rw [List.getElem?_eq_getElem (by omega)]; rfl
  by_cases h : Qd (l.getD i T2.dflt) = 0
  ·rw [ih (i + 1) j (by omega) (by omega) (fun x hx => by
    rw [ht] at hx
    rcases zW.1 hx with hx | hx
    ·exact ho x hx
    ·rw [List.mem_singleton] at hx; rw [hx]; exact qkf h)]
   rw [show (Qd (l.getD i T2.dflt) != 0) = false by rw [h]; rfl, qg]
   unfold Qd at h
   generalize l.getD i T2.dflt = s at *
   revert h
   cases (decide (s.1 < (0 : Int)) || decide (s.1 ≥ s.2.1) || decide (s.2.1 > (17179869184 : Int)))
   ·cases (decide (s.2.2.1 < (1 : Int)) || decide (s.2.2.1 > (3 : Int)))
    ·cases (decide (s.2.2.2.1 < (-1 : Int)) || decide (s.2.2.2.1 ≥ (16 : Int)))
     ·cases (decide (s.2.2.2.2 < (0 : Int)) || decide (s.2.2.2.2 > (2048 : Int)))
      ·intro _; rfl
      ·intro h; cases h
     ·intro h; cases h
    ·intro h; cases h
   ·intro h; cases h
  ·rw [bne_iff_ne.2 h, qi, qd h]
   unfold Qd at h ⊢
   generalize l.getD i T2.dflt = s at *
   revert h
   cases (decide (s.1 < (0 : Int)) || decide (s.1 ≥ s.2.1) || decide (s.2.1 > (17179869184 : Int)))
   ·cases (decide (s.2.2.1 < (1 : Int)) || decide (s.2.2.1 > (3 : Int)))
    ·cases (decide (s.2.2.2.1 < (-1 : Int)) || decide (s.2.2.2.1 ≥ (16 : Int)))
     ·cases (decide (s.2.2.2.2 < (0 : Int)) || decide (s.2.2.2.2 > (2048 : Int)))
      ·intro h; exact absurd rfl h
      ·intro _; rfl
     ·intro _; rfl
    ·intro _; rfl
   ·intro _; rfl
theorem qaR (k : Nat) (hk : 1200 ≤ k) (l : List wE) : qfq k l = some (vw l) := by
 unfold qfq vw
 by_cases h : l.length > 512
 ·rw [qd h, qA (by omega : (l.length : Int) > 512)]; rfl
 ·rw [qm h, qx (by omega : ¬ (l.length : Int) > 512), qg]
  exact qKq k l (by omega) l.length 0 k (by omega) (by omega) (fun x hx => by simp at hx)
theorem qgP (k : Nat) (hk : 1200 ≤ k) (l : List wE) : qcK k l = vw l := by
 unfold qcK; rw [qaR k hk]; rfl
theorem Zf {l : List wE} (h : vw l = 0) : l.length ≤ 512 ∧ (∀ x ∈ l, SecOk x) ∧ Zz 0 0 l = 0 := by
 unfold vw at h
 by_cases h1 : l.length > 512
 ·rw [qd h1] at h; omega
 ·rw [qm h1] at h
  by_cases h2 : W9 l = 0
  ·rw [qm (fun h => h h2)] at h
   exact ⟨by omega, ql4 h2, h⟩
  ·rw [qd h2] at h; exact absurd h h2
def wQ (l : List wE) : Int := if l.length = 0 then 0 else (l.getD (l.length - 1) T2.dflt).2.1
theorem qzQ (x : wE) {t : List wE} (h : t ≠ []) : wQ (x :: t) = wQ t := by
 obtain ⟨y, t, rfl⟩ : ∃ y u, t = y :: u := by
  cases t with
  | nil => exact absurd rfl h
  | cons y u => exact ⟨y, u, rfl⟩
 unfold wQ
 rw [qm (by simp), qm (by simp)]
 rfl
theorem qzy : ∀ (l : List wE) (e p z : Int), (∀ x ∈ l, SecOk x) → Zz e p l = 0 → l ≠ [] → e ≤ z → z < wQ l → ∃ x ∈ l, x.1 ≤ z ∧ z < x.2.1
 | [], _, _, _, _, _, h, _, _ => absurd rfl h
 | x :: t, e, p, z, ho, h, _, h0, h1 => by
  unfold Zz at h
  cases hb : (x.1 != e || decide (x.2.2.2.2 < p))
  ·rw [hb, qg] at h
   have hx : x.1 = e := by
    have := (WN.1 hb).1
    simpa using this
   by_cases hz : z < x.2.1
   ·exact ⟨x, by simp, by omega, hz⟩
   ·by_cases ht : t = []
    ·subst ht
     have : wQ [x] = x.2.1 := rfl
     omega
    ·rw [qzQ x ht] at h1
     obtain ⟨y, hy, a, b⟩ := qzy t x.2.1 x.2.2.2.2 z (fun y hy => ho y (by simp [hy])) h ht (by omega) h1
     exact ⟨y, by simp [hy], a, b⟩
  ·rw [hb] at h; cases h
def qsy (s : Sp) (x : wE) : List wE := if max x.1 s.1 - s.1 < min x.2.1 s.2 - s.1 then [(max x.1 s.1 - s.1, min x.2.1 s.2 - s.1, x.2.2)] else []
def zM (s : Sp) : List wE → List wE
 | [] => []
 | x :: t => qsy s x ++ zM s t
theorem qkC (s : Sp) : ∀ l : List wE, (zM s l).length ≤ l.length
 | [] => qT _
 | x :: t => by
  have := qkC s t
  unfold zM qsy
  rw [qn, wc]
  split <;> simp <;> omega
theorem qoT {l : List wE} (h : vw l = 0) {s : Sp} (h0 : 0 ≤ s.1) (h1 : s.1 < s.2) (h2 : s.2 ≤ wQ l) : zM s l ≠ [] := by
 obtain ⟨a, b, c⟩ := Zf h
 have hl : l ≠ [] := fun e => by rw [e] at h2; have : wQ [] = 0 := rfl; omega
 obtain ⟨x, hx, x0, x1⟩ := qzy l 0 0 s.1 b c hl h0 (by omega)
 have : ∀ l : List wE, x ∈ l → zM s l ≠ [] := fun l => by
  induction l with
  | nil => intro h; simp at h
  | cons y t ih =>
   intro hm
   unfold zM
   rcases qK.1 hm with e | hm
   ·subst e
    unfold qsy
    rw [qd (by omega)]; simp
   ·intro e
    exact ih hm (List.append_eq_nil_iff.1 e).2
 exact this l hx
theorem qjk {l : List wE} (hl : l.length ≤ 512) (h0 : l.length ≠ 0) : qa .i64 ((l.length : Int) - 1) = ((l.length - 1 : Nat) : Int) := by
 rw [qo (by omega) (by omega)]; omega
theorem qkx (k : Nat) {l : List wE} (hl : l.length ≤ 512) : qeu k l = some (wQ l) := by
 unfold qeu wQ
 by_cases h : l.length = 0
 ·rw [qd h, show ((l.length : Int) == 0) = true from beq_iff_eq.2 (by omega), qi]
 ·rw [qm h, show ((l.length : Int) == 0) = false from beq_eq_false_iff_ne.2 (by omega), qg, qjk hl h, qd ⟨by omega, by omega⟩, qc]
theorem quz (k : Nat) {l : List wE} (hl : l.length ≤ 512) : qhg k l = wQ l := by unfold qhg; rw [qkx k hl]; rfl
theorem qJM (a b : Int) : (if a > b then a else b) = max b a := by split <;> omega
theorem qJ8 (a b : Int) : (if a < b then a else b) = min b a := by split <;> omega
theorem qrC {s : Sp} (h0 : 0 ≤ s.1) (h1 : s.2 ≤ 17179869184) {x : wE} (ok : SecOk x) : qa .i64 ((if s.1 > x.1 then s.1 else x.1) - s.1) = max x.1 s.1 - s.1 ∧ qa .i64 ((if s.2 < x.2.1 then s.2 else x.2.1) - s.1) = min x.2.1 s.2 - s.1 ∨ s.2 < s.1 := by
 obtain ⟨a, b, c, d⟩ := ok
 by_cases h : s.2 < s.1
 ·exact .inr h
 ·left
  rw [qJM, qJ8]
  exact ⟨qo (by omega) (by omega), qo (by omega) (by omega)⟩
theorem qGh (k : Nat) {s : Sp} (h0 : 0 ≤ s.1) (hs : s.1 ≤ s.2) (h1 : s.2 ≤ 17179869184) (l : List wE) (hl : l.length ≤ 512) (ho : ∀ x ∈ l, SecOk x) : ∀ (d i j : Nat) (out : List wE), i + d = l.length → d < j → out.length ≤ i → QG k j l (l.length : Int) (i : Int) s out = some (out ++ zM s (l.drop i), 0) := by
 intro d
 induction d with
 | zero =>
  intro i j out hi hj ho'
  obtain ⟨j, rfl⟩ := qQ (by omega : 0 < j)
  rw [QG, qx (by omega : ¬ (i : Int) < (l.length : Int)), qg, qh (by omega), zM, qY]
 | succ d ih =>
  intro i j out hi hj ho'
  obtain ⟨j, rfl⟩ := qQ (by omega : 0 < j)
  rcases qrC h0 h1 (ho (l.getD i T2.dflt) (Vh _ _ _ (by omega))) with ⟨e1, e2⟩ | h
  ·rw [QG, qA (by omega : (i : Int) < (l.length : Int)), qi, qd ⟨by omega, by omega⟩, qc, qF i (by omega), e1, e2, qq l i T2.dflt (by omega), zM, qd (by rw [qk]; omega), ih (i + 1) j _ (by omega) (by omega) (by rw [qn, qk]; omega), ih (i + 1) j out (by omega) (by omega) (by omega)]
   unfold qsy
   by_cases h : max (l.getD i T2.dflt).1 s.1 - s.1 < min (l.getD i T2.dflt).2.1 s.2 - s.1
   ·rw [qA h, qi, qd h, qw]
   ·rw [qx h, qg, qm h, qH]
  ·omega
theorem qhk (k : Nat) (hk : 1200 ≤ k) {l : List wE} (hz : vw l = 0) {s : Sp} (h0 : 0 ≤ s.1) (hs : s.1 ≤ s.2) (h1 : s.2 ≤ 17179869184) (h2 : s.2 ≤ wQ l) : qau k l s = some (zM s l, 0) := by
 obtain ⟨hl, ho, _⟩ := Zf hz
 have hp := qGh k h0 hs h1 l hl ho l.length 0 k [] (by omega) (by omega) (by simp)
 unfold qau
 rw [qbS k hk, qhG k hk, hz, qb, qd rfl, bne_self_eq_false, qg]
 by_cases h : l.length = 0
 ·have he : wQ l = 0 := by unfold wQ; rw [qd h]
  rw [qx (by omega : ¬ (l.length : Int) > 0), qg, qx (by omega : ¬ s.1 < 0), qx (by omega : ¬ s.1 > s.2), qx (by omega : ¬ s.2 > 0)]
  exact hp
 ·have he : wQ l = (l.getD (l.length - 1) T2.dflt).2.1 := by unfold wQ; rw [qm h]
  rw [qA (by omega : (l.length : Int) > 0), qi, qjk hl h, qd ⟨by omega, by omega⟩, qc, ← he, qx (by omega : ¬ s.1 < 0), qx (by omega : ¬ s.1 > s.2), qx (by omega : ¬ s.2 > wQ l)]
  exact hp
theorem quh (k : Nat) (hk : 1200 ≤ k) {l : List wE} (hz : vw l = 0) {s : Sp} (h0 : 0 ≤ s.1) (hs : s.1 ≤ s.2) (h1 : s.2 ≤ 17179869184) (h2 : s.2 ≤ wQ l) : wX k l s = (zM s l, 0) := by
 unfold wX; rw [qhk k hk hz h0 hs h1 h2]; rfl
theorem qF2 (k : Nat) {s : Sp} (h0 : 0 ≤ s.1) (hs : s.1 ≤ s.2) (h1 : s.2 ≤ 17179869184) (l : List wE) (hl : l.length ≤ 512) (ho : ∀ x ∈ l, SecOk x) : ∀ (d i j : Nat) (out : List wE), i + d = l.length → d < j → out.length ≤ i → ZG k j l (i : Int) s out = some (out ++ zM s (l.drop i), 0) := by
 intro d
 induction d with
 | zero =>
  intro i j out hi hj ho'
  obtain ⟨j, rfl⟩ := qQ (by omega : 0 < j)
  rw [ZG, qx (by omega : ¬ (i : Int) < (l.length : Int)), qg, qh (by omega), zM, qY]
 | succ d ih =>
  intro i j out hi hj ho'
  obtain ⟨j, rfl⟩ := qQ (by omega : 0 < j)
  rcases qrC h0 h1 (ho (l.getD i T2.dflt) (Vh _ _ _ (by omega))) with ⟨e1, e2⟩ | h
  ·rw [ZG, qA (by omega : (i : Int) < (l.length : Int)), qi, qd ⟨by omega, by omega⟩, qc, qF i (by omega), e1, e2, qq l i T2.dflt (by omega), zM, qd (by rw [qk]; omega), ih (i + 1) j _ (by omega) (by omega) (by rw [qn, qk]; omega), ih (i + 1) j out (by omega) (by omega) (by omega)]
   unfold qsy
   by_cases h : max (l.getD i T2.dflt).1 s.1 - s.1 < min (l.getD i T2.dflt).2.1 s.2 - s.1
   ·rw [qA h, qi, qd h, qw]
   ·rw [qx h, qg, qm h, qH]
  ·omega
theorem qg7 (k : Nat) (hk : 1200 ≤ k) {l : List wE} (hz : vw l = 0) {s : Sp} (h0 : 0 ≤ s.1) (hs : s.1 ≤ s.2) (h1 : s.2 ≤ 17179869184) (h2 : s.2 ≤ wQ l) : qek k l s = some (zM s l, 0) := by
 obtain ⟨hl, ho, _⟩ := Zf hz
 have hp := qF2 k h0 hs h1 l hl ho l.length 0 k [] (by omega) (by omega) (by simp)
 have hc : (decide (s.1 < (0 : Int)) || decide (s.1 > s.2) || decide (s.2 > (17179869184 : Int))) = false := by
  rw [qx (by omega : ¬ s.1 < 0), qx (by omega : ¬ s.1 > s.2), qx (by omega : ¬ s.2 > 17179869184)]; rfl
 unfold qek
 rw [qaR k hk, qgP k hk, hz, qb, qd rfl, bne_self_eq_false, qg, hc, qg, qkx k hl, quz k hl, qd ⟨rfl, rfl⟩, qx (by omega : ¬ s.2 > wQ l)]
 exact hp
theorem qqs (k : Nat) (hk : 1200 ≤ k) {l : List wE} (hz : vw l = 0) {s : Sp} (h0 : 0 ≤ s.1) (hs : s.1 ≤ s.2) (h1 : s.2 ≤ 17179869184) (h2 : s.2 ≤ wQ l) : VD k l s = (zM s l, 0) := by
 unfold VD; rw [qg7 k hk hz h0 hs h1 h2]; rfl
end Go.AM
namespace Go.AM
open Go Go.Proofs
noncomputable section
abbrev qm4 : Type := List T2.T
def qr3 (r : qm4) : AV := .fn (Fn.func 172) [] [.ptr 0 0 0]
def qvg (a : List T2.T) (r : qm4) : List (Nat × Blk) := [(0, .var 24 [ro T2 r])]
abbrev qAS (a : List T2.T) (r : qm4) : Prop := CC Tryz.prog 125 [ro T2 a] [] (qr3 r) (qvg a r)
def qnh (k : Nat) (a : List T2.T) : Option qm4 :=
 some a
def qeW := fun k a => (qnh k a).getD []
def qLI (k : Nat) : Ke := (125, mo 1, fun
 | [.r (.ro d b)], [] => (qE d T2 b).bind fun a => some (.one (qr3 (qeW k a), qvg a (qeW k a)))
 | _, _ => none)
theorem qMn (k a r) (h : qnh k a = some r): qAS a r := qN Tryz.f125 (go (qD []) [] [] [.autoB [2] true []] (gL h))
theorem qKQ {k a} (h : (qnh k a).isSome): qAS a (qeW k a) := qJ h (qMn k a)
abbrev qsb : Type := List T21.T × List T21.T × Int
def qt2 (r : qsb) : AV := .tup [ro T21 r.1, ro T21 r.2.1, ri r.2.2]
abbrev qzn (a : List T2.T) (b : List I.T) (d : Int) (r : qsb) : Prop := CC Tryz.prog 81 [ro T2 a, ro I b, ri d] [] (qt2 r) (nb r)
def qh0 (k : Nat) (a : List T2.T) (b : List I.T) (d : Int) : Option qsb :=
 if ((Xw k a).isSome) then
 bif (QL k a != (0 : Int)) then
 some ([], [], QL k a)
 else
 bif (decide (d < 1) || decide (d > 17179869184)) then
 some ([], [], 1)
 else
 if ((qmq k b).isSome) then
 bif (qnp k b != (0 : Int)) then
 some ([], [], qnp k b)
 else
 if ((qnh k a).isSome) then
 if ((qmu k b d [] [] (qeW k a)).isSome) then
 some ((qiT k b d [] [] (qeW k a)).1, (qiT k b d [] [] (qeW k a)).2, 0)
 else none
 else none
 else none
 else none
def WV := fun k a b d => (qh0 k a b d).getD ([], [], 0)
def qK5 (k : Nat) : Ke := (81, mo 3, fun
 | [.r (.ro g e), .r (.ro i f), .r (.v (.int .i64 d))], [] => (qE g T2 e).bind fun a => (qE i I f).bind fun b => some (.one (qt2 (WV k a b d), []))
 | _, _ => none)
theorem qJD (k a b d r) (h : qh0 k a b d = some r): qzn a b d r := qN Tryz.f81 (go (qD [qfk k, qKh k, qLI k, qnL k, qM4 k]) [] [(15, [.autoB [13, 15, 40, 41, 42] false []])] [.frz 6 false (RTy.list T21), .frz 7 false (RTy.list T21), .autoB [6, 7, 8] true []] (qu h qj6 fun h => qB h fun h => qB h fun h => qu h qMV fun h => qB h fun h => qu h qKQ fun h => qu h qKU fun h => gL h))
theorem qw0 {k a b d} (h : (qh0 k a b d).isSome): qzn a b d (WV k a b d) := qJ h (qJD k a b d)
abbrev qIW (a : T17.T) (r : Bool) : Prop := CC Tryz.prog 11 [.agg (qy (qr T17 a))] [] (rb r) (nb r)
def qFW := fun y0 y1 y2 y3 y4 => (⟨qI 105 [(1, .ptr 1000000 0 0), (3, ri y0), (60, ro T9 y1), (61, ri y2), (62, ri y3)], [(1000000, 0, .var 36 (qy (qr T17 y4)))]⟩ : St)
def qGG := fun y0 y1 y2 y3 y4 => (⟨qI 105 [(1, .ptr 1000000 0 0), (3, ri y0), (76, ro T11 y1), (77, ri y2), (78, ri y3)], [(1000000, 0, .var 36 (qy (qr T17 y4)))]⟩ : St)
def qDk := fun y0 y1 y2 y3 => (⟨qI 105 [(3, ri y0), (89, ro T5 y1), (90, ri y2), (91, ri y3)], []⟩ : St)
mutual
def Yu (k : Nat) : Nat → Int → List T9.T → Int → Int → T17.T → Option Bool
 | 0, _, _, _, _, _ => none
 | j + 1, y0, y1, y2, y3, y4 =>
 bif y3 < y2 then
 if (0 ≤ y3) ∧ (y3 < y1.length) then
 Yu k j (qz (qz y0 (↑ (qe (y1.getD y3.toNat T9.dflt).2.1) : Int)) (↑ (qe (y1.getD y3.toNat T9.dflt).2.2.1) : Int)) y1 y2 (qa .i64 (y3 + 1)) y4
 else none
 else
 YF k j y0 y4.2.2.2.2.2.2.2.2.2.2.2.2.2.2.2.2.2.1 (↑ (qe y4.2.2.2.2.2.2.2.2.2.2.2.2.2.2.2.2.2.1) : Int) 0 y4
def YF (k : Nat) : Nat → Int → List T11.T → Int → Int → T17.T → Option Bool
 | 0, _, _, _, _, _ => none
 | j + 1, y0, y1, y2, y3, y4 =>
 bif y3 < y2 then
 if (0 ≤ y3) ∧ (y3 < y1.length) then
 YF k j (if (↑ (qe (y1.getD y3.toNat T11.dflt).2.2) : Int) > y0 then (↑ (qe (y1.getD y3.toNat T11.dflt).2.2) : Int) else y0) y1 y2 (qa .i64 (y3 + 1)) y4
 else none
 else
 VW k j y0 y4.2.2.2.2.2.2.2.2.2.2.2.1 (↑ (qe y4.2.2.2.2.2.2.2.2.2.2.2.1) : Int) 0
def VW (k : Nat) : Nat → Int → List T5.T → Int → Int → Option Bool
 | 0, _, _, _, _ => none
 | j + 1, y0, y1, y2, y3 =>
 bif y3 < y2 then
 if (0 ≤ y3) ∧ (y3 < y1.length) then
 VW k j (if qa .i64 (2 * (↑ (qe (y1.getD y3.toNat T5.dflt).2.2.2.2.2) : Int)) > y0 then qa .i64 (2 * (↑ (qe (y1.getD y3.toNat T5.dflt).2.2.2.2.2) : Int)) else y0) y1 y2 (qa .i64 (y3 + 1))
 else none
 else
 some (decide (y0 > 40))
end
def qgC (k : Nat) (a : T17.T) : Option Bool :=
 if ((4 : Int) ≠ (0 : Int)) then
 Yu k (k + (qe a.2.2.2.2.2.2.2.2.2.2.2.2.2.2.2.1 + (qe a.2.2.2.2.2.2.2.2.2.2.2.2.2.2.2.2.2.1 + qe a.2.2.2.2.2.2.2.2.2.2.2.1))) (qz (qz (qz (qz (qz (qz (qz (qz (qz (qz (qz (qz (qz (qz (↑ (qe a.2.2.2.2.2.2.2.1) : Int) (↑ (qe a.2.2.2.2.2.2.2.2.2.1) : Int)) (↑ (qe a.2.2.2.2.2.2.2.2.2.2.1) : Int)) (↑ (qe a.2.2.2.2.2.2.2.2.2.2.2.1) : Int)) (↑ (qe a.2.2.2.2.2.2.2.2.2.2.2.2.1) : Int)) (↑ (qe a.2.2.2.2.2.2.2.2.2.2.2.2.2.1) : Int)) (↑ (qe a.2.2.2.2.2.2.2.2.2.2.2.2.2.2.1) : Int)) (qa .i64 ((↑ (qe a.2.2.2.2.2.2.2.2.1) : Int).tdiv 4))) (↑ (qe a.2.2.2.2.2.2.2.2.2.2.2.2.2.2.2.1) : Int)) (↑ (qe a.2.2.2.2.2.2.2.2.2.2.2.2.2.2.2.2.1) : Int)) (↑ (qe a.2.2.2.2.2.2.2.2.2.2.2.2.2.2.2.2.2.1) : Int)) (↑ (qe a.2.2.2.2.2.2.2.2.2.2.2.2.2.2.2.2.2.2.1) : Int)) (↑ (qe a.2.2.2.2.2.2.2.2.2.2.2.2.2.2.2.2.2.2.2.1) : Int)) (↑ (qe a.2.2.2.2.2.2.2.2.2.2.2.2.2.2.2.2.2.2.2.2.1) : Int)) (↑ (qe a.2.2.2.2.2.2.2.2.2.2.2.2.2.2.2.2.2.2.2.2.2) : Int)) a.2.2.2.2.2.2.2.2.2.2.2.2.2.2.2.1 (↑ (qe a.2.2.2.2.2.2.2.2.2.2.2.2.2.2.2.1) : Int) 0 a
 else none
def qm2 := fun k a => (qgC k a).getD false
def qRj (k : Nat) : Ke := (11, mo 1, fun
 | [.agg b], [] => (qW [] T17 b).bind fun a => some (.one (rb (qm2 k a), []))
 | _, _ => none)
def qB3 : List (Nat × List Cmd) := [(4, [.autoB [1, 3, 60, 61, 62] false []]), (9, [.autoB [1, 3, 76, 77, 78] false []]), (14, [.autoB [3, 89, 90, 91] false []])]
abbrev qyf := EP Tryz.f11 0 rb nb
theorem qDd (k) : ∀ j, (∀ {y0 y1 y2 y3 y4}, qyf 4 (qFW y0 y1 y2 y3 y4) (Yu k j y0 y1 y2 y3 y4)) ∧ (∀ {y0 y1 y2 y3 y4}, qyf 9 (qGG y0 y1 y2 y3 y4) (YF k j y0 y1 y2 y3 y4)) ∧ (∀ {y0 y1 y2 y3}, qyf 14 (qDk y0 y1 y2 y3) (VW k j y0 y1 y2 y3))
 | 0 => by and_intros <;> intros <;> exact e0
 | j + 1 => by
  have ih := @qDd k j
  have g := @go (qD []) [] qB3 [.autoB [2] true []]
  refine ⟨?_, ?_, ?_⟩
  ·intro y0 y1 y2 y3 y4 r h
   rw [Yu] at h
   exact g (gS h (fun h => qS h fun h => gD h 4 ih.1) fun h => gD h 9 ih.2.1)
  ·intro y0 y1 y2 y3 y4 r h
   rw [YF] at h
   exact g (gS h (fun h => qS h fun h => gD h 9 ih.2.1) fun h => gD h 14 ih.2.2)
  ·intro y0 y1 y2 y3 r h
   rw [VW] at h
   exact g (gS h (fun h => qS h fun h => gD h 14 ih.2.2) fun h => gL h)
theorem qNh (k a r) (h : qgC k a = some r): qIW a r := qN Tryz.f11 (go (qD []) [] qB3 [.autoB [2] true []] (qu h id fun h => gD h 4 (qDd k (k + (qe a.2.2.2.2.2.2.2.2.2.2.2.2.2.2.2.1 + (qe a.2.2.2.2.2.2.2.2.2.2.2.2.2.2.2.2.2.1 + qe a.2.2.2.2.2.2.2.2.2.2.2.1)))).1))
theorem qN3 {k a} (h : (qgC k a).isSome): qIW a (qm2 k a) := qJ h (qNh k a)
abbrev qEP (a : T17.T) (r : Int) : Prop := CC Tryz.prog 27 [.agg (qy (qr T17 a))] [] (ri r) (nb r)
def qES := fun y0 y1 y2 => (⟨qI 95 [(1, .ptr 1000000 0 0), (3, ri y0), (4, ri y1)], [(1000000, 0, .var 36 (qy (qr T17 y2)))]⟩ : St)
def qBG := fun y0 y1 y2 => (⟨qI 95 [(1, .ptr 1000000 0 0), (3, ri y0), (5, ri y1)], [(1000000, 0, .var 36 (qy (qr T17 y2)))]⟩ : St)
mutual
def Xc (k : Nat) : Nat → Int → Int → T17.T → Option Int
 | 0, _, _, _ => none
 | j + 1, y0, y1, y2 =>
 bif y1 < (↑ (qe y2.2.2.2.2.2.2.2.2.2.2.2.2.2.2.2.1) : Int) then
 if (0 ≤ y1) ∧ (y1 < (↑ (qe y2.2.2.2.2.2.2.2.2.2.2.2.2.2.2.2.1) : Int)) ∧ (0 ≤ y1) ∧ (y1 < (↑ (qe y2.2.2.2.2.2.2.2.2.2.2.2.2.2.2.2.1) : Int)) then
 Xc k j (qz (qz y0 (↑ (qe (qM y2.2.2.2.2.2.2.2.2.2.2.2.2.2.2.2.1 y1.toNat T9.dflt).2.1) : Int)) (↑ (qe (qM y2.2.2.2.2.2.2.2.2.2.2.2.2.2.2.2.1 y1.toNat T9.dflt).2.2.1) : Int)) (qa .i64 (y1 + 1)) y2
 else none
 else
 VN k j y0 0 y2
def VN (k : Nat) : Nat → Int → Int → T17.T → Option Int
 | 0, _, _, _ => none
 | j + 1, y0, y1, y2 =>
 bif y1 < (↑ (qe y2.2.2.2.2.2.2.2.2.2.2.2.2.2.2.2.2.2.1) : Int) then
 if (0 ≤ y1) ∧ (y1 < (↑ (qe y2.2.2.2.2.2.2.2.2.2.2.2.2.2.2.2.2.2.1) : Int)) then
 VN k j (if (↑ (qe (qM y2.2.2.2.2.2.2.2.2.2.2.2.2.2.2.2.2.2.1 y1.toNat T11.dflt).2.2) : Int) > y0 then (↑ (qe (qM y2.2.2.2.2.2.2.2.2.2.2.2.2.2.2.2.2.2.1 y1.toNat T11.dflt).2.2) : Int) else y0) (qa .i64 (y1 + 1)) y2
 else none
 else
 bif y0 > 512 then
 some 8
 else
 some 0
end
def qet (k : Nat) (a : T17.T) : Option Int :=
 Xc k k (qz (qz (qz (qz (qz (qz (qz (qz (qz (qz (qz (qz (qz (qz (↑ (qe a.2.2.2.2.2.2.2.1) : Int) (↑ (qe a.2.2.2.2.2.2.2.2.1) : Int)) (↑ (qe a.2.2.2.2.2.2.2.2.2.1) : Int)) (↑ (qe a.2.2.2.2.2.2.2.2.2.2.1) : Int)) (↑ (qe a.2.2.2.2.2.2.2.2.2.2.2.1) : Int)) (↑ (qe a.2.2.2.2.2.2.2.2.2.2.2.2.1) : Int)) (↑ (qe a.2.2.2.2.2.2.2.2.2.2.2.2.2.1) : Int)) (↑ (qe a.2.2.2.2.2.2.2.2.2.2.2.2.2.2.1) : Int)) (↑ (qe a.2.2.2.2.2.2.2.2.2.2.2.2.2.2.2.1) : Int)) (↑ (qe a.2.2.2.2.2.2.2.2.2.2.2.2.2.2.2.2.1) : Int)) (↑ (qe a.2.2.2.2.2.2.2.2.2.2.2.2.2.2.2.2.2.1) : Int)) (↑ (qe a.2.2.2.2.2.2.2.2.2.2.2.2.2.2.2.2.2.2.1) : Int)) (↑ (qe a.2.2.2.2.2.2.2.2.2.2.2.2.2.2.2.2.2.2.2.1) : Int)) (↑ (qe a.2.2.2.2.2.2.2.2.2.2.2.2.2.2.2.2.2.2.2.2.1) : Int)) (↑ (qe a.2.2.2.2.2.2.2.2.2.2.2.2.2.2.2.2.2.2.2.2.2) : Int)) 0 a
def qe4 := fun k a => (qet k a).getD 0
def qLs (k : Nat) : Ke := (27, mo 1, fun
 | [.agg b], [] => (qW [] T17 b).bind fun a => some (.one (ri (qe4 k a), []))
 | _, _ => none)
def qve : List (Nat × List Cmd) := [(4, [.autoB [1, 3, 4] false []]), (8, [.autoB [1, 3, 5] false []])]
abbrev qCC := EP Tryz.f27 0 ri nb
theorem qvL (k) : ∀ j, (∀ {y0 y1 y2}, qCC 4 (qES y0 y1 y2) (Xc k j y0 y1 y2)) ∧ (∀ {y0 y1 y2}, qCC 8 (qBG y0 y1 y2) (VN k j y0 y1 y2))
 | 0 => by and_intros <;> intros <;> exact e0
 | j + 1 => by
  have ih := @qvL k j
  have g := @go (qD []) [] qve [.autoB [2] true []]
  refine ⟨?_, ?_⟩
  ·intro y0 y1 y2 r h
   rw [Xc] at h
   exact g (gS h (fun h => gN h Xs fun h => gD h 4 ih.1) fun h => gD h 8 ih.2)
  ·intro y0 y1 y2 r h
   rw [VN] at h
   exact g (gS h (fun h => qS h fun h => gD h 8 ih.2) fun h => qB h fun h => gL h)
theorem qKk (k a r) (h : qet k a = some r): qEP a r := qN Tryz.f27 (go (qD []) [] qve [.autoB [2] true []] (gD h 4 (qvL k k).1))
theorem qL3 {k a} (h : (qet k a).isSome): qEP a (qe4 k a) := qJ h (qKk k a)
abbrev qI9 (a : T17.T) (r : Bool) : Prop := CC Tryz.prog 74 [.agg (qy (qr T17 a))] [] (rb r) (nb r)
def qGE := fun y0 y1 y2 y3 y4 => (⟨qI 96 [(1, .ptr 1000000 0 0), (3, .own 1000001 0), (57, ro T9 y0), (58, ri y1), (59, ri y2)], [(1000000, 0, .var 36 (qy (qr T17 y3))), (1000001, 0, .row 3 I y4)]⟩ : St)
def qGD := fun y0 y1 y2 y3 => (⟨qI 96 [(3, .own 1000000 0), (74, ro T11 y0), (75, ri y1), (76, ri y2)], [(1000000, 0, .row 3 I y3)]⟩ : St)
def qE8 := fun y0 y1 y2 => (⟨qI 96 [(87, .own 1000000 0), (88, ri y0), (89, ri y1)], [(1000000, 0, .row 3 I y2)]⟩ : St)
mutual
def YQ (k : Nat) : Nat → List T9.T → Int → Int → T17.T → List I.T → Option Bool
 | 0, _, _, _, _, _ => none
 | j + 1, y0, y1, y2, y3, y4 =>
 bif y2 < y1 then
 if (0 ≤ y2) ∧ (y2 < y0.length) then
 if ((y4.length + [(↑ (qe (y0.getD y2.toNat T9.dflt).2.1) : Int), (↑ (qe (y0.getD y2.toNat T9.dflt).2.2.1) : Int)].length) * (8 : Nat) ≤ (140737488355328 : Nat)) then
 YQ k j y0 y1 (qa .i64 (y2 + 1)) y3 (y4 ++ [(↑ (qe (y0.getD y2.toNat T9.dflt).2.1) : Int), (↑ (qe (y0.getD y2.toNat T9.dflt).2.2.1) : Int)])
 else none
 else none
 else
 YP k j y3.2.2.2.2.2.2.2.2.2.2.2.2.2.2.2.2.2.1 (↑ (qe y3.2.2.2.2.2.2.2.2.2.2.2.2.2.2.2.2.2.1) : Int) 0 y4
def YP (k : Nat) : Nat → List T11.T → Int → Int → List I.T → Option Bool
 | 0, _, _, _, _ => none
 | j + 1, y0, y1, y2, y3 =>
 bif y2 < y1 then
 if (0 ≤ y2) ∧ (y2 < y0.length) then
 if ((y3.length + [(↑ (qe (y0.getD y2.toNat T11.dflt).2.2) : Int)].length) * (8 : Nat) ≤ (140737488355328 : Nat)) then
 YP k j y0 y1 (qa .i64 (y2 + 1)) (y3 ++ [(↑ (qe (y0.getD y2.toNat T11.dflt).2.2) : Int)])
 else none
 else none
 else
 VR k j (↑y3.length : Int) 0 y3
def VR (k : Nat) : Nat → Int → Int → List I.T → Option Bool
 | 0, _, _, _ => none
 | j + 1, y0, y1, y2 =>
 bif y1 < y0 then
 if (0 ≤ y1) ∧ (y1 < y2.length) then
 bif y2.getD y1.toNat I.dflt > (512 : Int) then
 some true
 else
 VR k j y0 (qa .i64 (y1 + 1)) y2
 else none
 else
 some false
end
def qaY (k : Nat) (a : T17.T) : Option Bool :=
 YQ k k a.2.2.2.2.2.2.2.2.2.2.2.2.2.2.2.1 (↑ (qe a.2.2.2.2.2.2.2.2.2.2.2.2.2.2.2.1) : Int) 0 a ([(↑ (qe a.2.2.2.2.2.2.2.1) : Int), (↑ (qe a.2.2.2.2.2.2.2.2.1) : Int), (↑ (qe a.2.2.2.2.2.2.2.2.2.1) : Int), (↑ (qe a.2.2.2.2.2.2.2.2.2.2.1) : Int), (↑ (qe a.2.2.2.2.2.2.2.2.2.2.2.1) : Int), (↑ (qe a.2.2.2.2.2.2.2.2.2.2.2.2.1) : Int), (↑ (qe a.2.2.2.2.2.2.2.2.2.2.2.2.2.1) : Int), (↑ (qe a.2.2.2.2.2.2.2.2.2.2.2.2.2.2.1) : Int), (↑ (qe a.2.2.2.2.2.2.2.2.2.2.2.2.2.2.2.1) : Int), (↑ (qe a.2.2.2.2.2.2.2.2.2.2.2.2.2.2.2.2.1) : Int), (↑ (qe a.2.2.2.2.2.2.2.2.2.2.2.2.2.2.2.2.2.1) : Int), (↑ (qe a.2.2.2.2.2.2.2.2.2.2.2.2.2.2.2.2.2.2.1) : Int), (↑ (qe a.2.2.2.2.2.2.2.2.2.2.2.2.2.2.2.2.2.2.2.1) : Int), (↑ (qe a.2.2.2.2.2.2.2.2.2.2.2.2.2.2.2.2.2.2.2.2.1) : Int), (↑ (qe a.2.2.2.2.2.2.2.2.2.2.2.2.2.2.2.2.2.2.2.2.2) : Int)])
def qcW := fun k a => (qaY k a).getD false
def qmL (k : Nat) : Ke := (74, mo 1, fun
 | [.agg b], [] => (qW [] T17 b).bind fun a => some (.one (rb (qcW k a), []))
 | _, _ => none)
def qCJ : List (Nat × List Cmd) := [(3, [.autoB [1, 3, 57, 58, 59] false []]), (8, [.autoB [3, 74, 75, 76] false []]), (13, [.autoB [87, 88, 89] false []])]
abbrev qzi := EP Tryz.f74 0 rb nb
theorem qFf (k) : ∀ j, (∀ {y0 y1 y2 y3 y4}, qzi 3 (qGE y0 y1 y2 y3 y4) (YQ k j y0 y1 y2 y3 y4)) ∧ (∀ {y0 y1 y2 y3}, qzi 8 (qGD y0 y1 y2 y3) (YP k j y0 y1 y2 y3)) ∧ (∀ {y0 y1 y2}, qzi 13 (qE8 y0 y1 y2) (VR k j y0 y1 y2))
 | 0 => by and_intros <;> intros <;> exact e0
 | j + 1 => by
  have ih := @qFf k j
  have g := @go (qD []) [] qCJ [.autoB [2] true []]
  refine ⟨?_, ?_, ?_⟩
  ·intro y0 y1 y2 y3 y4 r h
   rw [YQ] at h
   exact g (gS h (fun h => qS h fun h => qu h id fun h => gD h 3 ih.1) fun h => gD h 8 ih.2.1)
  ·intro y0 y1 y2 y3 r h
   rw [YP] at h
   exact g (gS h (fun h => qS h fun h => qu h id fun h => gD h 8 ih.2.1) fun h => gD h 13 ih.2.2)
  ·intro y0 y1 y2 r h
   rw [VR] at h
   exact g (gS h (fun h => qS h fun h => qB h fun h => gD h 13 ih.2.2) fun h => gL h)
theorem qQx (k a r) (h : qaY k a = some r): qI9 a r := qN Tryz.f74 (go (qD []) [] qCJ [.autoB [2] true []] (gD h 3 (qFf k k).1))
theorem qmc {k a} (h : (qaY k a).isSome): qI9 a (qcW k a) := qJ h (qQx k a)
end
theorem QY (a b : Int) : a ≤ qz a b := by unfold qz; split <;> omega
theorem Q0 (a b : Int) : b ≤ qz a b := by unfold qz; split <;> omega
theorem qtA {a b c : Int} (h1 : a ≤ c) (h2 : b ≤ c) : qz a b ≤ c := by unfold qz; split <;> omega
structure GB (b : T17.T) : Prop where
 bGrades : b.2.2.2.2.2.2.2.1.length ≤ 40
 bSections : b.2.2.2.2.2.2.2.2.2.1.length ≤ 40
 bTurns : b.2.2.2.2.2.2.2.2.2.2.1.length ≤ 40
 bRolls : b.2.2.2.2.2.2.2.2.2.2.2.1.length ≤ 40
 bUsed : b.2.2.2.2.2.2.2.2.2.2.2.2.1.length ≤ 40
 bScrapped : b.2.2.2.2.2.2.2.2.2.2.2.2.2.1.length ≤ 40
 bSpots : b.2.2.2.2.2.2.2.2.2.2.2.2.2.2.1.length ≤ 40
 bOrders : b.2.2.2.2.2.2.2.2.2.2.2.2.2.2.2.1.length ≤ 40
 bWaivers : b.2.2.2.2.2.2.2.2.2.2.2.2.2.2.2.2.1.length ≤ 40
 bShipments : b.2.2.2.2.2.2.2.2.2.2.2.2.2.2.2.2.2.1.length ≤ 40
 bClaims : b.2.2.2.2.2.2.2.2.2.2.2.2.2.2.2.2.2.2.1.length ≤ 40
 bCredits : b.2.2.2.2.2.2.2.2.2.2.2.2.2.2.2.2.2.2.2.1.length ≤ 40
 bBroke : b.2.2.2.2.2.2.2.2.2.2.2.2.2.2.2.2.2.2.2.2.1.length ≤ 40
 bPostings : b.2.2.2.2.2.2.2.2.2.2.2.2.2.2.2.2.2.2.2.2.2.length ≤ 40
 supp : b.2.2.2.2.2.2.2.2.1.length ≤ 200
 ord : ∀ x ∈ b.2.2.2.2.2.2.2.2.2.2.2.2.2.2.2.1, x.2.1.length ≤ 40 ∧ x.2.2.1.length ≤ 40
 shp : ∀ x ∈ b.2.2.2.2.2.2.2.2.2.2.2.2.2.2.2.2.2.1, x.2.2.length ≤ 40
theorem qFD (k : Nat) (l : List T5.T) (hl : l.length ≤ 140737488351232) : ∀ (d i j : Nat) (y : Int), i + d = l.length → d < j →
  ∃ n : Int, VW k j y l (l.length : Int) (i : Int) = some (decide (n > 40)) ∧ y ≤ n := by
 intro d
 induction d with
 | zero =>
  intro i j y hi hj
  obtain ⟨j, rfl⟩ := qQ (by omega : 0 < j)
  refine ⟨y, ?_, Wg _⟩
  rw [VW, qx (by omega : ¬ (i : Int) < (l.length : Int)), qg]
 | succ d ih =>
  intro i j y hi hj
  obtain ⟨j, rfl⟩ := qQ (by omega : 0 < j)
  rw [VW, qA (by omega : (i : Int) < (l.length : Int)), qi, qd ⟨by omega, by omega⟩, qF i (by omega)]
  generalize qa .i64 (2 * _) = z
  obtain ⟨n, h1, h2⟩ := ih (i + 1) j (if z > y then z else y) (by omega) (by omega)
  refine ⟨n, h1, ?_⟩
  revert h2
  split <;> omega
theorem qMN (k : Nat) (b : T17.T) (hr : b.2.2.2.2.2.2.2.2.2.2.2.1.length ≤ 140737488351232) (l : List T11.T) (hl : l.length ≤ 140737488351232) : ∀ (d i j : Nat) (y : Int), i + d = l.length → d + 1 + b.2.2.2.2.2.2.2.2.2.2.2.1.length < j →
  ∃ n : Int, YF k j y l (l.length : Int) (i : Int) b = some (decide (n > 40)) ∧ y ≤ n ∧ ∀ x ∈ l.drop i, (x.2.2.length : Int) ≤ n := by
 intro d
 induction d with
 | zero =>
  intro i j y hi hj
  obtain ⟨j, rfl⟩ := qQ (by omega : 0 < j)
  rw [YF, qx (by omega : ¬ (i : Int) < (l.length : Int)), qg, qh (by omega)]
  obtain ⟨n, h1, h2⟩ := qFD k (b.2.2.2.2.2.2.2.2.2.2.2.1) hr (b.2.2.2.2.2.2.2.2.2.2.2.1.length) 0 j y (by omega) (by omega)
  exact ⟨n, h1, h2, fun x hx => by simp at hx⟩
 | succ d ih =>
  intro i j y hi hj
  obtain ⟨j, rfl⟩ := qQ (by omega : 0 < j)
  rw [YF, qA (by omega : (i : Int) < (l.length : Int)), qi, qd ⟨by omega, by omega⟩, qF i (by omega), qc, qq l i T11.dflt (by omega)]
  obtain ⟨n, h1, h2, h3⟩ := ih (i + 1) j (if ((l.getD i T11.dflt).2.2.length : Int) > y then ((l.getD i T11.dflt).2.2.length : Int) else y) (by omega) (by omega)
  refine ⟨n, h1, ?_, fun x hx => ?_⟩
  ·revert h2; split <;> omega
  ·rcases qK.1 hx with e | hx
   ·rw [e]; revert h2; split <;> omega
   ·exact h3 x hx
theorem qMz (k : Nat) (b : T17.T) (hr : b.2.2.2.2.2.2.2.2.2.2.2.1.length ≤ 140737488351232) (hs : b.2.2.2.2.2.2.2.2.2.2.2.2.2.2.2.2.2.1.length ≤ 140737488351232) (l : List T9.T) (hl : l.length ≤ 140737488351232) : ∀ (d i j : Nat) (y : Int), i + d = l.length → d + 2 + (b.2.2.2.2.2.2.2.2.2.2.2.2.2.2.2.2.2.1.length + b.2.2.2.2.2.2.2.2.2.2.2.1.length) < j →
  ∃ n : Int, Yu k j y l (l.length : Int) (i : Int) b = some (decide (n > 40)) ∧ y ≤ n ∧ (∀ x ∈ b.2.2.2.2.2.2.2.2.2.2.2.2.2.2.2.2.2.1, (x.2.2.length : Int) ≤ n) ∧ ∀ x ∈ l.drop i, (x.2.1.length : Int) ≤ n ∧ (x.2.2.1.length : Int) ≤ n := by
 intro d
 induction d with
 | zero =>
  intro i j y hi hj
  obtain ⟨j, rfl⟩ := qQ (by omega : 0 < j)
  rw [Yu, qx (by omega : ¬ (i : Int) < (l.length : Int)), qg, qh (by omega)]
  obtain ⟨n, h1, h2, h3⟩ := qMN k b hr (b.2.2.2.2.2.2.2.2.2.2.2.2.2.2.2.2.2.1) hs (b.2.2.2.2.2.2.2.2.2.2.2.2.2.2.2.2.2.1.length) 0 j y (by omega) (by omega)
  rw [wm] at h3
  exact ⟨n, h1, h2, h3, fun x hx => by simp at hx⟩
 | succ d ih =>
  intro i j y hi hj
  obtain ⟨j, rfl⟩ := qQ (by omega : 0 < j)
  rw [Yu, qA (by omega : (i : Int) < (l.length : Int)), qi, qd ⟨by omega, by omega⟩, qF i (by omega), qc, qq l i T9.dflt (by omega)]
  obtain ⟨n, h1, h2, h3, h4⟩ := ih (i + 1) j (qz (qz y ((l.getD i T9.dflt).2.1.length : Int)) ((l.getD i T9.dflt).2.2.1.length : Int)) (by omega) (by omega)
  have a1 := QY (qz y ((l.getD i T9.dflt).2.1.length : Int)) ((l.getD i T9.dflt).2.2.1.length : Int)
  have a2 := Q0 (qz y ((l.getD i T9.dflt).2.1.length : Int)) ((l.getD i T9.dflt).2.2.1.length : Int)
  have a3 := QY y ((l.getD i T9.dflt).2.1.length : Int)
  have a4 := Q0 y ((l.getD i T9.dflt).2.1.length : Int)
  refine ⟨n, h1, by omega, h3, fun x hx => ?_⟩
  rcases qK.1 hx with e | hx
  ·rw [e]; exact ⟨by omega, by omega⟩
  ·exact h4 x hx
theorem qKc (k : Nat) (hk : 100 ≤ k) (b : T17.T) (h1 : b.2.2.2.2.2.2.2.2.2.2.2.2.2.2.2.1.length ≤ 140737488351232) (h2 : b.2.2.2.2.2.2.2.2.2.2.2.2.2.2.2.2.2.1.length ≤ 140737488351232) (h3 : b.2.2.2.2.2.2.2.2.2.2.2.1.length ≤ 140737488351232) (h4 : b.2.2.2.2.2.2.2.2.1.length ≤ 140737488351232) :
  ∃ r : Bool, qgC k b = some r ∧ (r = false → GB b) := by
 unfold qgC
 rw [qd (by decide)]
 have hw : qa .i64 (((b.2.2.2.2.2.2.2.2.1.length : Nat) : Int).tdiv 4) = ((b.2.2.2.2.2.2.2.2.1.length : Nat) : Int) / 4 := by
  rw [Int.tdiv_eq_ediv_of_nonneg (by omega)]; exact qo (by omega) (by omega)
 obtain ⟨n, g1, g2, g3, g4⟩ := qMz k b h3 h2 (b.2.2.2.2.2.2.2.2.2.2.2.2.2.2.2.1) h1 (b.2.2.2.2.2.2.2.2.2.2.2.2.2.2.2.1.length) 0 (k + (b.2.2.2.2.2.2.2.2.2.2.2.2.2.2.2.1.length + (b.2.2.2.2.2.2.2.2.2.2.2.2.2.2.2.2.2.1.length + b.2.2.2.2.2.2.2.2.2.2.2.1.length))) (qz (qz (qz (qz (qz (qz (qz (qz (qz (qz (qz (qz (qz (qz (((b.2.2.2.2.2.2.2.1.length : Nat) : Int)) (((b.2.2.2.2.2.2.2.2.2.1.length : Nat) : Int))) (((b.2.2.2.2.2.2.2.2.2.2.1.length : Nat) : Int))) (((b.2.2.2.2.2.2.2.2.2.2.2.1.length : Nat) : Int))) (((b.2.2.2.2.2.2.2.2.2.2.2.2.1.length : Nat) : Int))) (((b.2.2.2.2.2.2.2.2.2.2.2.2.2.1.length : Nat) : Int))) (((b.2.2.2.2.2.2.2.2.2.2.2.2.2.2.1.length : Nat) : Int))) (qa .i64 (((b.2.2.2.2.2.2.2.2.1.length : Nat) : Int).tdiv 4))) (((b.2.2.2.2.2.2.2.2.2.2.2.2.2.2.2.1.length : Nat) : Int))) (((b.2.2.2.2.2.2.2.2.2.2.2.2.2.2.2.2.1.length : Nat) : Int))) (((b.2.2.2.2.2.2.2.2.2.2.2.2.2.2.2.2.2.1.length : Nat) : Int))) (((b.2.2.2.2.2.2.2.2.2.2.2.2.2.2.2.2.2.2.1.length : Nat) : Int))) (((b.2.2.2.2.2.2.2.2.2.2.2.2.2.2.2.2.2.2.2.1.length : Nat) : Int))) (((b.2.2.2.2.2.2.2.2.2.2.2.2.2.2.2.2.2.2.2.2.1.length : Nat) : Int))) (((b.2.2.2.2.2.2.2.2.2.2.2.2.2.2.2.2.2.2.2.2.2.length : Nat) : Int))) (by omega) (by omega)
 rw [wm] at g4
 refine ⟨_, g1, fun hr => ?_⟩
 have hn : n ≤ 40 := by
  have := of_decide_eq_false hr
  omega
 have p1 := QY (((b.2.2.2.2.2.2.2.1.length : Nat) : Int)) (((b.2.2.2.2.2.2.2.2.2.1.length : Nat) : Int))
 have e1 := Q0 (((b.2.2.2.2.2.2.2.1.length : Nat) : Int)) (((b.2.2.2.2.2.2.2.2.2.1.length : Nat) : Int))
 have p2 := QY (qz (((b.2.2.2.2.2.2.2.1.length : Nat) : Int)) (((b.2.2.2.2.2.2.2.2.2.1.length : Nat) : Int))) (((b.2.2.2.2.2.2.2.2.2.2.1.length : Nat) : Int))
 have e2 := Q0 (qz (((b.2.2.2.2.2.2.2.1.length : Nat) : Int)) (((b.2.2.2.2.2.2.2.2.2.1.length : Nat) : Int))) (((b.2.2.2.2.2.2.2.2.2.2.1.length : Nat) : Int))
 have p3 := QY (qz (qz (((b.2.2.2.2.2.2.2.1.length : Nat) : Int)) (((b.2.2.2.2.2.2.2.2.2.1.length : Nat) : Int))) (((b.2.2.2.2.2.2.2.2.2.2.1.length : Nat) : Int))) (((b.2.2.2.2.2.2.2.2.2.2.2.1.length : Nat) : Int))
 have e3 := Q0 (qz (qz (((b.2.2.2.2.2.2.2.1.length : Nat) : Int)) (((b.2.2.2.2.2.2.2.2.2.1.length : Nat) : Int))) (((b.2.2.2.2.2.2.2.2.2.2.1.length : Nat) : Int))) (((b.2.2.2.2.2.2.2.2.2.2.2.1.length : Nat) : Int))
 have p4 := QY (qz (qz (qz (((b.2.2.2.2.2.2.2.1.length : Nat) : Int)) (((b.2.2.2.2.2.2.2.2.2.1.length : Nat) : Int))) (((b.2.2.2.2.2.2.2.2.2.2.1.length : Nat) : Int))) (((b.2.2.2.2.2.2.2.2.2.2.2.1.length : Nat) : Int))) (((b.2.2.2.2.2.2.2.2.2.2.2.2.1.length : Nat) : Int))
 have e4 := Q0 (qz (qz (qz (((b.2.2.2.2.2.2.2.1.length : Nat) : Int)) (((b.2.2.2.2.2.2.2.2.2.1.length : Nat) : Int))) (((b.2.2.2.2.2.2.2.2.2.2.1.length : Nat) : Int))) (((b.2.2.2.2.2.2.2.2.2.2.2.1.length : Nat) : Int))) (((b.2.2.2.2.2.2.2.2.2.2.2.2.1.length : Nat) : Int))
 have p5 := QY (qz (qz (qz (qz (((b.2.2.2.2.2.2.2.1.length : Nat) : Int)) (((b.2.2.2.2.2.2.2.2.2.1.length : Nat) : Int))) (((b.2.2.2.2.2.2.2.2.2.2.1.length : Nat) : Int))) (((b.2.2.2.2.2.2.2.2.2.2.2.1.length : Nat) : Int))) (((b.2.2.2.2.2.2.2.2.2.2.2.2.1.length : Nat) : Int))) (((b.2.2.2.2.2.2.2.2.2.2.2.2.2.1.length : Nat) : Int))
 have e5 := Q0 (qz (qz (qz (qz (((b.2.2.2.2.2.2.2.1.length : Nat) : Int)) (((b.2.2.2.2.2.2.2.2.2.1.length : Nat) : Int))) (((b.2.2.2.2.2.2.2.2.2.2.1.length : Nat) : Int))) (((b.2.2.2.2.2.2.2.2.2.2.2.1.length : Nat) : Int))) (((b.2.2.2.2.2.2.2.2.2.2.2.2.1.length : Nat) : Int))) (((b.2.2.2.2.2.2.2.2.2.2.2.2.2.1.length : Nat) : Int))
 have p6 := QY (qz (qz (qz (qz (qz (((b.2.2.2.2.2.2.2.1.length : Nat) : Int)) (((b.2.2.2.2.2.2.2.2.2.1.length : Nat) : Int))) (((b.2.2.2.2.2.2.2.2.2.2.1.length : Nat) : Int))) (((b.2.2.2.2.2.2.2.2.2.2.2.1.length : Nat) : Int))) (((b.2.2.2.2.2.2.2.2.2.2.2.2.1.length : Nat) : Int))) (((b.2.2.2.2.2.2.2.2.2.2.2.2.2.1.length : Nat) : Int))) (((b.2.2.2.2.2.2.2.2.2.2.2.2.2.2.1.length : Nat) : Int))
 have e6 := Q0 (qz (qz (qz (qz (qz (((b.2.2.2.2.2.2.2.1.length : Nat) : Int)) (((b.2.2.2.2.2.2.2.2.2.1.length : Nat) : Int))) (((b.2.2.2.2.2.2.2.2.2.2.1.length : Nat) : Int))) (((b.2.2.2.2.2.2.2.2.2.2.2.1.length : Nat) : Int))) (((b.2.2.2.2.2.2.2.2.2.2.2.2.1.length : Nat) : Int))) (((b.2.2.2.2.2.2.2.2.2.2.2.2.2.1.length : Nat) : Int))) (((b.2.2.2.2.2.2.2.2.2.2.2.2.2.2.1.length : Nat) : Int))
 have p7 := QY (qz (qz (qz (qz (qz (qz (((b.2.2.2.2.2.2.2.1.length : Nat) : Int)) (((b.2.2.2.2.2.2.2.2.2.1.length : Nat) : Int))) (((b.2.2.2.2.2.2.2.2.2.2.1.length : Nat) : Int))) (((b.2.2.2.2.2.2.2.2.2.2.2.1.length : Nat) : Int))) (((b.2.2.2.2.2.2.2.2.2.2.2.2.1.length : Nat) : Int))) (((b.2.2.2.2.2.2.2.2.2.2.2.2.2.1.length : Nat) : Int))) (((b.2.2.2.2.2.2.2.2.2.2.2.2.2.2.1.length : Nat) : Int))) (qa .i64 (((b.2.2.2.2.2.2.2.2.1.length : Nat) : Int).tdiv 4))
 have e7 := Q0 (qz (qz (qz (qz (qz (qz (((b.2.2.2.2.2.2.2.1.length : Nat) : Int)) (((b.2.2.2.2.2.2.2.2.2.1.length : Nat) : Int))) (((b.2.2.2.2.2.2.2.2.2.2.1.length : Nat) : Int))) (((b.2.2.2.2.2.2.2.2.2.2.2.1.length : Nat) : Int))) (((b.2.2.2.2.2.2.2.2.2.2.2.2.1.length : Nat) : Int))) (((b.2.2.2.2.2.2.2.2.2.2.2.2.2.1.length : Nat) : Int))) (((b.2.2.2.2.2.2.2.2.2.2.2.2.2.2.1.length : Nat) : Int))) (qa .i64 (((b.2.2.2.2.2.2.2.2.1.length : Nat) : Int).tdiv 4))
 have p8 := QY (qz (qz (qz (qz (qz (qz (qz (((b.2.2.2.2.2.2.2.1.length : Nat) : Int)) (((b.2.2.2.2.2.2.2.2.2.1.length : Nat) : Int))) (((b.2.2.2.2.2.2.2.2.2.2.1.length : Nat) : Int))) (((b.2.2.2.2.2.2.2.2.2.2.2.1.length : Nat) : Int))) (((b.2.2.2.2.2.2.2.2.2.2.2.2.1.length : Nat) : Int))) (((b.2.2.2.2.2.2.2.2.2.2.2.2.2.1.length : Nat) : Int))) (((b.2.2.2.2.2.2.2.2.2.2.2.2.2.2.1.length : Nat) : Int))) (qa .i64 (((b.2.2.2.2.2.2.2.2.1.length : Nat) : Int).tdiv 4))) (((b.2.2.2.2.2.2.2.2.2.2.2.2.2.2.2.1.length : Nat) : Int))
 have e8 := Q0 (qz (qz (qz (qz (qz (qz (qz (((b.2.2.2.2.2.2.2.1.length : Nat) : Int)) (((b.2.2.2.2.2.2.2.2.2.1.length : Nat) : Int))) (((b.2.2.2.2.2.2.2.2.2.2.1.length : Nat) : Int))) (((b.2.2.2.2.2.2.2.2.2.2.2.1.length : Nat) : Int))) (((b.2.2.2.2.2.2.2.2.2.2.2.2.1.length : Nat) : Int))) (((b.2.2.2.2.2.2.2.2.2.2.2.2.2.1.length : Nat) : Int))) (((b.2.2.2.2.2.2.2.2.2.2.2.2.2.2.1.length : Nat) : Int))) (qa .i64 (((b.2.2.2.2.2.2.2.2.1.length : Nat) : Int).tdiv 4))) (((b.2.2.2.2.2.2.2.2.2.2.2.2.2.2.2.1.length : Nat) : Int))
 have p9 := QY (qz (qz (qz (qz (qz (qz (qz (qz (((b.2.2.2.2.2.2.2.1.length : Nat) : Int)) (((b.2.2.2.2.2.2.2.2.2.1.length : Nat) : Int))) (((b.2.2.2.2.2.2.2.2.2.2.1.length : Nat) : Int))) (((b.2.2.2.2.2.2.2.2.2.2.2.1.length : Nat) : Int))) (((b.2.2.2.2.2.2.2.2.2.2.2.2.1.length : Nat) : Int))) (((b.2.2.2.2.2.2.2.2.2.2.2.2.2.1.length : Nat) : Int))) (((b.2.2.2.2.2.2.2.2.2.2.2.2.2.2.1.length : Nat) : Int))) (qa .i64 (((b.2.2.2.2.2.2.2.2.1.length : Nat) : Int).tdiv 4))) (((b.2.2.2.2.2.2.2.2.2.2.2.2.2.2.2.1.length : Nat) : Int))) (((b.2.2.2.2.2.2.2.2.2.2.2.2.2.2.2.2.1.length : Nat) : Int))
 have e9 := Q0 (qz (qz (qz (qz (qz (qz (qz (qz (((b.2.2.2.2.2.2.2.1.length : Nat) : Int)) (((b.2.2.2.2.2.2.2.2.2.1.length : Nat) : Int))) (((b.2.2.2.2.2.2.2.2.2.2.1.length : Nat) : Int))) (((b.2.2.2.2.2.2.2.2.2.2.2.1.length : Nat) : Int))) (((b.2.2.2.2.2.2.2.2.2.2.2.2.1.length : Nat) : Int))) (((b.2.2.2.2.2.2.2.2.2.2.2.2.2.1.length : Nat) : Int))) (((b.2.2.2.2.2.2.2.2.2.2.2.2.2.2.1.length : Nat) : Int))) (qa .i64 (((b.2.2.2.2.2.2.2.2.1.length : Nat) : Int).tdiv 4))) (((b.2.2.2.2.2.2.2.2.2.2.2.2.2.2.2.1.length : Nat) : Int))) (((b.2.2.2.2.2.2.2.2.2.2.2.2.2.2.2.2.1.length : Nat) : Int))
 have p10 := QY (qz (qz (qz (qz (qz (qz (qz (qz (qz (((b.2.2.2.2.2.2.2.1.length : Nat) : Int)) (((b.2.2.2.2.2.2.2.2.2.1.length : Nat) : Int))) (((b.2.2.2.2.2.2.2.2.2.2.1.length : Nat) : Int))) (((b.2.2.2.2.2.2.2.2.2.2.2.1.length : Nat) : Int))) (((b.2.2.2.2.2.2.2.2.2.2.2.2.1.length : Nat) : Int))) (((b.2.2.2.2.2.2.2.2.2.2.2.2.2.1.length : Nat) : Int))) (((b.2.2.2.2.2.2.2.2.2.2.2.2.2.2.1.length : Nat) : Int))) (qa .i64 (((b.2.2.2.2.2.2.2.2.1.length : Nat) : Int).tdiv 4))) (((b.2.2.2.2.2.2.2.2.2.2.2.2.2.2.2.1.length : Nat) : Int))) (((b.2.2.2.2.2.2.2.2.2.2.2.2.2.2.2.2.1.length : Nat) : Int))) (((b.2.2.2.2.2.2.2.2.2.2.2.2.2.2.2.2.2.1.length : Nat) : Int))
 have e10 := Q0 (qz (qz (qz (qz (qz (qz (qz (qz (qz (((b.2.2.2.2.2.2.2.1.length : Nat) : Int)) (((b.2.2.2.2.2.2.2.2.2.1.length : Nat) : Int))) (((b.2.2.2.2.2.2.2.2.2.2.1.length : Nat) : Int))) (((b.2.2.2.2.2.2.2.2.2.2.2.1.length : Nat) : Int))) (((b.2.2.2.2.2.2.2.2.2.2.2.2.1.length : Nat) : Int))) (((b.2.2.2.2.2.2.2.2.2.2.2.2.2.1.length : Nat) : Int))) (((b.2.2.2.2.2.2.2.2.2.2.2.2.2.2.1.length : Nat) : Int))) (qa .i64 (((b.2.2.2.2.2.2.2.2.1.length : Nat) : Int).tdiv 4))) (((b.2.2.2.2.2.2.2.2.2.2.2.2.2.2.2.1.length : Nat) : Int))) (((b.2.2.2.2.2.2.2.2.2.2.2.2.2.2.2.2.1.length : Nat) : Int))) (((b.2.2.2.2.2.2.2.2.2.2.2.2.2.2.2.2.2.1.length : Nat) : Int))
 have p11 := QY (qz (qz (qz (qz (qz (qz (qz (qz (qz (qz (((b.2.2.2.2.2.2.2.1.length : Nat) : Int)) (((b.2.2.2.2.2.2.2.2.2.1.length : Nat) : Int))) (((b.2.2.2.2.2.2.2.2.2.2.1.length : Nat) : Int))) (((b.2.2.2.2.2.2.2.2.2.2.2.1.length : Nat) : Int))) (((b.2.2.2.2.2.2.2.2.2.2.2.2.1.length : Nat) : Int))) (((b.2.2.2.2.2.2.2.2.2.2.2.2.2.1.length : Nat) : Int))) (((b.2.2.2.2.2.2.2.2.2.2.2.2.2.2.1.length : Nat) : Int))) (qa .i64 (((b.2.2.2.2.2.2.2.2.1.length : Nat) : Int).tdiv 4))) (((b.2.2.2.2.2.2.2.2.2.2.2.2.2.2.2.1.length : Nat) : Int))) (((b.2.2.2.2.2.2.2.2.2.2.2.2.2.2.2.2.1.length : Nat) : Int))) (((b.2.2.2.2.2.2.2.2.2.2.2.2.2.2.2.2.2.1.length : Nat) : Int))) (((b.2.2.2.2.2.2.2.2.2.2.2.2.2.2.2.2.2.2.1.length : Nat) : Int))
 have e11 := Q0 (qz (qz (qz (qz (qz (qz (qz (qz (qz (qz (((b.2.2.2.2.2.2.2.1.length : Nat) : Int)) (((b.2.2.2.2.2.2.2.2.2.1.length : Nat) : Int))) (((b.2.2.2.2.2.2.2.2.2.2.1.length : Nat) : Int))) (((b.2.2.2.2.2.2.2.2.2.2.2.1.length : Nat) : Int))) (((b.2.2.2.2.2.2.2.2.2.2.2.2.1.length : Nat) : Int))) (((b.2.2.2.2.2.2.2.2.2.2.2.2.2.1.length : Nat) : Int))) (((b.2.2.2.2.2.2.2.2.2.2.2.2.2.2.1.length : Nat) : Int))) (qa .i64 (((b.2.2.2.2.2.2.2.2.1.length : Nat) : Int).tdiv 4))) (((b.2.2.2.2.2.2.2.2.2.2.2.2.2.2.2.1.length : Nat) : Int))) (((b.2.2.2.2.2.2.2.2.2.2.2.2.2.2.2.2.1.length : Nat) : Int))) (((b.2.2.2.2.2.2.2.2.2.2.2.2.2.2.2.2.2.1.length : Nat) : Int))) (((b.2.2.2.2.2.2.2.2.2.2.2.2.2.2.2.2.2.2.1.length : Nat) : Int))
 have p12 := QY (qz (qz (qz (qz (qz (qz (qz (qz (qz (qz (qz (((b.2.2.2.2.2.2.2.1.length : Nat) : Int)) (((b.2.2.2.2.2.2.2.2.2.1.length : Nat) : Int))) (((b.2.2.2.2.2.2.2.2.2.2.1.length : Nat) : Int))) (((b.2.2.2.2.2.2.2.2.2.2.2.1.length : Nat) : Int))) (((b.2.2.2.2.2.2.2.2.2.2.2.2.1.length : Nat) : Int))) (((b.2.2.2.2.2.2.2.2.2.2.2.2.2.1.length : Nat) : Int))) (((b.2.2.2.2.2.2.2.2.2.2.2.2.2.2.1.length : Nat) : Int))) (qa .i64 (((b.2.2.2.2.2.2.2.2.1.length : Nat) : Int).tdiv 4))) (((b.2.2.2.2.2.2.2.2.2.2.2.2.2.2.2.1.length : Nat) : Int))) (((b.2.2.2.2.2.2.2.2.2.2.2.2.2.2.2.2.1.length : Nat) : Int))) (((b.2.2.2.2.2.2.2.2.2.2.2.2.2.2.2.2.2.1.length : Nat) : Int))) (((b.2.2.2.2.2.2.2.2.2.2.2.2.2.2.2.2.2.2.1.length : Nat) : Int))) (((b.2.2.2.2.2.2.2.2.2.2.2.2.2.2.2.2.2.2.2.1.length : Nat) : Int))
 have e12 := Q0 (qz (qz (qz (qz (qz (qz (qz (qz (qz (qz (qz (((b.2.2.2.2.2.2.2.1.length : Nat) : Int)) (((b.2.2.2.2.2.2.2.2.2.1.length : Nat) : Int))) (((b.2.2.2.2.2.2.2.2.2.2.1.length : Nat) : Int))) (((b.2.2.2.2.2.2.2.2.2.2.2.1.length : Nat) : Int))) (((b.2.2.2.2.2.2.2.2.2.2.2.2.1.length : Nat) : Int))) (((b.2.2.2.2.2.2.2.2.2.2.2.2.2.1.length : Nat) : Int))) (((b.2.2.2.2.2.2.2.2.2.2.2.2.2.2.1.length : Nat) : Int))) (qa .i64 (((b.2.2.2.2.2.2.2.2.1.length : Nat) : Int).tdiv 4))) (((b.2.2.2.2.2.2.2.2.2.2.2.2.2.2.2.1.length : Nat) : Int))) (((b.2.2.2.2.2.2.2.2.2.2.2.2.2.2.2.2.1.length : Nat) : Int))) (((b.2.2.2.2.2.2.2.2.2.2.2.2.2.2.2.2.2.1.length : Nat) : Int))) (((b.2.2.2.2.2.2.2.2.2.2.2.2.2.2.2.2.2.2.1.length : Nat) : Int))) (((b.2.2.2.2.2.2.2.2.2.2.2.2.2.2.2.2.2.2.2.1.length : Nat) : Int))
 have p13 := QY (qz (qz (qz (qz (qz (qz (qz (qz (qz (qz (qz (qz (((b.2.2.2.2.2.2.2.1.length : Nat) : Int)) (((b.2.2.2.2.2.2.2.2.2.1.length : Nat) : Int))) (((b.2.2.2.2.2.2.2.2.2.2.1.length : Nat) : Int))) (((b.2.2.2.2.2.2.2.2.2.2.2.1.length : Nat) : Int))) (((b.2.2.2.2.2.2.2.2.2.2.2.2.1.length : Nat) : Int))) (((b.2.2.2.2.2.2.2.2.2.2.2.2.2.1.length : Nat) : Int))) (((b.2.2.2.2.2.2.2.2.2.2.2.2.2.2.1.length : Nat) : Int))) (qa .i64 (((b.2.2.2.2.2.2.2.2.1.length : Nat) : Int).tdiv 4))) (((b.2.2.2.2.2.2.2.2.2.2.2.2.2.2.2.1.length : Nat) : Int))) (((b.2.2.2.2.2.2.2.2.2.2.2.2.2.2.2.2.1.length : Nat) : Int))) (((b.2.2.2.2.2.2.2.2.2.2.2.2.2.2.2.2.2.1.length : Nat) : Int))) (((b.2.2.2.2.2.2.2.2.2.2.2.2.2.2.2.2.2.2.1.length : Nat) : Int))) (((b.2.2.2.2.2.2.2.2.2.2.2.2.2.2.2.2.2.2.2.1.length : Nat) : Int))) (((b.2.2.2.2.2.2.2.2.2.2.2.2.2.2.2.2.2.2.2.2.1.length : Nat) : Int))
 have e13 := Q0 (qz (qz (qz (qz (qz (qz (qz (qz (qz (qz (qz (qz (((b.2.2.2.2.2.2.2.1.length : Nat) : Int)) (((b.2.2.2.2.2.2.2.2.2.1.length : Nat) : Int))) (((b.2.2.2.2.2.2.2.2.2.2.1.length : Nat) : Int))) (((b.2.2.2.2.2.2.2.2.2.2.2.1.length : Nat) : Int))) (((b.2.2.2.2.2.2.2.2.2.2.2.2.1.length : Nat) : Int))) (((b.2.2.2.2.2.2.2.2.2.2.2.2.2.1.length : Nat) : Int))) (((b.2.2.2.2.2.2.2.2.2.2.2.2.2.2.1.length : Nat) : Int))) (qa .i64 (((b.2.2.2.2.2.2.2.2.1.length : Nat) : Int).tdiv 4))) (((b.2.2.2.2.2.2.2.2.2.2.2.2.2.2.2.1.length : Nat) : Int))) (((b.2.2.2.2.2.2.2.2.2.2.2.2.2.2.2.2.1.length : Nat) : Int))) (((b.2.2.2.2.2.2.2.2.2.2.2.2.2.2.2.2.2.1.length : Nat) : Int))) (((b.2.2.2.2.2.2.2.2.2.2.2.2.2.2.2.2.2.2.1.length : Nat) : Int))) (((b.2.2.2.2.2.2.2.2.2.2.2.2.2.2.2.2.2.2.2.1.length : Nat) : Int))) (((b.2.2.2.2.2.2.2.2.2.2.2.2.2.2.2.2.2.2.2.2.1.length : Nat) : Int))
 have p14 := QY (qz (qz (qz (qz (qz (qz (qz (qz (qz (qz (qz (qz (qz (((b.2.2.2.2.2.2.2.1.length : Nat) : Int)) (((b.2.2.2.2.2.2.2.2.2.1.length : Nat) : Int))) (((b.2.2.2.2.2.2.2.2.2.2.1.length : Nat) : Int))) (((b.2.2.2.2.2.2.2.2.2.2.2.1.length : Nat) : Int))) (((b.2.2.2.2.2.2.2.2.2.2.2.2.1.length : Nat) : Int))) (((b.2.2.2.2.2.2.2.2.2.2.2.2.2.1.length : Nat) : Int))) (((b.2.2.2.2.2.2.2.2.2.2.2.2.2.2.1.length : Nat) : Int))) (qa .i64 (((b.2.2.2.2.2.2.2.2.1.length : Nat) : Int).tdiv 4))) (((b.2.2.2.2.2.2.2.2.2.2.2.2.2.2.2.1.length : Nat) : Int))) (((b.2.2.2.2.2.2.2.2.2.2.2.2.2.2.2.2.1.length : Nat) : Int))) (((b.2.2.2.2.2.2.2.2.2.2.2.2.2.2.2.2.2.1.length : Nat) : Int))) (((b.2.2.2.2.2.2.2.2.2.2.2.2.2.2.2.2.2.2.1.length : Nat) : Int))) (((b.2.2.2.2.2.2.2.2.2.2.2.2.2.2.2.2.2.2.2.1.length : Nat) : Int))) (((b.2.2.2.2.2.2.2.2.2.2.2.2.2.2.2.2.2.2.2.2.1.length : Nat) : Int))) (((b.2.2.2.2.2.2.2.2.2.2.2.2.2.2.2.2.2.2.2.2.2.length : Nat) : Int))
 have e14 := Q0 (qz (qz (qz (qz (qz (qz (qz (qz (qz (qz (qz (qz (qz (((b.2.2.2.2.2.2.2.1.length : Nat) : Int)) (((b.2.2.2.2.2.2.2.2.2.1.length : Nat) : Int))) (((b.2.2.2.2.2.2.2.2.2.2.1.length : Nat) : Int))) (((b.2.2.2.2.2.2.2.2.2.2.2.1.length : Nat) : Int))) (((b.2.2.2.2.2.2.2.2.2.2.2.2.1.length : Nat) : Int))) (((b.2.2.2.2.2.2.2.2.2.2.2.2.2.1.length : Nat) : Int))) (((b.2.2.2.2.2.2.2.2.2.2.2.2.2.2.1.length : Nat) : Int))) (qa .i64 (((b.2.2.2.2.2.2.2.2.1.length : Nat) : Int).tdiv 4))) (((b.2.2.2.2.2.2.2.2.2.2.2.2.2.2.2.1.length : Nat) : Int))) (((b.2.2.2.2.2.2.2.2.2.2.2.2.2.2.2.2.1.length : Nat) : Int))) (((b.2.2.2.2.2.2.2.2.2.2.2.2.2.2.2.2.2.1.length : Nat) : Int))) (((b.2.2.2.2.2.2.2.2.2.2.2.2.2.2.2.2.2.2.1.length : Nat) : Int))) (((b.2.2.2.2.2.2.2.2.2.2.2.2.2.2.2.2.2.2.2.1.length : Nat) : Int))) (((b.2.2.2.2.2.2.2.2.2.2.2.2.2.2.2.2.2.2.2.2.1.length : Nat) : Int))) (((b.2.2.2.2.2.2.2.2.2.2.2.2.2.2.2.2.2.2.2.2.2.length : Nat) : Int))
 generalize hm1 : qz (((b.2.2.2.2.2.2.2.1.length : Nat) : Int)) (((b.2.2.2.2.2.2.2.2.2.1.length : Nat) : Int)) = m1 at *
 generalize hm2 : qz m1 (((b.2.2.2.2.2.2.2.2.2.2.1.length : Nat) : Int)) = m2 at *
 generalize hm3 : qz m2 (((b.2.2.2.2.2.2.2.2.2.2.2.1.length : Nat) : Int)) = m3 at *
 generalize hm4 : qz m3 (((b.2.2.2.2.2.2.2.2.2.2.2.2.1.length : Nat) : Int)) = m4 at *
 generalize hm5 : qz m4 (((b.2.2.2.2.2.2.2.2.2.2.2.2.2.1.length : Nat) : Int)) = m5 at *
 generalize hm6 : qz m5 (((b.2.2.2.2.2.2.2.2.2.2.2.2.2.2.1.length : Nat) : Int)) = m6 at *
 generalize hm7 : qz m6 (qa .i64 (((b.2.2.2.2.2.2.2.2.1.length : Nat) : Int).tdiv 4)) = m7 at *
 generalize hm8 : qz m7 (((b.2.2.2.2.2.2.2.2.2.2.2.2.2.2.2.1.length : Nat) : Int)) = m8 at *
 generalize hm9 : qz m8 (((b.2.2.2.2.2.2.2.2.2.2.2.2.2.2.2.2.1.length : Nat) : Int)) = m9 at *
 generalize hm10 : qz m9 (((b.2.2.2.2.2.2.2.2.2.2.2.2.2.2.2.2.2.1.length : Nat) : Int)) = m10 at *
 generalize hm11 : qz m10 (((b.2.2.2.2.2.2.2.2.2.2.2.2.2.2.2.2.2.2.1.length : Nat) : Int)) = m11 at *
 generalize hm12 : qz m11 (((b.2.2.2.2.2.2.2.2.2.2.2.2.2.2.2.2.2.2.2.1.length : Nat) : Int)) = m12 at *
 generalize hm13 : qz m12 (((b.2.2.2.2.2.2.2.2.2.2.2.2.2.2.2.2.2.2.2.2.1.length : Nat) : Int)) = m13 at *
 generalize hm14 : qz m13 (((b.2.2.2.2.2.2.2.2.2.2.2.2.2.2.2.2.2.2.2.2.2.length : Nat) : Int)) = m14 at *
 rw [hw] at e7
 exact { bGrades := by omega, bSections := by omega, bTurns := by omega, bRolls := by omega, bUsed := by omega, bScrapped := by omega, bSpots := by omega, bOrders := by omega, bWaivers := by omega, bShipments := by omega, bClaims := by omega, bCredits := by omega, bBroke := by omega, bPostings := by omega, supp := by omega, ord := fun x hx => by have := g4 x hx; omega, shp := fun x hx => by have := g3 x hx; omega }
theorem qPz (k : Nat) (b : T17.T) (g : GB b) : ∀ (d i j : Nat) (y : Int), i + d = b.2.2.2.2.2.2.2.2.2.2.2.2.2.2.2.2.2.1.length → d < j → y ≤ 512 → VN k j y (i : Int) b = some 0 := by
 have hl := g.bShipments
 intro d
 induction d with
 | zero =>
  intro i j y hi hj hy
  obtain ⟨j, rfl⟩ := qQ (by omega : 0 < j)
  rw [VN, qx (by omega : ¬ (i : Int) < (b.2.2.2.2.2.2.2.2.2.2.2.2.2.2.2.2.2.1.length : Int)), qg, qx (by omega : ¬ y > 512), qg]
 | succ d ih =>
  intro i j y hi hj hy
  obtain ⟨j, rfl⟩ := qQ (by omega : 0 < j)
  have hx := g.shp (b.2.2.2.2.2.2.2.2.2.2.2.2.2.2.2.2.2.1.getD i T11.dflt) (Vh _ _ _ (by omega))
  rw [VN, qA (by omega : (i : Int) < (b.2.2.2.2.2.2.2.2.2.2.2.2.2.2.2.2.2.1.length : Int)), qi, qd ⟨by omega, by omega⟩, qF i (by omega), qc]
  exact ih (i + 1) j _ (by omega) (by omega) (by split <;> omega)
theorem qOo (k : Nat) (b : T17.T) (g : GB b) : ∀ (d i j : Nat) (y : Int), i + d = b.2.2.2.2.2.2.2.2.2.2.2.2.2.2.2.1.length → d + 50 < j → y ≤ 512 → Xc k j y (i : Int) b = some 0 := by
 have hl := g.bOrders
 have hl2 := g.bShipments
 intro d
 induction d with
 | zero =>
  intro i j y hi hj hy
  obtain ⟨j, rfl⟩ := qQ (by omega : 0 < j)
  rw [Xc, qx (by omega : ¬ (i : Int) < (b.2.2.2.2.2.2.2.2.2.2.2.2.2.2.2.1.length : Int)), qg]
  exact qPz k b g (b.2.2.2.2.2.2.2.2.2.2.2.2.2.2.2.2.2.1.length) 0 j y (by omega) (by omega) hy
 | succ d ih =>
  intro i j y hi hj hy
  obtain ⟨j, rfl⟩ := qQ (by omega : 0 < j)
  have hx := g.ord (b.2.2.2.2.2.2.2.2.2.2.2.2.2.2.2.1.getD i T9.dflt) (Vh _ _ _ (by omega))
  rw [Xc, qA (by omega : (i : Int) < (b.2.2.2.2.2.2.2.2.2.2.2.2.2.2.2.1.length : Int)), qi, qd ⟨by omega, by omega, by omega, by omega⟩, qF i (by omega), qc]
  exact ih (i + 1) j _ (by omega) (by omega) (qtA (qtA hy (by omega)) (by omega))
theorem qD9 (k : Nat) (hk : 200 ≤ k) (b : T17.T) (g : GB b) : qet k b = some 0 := by
 unfold qet
 have bGrades := g.bGrades
 have bSections := g.bSections
 have bTurns := g.bTurns
 have bRolls := g.bRolls
 have bUsed := g.bUsed
 have bScrapped := g.bScrapped
 have bSpots := g.bSpots
 have bOrders := g.bOrders
 have bWaivers := g.bWaivers
 have bShipments := g.bShipments
 have bClaims := g.bClaims
 have bCredits := g.bCredits
 have bBroke := g.bBroke
 have bPostings := g.bPostings
 have bSup := g.supp
 refine qOo k b g (b.2.2.2.2.2.2.2.2.2.2.2.2.2.2.2.1.length) 0 k _ (by omega) (by omega) ?_
 repeat' refine qtA ?_ ?_
 all_goals omega
theorem qOI (k : Nat) (hk : 200 ≤ k) (b : T17.T) (g : GB b) : qe4 k b = 0 := by
 unfold qe4; rw [qD9 k hk b g]; rfl
theorem qLR (k : Nat) (l : List Int) (hl : l.length ≤ 100000) (hb : ∀ x ∈ l, x ≤ 512) : ∀ (d i j : Nat), i + d = l.length → d < j → VR k j (l.length : Int) (i : Int) l = some false := by
 intro d
 induction d with
 | zero =>
  intro i j hi hj
  obtain ⟨j, rfl⟩ := qQ (by omega : 0 < j)
  rw [VR, qx (by omega : ¬ (i : Int) < (l.length : Int)), qg]
 | succ d ih =>
  intro i j hi hj
  obtain ⟨j, rfl⟩ := qQ (by omega : 0 < j)
  have hx := hb (l.getD i I.dflt) (Vh _ _ _ (by omega))
  rw [VR, qA (by omega : (i : Int) < (l.length : Int)), qi, qd ⟨by omega, by omega⟩, qF i (by omega), qc, qx (by omega : ¬ l.getD i I.dflt > 512), qg]
  exact ih (i + 1) j (by omega) (by omega)
theorem qNF (k : Nat) (l : List T11.T) (hl : l.length ≤ 40) (hs : ∀ x ∈ l, x.2.2.length ≤ 40) : ∀ (d i j : Nat) (a : List Int), i + d = l.length → 2 * d + a.length + 100 < j → a.length + d ≤ 1000 → (∀ x ∈ a, x ≤ 512) → YP k j l (l.length : Int) (i : Int) a = some false := by
 intro d
 induction d with
 | zero =>
  intro i j a hi hj ha hb
  obtain ⟨j, rfl⟩ := qQ (by omega : 0 < j)
  rw [YP, qx (by omega : ¬ (i : Int) < (l.length : Int)), qg]
  exact qLR k a (by omega) hb a.length 0 j (by omega) (by omega)
 | succ d ih =>
  intro i j a hi hj ha hb
  obtain ⟨j, rfl⟩ := qQ (by omega : 0 < j)
  have hx := hs (l.getD i T11.dflt) (Vh _ _ _ (by omega))
  rw [YP, qA (by omega : (i : Int) < (l.length : Int)), qi, qd ⟨by omega, by omega⟩, qF i (by omega), qc, qd (by simp only [qk]; omega)]
  refine ih (i + 1) j _ (by omega) (by simp; omega) (by simp; omega) fun x hx' => ?_
  rcases zW.1 hx' with h | h
  ·exact hb x h
  ·rw [List.mem_singleton] at h; omega
theorem qRk (k : Nat) (b : T17.T) (g : GB b) (l : List T9.T) (hl : l.length ≤ 40) (hs : ∀ x ∈ l, x.2.1.length ≤ 40 ∧ x.2.2.1.length ≤ 40) : ∀ (d i j : Nat) (a : List Int), i + d = l.length → 3 * d + a.length + 200 < j → a.length + 2 * d ≤ 500 → (∀ x ∈ a, x ≤ 512) → YQ k j l (l.length : Int) (i : Int) b a = some false := by
 intro d
 induction d with
 | zero =>
  intro i j a hi hj ha hb
  obtain ⟨j, rfl⟩ := qQ (by omega : 0 < j)
  have := g.bShipments
  rw [YQ, qx (by omega : ¬ (i : Int) < (l.length : Int)), qg]
  exact qNF k (b.2.2.2.2.2.2.2.2.2.2.2.2.2.2.2.2.2.1) (by omega) g.shp (b.2.2.2.2.2.2.2.2.2.2.2.2.2.2.2.2.2.1.length) 0 j a (by omega) (by omega) (by omega) hb
 | succ d ih =>
  intro i j a hi hj ha hb
  obtain ⟨j, rfl⟩ := qQ (by omega : 0 < j)
  have hx := hs (l.getD i T9.dflt) (Vh _ _ _ (by omega))
  rw [YQ, qA (by omega : (i : Int) < (l.length : Int)), qi, qd ⟨by omega, by omega⟩, qF i (by omega), qc, qd (by simp only [wc, List.length_nil]; omega)]
  refine ih (i + 1) j _ (by omega) (by simp; omega) (by simp; omega) fun x hx' => ?_
  rcases zW.1 hx' with h | h
  ·exact hb x h
  ·simp only [qK, List.not_mem_nil, or_false] at h
   omega
theorem qAL (k : Nat) (hk : 1000 ≤ k) (b : T17.T) (g : GB b) : qaY k b = some false := by
 unfold qaY
 have bGrades := g.bGrades
 have bSections := g.bSections
 have bTurns := g.bTurns
 have bRolls := g.bRolls
 have bUsed := g.bUsed
 have bScrapped := g.bScrapped
 have bSpots := g.bSpots
 have bOrders := g.bOrders
 have bWaivers := g.bWaivers
 have bShipments := g.bShipments
 have bClaims := g.bClaims
 have bCredits := g.bCredits
 have bBroke := g.bBroke
 have bPostings := g.bPostings
 have bSup := g.supp
 refine qRk k b g (b.2.2.2.2.2.2.2.2.2.2.2.2.2.2.2.1) (by omega) g.ord (b.2.2.2.2.2.2.2.2.2.2.2.2.2.2.2.1.length) 0 k _ (by omega) (by simp; omega) (by simp; omega) fun x hx => ?_
 simp only [qK, List.not_mem_nil, or_false] at hx
 omega
theorem qOW (k : Nat) (hk : 1000 ≤ k) (b : T17.T) (g : GB b) : qcW k b = false := by
 unfold qcW; rw [qAL k hk b g]; rfl
end Go.AM
namespace Go.AM
open Go Go.Proofs
noncomputable section
abbrev qrt : Type := T17.T × List T18.T
def qwO (r : qrt) : AV := .tup []
def qBC (a : T17.T) (b : List T18.T) (d : Int) (e : Int) (f : Int) (r : qrt) : List (Nat × Blk) := [(0, .var 140 ((qy (qr T17 r.1)) ++ [.own 1 1])), (1, .row 54 T18 r.2)]
abbrev qH8 (a : T17.T) (b : List T18.T) (d : Int) (e : Int) (f : Int) (r : qrt) : Prop := CC Tryz.prog 75 [.ptr 0 0 0, ri d, ri e, ri f] [.var 140 (qy (qr T17 a) ++ [.own 1 0]), .row 54 T18 b] (qwO r) (qBC a b d e f r)
def wR (k : Nat) (a : T17.T) (b : List T18.T) (d : Int) (e : Int) (f : Int) : Option qrt :=
 if ((b.length + [(d, e, f)].length) * (24 : Nat) ≤ (140737488355328 : Nat)) then
 some (a, b ++ [(d, e, f)])
 else none
def q9 := fun k a b d e f => (wR k a b d e f).getD ((T17).dflt, [])
def qar (k : Nat) : Ke := (75, fun
 | [.ptr _ _ _, _, _, _] => some [true, false, false, false]
 | _ => none, fun
 | [.ptr 0 0 0, .r (.v (.int .i64 d)), .r (.v (.int .i64 e)), .r (.v (.int .i64 f))], [.var 140 g, .row 54 tb_22_ qb_22] => (qW [] T17 (g.take 22)).bind fun a => (qE tb_22_ T18 qb_22).bind fun b => some (.one (qwO (q9 k a b d e f), qBC a b d e f (q9 k a b d e f)))
 | _, _ => none)
theorem qOl (k a b d e f r) (h : wR k a b d e f = some r): qH8 a b d e f r := qN Tryz.f75 (go (qD []) [] [] [.autoB [] true [1]] (qu h id fun h => gL h))
theorem wN {k a b d e f} (h : (wR k a b d e f).isSome): qH8 a b d e f (q9 k a b d e f) := qJ h (qOl k a b d e f)
def qBN (a : T17.T) (b : List T18.T) (d : T21.T) (e : T4.T) (r : Bool) : List (Nat × Blk) := [(0, .var 140 (qy (qr T17 a) ++ [.own 1 0])), (0, .row 54 T18 b)]
abbrev qIc (a : T17.T) (b : List T18.T) (d : T21.T) (e : T4.T) (r : Bool) : Prop := CC Tryz.prog 82 [.ptr 0 0 0, .agg (qy (qr T21 d)), .agg (qy (qr T4 e))] [.var 140 (qy (qr T17 a) ++ [.own 1 0]), .row 54 T18 b] (rb r) (qBN a b d e r)
def qrs (k : Nat) (a : T17.T) (b : List T18.T) (d : T21.T) (e : T4.T) : Option Bool :=
 if ((e.1 == (0 : Int) && e.2.1 == a.2.1 && (!e.2.2.1) && (↑ (qe e.2.2.2) : Int) == (1 : Int)) = true → (0 : Int) ≤ (0 : Int)) ∧ ((e.1 == (0 : Int) && e.2.1 == a.2.1 && (!e.2.2.1) && (↑ (qe e.2.2.2) : Int) == (1 : Int)) = true → (0 : Int) < (↑ (qe e.2.2.2) : Int)) then
 some (e.1 == 0 && e.2.1 == a.2.1 && (!e.2.2.1) && (↑ (qe e.2.2.2) : Int) == 1 && Vo T3 (qM e.2.2.2 (qt 0) T3.dflt) (d.1, qa .i64 (d.2 - d.1), false))
 else none
def qrg := fun k a b d e => (qrs k a b d e).getD false
def qOn (k : Nat) : Ke := (82, fun
 | [.ptr _ _ _, _, _] => some [true, false, false]
 | _ => none, fun
 | [.ptr 0 0 0, .agg i, .agg g], [.var 140 f, .row 54 tb_22_ qb_22] => (qW [] T21 i).bind fun d => (qW [] T4 g).bind fun e => (qW [] T17 (f.take 22)).bind fun a => (qE tb_22_ T18 qb_22).bind fun b => some (.one (rb (qrg k a b d e), qBN a b d e (qrg k a b d e)))
 | _, _ => none)
theorem qRr (k a b d e r) (h : qrs k a b d e = some r): qIc a b d e r := qN Tryz.f82 (go (qD []) [] [] [.autoB [6] true []] (qS h fun h => gL h))
theorem qN1 {k a b d e} (h : (qrs k a b d e).isSome): qIc a b d e (qrg k a b d e) := qJ h (qRr k a b d e)
abbrev qjP : Type := T17.T × List T18.T
def qnN (r : qjP) : AV := .tup []
def qsk (a : T17.T) (b : List T18.T) (r : qjP) : List (Nat × Blk) := [(0, .var 140 ((qy (qr T17 r.1)) ++ [.own 1 1])), (1, .row 54 T18 r.2)]
abbrev qHF (a : T17.T) (b : List T18.T) (r : qjP) : Prop := CC Tryz.prog 37 [.ptr 0 0 0] [.var 140 (qy (qr T17 a) ++ [.own 1 0]), .row 54 T18 b] (qnN r) (qsk a b r)
def qDi := fun (a : T17.T) (b : List T18.T) y0 y1 y2 y3 y4 y5 y6 => (⟨qI 143 [(0, .ptr 0 0 0), (7, ro T21 y0), (8, .own 1000000 0), (93, ro T5 y1), (94, ri y2), (95, ri y3)], [(0, 0, .var 140 ((qy (qr T17 y4)) ++ [.own 1 1])), (1, 1, .row 54 T18 y5), (1000000, 0, .row 45 T4 y6)]⟩ : St)
def qAW := fun (a : T17.T) (b : List T18.T) y0 y1 y2 y3 y4 y5 => (⟨qI 143 [(0, .ptr 0 0 0), (7, ro T21 y0), (8, .own 1000000 0), (112, ri y1), (113, ri y2)], [(0, 0, .var 140 ((qy (qr T17 y3)) ++ [.own 1 1])), (1, 1, .row 54 T18 y4), (1000000, 0, .row 45 T4 y5)]⟩ : St)
mutual
def ZB (k : Nat) (a : T17.T) (b : List T18.T) : Nat → List T21.T → List T5.T → Int → Int → T17.T → List T18.T → List T4.T → Option qjP
 | 0, _, _, _, _, _, _, _ => none
 | j + 1, y0, y1, y2, y3, y4, y5, y6 =>
 bif y3 < y2 then
 if (0 ≤ y3) ∧ (y3 < y1.length) then
 bif ((y1.getD y3.toNat T5.dflt).2.1 == (0 : Int)) then
 if ((y6.length + [(y1.getD y3.toNat T5.dflt).2.2].length) * (48 : Nat) ≤ (140737488355328 : Nat)) then
 ZB k a b j y0 y1 y2 (qa .i64 (y3 + 1)) y4 y5 (y6 ++ [(y1.getD y3.toNat T5.dflt).2.2])
 else none
 else
 ZB k a b j y0 y1 y2 (qa .i64 (y3 + 1)) y4 y5 y6
 else none
 else
 qgc k a b j y0 (if (↑y6.length : Int) > (↑y0.length : Int) then (↑y6.length : Int) else (↑y0.length : Int)) 0 y4 y5 y6
def qgc (k : Nat) (a : T17.T) (b : List T18.T) : Nat → List T21.T → Int → Int → T17.T → List T18.T → List T4.T → Option qjP
 | 0, _, _, _, _, _, _ => none
 | j + 1, y0, y1, y2, y3, y4, y5 =>
 bif y2 < y1 then
 bif (decide (y2 ≥ y0.length) || decide (y2 ≥ y5.length)) then
 if ((decide (y2 ≥ y0.length) || decide (y2 ≥ y5.length)) = true) then
 if ((wR k y3 y4 2 y2 0).isSome) then
 some ((q9 k y3 y4 2 y2 0).1, (q9 k y3 y4 2 y2 0).2)
 else none
 else none
 else
 if ((decide (y2 ≥ y0.length) || decide (y2 ≥ y5.length)) = false) ∧ (0 ≤ y2) ∧ (y2 < y0.length) ∧ (0 ≤ y2) ∧ (y2 < y5.length) ∧ ((qrs k y3 y4 (y0.getD y2.toNat T21.dflt) (y5.getD y2.toNat T4.dflt)).isSome) then
 bif (false || (!qrg k y3 y4 (y0.getD y2.toNat T21.dflt) (y5.getD y2.toNat T4.dflt))) then
 if ((wR k y3 y4 2 y2 0).isSome) then
 some ((q9 k y3 y4 2 y2 0).1, (q9 k y3 y4 2 y2 0).2)
 else none
 else
 qgc k a b j y0 y1 (qa .i64 (y2 + 1)) y3 y4 y5
 else none
 else
 some (y3, y4)
end
def qlS (k : Nat) (a : T17.T) (b : List T18.T) : Option qjP :=
 if ((Xw k a.2.2.2.2.2.2.2.2.2.1).isSome) then
 bif (QL k a.2.2.2.2.2.2.2.2.2.1 != (0 : Int)) then
 if ((wR k a b 1 (QL k a.2.2.2.2.2.2.2.2.2.1) 0).isSome) then
 some ((q9 k a b 1 (QL k a.2.2.2.2.2.2.2.2.2.1) 0).1, (q9 k a b 1 (QL k a.2.2.2.2.2.2.2.2.2.1) 0).2)
 else none
 else
 bif (↑ (qe a.2.2.2.2.2.2.2.2.2.1) : Int) > (0 : Int) then
 if ((0 : Int) ≤ qa .i64 ((↑ (qe a.2.2.2.2.2.2.2.2.2.1) : Int) - (1 : Int))) ∧ (qa .i64 ((↑ (qe a.2.2.2.2.2.2.2.2.2.1) : Int) - (1 : Int)) < (↑ (qe a.2.2.2.2.2.2.2.2.2.1) : Int)) then
 bif ((qM a.2.2.2.2.2.2.2.2.2.1 (qa .i64 ((↑ (qe a.2.2.2.2.2.2.2.2.2.1) : Int) - (1 : Int))).toNat T2.dflt).2.1 != a.2.2.1) then
 if ((wR k a b 1 0 (qM a.2.2.2.2.2.2.2.2.2.1 (qa .i64 ((↑ (qe a.2.2.2.2.2.2.2.2.2.1) : Int) - 1)).toNat T2.dflt).2.1).isSome) then
 some ((q9 k a b 1 0 (qM a.2.2.2.2.2.2.2.2.2.1 (qa .i64 ((↑ (qe a.2.2.2.2.2.2.2.2.2.1) : Int) - 1)).toNat T2.dflt).2.1).1, (q9 k a b 1 0 (qM a.2.2.2.2.2.2.2.2.2.1 (qa .i64 ((↑ (qe a.2.2.2.2.2.2.2.2.2.1) : Int) - 1)).toNat T2.dflt).2.1).2)
 else none
 else
 if ((qau k a.2.2.2.2.2.2.2.2.2.1 (0, a.2.2.2.1)).isSome) then
 bif ((wX k a.2.2.2.2.2.2.2.2.2.1 ((0 : Int), a.2.2.2.1)).2 == (0 : Int)) then
 if ((qh0 k (wX k a.2.2.2.2.2.2.2.2.2.1 (0, a.2.2.2.1)).1 a.2.2.2.2.2.2.2.2.2.2.1 a.2.2.2.2.1).isSome) then
 bif ((WV k (wX k a.2.2.2.2.2.2.2.2.2.1 ((0 : Int), a.2.2.2.1)).1 a.2.2.2.2.2.2.2.2.2.2.1 a.2.2.2.2.1).2.2 != (0 : Int)) then
 if ((wR k a b 2 (-1) (WV k (wX k a.2.2.2.2.2.2.2.2.2.1 (0, a.2.2.2.1)).1 a.2.2.2.2.2.2.2.2.2.2.1 a.2.2.2.2.1).2.2).isSome) then
 some ((q9 k a b 2 (-1) (WV k (wX k a.2.2.2.2.2.2.2.2.2.1 (0, a.2.2.2.1)).1 a.2.2.2.2.2.2.2.2.2.2.1 a.2.2.2.2.1).2.2).1, (q9 k a b 2 (-1) (WV k (wX k a.2.2.2.2.2.2.2.2.2.1 (0, a.2.2.2.1)).1 a.2.2.2.2.2.2.2.2.2.2.1 a.2.2.2.2.1).2.2).2)
 else none
 else
 ZB k a b k ((WV k (wX k a.2.2.2.2.2.2.2.2.2.1 (0, a.2.2.2.1)).1 a.2.2.2.2.2.2.2.2.2.2.1 a.2.2.2.2.1).1) a.2.2.2.2.2.2.2.2.2.2.2.1 (↑ (qe a.2.2.2.2.2.2.2.2.2.2.2.1) : Int) 0 a b ([])
 else none
 else
 bif ((wX k a.2.2.2.2.2.2.2.2.2.1 ((0 : Int), a.2.2.2.1)).2 != (0 : Int)) then
 if ((wR k a b 2 (-1) (wX k a.2.2.2.2.2.2.2.2.2.1 (0, a.2.2.2.1)).2).isSome) then
 some ((q9 k a b 2 (-1) (wX k a.2.2.2.2.2.2.2.2.2.1 (0, a.2.2.2.1)).2).1, (q9 k a b 2 (-1) (wX k a.2.2.2.2.2.2.2.2.2.1 (0, a.2.2.2.1)).2).2)
 else none
 else
 ZB k a b k ([]) a.2.2.2.2.2.2.2.2.2.2.2.1 (↑ (qe a.2.2.2.2.2.2.2.2.2.2.2.1) : Int) 0 a b ([])
 else none
 else none
 else
 bif ((0 : Int) != a.2.2.1) then
 if ((wR k a b 1 0 0).isSome) then
 some ((q9 k a b 1 0 0).1, (q9 k a b 1 0 0).2)
 else none
 else
 if ((qau k a.2.2.2.2.2.2.2.2.2.1 (0, a.2.2.2.1)).isSome) then
 bif ((wX k a.2.2.2.2.2.2.2.2.2.1 ((0 : Int), a.2.2.2.1)).2 == (0 : Int)) then
 if ((qh0 k (wX k a.2.2.2.2.2.2.2.2.2.1 (0, a.2.2.2.1)).1 a.2.2.2.2.2.2.2.2.2.2.1 a.2.2.2.2.1).isSome) then
 bif ((WV k (wX k a.2.2.2.2.2.2.2.2.2.1 ((0 : Int), a.2.2.2.1)).1 a.2.2.2.2.2.2.2.2.2.2.1 a.2.2.2.2.1).2.2 != (0 : Int)) then
 if ((wR k a b 2 (-1) (WV k (wX k a.2.2.2.2.2.2.2.2.2.1 (0, a.2.2.2.1)).1 a.2.2.2.2.2.2.2.2.2.2.1 a.2.2.2.2.1).2.2).isSome) then
 some ((q9 k a b 2 (-1) (WV k (wX k a.2.2.2.2.2.2.2.2.2.1 (0, a.2.2.2.1)).1 a.2.2.2.2.2.2.2.2.2.2.1 a.2.2.2.2.1).2.2).1, (q9 k a b 2 (-1) (WV k (wX k a.2.2.2.2.2.2.2.2.2.1 (0, a.2.2.2.1)).1 a.2.2.2.2.2.2.2.2.2.2.1 a.2.2.2.2.1).2.2).2)
 else none
 else
 ZB k a b k ((WV k (wX k a.2.2.2.2.2.2.2.2.2.1 (0, a.2.2.2.1)).1 a.2.2.2.2.2.2.2.2.2.2.1 a.2.2.2.2.1).1) a.2.2.2.2.2.2.2.2.2.2.2.1 (↑ (qe a.2.2.2.2.2.2.2.2.2.2.2.1) : Int) 0 a b ([])
 else none
 else
 bif ((wX k a.2.2.2.2.2.2.2.2.2.1 ((0 : Int), a.2.2.2.1)).2 != (0 : Int)) then
 if ((wR k a b 2 (-1) (wX k a.2.2.2.2.2.2.2.2.2.1 (0, a.2.2.2.1)).2).isSome) then
 some ((q9 k a b 2 (-1) (wX k a.2.2.2.2.2.2.2.2.2.1 (0, a.2.2.2.1)).2).1, (q9 k a b 2 (-1) (wX k a.2.2.2.2.2.2.2.2.2.1 (0, a.2.2.2.1)).2).2)
 else none
 else
 ZB k a b k ([]) a.2.2.2.2.2.2.2.2.2.2.2.1 (↑ (qe a.2.2.2.2.2.2.2.2.2.2.2.1) : Int) 0 a b ([])
 else none
 else none
def qgm := fun k a b => (qlS k a b).getD ((T17).dflt, [])
def ql2 (k : Nat) : Ke := (37, fun
 | [.ptr _ _ _] => some [true]
 | _ => none, fun
 | [.ptr 0 0 0], [.var 140 d, .row 54 tt_22_ qt_22] => (qW [] T17 (d.take 22)).bind fun a => (qE tt_22_ T18 qt_22).bind fun b => some (.one (qnN (qgm k a b), qsk a b (qgm k a b)))
 | _, _ => none)
def qJp (k : Nat) : Calld := qD [qar k, qfk k, qn7 k, qK5 k, qOn k]
def qEl : List (Nat × List Cmd) := [(17, [.frz 7 false (RTy.list T21), .row 8 45 T4, .autoB [0, 7, 8, 93, 94, 95] false [1]]), (23, [.autoB [0, 7, 8, 112, 113] false [1]])]
abbrev qHE := fun a b => EE Tryz.f37 2 qnN (qsk a b)
theorem qhr (k a b) : ∀ j, (∀ {y0 y1 y2 y3 y4 y5 y6}, qHE a b (Qc Tryz.f37 17) (qDi a b y0 y1 y2 y3 y4 y5 y6) (ZB k a b j y0 y1 y2 y3 y4 y5 y6)) ∧ (∀ {y0 y1 y2 y3 y4 y5}, qHE a b (Qc Tryz.f37 23) (qAW a b y0 y1 y2 y3 y4 y5) (qgc k a b j y0 y1 y2 y3 y4 y5))
 | 0 => by and_intros <;> intros <;> exact e0
 | j + 1 => by
  have ih := @qhr k a b j
  have g := @go (qJp k) [] qEl [.autoB [] true [1]]
  refine ⟨?_, ?_⟩
  ·intro y0 y1 y2 y3 y4 y5 y6 r h
   rw [ZB] at h
   exact g (gS h (fun h => qS h fun h => gS h (fun h => qu h id fun h => gD h 17 ih.1) fun h => gD h 17 ih.1) fun h => gD h 23 ih.2)
  ·intro y0 y1 y2 y3 y4 y5 r h
   rw [qgc] at h
   exact g (gS h (fun h => gS h (fun h => qu h id fun h => gU1 h (.cut 23 (Qc Tryz.f37 23) ⟨qI 143 [(0, .ptr 0 0 0), (7, .r (.ro T21 y0)), (8, .own 1000000 0), (112, .r (.v (.int .i64 y1))), (113, .r (.v (.int .i64 (qa .i64 (y2 + 1)))))], [(0, 0, .var 140 ((qy (qr T17 y3)) ++ [.own 1 1])), (1, 1, .row 54 T18 y4), (1000000, 0, .row 45 T4 y5)]⟩) fun h => qu h wN fun h => gL h) fun h => gN h (fun q => qf q.1 (qf q.2.1 (qf q.2.2.1 (qf q.2.2.2.1 (qf q.2.2.2.2.1 (qf (qN1 q.2.2.2.2.2) qR)))))) fun h => gS h (fun h => qu h wN fun h => gL h) fun h => gD h 23 ih.2) fun h => gL h)
theorem qQV (k a b r) (h : qlS k a b = some r): qHF a b r := qN Tryz.f37 (go (qJp k) [] qEl [.autoB [] true [1]] (qu h qj6 fun h => gS h (fun h => qu h wN fun h => gL h) fun h => gS h (fun h => qS h fun h => gS h (fun h => qu h wN fun h => gL h) fun h => qu h qnD fun h => gS h (fun h => qu h qw0 fun h => gS h (fun h => qu h wN fun h => gL h) fun h => gD h 17 (qhr k a b k).1) fun h => gS h (fun h => qu h wN fun h => gL h) fun h => gD h 17 (qhr k a b k).1) fun h => gS h (fun h => qu h wN fun h => gL h) fun h => qu h qnD fun h => gS h (fun h => qu h qw0 fun h => gS h (fun h => qu h wN fun h => gL h) fun h => gD h 17 (qhr k a b k).1) fun h => gS h (fun h => qu h wN fun h => gL h) fun h => gD h 17 (qhr k a b k).1))
theorem qCn {k a b} (h : (qlS k a b).isSome): qHF a b (qgm k a b) := qJ h (qQV k a b)
end
end Go.AM
namespace Go.AM
open Go Go.Proofs
noncomputable section
end
end Go.AM
namespace Go.AM
open Go Go.Proofs
noncomputable section
def qAv (r : T17.T) : AV := .sub 2 0 1 0 1
def qHK (a : T17.T) (b : List T18.T) (r : T17.T) : List (Nat × Blk) := [(0, .var 140 ((qy (qr T17 r)) ++ [.own 1 0])), (0, .row 54 T18 b), (0, .var 1 [.fn (Fn.func 37) [.ptr 0 0 0] []])]
abbrev qNJ (a : T17.T) (b : List T18.T) (r : T17.T) : Prop := CC Tryz.prog 36 [.ptr 0 0 0] [.var 140 (qy (qr T17 a) ++ [.own 1 0]), .row 54 T18 b] (qAv r) (qHK a b r)
def qyt (k : Nat) (a : T17.T) (b : List T18.T) : Option T17.T :=
 some a
def qyU := fun k a b => (qyt k a b).getD (T17).dflt
def qHr (k : Nat) : Ke := (36, fun
 | [.ptr _ _ _] => some [true]
 | _ => none, fun
 | [.ptr 0 0 0], [.var 140 d, .row 54 tx_22_ qx_22] => (qW [] T17 (d.take 22)).bind fun a => (qE tx_22_ T18 qx_22).bind fun b => some (.one (qAv (qyU k a b), qHK a b (qyU k a b)))
 | _, _ => none)
theorem qR6 (k a b r) (h : qyt k a b = some r): qNJ a b r := qN Tryz.f36 (go (qD [ql2 k]) [] [] [.autoB [2] true []] (gL h))
theorem qR7 {k a b} (h : (qyt k a b).isSome): qNJ a b (qyU k a b) := qJ h (qR6 k a b)
abbrev qmD : Type := List T18.T × Int
def qnJ (r : qmD) : AV := .tup [ro T18 r.1, ri r.2]
abbrev qHR (a : T17.T) (r : qmD) : Prop := CC Tryz.prog 33 [.agg (qy (qr T17 a)), .r (.v (.func (.func 36) #[] #[]))] [] (qnJ r) (nb r)
def qs5 := fun y0 y1 => (⟨qI 29 [(6, .ptr 1000000 0 0), (16, .sub 1000002 0 1 0 1), (17, ri 1), (18, ri 0)], [(1000000, 0, .var 140 ((qy (qr T17 y0)) ++ [.own 1000001 0])), (1000001, 0, .row 54 T18 y1), (1000002, 0, .var 1 [.fn (Fn.func 37) [.ptr 1000000 0 0] []])]⟩ : St)
def qsU := fun y0 y1 => (⟨qI 29 [(6, .ptr 1000000 0 0), (16, .sub 1000002 0 1 0 1), (17, ri 1), (18, ri 1)], [(1000000, 0, .var 140 ((qy (qr T17 y0)) ++ [.own 1000001 0])), (1000001, 0, .row 54 T18 y1), (1000002, 0, .var 1 [.fn (Fn.func 37) [.ptr 1000000 0 0] []])]⟩ : St)
mutual
def qdV (k : Nat) : Nat → T17.T → List T18.T → Option qmD
 | 0, _, _ => none
 | j + 1, y0, y1 =>
 if ((0 : Int) ≤ (0 : Int)) ∧ ((0 : Int) < (↑ (1 : Nat) : Int)) then
 if ((qlS k y0 y1).isSome) then
 qdz k j ((qgm k y0 y1).1) ((qgm k y0 y1).2)
 else none
 else none
def qdz (k : Nat) : Nat → T17.T → List T18.T → Option qmD
 | 0, _, _ => none
 | j + 1, y0, y1 =>
 some (y1, 0)
end
def qrx (k : Nat) (a : T17.T) : Option qmD :=
 if ((qaY k a).isSome) then
 bif (qcW k a) then
 some ([], 8)
 else
 if ((qyt k a []).isSome) then
 qdV k k (qyU k a []) ([])
 else none
 else none
def qrn := fun k a => (qrx k a).getD ([], 0)
def qPb (k : Nat) : Ke := (33, fun
 | [_, .r (.v (.func (.func 36) _ _))] => some [false, false]
 | _ => none, fun
 | [.agg b, .r (.v (.func (.func 36) _ _))], [] => (qW [] T17 b).bind fun a => some (.one (qnJ (qrn k a), []))
 | _, _ => none)
def qHL (k : Nat) : Calld := qD [qmL k, ql2 k, qHr k]
def qB5 : List (Nat × List Cmd) := [(5, [.key 18, .autoB [6, 16, 17, 18] false []])]
abbrev qIB := EP Tryz.f33 0 qnJ nb
theorem qA9 (k) : ∀ j, (∀ {y0 y1}, qIB 5 (qs5 y0 y1) (qdV k j y0 y1)) ∧ (∀ {y0 y1}, qIB 5 (qsU y0 y1) (qdz k j y0 y1))
 | 0 => by and_intros <;> intros <;> exact e0
 | j + 1 => by
  have ih := @qA9 k j
  have g := @go (qHL k) [] qB5 [.frz 4 false (RTy.list T18), .autoB [4, 5] true []]
  refine ⟨?_, ?_⟩
  ·intro y0 y1 r h
   rw [qdV] at h
   exact g (gU1 h (.leaf (.tup [.r (.ro T18 y1), .r (.v (.int .i64 0))]) []) fun h => qS h fun h => qu h qCn fun h => gD h 20005 ih.2)
  ·intro y0 y1 r h
   rw [qdz] at h
   exact g (gU2 h (.stuck 5001) fun h => gL h)
theorem qRf (k a r) (h : qrx k a = some r): qHR a r := qN Tryz.f33 (go (qHL k) [] qB5 [.frz 4 false (RTy.list T18), .autoB [4, 5] true []] (qu h qmc fun h => qB h fun h => qu h qR7 fun h => gD h 10005 (qA9 k k).1))
theorem qO0 {k a} (h : (qrx k a).isSome): qHR a (qrn k a) := qJ h (qRf k a)
abbrev qGT : Type := List T18.T × Int
def qEA (r : qGT) : AV := .tup [ro T18 r.1, ri r.2]
abbrev qPv (a : T17.T) (r : qGT) : Prop := CC Tryz.prog 15 [.agg (qy (qr T17 a))] [] (qEA r) (nb r)
def qxQ (k : Nat) (a : T17.T) : Option qGT :=
 if ((qrx k a).isSome) then
 some ((qrn k a).1, (qrn k a).2)
 else none
def qoC := fun k a => (qxQ k a).getD ([], 0)
def qSF (k : Nat) : Ke := (15, mo 1, fun
 | [.agg b], [] => (qW [] T17 b).bind fun a => some (.one (qEA (qoC k a), []))
 | _, _ => none)
theorem qRY (k a r) (h : qxQ k a = some r): qPv a r := qN Tryz.f15 (go (qD [qHr k, qPb k]) [] [] [.frz 2 false (RTy.list T18), .autoB [2, 3] true []] (qu h qO0 fun h => gL h))
theorem qRR {k a} (h : (qxQ k a).isSome): qPv a (qoC k a) := qJ h (qRY k a)
end
abbrev wO := Int × Int × Int
theorem WS (k : Nat) (b : T17.T) (fnd : List wO) (x y z : Int) (h : fnd.length ≤ 1000000) : wR k b fnd x y z = some (b, fnd ++ [(x, y, z)]) := by
 unfold wR
 rw [qd (by simp only [qk]; omega)]
theorem ZQ (k : Nat) (b : T17.T) (fnd : List wO) (x y z : Int) (h : fnd.length ≤ 1000000) : q9 k b fnd x y z = (b, fnd ++ [(x, y, z)]) := by
 unfold q9; rw [WS k b fnd x y z h]; rfl
end Go.AM
namespace Go.AM
open Go
abbrev Rn := Int × Int × Bool   -- At, Len, Back
def good (r : Rn) : Prop := 1 ≤ r.2.1 ∧ r.2.1 ≤ 17179869184 ∧ 0 ≤ r.1 ∧ r.1 < 17179869184 ∧ (r.2.2 = true → 0 ≤ r.1 - r.2.1 + 1) ∧ (r.2.2 = false → r.1 + r.2.1 ≤ 17179869184)
instance (r : Rn) : Decidable (good r) := by unfold good; infer_instance
def qv : List Rn → Int
 | [] => 0
 | r :: t => r.2.1 + qv t
def goods : List Rn → Prop
 | [] => True
 | r :: t => good r ∧ goods t
instance : (l : List Rn) → Decidable (goods l)
 | [] => .isTrue trivial
 | r :: t => @instDecidableAnd _ _ _ (instDecidableGoods t)
def chk (m : List Rn) : Int := if m.length > 256 then 8 else if goods m then (if qv m > 17179869184 then 21 else 0) else 1
theorem W0 (a b : List Rn) : qv (a ++ b) = qv a + qv b := by
 induction a with
 | nil => simp [qv]
 | cons r t ih => simp only [qpk, qv, ih]; omega
theorem Qg (a b : List Rn) : goods (a ++ b) ↔ goods a ∧ goods b := by
 induction a with
 | nil => simp [goods]
 | cons r t ih => simp only [qpk, goods, ih]; exact and_assoc.symm
theorem goods.mem : ∀ {l : List Rn}, goods l → ∀ r ∈ l, good r
 | [], _, r, h => by simp at h
 | u :: t, ⟨h1, h2⟩, r, hr => by
  rcases qK.1 hr with rfl | hr
  ·exact h1
  ·exact goods.mem h2 r hr
theorem goods.of : ∀ {l : List Rn}, (∀ r ∈ l, good r) → goods l
 | [], _ => trivial
 | u :: t, h => ⟨h u (by simp), goods.of fun r hr => h r (by simp [hr])⟩
theorem zf : ∀ {l : List Rn}, goods l → (l.length : Int) ≤ qv l
 | [], _ => by simp [qv]
 | r :: t, ⟨h1, h2⟩ => by
  have := zf h2
  have := h1.1
  simp only [qv, wc]; omega
structure Chk (m : List Rn) : Prop where
 len : m.length ≤ 256
 goods : goods m
 tot : qv m ≤ 17179869184
theorem wW {m : List Rn} : chk m = 0 ↔ Chk m := by
 unfold chk
 constructor
 ·intro h
  by_cases h1 : m.length > 256
  ·rw [qd h1] at h; omega
  ·rw [qm h1] at h
   by_cases h2 : goods m
   ·rw [qd h2] at h
    by_cases h3 : qv m > 17179869184
    ·rw [qd h3] at h; omega
    ·exact ⟨by omega, h2, by omega⟩
   ·rw [qm h2] at h; omega
 ·rintro ⟨h1, h2, h3⟩
  rw [qm (by omega), qd h2, qm (by omega)]
def wh (r : Rn) (x : Int) : Int := if r.2.2 = true then r.1 - x else r.1 + x
def wb : List Rn → Int → Int
 | [], _ => 0
 | r :: t, x => if x < r.2.1 then wh r x else wb t (x - r.2.1)
def lo (r : Rn) : Int := if r.2.2 = true then r.1 - r.2.1 + 1 else r.1
def hi (r : Rn) : Int := if r.2.2 = true then r.1 else r.1 + r.2.1 - 1
def vZ (r : Rn) : Sp := (lo r, hi r + 1)
theorem good.lohi {r : Rn} (h : good r) : 0 ≤ lo r ∧ lo r ≤ hi r ∧ hi r < 17179869184 ∧ hi r - lo r + 1 = r.2.1 := by
 obtain ⟨h1, h2, h3, h4, h5, h6⟩ := h
 unfold lo hi
 cases hb : r.2.2
 ·have := h6 hb; simp only [qG, if_false]; omega
 ·have := h5 hb; simp only [if_true]; omega
theorem qjb {r : Rn} {x : Int} (h0 : 0 ≤ x) (h1 : x < r.2.1) : lo r ≤ wh r x ∧ wh r x ≤ hi r := by
 unfold lo hi wh
 cases r.2.2 <;> simp only [qG, if_false, if_true] <;> omega
def wG (r : Rn) (x n : Int) : Rn := (wh r x, n, r.2.2 && decide (n > 1))
def wC (c r : Rn) : Int := r.1 - wh c (c.2.1 - 1)
def apart (c r : Rn) : Bool := (wC c r != 1 && wC c r != -1) || (decide (c.2.1 > 1) && !((wC c r == -1) == c.2.2))
def vm (b : List Rn) (r : Rn) : List Rn :=
 if r.2.1 < 1 then b else match b.getLast? with
  | none => b ++ [wG r 0 r.2.1]
  | some c => bif apart c r then b ++ [wG r 0 r.2.1]
   else bif decide (r.2.1 > 1) && !(r.2.2 == (wC c r == -1)) then b.dropLast ++ [(c.1, c.2.1 + 1, wC c r == -1), wG r 1 (r.2.1 - 1)]
   else b.dropLast ++ [(c.1, c.2.1 + r.2.1, wC c r == -1)]
def zl (b : List Rn) (l : List Rn) : List Rn := l.foldl vm b
def wg : List Rn → Int → Int → List Rn
 | [], _, _ => []
 | r :: t, a, b =>
  (if max a 0 < min b r.2.1 then [wG r (max a 0) (min b r.2.1 - max a 0)] else []) ++ wg t (a - r.2.1) (b - r.2.1)
def vL (p : Rn) : Rn := (wh p (p.2.1 - 1), p.2.1, !p.2.2 && decide (p.2.1 > 1))
def steps (outer : List Rn) (r : Rn) : List Rn :=
 if r.2.2 = true then ((wg outer (r.1 - r.2.1 + 1) (r.1 + 1)).reverse).map vL else wg outer r.1 (r.1 + r.2.1)
def fitsIn (n : Int) : List Rn → Prop
 | [] => True
 | r :: t => hi r < n ∧ fitsIn n t
instance (n : Int) : (l : List Rn) → Decidable (fitsIn n l)
 | [] => .isTrue trivial
 | r :: t => @instDecidableAnd _ _ _ (instDecidableFitsIn n t)
def XJ (inner outer : List Rn) : List Rn := inner.foldl (fun b r => zl b (steps outer r)) []
def Xv (inner outer : List Rn) : List Rn × Int :=
 if chk inner ≠ 0 then ([], chk inner) else if chk outer ≠ 0 then ([], chk outer) else if ¬ fitsIn (qv outer) inner then ([], 21)
 else if (XJ inner outer).length > 256 then ([], 8) else (XJ inner outer, 0)
end Go.AM
namespace Go.AM
open Go Go.Proofs
noncomputable section
abbrev qHl (a : List T3.T) (r : Int) : Prop := CC Tryz.prog 119 [ro T3 a] [] (ri r) (nb r)
def qF7 := fun y0 y1 y2 y3 => (⟨qI 64 [(3, ri y0), (9, ro T3 y1), (10, ri y2), (11, ri y3)], []⟩ : St)
def qbu (k : Nat) : Nat → Int → List T3.T → Int → Int → Option Int
 | 0, _, _, _, _ => none
 | j + 1, y0, y1, y2, y3 =>
 bif y3 < y2 then
 if (0 ≤ y3) ∧ (y3 < y1.length) then
 bif (decide ((y1.getD y3.toNat T3.dflt).2.1 < (1 : Int)) || decide ((y1.getD y3.toNat T3.dflt).2.1 > (17179869184 : Int)) || decide ((y1.getD y3.toNat T3.dflt).1 < (0 : Int)) || decide ((y1.getD y3.toNat T3.dflt).1 ≥ (17179869184 : Int))) then
 some 1
 else
 bif ((y1.getD y3.toNat T3.dflt).2.2 && decide (qa .i64 (qa .i64 ((y1.getD y3.toNat T3.dflt).1 - (y1.getD y3.toNat T3.dflt).2.1) + (1 : Int)) < (0 : Int)) || (! (y1.getD y3.toNat T3.dflt).2.2) && decide (qa .i64 ((y1.getD y3.toNat T3.dflt).1 + (y1.getD y3.toNat T3.dflt).2.1) > (17179869184 : Int))) then
 some 1
 else
 qbu k j (qa .i64 (y0 + (y1.getD y3.toNat T3.dflt).2.1)) y1 y2 (qa .i64 (y3 + 1))
 else none
 else
 bif y0 > 17179869184 then
 some 21
 else
 some 0
def ZY (k : Nat) (a : List T3.T) : Option Int :=
 bif (↑a.length : Int) > (256 : Int) then
 some 8
 else
 qbu k k 0 a (↑a.length : Int) 0
def vD := fun k a => (ZY k a).getD 0
def qbE (k : Nat) : Ke := (119, mo 1, fun
 | [.r (.ro d b)], [] => (qE d T3 b).bind fun a => some (.one (ri (vD k a), []))
 | _, _ => none)
def qBj : List (Nat × List Cmd) := [(5, [.autoB [3, 9, 10, 11] false []])]
abbrev qSc := EP Tryz.f119 0 ri nb
theorem qzS (k) : ∀ j, (∀ y0 y1 y2 y3, qSc 5 (qF7 y0 y1 y2 y3) (qbu k j y0 y1 y2 y3))
 | 0 => by intros; exact e0
 | j + 1 => by
  have ih := @qzS k j
  ·intro y0 y1 y2 y3 r h
   rw [qbu] at h
   exact go (qD []) [] qBj [.autoB [2] true []] (gS h (fun h => qS h fun h => qB h fun h => qB h fun h => gC h 5 (ih _ _ _ _ _)) fun h => qB h fun h => gL h)
theorem qQn (k a r) (h : ZY k a = some r): qHl a r := qN Tryz.f119 (go (qD []) [] qBj [.autoB [2] true []] (qB h fun h => gC h 5 ((qzS k k) _ _ _ _ _)))
theorem qcq {k a} (h : (ZY k a).isSome): qHl a (vD k a) := qJ h (qQn k a)
abbrev qHD (a : List T3.T) (r : Int) : Prop := CC Tryz.prog 171 [ro T3 a] [] (ri r) (nb r)
def qFP := fun y0 y1 y2 y3 => (⟨qI 18 [(3, ri y0), (6, ro T3 y1), (7, ri y2), (8, ri y3)], []⟩ : St)
def qbm (k : Nat) : Nat → Int → List T3.T → Int → Int → Option Int
 | 0, _, _, _, _ => none
 | j + 1, y0, y1, y2, y3 =>
 bif y3 < y2 then
 if (0 ≤ y3) ∧ (y3 < y1.length) then
 qbm k j (qa .i64 (y0 + (y1.getD y3.toNat T3.dflt).2.1)) y1 y2 (qa .i64 (y3 + 1))
 else none
 else
 some y0
def qdl (k : Nat) (a : List T3.T) : Option Int :=
 qbm k k 0 a (↑a.length : Int) 0
def qfN := fun k a => (qdl k a).getD 0
def qtk (k : Nat) : Ke := (171, mo 1, fun
 | [.r (.ro d b)], [] => (qE d T3 b).bind fun a => some (.one (ri (qfN k a), []))
 | _, _ => none)
def qBb : List (Nat × List Cmd) := [(3, [.autoB [3, 6, 7, 8] false []])]
abbrev qSj := EP Tryz.f171 0 ri nb
theorem qzG (k) : ∀ j, (∀ y0 y1 y2 y3, qSj 3 (qFP y0 y1 y2 y3) (qbm k j y0 y1 y2 y3))
 | 0 => by intros; exact e0
 | j + 1 => by
  have ih := @qzG k j
  ·intro y0 y1 y2 y3 r h
   rw [qbm] at h
   exact go (qD []) [] qBb [.autoB [2] true []] (gS h (fun h => qS h fun h => gC h 3 (ih _ _ _ _ _)) fun h => gL h)
theorem qRG (k a r) (h : qdl k a = some r): qHD a r := qN Tryz.f171 (go (qD []) [] qBb [.autoB [2] true []] (gC h 3 ((qzG k k) _ _ _ _ _)))
theorem qrX {k a} (h : (qdl k a).isSome): qHD a (qfN k a) := qJ h (qRG k a)
abbrev qIU (a : T3.T) (b : Int) (r : Int) : Prop := CC Tryz.prog 209 [.agg (qy (qr T3 a)), ri b] [] (ri r) (nb r)
def Y8 (k : Nat) (a : T3.T) (b : Int) : Option Int :=
 bif a.2.2 then
 some (qa .i64 (a.1 - b))
 else
 some (qa .i64 (a.1 + b))
def vk := fun k a b => (Y8 k a b).getD 0
def qeb (k : Nat) : Ke := (209, mo 2, fun
 | [.agg d, .r (.v (.int .i64 b))], [] => (qW [] T3 d).bind fun a => some (.one (ri (vk k a b), []))
 | _, _ => none)
theorem qPw (k a b r) (h : Y8 k a b = some r): qIU a b r := qN Tryz.f209 (go (qD []) [] [] [.autoB [4] true []] (qB h fun h => gL h))
theorem qiK {k a b} (h : (Y8 k a b).isSome): qIU a b (vk k a b) := qJ h (qPw k a b)
def qvo (r : T3.T) : AV := .agg (qy (qr T3 r))
abbrev qH6 (a : T3.T) (b : Int) (d : Int) (r : T3.T) : Prop := CC Tryz.prog 272 [.agg (qy (qr T3 a)), ri b, ri d] [] (qvo r) (nb r)
def XQ (k : Nat) (a : T3.T) (b : Int) (d : Int) : Option T3.T :=
 if ((Y8 k a b).isSome) then
 some (vk k a b, (d, a.2.2 && decide (d > 1)))
 else none
def QX := fun k a b d => (XQ k a b d).getD (T3).dflt
def qhn (k : Nat) : Ke := (272, mo 3, fun
 | [.agg e, .r (.v (.int .i64 b)), .r (.v (.int .i64 d))], [] => (qW [] T3 e).bind fun a => some (.one (qvo (QX k a b d), []))
 | _, _ => none)
theorem qPn (k a b d r) (h : XQ k a b d = some r): qH6 a b d r := qN Tryz.f272 (go (qD [qeb k]) [] [] [.autoB [6] true []] (qu h qiK fun h => gL h))
theorem qeA {k a b d} (h : (XQ k a b d).isSome): qH6 a b d (QX k a b d) := qJ h (qPn k a b d)
def qw9 (r : List T3.T) : AV := .tup []
def qCU (a : List T3.T) (b : T3.T) (r : List T3.T) : List (Nat × Blk) := [(0, .var 287 [.own 1 1]), (1, .row 49 T3 r)]
abbrev qxY (a : List T3.T) (b : T3.T) (r : List T3.T) : Prop := CC Tryz.prog 241 [.ptr 0 0 0, .agg (qy (qr T3 b))] [.var 287 [.own 1 0], .row 49 T3 a] (qw9 r) (qCU a b r)
def qq7 (g : List T3.T → T3.T → Option (List T3.T)) (a : List T3.T) (b : T3.T) : (List T3.T) := (g a b).getD []
def va : Nat → List T3.T → T3.T → Option (List T3.T)
 | 0, _, _ => none
 | k + 1, a, b =>
 bif b.2.1 < (1 : Int) then
 some a
 else
 bif ((↑a.length : Int) == (0 : Int)) then
 if ((XQ k b 0 b.2.1).isSome) ∧ ((a.length + [QX k b (0 : Int) b.2.1].length) * (24 : Nat) ≤ (140737488355328 : Nat)) then
 some (a ++ [QX k b 0 b.2.1])
 else none
 else
 if ((0 : Int) ≤ qa .i64 ((↑a.length : Int) - (1 : Int))) ∧ (qa .i64 ((↑a.length : Int) - (1 : Int)) < (↑a.length : Int)) then
 if ((Y8 k (a.getD (qa .i64 ((↑a.length : Int) - 1)).toNat T3.dflt) (qa .i64 ((a.getD (qa .i64 ((↑a.length : Int) - 1)).toNat T3.dflt).2.1 - 1))).isSome) then
 bif (qa .i64 (b.1 - vk k (a.getD (qa .i64 ((↑a.length : Int) - (1 : Int))).toNat T3.dflt) (qa .i64 ((a.getD (qa .i64 ((↑a.length : Int) - (1 : Int))).toNat T3.dflt).2.1 - (1 : Int)))) != (1 : Int) && qa .i64 (b.1 - vk k (a.getD (qa .i64 ((↑a.length : Int) - (1 : Int))).toNat T3.dflt) (qa .i64 ((a.getD (qa .i64 ((↑a.length : Int) - (1 : Int))).toNat T3.dflt).2.1 - (1 : Int)))) != (-1 : Int) || decide ((a.getD (qa .i64 ((↑a.length : Int) - (1 : Int))).toNat T3.dflt).2.1 > (1 : Int)) && (! (qa .i64 (b.1 - vk k (a.getD (qa .i64 ((↑a.length : Int) - (1 : Int))).toNat T3.dflt) (qa .i64 ((a.getD (qa .i64 ((↑a.length : Int) - (1 : Int))).toNat T3.dflt).2.1 - (1 : Int)))) == (-1 : Int)) == (a.getD (qa .i64 ((↑a.length : Int) - (1 : Int))).toNat T3.dflt).2.2)) then
 if ((XQ k b 0 b.2.1).isSome) ∧ ((a.length + [QX k b (0 : Int) b.2.1].length) * (24 : Nat) ≤ (140737488355328 : Nat)) then
 some (a ++ [QX k b 0 b.2.1])
 else none
 else
 bif (decide (b.2.1 > (1 : Int)) && b.2.2 == (qa .i64 (b.1 - vk k (a.getD (qa .i64 ((↑a.length : Int) - (1 : Int))).toNat T3.dflt) (qa .i64 ((a.getD (qa .i64 ((↑a.length : Int) - (1 : Int))).toNat T3.dflt).2.1 - (1 : Int)))) == (-1 : Int))) then
 if ((0 : Int) ≤ qa .i64 ((↑a.length : Int) - (1 : Int))) ∧ (qa .i64 ((↑a.length : Int) - (1 : Int)) < (↑a.length : Int)) then
 if ((XQ k b b.2.1 (qa .i64 (b.2.1 - b.2.1))).isSome) ∧ ((va k (a.set (qa .i64 ((↑a.length : Int) - 1)).toNat ((a.getD (qa .i64 ((↑a.length : Int) - 1)).toNat T3.dflt).1, qa .i64 ((a.getD (qa .i64 ((↑a.length : Int) - 1)).toNat T3.dflt).2.1 + b.2.1), qa .i64 (b.1 - vk k (a.getD (qa .i64 ((↑a.length : Int) - 1)).toNat T3.dflt) (qa .i64 ((a.getD (qa .i64 ((↑a.length : Int) - 1)).toNat T3.dflt).2.1 - 1))) == (-1))) (QX k b b.2.1 (qa .i64 (b.2.1 - b.2.1)))).isSome) then
 some (qq7 (va k) (a.set (qa .i64 ((↑a.length : Int) - 1)).toNat ((a.getD (qa .i64 ((↑a.length : Int) - 1)).toNat T3.dflt).1, qa .i64 ((a.getD (qa .i64 ((↑a.length : Int) - 1)).toNat T3.dflt).2.1 + b.2.1), qa .i64 (b.1 - vk k (a.getD (qa .i64 ((↑a.length : Int) - 1)).toNat T3.dflt) (qa .i64 ((a.getD (qa .i64 ((↑a.length : Int) - 1)).toNat T3.dflt).2.1 - 1))) == (-1))) (QX k b b.2.1 (qa .i64 (b.2.1 - b.2.1))))
 else none
 else none
 else
 if ((0 : Int) ≤ qa .i64 ((↑a.length : Int) - (1 : Int))) ∧ (qa .i64 ((↑a.length : Int) - (1 : Int)) < (↑a.length : Int)) then
 if ((XQ k b 1 (qa .i64 (b.2.1 - 1))).isSome) ∧ ((va k (a.set (qa .i64 ((↑a.length : Int) - 1)).toNat ((a.getD (qa .i64 ((↑a.length : Int) - 1)).toNat T3.dflt).1, qa .i64 ((a.getD (qa .i64 ((↑a.length : Int) - 1)).toNat T3.dflt).2.1 + 1), qa .i64 (b.1 - vk k (a.getD (qa .i64 ((↑a.length : Int) - 1)).toNat T3.dflt) (qa .i64 ((a.getD (qa .i64 ((↑a.length : Int) - 1)).toNat T3.dflt).2.1 - 1))) == (-1))) (QX k b 1 (qa .i64 (b.2.1 - 1)))).isSome) then
 some (qq7 (va k) (a.set (qa .i64 ((↑a.length : Int) - 1)).toNat ((a.getD (qa .i64 ((↑a.length : Int) - 1)).toNat T3.dflt).1, qa .i64 ((a.getD (qa .i64 ((↑a.length : Int) - 1)).toNat T3.dflt).2.1 + 1), qa .i64 (b.1 - vk k (a.getD (qa .i64 ((↑a.length : Int) - 1)).toNat T3.dflt) (qa .i64 ((a.getD (qa .i64 ((↑a.length : Int) - 1)).toNat T3.dflt).2.1 - 1))) == (-1))) (QX k b 1 (qa .i64 (b.2.1 - 1))))
 else none
 else none
 else none
 else none
def qcF := fun k a b => (va k a b).getD []
def qew (k : Nat) : Ke := (241, fun
 | [.ptr _ _ _, _] => some [true, false]
 | _ => none, fun
 | [.ptr 0 0 0, .agg d], [.var 287 [.own 1 0], .row 49 tb_0_ qb_0] => (qW [] T3 d).bind fun b => (qE tb_0_ T3 qb_0).bind fun a => some (.one (qw9 (qcF k a b), qCU a b (qcF k a b)))
 | _, _ => none)
theorem qBq : ∀ (k : Nat) (a : List T3.T) (b : T3.T) (r : List T3.T), va k a b = some r → qxY a b r
 | 0, a, b, r, h => by simp [va] at h
 | k + 1, a, b, r, h => by
  have ih : ∀ {a : List T3.T} {b : T3.T}, (va k a b).isSome = true → qxY a b (qcF k a b) := fun {a} {b} h => qJ h (qBq k a b)
  refine CC.of (fn := Tryz.f241) (by kernel_rfl) (by kernel_rfl) (by kernel_rfl) (by kernel_rfl) ?_
  rw [va] at h
  exact go (qD [qeb k, qhn k, qew k]) [] [] [.autoB [] true [1]] (qB h fun h => gS h (fun h => gN h (fun q => qf (qeA q.1) (qf q.2 qR)) fun h => gL h) fun h => qS h fun h => qu h qiK fun h => gS h (fun h => gN h (fun q => qf (qeA q.1) (qf q.2 qR)) fun h => gL h) fun h => gS h (fun h => qS h fun h => gN h (fun q => qf (qeA q.1) (qf (ih q.2) qR)) fun h => gL h) fun h => qS h fun h => gN h (fun q => qf (qeA q.1) (qf (ih q.2) qR)) fun h => gL h)
theorem qAY {k a b} (h : (va k a b).isSome): qxY a b (qcF k a b) := qJ h (qBq k a b)
def qoJ (r : List T3.T) : AV := .tup []
def qty (a : List T3.T) (b : Int) (d : Int) (e : List T3.T) (r : List T3.T) : List (Nat × Blk) := [(0, .var 287 [.own 1 1]), (1, .row 49 T3 r)]
abbrev qHj (a : List T3.T) (b : Int) (d : Int) (e : List T3.T) (r : List T3.T) : Prop := CC Tryz.prog 240 [ro T3 a, ri b, ri d, .fn (.func 241) [.ptr 0 0 0] []] [.var 287 [.own 1 0], .row 49 T3 e] (qoJ r) (qty a b d e r)
def qGK := fun (a : List T3.T) (b : Int) (d : Int) (e : List T3.T) y0 y1 y2 y3 y4 y5 y6 => (⟨qI 46 [(1, ri y0), (2, ri y1), (3, .fn (Fn.func 241) [.ptr 0 0 0] []), (8, ri y2), (13, ro T3 y3), (14, ri y4), (15, ri y5)], [(0, 0, .var 287 [.own 1 1]), (1, 1, .row 49 T3 y6)]⟩ : St)
def Yl (k : Nat) (a : List T3.T) (b : Int) (d : Int) (e : List T3.T) : Nat → Int → Int → Int → List T3.T → Int → Int → List T3.T → Option (List T3.T)
 | 0, _, _, _, _, _, _, _ => none
 | j + 1, y0, y1, y2, y3, y4, y5, y6 =>
 bif y5 < y4 then
 if (0 ≤ y5) ∧ (y5 < y3.length) then
 bif (if y2 > y0 then y2 else y0) < if qa .i64 (y2 + (y3.getD y5.toNat T3.dflt).2.1) < y1 then qa .i64 (y2 + (y3.getD y5.toNat T3.dflt).2.1) else y1 then
 if ((XQ k (y3.getD y5.toNat T3.dflt) (qa .i64 ((if y2 > y0 then y2 else y0) - y2)) (qa .i64 ((if qa .i64 (y2 + (y3.getD y5.toNat T3.dflt).2.1) < y1 then qa .i64 (y2 + (y3.getD y5.toNat T3.dflt).2.1) else y1) - if y2 > y0 then y2 else y0))).isSome) ∧ ((va k y6 (QX k (y3.getD y5.toNat T3.dflt) (qa .i64 ((if y2 > y0 then y2 else y0) - y2)) (qa .i64 ((if qa .i64 (y2 + (y3.getD y5.toNat T3.dflt).2.1) < y1 then qa .i64 (y2 + (y3.getD y5.toNat T3.dflt).2.1) else y1) - if y2 > y0 then y2 else y0)))).isSome) then
 Yl k a b d e j y0 y1 (qa .i64 (y2 + (y3.getD y5.toNat T3.dflt).2.1)) y3 y4 (qa .i64 (y5 + 1)) (qcF k y6 (QX k (y3.getD y5.toNat T3.dflt) (qa .i64 ((if y2 > y0 then y2 else y0) - y2)) (qa .i64 ((if qa .i64 (y2 + (y3.getD y5.toNat T3.dflt).2.1) < y1 then qa .i64 (y2 + (y3.getD y5.toNat T3.dflt).2.1) else y1) - if y2 > y0 then y2 else y0))))
 else none
 else
 Yl k a b d e j y0 y1 (qa .i64 (y2 + (y3.getD y5.toNat T3.dflt).2.1)) y3 y4 (qa .i64 (y5 + 1)) y6
 else none
 else
 some y6
def qjX (k : Nat) (a : List T3.T) (b : Int) (d : Int) (e : List T3.T) : Option (List T3.T) :=
 Yl k a b d e k b d 0 a (↑a.length : Int) 0 e
def qi2 := fun k a b d e => (qjX k a b d e).getD []
def qNM (k : Nat) : Ke := (240, fun
 | [_, _, _, .fn (.func 241) _ _] => some [false, false, false, true]
 | _ => none, fun
 | [.r (.ro g f), .r (.v (.int .i64 b)), .r (.v (.int .i64 d)), .fn (.func 241) [.ptr 0 0 0] []], [.var 287 [.own 1 0], .row 49 tf_f00_ qf_f00] => (qE g T3 f).bind fun a => (qE tf_f00_ T3 qf_f00).bind fun e => some (.one (qoJ (qi2 k a b d e), qty a b d e (qi2 k a b d e)))
 | _, _ => none)
def qB0 : List (Nat × List Cmd) := [(2, [.autoB [1, 2, 3, 8, 13, 14, 15] false [1]])]
abbrev qSA := fun a b d e => EP Tryz.f240 2 qoJ (qty a b d e)
theorem qEe (k a b d e) : ∀ j, (∀ y0 y1 y2 y3 y4 y5 y6, qSA a b d e 2 (qGK a b d e y0 y1 y2 y3 y4 y5 y6) (Yl k a b d e j y0 y1 y2 y3 y4 y5 y6))
 | 0 => by intros; exact e0
 | j + 1 => by
  have ih := @qEe k a b d e j
  ·intro y0 y1 y2 y3 y4 y5 y6 r h
   rw [Yl] at h
   exact go (qD [qhn k, qew k]) [] qB0 [.autoB [] true [1]] (gS h (fun h => qS h fun h => gS h (fun h => gN h (fun q => qf (qeA q.1) (qf (qAY q.2) qR)) fun h => gC h 2 (ih _ _ _ _ _ _ _ _)) fun h => gC h 2 (ih _ _ _ _ _ _ _ _)) fun h => gL h)
theorem qNA (k a b d e r) (h : qjX k a b d e = some r): qHj a b d e r := qN Tryz.f240 (go (qD [qhn k, qew k]) [] qB0 [.autoB [] true [1]] (gC h 2 ((qEe k a b d e k) _ _ _ _ _ _ _ _)))
theorem qON {k a b d e} (h : (qjX k a b d e).isSome): qHj a b d e (qi2 k a b d e) := qJ h (qNA k a b d e)
def qvO (r : List T3.T) : AV := .tup []
def qEU (a : T3.T) (b : List T3.T) (r : List T3.T) : List (Nat × Blk) := [(0, .var 43 [.own 1 1]), (1, .row 49 T3 r)]
abbrev qHB (a : T3.T) (b : List T3.T) (r : List T3.T) : Prop := CC Tryz.prog 242 [.agg (qy (qr T3 a)), .ptr 0 0 0] [.var 43 [.own 1 0], .row 49 T3 b] (qvO r) (qEU a b r)
def qjJ (k : Nat) (a : T3.T) (b : List T3.T) : Option (List T3.T) :=
 if ((b.length + [a].length) * (24 : Nat) ≤ (140737488355328 : Nat)) then
 some (b ++ [a])
 else none
def qi4 := fun k a b => (qjJ k a b).getD []
def qtz (k : Nat) : Ke := (242, fun
 | [_, .ptr _ _ _] => some [false, true]
 | _ => none, fun
 | [.agg d, .ptr 0 0 0], [.var 43 [.own 1 0], .row 49 tz00_ qz00] => (qW [] T3 d).bind fun a => (qE tz00_ T3 qz00).bind fun b => some (.one (qvO (qi4 k a b), qEU a b (qi4 k a b)))
 | _, _ => none)
theorem qPB (k a b r) (h : qjJ k a b = some r): qHB a b r := qN Tryz.f242 (go (qD []) [] [] [.autoB [] true [1]] (qu h id fun h => gL h))
theorem qPe {k a b} (h : (qjJ k a b).isSome): qHB a b (qi4 k a b) := qJ h (qPB k a b)
def qoI (r : List T3.T) : AV := .tup []
def qrQ (a : List T3.T) (b : Int) (d : Int) (e : List T3.T) (r : List T3.T) : List (Nat × Blk) := [(0, .var 43 [.own 1 1]), (1, .row 49 T3 r)]
abbrev qI2 (a : List T3.T) (b : Int) (d : Int) (e : List T3.T) (r : List T3.T) : Prop := CC Tryz.prog 240 [ro T3 a, ri b, ri d, .fn (.func 242) [] [.ptr 0 0 0]] [.var 43 [.own 1 0], .row 49 T3 e] (qoI r) (qrQ a b d e r)
def qFB := fun (a : List T3.T) (b : Int) (d : Int) (e : List T3.T) y0 y1 y2 y3 y4 y5 y6 => (⟨qI 46 [(1, ri y0), (2, ri y1), (3, .fn (Fn.func 242) [] [.ptr 0 0 0]), (8, ri y2), (13, ro T3 y3), (14, ri y4), (15, ri y5)], [(0, 0, .var 43 [.own 1 1]), (1, 1, .row 49 T3 y6)]⟩ : St)
def YD (k : Nat) (a : List T3.T) (b : Int) (d : Int) (e : List T3.T) : Nat → Int → Int → Int → List T3.T → Int → Int → List T3.T → Option (List T3.T)
 | 0, _, _, _, _, _, _, _ => none
 | j + 1, y0, y1, y2, y3, y4, y5, y6 =>
 bif y5 < y4 then
 if (0 ≤ y5) ∧ (y5 < y3.length) then
 bif (if y2 > y0 then y2 else y0) < if qa .i64 (y2 + (y3.getD y5.toNat T3.dflt).2.1) < y1 then qa .i64 (y2 + (y3.getD y5.toNat T3.dflt).2.1) else y1 then
 if ((XQ k (y3.getD y5.toNat T3.dflt) (qa .i64 ((if y2 > y0 then y2 else y0) - y2)) (qa .i64 ((if qa .i64 (y2 + (y3.getD y5.toNat T3.dflt).2.1) < y1 then qa .i64 (y2 + (y3.getD y5.toNat T3.dflt).2.1) else y1) - if y2 > y0 then y2 else y0))).isSome) ∧ ((qjJ k (QX k (y3.getD y5.toNat T3.dflt) (qa .i64 ((if y2 > y0 then y2 else y0) - y2)) (qa .i64 ((if qa .i64 (y2 + (y3.getD y5.toNat T3.dflt).2.1) < y1 then qa .i64 (y2 + (y3.getD y5.toNat T3.dflt).2.1) else y1) - if y2 > y0 then y2 else y0))) y6).isSome) then
 YD k a b d e j y0 y1 (qa .i64 (y2 + (y3.getD y5.toNat T3.dflt).2.1)) y3 y4 (qa .i64 (y5 + 1)) (qi4 k (QX k (y3.getD y5.toNat T3.dflt) (qa .i64 ((if y2 > y0 then y2 else y0) - y2)) (qa .i64 ((if qa .i64 (y2 + (y3.getD y5.toNat T3.dflt).2.1) < y1 then qa .i64 (y2 + (y3.getD y5.toNat T3.dflt).2.1) else y1) - if y2 > y0 then y2 else y0))) y6)
 else none
 else
 YD k a b d e j y0 y1 (qa .i64 (y2 + (y3.getD y5.toNat T3.dflt).2.1)) y3 y4 (qa .i64 (y5 + 1)) y6
 else none
 else
 some y6
def qjg (k : Nat) (a : List T3.T) (b : Int) (d : Int) (e : List T3.T) : Option (List T3.T) :=
 YD k a b d e k b d 0 a (↑a.length : Int) 0 e
def qfu := fun k a b d e => (qjg k a b d e).getD []
def qNI (k : Nat) : Ke := (240, fun
 | [_, _, _, .fn (.func 242) _ _] => some [false, false, false, true]
 | _ => none, fun
 | [.r (.ro g f), .r (.v (.int .i64 b)), .r (.v (.int .i64 d)), .fn (.func 242) [] [.ptr 0 0 0]], [.var 43 [.own 1 0], .row 49 tf_c00_ qf_c00] => (qE g T3 f).bind fun a => (qE tf_c00_ T3 qf_c00).bind fun e => some (.one (qoI (qfu k a b d e), qrQ a b d e (qfu k a b d e)))
 | _, _ => none)
def qCo : List (Nat × List Cmd) := [(2, [.autoB [1, 2, 3, 8, 13, 14, 15] false [1]])]
abbrev qR5 := fun a b d e => EP Tryz.f240 2 qoI (qrQ a b d e)
theorem qC1 (k a b d e) : ∀ j, (∀ y0 y1 y2 y3 y4 y5 y6, qR5 a b d e 2 (qFB a b d e y0 y1 y2 y3 y4 y5 y6) (YD k a b d e j y0 y1 y2 y3 y4 y5 y6))
 | 0 => by intros; exact e0
 | j + 1 => by
  have ih := @qC1 k a b d e j
  ·intro y0 y1 y2 y3 y4 y5 y6 r h
   rw [YD] at h
   exact go (qD [qhn k, qtz k]) [] qCo [.autoB [] true [1]] (gS h (fun h => qS h fun h => gS h (fun h => gN h (fun q => qf (qeA q.1) (qf (qPe q.2) qR)) fun h => gC h 2 (ih _ _ _ _ _ _ _ _)) fun h => gC h 2 (ih _ _ _ _ _ _ _ _)) fun h => gL h)
theorem qQ3 (k a b d e r) (h : qjg k a b d e = some r): qI2 a b d e r := qN Tryz.f240 (go (qD [qhn k, qtz k]) [] qCo [.autoB [] true [1]] (gC h 2 ((qC1 k a b d e k) _ _ _ _ _ _ _ _)))
theorem qPY {k a b d e} (h : (qjg k a b d e).isSome): qI2 a b d e (qfu k a b d e) := qJ h (qQ3 k a b d e)
abbrev qmt : Type := List T3.T
def qoM (r : qmt) : AV := .tup []
def qrS (a : List T3.T) (b : List T3.T) (r : qmt) : List (Nat × Blk) := [(0, .var 287 [.own 1 1]), (1, .row 49 T3 r)]
abbrev qHn (a : List T3.T) (b : List T3.T) (r : qmt) : Prop := CC Tryz.prog 243 [ro T3 a, .fn (.func 241) [.ptr 0 0 0] []] [.var 287 [.own 1 0], .row 49 T3 b] (qoM r) (qrS a b r)
def qFr := fun (a : List T3.T) (b : List T3.T) y0 y1 y2 => (⟨qI 35 [(0, ro T3 y0), (1, .fn (Fn.func 241) [.ptr 0 0 0] []), (4, ri y1)], [(0, 0, .var 287 [.own 1 1]), (1, 1, .row 49 T3 y2)]⟩ : St)
def qbq (k : Nat) (a : List T3.T) (b : List T3.T) : Nat → List T3.T → Int → List T3.T → Option qmt
 | 0, _, _, _ => none
 | j + 1, y0, y1, y2 =>
 bif y1 ≥ 0 then
 if (0 ≤ y1) ∧ (y1 < y0.length) then
 if ((Y8 k (y0.getD y1.toNat T3.dflt) (qa .i64 ((y0.getD y1.toNat T3.dflt).2.1 - 1))).isSome) ∧ ((va k y2 (vk k (y0.getD y1.toNat T3.dflt) (qa .i64 ((y0.getD y1.toNat T3.dflt).2.1 - 1)), (y0.getD y1.toNat T3.dflt).2.1, ! (y0.getD y1.toNat T3.dflt).2.2 && decide ((y0.getD y1.toNat T3.dflt).2.1 > 1))).isSome) then
 qbq k a b j y0 (qa .i64 (y1 - 1)) (qcF k y2 (vk k (y0.getD y1.toNat T3.dflt) (qa .i64 ((y0.getD y1.toNat T3.dflt).2.1 - 1)), (y0.getD y1.toNat T3.dflt).2.1, ! (y0.getD y1.toNat T3.dflt).2.2 && decide ((y0.getD y1.toNat T3.dflt).2.1 > 1)))
 else none
 else none
 else
 some y2
def qjF (k : Nat) (a : List T3.T) (b : List T3.T) : Option qmt :=
 qbq k a b k a (qa .i64 ((↑a.length : Int) - 1)) b
def qiX := fun k a b => (qjF k a b).getD []
def qQD (k : Nat) : Ke := (243, fun
 | [_, .fn (.func 241) _ _] => some [false, true]
 | _ => none, fun
 | [.r (.ro e d), .fn (.func 241) [.ptr 0 0 0] []], [.var 287 [.own 1 0], .row 49 tf_f00_ qf_f00] => (qE e T3 d).bind fun a => (qE tf_f00_ T3 qf_f00).bind fun b => some (.one (qoM (qiX k a b), qrS a b (qiX k a b)))
 | _, _ => none)
def qC2 : List (Nat × List Cmd) := [(1, [.autoB [0, 1, 4] false [1]])]
abbrev qSr := fun a b => EP Tryz.f243 2 qoM (qrS a b)
theorem qCP (k a b) : ∀ j, (∀ y0 y1 y2, qSr a b 1 (qFr a b y0 y1 y2) (qbq k a b j y0 y1 y2))
 | 0 => by intros; exact e0
 | j + 1 => by
  have ih := @qCP k a b j
  ·intro y0 y1 y2 r h
   rw [qbq] at h
   exact go (qD [qeb k, qew k]) [] qC2 [.autoB [] true [1]] (gS h (fun h => qS h fun h => gN h (fun q => qf (qiK q.1) (qf (qAY q.2) qR)) fun h => gC h 1 (ih _ _ _ _)) fun h => gL h)
theorem qOu (k a b r) (h : qjF k a b = some r): qHn a b r := qN Tryz.f243 (go (qD [qeb k, qew k]) [] qC2 [.autoB [] true [1]] (gC h 1 ((qCP k a b k) _ _ _ _)))
theorem qNk {k a b} (h : (qjF k a b).isSome): qHn a b (qiX k a b) := qJ h (qOu k a b)
abbrev qhB : Type := Int
def qlH (r : qhB) : AV := .tup [.r (.v (Value.slice none 0 0)), .r (.v (.int .i64 r))]
def qoa (b : List T3.T) (r : qhB) : List (Nat × Blk) := [(0, .var 287 [.own 1 0]), (0, .row 49 T3 b)]
abbrev qio : Type := Int
def qlo (r : qio) : AV := .tup [.own 1 0, .r (.v (.int .i64 r))]
def qob (b : List T3.T) (r : qio) : List (Nat × Blk) := [(0, .var 287 [.own 1 0]), (0, .row 49 T3 b)]
abbrev qqY : Type := qhB ⊕ qio
def qM5 (r : qqY) : AV := match r with
 | .inl a => qlH a
 | .inr a => qlo a
def qQs (b : List T3.T) (r : qqY) : List (Nat × Blk) := match r with
 | .inl a => qoa b a
 | .inr a => qob b a
abbrev qrq (b : List T3.T) (r : qqY) : Prop := CC Tryz.prog 244 [.ptr 0 0 0] [.var 287 [.own 1 0], .row 49 T3 b] (qM5 r) (qQs b r)
abbrev qNr (b : List T3.T) (r : qhB) : Prop := CC Tryz.prog 244 [.ptr 0 0 0] [.var 287 [.own 1 0], .row 49 T3 b] (qlH r) (qoa b r)
abbrev qRy (b : List T3.T) (r : qio) : Prop := CC Tryz.prog 244 [.ptr 0 0 0] [.var 287 [.own 1 0], .row 49 T3 b] (qlo r) (qob b r)
def XU (k : Nat) (b : List T3.T) : Option qqY :=
 bif (↑b.length : Int) > (256 : Int) then
 some (.inl 8)
 else
 some (.inr 0)
def X8 := fun k b => (XU k b).getD (.inl 0)
def qeD (k : Nat) (b : List T3.T) : qhB := lft 0 (X8 k b)
def qe6 (k : Nat) (b : List T3.T) : qio := rgt 0 (X8 k b)
def qRA (k : Nat) : Ke := (244, fun
 | [.ptr _ _ _] => some [true]
 | _ => none, fun
 | [.ptr 0 0 0], [.var 287 [.own 1 0], .row 49 tb_0_ qb_0] => (qE tb_0_ T3 qb_0).bind fun b => some (.two (X8 k b).isLeft (qlH (qeD k b), qoa b (qeD k b)) (qlo (qe6 k b), qob b (qe6 k b)))
 | _, _ => none)
theorem qQb (k b r) (h : XU k b = some r): qrq b r := qN Tryz.f244 (go (qD []) [] [] [.autoB [2, 3] true []] (qB h fun h => gL h))
theorem qBA {k b} (h : (XU k b).isSome): qrq b (X8 k b) := qJ h (qQb k b)
theorem qLr {k : Nat} {b : List T3.T} (h : (XU k b).isSome = true) (hb : (X8 k b).isLeft = true) : qNr b (qeD k b) := qGw (Φ := qrq b) (qBA h) hb
theorem qLw {k : Nat} {b : List T3.T} (h : (XU k b).isSome = true) (hb : (X8 k b).isLeft = false) : qRy b (qe6 k b) := qFo (Φ := qrq b) (qBA h) hb
abbrev qnx : Type := List T3.T × Int
def qnI (r : qnx) : AV := .tup [ro T3 r.1, ri r.2]
abbrev qId (a : List T3.T) (b : List T3.T) (r : qnx) : Prop := CC Tryz.prog 208 [ro T3 a, ro T3 b] [] (qnI r) (nb r)
def qFv := fun y0 y1 y2 y3 y4 y5 => (⟨qI 82 [(0, ro T3 y0), (1, ro T3 y1), (8, ri y2), (27, ro T3 y3), (28, ri y4), (29, ri y5)], []⟩ : St)
def qCA := fun y0 y1 y2 y3 y4 => (⟨qI 82 [(1, ro T3 y0), (11, .ptr 1000000 0 0), (44, ro T3 y1), (45, ri y2), (46, ri y3)], [(1000000, 0, .var 287 [.own 1000001 0]), (1000001, 0, .row 49 T3 y4)]⟩ : St)
mutual
def qbg (k : Nat) : Nat → List T3.T → List T3.T → Int → List T3.T → Int → Int → Option qnx
 | 0, _, _, _, _, _, _ => none
 | j + 1, y0, y1, y2, y3, y4, y5 =>
 bif y5 < y4 then
 if (0 ≤ y5) ∧ (y5 < y3.length) then
 if ((Y8 k (y3.getD y5.toNat T3.dflt) (qa .i64 ((y3.getD y5.toNat T3.dflt).2.1 - 1))).isSome) then
 bif (if vk k (y3.getD y5.toNat T3.dflt) (qa .i64 ((y3.getD y5.toNat T3.dflt).2.1 - (1 : Int))) > (y3.getD y5.toNat T3.dflt).1 then vk k (y3.getD y5.toNat T3.dflt) (qa .i64 ((y3.getD y5.toNat T3.dflt).2.1 - (1 : Int))) else (y3.getD y5.toNat T3.dflt).1) ≥ y2 then
 some ([], 21)
 else
 qbg k j y0 y1 y2 y3 y4 (qa .i64 (y5 + 1))
 else none
 else none
 else
 ZM k j y1 y0 (↑y0.length : Int) 0 ([])
def ZM (k : Nat) : Nat → List T3.T → List T3.T → Int → Int → List T3.T → Option qnx
 | 0, _, _, _, _, _ => none
 | j + 1, y0, y1, y2, y3, y4 =>
 bif y3 < y2 then
 if (0 ≤ y3) ∧ (y3 < y1.length) then
 bif (! (y1.getD y3.toNat T3.dflt).2.2) then
 if ((qjX k y0 (y1.getD y3.toNat T3.dflt).1 (qa .i64 ((y1.getD y3.toNat T3.dflt).1 + (y1.getD y3.toNat T3.dflt).2.1)) y4).isSome) then
 ZM k j y0 y1 y2 (qa .i64 (y3 + 1)) (qi2 k y0 (y1.getD y3.toNat T3.dflt).1 (qa .i64 ((y1.getD y3.toNat T3.dflt).1 + (y1.getD y3.toNat T3.dflt).2.1)) y4)
 else none
 else
 if ((qjg k y0 (qa .i64 (qa .i64 ((y1.getD y3.toNat T3.dflt).1 - (y1.getD y3.toNat T3.dflt).2.1) + 1)) (qa .i64 ((y1.getD y3.toNat T3.dflt).1 + 1)) []).isSome) then
 if ((qjF k (qfu k y0 (qa .i64 (qa .i64 ((y1.getD y3.toNat T3.dflt).1 - (y1.getD y3.toNat T3.dflt).2.1) + 1)) (qa .i64 ((y1.getD y3.toNat T3.dflt).1 + 1)) []) y4).isSome) then
 ZM k j y0 y1 y2 (qa .i64 (y3 + 1)) (qiX k (qfu k y0 (qa .i64 (qa .i64 ((y1.getD y3.toNat T3.dflt).1 - (y1.getD y3.toNat T3.dflt).2.1) + 1)) (qa .i64 ((y1.getD y3.toNat T3.dflt).1 + 1)) []) y4)
 else none
 else none
 else none
 else
 bif (Sum.isLeft (X8 k y4)) then
 if ((XU k y4).isSome) then
 some ([], qeD k y4)
 else none
 else
 if ((XU k y4).isSome) then
 some (y4, qe6 k y4)
 else none
end
def qjA (k : Nat) (a : List T3.T) (b : List T3.T) : Option qnx :=
 if ((ZY k a).isSome) then
 bif (vD k a != (0 : Int)) then
 some ([], vD k a)
 else
 if ((ZY k b).isSome) then
 bif (vD k b != (0 : Int)) then
 some ([], vD k b)
 else
 if ((qdl k b).isSome) then
 qbg k k a b (qfN k b) a (↑a.length : Int) 0
 else none
 else none
 else none
def qc9 := fun k a b => (qjA k a b).getD ([], 0)
def qQj (k : Nat) : Ke := (208, mo 2, fun
 | [.r (.ro f d), .r (.ro i e)], [] => (qE f T3 d).bind fun a => (qE i T3 e).bind fun b => some (.one (qnI (qc9 k a b), []))
 | _, _ => none)
def qIC (k : Nat) : Calld := qD [qbE k, qtk k, qeb k, qew k, qNM k, qtz k, qNI k, qQD k, qRA k]
def qz9 : List (Nat × List Cmd) := [(9, [.autoB [0, 1, 8, 27, 28, 29] false []]), (16, [.autoB [1, 11, 44, 45, 46] false []])]
abbrev qHT := EP Tryz.f208 0 qnI nb
theorem qEo (k) : ∀ j, (∀ {y0 y1 y2 y3 y4 y5}, qHT 9 (qFv y0 y1 y2 y3 y4 y5) (qbg k j y0 y1 y2 y3 y4 y5)) ∧ (∀ {y0 y1 y2 y3 y4}, qHT 16 (qCA y0 y1 y2 y3 y4) (ZM k j y0 y1 y2 y3 y4))
 | 0 => by and_intros <;> intros <;> exact e0
 | j + 1 => by
  have ih := @qEo k j
  have g := @go (qIC k) [] qz9 [.frz 4 false (RTy.list T3), .autoB [4, 5] true []]
  refine ⟨?_, ?_⟩
  ·intro y0 y1 y2 y3 y4 y5 r h
   rw [qbg] at h
   exact g (gT h (fun c h => qS h fun h => qu h qiK fun h => gTl h fun c h => gD h 9 ih.1) fun c h => gD h 16 ih.2)
  ·intro y0 y1 y2 y3 y4 r h
   rw [ZM] at h
   exact g (gT h (fun c h => qS h fun h => gT h (fun c h => qu h qON fun h => gD h 16 ih.2) fun c h => qu h qPY fun h => qu h qNk fun h => gD h 16 ih.2) fun c h => gT h (fun c h => qu h (fun q => qLr q (by assumption)) fun h => gL h) fun c h => qu h (fun q => qLw q (by assumption)) fun h => gL h)
theorem qOB (k a b r) (h : qjA k a b = some r): qId a b r := qN Tryz.f208 (go (qIC k) [] qz9 [.frz 4 false (RTy.list T3), .autoB [4, 5] true []] (qu h qcq fun h => gTl h fun c h => qu h qcq fun h => gTl h fun c h => qu h qrX fun h => gD h 9 (qEo k k).1))
theorem qNz {k a b} (h : (qjA k a b).isSome): qId a b (qc9 k a b) := qJ h (qOB k a b)
abbrev qzT (a : List T21.T) (r : Int) : Prop := CC Tryz.prog 116 [ro T21 a] [] (ri r) (nb r)
def qDq := fun y0 y1 y2 => (⟨qI 30 [(8, ro T21 y0), (9, ri y1), (10, ri y2)], []⟩ : St)
def Yh (k : Nat) : Nat → List T21.T → Int → Int → Option Int
 | 0, _, _, _ => none
 | j + 1, y0, y1, y2 =>
 bif y2 < y1 then
 if (0 ≤ y2) ∧ (y2 < y0.length) then
 bif (decide ((y0.getD y2.toNat T21.dflt).1 < (0 : Int)) || decide ((y0.getD y2.toNat T21.dflt).1 > (y0.getD y2.toNat T21.dflt).2) || decide ((y0.getD y2.toNat T21.dflt).2 > (17179869184 : Int))) then
 some 1
 else
 Yh k j y0 y1 (qa .i64 (y2 + 1))
 else none
 else
 some 0
def qay (k : Nat) (a : List T21.T) : Option Int :=
 bif (↑a.length : Int) > (256 : Int) then
 some 8
 else
 Yh k k a (↑a.length : Int) 0
def VA := fun k a => (qay k a).getD 0
def qo6 (k : Nat) : Ke := (116, mo 1, fun
 | [.r (.ro d b)], [] => (qE d T21 b).bind fun a => some (.one (ri (VA k a), []))
 | _, _ => none)
def qxe : List (Nat × List Cmd) := [(4, [.autoB [8, 9, 10] false []])]
abbrev qOs := EP Tryz.f116 0 ri nb
theorem qvz (k) : ∀ j, (∀ y0 y1 y2, qOs 4 (qDq y0 y1 y2) (Yh k j y0 y1 y2))
 | 0 => by intros; exact e0
 | j + 1 => by
  have ih := @qvz k j
  ·intro y0 y1 y2 r h
   rw [Yh] at h
   exact go (qD []) [] qxe [.autoB [2] true []] (gS h (fun h => qS h fun h => qB h fun h => gC h 4 (ih _ _ _ _)) fun h => gL h)
theorem qLj (k a r) (h : qay k a = some r): qzT a r := qN Tryz.f116 (go (qD []) [] qxe [.autoB [2] true []] (qB h fun h => gC h 4 ((qvz k k) _ _ _ _)))
theorem qnZ {k a} (h : (qay k a).isSome): qzT a (VA k a) := qJ h (qLj k a)
end
end Go.AM
namespace Go.AM
open Go
end Go.AM
namespace Go.AM
open Go Go.Proofs Go.Shelf Go.RowKit Go.Lib
variable {P : Program} {ρ : Ren}
structure Ext (w w' : World) : Prop where
 grew : Grew w w'
 frame : ∀ B, B < w.heap.size → w'.heap[B]? = w.heap[B]?
theorem Ext.refl (w : World) : Ext w w := ⟨.refl w, fun _ _ => rfl⟩
theorem Ext.trans {a b c : World} (h : Ext a b) (k : Ext b c) : Ext a c := ⟨h.grew.trans k.grew, fun B hB => (k.frame B (Nat.lt_of_lt_of_le hB h.grew.size)).trans (h.frame B hB)⟩
end Go.AM
namespace Go.AM
open Go Go.Proofs Go.Shelf Go.RowKit
section
variable {P : Program}
theorem qvF {cx : Cx} {env : Env} {b : Blk} {h : Value} {w' : World} (hn : ∀ n, env n = none) (hh : ∀ n, ¬ cx.hid n) (hent : ∀ nm h, cx.ent nm = some h ↔ env nm = some (0, h))
  (hg : Grew cx.w0 w') (hfr : ∀ B, B < cx.w0.heap.size → w'.heap[B]? = cx.w0.heap[B]?) (hb : ∀ B, wB h = some B → cx.w0.heap.size ≤ B ∧ B < w'.heap.size)
  (hr : RepB w' (qp cx (env.put 0 0 h) w') (env.put 0 0 h) h b) : Mem cx (zS 0 [(0, b)]) w' (env.put 0 0 h) := by
 have nent : ∀ nm h0, cx.ent nm = some h0 → False := fun nm h0 e => by
  have := (hent nm h0).1 e
  rw [hn] at this; cases this
 have hput : ∀ nm v x, env.put 0 0 h nm = some (v, x) → nm = 0 ∧ v = 0 ∧ x = h := fun nm v x e => by
  unfold Env.put at e
  split at e
  ·rename_i hn
   simp at e
   exact ⟨hn, e.1.symm, e.2.symm⟩
  ·rw [hn] at e; cases e
 refine ⟨fun nm ver b' e => ?_, fun nm e _ => ?_, fun nm h => absurd h (hh nm), fun nm nm' v v' h h' B e e' _ _ => ?_, fun nm v h' B e hq => ?_, hg, fun B hB _ => hfr B hB, fun nm h h0 _ e0 => (nent nm h0 e0).elim, fun nm h0 e0 => (nent nm h0 e0).elim⟩
 ·have hn : nm = 0 ∧ ver = 0 ∧ b' = b := by
   simp only [zS, qU] at e
   cases hq : qC 0 nm <;> simp only [hq, qi, qg] at e
   ·cases e
   ·have := ql hq
    simp at e
    exact ⟨this.symm, e.1.symm, e.2.symm⟩
  obtain ⟨rfl, rfl, rfl⟩ := hn
  exact ⟨h, by simp [Env.put], hr⟩
 ·unfold Env.put
  split
  ·rename_i hn
   subst hn
   simp [zS, qU] at e
  ·exact hn nm
 ·rw [(hput _ _ _ e).1, (hput _ _ _ e').1]
 ·obtain ⟨rfl, rfl, rfl⟩ := hput _ _ _ e
  exact ⟨.inl (hb B hq).1, (hb B hq).2⟩
theorem qtg {w : World} {ok : Nat → Prop} {env : Env} {base : Nat} {e : TypeId} {τ : RTy} {l : List τ.T} {v : Value} {us : List Value} (hpos : 0 < τ.sz) (h : w.ownsRow base e τ.sz v l.length us) (hu : All2 (RepR w ok) us (wF τ l)) : RepB w ok env v (.row e τ l) ∧ ∀ B, wB v = some B → base ≤ B ∧ B < w.heap.size := by
 obtain ⟨hl, ⟨rfl, h0⟩ | ⟨g, cap, cur, rfl, hg, hh, hcap, hmx, hs, ht⟩⟩ := h
 ·have : l = [] := List.length_eq_zero_iff.1 h0
  subst this
  exact ⟨.rowNil _ _ _, fun B hB => by simp [wB] at hB⟩
 ·by_cases hc : cap = 0
  ·have hl0 : l.length = 0 := by omega
   have : l = [] := List.length_eq_zero_iff.1 hl0
   subst this; subst hc
   exact ⟨.rowNil _ _ _, fun B hB => by simp [wB] at hB⟩
  ·refine ⟨.row g e τ l cap cur hh hcap (by omega) hmx hs fun k hk => ?_, fun B hB => ?_⟩
   ·have := hu.get Go.undef .undef k (by rw [wH]; exact hk)
    rw [← ht] at this
    simpa [List.getElem?_take, hk] using this
   ·rw [zH (by omega)] at hB
    simp at hB; subst hB
    exact ⟨hg, (Array.getElem?_eq_some_iff.1 hh).1⟩
open Go.RowKit Go.Lib in
set_option maxHeartbeats 2000000 in
set_option maxRecDepth 100000 in
theorem quy {ρ : Ren} (L : SlLaysE0.n41 P ρ) (i0 : TypeInfo) (z : Value) (size bytes : Nat) (hi : P.info? (ρ.t 23) = some i0) (hz0 : i0.zero = some z) (hz1 : i0.size = size) (hz2 : i0.bytes = bytes) (hzs : z.cells.size = size) (hsz : 0 < size)
  (z23 : ∀ w, (Go.sizeOf (ρ.t 23)).run P w = .ok size w) (ad : Addr) (c : Nat) (w : World) :
  Calls P (ρ.f 41) #[.slice (some ad) 0 c] w fun e w' => ∃ v', e = .returned v' ∧ w'.ownsRow w.heap.size (ρ.t 23) size v' 0 [] ∧ Below w.heap.size w w' := by
 have mixed := L.mixed; have t4 := L.t4; have a4 := L.a4; have z4 := L.z4; have v4 := L.v4; have t22 := L.t22; have a22 := L.a22; have z22 := L.z22; have v22 := L.v22
 have q22 : ∀ (w : World) (a : Option Addr) (n c n' c' : Nat), (binOp .eql (ρ.t 22) (.slice a n c) (.slice none n' c')).run P w = .ok (.bool a.isNone) w := fun w a n c n' c' => Lib.run_eql_slice_nil w _ _ a n c n' c' L.t22
 have u22 : ∀ w, Sem.run P (underlying (ρ.t 22)) w = .ok (TypeDesc.slice (ρ.t 23)) w := run_underlying t22
 obtain ⟨_, _, FG⟩ := L.f41
 go_enter FG, SlBodyN.n41_ntmps ρ
 go_wp2_with (at_builtin; refine wpList_append_own _ rfl _ _ (ρ.t 22) rfl w.heap.size (ρ.t 23) i0 z size bytes t22 hi hz0 hz1 hz2 hzs hsz _ _ _ rfl (World.ownsRow_made w #[] 0 (qT _) (z8 _) (by simp)) ad 0 c [] rfl ?qc1 ?qc2 ?qc3 ?qc4 ?qc5 ?qc6 ?_)
 case qc1 => simp
 case qc2 => intro j u hj; simp at hj
 case qc3 => intro u hu; simp at hu
 case qc4 => simp [maxLen]
 case qc5 => simp
 case qc6 => simp
 intro v' w1 hown hgrow hnil
 go_wp2
 go_ret
 refine ⟨v', rfl, by simpa using hown, ?_⟩
 exact ((Below.refl _ w).alloc (qT _) _).grown hgrow (by simp) (by intro k hk; simp [Value.ownBlock] at hk; omega)
theorem qGY [GT P] {ρ : Ren} (L : SlLaysE0.n41 P ρ) {τ : RTy} {i0 : TypeInfo} {z : Value} (hi : P.info? (ρ.t 23) = some i0) (hz0 : i0.zero = some z) (hz1 : i0.size = τ.sz) (hzs : z.cells.size = τ.sz) (hpos : 0 < τ.sz) (hby : 0 < i0.bytes) (z23 : ∀ w, (Go.sizeOf (ρ.t 23)).run P w = .ok τ.sz w)
  (hf : ∃ fn c, P.funcs[ρ.f 41]? = some fn ∧ fn.body = some c ∧ (fn.name == "runtime.NumGoroutine") = false) (l : List τ.T) (hbig : l.length * i0.bytes ≤ 140737488355328) : CC P (ρ.f 41) [.r (.ro τ l)] [] (.own 0 0) [(0, .row (ρ.t 23) τ l)] := by
 refine ⟨hf, fun cx env vs hwf hG hh hent hm hs hargs => ?_⟩
 have none : ∀ n, env n = none := fun n => hm.dom n rfl (hh n)
 have hvs : vs = #[vs.getD 0 Go.undef] := by
  refine Array.ext (by rw [hs]; rfl) fun i hi1 hi2 => ?_
  have : i = 0 := by simpa using hi2
  subst this
  simp [hi1]
 have hr := hargs 0 (by simp)
 simp only [List.getD_cons_zero] at hr
 rw [hvs]
 generalize vs.getD 0 Go.undef = u at hr
 have hlen : l.length ≤ maxLen := by
  have : l.length ≤ l.length * i0.bytes := Nat.le_mul_of_pos_right _ hby
  unfold maxLen; omega
 have fin : ∀ {v' : Value} {w' : World} {us : List Value}, w'.ownsRow cx.w0.heap.size (ρ.t 23) τ.sz v' l.length us → Below cx.w0.heap.size cx.w0 w' → All2 (RepR cx.w0 (qp cx env cx.w0)) us (wF τ l) →
   ∃ v env', (Ending.returned v' : Ending) = .returned v ∧ Mem cx (zS 0 [(0, .row (ρ.t 23) τ l)]) w' env' ∧ Rep w' (qp cx env' w') env' v (.own 0 0) := fun {v' w' us} ho hB hu => by
  have ok' : ∀ B, qp cx env cx.w0 B → qp cx (env.put 0 0 v') w' B := fun B ⟨h1, h2, h3⟩ => by
   refine ⟨h1, Nat.lt_of_lt_of_le h2 hB.size, fun nm ver h e q => ?_⟩
   unfold Env.put at e
   split at e
   ·simp at e
    obtain ⟨rfl, rfl⟩ := e
    obtain ⟨_, ⟨rfl, _⟩ | ⟨g, cap, cur, rfl, hg, _⟩⟩ := ho
    ·simp [wB] at q
    ·cases cap with
     | zero => simp [wB] at q
     | succ c => simp [wB] at q; omega
   ·rw [none] at e; cases e
  have hu' : All2 (RepR w' (qp cx (env.put 0 0 v') w')) us (wF τ l) := hu.mono fun _ _ h => h.mono ok' fun B o hB' => zr (hB.block B hB'.2.1) o
  obtain ⟨h1, h2⟩ := qtg (env := env.put 0 0 v') hpos ho hu'
  exact ⟨v', env.put 0 0 v', rfl, qvF none hh hent ⟨hB.size, hB.os, hB.output⟩ (fun B hB' => hB.block B hB') h2 h1, .own ⟨0, _, by simp [Env.put], qT _, fun _ => rfl⟩⟩
 have nilC : ∀ cap, l = [] → Calls P (ρ.f 41) #[.slice Option.none 0 cap] cx.w0 fun e w' => ∃ v env', e = .returned v ∧ Mem cx (zS 0 [(0, .row (ρ.t 23) τ l)]) w' env' ∧ Rep w' (qp cx env' w') env' v (.own 0 0) := fun cap h0 => by
  refine (AnyE.slices_Clone_nil L 0 cap cx.w0).mono fun e w' ⟨he, hw⟩ => ?_
  subst hw; subst h0; subst he
  exact fin (us := []) ⟨by simp, .inl ⟨rfl, rfl⟩⟩ (Below.refl _ _) .nil
 have some_ : ∀ (B o cap : Nat) (us : List Value), us.length = l.length * τ.sz → (∀ k, k < l.length * τ.sz → cx.w0.cell? ⟨B, o + k, Option.none⟩ = some (us.getD k Go.undef)) → All2 (RepR cx.w0 (qp cx env cx.w0)) us (wF τ l) →
   Calls P (ρ.f 41) #[.slice (some ⟨B, o, Option.none⟩) l.length cap] cx.w0 fun e w' => ∃ v env', e = .returned v ∧ Mem cx (zS 0 [(0, .row (ρ.t 23) τ l)]) w' env' ∧ Rep w' (qp cx env' w') env' v (.own 0 0) := fun B o cap us h1 h2 h3 => by
  refine (AnyE.slices_Clone L i0 z τ.sz i0.bytes hi hz0 hz1 rfl hzs hpos z23 B o l.length cap us cx.w0 h1 hlen hbig (fun j u hu => ?_) (qcc τ l us h3)).mono fun e w' ⟨v', he, ho, _, hB⟩ => ?_
  ·obtain ⟨hj, hv⟩ := List.getElem?_eq_some_iff.1 hu
   rw [h2 j (by omega)]
   simp [hj, hv]
  ·subst he
   exact fin ho hB h3
 cases hr with
 | r h =>
  cases h with
  | nil _ a cap =>
   cases a with
   | none => exact nilC cap rfl
   | some a =>
    obtain ⟨B, o, q⟩ := a
    cases q with
    | none => exact some_ B o cap [] (by simp) (fun k hk => by simp at hk) .nil
    | some q =>
     refine (quy L i0 z τ.sz i0.bytes hi hz0 hz1 rfl hzs hpos z23 ⟨B, o, some q⟩ cap cx.w0).mono fun e w' ⟨v', he, ho, hB⟩ => ?_
     subst he
     exact fin ho hB .nil
  | ro _ _ B o cap g hB hcap hc hr =>
   obtain ⟨us, h1, h2, h3⟩ := qaW (RepR.ro τ l B o cap g hB hcap hc hr)
   exact some_ B o cap us h1 h2 h3
end
end Go.AM
namespace Go.AM
open Go Go.Proofs Go.Shelf Go.RowKit Go.Sort
def vJ (τ : RTy) : List τ.T → List Value
 | [] => []
 | x :: l => wu τ x ++ vJ τ l
theorem qdk {τ : RTy} (hf : τ.flat = true) : ∀ l : List τ.T, wF τ l = (vJ τ l).map .v
 | [] => rfl
 | x :: l => by simp [wF, vJ, ZU τ x hf, qdk hf l]
theorem Ql {τ : RTy} (hf : τ.flat = true) (l : List τ.T) : (vJ τ l).length = l.length * τ.sz := by
 rw [← wH, qdk hf]; simp
theorem quV {w : World} {ok : Nat → Prop} {u x : Value} (h : RepR w ok u (.v x)) : u = x := by
 cases h; rfl
section
variable {P : Program}
def qJA (P : Program) [GT P] (f : FuncId) (τ : RTy) (e : TypeId) (l l' : List τ.T) (ys : List Value) : Prop :=
 (l = [] → ∀ (w : World) (a : Option Addr), GT.G P w → Calls P f (.slice a 0 0 :: ys).toArray w fun en w' => en = .returned (.tuple #[]) ∧ Grew w w' ∧ ∀ B, B < w.heap.size → w'.heap[B]? = w.heap[B]?) ∧
 ∀ (w : World) (B cap : Nat) (cur : Array Value), GT.G P w → w.heap[B]? = some (.cells cur e (0, 0)) → l.length ≤ cap → 0 < cap → cap ≤ maxLen → cur.size = cap * τ.sz → (∀ k, k < l.length * τ.sz → cur.getD k Go.undef = (vJ τ l).getD k Go.undef) →
  Calls P f (.slice (some ⟨B, 0, none⟩) l.length cap :: ys).toArray w fun en w' => en = .returned (.tuple #[]) ∧ Grew w w' ∧ (∀ B', B' < w.heap.size → B' ≠ B → w'.heap[B']? = w.heap[B']?) ∧
   ∃ cur', w'.heap[B]? = some (.cells cur' e (0, 0)) ∧ cur'.size = cur.size ∧ ∀ k, k < l.length * τ.sz → cur'.getD k Go.undef = (vJ τ l').getD k Go.undef
theorem qlQ [GT P] {f : FuncId} {τ : RTy} {e : TypeId} {l l' : List τ.T} (hflat : τ.flat = true) (hlen : l'.length = l.length) {xs : List AV} {ys : List Value} (hxl : xs.length = ys.length)
  (hx : ∀ (w : World) (ok : Nat → Prop) (env : Env) (u : Value) (i : Nat), i < xs.length → Rep w ok env u (xs.getD i .undef) → u = ys.getD i Go.undef)
  (hf : ∃ fn c, P.funcs[f]? = some fn ∧ fn.body = some c ∧ (fn.name == "runtime.NumGoroutine") = false) (h : qJA P f τ e l l' ys) :
  CC P f (.own 0 0 :: xs) [.row e τ l] (.tup []) [(0, .row e τ l')] := by
 refine ⟨hf, fun cx env vs hwf hG hh hent hm hs hargs => ?_⟩
 obtain ⟨top, h1, h2, h3, h4⟩ := hG
 have hG := GT.keep _ _ h3 h1
 obtain ⟨u, heu, hrep⟩ := hm.blk 0 0 (.row e τ l) rfl
 have hvs : vs = (u :: ys).toArray := by
  refine Array.ext (by rw [hs]; simp [hxl]) fun i hi hi2 => ?_
  have hi3 : i < xs.length + 1 := by rw [hs] at hi; simpa using hi
  have hr := hargs i (by simpa using hi3)
  cases i with
  | zero =>
   simp only [List.getD_cons_zero] at hr
   have : vs.getD 0 Go.undef = u := by
    generalize vs.getD 0 Go.undef = z at hr
    cases hr with
    | own hR =>
     obtain ⟨cv, x, e1, e2, e3⟩ := hR
     rw [heu] at e1
     simp at e1
     obtain ⟨rfl, rfl⟩ := e1
     exact e3 rfl
   simp [hi] at this
   simpa using this
  | succ i =>
   simp only [List.getD_cons_succ] at hr
   have := hx _ _ _ _ i (by omega) hr
   have hi4 : i < ys.length := by omega
   simp [hi, hi4] at this
   simpa using this
 subst hvs
 have upd : ∀ {w' : World}, Grew cx.w0 w' → (∀ B, B < cx.w0.heap.size → wB u ≠ some B → w'.heap[B]? = cx.w0.heap[B]?) → RepB w' (qp cx (env.put 0 0 u) w') (env.put 0 0 u) u (.row e τ l') →
   ∃ v env', (Ending.returned (.tuple #[]) : Ending) = .returned v ∧ Mem cx (zS 0 [(0, .row e τ l')]) w' env' ∧ Rep w' (qp cx env' w') env' v (.tup []) := fun {w'} hg hk hr => by
  have T := wM (ver := 0) (b := .row e τ l') hm (hh 0) ⟨⟨.inr ⟨0, u, heu, .inr ⟨rfl, rfl⟩⟩, hg, fun B hB hq => hk B hB (hq 0 u heu), fun B q => .inr ⟨0, u, heu, q⟩⟩, hr⟩
  exact ⟨_, _, rfl, T.mem, .tup _ _ rfl fun i hi => by simp at hi⟩
 generalize hb : Blk.row e τ l = b at hrep
 cases hrep with
 | rowNil _ _ a =>
  cases hb
  refine (h.1 rfl cx.w0 a hG).mono fun en w' ⟨he, hg, hk⟩ => ?_
  subst he
  refine upd hg (fun B hB _ => hk B hB) ?_
  have : l' = [] := List.length_eq_zero_iff.1 hlen
  subst this
  exact .rowNil _ _ _
 | row B _ _ _ cap cur hB hcap h0 hmx hsz hc =>
  cases hb
  refine (h.2 cx.w0 B cap cur hG hB hcap h0 hmx hsz fun k hk => ?_).mono fun en w' ⟨he, hg, hk, cur', hB', hs', hc'⟩ => ?_
  ·have := hc k hk
   rw [qdk hflat] at this
   have hk2 : k < (vJ τ l).length := by rw [Ql hflat]; exact hk
   have e1 : ((vJ τ l).map RV.v).getD k .undef = .v ((vJ τ l).getD k Go.undef) := by simp [hk2]
   rw [e1] at this
   exact quV this
  ·subst he
   have hhb : wB (.slice (some ⟨B, 0, none⟩) l.length cap) = some B := zH h0
   refine upd hg (fun B' hB2 hq => hk B' hB2 fun q => hq (by rw [hhb, q])) ?_
   have R := RepB.row (env := env.put 0 0 (.slice (some ⟨B, 0, none⟩) l.length cap)) (ok := qp cx (env.put 0 0 (.slice (some ⟨B, 0, none⟩) l.length cap)) w') B e τ l' cap cur' hB' (by omega) h0 hmx (by rw [hs', hsz]) fun k hk => by
    rw [hlen] at hk
    rw [hc' k hk, qdk hflat]
    have hk2 : k < (vJ τ l').length := by rw [Ql hflat, hlen]; exact hk
    simp [hk2]
    exact .v _
   rw [hlen] at R
   exact R
 | _ => cases hb
theorem ql1 {w : World} {B : Nat} {cur : Array Value} {e : TypeId} (hB : w.heap[B]? = some (.cells cur e (0, 0))) {F : Array Value} (hs : F.size ≤ cur.size) (h : ∀ k, k < F.size → cur.getD k Go.undef = F.getD k Go.undef) : Holds id w B 0 F := fun j hj => by
 have hj2 : j < cur.size := by omega
 refine ⟨?_, ?_⟩
 ·have := h j hj
  simp [hj, hj2] at this
  unfold World.cell?
  simp [hB, hj2, this, hj]
 ·unfold World.frozen?
  simp [hB]
theorem qiu {w : World} {B : Nat} {cur : Array Value} {e : TypeId} (n : Nat) (hB : w.heap[B]? = some (.cells cur e (0, 0))) (F : Array Value) (os : Array Obj) (hs : F.size ≤ cur.size) :
  let w' := grow (putRow id (Sort.ahead w n) B 0 F) os
  Grew w w' ∧ (∀ B', B' < w.heap.size → B' ≠ B → w'.heap[B']? = w.heap[B']?) ∧ ∃ cur', w'.heap[B]? = some (.cells cur' e (0, 0)) ∧ cur'.size = cur.size ∧ ∀ k, k < F.size → cur'.getD k Go.undef = F.getD k Go.undef := by
 have hlt : B < w.heap.size := (Array.getElem?_eq_some_iff.1 hB).1
 have hsz : (putRow id (Sort.ahead w n) B 0 F).heap.size = w.heap.size := by simp [putRow, mapBlock, Sort.ahead]
 have hget : ∀ B', B' < w.heap.size → (grow (putRow id (Sort.ahead w n) B 0 F) os).heap[B']? = (w.heap.modify B (onCells (putCells id 0 F)))[B']? := fun B' hB' => by
  show (_ ++ os)[B']? = _
  rw [Array.getElem?_append_left (by rw [hsz]; exact hB')]
  rfl
 refine ⟨⟨?_, rfl, rfl⟩, fun B' hB' hne => ?_, putCells id 0 F cur, ?_, by simp [putCells], fun k hk => ?_⟩
 ·show _ ≤ (_ ++ os).size
  simp [hsz]
 ·rw [hget B' hB', Array.getElem?_modify]
  simp [Ne.symm hne]
 ·rw [hget B hlt, Array.getElem?_modify]
  simp [hB, onCells]
 ·have : k < cur.size := by omega
  simp [putCells, this, hk]
theorem quT [GT P] {ρ : Ren} (L : Lays.n189 P ρ) (hf : ∃ fn c, P.funcs[ρ.f 189]? = some fn ∧ fn.body = some c ∧ (fn.name == "runtime.NumGoroutine") = false) (e : TypeId) (l : List Int) (hb : l.length < 4611686018427387904) :
  CC P (ρ.f 189) [.own 0 0] [.row e (.int .i64) l] (.tup []) [(0, .row e (.int .i64) (l.mergeSort fun x y => decide (x ≤ y)))] := by
 have hv : ∀ l : List Int, vJ (.int .i64) l = l.map (Value.int .i64) := fun l => by
  induction l with
  | nil => rfl
  | cons x l ih => simp [vJ, wu, ih]
 refine qlQ (τ := .int .i64) (e := e) (l := l) (xs := []) (ys := []) rfl (List.length_mergeSort l) rfl (fun _ _ _ _ i hi => by simp at hi) hf ⟨fun _ w a _ => ?_, fun w B cap cur hG hB hcap h0 hmx hsz hc => ?_⟩
 ·refine (Any.slices_Sort_int_none L a 0 w).mono fun en w' ⟨he, hw⟩ => ⟨he, ?_⟩
  subst hw
  exact ⟨Grew.refl _, fun _ _ => rfl⟩
 ·have hsz' : cur.size = cap := by rw [hsz]; simp [RTy.sz]
  have hF : Holds (Value.int .i64) w B 0 l.toArray := fun j hj => by
   have hj : j < l.length := by simpa using hj
   have := (ql1 hB (F := (l.map (Value.int .i64)).toArray) (by simp; omega) fun k hk => by
    have hk : k < l.length := by simpa using hk
    have := hc k (by simpa [RTy.sz] using hk)
    rw [hv] at this
    simpa using this) j (by simpa using hj)
   simpa [hj] using this
  refine (Any.slices_Sort_int L B 0 cap l w hF (Array.getElem?_eq_some_iff.1 hB).1 hb).mono fun en w' ⟨he, n, os, hw⟩ => ⟨he, ?_⟩
  have e0 : ∀ m : List Int, putRow (Value.int .i64) (Sort.ahead w n) B 0 m.toArray = putRow id (Sort.ahead w n) B 0 (m.map (Value.int .i64)).toArray := fun m => by
   unfold putRow
   congr 1
   funext c
   unfold putCells
   refine Array.ext (by simp) fun i h1 h2 => ?_
   by_cases q : i < m.length
   ·simp [q]
   ·simp [q]
  rw [e0] at hw
  subst hw
  have := qiu n hB ((l.mergeSort fun x y => decide (x ≤ y)).map (Value.int .i64)).toArray os (by simp; omega)
  refine ⟨this.1, this.2.1, ?_⟩
  obtain ⟨cur', h1, h2, h3⟩ := this.2.2
  refine ⟨cur', h1, h2, fun k hk => ?_⟩
  rw [h3 k (by simpa [RTy.sz] using hk), hv]
  simp
end
end Go.AM
namespace Go.AM
open Go Go.Proofs Go.Shelf Go.RowKit Go.Sort
section
variable {P : Program}
theorem qkB {α : Type} [Inhabited α] {τ : RTy} (hf : τ.flat = true) (zb : α → τ.T) (hpos : 0 < τ.sz) (d : Array α) :
  Sort.flatK (fun a => wu τ (zb a)) τ.sz d = (vJ τ (d.toList.map zb)).toArray := by
 have hl : ∀ (l : List α) (j i : Nat), j < l.length → i < τ.sz → (vJ τ (l.map zb)).getD (j * τ.sz + i) Go.undef = (wu τ (zb (l.getD j default))).getD i Go.undef := fun l => by
  induction l with
  | nil => intro j i h; simp at h
  | cons x l ih =>
   intro j i hj hi
   have hv := vV τ (zb x) hf
   cases j with
   | zero => simp [vJ, List.getElem?_append, hv, hi]
   | succ j =>
    have := ih j i (by simpa using hj) hi
    have e1 : (j + 1) * τ.sz + i - τ.sz = j * τ.sz + i := by rw [qTX]; omega
    have e2 : ¬ (j + 1) * τ.sz + i < τ.sz := by rw [qTX]; omega
    simpa [vJ, List.getElem?_append, hv, e1, e2] using this
 refine ext_get! (by simp [Sort.size_flatK, Ql hf]) fun t ht => ?_
 have ht' : t < d.size * τ.sz := by simpa using ht
 rw [Sort.get_flatK _ _ _ _ ht']
 have hd : t / τ.sz < d.size := Nat.div_lt_of_lt_mul (by rw [Nat.mul_comm]; exact ht')
 have := hl d.toList (t / τ.sz) (t % τ.sz) (by simpa using hd) (Nat.mod_lt _ hpos)
 rw [Nat.mul_comm, Nat.div_add_mod] at this
 have h2 : t < (vJ τ (d.toList.map zb)).length := by rw [Ql hf]; simpa using ht'
 have h3 : t % τ.sz < (wu τ (zb (d.toList.getD (t / τ.sz) default))).length := by rw [vV _ _ hf]; exact Nat.mod_lt _ hpos
 have e4 : d[t / τ.sz]! = d.toList.getD (t / τ.sz) default := by simp [hd]
 rw [e4, getElem!_pos (vJ τ (d.toList.map zb)).toArray t (by simpa using h2)]
 show (wu τ (zb (d.toList.getD (t / τ.sz) default)))[t % τ.sz]! = _
 rw [getElem!_pos (wu τ (zb (d.toList.getD (t / τ.sz) default))) (t % τ.sz) h3]
 rw [List.getD_eq_getElem?_getD, List.getD_eq_getElem?_getD, List.getElem?_eq_getElem h2, List.getElem?_eq_getElem h3] at this
 simpa using this.symm
theorem quW [GT P] {ρ : Ren} (L : SlLaysF0.n6 P ρ) (hf : ∃ fn c, P.funcs[ρ.f 6]? = some fn ∧ fn.body = some c ∧ (fn.name == "runtime.NumGoroutine") = false) {τ : RTy} (hflat : τ.flat = true) (hpos : 0 < τ.sz)
  (aE : ∀ w, (isAgg (ρ.t 24)).run P w = .ok true w) (zE : ∀ w, (Go.sizeOf (ρ.t 24)).run P w = .ok τ.sz w) (e : TypeId) {α : Type} [Inhabited α] (zb : α → τ.T) (cf : α → α → Int) (hO : SWO (ltOf cf)) (g : Nat)
  (eg : ∀ args w, (callFunc g args).run P w = .ok (.enter g args) w) (hcmp : ∀ blk n w, CmpLays P g #[] (fun a => wu τ (zb a)) τ.sz cf blk 0 n w) (d : Array α) (hsz : d.size < 4611686018427387904) (h1 : ∀ x, ∀ v ∈ wu τ (zb x), v.oneCell' = true) :
  CC P (ρ.f 6) [.own 0 0, .r (.v (.func (.func g) #[] #[]))] [.row e τ (d.toList.map zb)] (.tup []) [(0, .row e τ ((pdq (ltOf cf) d 0 d.size (Lib.bitLen d.size) true true).toList.map zb))] := by
 have hp := pdq_sorts (ltOf cf) hO d 0 d.size (Lib.bitLen d.size) true true (z8 _) (qT _) (Or.inl rfl)
 have hps : (pdq (ltOf cf) d 0 d.size (Lib.bitLen d.size) true true).size = d.size := hp.1.1
 refine qlQ (τ := τ) (e := e) (xs := [.r (.v (.func (.func g) #[] #[]))]) (ys := [.func (.func g) #[] #[]]) hflat (by simp [hps]) rfl (fun _ _ _ u i hi hr => ?_) hf ⟨fun h0 w a _ => ?_, fun w B cap cur hG hB hcap h0 hmx hs hc => ?_⟩
 ·have : i = 0 := by simpa using hi
  subst this
  simp only [List.getD_cons_zero] at hr ⊢
  exact qP hr
 ·refine (AnyF.slices_SortFunc_none L a 0 _ w).mono fun en w' ⟨he, hw⟩ => ⟨he, ?_⟩
  subst hw
  exact ⟨Grew.refl _, fun _ _ => rfl⟩
 ·have hl : (d.toList.map zb).length = d.size := by simp
  rw [hl] at hc hcap ⊢
  have hle : d.size * τ.sz ≤ cur.size := by rw [hs]; exact vT _ hcap
  have hF : HoldsK (fun a => wu τ (zb a)) τ.sz w B 0 d := by
   unfold HoldsK
   rw [qkB hflat zb hpos]
   refine ql1 hB (by simp [Ql hflat]; exact hle) fun k hk => ?_
   have hk : k < d.size * τ.sz := by simpa [Ql hflat] using hk
   rw [hc k hk]
   simp
  refine (AnyQ.slices_SortFunc_eq L τ.sz aE zE (fun a => wu τ (zb a)) (fun x => vV _ _ hflat) h1 cf hO g #[] B 0 cap d w eg (hcmp _ _ _) hF (Array.getElem?_eq_some_iff.1 hB).1 hsz).mono fun en w' ⟨he, n, os, hw⟩ => ⟨he, ?_⟩
  unfold sortWorldK putRowK at hw
  rw [qkB hflat zb hpos] at hw
  subst hw
  have hls : (vJ τ ((pdq (ltOf cf) d 0 d.size (Lib.bitLen d.size) true true).toList.map zb)).length = d.size * τ.sz := by rw [Ql hflat]; simp [hps]
  have := qiu n hB (vJ τ ((pdq (ltOf cf) d 0 d.size (Lib.bitLen d.size) true true).toList.map zb)).toArray os (by simp [hls]; exact hle)
  refine ⟨this.1, this.2.1, ?_⟩
  obtain ⟨cur', h1, h2, h3⟩ := this.2.2
  refine ⟨cur', h1, h2, fun k hk => ?_⟩
  rw [h3 k (by simpa [hls] using hk)]
  simp
end
end Go.AM
namespace Go.AM
open Go Go.Proofs Go.Shelf Go.RowKit Go.Sort
section
variable {P : Program}
theorem qFL [GT P] {f : FuncId} {xs : List Value} {e : TypeId} {τ : RTy} {l : List τ.T} (hf : ∃ fn c, P.funcs[f]? = some fn ∧ fn.body = some c ∧ (fn.name == "runtime.NumGoroutine") = false)
  (h : ∀ w : World, GT.G P w → Calls P f xs.toArray w fun en w' => ∃ v, en = .returned v ∧ Grew w w' ∧ (∀ B, B < w.heap.size → w'.heap[B]? = w.heap[B]?) ∧ (∀ ok env, RepB w' ok env v (.row e τ l)) ∧ ∀ B, wB v = some B → w.heap.size ≤ B ∧ B < w'.heap.size) :
  CC P f (zx xs) [] (.own 0 0) [(0, .row e τ l)] := by
 refine ⟨hf, fun cx env vs hwf hG hh hent hm hs hargs => ?_⟩
 obtain ⟨top, h1, h2, h3, h4⟩ := hG
 have hlen : ∀ l : List Value, (zx l).length = l.length := fun l => by induction l <;> simp [zx, *]
 have hget : ∀ (l : List Value) (i : Nat), i < l.length → (zx l).getD i .undef = .r (.v (l.getD i Go.undef)) := fun l => by
  induction l with
  | nil => intro i h; simp at h
  | cons x l ih =>
   intro i h
   cases i with
   | zero => rfl
   | succ i => simpa [zx] using ih i (by simpa using h)
 have hvs : vs = xs.toArray := by
  refine Array.ext (by rw [hs, hlen]; simp) fun i hi hi2 => ?_
  have hi3 : i < xs.length := by simpa using hi2
  have := hargs i (by rw [hlen]; exact hi3)
  rw [hget xs i hi3] at this
  have := qP this
  simpa [hi, hi3] using this
 subst hvs
 have none : ∀ n, env n = none := fun n => hm.dom n rfl (hh n)
 refine (h cx.w0 (GT.keep _ _ h3 h1)).mono fun en w' ⟨v, he, hg, hfr, hr, hb⟩ => ?_
 exact ⟨v, env.put 0 0 v, he, qvF none hh hent hg hfr hb (hr _ _), .own ⟨0, _, by simp [Env.put], qT _, fun _ => rfl⟩⟩
theorem qMd [GT P] {ρ : Ren} (L : Lays8.n4 P ρ) (hf : ∃ fn c, P.funcs[ρ.f 4]? = some fn ∧ fn.body = some c ∧ (fn.name == "runtime.NumGoroutine") = false) (i0 : TypeInfo) (z : Value) (hi0 : P.info? (ρ.t 25) = some i0) (hz0 : i0.zero = some z) (τ : RTy) (hs : i0.size = τ.sz) (hzs : z.cells.size = τ.sz) (hpos : 0 < τ.sz) (hby : 0 < i0.bytes)
  (n : Nat) (hbig : n * i0.bytes ≤ 140737488355328) : CC P (ρ.f 4) [.r (.v (.slice none 0 0)), .r (.v (.int .i64 n))] [] (.own 0 0) [(0, .row (ρ.t 25) τ [])] := by
 have hn : n ≤ 140737488355328 := Nat.le_trans (Nat.le_mul_of_pos_right _ hby) hbig
 refine qFL (xs := [.slice none 0 0, .int .i64 n]) hf fun w _ => ?_
 by_cases h0 : n = 0
 ·subst h0
  refine (Any8.slices_Grow_room L none 0 0 0 w (qT _) (by omega) (by omega) (by omega)).mono fun en w' ⟨he, hw⟩ => ?_
  subst hw
  exact ⟨_, he, Grew.refl _, fun _ _ => rfl, fun _ _ => .rowNil _ _ _, fun B hB => by simp [wB] at hB⟩
 ·refine (Any8.slices_Grow_grow L i0 z hi0 hz0 (by omega) none 0 0 n [] w (qT _) (by omega) (by simpa using hbig) (by omega) (by simp) (fun _ => rfl) (fun a ha => by cases ha)).mono fun en w' ⟨he, hw⟩ => ?_
  have hge := grownCap_ge w (0 + n) 0 (ρ.t 25)
  have hm := grownCap_le_maxLen w (0 + n) 0 (ρ.t 25) (by unfold maxLen; omega)
  subst hw
  refine ⟨_, he, ⟨?_, rfl, rfl⟩, fun B hB => ?_, fun ok env => ?_, fun B hB => ?_⟩
  ·show w.heap.size ≤ (w.heap.push _).size
   simp
  ·show (w.heap.push _)[B]? = _
   rw [Array.getElem?_push]
   simp; omega
  ·refine .row w.heap.size (ρ.t 25) τ [] _ _ (heap_alloc_new w.drew _) (z8 _) (by omega) hm ?_ fun k hk => by simp at hk
   simp only [Yd] at hge ⊢
   simp [size_zeroCells, hzs, ← qaS]
   congr 1
   omega
  ·rw [zH (by omega)] at hB
   simp at hB
   subst hB
   refine ⟨qT _, ?_⟩
   show _ < (w.heap.push _).size
   simp
end
end Go.AM
namespace Go.AM
open Go Go.Proofs Go.Shelf Go.RowKit Go.Sort
def qm8 (P : Program) (t : TypeId) (sz b : Nat) : Bool :=
 match P.info? t with
 | some i => match i.zero with
  | some z => qC i.size sz && (qC z.cells.size sz && (qC i.bytes b && (Nat.blt 0 sz && Nat.blt 0 b)))
  | none => false
 | none => false
theorem qkw {P : Program} {t : TypeId} {sz b : Nat} (h : qm8 P t sz b = true) : ∃ i z, P.info? t = some i ∧ i.zero = some z ∧ i.size = sz ∧ z.cells.size = sz ∧ i.bytes = b ∧ 0 < sz ∧ 0 < b := by
 unfold qm8 at h
 split at h
 ·rename_i i hi
  split at h
  ·rename_i z hz
   simp only [qj] at h
   exact ⟨i, z, hi, hz, ql h.1, ql h.2.1, ql h.2.2.1, wo h.2.2.2.1, wo h.2.2.2.2⟩
  ·cases h
 ·cases h
section
variable {P : Program}
theorem qz4 [GT P] {ρ : Ren} (L : SlLaysE0.n41 P ρ) {τ : RTy} {b : Nat} (he : qm8 P (ρ.t 23) τ.sz b = true) (z23 : ∀ w, (Go.sizeOf (ρ.t 23)).run P w = .ok τ.sz w)
  (hf : ∃ fn c, P.funcs[ρ.f 41]? = some fn ∧ fn.body = some c ∧ (fn.name == "runtime.NumGoroutine") = false) (l : List τ.T) (hbig : l.length * b ≤ 140737488355328) : CC P (ρ.f 41) [.r (.ro τ l)] [] (.own 0 0) [(0, .row (ρ.t 23) τ l)] := by
 obtain ⟨i, z, h1, h2, h3, h4, h5, h6, h7⟩ := qkw he
 subst h5
 exact qGY L h1 h2 h3 h4 h6 h7 z23 hf l hbig
theorem qGn [GT P] {ρ : Ren} (L : Lays8.n4 P ρ) (hf : ∃ fn c, P.funcs[ρ.f 4]? = some fn ∧ fn.body = some c ∧ (fn.name == "runtime.NumGoroutine") = false) (τ : RTy) {b : Nat} (he : qm8 P (ρ.t 25) τ.sz b = true)
  (n : Int) (h0 : 0 ≤ n) (hbig : n.toNat * b ≤ 140737488355328) : CC P (ρ.f 4) [.r (.v (.slice none 0 0)), .r (.v (.int .i64 n))] [] (.own 0 0) [(0, .row (ρ.t 25) τ [])] := by
 obtain ⟨i, z, h1, h2, h3, h4, h5, h6, h7⟩ := qkw he
 subst h5
 obtain ⟨m, rfl⟩ := Int.eq_ofNat_of_zero_le h0
 exact qMd L hf i z h1 h2 τ h3 h4 h6 h7 m (by simpa using hbig)
def Vt (x : Int) : Prop := 0 ≤ x ∧ x ≤ 4611686018427387904
instance (x : Int) : Decidable (Vt x) := inferInstanceAs (Decidable (_ ∧ _))
abbrev Y1 : Type := {x : Int × Int // Vt x.1}
instance : Inhabited Y1 := ⟨⟨(0, 0), by decide⟩⟩
def QR : List (Int × Int) → List Y1
 | [] => []
 | x :: l => if h : Vt x.1 then ⟨x, h⟩ :: QR l else QR l
theorem qlv : ∀ l : List (Int × Int), (∀ x ∈ l, Vt x.1) → (QR l).map (·.1) = l
 | [], _ => rfl
 | x :: l, h => by
  have h1 : Vt x.1 := h x (by simp)
  simp [QR, h1, qlv l fun y hy => h y (by simp [hy])]
def XV (x y : Y1) : Int := x.1.1 - y.1.1
theorem qf6 (x y : Y1) : ltOf XV x y = decide (x.1.1 < y.1.1) := by
 unfold ltOf XV
 by_cases h : x.1.1 < y.1.1
 ·rw [qA h, qA (by omega)]
 ·rw [qx h, qx (by omega)]
theorem qiF : SWO (ltOf XV) where
 irrefl x := by rw [qf6]; simp
 trans x y z h1 h2 := by rw [qf6] at *; rw [decide_eq_true_iff] at *; omega
 ntrans x y z h1 h2 := by rw [qf6] at *; rw [decide_eq_false_iff_not] at *; omega
def WU (l : List (Int × Int)) : List (Int × Int) := (pdq (ltOf XV) (QR l).toArray 0 (QR l).toArray.size (Lib.bitLen (QR l).toArray.size) true true).toList.map (·.1)
end
theorem QV {l : List (Int × Int)} (h : ∀ x ∈ l, Vt x.1) : (WU l).Perm l := by
 have hp := (pdq_sorts (ltOf XV) qiF (QR l).toArray 0 (QR l).toArray.size (Lib.bitLen (QR l).toArray.size) true true (z8 _) (qT _) (Or.inl rfl)).1
 have h3 := hp.2.2
 have e1 : ∀ (d : Array Y1) (n : Nat), d.size = n → d.extract 0 n = d := fun d n hn => by subst hn; exact Array.extract_size
 rw [e1 _ _ hp.1, e1 _ _ rfl] at h3
 have := h3.map (fun x : Y1 => x.1)
 unfold WU
 refine this.trans ?_
 show (List.map (fun x : Y1 => x.1) (QR l)).Perm l
 rw [qlv l h]
theorem qqH {l : List (Int × Int)} : (WU l).Pairwise fun x y => x.1 ≤ y.1 := by
 have hp := pdq_sorts (ltOf XV) qiF (QR l).toArray 0 (QR l).toArray.size (Lib.bitLen (QR l).toArray.size) true true (z8 _) (qT _) (Or.inl rfl)
 have hs := hp.1.1
 have h := hp.2
 unfold WU
 generalize pdq (ltOf XV) (QR l).toArray 0 (QR l).toArray.size (Lib.bitLen (QR l).toArray.size) true true = d at hs h
 rw [List.pairwise_map, List.pairwise_iff_getElem]
 intro i j hi hj hij
 have := h i j (z8 _) hij (by rw [← hs]; simpa using hj)
 have hi' : i < d.size := by simpa using hi
 have hj' : j < d.size := by simpa using hj
 rw [getElem!_pos d i hi', getElem!_pos d j hj'] at this
 rw [qf6, decide_eq_false_iff_not] at this
 simp only [Array.getElem_toList]
 omega
def qF6 (l : List Int) : List Int := match l with
 | [] => []
 | [a] => [a]
 | [a, b] => bif decide (a ≤ b) then [a, b] else [b, a]
 | l => l.mergeSort fun x y => decide (x ≤ y)
theorem qu8 (l : List Int) : qF6 l = l.mergeSort fun x y => decide (x ≤ y) := by
 unfold qF6
 split
 ·simp
 ·simp
 ·rename_i a b
  have hp := List.mergeSort_perm [a, b] (fun x y => decide (x ≤ y))
  have hs := List.pairwise_mergeSort (le := fun x y : Int => decide (x ≤ y)) (fun a b c h1 h2 => by simp at h1 h2 ⊢; omega) (fun a b => by simp; omega) [a, b]
  generalize List.mergeSort [a, b] (fun x y => decide (x ≤ y)) = q at hp hs
  have hl := hp.length_eq
  match q, hl with
  | [c, d], _ =>
   simp at hs
   have h1 : c = a ∨ c = b := by simpa using hp.subset (by simp : c ∈ [c, d])
   have h2 : d = a ∨ d = b := by simpa using hp.subset (by simp : d ∈ [c, d])
   have h3 : a = c ∨ a = d := by simpa using hp.symm.subset (by simp : a ∈ [a, b])
   have h4 : b = c ∨ b = d := by simpa using hp.symm.subset (by simp : b ∈ [a, b])
   cases h : decide (a ≤ b)
   ·have h' := of_decide_eq_false h
    rw [qg]
    have : c = b ∧ d = a := by omega
    rw [this.1, this.2]
   ·have h' := of_decide_eq_true h
    rw [qi]
    have : c = a ∧ d = b := by omega
    rw [this.1, this.2]
 ·rfl
def qyS (l : List (Int × Int)) : List (Int × Int) := match l with
 | [] => []
 | [a] => [a]
 | l => WU l
theorem qur {l : List (Int × Int)} (h : ∀ x ∈ l, Vt x.1) : qyS l = WU l := by
 unfold qyS
 split
 ·have := (QV (l := []) (by simp)).length_eq
  exact (List.length_eq_zero_iff.1 this).symm
 ·rename_i a
  exact (List.perm_singleton.1 (QV h)).symm
 ·rfl
end Go.AM
/-
 DERIVED: THE SHELF's CONTRACTS AT THIS DUMP, IN PLAIN WORDS (tools/lay-plain.mjs out of 'TryShelf.lean', which tools/lay-shelf.mjs wrote): THE SAME DECLARATIONS UNDER THE SAME NAMES: 'import', 'namespace', 'open', 'def', 'theorem' AND NOTHING ELSE: no command of the shelf's: FOR A HAND-IN. Each laying: the table of numbers ('.._ren') and one theorem, a field a fact of the dump's own or the kernel's comparison; each contract: ONE APPLICATION.
-/
namespace Go.Proofs
open Go.Shelf
def Tryz.sort_int_ren : Go.Shelf.Ren := ⟨fun | 189 => 246 | 125 => 213 | 257 => 274 | 128 => 255 | 129 => 236 | 294 => 282 | 295 => 283 | 296 => 284 | 297 => 285 | 298 => 286 | 299 => 287 | 216 => 288 | 300 => 289 | 301 => 290 | 328 => 292 | 329 => 276 | 330 => 277 | 331 => 293 | 332 => 294 | 215 => 269 | 343 => 295 | n => n, fun | 28 => 25 | 3 => 3 | 46 => 270 | 0 => 0 | 51 => 284 | 53 => 254 | 4 => 4 | 183 => 296 | 182 => 295 | 131 => 190 | 5 => 5 | 9 => 9 | 218 => 312 | 222 => 316 | 228 => 326 | 229 => 181 | n => n, fun | n => n⟩
theorem Tryz.sort_int : Go.Proofs.Lays.n189 Tryz.prog Tryz.sort_int_ren := {
 mixed := by kernel_rfl
 f125 := Tryz.func213.trans (congrArg some (by kernel_rfl))
 f128 := Tryz.func255.trans (congrArg some (by kernel_rfl))
 f129 := Tryz.func236.trans (congrArg some (by kernel_rfl))
 f189 := Tryz.func246.trans (congrArg some (by kernel_rfl))
 f215 := Tryz.func269.trans (congrArg some (by kernel_rfl))
 f216 := Tryz.func288.trans (congrArg some (by kernel_rfl))
 f257 := Tryz.func274.trans (congrArg some (by kernel_rfl))
 f294 := Tryz.func282.trans (congrArg some (by kernel_rfl))
 f295 := Tryz.func283.trans (congrArg some (by kernel_rfl))
 f296 := Tryz.func284.trans (congrArg some (by kernel_rfl))
 f297 := Tryz.func285.trans (congrArg some (by kernel_rfl))
 f298 := Tryz.func286.trans (congrArg some (by kernel_rfl))
 f299 := Tryz.func287.trans (congrArg some (by kernel_rfl))
 f300 := Tryz.func289.trans (congrArg some (by kernel_rfl))
 f301 := Tryz.func290.trans (congrArg some (by kernel_rfl))
 f328 := Tryz.func292.trans (congrArg some (by kernel_rfl))
 f329 := Tryz.func276.trans (congrArg some (by kernel_rfl))
 f330 := Tryz.func277.trans (congrArg some (by kernel_rfl))
 f331 := Tryz.func293.trans (congrArg some (by kernel_rfl))
 f332 := Tryz.func294.trans (congrArg some (by kernel_rfl))
 f343 := Tryz.func295.trans (congrArg some (by kernel_rfl))
 t0 := Tryz.underlying0
 a0 := Tryz.isAgg0
 z0 := Tryz.sizeOf0
 v0 := Tryz.zeroValue0
 t3 := Tryz.underlying3
 a3 := Tryz.isAgg3
 z3 := Tryz.sizeOf3
 v3 := Tryz.zeroValue3
 t4 := Tryz.underlying4
 a4 := Tryz.isAgg4
 z4 := Tryz.sizeOf4
 v4 := Tryz.zeroValue4
 t5 := Tryz.underlying5
 a5 := Tryz.isAgg5
 z5 := Tryz.sizeOf5
 v5 := Tryz.zeroValue5
 t9 := Tryz.underlying9
 a9 := Tryz.isAgg9
 z9 := Tryz.sizeOf9
 v9 := Tryz.zeroValue9
 t28 := Tryz.underlying25
 a28 := Tryz.isAgg25
 z28 := Tryz.sizeOf25
 v28 := Tryz.zeroValue25
 t46 := Tryz.underlying270
 a46 := Tryz.isAgg270
 z46 := Tryz.sizeOf270
 v46 := Tryz.zeroValue270
 t51 := Tryz.underlying284
 a51 := Tryz.isAgg284
 z51 := Tryz.sizeOf284
 v51 := Tryz.zeroValue284
 t53 := Tryz.underlying254
 a53 := Tryz.isAgg254
 z53 := Tryz.sizeOf254
 v53 := Tryz.zeroValue254
 t131 := Tryz.underlying190
 a131 := Tryz.isAgg190
 z131 := Tryz.sizeOf190
 v131 := Tryz.zeroValue190
 t182 := Tryz.underlying295
 a182 := Tryz.isAgg295
 z182 := Tryz.sizeOf295
 v182 := Tryz.zeroValue295
 t183 := Tryz.underlying296
 a183 := Tryz.isAgg296
 z183 := Tryz.sizeOf296
 v183 := Tryz.zeroValue296
 t218 := Tryz.underlying312
 a218 := Tryz.isAgg312
 z218 := Tryz.sizeOf312
 v218 := Tryz.zeroValue312
 t222 := Tryz.underlying316
 a222 := Tryz.isAgg316
 z222 := Tryz.sizeOf316
 v222 := Tryz.zeroValue316
 t228 := Tryz.underlying326
 a228 := Tryz.isAgg326
 z228 := Tryz.sizeOf326
 v228 := Tryz.zeroValue326
 t229 := Tryz.underlying181
 a229 := Tryz.isAgg181
 z229 := Tryz.sizeOf181
 v229 := Tryz.zeroValue181 }
def Tryz.clone_span_ren : Go.Shelf.Ren := ⟨fun | 41 => 167 | n => n, fun | 22 => 92 | 23 => 91 | 4 => 4 | n => n, fun | n => n⟩
theorem Tryz.clone_span : Go.Proofs.SlLaysE0.n41 Tryz.prog Tryz.clone_span_ren := {
 mixed := by kernel_rfl
 f41 := ⟨Tryz.f167.name, by decide, Tryz.func167.trans (congrArg some (by kernel_rfl))⟩
 t4 := Tryz.underlying4
 a4 := Tryz.isAgg4
 z4 := Tryz.sizeOf4
 v4 := Tryz.zeroValue4
 t22 := Tryz.underlying92
 a22 := Tryz.isAgg92
 z22 := Tryz.sizeOf92
 v22 := Tryz.zeroValue92 }
def Tryz.sort_span_ren : Go.Shelf.Ren := ⟨fun | 6 => 168 | 15 => 213 | 14 => 212 | 28 => 255 | 29 => 236 | 20 => 247 | 21 => 248 | 22 => 249 | 23 => 250 | 24 => 251 | 25 => 252 | 26 => 253 | 27 => 254 | 46 => 275 | 47 => 276 | 48 => 277 | 49 => 278 | 50 => 279 | 57 => 291 | n => n, fun | 22 => 92 | 24 => 91 | 25 => 232 | 3 => 3 | 39 => 270 | 0 => 0 | 53 => 284 | 55 => 254 | 4 => 4 | 46 => 296 | 45 => 295 | 50 => 190 | 5 => 5 | 9 => 9 | 66 => 312 | 70 => 316 | 76 => 326 | 77 => 181 | n => n, fun | n => n⟩
theorem Tryz.sort_span : Go.Proofs.SlLaysF0.n6 Tryz.prog Tryz.sort_span_ren := {
 mixed := by kernel_rfl
 f6 := ⟨Tryz.f168.name, by decide, Tryz.func168.trans (congrArg some (by kernel_rfl))⟩
 f14 := ⟨Tryz.f212.name, by decide, Tryz.func212.trans (congrArg some (by kernel_rfl))⟩
 f15 := Tryz.func213.trans (congrArg some (by kernel_rfl))
 f20 := ⟨Tryz.f247.name, by decide, Tryz.func247.trans (congrArg some (by kernel_rfl))⟩
 f21 := ⟨Tryz.f248.name, by decide, Tryz.func248.trans (congrArg some (by kernel_rfl))⟩
 f22 := ⟨Tryz.f249.name, by decide, Tryz.func249.trans (congrArg some (by kernel_rfl))⟩
 f23 := ⟨Tryz.f250.name, by decide, Tryz.func250.trans (congrArg some (by kernel_rfl))⟩
 f24 := ⟨Tryz.f251.name, by decide, Tryz.func251.trans (congrArg some (by kernel_rfl))⟩
 f25 := ⟨Tryz.f252.name, by decide, Tryz.func252.trans (congrArg some (by kernel_rfl))⟩
 f26 := ⟨Tryz.f253.name, by decide, Tryz.func253.trans (congrArg some (by kernel_rfl))⟩
 f27 := ⟨Tryz.f254.name, by decide, Tryz.func254.trans (congrArg some (by kernel_rfl))⟩
 f28 := Tryz.func255.trans (congrArg some (by kernel_rfl))
 f29 := Tryz.func236.trans (congrArg some (by kernel_rfl))
 f46 := ⟨Tryz.f275.name, by decide, Tryz.func275.trans (congrArg some (by kernel_rfl))⟩
 f47 := Tryz.func276.trans (congrArg some (by kernel_rfl))
 f48 := Tryz.func277.trans (congrArg some (by kernel_rfl))
 f49 := ⟨Tryz.f278.name, by decide, Tryz.func278.trans (congrArg some (by kernel_rfl))⟩
 f50 := ⟨Tryz.f279.name, by decide, Tryz.func279.trans (congrArg some (by kernel_rfl))⟩
 f57 := ⟨Tryz.f291.name, by decide, Tryz.func291.trans (congrArg some (by kernel_rfl))⟩
 t0 := Tryz.underlying0
 a0 := Tryz.isAgg0
 z0 := Tryz.sizeOf0
 v0 := Tryz.zeroValue0
 t3 := Tryz.underlying3
 a3 := Tryz.isAgg3
 z3 := Tryz.sizeOf3
 v3 := Tryz.zeroValue3
 t4 := Tryz.underlying4
 a4 := Tryz.isAgg4
 z4 := Tryz.sizeOf4
 v4 := Tryz.zeroValue4
 t5 := Tryz.underlying5
 a5 := Tryz.isAgg5
 z5 := Tryz.sizeOf5
 v5 := Tryz.zeroValue5
 t9 := Tryz.underlying9
 a9 := Tryz.isAgg9
 z9 := Tryz.sizeOf9
 v9 := Tryz.zeroValue9
 t22 := Tryz.underlying92
 a22 := Tryz.isAgg92
 z22 := Tryz.sizeOf92
 v22 := Tryz.zeroValue92
 t25 := Tryz.underlying232
 a25 := Tryz.isAgg232
 z25 := Tryz.sizeOf232
 v25 := Tryz.zeroValue232
 t39 := Tryz.underlying270
 a39 := Tryz.isAgg270
 z39 := Tryz.sizeOf270
 v39 := Tryz.zeroValue270
 t45 := Tryz.underlying295
 a45 := Tryz.isAgg295
 z45 := Tryz.sizeOf295
 v45 := Tryz.zeroValue295
 t46 := Tryz.underlying296
 a46 := Tryz.isAgg296
 z46 := Tryz.sizeOf296
 v46 := Tryz.zeroValue296
 t50 := Tryz.underlying190
 a50 := Tryz.isAgg190
 z50 := Tryz.sizeOf190
 v50 := Tryz.zeroValue190
 t53 := Tryz.underlying284
 a53 := Tryz.isAgg284
 z53 := Tryz.sizeOf284
 v53 := Tryz.zeroValue284
 t55 := Tryz.underlying254
 a55 := Tryz.isAgg254
 z55 := Tryz.sizeOf254
 v55 := Tryz.zeroValue254
 t66 := Tryz.underlying312
 a66 := Tryz.isAgg312
 z66 := Tryz.sizeOf312
 v66 := Tryz.zeroValue312
 t70 := Tryz.underlying316
 a70 := Tryz.isAgg316
 z70 := Tryz.sizeOf316
 v70 := Tryz.zeroValue316
 t76 := Tryz.underlying326
 a76 := Tryz.isAgg326
 z76 := Tryz.sizeOf326
 v76 := Tryz.zeroValue326
 t77 := Tryz.underlying181
 a77 := Tryz.isAgg181
 z77 := Tryz.sizeOf181
 v77 := Tryz.zeroValue181 }
def Tryz.grow_span_ren : Go.Shelf.Ren := ⟨fun | 4 => 273 | n => n, fun | 22 => 92 | 25 => 91 | 3 => 3 | 4 => 4 | 9 => 9 | 20 => 20 | 0 => 0 | 2 => 3 | n => n, fun | n => n⟩
theorem Tryz.grow_span : Go.Proofs.Lays8.n4 Tryz.prog Tryz.grow_span_ren := {
 mixed := by kernel_rfl
 f4 := ⟨Tryz.f273.name, by decide, Tryz.func273.trans (congrArg some (by kernel_rfl))⟩
 t0 := Tryz.underlying0
 a0 := Tryz.isAgg0
 z0 := Tryz.sizeOf0
 v0 := Tryz.zeroValue0
 t3 := Tryz.underlying3
 a3 := Tryz.isAgg3
 z3 := Tryz.sizeOf3
 v3 := Tryz.zeroValue3
 t4 := Tryz.underlying4
 a4 := Tryz.isAgg4
 z4 := Tryz.sizeOf4
 v4 := Tryz.zeroValue4
 t9 := Tryz.underlying9
 a9 := Tryz.isAgg9
 z9 := Tryz.sizeOf9
 v9 := Tryz.zeroValue9
 t20 := Tryz.underlying20
 a20 := Tryz.isAgg20
 z20 := Tryz.sizeOf20
 v20 := Tryz.zeroValue20
 t22 := Tryz.underlying92
 a22 := Tryz.isAgg92
 z22 := Tryz.sizeOf92
 v22 := Tryz.zeroValue92 }
end Go.Proofs
namespace Go.AM
open Go Go.Proofs
noncomputable section
def qk8 (r : List T21.T) : AV := .own 0 0
def qoj (a : List T21.T) (r : List T21.T) : List (Nat × Blk) := [(0, .row 91 T21 r)]
abbrev qOL (a : List T21.T) (r : List T21.T) : Prop := CC Tryz.prog 167 [ro T21 a] [] (qk8 r) (qoj a r)
def qca (k : Nat) (a : List T21.T) : Option (List T21.T) := if a.length * 16 ≤ 140737488355328 then some a else none
def qam := fun k a => (qca k a).getD []
def qJU (k : Nat) : Ke := (167, mo 1, fun
 | [.r (.ro d b)], [] => (qE d T21 b).bind fun a => some (.one (qk8 (qam k a), qoj a (qam k a)))
 | _, _ => none)
theorem qKB (k a r) (h : qca k a = some r): CC Tryz.prog 167 [.r (.ro T21 a)] [] (qk8 r) (qoj a r) := by
 unfold qca at h
 split at h
 ·rename_i q
  cases h
  exact qz4 (τ := T21) Tryz.clone_span (by kernel_rfl) Tryz.sizeOf91 ⟨Tryz.f167, _, Tryz.func167, rfl, by kernel_rfl⟩ a q
 ·cases h
theorem qKZ {k a} (h : (qca k a).isSome): qOL a (qam k a) := qJ h (qKB k a)
def qlD (r : List T21.T) : AV := .tup []
def qnU (a : List T21.T) (r : List T21.T) : List (Nat × Blk) := [(0, .row 91 T21 r)]
abbrev qQQ (a : List T21.T) (r : List T21.T) : Prop := CC Tryz.prog 168 [.own 0 0, .r (.v (.func (.func 169) #[] #[]))] [.row 91 T21 a] (qlD r) (qnU a r)
theorem qSR (x y : Y1) (W : World) : Calls Tryz.prog 169 #[.agg #[.int .i64 x.1.1, .int .i64 x.1.2], .agg #[.int .i64 y.1.1, .int .i64 y.1.2]] W fun e w' => e = .returned (.int .i64 (XV x y)) ∧ ∃ q os', w' = Sort.grow (W.drewN q) os' := by
 have hw : RowKit.wrap64 (x.1.1 - y.1.1) = XV x y := by
  have h1 := x.2; have h2 := y.2
  unfold Vt at h1 h2
  unfold RowKit.wrap64 XV
  omega
 go_enter Tryz.func169, Tryz.ntmps169
 go_wp2
 go_ret
 exact ⟨by rw [← hw]; rfl, 0, _, by rw [Sort.alloc_eq_grow, Sort.alloc_eq_grow, Sort.grow_grow]; rfl⟩
def qbO (k : Nat) (a : List T21.T) : Option (List T21.T) := if (a.all fun x => decide (Vt x.1)) = true ∧ a.length < 4611686018427387904 then some (qyS a) else none
def qbL := fun k a => (qbO k a).getD []
def qNd (k : Nat) : Ke := (168, fun
 | [.own _ _, .r (.v (.func (.func 169) _ _))] => some [true, false]
 | _ => none, fun
 | [.own 0 0, .r (.v (.func (.func 169) _ _))], [.row 91 d b] => (qE d T21 b).bind fun a => some (.one (qlD (qbL k a), qnU a (qbL k a)))
 | _, _ => none)
theorem qMU (k a r) (h : qbO k a = some r): CC Tryz.prog 168 [.own 0 0, .r (.v (.func (.func 169) #[] #[]))] [.row 91 T21 a] (qlD r) (qnU a r) := by
 unfold qbO at h
 split at h
 ·rename_i q
  cases h
  rw [qur (fun x hx => by simpa using vA.1 q.1 x hx)]
  have h1 : (QR a).map (·.1) = a := qlv a fun x hx => by simpa using vA.1 q.1 x hx
  have hl : (QR a).toArray.size = a.length := by
   have := congrArg qe h1
   simpa using this
  have := quW (P := Tryz.prog) Tryz.sort_span ⟨Tryz.f168, _, Tryz.func168, rfl, by kernel_rfl⟩ (τ := T21) rfl (by decide) Tryz.isAgg91 Tryz.sizeOf91 91 (α := Y1) (fun x => x.1) XV qiF 169 (enters_of Tryz.func169 (by kernel_rfl) rfl) (fun blk n w => fun _ _ _ _ x y => qSR x y _) (QR a).toArray (by rw [hl]; exact q.2) (fun x v hv => by simp [wu] at hv; rcases hv with rfl | rfl <;> rfl)
  have e2 : (QR a).toArray.toList.map (fun x : Y1 => x.1) = a := h1
  rw [e2] at this
  exact this
 ·cases h
theorem qKO {k a} (h : (qbO k a).isSome): qQQ a (qbL k a) := qJ h (qMU k a)
def qOE (k : Nat) (a : T21.T) (b : T21.T) : Option Int :=
 some (qa .i64 (a.1 - b.1))
def qQA := fun k a b => (qOE k a b).getD 0
def qKd (k : Nat) : Ke := (169, mo 2, fun
 | [.agg d, .agg e], [] => (qW [] T21 d).bind fun a => (qW [] T21 e).bind fun b => some (.one (ri (qQA k a b), []))
 | _, _ => none)
end
end Go.AM
namespace Go.AM
open Go Go.Proofs
noncomputable section
abbrev qmr : Type := List T21.T
def qlA (r : qmr) : AV := ro T21 r
abbrev qB9 (a : List T21.T) (r : qmr) : Prop := CC Tryz.prog 117 [ro T21 a] [] (qlA r) (nb r)
def qBa := fun y0 y1 y2 y3 y4 => (⟨qI 66 [(3, .own 1000000 0), (4, .ptr 1000001 0 0), (12, .own 1000002 0), (13, ri y0), (14, ri y1)], [(1000000, 0, .row 91 T21 y2), (1000001, 0, .var 91 (qy (qr T21 y3))), (1000002, 0, .row 91 T21 y4)]⟩ : St)
def vK (k : Nat) : Nat → Int → Int → List T21.T → T21.T → List T21.T → Option qmr
 | 0, _, _, _, _, _ => none
 | j + 1, y0, y1, y2, y3, y4 =>
 bif y1 < y0 then
 if (0 ≤ y1) ∧ (y1 < y4.length) then
 bif (decide ((y4.getD y1.toNat T21.dflt).1 ≥ (y4.getD y1.toNat T21.dflt).2) || Vo T21 (y4.getD y1.toNat T21.dflt) y3) then
 vK k j y0 (qa .i64 (y1 + 1)) y2 (y4.getD y1.toNat T21.dflt) y4
 else
 if (decide ((↑y2.length : Int) > (0 : Int)) = true → (0 : Int) ≤ qa .i64 ((↑y2.length : Int) - (1 : Int))) ∧ (decide ((↑y2.length : Int) > (0 : Int)) = true → qa .i64 ((↑y2.length : Int) - (1 : Int)) < (↑y2.length : Int)) then
 bif (decide ((↑y2.length : Int) > (0 : Int)) && decide ((y4.getD y1.toNat T21.dflt).1 ≤ (y2.getD (qa .i64 ((↑y2.length : Int) - (1 : Int))).toNat T21.dflt).2)) then
 if ((0 : Int) ≤ qa .i64 ((↑y2.length : Int) - (1 : Int))) ∧ (qa .i64 ((↑y2.length : Int) - (1 : Int)) < (↑y2.length : Int)) ∧ ((0 : Int) ≤ qa .i64 ((↑y2.length : Int) - (1 : Int))) ∧ (qa .i64 ((↑y2.length : Int) - (1 : Int)) < (↑y2.length : Int)) then
 vK k j y0 (qa .i64 (y1 + 1)) (y2.set (qa .i64 ((↑y2.length : Int) - 1)).toNat ((y2.getD (qa .i64 ((↑y2.length : Int) - 1)).toNat T21.dflt).1, if (y4.getD y1.toNat T21.dflt).2 > (y2.getD (qa .i64 ((↑y2.length : Int) - 1)).toNat T21.dflt).2 then (y4.getD y1.toNat T21.dflt).2 else (y2.getD (qa .i64 ((↑y2.length : Int) - 1)).toNat T21.dflt).2)) (y4.getD y1.toNat T21.dflt) y4
 else none
 else
 if ((y2.length + [y4.getD y1.toNat T21.dflt].length) * (16 : Nat) ≤ (140737488355328 : Nat)) then
 vK k j y0 (qa .i64 (y1 + 1)) (y2 ++ [y4.getD y1.toNat T21.dflt]) (y4.getD y1.toNat T21.dflt) y4
 else none
 else none
 else none
 else
 some y2
def XF (k : Nat) (a : List T21.T) : Option qmr :=
 if ((qca k a).isSome) then
 if ((qbO k (qam k a)).isSome) then
 vK k k (↑ (qe (qbL k (qam k a))) : Int) 0 ([]) (0, 0) (qbL k (qam k a))
 else none
 else none
def vQ := fun k a => (XF k a).getD []
def qoh (k : Nat) : Ke := (117, mo 1, fun
 | [.r (.ro d b)], [] => (qE d T21 b).bind fun a => some (.one (qlA (vQ k a), []))
 | _, _ => none)
def qEG (k : Nat) : Calld := qD [qJU k, qNd k, qKd k]
def qvk : List (Nat × List Cmd) := [(6, [.row 3 91 T21, .autoB [3, 4, 12, 13, 14] false []])]
abbrev qQv := EP Tryz.f117 0 qlA nb
theorem qvJ (k) : ∀ j, (∀ y0 y1 y2 y3 y4, qQv 6 (qBa y0 y1 y2 y3 y4) (vK k j y0 y1 y2 y3 y4))
 | 0 => by intros; exact e0
 | j + 1 => by
  have ih := @qvJ k j
  ·intro y0 y1 y2 y3 y4 r h
   rw [vK] at h
   exact go (qEG k) [] qvk [.frz 2 false (RTy.list T21), .autoB [2] true []] (gS h (fun h => qS h fun h => gS h (fun h => gC h 6 (ih _ _ _ _ _ _)) fun h => qS h fun h => gS h (fun h => gN h Xs fun h => gC h 6 (ih _ _ _ _ _ _)) fun h => qu h id fun h => gC h 6 (ih _ _ _ _ _ _)) fun h => gL h)
theorem qMk (k a r) (h : XF k a = some r): qB9 a r := qN Tryz.f117 (go (qEG k) [] qvk [.frz 2 false (RTy.list T21), .autoB [2] true []] (qu h qKZ fun h => qu h qKO fun h => gC h 6 ((qvJ k k) _ _ _ _ _ _)))
theorem qjT {k a} (h : (XF k a).isSome): qB9 a (vQ k a) := qJ h (qMk k a)
def qlk (r : Int × Int) : AV := .tup [ri r.1, ri r.2]
abbrev qzB (a : List T21.T) (r : Int × Int) : Prop := CC Tryz.prog 69 [ro T21 a] [] (qlk r) (nb r)
def qAw := fun y0 y1 y2 y3 => (⟨qI 29 [(5, ri y0), (14, ro T21 y1), (15, ri y2), (16, ri y3)], []⟩ : St)
def YJ (k : Nat) : Nat → Int → List T21.T → Int → Int → Option (Int × Int)
 | 0, _, _, _, _ => none
 | j + 1, y0, y1, y2, y3 =>
 bif y3 < y2 then
 if (0 ≤ y3) ∧ (y3 < y1.length) then
 YJ k j (qa .i64 (y0 + qa .i64 ((y1.getD y3.toNat T21.dflt).2 - (y1.getD y3.toNat T21.dflt).1))) y1 y2 (qa .i64 (y3 + 1))
 else none
 else
 some (y0, 0)
def qb5 (k : Nat) (a : List T21.T) : Option (Int × Int) :=
 if ((qay k a).isSome) then
 bif (VA k a != (0 : Int)) then
 some (0, VA k a)
 else
 if ((XF k a).isSome) then
 YJ k k 0 (vQ k a) (↑ (qe (vQ k a)) : Int) 0
 else none
 else none
def Yc := fun k a => (qb5 k a).getD (0, 0)
def qKD (k : Nat) : Ke := (69, mo 1, fun
 | [.r (.ro d b)], [] => (qE d T21 b).bind fun a => some (.one (qlk (Yc k a), []))
 | _, _ => none)
def qv1 : List (Nat × List Cmd) := [(6, [.autoB [5, 14, 15, 16] false []])]
abbrev qPf := EP Tryz.f69 0 qlk nb
theorem qvR (k) : ∀ j, (∀ y0 y1 y2 y3, qPf 6 (qAw y0 y1 y2 y3) (YJ k j y0 y1 y2 y3))
 | 0 => by intros; exact e0
 | j + 1 => by
  have ih := @qvR k j
  ·intro y0 y1 y2 y3 r h
   rw [YJ] at h
   exact go (qD [qo6 k, qoh k]) [] qv1 [.autoB [2, 3] true []] (gS h (fun h => qS h fun h => gC h 6 (ih _ _ _ _ _)) fun h => gL h)
theorem qJ6 (k a r) (h : qb5 k a = some r): qzB a r := qN Tryz.f69 (go (qD [qo6 k, qoh k]) [] qv1 [.autoB [2, 3] true []] (qu h qnZ fun h => qB h fun h => qu h qjT fun h => gC h 6 ((qvR k k) _ _ _ _ _)))
theorem qMJ {k a} (h : (qb5 k a).isSome): qzB a (Yc k a) := qJ h (qJ6 k a)
def qu9 (r : T21.T) : AV := .agg (qy (qr T21 r))
abbrev qHW (a : T3.T) (r : T21.T) : Prop := CC Tryz.prog 165 [.agg (qy (qr T3 a))] [] (qu9 r) (nb r)
def qge (k : Nat) (a : T3.T) : Option T21.T :=
 if ((Y8 k a (qa .i64 (a.2.1 - 1))).isSome) then
 some (if vk k a (qa .i64 (a.2.1 - 1)) < a.1 then vk k a (qa .i64 (a.2.1 - 1)) else a.1, qa .i64 ((if vk k a (qa .i64 (a.2.1 - 1)) > a.1 then vk k a (qa .i64 (a.2.1 - 1)) else a.1) + 1))
 else none
def wp := fun k a => (qge k a).getD (T21).dflt
def qnm (k : Nat) : Ke := (165, mo 1, fun
 | [.agg b], [] => (qW [] T3 b).bind fun a => some (.one (qu9 (wp k a), []))
 | _, _ => none)
theorem qOK (k a r) (h : qge k a = some r): qHW a r := qN Tryz.f165 (go (qD [qeb k]) [] [] [.autoB [2] true []] (qu h qiK fun h => gL h))
theorem qCl {k a} (h : (qge k a).isSome): qHW a (wp k a) := qJ h (qOK k a)
abbrev qER (a : Bool) (b : Bool) (r : Bool) : Prop := CC Tryz.prog 211 [rb a, rb b] [] (rb r) (nb r)
def qeQ (k : Nat) (a : Bool) (b : Bool) : Option Bool :=
 some a
def qhK := fun k a b => (qeQ k a b).getD false
def qxd (k : Nat) : Ke := (211, mo 2, fun
 | [.r (.v (.bool a)), .r (.v (.bool b))], [] => some (.one (rb (qhK k a b), []))
 | _, _ => none)
theorem qJC (k a b r) (h : qeQ k a b = some r): qER a b r := qN Tryz.f211 (go (qD []) [] [] [.autoB [4] true []] (gL h))
theorem qKz {k a b} (h : (qeQ k a b).isSome): qER a b (qhK k a b) := qJ h (qJC k a b)
def qls (r : List T21.T) : AV := .own 0 0
def qoW (a : Int) (r : List T21.T) : List (Nat × Blk) := [(0, .row 91 T21 r)]
abbrev qNw (a : Int) (r : List T21.T) : Prop := CC Tryz.prog 273 [.r (.v (Value.slice none 0 0)), ri a] [] (qls r) (qoW a r)
def qbF (k : Nat) (a : Int) : Option (List T21.T) := if 0 ≤ a ∧ a.toNat * 16 ≤ 140737488355328 then some [] else none
def qeY := fun k a => (qbF k a).getD []
def qxp (k : Nat) : Ke := (273, fun
 | [.r (.v (Value.slice none 0 0)), _] => some [true, false]
 | _ => none, fun
 | [.r (.v (Value.slice none 0 0)), .r (.v (.int .i64 a))], [] => some (.one (qls (qeY k a), qoW a (qeY k a)))
 | _, _ => none)
theorem qMZ (k a r) (h : qbF k a = some r): CC Tryz.prog 273 [.r (.v (Value.slice none 0 0)), .r (.v (.int .i64 a))] [] (qls r) (qoW a r) := by
 unfold qbF at h
 split at h
 ·rename_i q
  cases h
  exact qGn Tryz.grow_span ⟨Tryz.f273, _, Tryz.func273, rfl, by kernel_rfl⟩ T21 (by kernel_rfl) a q.1 q.2
 ·cases h
theorem qKi {k a} (h : (qbF k a).isSome): qNw a (qeY k a) := qJ h (qMZ k a)
def qkI (r : List T21.T) : AV := .own 0 0
def qo1 (a : List (RTy.list T21).T) (r : List T21.T) : List (Nat × Blk) := [(0, .row 91 T21 r)]
abbrev qA6 (a : List (RTy.list T21).T) (r : List T21.T) : Prop := CC Tryz.prog 245 [.r (.ro (RTy.list T21) a)] [] (qkI r) (qo1 a r)
def qA3 := fun y0 y1 y2 y3 y4 => (⟨qI 36 [(0, .r (.ro T21.list y0)), (3, ri y1), (9, .r (.ro T21.list y2)), (10, ri y3), (11, ri y4)], []⟩ : St)
def qyW := fun y0 y1 y2 y3 => (⟨qI 36 [(6, .own 1000000 0), (25, .r (.ro T21.list y0)), (26, ri y1), (27, ri y2)], [(1000000, 0, .row 91 T21 y3)]⟩ : St)
mutual
def WL (k : Nat) : Nat → List (T21.list).T → Int → List (T21.list).T → Int → Int → Option (List T21.T)
 | 0, _, _, _, _, _ => none
 | j + 1, y0, y1, y2, y3, y4 =>
 bif y4 < y3 then
 if (0 ≤ y4) ∧ (y4 < y2.length) then
 bif qa .i64 (y1 + (↑ (qe (y2.getD y4.toNat T21.list.dflt)) : Int)) < (0 : Int) then
 none
 else
 WL k j y0 (qa .i64 (y1 + (↑ (qe (y2.getD y4.toNat T21.list.dflt)) : Int))) y2 y3 (qa .i64 (y4 + 1))
 else none
 else
 if ((qbF k y1).isSome) then
 QB k j y0 (↑y0.length : Int) 0 (qeY k y1)
 else none
def QB (k : Nat) : Nat → List (T21.list).T → Int → Int → List T21.T → Option (List T21.T)
 | 0, _, _, _, _ => none
 | j + 1, y0, y1, y2, y3 =>
 bif y2 < y1 then
 if (0 ≤ y2) ∧ (y2 < y0.length) then
 if ((y3.length + qe (y0.getD y2.toNat T21.list.dflt)) * (16 : Nat) ≤ (140737488355328 : Nat)) then
 QB k j y0 y1 (qa .i64 (y2 + 1)) (y3 ++ y0.getD y2.toNat T21.list.dflt)
 else none
 else none
 else
 some y3
end
def qeL (k : Nat) (a : List (RTy.list T21).T) : Option (List T21.T) :=
 WL k k a 0 a (↑a.length : Int) 0
def qbD := fun k a => (qeL k a).getD []
def qLe (k : Nat) : Ke := (245, mo 1, fun
 | [.r (.ro d b)], [] => (qE d (RTy.list T21) b).bind fun a => some (.one (qkI (qbD k a), qo1 a (qbD k a)))
 | _, _ => none)
def qu5 : List (Nat × List Cmd) := [(3, [.autoB [0, 3, 9, 10, 11] false []]), (11, [.autoB [6, 25, 26, 27] false []])]
abbrev qzA := fun a => EP Tryz.f245 0 qkI (qo1 a)
theorem qwg (k a) : ∀ j, (∀ {y0 y1 y2 y3 y4}, qzA a 3 (qA3 y0 y1 y2 y3 y4) (WL k j y0 y1 y2 y3 y4)) ∧ (∀ {y0 y1 y2 y3}, qzA a 11 (qyW y0 y1 y2 y3) (QB k j y0 y1 y2 y3))
 | 0 => by and_intros <;> intros <;> exact e0
 | j + 1 => by
  have ih := @qwg k a j
  have g := @go (qD [qxp k]) [] qu5 [.autoB [2] true []]
  refine ⟨?_, ?_⟩
  ·intro y0 y1 y2 y3 y4 r h
   rw [WL] at h
   exact g (gS h (fun h => qS h fun h => gS h (fun h => gZ h (.stuck 5000)) fun h => gD h 3 ih.1) fun h => qu h qKi fun h => gD h 11 ih.2)
  ·intro y0 y1 y2 y3 r h
   rw [QB] at h
   exact g (gS h (fun h => qS h fun h => qu h id fun h => gD h 11 ih.2) fun h => gL h)
theorem qKT (k a r) (h : qeL k a = some r): qA6 a r := qN Tryz.f245 (go (qD [qxp k]) [] qu5 [.autoB [2] true []] (gD h 3 (qwg k a k).1))
theorem qLO {k a} (h : (qeL k a).isSome): qA6 a (qbD k a) := qJ h (qKT k a)
def qk1 (r : List Int) : AV := .tup []
def qod (a : List I.T) (r : List Int) : List (Nat × Blk) := [(0, .row 3 (RTy.int .i64) r)]
abbrev qOh (a : List I.T) (r : List Int) : Prop := CC Tryz.prog 246 [.own 0 0] [.row 3 I a] (qk1 r) (qod a r)
def qbN (k : Nat) (a : List Int) : Option (List Int) := if a.length < 4611686018427387904 then some (qF6 a) else none
def qbA := fun k a => (qbN k a).getD []
def qL9 (k : Nat) : Ke := (246, fun
 | [.own _ _] => some [true]
 | _ => none, fun
 | [.own 0 0], [.row 3 d b] => (qE d I b).bind fun a => some (.one (qk1 (qbA k a), qod a (qbA k a)))
 | _, _ => none)
theorem qJB (k a r) (h : qbN k a = some r): CC Tryz.prog 246 [.own 0 0] [.row 3 I a] (qk1 r) (qod a r) := by
 unfold qbN at h
 split at h
 ·rename_i q
  cases h
  rw [qu8 a]
  exact quT Tryz.sort_int ⟨Tryz.f246, _, Tryz.func246, rfl, by kernel_rfl⟩ 3 a q
 ·cases h
theorem qKx {k a} (h : (qbN k a).isSome): qOh a (qbA k a) := qJ h (qJB k a)
abbrev qah : Type := List T21.T × Int
def qlK (r : qah) : AV := .tup [ro T21 r.1, ri r.2]
abbrev qCu (a : List T21.T) (b : List T21.T) (r : qah) : Prop := CC Tryz.prog 210 [ro T21 a, ro T21 b, .r (.v (.func (.func 211) #[] #[]))] [] (qlK r) (nb r)
def qyl := fun y0 y1 y2 y3 y4 y5 => (⟨qI 147 [(0, ro T21 y0), (1, ro T21 y1), (2, .r (.v (Value.func (Fn.func 211) #[] #[]))), (10, .own 1000000 0), (35, .own 1000001 0), (36, ri y2), (37, ri y3)], [(1000000, 0, .row 3 I y4), (1000001, 0, .row 91 T21 y5)]⟩ : St)
def qy4 := fun y0 y1 y2 y3 y4 y5 y6 y7 => (⟨qI 147 [(0, ro T21 y0), (1, ro T21 y1), (2, .r (.v (Value.func (Fn.func 211) #[] #[]))), (10, .own 1000000 0), (13, .own 1000001 0), (14, ri y2), (15, ri y3), (51, .own 1000000 0), (52, ri y4), (53, ri y5)], [(1000000, 0, .row 3 (RTy.int IntKind.i64) y6), (1000001, 0, .row 91 T21 y7)]⟩ : St)
def qxA := fun y0 y1 y2 y3 y4 y5 y6 y7 y8 y9 => (⟨qI 147 [(0, ro T21 y0), (1, ro T21 y1), (2, .r (.v (Value.func (Fn.func 211) #[] #[]))), (10, .own 1000000 0), (13, .own 1000001 0), (14, ri y2), (15, ri y3), (16, ri y4), (17, ri y5), (51, .own 1000000 0), (52, ri y6), (53, ri y7)], [(1000000, 0, .row 3 (RTy.int IntKind.i64) y8), (1000001, 0, .row 91 T21 y9)]⟩ : St)
def qys := fun y0 y1 y2 y3 y4 y5 y6 y7 y8 y9 => (⟨qI 147 [(0, ro T21 y0), (1, ro T21 y1), (2, .r (.v (Value.func (Fn.func 211) #[] #[]))), (10, .own 1000000 0), (13, .own 1000001 0), (14, ri y2), (15, ri y3), (16, ri y4), (17, ri y5), (51, .own 1000000 0), (52, ri y6), (53, ri y7)], [(1000000, 0, .row 3 (RTy.int IntKind.i64) y8), (1000001, 0, .row 91 T21 y9)]⟩ : St)
def qzg := fun y0 => (⟨qI 147 [(13, ro T21 y0)], []⟩ : St)
mutual
def Xg (k : Nat) : Nat → List T21.T → List T21.T → Int → Int → List I.T → List T21.T → Option qah
 | 0, _, _, _, _, _, _ => none
 | j + 1, y0, y1, y2, y3, y4, y5 =>
 bif y3 < y2 then
 if (0 ≤ y3) ∧ (y3 < y5.length) then
 if ((y4.length + [(y5.getD y3.toNat T21.dflt).1, (y5.getD y3.toNat T21.dflt).2].length) * (8 : Nat) ≤ (140737488355328 : Nat)) then
 Xg k j y0 y1 y2 (qa .i64 (y3 + 1)) (y4 ++ [(y5.getD y3.toNat T21.dflt).1, (y5.getD y3.toNat T21.dflt).2]) y5
 else none
 else none
 else
 if ((qbN k y4).isSome) then
 zp k j y0 y1 0 0 (↑ (qe (qbA k y4)) : Int) 0 (qbA k y4) ([])
 else none
def zp (k : Nat) : Nat → List T21.T → List T21.T → Int → Int → Int → Int → List (RTy.int IntKind.i64).T → List T21.T → Option qah
 | 0, _, _, _, _, _, _, _, _ => none
 | j + 1, y0, y1, y2, y3, y4, y5, y6, y7 =>
 bif y5 < y4 then
 if (0 ≤ y5) ∧ (y5 < y6.length) then
 zo k j y0 y1 y2 y3 y5 (y6.getD y5.toNat (RTy.int IntKind.i64).dflt) y4 y5 y6 y7
 else none
 else
 qax k j y7
def zo (k : Nat) : Nat → List T21.T → List T21.T → Int → Int → Int → Int → Int → Int → List (RTy.int IntKind.i64).T → List T21.T → Option qah
 | 0, _, _, _, _, _, _, _, _, _, _ => none
 | j + 1, y0, y1, y2, y3, y4, y5, y6, y7, y8, y9 =>
 if (decide (y2 < y0.length) = true → 0 ≤ y2) ∧ (decide (y2 < y0.length) = true → y2 < y0.length) then
 bif (decide (y2 < y0.length) && decide ((y0.getD y2.toNat T21.dflt).2 ≤ y5)) then
 zo k j y0 y1 (qa .i64 (y2 + 1)) y3 y4 y5 y6 y7 y8 y9
 else
 zJ k j y0 y1 y2 y3 y4 y5 y6 y7 y8 y9
 else none
def zJ (k : Nat) : Nat → List T21.T → List T21.T → Int → Int → Int → Int → Int → Int → List (RTy.int IntKind.i64).T → List T21.T → Option qah
 | 0, _, _, _, _, _, _, _, _, _, _ => none
 | j + 1, y0, y1, y2, y3, y4, y5, y6, y7, y8, y9 =>
 if (decide (y3 < y1.length) = true → 0 ≤ y3) ∧ (decide (y3 < y1.length) = true → y3 < y1.length) then
 bif (decide (y3 < y1.length) && decide ((y1.getD y3.toNat T21.dflt).2 ≤ y5)) then
 zJ k j y0 y1 y2 (qa .i64 (y3 + 1)) y4 y5 y6 y7 y8 y9
 else
 if ((qa .i64 (y4 + 1) == (↑y8.length : Int)) = false → (0 : Int) ≤ qa .i64 (y4 + 1)) ∧ ((qa .i64 (y4 + 1) == (↑y8.length : Int)) = false → qa .i64 (y4 + 1) < (↑y8.length : Int)) then
 bif (qa .i64 (y4 + 1) == (↑y8.length : Int) || y8.getD (qa .i64 (y4 + 1)).toNat (RTy.int IntKind.i64).dflt == y5) then
 zp k j y0 y1 y2 y3 y6 (qa .i64 (y7 + 1)) y8 y9
 else
 if (decide (y2 < y0.length) = true → 0 ≤ y2) ∧ (decide (y2 < y0.length) = true → y2 < y0.length) ∧ (decide (y3 < y1.length) = true → 0 ≤ y3) ∧ (decide (y3 < y1.length) = true → y3 < y1.length) ∧ ((qeQ k (decide (y2 < y0.length) && decide ((y0.getD y2.toNat T21.dflt).1 ≤ y5)) (decide (y3 < y1.length) && decide ((y1.getD y3.toNat T21.dflt).1 ≤ y5))).isSome) then
 bif (qhK k (decide (y2 < y0.length) && decide ((y0.getD y2.toNat T21.dflt).1 ≤ y5)) (decide (y3 < y1.length) && decide ((y1.getD y3.toNat T21.dflt).1 ≤ y5))) then
 if ((0 : Int) ≤ qa .i64 (y4 + 1)) ∧ (qa .i64 (y4 + 1) < (↑y8.length : Int)) ∧ ((y9.length + [(y5, y8.getD (qa .i64 (y4 + 1)).toNat (RTy.int IntKind.i64).dflt)].length) * (16 : Nat) ≤ (140737488355328 : Nat)) then
 zp k j y0 y1 y2 y3 y6 (qa .i64 (y7 + 1)) y8 (y9 ++ [(y5, y8.getD (qa .i64 (y4 + 1)).toNat (RTy.int IntKind.i64).dflt)])
 else none
 else
 zp k j y0 y1 y2 y3 y6 (qa .i64 (y7 + 1)) y8 y9
 else none
 else none
 else none
def qax (k : Nat) : Nat → List T21.T → Option qah
 | 0, _ => none
 | j + 1, y0 =>
 if ((XF k y0).isSome) then
 bif (↑ (qe (vQ k y0)) : Int) > (256 : Int) then
 some ([], 8)
 else
 some (vQ k y0, 0)
 else none
end
def qfb (k : Nat) (a : List T21.T) (b : List T21.T) : Option qah :=
 if ((qay k a).isSome) then
 bif (VA k a != (0 : Int)) then
 some ([], VA k a)
 else
 if ((qay k b).isSome) then
 bif (VA k b != (0 : Int)) then
 some ([], VA k b)
 else
 if ((XF k a).isSome) ∧ ((XF k b).isSome) then
 if ((qeL k [vQ k a, vQ k b]).isSome) then
 Xg k k (vQ k a) (vQ k b) (↑ (qe (qbD k [vQ k a, vQ k b])) : Int) 0 ([]) (qbD k [vQ k a, vQ k b])
 else none
 else none
 else none
 else none
def qeq := fun k a b => (qfb k a b).getD ([], 0)
def qM3 (k : Nat) : Ke := (210, fun
 | [_, _, .r (.v (.func (.func 211) _ _))] => some [false, false, false]
 | _ => none, fun
 | [.r (.ro i e), .r (.ro f d), .r (.v (.func (.func 211) _ _))], [] => (qE i T21 e).bind fun a => (qE f T21 d).bind fun b => some (.one (qlK (qeq k a b), []))
 | _, _ => none)
def qCV (k : Nat) : Calld := qD [qo6 k, qoh k, qLe k, qL9 k, qxd k]
def qxf : List (Nat × List Cmd) := [(10, [.row 10 3 I, .autoB [0, 1, 2, 10, 35, 36, 37] false []]), (18, [.row 13 91 T21, .autoB [0, 1, 2, 10, 13, 14, 15, 51, 52, 53] false []]), (20, [.autoB [0, 1, 2, 10, 13, 14, 15, 16, 17, 51, 52, 53] false []]), (22, [.autoB [0, 1, 2, 10, 13, 14, 15, 16, 17, 51, 52, 53] false []]), (28, [.frz 13 false (RTy.list T21), .autoB [13] false []])]
abbrev qhd := EP Tryz.f210 0 qlK nb
theorem qw1 (k) : ∀ j, (∀ {y0 y1 y2 y3 y4 y5}, qhd 10 (qyl y0 y1 y2 y3 y4 y5) (Xg k j y0 y1 y2 y3 y4 y5)) ∧ (∀ {y0 y1 y2 y3 y4 y5 y6 y7}, qhd 18 (qy4 y0 y1 y2 y3 y4 y5 y6 y7) (zp k j y0 y1 y2 y3 y4 y5 y6 y7)) ∧ (∀ {y0 y1 y2 y3 y4 y5 y6 y7 y8 y9}, qhd 20 (qxA y0 y1 y2 y3 y4 y5 y6 y7 y8 y9) (zo k j y0 y1 y2 y3 y4 y5 y6 y7 y8 y9)) ∧ (∀ {y0 y1 y2 y3 y4 y5 y6 y7 y8 y9}, qhd 22 (qys y0 y1 y2 y3 y4 y5 y6 y7 y8 y9) (zJ k j y0 y1 y2 y3 y4 y5 y6 y7 y8 y9)) ∧ (∀ {y0}, qhd 28 (qzg y0) (qax k j y0))
 | 0 => by and_intros <;> intros <;> exact e0
 | j + 1 => by
  have ih := @qw1 k j
  have g := @go (qCV k) [28] qxf [.frz 6 false (RTy.list T21), .autoB [6, 7] true []]
  refine ⟨?_, ?_, ?_, ?_, ?_⟩
  ·intro y0 y1 y2 y3 y4 y5 r h
   rw [Xg] at h
   exact g (gS h (fun h => qS h fun h => qu h id fun h => gD h 10 ih.1) fun h => qu h qKx fun h => gD h 18 ih.2.1)
  ·intro y0 y1 y2 y3 y4 y5 y6 y7 r h
   rw [zp] at h
   exact g (gS h (fun h => qS h fun h => gD h 20 ih.2.2.1) fun h => gD h 28 ih.2.2.2.2)
  ·intro y0 y1 y2 y3 y4 y5 y6 y7 y8 y9 r h
   rw [zo] at h
   exact g (qS h fun h => gS h (fun h => gD h 20 ih.2.2.1) fun h => gD h 22 ih.2.2.2.1)
  ·intro y0 y1 y2 y3 y4 y5 y6 y7 y8 y9 r h
   rw [zJ] at h
   exact g (qS h fun h => gS h (fun h => gD h 22 ih.2.2.2.1) fun h => qS h fun h => gS h (fun h => gD h 18 ih.2.1) fun h => gN h (fun q => qf q.1 (qf q.2.1 (qf q.2.2.1 (qf q.2.2.2.1 (qf (qKz q.2.2.2.2) qR))))) fun h => gS h (fun h => gN h Xn fun h => gD h 18 ih.2.1) fun h => gD h 18 ih.2.1)
  ·intro y0 r h
   rw [qax] at h
   exact g (qu h qjT fun h => qB h fun h => gL h)
theorem qJ5 (k a b r) (h : qfb k a b = some r): qCu a b r := qN Tryz.f210 (go (qCV k) [28] qxf [.frz 6 false (RTy.list T21), .autoB [6, 7] true []] (qu h qnZ fun h => qB h fun h => qu h qnZ fun h => qB h fun h => gN h (fun q => qf (qjT q.1) (qf (qjT q.2) qR)) fun h => qu h qLO fun h => gD h 10 (qw1 k k).1))
theorem qJT {k a b} (h : (qfb k a b).isSome): qCu a b (qeq k a b) := qJ h (qJ5 k a b)
abbrev qtu : Type := List T21.T × Int
def qsR (r : qtu) : AV := .tup [ro T21 r.1, ri r.2]
abbrev qEI (a : List T21.T) (r : qtu) : Prop := CC Tryz.prog 166 [ro T21 a] [] (qsR r) (nb r)
def qch (k : Nat) (a : List T21.T) : Option qtu :=
 if ((qfb k a []).isSome) then
 some ((qeq k a []).1, (qeq k a []).2)
 else none
def qaH := fun k a => (qch k a).getD ([], 0)
def qjE (k : Nat) : Ke := (166, mo 1, fun
 | [.r (.ro d b)], [] => (qE d T21 b).bind fun a => some (.one (qsR (qaH k a), []))
 | _, _ => none)
theorem qKM (k a r) (h : qch k a = some r): qEI a r := qN Tryz.f166 (go (qD [qxd k, qM3 k]) [] [] [.frz 2 false (RTy.list T21), .autoB [2, 3] true []] (qu h qJT fun h => gL h))
theorem qwC {k a} (h : (qch k a).isSome): qEI a (qaH k a) := qJ h (qKM k a)
abbrev qmy : Type := List T21.T × Int
def qph (r : qmy) : AV := .tup [ro T21 r.1, ri r.2]
abbrev qI3 (a : List T3.T) (r : qmy) : Prop := CC Tryz.prog 170 [ro T3 a] [] (qph r) (nb r)
def qGz := fun y0 y1 y2 y3 => (⟨qI 29 [(5, .own 1000000 0), (13, ro T3 y0), (14, ri y1), (15, ri y2)], [(1000000, 0, .row 91 T21 y3)]⟩ : St)
def qEK := fun y0 => (⟨qI 29 [(5, ro T21 y0)], []⟩ : St)
mutual
def qbo (k : Nat) : Nat → List T3.T → Int → Int → List T21.T → Option qmy
 | 0, _, _, _, _ => none
 | j + 1, y0, y1, y2, y3 =>
 bif y2 < y1 then
 if (0 ≤ y2) ∧ (y2 < y0.length) then
 if ((qge k (y0.getD y2.toNat T3.dflt)).isSome) ∧ ((y3.length + [wp k (y0.getD y2.toNat T3.dflt)].length) * (16 : Nat) ≤ (140737488355328 : Nat)) then
 qbo k j y0 y1 (qa .i64 (y2 + 1)) (y3 ++ [wp k (y0.getD y2.toNat T3.dflt)])
 else none
 else none
 else
 qfn k j y3
def qfn (k : Nat) : Nat → List T21.T → Option qmy
 | 0, _ => none
 | j + 1, y0 =>
 if ((qch k y0).isSome) then
 some ((qaH k y0).1, (qaH k y0).2)
 else none
end
def qfx (k : Nat) (a : List T3.T) : Option qmy :=
 if ((ZY k a).isSome) then
 bif (vD k a != (0 : Int)) then
 some ([], vD k a)
 else
 qbo k k a (↑a.length : Int) 0 ([])
 else none
def zV := fun k a => (qfx k a).getD ([], 0)
def qC7 (k : Nat) : Ke := (170, mo 1, fun
 | [.r (.ro d b)], [] => (qE d T3 b).bind fun a => some (.one (qph (zV k a), []))
 | _, _ => none)
def qBk : List (Nat × List Cmd) := [(6, [.row 5 91 T21, .autoB [5, 13, 14, 15] false []]), (10, [.frz 5 false (RTy.list T21), .autoB [5] false []])]
abbrev qHs := EP Tryz.f170 0 qph nb
theorem qEk (k) : ∀ j, (∀ {y0 y1 y2 y3}, qHs 6 (qGz y0 y1 y2 y3) (qbo k j y0 y1 y2 y3)) ∧ (∀ {y0}, qHs 10 (qEK y0) (qfn k j y0))
 | 0 => by and_intros <;> intros <;> exact e0
 | j + 1 => by
  have ih := @qEk k j
  have g := @go (qD [qbE k, qnm k, qjE k]) [10] qBk [.frz 2 false (RTy.list T21), .autoB [2, 3] true []]
  refine ⟨?_, ?_⟩
  ·intro y0 y1 y2 y3 r h
   rw [qbo] at h
   exact g (gS h (fun h => qS h fun h => gN h (fun q => qf (qCl q.1) (qf q.2 qR)) fun h => gD h 6 ih.1) fun h => gD h 10 ih.2)
  ·intro y0 r h
   rw [qfn] at h
   exact g (qu h qwC fun h => gL h)
theorem qOS (k a r) (h : qfx k a = some r): qI3 a r := qN Tryz.f170 (go (qD [qbE k, qnm k, qjE k]) [10] qBk [.frz 2 false (RTy.list T21), .autoB [2, 3] true []] (qu h qcq fun h => qB h fun h => gD h 6 (qEk k k).1))
theorem qDP {k a} (h : (qfx k a).isSome): qI3 a (zV k a) := qJ h (qOS k a)
abbrev qHC (a : List T3.T) (r : Bool) : Prop := CC Tryz.prog 120 [ro T3 a] [] (rb r) (nb r)
def qcD (k : Nat) (a : List T3.T) : Option Bool :=
 if ((qfx k a).isSome) then
 bif ((zV k a).2 != (0 : Int)) then
 some false
 else
 if ((qb5 k (zV k a).1).isSome) then
 bif ((Yc k (zV k a).1).2 == (0 : Int)) then
 if (((Yc k (zV k a).1).2 == (0 : Int)) = true) ∧ ((qdl k a).isSome) then
 some (true && (Yc k (zV k a).1).1 == qfN k a)
 else none
 else
 if (((Yc k (zV k a).1).2 == (0 : Int)) = false) then
 some false
 else none
 else none
 else none
def qgl := fun k a => (qcD k a).getD false
def qQ0 (k : Nat) : Ke := (120, mo 1, fun
 | [.r (.ro d b)], [] => (qE d T3 b).bind fun a => some (.one (rb (qgl k a), []))
 | _, _ => none)
theorem qRb (k a r) (h : qcD k a = some r): qHC a r := qN Tryz.f120 (go (qD [qtk k, qKD k, qC7 k]) [] [] [.autoB [2] true []] (qu h qDP fun h => qB h fun h => qu h qMJ fun h => gS h (fun h => gN h (fun q => qf q.1 (qf (qrX q.2) qR)) fun h => gL h) fun h => qu h id fun h => gL h))
theorem qED {k a} (h : (qcD k a).isSome): qHC a (qgl k a) := qJ h (qRb k a)
abbrev qIV (a : T3.T) (r : Bool) : Prop := CC Tryz.prog 173 [.agg (qy (qr T3 a))] [] (rb r) (nb r)
def qjY (k : Nat) (a : T3.T) : Option Bool :=
 bif (decide (a.2.1 < (1 : Int)) || decide (a.2.1 > (17179869184 : Int)) || decide (a.1 < (0 : Int)) || decide (a.1 ≥ (17179869184 : Int))) then
 some false
 else
 bif a.2.2 then
 some (decide (qa .i64 (qa .i64 (a.1 - a.2.1) + 1) ≥ 0))
 else
 some (decide (qa .i64 (a.1 + a.2.1) ≤ 17179869184))
def qmW := fun k a => (qjY k a).getD false
def qE0 (k : Nat) : Ke := (173, mo 1, fun
 | [.agg b], [] => (qW [] T3 b).bind fun a => some (.one (rb (qmW k a), []))
 | _, _ => none)
theorem qRm (k a r) (h : qjY k a = some r): qIV a r := qN Tryz.f173 (go (qD []) [] [] [.autoB [2] true []] (qB h fun h => qB h fun h => gL h))
theorem qPJ {k a} (h : (qjY k a).isSome): qIV a (qmW k a) := qJ h (qRm k a)
abbrev qHS (a : List T3.T) (r : Int) : Prop := CC Tryz.prog 174 [ro T3 a] [] (ri r) (nb r)
def qGm := fun y0 y1 y2 => (⟨qI 19 [(0, ro T3 y0), (3, ri y1), (4, ri y2)], []⟩ : St)
def qbj (k : Nat) : Nat → List T3.T → Int → Int → Option Int
 | 0, _, _, _ => none
 | j + 1, y0, y1, y2 =>
 bif y2 < y0.length then
 if (0 ≤ y2) ∧ (y2 < y0.length) then
 qbj k j y0 (qa .i64 (y1 + (y0.getD y2.toNat T3.dflt).2.1)) (qa .i64 (y2 + 1))
 else none
 else
 some y1
def qfm (k : Nat) (a : List T3.T) : Option Int :=
 qbj k k a 0 0
def qjp := fun k a => (qfm k a).getD 0
def qrW (k : Nat) : Ke := (174, mo 1, fun
 | [.r (.ro d b)], [] => (qE d T3 b).bind fun a => some (.one (ri (qjp k a), []))
 | _, _ => none)
def qDF : List (Nat × List Cmd) := [(3, [.autoB [0, 3, 4] false []])]
abbrev qRW := EP Tryz.f174 0 ri nb
theorem qDw (k) : ∀ j, (∀ y0 y1 y2, qRW 3 (qGm y0 y1 y2) (qbj k j y0 y1 y2))
 | 0 => by intros; exact e0
 | j + 1 => by
  have ih := @qDw k j
  ·intro y0 y1 y2 r h
   rw [qbj] at h
   exact go (qD []) [] qDF [.autoB [2] true []] (gS h (fun h => qS h fun h => gC h 3 (ih _ _ _ _)) fun h => gL h)
theorem qP1 (k a r) (h : qfm k a = some r): qHS a r := qN Tryz.f174 (go (qD []) [] qDF [.autoB [2] true []] (gC h 3 ((qDw k k) _ _ _ _)))
theorem qEg {k a} (h : (qfm k a).isSome): qHS a (qjp k a) := qJ h (qP1 k a)
abbrev qJh (a : List T3.T) (r : Int) : Prop := CC Tryz.prog 127 [ro T3 a] [] (ri r) (nb r)
def qFi := fun y0 y1 => (⟨qI 22 [(0, ro T3 y0), (3, ri y1)], []⟩ : St)
def qbt (k : Nat) : Nat → List T3.T → Int → Option Int
 | 0, _, _ => none
 | j + 1, y0, y1 =>
 bif y1 < y0.length then
 if (0 ≤ y1) ∧ (y1 < y0.length) ∧ ((qjY k (y0.getD y1.toNat T3.dflt)).isSome) then
 bif (!qmW k (y0.getD y1.toNat T3.dflt)) then
 some 1
 else
 qbt k j y0 (qa .i64 (y1 + 1))
 else none
 else
 if ((qfm k y0).isSome) then
 bif qjp k y0 > (17179869184 : Int) then
 some 21
 else
 some 0
 else none
def Vc (k : Nat) (a : List T3.T) : Option Int :=
 bif (↑a.length : Int) > (256 : Int) then
 some 8
 else
 qbt k k a 0
def vR := fun k a => (Vc k a).getD 0
def qd5 (k : Nat) : Ke := (127, mo 1, fun
 | [.r (.ro d b)], [] => (qE d T3 b).bind fun a => some (.one (ri (vR k a), []))
 | _, _ => none)
def qAH : List (Nat × List Cmd) := [(4, [.autoB [0, 3] false []])]
abbrev qSd := EP Tryz.f127 0 ri nb
theorem qCk (k) : ∀ j, (∀ y0 y1, qSd 4 (qFi y0 y1) (qbt k j y0 y1))
 | 0 => by intros; exact e0
 | j + 1 => by
  have ih := @qCk k j
  ·intro y0 y1 r h
   rw [qbt] at h
   exact go (qD [qE0 k, qrW k]) [] qAH [.autoB [2] true []] (gS h (fun h => gN h (fun q => qf q.1 (qf q.2.1 (qf (qPJ q.2.2) qR))) fun h => qB h fun h => gC h 4 (ih _ _ _)) fun h => qu h qEg fun h => qB h fun h => gL h)
theorem qRt (k a r) (h : Vc k a = some r): qJh a r := qN Tryz.f127 (go (qD [qE0 k, qrW k]) [] qAH [.autoB [2] true []] (qB h fun h => gC h 4 ((qCk k k) _ _ _)))
theorem qb2 {k a} (h : (Vc k a).isSome): qJh a (vR k a) := qJ h (qRt k a)
abbrev qIY (a : T3.T) (b : Int) (r : Int) : Prop := CC Tryz.prog 136 [.agg (qy (qr T3 a)), ri b] [] (ri r) (nb r)
def VE (k : Nat) (a : T3.T) (b : Int) : Option Int :=
 bif a.2.2 then
 some (qa .i64 (a.1 - b))
 else
 some (qa .i64 (a.1 + b))
def zi := fun k a b => (VE k a b).getD 0
def qiz (k : Nat) : Ke := (136, mo 2, fun
 | [.agg d, .r (.v (.int .i64 b))], [] => (qW [] T3 d).bind fun a => some (.one (ri (zi k a b), []))
 | _, _ => none)
theorem qQB (k a b r) (h : VE k a b = some r): qIY a b r := qN Tryz.f136 (go (qD []) [] [] [.autoB [4] true []] (qB h fun h => gL h))
theorem qcj {k a b} (h : (VE k a b).isSome): qIY a b (zi k a b) := qJ h (qQB k a b)
def qn6 (r : Int × Int) : AV := .tup [ri r.1, ri r.2]
abbrev qIp (a : List T3.T) (b : Int) (r : Int × Int) : Prop := CC Tryz.prog 182 [ro T3 a, ri b] [] (qn6 r) (nb r)
def qGf := fun y0 y1 y2 => (⟨qI 33 [(0, ro T3 y0), (1, ri y1), (6, ri y2)], []⟩ : St)
def Yz (k : Nat) : Nat → List T3.T → Int → Int → Option (Int × Int)
 | 0, _, _, _ => none
 | j + 1, y0, y1, y2 =>
 bif (decide (y2 < y0.length) && decide (y1 ≥ 0)) then
 if (0 ≤ y2) ∧ (y2 < y0.length) then
 bif y1 < (y0.getD y2.toNat T3.dflt).2.1 then
 some (y2, y1)
 else
 if (0 ≤ y2) ∧ (y2 < y0.length) then
 Yz k j y0 (qa .i64 (y1 - (y0.getD y2.toNat T3.dflt).2.1)) (qa .i64 (y2 + 1))
 else none
 else none
 else
 some (-1, 0)
def VH (k : Nat) (a : List T3.T) (b : Int) : Option (Int × Int) :=
 Yz k k a b 0
def qO := fun k a b => (VH k a b).getD (0, 0)
def qP0 (k : Nat) : Ke := (182, mo 2, fun
 | [.r (.ro e d), .r (.v (.int .i64 b))], [] => (qE e T3 d).bind fun a => some (.one (qn6 (qO k a b), []))
 | _, _ => none)
def qAG : List (Nat × List Cmd) := [(2, [.autoB [0, 1, 6] false []])]
abbrev qSh := EP Tryz.f182 0 qn6 nb
theorem qAr (k) : ∀ j, (∀ y0 y1 y2, qSh 2 (qGf y0 y1 y2) (Yz k j y0 y1 y2))
 | 0 => by intros; exact e0
 | j + 1 => by
  have ih := @qAr k j
  ·intro y0 y1 y2 r h
   rw [Yz] at h
   exact go (qD []) [] qAG [.autoB [4, 5] true []] (gS h (fun h => qS h fun h => qB h fun h => qS h fun h => gC h 2 (ih _ _ _ _)) fun h => gL h)
theorem qNC (k a b r) (h : VH k a b = some r): qIp a b r := qN Tryz.f182 (go (qD []) [] qAG [.autoB [4, 5] true []] (gC h 2 ((qAr k k) _ _ _ _)))
theorem qP5 {k a b} (h : (VH k a b).isSome): qIp a b (qO k a b) := qJ h (qNC k a b)
def qwJ (r : T3.T) : AV := .agg (qy (qr T3 r))
abbrev qHi (a : T3.T) (b : Int) (d : Int) (r : T3.T) : Prop := CC Tryz.prog 221 [.agg (qy (qr T3 a)), ri b, ri d] [] (qwJ r) (nb r)
def qaT (k : Nat) (a : T3.T) (b : Int) (d : Int) : Option T3.T :=
 if ((VE k a b).isSome) then
 some (zi k a b, (d, a.2.2 && decide (d > 1)))
 else none
def Y6 := fun k a b d => (qaT k a b d).getD (T3).dflt
def qET (k : Nat) : Ke := (221, mo 3, fun
 | [.agg e, .r (.v (.int .i64 b)), .r (.v (.int .i64 d))], [] => (qW [] T3 e).bind fun a => some (.one (qwJ (Y6 k a b d), []))
 | _, _ => none)
theorem qPc (k a b d r) (h : qaT k a b d = some r): qHi a b d r := qN Tryz.f221 (go (qD [qiz k]) [] [] [.autoB [6] true []] (qu h qcj fun h => gL h))
theorem qmj {k a b d} (h : (qaT k a b d).isSome): qHi a b d (Y6 k a b d) := qJ h (qPc k a b d)
def qoY (r : List T3.T) : AV := ro T3 r
abbrev qIm (a : List T3.T) (b : T3.T) (r : List T3.T) : Prop := CC Tryz.prog 183 [ro T3 a, .agg (qy (qr T3 b))] [] (qoY r) (nb r)
def qFH := fun y0 y1 => (⟨qI 101 [(3, .ptr 1000000 0 0), (5, .own 1000001 0)], [(1000000, 0, .var 49 (qy (qr T3 y0))), (1000001, 0, .row 49 T3 y1)]⟩ : St)
def Q5 (k : Nat) : Nat → T3.T → List T3.T → Option (List T3.T)
 | 0, _, _ => none
 | j + 1, y0, y1 =>
 bif y0.2.1 > (0 : Int) then
 bif qa .i64 ((↑y1.length : Int) - (1 : Int)) < (0 : Int) then
 if ((qaT k y0 0 y0.2.1).isSome) ∧ ((y1.length + [Y6 k y0 (0 : Int) y0.2.1].length) * (24 : Nat) ≤ (140737488355328 : Nat)) then
 some (y1 ++ [Y6 k y0 0 y0.2.1])
 else none
 else
 if ((0 : Int) ≤ qa .i64 ((↑y1.length : Int) - (1 : Int))) ∧ (qa .i64 ((↑y1.length : Int) - (1 : Int)) < (↑y1.length : Int)) then
 if ((VE k (y1.getD (qa .i64 ((↑y1.length : Int) - 1)).toNat T3.dflt) (qa .i64 ((y1.getD (qa .i64 ((↑y1.length : Int) - 1)).toNat T3.dflt).2.1 - 1))).isSome) then
 bif (qa .i64 (y0.1 - zi k (y1.getD (qa .i64 ((↑y1.length : Int) - (1 : Int))).toNat T3.dflt) (qa .i64 ((y1.getD (qa .i64 ((↑y1.length : Int) - (1 : Int))).toNat T3.dflt).2.1 - (1 : Int)))) != (1 : Int) && qa .i64 (y0.1 - zi k (y1.getD (qa .i64 ((↑y1.length : Int) - (1 : Int))).toNat T3.dflt) (qa .i64 ((y1.getD (qa .i64 ((↑y1.length : Int) - (1 : Int))).toNat T3.dflt).2.1 - (1 : Int)))) != (-1 : Int) || decide ((y1.getD (qa .i64 ((↑y1.length : Int) - (1 : Int))).toNat T3.dflt).2.1 > (1 : Int)) && (! (y1.getD (qa .i64 ((↑y1.length : Int) - (1 : Int))).toNat T3.dflt).2.2 == (qa .i64 (y0.1 - zi k (y1.getD (qa .i64 ((↑y1.length : Int) - (1 : Int))).toNat T3.dflt) (qa .i64 ((y1.getD (qa .i64 ((↑y1.length : Int) - (1 : Int))).toNat T3.dflt).2.1 - (1 : Int)))) == (-1 : Int)))) then
 if ((qaT k y0 0 y0.2.1).isSome) ∧ ((y1.length + [Y6 k y0 (0 : Int) y0.2.1].length) * (24 : Nat) ≤ (140737488355328 : Nat)) then
 some (y1 ++ [Y6 k y0 0 y0.2.1])
 else none
 else
 bif (decide (y0.2.1 > (1 : Int)) && (!y0.2.2 == (qa .i64 (y0.1 - zi k (y1.getD (qa .i64 ((↑y1.length : Int) - (1 : Int))).toNat T3.dflt) (qa .i64 ((y1.getD (qa .i64 ((↑y1.length : Int) - (1 : Int))).toNat T3.dflt).2.1 - (1 : Int)))) == (-1 : Int)))) then
 if ((0 : Int) ≤ qa .i64 ((↑y1.length : Int) - (1 : Int))) ∧ (qa .i64 ((↑y1.length : Int) - (1 : Int)) < (↑y1.length : Int)) then
 bif ((1 : Int) == y0.2.1) then
 some (y1.set (qa .i64 ((↑y1.length : Int) - 1)).toNat ((y1.getD (qa .i64 ((↑y1.length : Int) - 1)).toNat T3.dflt).1, qa .i64 ((y1.getD (qa .i64 ((↑y1.length : Int) - 1)).toNat T3.dflt).2.1 + 1), qa .i64 (y0.1 - zi k (y1.getD (qa .i64 ((↑y1.length : Int) - 1)).toNat T3.dflt) (qa .i64 ((y1.getD (qa .i64 ((↑y1.length : Int) - 1)).toNat T3.dflt).2.1 - 1))) == (-1)))
 else
 if ((qaT k y0 1 (qa .i64 (y0.2.1 - 1))).isSome) then
 Q5 k j (Y6 k y0 1 (qa .i64 (y0.2.1 - 1))) (y1.set (qa .i64 ((↑y1.length : Int) - 1)).toNat ((y1.getD (qa .i64 ((↑y1.length : Int) - 1)).toNat T3.dflt).1, qa .i64 ((y1.getD (qa .i64 ((↑y1.length : Int) - 1)).toNat T3.dflt).2.1 + 1), qa .i64 (y0.1 - zi k (y1.getD (qa .i64 ((↑y1.length : Int) - 1)).toNat T3.dflt) (qa .i64 ((y1.getD (qa .i64 ((↑y1.length : Int) - 1)).toNat T3.dflt).2.1 - 1))) == (-1)))
 else none
 else none
 else
 if ((0 : Int) ≤ qa .i64 ((↑y1.length : Int) - (1 : Int))) ∧ (qa .i64 ((↑y1.length : Int) - (1 : Int)) < (↑y1.length : Int)) then
 bif (y0.2.1 == y0.2.1) then
 some (y1.set (qa .i64 ((↑y1.length : Int) - 1)).toNat ((y1.getD (qa .i64 ((↑y1.length : Int) - 1)).toNat T3.dflt).1, qa .i64 ((y1.getD (qa .i64 ((↑y1.length : Int) - 1)).toNat T3.dflt).2.1 + y0.2.1), qa .i64 (y0.1 - zi k (y1.getD (qa .i64 ((↑y1.length : Int) - 1)).toNat T3.dflt) (qa .i64 ((y1.getD (qa .i64 ((↑y1.length : Int) - 1)).toNat T3.dflt).2.1 - 1))) == (-1)))
 else
 if ((qaT k y0 y0.2.1 (qa .i64 (y0.2.1 - y0.2.1))).isSome) then
 Q5 k j (Y6 k y0 y0.2.1 (qa .i64 (y0.2.1 - y0.2.1))) (y1.set (qa .i64 ((↑y1.length : Int) - 1)).toNat ((y1.getD (qa .i64 ((↑y1.length : Int) - 1)).toNat T3.dflt).1, qa .i64 ((y1.getD (qa .i64 ((↑y1.length : Int) - 1)).toNat T3.dflt).2.1 + y0.2.1), qa .i64 (y0.1 - zi k (y1.getD (qa .i64 ((↑y1.length : Int) - 1)).toNat T3.dflt) (qa .i64 ((y1.getD (qa .i64 ((↑y1.length : Int) - 1)).toNat T3.dflt).2.1 - 1))) == (-1)))
 else none
 else none
 else none
 else none
 else
 some y1
def qgi (k : Nat) (a : List T3.T) (b : T3.T) : Option (List T3.T) :=
 if (((0 : Nat) + a.length) * (24 : Nat) ≤ (140737488355328 : Nat)) then
 Q5 k k b ([] ++ a)
 else none
def qcJ := fun k a b => (qgi k a b).getD []
def qPP (k : Nat) : Ke := (183, mo 2, fun
 | [.r (.ro f d), .agg e], [] => (qE f T3 d).bind fun a => (qW [] T3 e).bind fun b => some (.one (qoY (qcJ k a b), []))
 | _, _ => none)
def qAt : List (Nat × List Cmd) := [(2, [.autoB [3, 5] false []])]
abbrev qRO := EP Tryz.f183 0 qoY nb
theorem qzR (k) : ∀ j, (∀ y0 y1, qRO 2 (qFH y0 y1) (Q5 k j y0 y1))
 | 0 => by intros; exact e0
 | j + 1 => by
  have ih := @qzR k j
  ·intro y0 y1 r h
   rw [Q5] at h
   exact go (qD [qiz k, qET k]) [] qAt [.frz 4 false (RTy.list T3), .autoB [4] true []] (gS h (fun h => gS h (fun h => gN h (fun q => qf (qmj q.1) (qf q.2 qR)) fun h => gL h) fun h => qS h fun h => qu h qcj fun h => gS h (fun h => gN h (fun q => qf (qmj q.1) (qf q.2 qR)) fun h => gL h) fun h => gS h (fun h => qS h fun h => qB h fun h => qu h qmj fun h => gC h 2 (ih _ _ _)) fun h => qS h fun h => qB h fun h => qu h qmj fun h => gC h 2 (ih _ _ _)) fun h => gL h)
theorem qQY (k a b r) (h : qgi k a b = some r): qIm a b r := qN Tryz.f183 (go (qD [qiz k, qET k]) [] qAt [.frz 4 false (RTy.list T3), .autoB [4] true []] (qu h id fun h => gC h 2 ((qzR k k) _ _ _)))
theorem qD6 {k a b} (h : (qgi k a b).isSome): qIm a b (qcJ k a b) := qJ h (qQY k a b)
def qvj (r : List T3.T × Int) : AV := .tup [ro T3 r.1, ri r.2]
abbrev qIw (a : List T3.T) (r : List T3.T × Int) : Prop := CC Tryz.prog 184 [ro T3 a] [] (qvj r) (nb r)
def qdi (k : Nat) (a : List T3.T) : Option (List T3.T × Int) :=
 bif (↑a.length : Int) > (256 : Int) then
 some ([], 8)
 else
 some (a, 0)
def qcS := fun k a => (qdi k a).getD ([], 0)
def qOv (k : Nat) : Ke := (184, mo 1, fun
 | [.r (.ro d b)], [] => (qE d T3 b).bind fun a => some (.one (qvj (qcS k a), []))
 | _, _ => none)
theorem qQJ (k a r) (h : qdi k a = some r): qIw a r := qN Tryz.f184 (go (qD []) [] [] [.frz 2 false (RTy.list T3), .autoB [2, 3] true []] (qB h fun h => gL h))
theorem qQu {k a} (h : (qdi k a).isSome): qIw a (qcS k a) := qJ h (qQJ k a)
end
end Go.AM
