/- Contracts of the functions that the law reaches, and the plain law. -/
import Derived.Test.YtlakpahbdecdpaaGreatDoorLibb
import Derived.Test.YtlakpahbdecdpaaGreatDoorProg
import Derived.Laws.RangeAny
import Derived.Lib.IndexAny
import Derived.Shelf.Strings.IndexAnyAll
import Derived.Shelf.Small.Utf8
import Derived.Shelf.SlicesE.Clone
import Derived.Shelf.SlSortCmp.WholeK
import Derived.Shelf.SlSortCmp.NoneTotal
import Derived.Shelf.Sort.Plain
import Derived.Shelf.Slices.In.SortNone
import Derived.Shelf.Spec.SlicesGrow
import Derived.Shelf.SlGeneric
import Derived.Shelf.Small.Bits
import Derived.Ground.NamesProg
import Derived.Ground.Names2Prog
import Derived.Ground.Names8Prog
import Derived.Ground.SlgnProg
import Derived.Ground.SlsfProg
set_option linter.unusedVariables false
set_option linter.unusedSimpArgs false
set_option linter.unusedSectionVars false
open Bool renaming and_eq_true → qj, false_and → wD, false_eq_true → qG, false_or → zn, or_eq_false_iff → WN, true_and → ww
open Int renaming le_refl → Wg, toNat → qt, toNat_natCast → qc
open List renaming all_eq_true → vA, append_assoc → qw, append_nil → qY, cons_append → qpk, drop_of_length_le → qh, drop_zero → wm, getD → qM, length → qe, length_append → qn, length_cons → wc, length_singleton → qk, mem_append → zW, mem_cons → qK, nil_append → qH, take_of_length_le → wI
open Nat renaming add_mul → qaS, beq → qC, eq_of_beq_eq_true → ql, le_of_ble_eq_true → wo, le_refl → qT, mul_le_mul_right → vT, succ_mul → qTX, zero_add → Yd, zero_le → z8
open Option renaming isSome_some → qb
open Go.IntKind renaming wrap → qa
namespace Go.AM
open Go
theorem wR {α : Type} (l : List α) (i : Nat) (d : α) (h : i < l.length) : l.take (i + 1) = l.take i ++ [l.getD i d] := by
 rw [List.take_add_one]; simp [h]
abbrev Sp := Int × Int
def Qq : List Sp → Int → Prop
 | [], _ => False
 | s :: t, x => (s.1 ≤ x ∧ x < s.2) ∨ Qq t x
theorem Qa (l : List Sp) (x : Int) : Qq l x ↔ ∃ s ∈ l, s.1 ≤ x ∧ x < s.2 := by
 induction l with
 | nil => simp [Qq]
 | cons s t ih => simp [Qq, ih]
theorem qGk {a b : List Sp} (h : a.Perm b) (x : Int) : Qq a x ↔ Qq b x := by
 rw [Qa, Qa]
 exact ⟨fun ⟨s, hs, h2⟩ => ⟨s, h.mem_iff.1 hs, h2⟩, fun ⟨s, hs, h2⟩ => ⟨s, h.mem_iff.2 hs, h2⟩⟩
def Nr : Int → List Sp → Prop
 | _, [] => True
 | b, s :: t => b < s.1 ∧ s.1 < s.2 ∧ Nr s.2 t
theorem Nr.weaken {a b : Int} (h : a ≤ b) : ∀ {l : List Sp}, Nr b l → Nr a l
 | [], _ => trivial
 | _ :: _, ⟨h1, h2, h3⟩ => ⟨by omega, h2, h3⟩
theorem Nr.low : ∀ {b : Int} {l : List Sp}, Nr b l → ∀ x, Qq l x → b < x
 | _, [], _, x, hx => hx.elim
 | b, s :: t, ⟨h1, h2, h3⟩, x, hx => by
  rcases hx with ⟨h, _⟩ | hx
  ·omega
  ·have := Nr.low h3 x hx; omega
theorem Nr.uniq : ∀ {b : Int} {l m : List Sp}, Nr b l → Nr b m → (∀ x, Qq l x ↔ Qq m x) → l = m
 | _, [], [], _, _, _ => rfl
 | b, [], s :: t, _, ⟨h1, h2, _⟩, h => ((h s.1).2 (.inl ⟨by omega, h2⟩)).elim
 | b, s :: t, [], ⟨h1, h2, _⟩, _, h => ((h s.1).1 (.inl ⟨by omega, h2⟩)).elim
 | b, s :: t, u :: v, ⟨h1, h2, h3⟩, ⟨k1, k2, k3⟩, h => by
  have e1 : s.1 = u.1 := by
   have a1 := (h s.1).1 (.inl ⟨by omega, h2⟩)
   have a2 := (h u.1).2 (.inl ⟨by omega, k2⟩)
   rcases a1 with a1 | a1
   ·rcases a2 with a2 | a2
    ·omega
    ·have := Nr.low h3 _ a2; omega
   ·have := Nr.low k3 _ a1
    rcases a2 with a2 | a2
    ·omega
    ·have := Nr.low h3 _ a2; omega
  have e2 : s.2 = u.2 := by
   rcases Int.lt_trichotomy s.2 u.2 with hlt | heq | hgt
   ·have a1 := (h s.2).2 (.inl ⟨by omega, hlt⟩)
    rcases a1 with a1 | a1
    ·omega
    ·have := Nr.low h3 _ a1; omega
   ·exact heq
   ·have a1 := (h u.2).1 (.inl ⟨by omega, hgt⟩)
    rcases a1 with a1 | a1
    ·omega
    ·have := Nr.low k3 _ a1; omega
  have e3 : s = u := Prod.ext e1 e2
  subst e3
  congr 1
  refine Nr.uniq h3 k3 fun x => ?_
  constructor
  ·intro hx
   have := Nr.low h3 _ hx
   rcases (h x).1 (.inr hx) with a | a
   ·omega
   ·exact a
  ·intro hx
   have := Nr.low k3 _ hx
   rcases (h x).2 (.inr hx) with a | a
   ·omega
   ·exact a
def tot : List Sp → Int
 | [] => 0
 | s :: t => (s.2 - s.1) + tot t
def jn : Sp → List Sp → List Sp
 | c, [] => [c]
 | c, s :: t => if s.1 ≥ s.2 then jn c t else if s.1 ≤ c.2 then jn (c.1, if s.2 > c.2 then s.2 else c.2) t else c :: jn s t
def jn0 : List Sp → List Sp
 | [] => []
 | s :: t => if s.1 ≥ s.2 then jn0 t else jn s t
def Asc : Int → List Sp → Prop
 | _, [] => True
 | b, s :: t => b ≤ s.1 ∧ Asc s.1 t
theorem Asc.weaken {a b : Int} (h : a ≤ b) : ∀ {l : List Sp}, Asc b l → Asc a l
 | [], _ => trivial
 | _ :: _, ⟨h1, h3⟩ => ⟨by omega, h3⟩
theorem qrj : ∀ (l : List Sp) (c : Sp) (b : Int), b < c.1 → c.1 < c.2 → Asc c.1 l → Nr b (jn c l)
 | [], c, b, h1, h2, _ => ⟨h1, h2, trivial⟩
 | s :: t, c, b, h1, h2, ⟨h3, h4⟩ => by
  unfold jn
  by_cases q : s.1 ≥ s.2
  ·rw [qd q]; exact qrj t c b h1 h2 (h4.weaken h3)
  ·rw [qm q]
   by_cases q2 : s.1 ≤ c.2
   ·rw [qd q2]
    refine qrj t _ b h1 ?_ (h4.weaken h3)
    show c.1 < if s.2 > c.2 then s.2 else c.2
    split <;> omega
   ·rw [qm q2]
    exact ⟨h1, h2, qrj t s c.2 (by omega) (by omega) h4⟩
theorem qmw : ∀ (l : List Sp) (c : Sp) (x : Int), c.1 < c.2 → Asc c.1 l → (Qq (jn c l) x ↔ (c.1 ≤ x ∧ x < c.2) ∨ Qq l x)
 | [], c, x, _, _ => by simp [jn, Qq]
 | s :: t, c, x, h2, ⟨h3, h4⟩ => by
  unfold jn
  by_cases q : s.1 ≥ s.2
  ·rw [qd q, qmw t c x h2 (h4.weaken h3)]
   simp only [Qq]
   constructor
   ·rintro (h | h)
    ·exact .inl h
    ·exact .inr (.inr h)
   ·rintro (h | h | h)
    ·exact .inl h
    ·omega
    ·exact .inr h
  ·rw [qm q]
   by_cases q2 : s.1 ≤ c.2
   ·rw [qd q2, qmw t (c.1, if s.2 > c.2 then s.2 else c.2) x (by show c.1 < if s.2 > c.2 then s.2 else c.2; split <;> omega) (h4.weaken h3)]
    simp only [Qq]
    constructor
    ·rintro (h | h)
     ·by_cases q3 : x < c.2
      ·exact .inl ⟨h.1, q3⟩
      ·refine .inr (.inl ⟨by omega, ?_⟩)
       have := h.2
       split at this <;> omega
     ·exact .inr (.inr h)
    ·rintro (h | h | h)
     ·exact .inl ⟨h.1, by split <;> omega⟩
     ·exact .inl ⟨by omega, by split <;> omega⟩
     ·exact .inr h
   ·rw [qm q2]
    simp only [Qq, qmw t s x (by omega) h4]
theorem qBW : ∀ (l : List Sp) (b : Int), Asc (b + 1) l → Nr b (jn0 l)
 | [], b, _ => trivial
 | s :: t, b, ⟨h3, h4⟩ => by
  unfold jn0
  by_cases q : s.1 ≥ s.2
  ·rw [qd q]; exact qBW t b (h4.weaken h3)
  ·rw [qm q]; exact qrj t s b (by omega) (by omega) h4
theorem qwK : ∀ (l : List Sp) (b x : Int), Asc b l → (Qq (jn0 l) x ↔ Qq l x)
 | [], b, x, _ => Iff.rfl
 | s :: t, b, x, ⟨h3, h4⟩ => by
  unfold jn0
  by_cases q : s.1 ≥ s.2
  ·rw [qd q, qwK t _ x h4]
   simp only [Qq]
   exact ⟨.inr, fun h => h.elim (fun h => by omega) id⟩
  ·rw [qm q, qmw t s x (by omega) h4]; rfl
theorem qm4 : ∀ (l : List Sp) (c : Sp), (jn c l).length ≤ l.length + 1
 | [], c => by simp [jn]
 | s :: t, c => by
  unfold jn
  split
  ·have := qm4 t c; simp; omega
  ·split
   ·have := qm4 t (c.1, if s.2 > c.2 then s.2 else c.2); simp at this ⊢; omega
   ·have := qm4 t s; simp; omega
theorem qwZ : ∀ (l : List Sp), (jn0 l).length ≤ l.length
 | [] => qT _
 | s :: t => by
  unfold jn0
  split
  ·have := qwZ t; simp; omega
  ·have := qm4 t s; simpa using this
def In (a b : Int) : List Sp → Prop
 | [] => True
 | s :: t => (a ≤ s.1 ∧ s.1 ≤ s.2 ∧ s.2 ≤ b) ∧ In a b t
theorem In.mem {a b : Int} : ∀ {l : List Sp}, In a b l → ∀ s ∈ l, a ≤ s.1 ∧ s.1 ≤ s.2 ∧ s.2 ≤ b
 | [], _, s, hs => by simp at hs
 | u :: t, ⟨h1, h2⟩, s, hs => by
  rcases qK.1 hs with rfl | hs
  ·exact h1
  ·exact In.mem h2 s hs
theorem In.of {a b : Int} : ∀ {l : List Sp}, (∀ s ∈ l, a ≤ s.1 ∧ s.1 ≤ s.2 ∧ s.2 ≤ b) → In a b l
 | [], _ => trivial
 | u :: t, h => ⟨h u (by simp), In.of fun s hs => h s (by simp [hs])⟩
theorem qrd {a b : Int} : ∀ (l : List Sp) (c : Sp), In a b l → (a ≤ c.1 ∧ c.1 ≤ c.2 ∧ c.2 ≤ b) → In a b (jn c l)
 | [], c, _, hc => ⟨hc, trivial⟩
 | s :: t, c, ⟨h1, h2⟩, hc => by
  unfold jn
  split
  ·exact qrd t c h2 hc
  ·split
   ·refine qrd t _ h2 ⟨hc.1, ?_, ?_⟩
    ·show c.1 ≤ if s.2 > c.2 then s.2 else c.2
     split <;> omega
    ·show (if s.2 > c.2 then s.2 else c.2) ≤ b
     split <;> omega
   ·exact ⟨hc, qrd t s h2 h1⟩
theorem qEr {a b : Int} : ∀ (l : List Sp), In a b l → In a b (jn0 l)
 | [], h => h
 | s :: t, ⟨h1, h2⟩ => by
  unfold jn0
  split
  ·exact qEr t h2
  ·exact qrd t s h2 h1
end Go.AM
namespace Go.AM
open Go
end Go.AM
namespace Go.AM
open Go Go.Proofs
noncomputable section
def rpt : Nat → RTy → RTy
 | 0, a => a
 | n + 1, a => .pair a (rpt n a)
abbrev I : RTy := .int .i64
abbrev t7 : RTy := (RTy.pair I (RTy.pair I (RTy.pair RTy.bool (RTy.int .u8))))
abbrev t8 : RTy := (RTy.pair I (RTy.pair I (RTy.pair RTy.bool (RTy.int .u8))))
abbrev t13 : RTy := (RTy.pair RTy.str (RTy.int .u64))
abbrev t14 : RTy := (RTy.pair RTy.str (RTy.int .u64))
abbrev T0 : RTy := (RTy.pair RTy.str (RTy.pair I (RTy.pair I (RTy.pair I (RTy.pair I (RTy.pair I (RTy.pair (RTy.list I) I)))))))
abbrev T1 : RTy := (RTy.pair I (RTy.list I))
abbrev T2 : RTy := (RTy.pair I (RTy.pair I (RTy.pair I (RTy.pair I I))))
abbrev T3 : RTy := (RTy.pair I (RTy.pair I RTy.bool))
abbrev T4 : RTy := (RTy.pair I (RTy.pair I (RTy.pair RTy.bool (RTy.list T3))))
abbrev T5 : RTy := (RTy.pair I (RTy.pair I T4))
abbrev T6 : RTy := (RTy.pair I (RTy.pair I (RTy.pair I I)))
abbrev T7 : RTy := (RTy.pair T6 (RTy.pair I I))
abbrev T8 : RTy := (RTy.pair I (RTy.pair I (RTy.pair I (RTy.pair I (RTy.pair I (RTy.pair I (RTy.pair I (RTy.pair I (RTy.pair I (RTy.pair I (RTy.pair I I)))))))))))
abbrev T9 : RTy := (RTy.pair T8 (RTy.pair (RTy.list I) (RTy.pair (RTy.list I) RTy.bool)))
abbrev T10 : RTy := (RTy.pair I (RTy.pair I I))
abbrev T11 : RTy := (RTy.pair I (RTy.pair I (RTy.list I)))
abbrev T12 : RTy := (RTy.pair I (RTy.pair I (RTy.pair I (RTy.pair I (RTy.pair I I)))))
abbrev T13 : RTy := (RTy.pair I (RTy.pair I (RTy.pair I I)))
abbrev T14 : RTy := (RTy.pair I (RTy.pair I (RTy.pair I I)))
abbrev T15 : RTy := (RTy.pair I I)
abbrev T16 : RTy := (RTy.pair I (RTy.pair I (RTy.list T15)))
abbrev t35 : RTy := (RTy.pair I (RTy.pair I (RTy.pair I (RTy.pair I (RTy.pair I (RTy.pair I (RTy.pair I (RTy.pair (RTy.list T0) (RTy.pair (RTy.list T1) (RTy.pair (RTy.list T2) (RTy.pair (RTy.list I) (RTy.pair (RTy.list T5) (RTy.pair (RTy.list I) (RTy.pair (RTy.list I) (RTy.pair (RTy.list T7) (RTy.pair (RTy.list T9) (RTy.pair (RTy.list T10) (RTy.pair (RTy.list T11) (RTy.pair (RTy.list T12) (RTy.pair (RTy.list T13) (RTy.pair (RTy.list T14) (RTy.list T16))))))))))))))))))))))
abbrev T17 : RTy := (RTy.pair I (RTy.pair I (RTy.pair I (RTy.pair I (RTy.pair I (RTy.pair I (RTy.pair I (RTy.pair (RTy.list T0) (RTy.pair (RTy.list T1) (RTy.pair (RTy.list T2) (RTy.pair (RTy.list I) (RTy.pair (RTy.list T5) (RTy.pair (RTy.list I) (RTy.pair (RTy.list I) (RTy.pair (RTy.list T7) (RTy.pair (RTy.list T9) (RTy.pair (RTy.list T10) (RTy.pair (RTy.list T11) (RTy.pair (RTy.list T12) (RTy.pair (RTy.list T13) (RTy.pair (RTy.list T14) (RTy.list T16))))))))))))))))))))))
abbrev t41 : RTy := (RTy.pair I (RTy.pair I (RTy.pair I I)))
abbrev t44 : RTy := (RTy.pair I (RTy.pair I (RTy.pair RTy.bool (RTy.list T3))))
abbrev t46 : RTy := (RTy.pair I (RTy.pair I T4))
abbrev t48 : RTy := (RTy.pair I (RTy.pair I RTy.bool))
abbrev T18 : RTy := (RTy.pair I (RTy.pair I I))
abbrev t53 : RTy := (RTy.pair I (RTy.pair I I))
abbrev t60 : RTy := (RTy.pair I (RTy.pair I (RTy.pair I (RTy.pair I (RTy.pair I I)))))
abbrev t62 : RTy := (RTy.pair I (RTy.pair I (RTy.pair I I)))
abbrev t66 : RTy := (RTy.pair I I)
abbrev T19 : RTy := (RTy.pair I I)
abbrev t68 : RTy := (RTy.pair I (RTy.pair I I))
abbrev T20 : RTy := (RTy.pair I (RTy.pair I I))
abbrev t71 : RTy := (RTy.pair I (RTy.pair I (RTy.pair I (RTy.pair I (RTy.pair I (RTy.pair I (RTy.pair I (RTy.pair I (RTy.pair I (RTy.pair I (RTy.pair I I)))))))))))
abbrev t73 : RTy := (RTy.pair T8 (RTy.pair (RTy.list I) (RTy.pair (RTy.list I) RTy.bool)))
abbrev t75 : RTy := (RTy.pair I (RTy.pair I (RTy.list I)))
abbrev t86 : RTy := (RTy.pair I (RTy.pair I (RTy.pair I (RTy.pair I I))))
abbrev t90 : RTy := (RTy.pair I I)
abbrev T21 : RTy := (RTy.pair I I)
abbrev qTk : RTy := (RTy.pair I (RTy.pair RTy.bool (RTy.pair I (RTy.pair I (RTy.pair I I)))))
abbrev T22 : RTy := (RTy.pair I (RTy.pair RTy.bool (RTy.pair I (RTy.pair I (RTy.pair I I)))))
abbrev T23 : RTy := (RTy.pair I I)
abbrev qSZ : RTy := (RTy.pair (RTy.list T5) (RTy.pair T23 (RTy.pair (RTy.list T2) (RTy.pair (RTy.list T7) (RTy.pair (RTy.list T0) I)))))
abbrev T24 : RTy := (RTy.pair (RTy.list T5) (RTy.pair T23 (RTy.pair (RTy.list T2) (RTy.pair (RTy.list T7) (RTy.pair (RTy.list T0) I)))))
abbrev qS7 : RTy := (RTy.pair I (RTy.pair I (RTy.list T15)))
abbrev qS1 : RTy := (RTy.pair I I)
abbrev qS9 : RTy := (RTy.pair I (RTy.pair I (RTy.pair I I)))
abbrev qSP : RTy := (RTy.pair T6 (RTy.pair I I))
abbrev qTn : RTy := RTy.fn
abbrev T25 : RTy := RTy.fn
abbrev qTq : RTy := (RTy.pair T17 (RTy.list T18))
abbrev T26 : RTy := (RTy.pair T17 (RTy.list T18))
abbrev qS6 : RTy := (RTy.pair RTy.str (RTy.pair I (RTy.pair I (RTy.pair I (RTy.pair I (RTy.pair I (RTy.pair (RTy.list I) I)))))))
abbrev qSS : RTy := (RTy.pair I (RTy.pair I (RTy.pair I (RTy.pair I (RTy.pair I I)))))
abbrev T27 : RTy := (RTy.pair I (RTy.pair I (RTy.pair I (RTy.pair I (RTy.pair I I)))))
abbrev qSY : RTy := (RTy.pair (RTy.list T5) (RTy.pair T19 (RTy.pair (RTy.list T2) (RTy.pair (RTy.list T7) (RTy.pair (RTy.list T0) I)))))
abbrev T28 : RTy := (RTy.pair (RTy.list T5) (RTy.pair T19 (RTy.pair (RTy.list T2) (RTy.pair (RTy.list T7) (RTy.pair (RTy.list T0) I)))))
abbrev qTf : RTy := (RTy.pair I (RTy.pair I I))
abbrev T29 : RTy := (RTy.pair I (RTy.pair I (RTy.pair I (RTy.pair I (RTy.pair I I)))))
abbrev qTh : RTy := (RTy.pair (RTy.int .u64) (RTy.int .u64))
abbrev T30 : RTy := (RTy.pair (RTy.int .u64) (RTy.int .u64))
abbrev qSV : RTy := rpt 23 (RTy.int .u8)
abbrev qTm : RTy := rpt 19 (RTy.int .u64)
abbrev qTc : RTy := (RTy.list T3)
abbrev T31 : RTy := (RTy.list T3)
abbrev qTg : RTy := (RTy.pair T22 T8)
abbrev T32 : RTy := (RTy.pair T22 T8)
abbrev qTl : RTy := rpt 31 (RTy.int .u8)
abbrev qS0 : RTy := rpt 63 (RTy.int .u8)
abbrev qTa : RTy := RTy.unit
abbrev qTd : RTy := RTy.unit
abbrev qSU : RTy := (RTy.pair I (RTy.list I))
instance : GT Tryz.prog := ⟨fun _ => True, fun _ _ _ h => h⟩
def Rt : wV := qHS (([1, 37, 39, 40, 52, 55, 57, 58, 59, 65, 70, 79, 80, 81, 84, 85, 89, 94, 95, 96, 97, 98, 99, 100, 101, 105, 109, 110, 111, 113, 114, 118, 121, 123, 128, 131, 132, 136, 137, 138, 141, 142, 144, 146, 147, 148, 149, 150, 151, 152, 153, 154, 156, 158, 160, 161, 164, 165, 167, 168, 169, 171, 174, 175, 176, 177, 179, 180, 182, 183, 184, 185, 186, 187, 188, 189, 191, 192, 193, 194, 195, 196, 198, 199, 202, 204, 205, 206, 207, 208, 212, 213, 214, 216, 218, 219, 221, 222, 223, 224, 225, 226, 227, 228, 229, 230, 231, 232, 233, 234, 235, 236, 237, 238, 239, 240, 241, 242, 243, 244, 245, 246, 247, 248, 249, 250, 251, 252, 253, 258, 259, 260, 262, 263, 265, 266, 267, 268, 269, 271, 272, 273, 274, 275, 276, 277, 278, 279, 280, 281, 282, 288, 289, 290, 291, 292, 293, 294, 297, 298, 299, 300, 301, 305, 306, 307, 308, 310, 311, 313, 314, 315, 317, 318, 319, 322, 323, 324, 325, 327, 328, 329, 330, 331, 337, 340].map fun n => (n, RTy.fn)) ++ [(2, I), (3, I), (4, RTy.bool), (5, (RTy.int .u8)), (6, (RTy.int .u8)), (7, t7), (8, t8), (9, RTy.str), (10, RTy.str), (11, RTy.str), (12, (RTy.int .u64)), (13, t13), (14, t14), (21, (RTy.int .i32)), (22, (RTy.list T0)), (23, (RTy.list T1)), (24, (RTy.list T2)), (25, (RTy.list I)), (26, (RTy.list T5)), (27, (RTy.list T7)), (28, (RTy.list T9)), (29, (RTy.list T10)), (30, (RTy.list T11)), (31, (RTy.list T12)), (32, (RTy.list T13)), (33, (RTy.list T14)), (34, (RTy.list T16)), (35, t35), (36, T17), (38, I), (41, t41), (42, T14), (43, (RTy.list T3)), (44, t44), (45, T4), (46, t46), (47, T5), (48, t48), (49, T3), (50, (RTy.list T18)), (53, t53), (54, T18), (60, t60), (61, T12), (62, t62), (63, T13), (66, t66), (67, T19), (68, t68), (69, T20), (71, t71), (72, T8), (73, t73), (74, T9), (75, t75), (76, T11), (83, (RTy.list RTy.fn)), (86, t86), (87, T2), (90, t90), (91, T21), (92, (RTy.list T21)), (102, qTk), (103, T22), (106, T23), (107, qSZ), (108, T24), (115, (RTy.list T15)), (116, qS7), (117, T16), (119, qS1), (120, T15), (124, qS9), (125, T6), (126, qSP), (127, T7), (129, qTn), (130, T25), (139, qTq), (140, T26), (145, (RTy.list T4)), (162, qS6), (163, T0), (172, qSS), (173, T27), (178, (RTy.list (RTy.int .u8))), (200, qSY), (201, T28), (209, qTf), (210, T10), (215, T29), (220, (RTy.list (RTy.list T21))), (254, (RTy.int .u64)), (256, qTh), (257, T30), (261, qSV), (270, (RTy.int .u64)), (283, qTm), (284, (RTy.int .u32)), (286, qTc), (287, T31), (295, I), (302, qTg), (303, T32), (304, (RTy.list RTy.fn)), (312, (RTy.int .u64)), (320, qTl), (321, qS0), (334, RTy.unit), (335, qTa), (336, qTd), (338, (RTy.int .u8)), (339, (RTy.int .u8)), (342, (RTy.int .i32)), (343, (RTy.int .i32)), (346, qSU), (347, T1)])
theorem hm : Tryz.prog.follows .mixedOrders = true := by kernel_rfl
theorem go (K : Calld) (l : List Nat) (C : List (Nat × List Cmd)) (E : List Cmd) {fn : Wy} {m : Nat} {todo : List Item} {st : St} {res : AV} {bout : List (Nat × Blk)} {T : Tree} (h : T.gives Tryz.prog fn m res bout) (e : tree Tryz.prog Rt K fn.rd m l fn.fn.results.toList C E 1000 todo st = T := by kernel_rfl) : Ev Tryz.prog fn m todo st res bout := Ev.tree hm (R := Rt) (K := K) e h
theorem qN {f : FuncId} (fn : Func) {args : List AV} {bin : List Blk} {res : AV} {bout : List (Nat × Blk)} (h : Ev Tryz.prog (.of fn) bin.length (qs6 fn) (qbr fn args bin) res bout) (hf : Tryz.prog.funcs[f]? = some fn := by kernel_rfl) (hb : fn.body.isSome = true := by kernel_rfl) (hn : (fn.name == "runtime.NumGoroutine") = false := by kernel_rfl) (hg : zm args = true := by kernel_rfl) : CC Tryz.prog f args bin res bout := CC.of hf hb hn hg h
abbrev ri (n : Int) : AV := .r (.v (.int .i64 n))
abbrev rb (n : Bool) : AV := .r (.v (.bool n))
abbrev ro (τ : RTy) (l : List τ.T) : AV := .r (.ro τ l)
abbrev EE {R : Type} (fn : Wy) (m : Nat) (s : R → AV) (b : R → List (Nat × Blk)) (todo : List Item) (st : St) (o : Option R) : Prop := ∀ r, o = some r → Ev Tryz.prog fn m todo st (s r) (b r)
section
variable {fn : Wy} {m : Nat} {R : Type} {r : R} {s : R → AV} {b : R → List (Nat × Blk)}
theorem gD {o : Option R} {todo : List Item} {st : St} (h : o = some r) (key : Nat) (H : ∀ r, o = some r → Ev Tryz.prog fn m todo st (s r) (b r)) : (Tree.cut key todo st).gives Tryz.prog fn m (s r) (b r) := H r h
theorem gTl {c : Bool} {x : R} {y : Option R} {f : Tree} (h : (bif c then some x else y) = some r) (hf : c = false → y = some r → f.gives Tryz.prog fn m (s r) (b r)) : (Tree.test c (.leaf (s x) (b x)) f).gives Tryz.prog fn m (s r) (b r) := gT h (fun _ h => gL h) hf
theorem qB {c : Bool} {x : R} {y : Option R} {f : Tree} (h : (bif c then some x else y) = some r) (hf : y = some r → f.gives Tryz.prog fn m (s r) (b r)) : (Tree.test c (.leaf (s x) (b x)) f).gives Tryz.prog fn m (s r) (b r) := gT h (fun _ h => gL h) fun _ => hf
theorem gS {c : Bool} {x y : Option R} {t f : Tree} {res : AV} {bout : List (Nat × Blk)} (h : (bif c then x else y) = some r) (ht : x = some r → t.gives Tryz.prog fn m res bout) (hf : y = some r → f.gives Tryz.prog fn m res bout) : (Tree.test c t f).gives Tryz.prog fn m res bout := gT h (fun _ => ht) fun _ => hf
end
abbrev EP {R : Type} (fn : Func) (m : Nat) (s : R → AV) (b : R → List (Nat × Blk)) (n : Nat) (st : St) (o : Option R) : Prop := EE (.of fn) m s b (Qc fn n) st o
theorem e0 {R : Type} {fn : Wy} {m : Nat} {s : R → AV} {b : R → List (Nat × Blk)} {todo : List Item} {st : St} : EE fn m s b todo st none := fun _ h => nomatch h
theorem Xl {a b c : Prop} (q : a ∧ b ∧ c) : zk [a, b, c] := qf q.1 (qf q.2.1 (qf q.2.2 qR))
theorem Xo {a b c d : Prop} (q : a ∧ b ∧ c ∧ d) : zk [a, b, c, d] := qf q.1 (Xl q.2)
def nb {R : Type} (_ : R) : List (Nat × Blk) := []
def mo (n : Nat) (xs : List AV) : Option (List Bool) := bif qC xs.length n then some (List.replicate n false) else none
abbrev qlY : Type := Int × List T21.T × List T21.T
def qt1 (r : qlY) : AV := .tup []
def qvp (a : Int) (b : Int) (d : Int) (e : List T21.T) (f : List T21.T) (r : qlY) : List (Nat × Blk) := [(0, .var 3 [ri r.1]), (0, .var 3 [ri d]), (0, .var 92 [.own 3 1]), (1, .row 91 T21 r.2.1), (0, .var 92 [.own 5 1]), (1, .row 91 T21 r.2.2)]
abbrev qE9 (a : Int) (b : Int) (d : Int) (e : List T21.T) (f : List T21.T) (r : qlY) : Prop := CC Tryz.prog 126 [ri a, .ptr 0 0 0, .ptr 1 0 0, .ptr 2 0 0, .ptr 4 0 0] [.var 3 [ri b], .var 3 [ri d], .var 92 [.own 3 0], .row 91 T21 e, .var 92 [.own 5 0], .row 91 T21 f] (qt1 r) (qvp a b d e f r)
def qio (k : Nat) (a : Int) (b : Int) (d : Int) (e : List T21.T) (f : List T21.T) : Option qlY :=
 bif qa .i64 (a - b) ≥ d then
 if ((e.length + [(b, a)].length) * (16 : Nat) ≤ (140737488355328 : Nat)) then
 some (a, e ++ [(b, a)], f)
 else none
 else
 if ((f.length + [(b, a)].length) * (16 : Nat) ≤ (140737488355328 : Nat)) then
 some (a, e, f ++ [(b, a)])
 else none
def qaH := fun k a b d e f => (qio k a b d e f).getD (0, [], [])
def qn2 (k : Nat) : Ke := (126, fun
 | [_, .ptr _ _ _, .ptr _ _ _, .ptr _ _ _, .ptr _ _ _] => some [false, true, true, true, true]
 | _ => none, fun
 | [.r (.v (.int .i64 a)), .ptr 0 0 0, .ptr 1 0 0, .ptr 2 0 0, .ptr 4 0 0], [.var 3 [.r (.v (.int .i64 b))], .var 3 [.r (.v (.int .i64 d))], .var 92 [.own 3 0], .row 91 tz20_ qz20, .var 92 [.own 5 0], .row 91 tz30_ qz30] => (qE tz20_ T21 qz20).bind fun e => (qE tz30_ T21 qz30).bind fun f => some (.one (qt1 (qaH k a b d e f), qvp a b d e f (qaH k a b d e f)))
 | _, _ => none)
theorem qLX (k a b d e f r) (h : qio k a b d e f = some r): qE9 a b d e f r := qN Tryz.f126 (go (qD []) [] [] [.autoB [] true [3, 5]] (gS h (fun h => qu h id fun h => gL h) fun h => qu h id fun h => gL h))
theorem qu4 {k a b d e f} (h : (qio k a b d e f).isSome): qE9 a b d e f (qaH k a b d e f) := qJ h (qLX k a b d e f)
abbrev qr5 : Type := List T21.T × List T21.T
def qsS (r : qr5) : AV := rb true
def qyk (a : List I.T) (b : Int) (d : List T21.T) (e : List T21.T) (f : T21.T) (r : qr5) : List (Nat × Blk) := [(0, .loop .ready none (qgC Tryz.f81 11 [91]) (qI 66 [(4, .ptr 1 0 0), (5, .ptr 2 0 0), (11, .ptr 3 0 0), (12, .ptr 5 0 0)])), (0, .var 25 [ro I a]), (0, .var 3 [ri b]), (0, .var 92 [.own 4 1]), (1, .row 91 T21 r.1), (0, .var 92 [.own 6 1]), (1, .row 91 T21 r.2)]
abbrev qPS (a : List I.T) (b : Int) (d : List T21.T) (e : List T21.T) (f : T21.T) (r : qr5) : Prop := YC Tryz.prog [.agg (qy (qr T21 f))] [.loop .ready none (qgC Tryz.f81 11 [91]) (qI 66 [(4, .ptr 1 0 0), (5, .ptr 2 0 0), (11, .ptr 3 0 0), (12, .ptr 5 0 0)]), .var 25 [ro I a], .var 3 [ri b], .var 92 [.own 4 0], .row 91 T21 d, .var 92 [.own 6 0], .row 91 T21 e] (qsS r) (qyk a b d e f r)
def qF7 := fun a b (d : List T21.T) (e : List T21.T) (f : T21.T) y0 y1 y2 y3 y4 y5 y6 => (⟨qI 66 [(13, .ptr 1000000 0 0), (15, .fn (Fn.func 126) [] [.ptr 1000001 0 0, .ptr 2 0 0, .ptr 3 0 0, .ptr 5 0 0]), (40, ro I y0), (41, ri y1), (42, ri y2)], [(0, 0, .loop .busy none (qgC Tryz.f81 11 [91]) (qI 66 [(4, .ptr 1 0 0), (5, .ptr 2 0 0), (11, .ptr 3 0 0), (12, .ptr 5 0 0)])), (1, 0, .var 25 [ro I a]), (2, 0, .var 3 [ri b]), (3, 0, .var 92 [.own 4 1]), (4, 1, .row 91 T21 y3), (5, 0, .var 92 [.own 6 1]), (6, 1, .row 91 T21 y4), (1000000, 0, .var 91 (qy (qr T21 y5))), (1000001, 0, .var 3 [ri y6])]⟩ : St)
def qeC (k : Nat) (a : List I.T) (b : Int) (d : List T21.T) (e : List T21.T) (f : T21.T) : Nat → List I.T → Int → Int → List T21.T → List T21.T → T21.T → Int → Option qr5
 | 0, _, _, _, _, _, _, _ => none
 | j + 1, y0, y1, y2, y3, y4, y5, y6 =>
 bif y2 < y1 then
 if (0 ≤ y2) ∧ (y2 < y0.length) then
 bif (decide (y0.getD y2.toNat I.dflt > y5.1) && decide (y0.getD y2.toNat I.dflt < y5.2)) then
 if ((qio k (y0.getD y2.toNat I.dflt) y6 b y3 y4).isSome) then
 qeC k a b d e f j y0 y1 (qa .i64 (y2 + 1)) ((qaH k (y0.getD y2.toNat I.dflt) y6 b y3 y4).2.1) ((qaH k (y0.getD y2.toNat I.dflt) y6 b y3 y4).2.2) y5 ((qaH k (y0.getD y2.toNat I.dflt) y6 b y3 y4).1)
 else none
 else
 qeC k a b d e f j y0 y1 (qa .i64 (y2 + 1)) y3 y4 y5 y6
 else none
 else
 if ((qio k y5.2 y6 b y3 y4).isSome) then
 some ((qaH k y5.2 y6 b y3 y4).2.1, (qaH k y5.2 y6 b y3 y4).2.2)
 else none
def qtR (k : Nat) (a : List I.T) (b : Int) (d : List T21.T) (e : List T21.T) (f : T21.T) : Option qr5 :=
 qeC k a b d e f k a (↑a.length : Int) 0 d e f f.1
def qlu := fun k a b d e f => (qtR k a b d e f).getD ([], [])
def qIG (k : Nat) : Ke := (1000000, mo 1, fun
 | [.agg qx0], [.loop _ _ _ qs, .var 25 [.r (.ro p l)], .var 3 [.r (.v (.int .i64 b))], .var 92 [.own 4 0], .row 91 m g, .var 92 [.own 6 0], .row 91 n i] => (qW [] T21 qx0).bind fun f => (qE p I l).bind fun a => (qE m T21 g).bind fun d => (qE n T21 i).bind fun e => some (.one (qsS (qlu k a b d e f), qyk a b d e f (qlu k a b d e f)))
 | _, _ => none)
def qHT : List (Nat × List Cmd) := [(15, [.autoB [13, 15, 40, 41, 42] false [4, 6]])]
abbrev qS8 := fun a b d e f => EE .round 7 qsS (qyk a b d e f)
theorem qId (k a b d e f) : ∀ j, (∀ y0 y1 y2 y3 y4 y5 y6, qS8 a b d e f (qOX (qgC Tryz.f81 11 [91]).body 15) (qF7 a b d e f y0 y1 y2 y3 y4 y5 y6) (qeC k a b d e f j y0 y1 y2 y3 y4 y5 y6))
 | 0 => by intros; exact e0
 | j + 1 => by
  have ih := @qId k a b d e f j
  ·intro y0 y1 y2 y3 y4 y5 y6 r h
   rw [qeC] at h
   exact go (qD [qn2 k]) [] qHT [.autoB [0] true [4, 6]] (gS h (fun h => qS h fun h => gS h (fun h => qu h qu4 fun h => gC h 15 (ih _ _ _ _ _ _ _ _)) fun h => gC h 15 (ih _ _ _ _ _ _ _ _)) fun h => qu h qu4 fun h => gL h)
theorem qRK (k a b d e f r) (h : qtR k a b d e f = some r): qPS a b d e f r := by
 refine YC.of (List.cons_ne_nil _ _) (by kernel_rfl) ?_
 unfold qtR at h
 exact go (qD [qn2 k]) [] qHT [.autoB [0] true [4, 6]] (gC h 15 ((qId k a b d e f k) _ _ _ _ _ _ _ _))
theorem qRQ {k a b d e f} (h : (qtR k a b d e f).isSome): qPS a b d e f (qlu k a b d e f) := qJ h (qRK k a b d e f)
end
theorem Vg {α : Type} (l : List α) (i : Nat) (d : α) (h : i < l.length) : l.getD i d ∈ l := by simp [h]
end Go.AM
namespace Go.AM
open Go Go.Proofs
noncomputable section
abbrev qEE (a : List I.T) (r : Int) : Prop := CC Tryz.prog 124 [ro I a] [] (ri r) (nb r)
def qzD := fun y0 y1 y2 y3 => (⟨qI 42 [(0, ro I y0), (9, ro I y1), (10, ri y2), (11, ri y3)], []⟩ : St)
def qyq := fun y0 y1 y2 => (⟨qI 42 [(0, ro I y0), (23, ri y1), (24, ri y2)], []⟩ : St)
mutual
def qgn (k : Nat) : Nat → List I.T → List I.T → Int → Int → Option Int
 | 0, _, _, _, _ => none
 | j + 1, y0, y1, y2, y3 =>
 bif y3 < y2 then
 if (0 ≤ y3) ∧ (y3 < y1.length) then
 bif (decide (y1.getD y3.toNat I.dflt < (0 : Int)) || decide (y1.getD y3.toNat I.dflt > (17179869184 : Int))) then
 some 1
 else
 qgn k j y0 y1 y2 (qa .i64 (y3 + 1))
 else none
 else
 qdp k j y0 (↑y0.length : Int) 0
def qdp (k : Nat) : Nat → List I.T → Int → Int → Option Int
 | 0, _, _, _ => none
 | j + 1, y0, y1, y2 =>
 bif y2 < y1 then
 if (decide (y2 > 0) = true → 0 ≤ y2) ∧ (decide (y2 > 0) = true → y2 < y0.length) ∧ (decide (y2 > 0) = true → (0 : Int) ≤ qa .i64 (y2 - 1)) ∧ (decide (y2 > 0) = true → qa .i64 (y2 - 1) < (↑y0.length : Int)) then
 bif (decide (y2 > 0) && decide (y0.getD y2.toNat I.dflt ≤ y0.getD (qa .i64 (y2 - 1)).toNat I.dflt)) then
 some 9
 else
 qdp k j y0 y1 (qa .i64 (y2 + 1))
 else none
 else
 some 0
end
def ql9 (k : Nat) (a : List I.T) : Option Int :=
 bif (↑a.length : Int) > (512 : Int) then
 some 8
 else
 qgn k k a a (↑a.length : Int) 0
def qlT := fun k a => (ql9 k a).getD 0
def qJ0 (k : Nat) : Ke := (124, mo 1, fun
 | [.r (.ro d b)], [] => (qE d I b).bind fun a => some (.one (ri (qlT k a), []))
 | _, _ => none)
def qwT : List (Nat × List Cmd) := [(4, [.autoB [0, 9, 10, 11] false []]), (10, [.autoB [0, 23, 24] false []])]
abbrev qDU := EP Tryz.f124 0 ri nb
theorem qvi (k) : ∀ j, (∀ {y0 y1 y2 y3}, qDU 4 (qzD y0 y1 y2 y3) (qgn k j y0 y1 y2 y3)) ∧ (∀ {y0 y1 y2}, qDU 10 (qyq y0 y1 y2) (qdp k j y0 y1 y2))
 | 0 => by and_intros <;> intros <;> exact e0
 | j + 1 => by
  have ih := @qvi k j
  have g := @go (qD []) [] qwT [.autoB [2] true []]
  refine ⟨?_, ?_⟩
  ·intro y0 y1 y2 y3 r h
   rw [qgn] at h
   exact g (gS h (fun h => qS h fun h => qB h fun h => gD h 4 ih.1) fun h => gD h 10 ih.2)
  ·intro y0 y1 y2 r h
   rw [qdp] at h
   exact g (gS h (fun h => gN h Xo fun h => qB h fun h => gD h 10 ih.2) fun h => gL h)
theorem qLp (k a r) (h : ql9 k a = some r): qEE a r := qN Tryz.f124 (go (qD []) [] qwT [.autoB [2] true []] (qB h fun h => gD h 4 (qvi k k).1))
theorem qJJ {k a} (h : (ql9 k a).isSome): qEE a (qlT k a) := qJ h (qLp k a)
end
end Go.AM
namespace Go.AM
open Go Go.Proofs
noncomputable section
end
end Go.AM
namespace Go.AM
open Go Go.Proofs
noncomputable section
abbrev qJb (a : List T2.T) (r : Int) : Prop := CC Tryz.prog 38 [ro T2 a] [] (ri r) (nb r)
def qGI := fun y0 y1 => (⟨qI 106 [(0, ro T2 y0), (3, ri y1)], []⟩ : St)
def qEB := fun y0 y1 => (⟨qI 106 [(0, ro T2 y0), (5, ri y1)], []⟩ : St)
mutual
def YH (k : Nat) : Nat → List T2.T → Int → Option Int
 | 0, _, _ => none
 | j + 1, y0, y1 =>
 bif y1 < y0.length then
 if (0 ≤ y1) ∧ (y1 < y0.length) then
 bif (decide ((y0.getD y1.toNat T2.dflt).1 < (0 : Int)) || decide ((y0.getD y1.toNat T2.dflt).1 ≥ (y0.getD y1.toNat T2.dflt).2.1) || decide ((y0.getD y1.toNat T2.dflt).2.1 > (17179869184 : Int))) then
 some 1
 else
 bif (decide ((y0.getD y1.toNat T2.dflt).2.2.1 < (1 : Int)) || decide ((y0.getD y1.toNat T2.dflt).2.2.1 > (3 : Int))) then
 some 17
 else
 bif (decide ((y0.getD y1.toNat T2.dflt).2.2.2.1 < (-1 : Int)) || decide ((y0.getD y1.toNat T2.dflt).2.2.2.1 ≥ (16 : Int))) then
 some 22
 else
 bif (decide ((y0.getD y1.toNat T2.dflt).2.2.2.2 < (0 : Int)) || decide ((y0.getD y1.toNat T2.dflt).2.2.2.2 > (2048 : Int))) then
 some 1
 else
 YH k j y0 (qa .i64 (y1 + 1))
 else none
 else
 VX k j y0 0
def VX (k : Nat) : Nat → List T2.T → Int → Option Int
 | 0, _, _ => none
 | j + 1, y0, y1 =>
 bif y1 < y0.length then
 if ((y1 == 0) = true → 0 ≤ y1) ∧ ((y1 == 0) = true → y1 < y0.length) ∧ ((y1 == 0 && (y0.getD y1.toNat T2.dflt).1 != (0 : Int)) = false → decide (y1 > 0) = true → 0 ≤ y1) ∧ ((y1 == 0 && (y0.getD y1.toNat T2.dflt).1 != (0 : Int)) = false → decide (y1 > 0) = true → y1 < y0.length) ∧ ((y1 == 0 && (y0.getD y1.toNat T2.dflt).1 != (0 : Int)) = false → decide (y1 > 0) = true → (0 : Int) ≤ qa .i64 (y1 - 1)) ∧ ((y1 == 0 && (y0.getD y1.toNat T2.dflt).1 != (0 : Int)) = false → decide (y1 > 0) = true → qa .i64 (y1 - 1) < (↑y0.length : Int)) ∧ ((y1 == 0 && (y0.getD y1.toNat T2.dflt).1 != (0 : Int)) = false → decide (y1 > 0) = true → ((y0.getD y1.toNat T2.dflt).1 != (y0.getD (qa .i64 (y1 - 1)).toNat T2.dflt).2.1) = false → 0 ≤ y1) ∧ ((y1 == 0 && (y0.getD y1.toNat T2.dflt).1 != (0 : Int)) = false → decide (y1 > 0) = true → ((y0.getD y1.toNat T2.dflt).1 != (y0.getD (qa .i64 (y1 - 1)).toNat T2.dflt).2.1) = false → y1 < y0.length) ∧ ((y1 == 0 && (y0.getD y1.toNat T2.dflt).1 != (0 : Int)) = false → decide (y1 > 0) = true → ((y0.getD y1.toNat T2.dflt).1 != (y0.getD (qa .i64 (y1 - 1)).toNat T2.dflt).2.1) = false → (0 : Int) ≤ qa .i64 (y1 - 1)) ∧ ((y1 == 0 && (y0.getD y1.toNat T2.dflt).1 != (0 : Int)) = false → decide (y1 > 0) = true → ((y0.getD y1.toNat T2.dflt).1 != (y0.getD (qa .i64 (y1 - 1)).toNat T2.dflt).2.1) = false → qa .i64 (y1 - 1) < (↑y0.length : Int)) then
 bif (y1 == 0 && (y0.getD y1.toNat T2.dflt).1 != (0 : Int) || decide (y1 > 0) && ((y0.getD y1.toNat T2.dflt).1 != (y0.getD (qa .i64 (y1 - 1)).toNat T2.dflt).2.1 || decide ((y0.getD y1.toNat T2.dflt).2.2.2.2 < (y0.getD (qa .i64 (y1 - 1)).toNat T2.dflt).2.2.2.2))) then
 some 9
 else
 VX k j y0 (qa .i64 (y1 + 1))
 else none
 else
 some 0
end
def qgE (k : Nat) (a : List T2.T) : Option Int :=
 bif (↑a.length : Int) > (512 : Int) then
 some 8
 else
 YH k k a 0
def qdh := fun k a => (qgE k a).getD 0
def qsE (k : Nat) : Ke := (38, mo 1, fun
 | [.r (.ro d b)], [] => (qE d T2 b).bind fun a => some (.one (ri (qdh k a), []))
 | _, _ => none)
def qzN : List (Nat × List Cmd) := [(4, [.autoB [0, 3] false []]), (16, [.autoB [0, 5] false []])]
abbrev qIl := EP Tryz.f38 0 ri nb
theorem qAB (k) : ∀ j, (∀ {y0 y1}, qIl 4 (qGI y0 y1) (YH k j y0 y1)) ∧ (∀ {y0 y1}, qIl 16 (qEB y0 y1) (VX k j y0 y1))
 | 0 => by and_intros <;> intros <;> exact e0
 | j + 1 => by
  have ih := @qAB k j
  have g := @go (qD []) [] qzN [.autoB [2] true []]
  refine ⟨?_, ?_⟩
  ·intro y0 y1 r h
   rw [YH] at h
   exact g (gS h (fun h => qS h fun h => qB h fun h => qB h fun h => qB h fun h => qB h fun h => gD h 4 ih.1) fun h => gD h 16 ih.2)
  ·intro y0 y1 r h
   rw [VX] at h
   exact g (gS h (fun h => gN h (fun q => qf q.1 (qf q.2.1 (qf q.2.2.1 (qf q.2.2.2.1 (qf q.2.2.2.2.1 (qf q.2.2.2.2.2.1 (qf q.2.2.2.2.2.2.1 (qf q.2.2.2.2.2.2.2.1 (qf q.2.2.2.2.2.2.2.2.1 (qf q.2.2.2.2.2.2.2.2.2 qR)))))))))) fun h => qB h fun h => gD h 16 ih.2) fun h => gL h)
theorem qQf (k a r) (h : qgE k a = some r): qJb a r := qN Tryz.f38 (go (qD []) [] qzN [.autoB [2] true []] (qB h fun h => gD h 4 (qAB k k).1))
theorem qBb {k a} (h : (qgE k a).isSome): qJb a (qdh k a) := qJ h (qQf k a)
end
end Go.AM
namespace Go.AM
open Go Go.Proofs
noncomputable section
abbrev qeY : Type := List T21.T × List T21.T
def qlw (r : qeY) : AV := .tup []
def qoY (a : List I.T) (b : Int) (d : List T21.T) (e : List T21.T) (f : List T2.T) (r : qeY) : List (Nat × Blk) := [(0, .loop .ready none (qgC Tryz.f81 11 [91]) (qI 66 [(4, .ptr 1 0 0), (5, .ptr 2 0 0), (11, .ptr 3 0 0), (12, .ptr 5 0 0)])), (0, .var 25 [ro I a]), (0, .var 3 [ri b]), (0, .var 92 [.own 4 1]), (1, .row 91 T21 r.1), (0, .var 92 [.own 6 1]), (1, .row 91 T21 r.2), (0, .var 24 [ro T2 f])]
abbrev qAx (a : List I.T) (b : Int) (d : List T21.T) (e : List T21.T) (f : List T2.T) (r : qeY) : Prop := CC Tryz.prog 172 [.own 0 0, .ptr 7 0 0] [.loop .ready none (qgC Tryz.f81 11 [91]) (qI 66 [(4, .ptr 1 0 0), (5, .ptr 2 0 0), (11, .ptr 3 0 0), (12, .ptr 5 0 0)]), .var 25 [ro I a], .var 3 [ri b], .var 92 [.own 4 0], .row 91 T21 d, .var 92 [.own 6 0], .row 91 T21 e, .var 24 [ro T2 f]] (qlw r) (qoY a b d e f r)
def qCN := fun a b (d : List T21.T) (e : List T21.T) f y0 y1 y2 => (⟨qI 61 [(0, .own 0 0), (1, .ptr 7 0 0), (3, ri y0)], [(0, 0, .loop .ready none (qgC Tryz.f81 11 [91]) (qI 66 [(4, .ptr 1 0 0), (5, .ptr 2 0 0), (11, .ptr 3 0 0), (12, .ptr 5 0 0)])), (1, 0, .var 25 [ro I a]), (2, 0, .var 3 [ri b]), (3, 0, .var 92 [.own 4 1]), (4, 1, .row 91 T21 y1), (5, 0, .var 92 [.own 6 1]), (6, 1, .row 91 T21 y2), (7, 0, .var 24 [ro T2 f])]⟩ : St)
def qCk := fun a b (d : List T21.T) (e : List T21.T) f y0 y1 y2 y3 => (⟨qI 61 [(0, .own 0 0), (1, .ptr 7 0 0), (3, ri y0), (4, ri y1)], [(0, 0, .loop .ready none (qgC Tryz.f81 11 [91]) (qI 66 [(4, .ptr 1 0 0), (5, .ptr 2 0 0), (11, .ptr 3 0 0), (12, .ptr 5 0 0)])), (1, 0, .var 25 [ro I a]), (2, 0, .var 3 [ri b]), (3, 0, .var 92 [.own 4 1]), (4, 1, .row 91 T21 y2), (5, 0, .var 92 [.own 6 1]), (6, 1, .row 91 T21 y3), (7, 0, .var 24 [ro T2 f])]⟩ : St)
mutual
def qch (k : Nat) (a : List I.T) (b : Int) (d : List T21.T) (e : List T21.T) (f : List T2.T) : Nat → Int → List T21.T → List T21.T → Option qeY
 | 0, _, _, _ => none
 | j + 1, y0, y1, y2 =>
 bif y0 < f.length then
 if (0 ≤ y0) ∧ (y0 < f.length) then
 bif ((f.getD y0.toNat T2.dflt).2.2.1 == (3 : Int)) then
 qch k a b d e f j (qa .i64 (y0 + 1)) y1 y2
 else
 qgq k a b d e f j y0 y0 y1 y2
 else none
 else
 some (y1, y2)
def qgq (k : Nat) (a : List I.T) (b : Int) (d : List T21.T) (e : List T21.T) (f : List T2.T) : Nat → Int → Int → List T21.T → List T21.T → Option qeY
 | 0, _, _, _, _ => none
 | j + 1, y0, y1, y2, y3 =>
 if (decide (y1 < f.length) = true → 0 ≤ y1) ∧ (decide (y1 < f.length) = true → y1 < f.length) ∧ ((decide (y1 < f.length) && (f.getD y1.toNat T2.dflt).2.2.1 != (3 : Int)) = true → 0 ≤ y1) ∧ ((decide (y1 < f.length) && (f.getD y1.toNat T2.dflt).2.2.1 != (3 : Int)) = true → y1 < f.length) ∧ ((decide (y1 < f.length) && (f.getD y1.toNat T2.dflt).2.2.1 != (3 : Int)) = true → 0 ≤ y0) ∧ ((decide (y1 < f.length) && (f.getD y1.toNat T2.dflt).2.2.1 != (3 : Int)) = true → y0 < f.length) then
 bif (decide (y1 < f.length) && (f.getD y1.toNat T2.dflt).2.2.1 != (3 : Int) && (f.getD y1.toNat T2.dflt).2.2.2.2 == (f.getD y0.toNat T2.dflt).2.2.2.2) then
 qgq k a b d e f j y0 (qa .i64 (y1 + 1)) y2 y3
 else
 if (0 ≤ y0) ∧ (y0 < f.length) ∧ ((0 : Int) ≤ qa .i64 (y1 - 1)) ∧ (qa .i64 (y1 - 1) < (↑f.length : Int)) ∧ ((qtR k a b y2 y3 ((f.getD y0.toNat T2.dflt).1, (f.getD (qa .i64 (y1 - 1)).toNat T2.dflt).2.1)).isSome) then
 qch k a b d e f j y1 ((qlu k a b y2 y3 ((f.getD y0.toNat T2.dflt).1, (f.getD (qa .i64 (y1 - 1)).toNat T2.dflt).2.1)).1) ((qlu k a b y2 y3 ((f.getD y0.toNat T2.dflt).1, (f.getD (qa .i64 (y1 - 1)).toNat T2.dflt).2.1)).2)
 else none
 else none
end
def qmW (k : Nat) (a : List I.T) (b : Int) (d : List T21.T) (e : List T21.T) (f : List T2.T) : Option qeY :=
 qch k a b d e f k 0 d e
def qhP := fun k a b d e f => (qmW k a b d e f).getD ([], [])
def qJY (k : Nat) : Ke := (172, fun
 | [.own _ _, .ptr _ _ _] => some [true, true]
 | _ => none, fun
 | [.own 0 0, .ptr 7 0 0], [.loop _ _ _ i, .var 25 [.r (.ro tyield_40_ qyield_40)], .var 3 [.r (.v (.int .i64 b))], .var 92 [.own 4 0], .row 91 tyield_110_ qyield_110, .var 92 [.own 6 0], .row 91 tyield_120_ qyield_120, .var 24 [.r (.ro tz00_ qz00)]] => (qE tyield_40_ I qyield_40).bind fun a => (qE tyield_110_ T21 qyield_110).bind fun d => (qE tyield_120_ T21 qyield_120).bind fun e => (qE tz00_ T2 qz00).bind fun f => some (.one (qlw (qhP k a b d e f), qoY a b d e f (qhP k a b d e f)))
 | _, _ => none)
def qv4 : List (Nat × List Cmd) := [(1, [.autoB [0, 1, 3] false [4, 6]]), (5, [.autoB [0, 1, 3, 4] false [4, 6]])]
abbrev qBH := fun a b d e f => EP Tryz.f172 8 qlw (qoY a b d e f)
theorem qwx (k a b d e f) : ∀ j, (∀ {y0 y1 y2}, qBH a b d e f 1 (qCN a b d e f y0 y1 y2) (qch k a b d e f j y0 y1 y2)) ∧ (∀ {y0 y1 y2 y3}, qBH a b d e f 5 (qCk a b d e f y0 y1 y2 y3) (qgq k a b d e f j y0 y1 y2 y3))
 | 0 => by and_intros <;> intros <;> exact e0
 | j + 1 => by
  have ih := @qwx k a b d e f j
  have g := @go (qD [qIG k]) [] qv4 [.autoB [] true [4, 6]]
  refine ⟨?_, ?_⟩
  ·intro y0 y1 y2 r h
   rw [qch] at h
   exact g (gS h (fun h => qS h fun h => gS h (fun h => gD h 1 ih.1) fun h => gD h 5 ih.2) fun h => gL h)
  ·intro y0 y1 y2 y3 r h
   rw [qgq] at h
   exact g (gN h (fun q => qf q.1 (qf q.2.1 (qf q.2.2.1 (qf q.2.2.2.1 (qf q.2.2.2.2.1 (qf q.2.2.2.2.2 qR)))))) fun h => gS h (fun h => gD h 5 ih.2) fun h => gN h (fun q => qf q.1 (qf q.2.1 (qf q.2.2.1 (qf q.2.2.2.1 (qf (qRQ q.2.2.2.2) qR))))) fun h => gU2 h (.leaf (.tup []) [(0, .loop .ready none (qgC Tryz.f81 11 [91]) (qI 66 [(4, .ptr 1 0 0), (5, .ptr 2 0 0), (11, .ptr 3 0 0), (12, .ptr 5 0 0)])), (0, .var 25 [.r (.ro I a)]), (0, .var 3 [.r (.v (.int .i64 b))]), (0, .var 92 [.own 4 1]), (1, .row 91 T21 ((qlu k a b y2 y3 ((f.getD y0.toNat T2.dflt).1, (f.getD (qa .i64 (y1 - 1)).toNat T2.dflt).2.1)).1)), (0, .var 92 [.own 6 1]), (1, .row 91 T21 ((qlu k a b y2 y3 ((f.getD y0.toNat T2.dflt).1, (f.getD (qa .i64 (y1 - 1)).toNat T2.dflt).2.1)).2)), (0, .var 24 [.r (.ro T2 f)])]) fun h => gD h 1 ih.1)
theorem qJK (k a b d e f r) (h : qmW k a b d e f = some r): qAx a b d e f r := qN Tryz.f172 (go (qD [qIG k]) [] qv4 [.autoB [] true [4, 6]] (gD h 1 (qwx k a b d e f k).1))
theorem qMN {k a b d e f} (h : (qmW k a b d e f).isSome): qAx a b d e f (qhP k a b d e f) := qJ h (qJK k a b d e f)
abbrev qB8 (a : T2.T) (r : Int) : Prop := CC Tryz.prog 123 [.agg (qy (qr T2 a))] [] (ri r) (nb r)
def qe1 (k : Nat) (a : T2.T) : Option Int :=
 bif (decide (a.1 < (0 : Int)) || decide (a.1 ≥ a.2.1) || decide (a.2.1 > (17179869184 : Int))) then
 some 1
 else
 bif (decide (a.2.2.1 < (1 : Int)) || decide (a.2.2.1 > (3 : Int))) then
 some 17
 else
 bif (decide (a.2.2.2.1 < (-1 : Int)) || decide (a.2.2.2.1 ≥ (16 : Int))) then
 some 22
 else
 bif (decide (a.2.2.2.2 < (0 : Int)) || decide (a.2.2.2.2 > (2048 : Int))) then
 some 1
 else
 some 0
def qem := fun k a => (qe1 k a).getD 0
def qw1 (k : Nat) : Ke := (123, mo 1, fun
 | [.agg b], [] => (qW [] T2 b).bind fun a => some (.one (ri (qem k a), []))
 | _, _ => none)
theorem qK2 (k a r) (h : qe1 k a = some r): qB8 a r := qN Tryz.f123 (go (qD []) [] [] [.autoB [2] true []] (qB h fun h => qB h fun h => qB h fun h => qB h fun h => gL h))
theorem qJA {k a} (h : (qe1 k a).isSome): qB8 a (qem k a) := qJ h (qK2 k a)
abbrev qEL (a : List T2.T) (r : Int) : Prop := CC Tryz.prog 79 [ro T2 a] [] (ri r) (nb r)
def qCg := fun y0 y1 y2 y3 => (⟨qI 46 [(0, ro T2 y0), (13, ro T2 y1), (14, ri y2), (15, ri y3)], []⟩ : St)
def qxF := fun y0 y1 y2 y3 y4 => (⟨qI 46 [(6, ri y0), (7, ri y1), (25, ro T2 y2), (26, ri y3), (27, ri y4)], []⟩ : St)
mutual
def V1 (k : Nat) : Nat → List T2.T → List T2.T → Int → Int → Option Int
 | 0, _, _, _, _ => none
 | j + 1, y0, y1, y2, y3 =>
 bif y3 < y2 then
 if (0 ≤ y3) ∧ (y3 < y1.length) then
 if ((qe1 k (y1.getD y3.toNat T2.dflt)).isSome) then
 bif (qem k (y1.getD y3.toNat T2.dflt) != (0 : Int)) then
 some (qem k (y1.getD y3.toNat T2.dflt))
 else
 V1 k j y0 y1 y2 (qa .i64 (y3 + 1))
 else none
 else none
 else
 ZR k j 0 0 y0 (↑y0.length : Int) 0
def ZR (k : Nat) : Nat → Int → Int → List T2.T → Int → Int → Option Int
 | 0, _, _, _, _, _ => none
 | j + 1, y0, y1, y2, y3, y4 =>
 bif y4 < y3 then
 if (0 ≤ y4) ∧ (y4 < y2.length) then
 bif ((y2.getD y4.toNat T2.dflt).1 != y0 || decide ((y2.getD y4.toNat T2.dflt).2.2.2.2 < y1)) then
 some 9
 else
 ZR k j ((y2.getD y4.toNat T2.dflt).2.1) ((y2.getD y4.toNat T2.dflt).2.2.2.2) y2 y3 (qa .i64 (y4 + 1))
 else none
 else
 some 0
end
def X3 (k : Nat) (a : List T2.T) : Option Int :=
 bif (↑a.length : Int) > (512 : Int) then
 some 8
 else
 V1 k k a a (↑a.length : Int) 0
def QJ := fun k a => (X3 k a).getD 0
def qex (k : Nat) : Ke := (79, mo 1, fun
 | [.r (.ro d b)], [] => (qE d T2 b).bind fun a => some (.one (ri (QJ k a), []))
 | _, _ => none)
def qxt : List (Nat × List Cmd) := [(4, [.autoB [0, 13, 14, 15] false []]), (12, [.autoB [6, 7, 25, 26, 27] false []])]
abbrev qCL := EP Tryz.f79 0 ri nb
theorem qw9 (k) : ∀ j, (∀ {y0 y1 y2 y3}, qCL 4 (qCg y0 y1 y2 y3) (V1 k j y0 y1 y2 y3)) ∧ (∀ {y0 y1 y2 y3 y4}, qCL 12 (qxF y0 y1 y2 y3 y4) (ZR k j y0 y1 y2 y3 y4))
 | 0 => by and_intros <;> intros <;> exact e0
 | j + 1 => by
  have ih := @qw9 k j
  have g := @go (qD [qw1 k]) [] qxt [.autoB [2] true []]
  refine ⟨?_, ?_⟩
  ·intro y0 y1 y2 y3 r h
   rw [V1] at h
   exact g (gS h (fun h => qS h fun h => qu h qJA fun h => qB h fun h => gD h 4 ih.1) fun h => gD h 12 ih.2)
  ·intro y0 y1 y2 y3 y4 r h
   rw [ZR] at h
   exact g (gS h (fun h => qS h fun h => qB h fun h => gD h 12 ih.2) fun h => gL h)
theorem qKH (k a r) (h : X3 k a = some r): qEL a r := qN Tryz.f79 (go (qD [qw1 k]) [] qxt [.autoB [2] true []] (qB h fun h => gD h 4 (qw9 k k).1))
theorem qji {k a} (h : (X3 k a).isSome): qEL a (QJ k a) := qJ h (qKH k a)
abbrev qnc : Type := List T2.T × Int
def qlC (r : qnc) : AV := .tup [ro T2 r.1, ri r.2]
abbrev qCB (a : List T2.T) (b : T21.T) (r : qnc) : Prop := CC Tryz.prog 80 [ro T2 a, .agg (qy (qr T21 b))] [] (qlC r) (nb r)
def qyF := fun y0 y1 y2 y3 y4 => (⟨qI 77 [(3, .ptr 1000000 0 0), (8, .own 1000001 0), (42, ro T2 y0), (43, ri y1), (44, ri y2)], [(1000000, 0, .var 91 (qy (qr T21 y3))), (1000001, 0, .row 87 T2 y4)]⟩ : St)
def QL (k : Nat) : Nat → List T2.T → Int → Int → T21.T → List T2.T → Option qnc
 | 0, _, _, _, _, _ => none
 | j + 1, y0, y1, y2, y3, y4 =>
 bif y2 < y1 then
 if (0 ≤ y2) ∧ (y2 < y0.length) then
 bif qa .i64 ((if y3.1 > (y0.getD y2.toNat T2.dflt).1 then y3.1 else (y0.getD y2.toNat T2.dflt).1) - y3.1) < qa .i64 ((if y3.2 < (y0.getD y2.toNat T2.dflt).2.1 then y3.2 else (y0.getD y2.toNat T2.dflt).2.1) - y3.1) then
 if ((y4.length + [(qa .i64 ((if y3.1 > (y0.getD y2.toNat T2.dflt).1 then y3.1 else (y0.getD y2.toNat T2.dflt).1) - y3.1), qa .i64 ((if y3.2 < (y0.getD y2.toNat T2.dflt).2.1 then y3.2 else (y0.getD y2.toNat T2.dflt).2.1) - y3.1), (y0.getD y2.toNat T2.dflt).2.2)].length) * (40 : Nat) ≤ (140737488355328 : Nat)) then
 QL k j y0 y1 (qa .i64 (y2 + 1)) y3 (y4 ++ [(qa .i64 ((if y3.1 > (y0.getD y2.toNat T2.dflt).1 then y3.1 else (y0.getD y2.toNat T2.dflt).1) - y3.1), qa .i64 ((if y3.2 < (y0.getD y2.toNat T2.dflt).2.1 then y3.2 else (y0.getD y2.toNat T2.dflt).2.1) - y3.1), (y0.getD y2.toNat T2.dflt).2.2)])
 else none
 else
 QL k j y0 y1 (qa .i64 (y2 + 1)) y3 y4
 else none
 else
 some (y4, 0)
def qas (k : Nat) (a : List T2.T) (b : T21.T) : Option qnc :=
 if ((X3 k a).isSome) then
 bif (QJ k a != (0 : Int)) then
 some ([], QJ k a)
 else
 bif (↑a.length : Int) > (0 : Int) then
 if ((0 : Int) ≤ qa .i64 ((↑a.length : Int) - (1 : Int))) ∧ (qa .i64 ((↑a.length : Int) - (1 : Int)) < (↑a.length : Int)) then
 bif (decide (b.1 < (0 : Int)) || decide (b.1 > b.2) || decide (b.2 > (a.getD (qa .i64 ((↑a.length : Int) - (1 : Int))).toNat T2.dflt).2.1)) then
 some ([], 1)
 else
 QL k k a (↑a.length : Int) 0 b ([])
 else none
 else
 bif (decide (b.1 < (0 : Int)) || decide (b.1 > b.2) || decide (b.2 > (0 : Int))) then
 some ([], 1)
 else
 QL k k a (↑a.length : Int) 0 b ([])
 else none
def wX := fun k a b => (qas k a b).getD ([], 0)
def qn0 (k : Nat) : Ke := (80, mo 2, fun
 | [.r (.ro f d), .agg e], [] => (qE f T2 d).bind fun a => (qW [] T21 e).bind fun b => some (.one (qlC (wX k a b), []))
 | _, _ => none)
def qvf : List (Nat × List Cmd) := [(11, [.row 8 87 T2, .autoB [3, 8, 42, 43, 44] false []])]
abbrev qOe := EP Tryz.f80 0 qlC nb
theorem qoO (k) : ∀ j, (∀ y0 y1 y2 y3 y4, qOe 11 (qyF y0 y1 y2 y3 y4) (QL k j y0 y1 y2 y3 y4))
 | 0 => by intros; exact e0
 | j + 1 => by
  have ih := @qoO k j
  ·intro y0 y1 y2 y3 y4 r h
   rw [QL] at h
   exact go (qD [qex k]) [] qvf [.frz 4 false (RTy.list T2), .autoB [4, 5] true []] (gS h (fun h => qS h fun h => gS h (fun h => qu h id fun h => gC h 11 (ih _ _ _ _ _ _)) fun h => gC h 11 (ih _ _ _ _ _ _)) fun h => gL h)
theorem qJ1 (k a b r) (h : qas k a b = some r): qCB a b r := qN Tryz.f80 (go (qD [qex k]) [] qvf [.frz 4 false (RTy.list T2), .autoB [4, 5] true []] (qu h qji fun h => qB h fun h => gS h (fun h => qS h fun h => qB h fun h => gC h 11 ((qoO k k) _ _ _ _ _ _)) fun h => qB h fun h => gC h 11 ((qoO k k) _ _ _ _ _ _)))
theorem qpb {k a b} (h : (qas k a b).isSome): qCB a b (wX k a b) := qJ h (qJ1 k a b)
abbrev qAp (a : List T2.T) (r : Int) : Prop := CC Tryz.prog 83 [ro T2 a] [] (ri r) (nb r)
def qeN (k : Nat) (a : List T2.T) : Option Int :=
 bif ((↑a.length : Int) == (0 : Int)) then
 some 0
 else
 if ((0 : Int) ≤ qa .i64 ((↑a.length : Int) - (1 : Int))) ∧ (qa .i64 ((↑a.length : Int) - (1 : Int)) < (↑a.length : Int)) then
 some ((a.getD (qa .i64 ((↑a.length : Int) - 1)).toNat T2.dflt).2.1)
 else none
def qh3 := fun k a => (qeN k a).getD 0
def qw5 (k : Nat) : Ke := (83, mo 1, fun
 | [.r (.ro d b)], [] => (qE d T2 b).bind fun a => some (.one (ri (qh3 k a), []))
 | _, _ => none)
theorem qMO (k a r) (h : qeN k a = some r): qAp a r := qN Tryz.f83 (go (qD []) [] [] [.autoB [2] true []] (qB h fun h => qS h fun h => gL h))
theorem qJN {k a} (h : (qeN k a).isSome): qAp a (qh3 k a) := qJ h (qMO k a)
abbrev qmr : Type := List T2.T × Int
def qlm (r : qmr) : AV := .tup [ro T2 r.1, ri r.2]
abbrev qEp (a : List T2.T) (b : T21.T) (r : qmr) : Prop := CC Tryz.prog 39 [ro T2 a, .agg (qy (qr T21 b))] [] (qlm r) (nb r)
def qBa := fun y0 y1 y2 y3 => (⟨qI 75 [(0, ro T2 y0), (3, .ptr 1000000 0 0), (7, .own 1000001 0), (8, ri y1)], [(1000000, 0, .var 91 (qy (qr T21 y2))), (1000001, 0, .row 87 T2 y3)]⟩ : St)
def Zs (k : Nat) : Nat → List T2.T → Int → T21.T → List T2.T → Option qmr
 | 0, _, _, _, _ => none
 | j + 1, y0, y1, y2, y3 =>
 bif y1 < y0.length then
 if (0 ≤ y1) ∧ (y1 < y0.length) then
 bif qa .i64 ((if y2.1 > (y0.getD y1.toNat T2.dflt).1 then y2.1 else (y0.getD y1.toNat T2.dflt).1) - y2.1) < qa .i64 ((if y2.2 < (y0.getD y1.toNat T2.dflt).2.1 then y2.2 else (y0.getD y1.toNat T2.dflt).2.1) - y2.1) then
 if ((y3.length + [(qa .i64 ((if y2.1 > (y0.getD y1.toNat T2.dflt).1 then y2.1 else (y0.getD y1.toNat T2.dflt).1) - y2.1), qa .i64 ((if y2.2 < (y0.getD y1.toNat T2.dflt).2.1 then y2.2 else (y0.getD y1.toNat T2.dflt).2.1) - y2.1), (y0.getD y1.toNat T2.dflt).2.2)].length) * (40 : Nat) ≤ (140737488355328 : Nat)) then
 Zs k j y0 (qa .i64 (y1 + 1)) y2 (y3 ++ [(qa .i64 ((if y2.1 > (y0.getD y1.toNat T2.dflt).1 then y2.1 else (y0.getD y1.toNat T2.dflt).1) - y2.1), qa .i64 ((if y2.2 < (y0.getD y1.toNat T2.dflt).2.1 then y2.2 else (y0.getD y1.toNat T2.dflt).2.1) - y2.1), (y0.getD y1.toNat T2.dflt).2.2)])
 else none
 else
 Zs k j y0 (qa .i64 (y1 + 1)) y2 y3
 else none
 else
 some (y3, 0)
def qey (k : Nat) (a : List T2.T) (b : T21.T) : Option qmr :=
 if ((qgE k a).isSome) then
 bif (qdh k a != (0 : Int)) then
 some ([], qdh k a)
 else
 bif (decide (b.1 < (0 : Int)) || decide (b.1 > b.2) || decide (b.2 > (17179869184 : Int))) then
 if ((decide (b.1 < (0 : Int)) || decide (b.1 > b.2) || decide (b.2 > (17179869184 : Int))) = true) then
 some ([], 1)
 else none
 else
 if ((decide (b.1 < (0 : Int)) || decide (b.1 > b.2) || decide (b.2 > (17179869184 : Int))) = false) ∧ ((qeN k a).isSome) then
 bif (false || decide (b.2 > qh3 k a)) then
 some ([], 1)
 else
 Zs k k a 0 b ([])
 else none
 else none
def Vy := fun k a b => (qey k a b).getD ([], 0)
def qvt (k : Nat) : Ke := (39, mo 2, fun
 | [.r (.ro f d), .agg e], [] => (qE f T2 d).bind fun a => (qW [] T21 e).bind fun b => some (.one (qlm (Vy k a b), []))
 | _, _ => none)
def qw0 : List (Nat × List Cmd) := [(8, [.row 7 87 T2, .autoB [0, 3, 7, 8] false []])]
abbrev qQ7 := EE Tryz.f39 0 qlm nb
theorem qxf (k) : ∀ j, (∀ y0 y1 y2 y3, qQ7 (Qc Tryz.f39 8) (qBa y0 y1 y2 y3) (Zs k j y0 y1 y2 y3))
 | 0 => by intros; exact e0
 | j + 1 => by
  have ih := @qxf k j
  ·intro y0 y1 y2 y3 r h
   rw [Zs] at h
   exact go (qD [qsE k, qw5 k]) [] qw0 [.frz 4 false (RTy.list T2), .autoB [4, 5] true []] (gS h (fun h => qS h fun h => gS h (fun h => qu h id fun h => gC h 8 (ih _ _ _ _ _)) fun h => gC h 8 (ih _ _ _ _ _)) fun h => gL h)
theorem qKh (k a b r) (h : qey k a b = some r): qEp a b r := qN Tryz.f39 (go (qD [qsE k, qw5 k]) [] qw0 [.frz 4 false (RTy.list T2), .autoB [4, 5] true []] (qu h qBb fun h => qB h fun h => gS h (fun h => qu h id fun h => gU1 h (.cut 8 (Qc Tryz.f39 8) ⟨qI 75 [(0, .r (.ro T2 a)), (3, .ptr 1000000 0 0), (7, .own 1000001 0), (8, .r (.v (.int .i64 0)))], [(1000000, 0, .var 91 (qy (qr T21 b))), (1000001, 0, .row 87 T2 ([]))]⟩) fun h => gL h) fun h => gN h (fun q => qf q.1 (qf (qJN q.2) qR)) fun h => qB h fun h => gC h 8 ((qxf k k) _ _ _ _ _)))
theorem qM9 {k a b} (h : (qey k a b).isSome): qEp a b (Vy k a b) := qJ h (qKh k a b)
end
abbrev wE := Int × Int × Int × Int × Int   -- From, To, Kind, Grade, Phase
def Qf (s : wE) : Int :=
 bif (decide (s.1 < (0 : Int)) || decide (s.1 ≥ s.2.1) || decide (s.2.1 > (17179869184 : Int))) then 1
 else bif (decide (s.2.2.1 < (1 : Int)) || decide (s.2.2.1 > (3 : Int))) then 17
 else bif (decide (s.2.2.2.1 < (-1 : Int)) || decide (s.2.2.2.1 ≥ (16 : Int))) then 22
 else bif (decide (s.2.2.2.2 < (0 : Int)) || decide (s.2.2.2.2 > (2048 : Int))) then 1 else 0
def Za : List wE → Int
 | [] => 0
 | x :: t => bif Qf x != 0 then Qf x else Za t
def ZS (e p : Int) : List wE → Int
 | [] => 0
 | x :: t => bif (x.1 != e || decide (x.2.2.2.2 < p)) then 9 else ZS x.2.1 x.2.2.2.2 t
def vt (l : List wE) : Int := if l.length > 512 then 8 else if Za l ≠ 0 then Za l else ZS 0 0 l
theorem qm1 (k : Nat) (s : wE) : qe1 k s = some (Qf s) := by
 unfold qe1 Qf
 cases (decide (s.1 < (0 : Int)) || decide (s.1 ≥ s.2.1) || decide (s.2.1 > (17179869184 : Int)))
 ·cases (decide (s.2.2.1 < (1 : Int)) || decide (s.2.2.1 > (3 : Int)))
  ·cases (decide (s.2.2.2.1 < (-1 : Int)) || decide (s.2.2.2.1 ≥ (16 : Int)))
   ·cases (decide (s.2.2.2.2 < (0 : Int)) || decide (s.2.2.2.2 > (2048 : Int))) <;> rfl
   ·rfl
  ·rfl
 ·rfl
theorem qyi (k : Nat) (s : wE) : qem k s = Qf s := by unfold qem; rw [qm1]; rfl
structure SecOk (s : wE) : Prop where
 f : 0 ≤ s.1
 ft : s.1 < s.2.1
 t : s.2.1 ≤ 17179869184
 p : 0 ≤ s.2.2.2.2
theorem qj8 {s : wE} (h : Qf s = 0) : SecOk s := by
 unfold Qf at h
 cases h1 : (decide (s.1 < (0 : Int)) || decide (s.1 ≥ s.2.1) || decide (s.2.1 > (17179869184 : Int)))
 ·rw [h1, qg] at h
  cases h2 : (decide (s.2.2.1 < (1 : Int)) || decide (s.2.2.1 > (3 : Int)))
  ·rw [h2, qg] at h
   cases h3 : (decide (s.2.2.2.1 < (-1 : Int)) || decide (s.2.2.2.1 ≥ (16 : Int)))
   ·rw [h3, qg] at h
    cases h4 : (decide (s.2.2.2.2 < (0 : Int)) || decide (s.2.2.2.2 > (2048 : Int)))
    ·simp only [WN, decide_eq_false_iff_not] at h1 h4
     exact ⟨by omega, by omega, by omega, by omega⟩
    ·rw [h4] at h; cases h
   ·rw [h3] at h; cases h
  ·rw [h2] at h; cases h
 ·rw [h1] at h; cases h
theorem qmL : ∀ {l : List wE}, Za l = 0 → ∀ x ∈ l, SecOk x
 | [], _, x, hx => by simp at hx
 | y :: t, h, x, hx => by
  unfold Za at h
  by_cases h1 : Qf y = 0
  ·rw [show (Qf y != 0) = false by simp [h1], qg] at h
   rcases qK.1 hx with e | hx'
   ·rw [e]; exact qj8 h1
   ·exact qmL h x hx'
  ·rw [bne_iff_ne.2 h1, qi] at h; exact absurd h h1
theorem qMl (k : Nat) (l : List wE) (hl : l.length ≤ 512) : ∀ (d i j : Nat) (e p : Int), i + d = l.length → d < j → ZR k j e p l (l.length : Int) (i : Int) = some (ZS e p (l.drop i)) := by
 intro d
 induction d with
 | zero =>
  intro i j e p hi hj
  obtain ⟨j, rfl⟩ := qQ (by omega : 0 < j)
  rw [ZR, qx (by omega : ¬ (i : Int) < (l.length : Int)), qg, qh (by omega)]; rfl
 | succ d ih =>
  intro i j e p hi hj
  obtain ⟨j, rfl⟩ := qQ (by omega : 0 < j)
  rw [ZR, qA (by omega : (i : Int) < (l.length : Int)), qi, qd ⟨by omega, by omega⟩, qc, qF i (by omega), qq l i T2.dflt (by omega), ZS, ih (i + 1) j _ _ (by omega) (by omega)]
  cases ((l.getD i T2.dflt).1 != e || decide ((l.getD i T2.dflt).2.2.2.2 < p)) <;> rfl
theorem qQR (k : Nat) (l : List wE) (hl : l.length ≤ 512) : ∀ (d i j : Nat), i + d = l.length → d + 600 < j → V1 k j l l (l.length : Int) (i : Int) = some (if Za (l.drop i) ≠ 0 then Za (l.drop i) else ZS 0 0 l) := by
 intro d
 induction d with
 | zero =>
  intro i j hi hj
  obtain ⟨j, rfl⟩ := qQ (by omega : 0 < j)
  rw [V1, qx (by omega : ¬ (i : Int) < (l.length : Int)), qg, qh (by omega), Za, qm (fun h => h rfl)]
  exact qMl k l hl l.length 0 j 0 0 (by omega) (by omega)
 | succ d ih =>
  intro i j hi hj
  obtain ⟨j, rfl⟩ := qQ (by omega : 0 < j)
  rw [V1, qA (by omega : (i : Int) < (l.length : Int)), qi, qd ⟨by omega, by omega⟩, qc, qm1, qyi, qb, qd rfl, qF i (by omega), qq l i T2.dflt (by omega), Za, ih (i + 1) j (by omega) (by omega)]
  by_cases h : Qf (l.getD i T2.dflt) = 0
  ·rw [show (Qf (l.getD i T2.dflt) != 0) = false by rw [h]; rfl, qg, qg]
  ·rw [bne_iff_ne.2 h, qi, qi, qd h]
theorem qb0 (k : Nat) (hk : 1200 ≤ k) (l : List wE) : X3 k l = some (vt l) := by
 unfold X3 vt
 by_cases h : l.length > 512
 ·rw [qd h, qA (by omega : (l.length : Int) > 512)]; rfl
 ·rw [qm h, qx (by omega : ¬ (l.length : Int) > 512), qg]
  exact qQR k l (by omega) l.length 0 k (by omega) (by omega)
theorem qhA (k : Nat) (hk : 1200 ≤ k) (l : List wE) : QJ k l = vt l := by
 unfold QJ; rw [qb0 k hk]; rfl
def qov (l : List wE) (i : Nat) : Int := if i = 0 then 0 else (l.getD (i - 1) T2.dflt).2.1
def qo5 (l : List wE) (i : Nat) : Int := if i = 0 then 0 else (l.getD (i - 1) T2.dflt).2.2.2.2
theorem qGr (k : Nat) (l : List wE) (hl : l.length ≤ 512) (ho : ∀ x ∈ l, SecOk x) : ∀ (d i j : Nat), i + d = l.length → d < j → VX k j l (i : Int) = some (ZS (qov l i) (qo5 l i) (l.drop i)) := by
 intro d
 induction d with
 | zero =>
  intro i j hi hj
  obtain ⟨j, rfl⟩ := qQ (by omega : 0 < j)
  rw [VX, qx (by omega : ¬ (i : Int) < (l.length : Int)), qg, qh (by omega)]; rfl
 | succ d ih =>
  intro i j hi hj
  obtain ⟨j, rfl⟩ := qQ (by omega : 0 < j)
  have h3 : (0 : Int) ≤ (i : Int) := by omega
  have h4 : (i : Int) < (l.length : Int) := by omega
  have hx := (ho (l.getD i T2.dflt) (Vg _ _ _ (by omega))).p
  have hw : (i : Int) > 0 → qa .i64 ((i : Int) - 1) = ((i - 1 : Nat) : Int) := fun h => by rw [qo (by omega) (by omega)]; omega
  have g1 : decide ((i : Int) > 0) = true → (0 : Int) ≤ qa .i64 ((i : Int) - 1) := fun h => by rw [hw (of_decide_eq_true h)]; omega
  have g2 : decide ((i : Int) > 0) = true → qa .i64 ((i : Int) - 1) < (l.length : Int) := fun h => by rw [hw (of_decide_eq_true h)]; omega
  rw [VX, qA h4, qi, qc, qd ⟨fun _ => h3, fun _ => h4, fun _ _ => h3, fun _ _ => h4, fun _ h => g1 h, fun _ h => g2 h, fun _ _ _ => h3, fun _ _ _ => h4, fun _ h _ => g1 h, fun _ h _ => g2 h⟩, qF i (by omega), ih (i + 1) j (by omega) (by omega), qq l i T2.dflt (by omega), ZS]
  have e1 : qov l (i + 1) = (l.getD i T2.dflt).2.1 := by unfold qov; rw [qm (by omega), Nat.add_sub_cancel]
  have e2 : qo5 l (i + 1) = (l.getD i T2.dflt).2.2.2.2 := by unfold qo5; rw [qm (by omega), Nat.add_sub_cancel]
  rw [e1, e2]
  have hb : ((i : Int) == 0 && (l.getD i T2.dflt).1 != 0 || decide ((i : Int) > 0) && ((l.getD i T2.dflt).1 != (l.getD (qa .i64 ((i : Int) - 1)).toNat T2.dflt).2.1 || decide ((l.getD i T2.dflt).2.2.2.2 < (l.getD (qa .i64 ((i : Int) - 1)).toNat T2.dflt).2.2.2.2))) = ((l.getD i T2.dflt).1 != qov l i || decide ((l.getD i T2.dflt).2.2.2.2 < qo5 l i)) := by
   unfold qov qo5
   by_cases h : i = 0
   ·subst h
    rw [qd rfl, qd rfl, qx (by omega : ¬ (l.getD 0 T2.dflt).2.2.2.2 < 0)]
    show (true && _ || false && _) = _
    rw [ww, wD]
   ·have h' : (i : Int) > 0 := by omega
    rw [qm h, qm h, hw h', qc, qA h', ww, show ((i : Int) == 0) = false from beq_eq_false_iff_ne.2 (by omega), wD, zn]
  rw [hb]
  cases ((l.getD i T2.dflt).1 != qov l i || decide ((l.getD i T2.dflt).2.2.2.2 < qo5 l i)) <;> rfl
theorem qL7 (k : Nat) (l : List wE) (hl : l.length ≤ 512) : ∀ (d i j : Nat), i + d = l.length → d + 600 < j → (∀ x ∈ l.take i, SecOk x) → YH k j l (i : Int) = some (if Za (l.drop i) ≠ 0 then Za (l.drop i) else ZS 0 0 l) := by
 intro d
 induction d with
 | zero =>
  intro i j hi hj ho
  obtain ⟨j, rfl⟩ := qQ (by omega : 0 < j)
  rw [YH, qx (by omega : ¬ (i : Int) < (l.length : Int)), qg, qh (by omega), Za, qm (fun h => h rfl)]
  rw [wI (by omega)] at ho
  exact qGr k l hl ho l.length 0 j (by omega) (by omega)
 | succ d ih =>
  intro i j hi hj ho
  obtain ⟨j, rfl⟩ := qQ (by omega : 0 < j)
  rw [YH, qA (by omega : (i : Int) < (l.length : Int)), qi, qd ⟨by omega, by omega⟩, qc, qF i (by omega), qq l i T2.dflt (by omega), Za]
  have ht : l.take (i + 1) = l.take i ++ [l.getD i T2.dflt] := by
   rw [List.take_add_one, List.getD_eq_getElem?_getD]
   rw [List.getElem?_eq_getElem (by omega)]; rfl
  by_cases h : Qf (l.getD i T2.dflt) = 0
  ·rw [ih (i + 1) j (by omega) (by omega) (fun x hx => by
    rw [ht] at hx
    rcases zW.1 hx with hx | hx
    ·exact ho x hx
    ·rw [List.mem_singleton] at hx; rw [hx]; exact qj8 h)]
   rw [show (Qf (l.getD i T2.dflt) != 0) = false by rw [h]; rfl, qg]
   unfold Qf at h
   generalize l.getD i T2.dflt = s at *
   revert h
   cases (decide (s.1 < (0 : Int)) || decide (s.1 ≥ s.2.1) || decide (s.2.1 > (17179869184 : Int)))
   ·cases (decide (s.2.2.1 < (1 : Int)) || decide (s.2.2.1 > (3 : Int)))
    ·cases (decide (s.2.2.2.1 < (-1 : Int)) || decide (s.2.2.2.1 ≥ (16 : Int)))
     ·cases (decide (s.2.2.2.2 < (0 : Int)) || decide (s.2.2.2.2 > (2048 : Int)))
      ·intro _; rfl
      ·intro h; cases h
     ·intro h; cases h
    ·intro h; cases h
   ·intro h; cases h
  ·rw [bne_iff_ne.2 h, qi, qd h]
   unfold Qf at h ⊢
   generalize l.getD i T2.dflt = s at *
   revert h
   cases (decide (s.1 < (0 : Int)) || decide (s.1 ≥ s.2.1) || decide (s.2.1 > (17179869184 : Int)))
   ·cases (decide (s.2.2.1 < (1 : Int)) || decide (s.2.2.1 > (3 : Int)))
    ·cases (decide (s.2.2.2.1 < (-1 : Int)) || decide (s.2.2.2.1 ≥ (16 : Int)))
     ·cases (decide (s.2.2.2.2 < (0 : Int)) || decide (s.2.2.2.2 > (2048 : Int)))
      ·intro h; exact absurd rfl h
      ·intro _; rfl
     ·intro _; rfl
    ·intro _; rfl
   ·intro _; rfl
theorem qaR (k : Nat) (hk : 1200 ≤ k) (l : List wE) : qgE k l = some (vt l) := by
 unfold qgE vt
 by_cases h : l.length > 512
 ·rw [qd h, qA (by omega : (l.length : Int) > 512)]; rfl
 ·rw [qm h, qx (by omega : ¬ (l.length : Int) > 512), qg]
  exact qL7 k l (by omega) l.length 0 k (by omega) (by omega) (fun x hx => by simp at hx)
theorem qgY (k : Nat) (hk : 1200 ≤ k) (l : List wE) : qdh k l = vt l := by
 unfold qdh; rw [qaR k hk]; rfl
theorem Zw {l : List wE} (h : vt l = 0) : l.length ≤ 512 ∧ (∀ x ∈ l, SecOk x) ∧ ZS 0 0 l = 0 := by
 unfold vt at h
 by_cases h1 : l.length > 512
 ·rw [qd h1] at h; omega
 ·rw [qm h1] at h
  by_cases h2 : Za l = 0
  ·rw [qm (fun h => h h2)] at h
   exact ⟨by omega, qmL h2, h⟩
  ·rw [qd h2] at h; exact absurd h h2
def wT (l : List wE) : Int := if l.length = 0 then 0 else (l.getD (l.length - 1) T2.dflt).2.1
theorem qB1 (x : wE) {t : List wE} (h : t ≠ []) : wT (x :: t) = wT t := by
 obtain ⟨y, t, rfl⟩ : ∃ y u, t = y :: u := by
  cases t with
  | nil => exact absurd rfl h
  | cons y u => exact ⟨y, u, rfl⟩
 unfold wT
 rw [qm (by simp), qm (by simp)]
 rfl
theorem qDQ : ∀ (l : List wE) (e p z : Int), (∀ x ∈ l, SecOk x) → ZS e p l = 0 → l ≠ [] → e ≤ z → z < wT l → ∃ x ∈ l, x.1 ≤ z ∧ z < x.2.1
 | [], _, _, _, _, _, h, _, _ => absurd rfl h
 | x :: t, e, p, z, ho, h, _, h0, h1 => by
  unfold ZS at h
  cases hb : (x.1 != e || decide (x.2.2.2.2 < p))
  ·rw [hb, qg] at h
   have hx : x.1 = e := by
    have := (WN.1 hb).1
    simpa using this
   by_cases hz : z < x.2.1
   ·exact ⟨x, by simp, by omega, hz⟩
   ·by_cases ht : t = []
    ·subst ht
     have : wT [x] = x.2.1 := rfl
     omega
    ·rw [qB1 x ht] at h1
     obtain ⟨y, hy, a, b⟩ := qDQ t x.2.1 x.2.2.2.2 z (fun y hy => ho y (by simp [hy])) h ht (by omega) h1
     exact ⟨y, by simp [hy], a, b⟩
  ·rw [hb] at h; cases h
def qsT (s : Sp) (x : wE) : List wE := if max x.1 s.1 - s.1 < min x.2.1 s.2 - s.1 then [(max x.1 s.1 - s.1, min x.2.1 s.2 - s.1, x.2.2)] else []
def zN (s : Sp) : List wE → List wE
 | [] => []
 | x :: t => qsT s x ++ zN s t
theorem qlc (s : Sp) : ∀ l : List wE, (zN s l).length ≤ l.length
 | [] => qT _
 | x :: t => by
  have := qlc s t
  unfold zN qsT
  rw [qn, wc]
  split <;> simp <;> omega
theorem qnJ {l : List wE} (h : vt l = 0) {s : Sp} (h0 : 0 ≤ s.1) (h1 : s.1 < s.2) (h2 : s.2 ≤ wT l) : zN s l ≠ [] := by
 obtain ⟨a, b, c⟩ := Zw h
 have hl : l ≠ [] := fun e => by rw [e] at h2; have : wT [] = 0 := rfl; omega
 obtain ⟨x, hx, x0, x1⟩ := qDQ l 0 0 s.1 b c hl h0 (by omega)
 have : ∀ l : List wE, x ∈ l → zN s l ≠ [] := fun l => by
  induction l with
  | nil => intro h; simp at h
  | cons y t ih =>
   intro hm
   unfold zN
   rcases qK.1 hm with e | hm
   ·subst e
    unfold qsT
    rw [qd (by omega)]; simp
   ·intro e
    exact ih hm (List.append_eq_nil_iff.1 e).2
 exact this l hx
theorem qiZ {l : List wE} (hl : l.length ≤ 512) (h0 : l.length ≠ 0) : qa .i64 ((l.length : Int) - 1) = ((l.length - 1 : Nat) : Int) := by
 rw [qo (by omega) (by omega)]; omega
theorem qkn (k : Nat) {l : List wE} (hl : l.length ≤ 512) : qeN k l = some (wT l) := by
 unfold qeN wT
 by_cases h : l.length = 0
 ·rw [qd h, show ((l.length : Int) == 0) = true from beq_iff_eq.2 (by omega), qi]
 ·rw [qm h, show ((l.length : Int) == 0) = false from beq_eq_false_iff_ne.2 (by omega), qg, qiZ hl h, qd ⟨by omega, by omega⟩, qc]
theorem quO (k : Nat) {l : List wE} (hl : l.length ≤ 512) : qh3 k l = wT l := by unfold qh3; rw [qkn k hl]; rfl
theorem qJ2 (a b : Int) : (if a > b then a else b) = max b a := by split <;> omega
theorem qKT (a b : Int) : (if a < b then a else b) = min b a := by split <;> omega
theorem qrH {s : Sp} (h0 : 0 ≤ s.1) (h1 : s.2 ≤ 17179869184) {x : wE} (ok : SecOk x) : qa .i64 ((if s.1 > x.1 then s.1 else x.1) - s.1) = max x.1 s.1 - s.1 ∧ qa .i64 ((if s.2 < x.2.1 then s.2 else x.2.1) - s.1) = min x.2.1 s.2 - s.1 ∨ s.2 < s.1 := by
 obtain ⟨a, b, c, d⟩ := ok
 by_cases h : s.2 < s.1
 ·exact .inr h
 ·left
  rw [qJ2, qKT]
  exact ⟨qo (by omega) (by omega), qo (by omega) (by omega)⟩
theorem qGO (k : Nat) {s : Sp} (h0 : 0 ≤ s.1) (hs : s.1 ≤ s.2) (h1 : s.2 ≤ 17179869184) (l : List wE) (hl : l.length ≤ 512) (ho : ∀ x ∈ l, SecOk x) : ∀ (d i j : Nat) (out : List wE), i + d = l.length → d < j → out.length ≤ i → QL k j l (l.length : Int) (i : Int) s out = some (out ++ zN s (l.drop i), 0) := by
 intro d
 induction d with
 | zero =>
  intro i j out hi hj ho'
  obtain ⟨j, rfl⟩ := qQ (by omega : 0 < j)
  rw [QL, qx (by omega : ¬ (i : Int) < (l.length : Int)), qg, qh (by omega), zN, qY]
 | succ d ih =>
  intro i j out hi hj ho'
  obtain ⟨j, rfl⟩ := qQ (by omega : 0 < j)
  rcases qrH h0 h1 (ho (l.getD i T2.dflt) (Vg _ _ _ (by omega))) with ⟨e1, e2⟩ | h
  ·rw [QL, qA (by omega : (i : Int) < (l.length : Int)), qi, qd ⟨by omega, by omega⟩, qc, qF i (by omega), e1, e2, qq l i T2.dflt (by omega), zN, qd (by rw [qk]; omega), ih (i + 1) j _ (by omega) (by omega) (by rw [qn, qk]; omega), ih (i + 1) j out (by omega) (by omega) (by omega)]
   unfold qsT
   by_cases h : max (l.getD i T2.dflt).1 s.1 - s.1 < min (l.getD i T2.dflt).2.1 s.2 - s.1
   ·rw [qA h, qi, qd h, qw]
   ·rw [qx h, qg, qm h, qH]
  ·omega
theorem qif (k : Nat) (hk : 1200 ≤ k) {l : List wE} (hz : vt l = 0) {s : Sp} (h0 : 0 ≤ s.1) (hs : s.1 ≤ s.2) (h1 : s.2 ≤ 17179869184) (h2 : s.2 ≤ wT l) : qas k l s = some (zN s l, 0) := by
 obtain ⟨hl, ho, _⟩ := Zw hz
 have hp := qGO k h0 hs h1 l hl ho l.length 0 k [] (by omega) (by omega) (by simp)
 unfold qas
 rw [qb0 k hk, qhA k hk, hz, qb, qd rfl, bne_self_eq_false, qg]
 by_cases h : l.length = 0
 ·have he : wT l = 0 := by unfold wT; rw [qd h]
  rw [qx (by omega : ¬ (l.length : Int) > 0), qg, qx (by omega : ¬ s.1 < 0), qx (by omega : ¬ s.1 > s.2), qx (by omega : ¬ s.2 > 0)]
  exact hp
 ·have he : wT l = (l.getD (l.length - 1) T2.dflt).2.1 := by unfold wT; rw [qm h]
  rw [qA (by omega : (l.length : Int) > 0), qi, qiZ hl h, qd ⟨by omega, by omega⟩, qc, ← he, qx (by omega : ¬ s.1 < 0), qx (by omega : ¬ s.1 > s.2), qx (by omega : ¬ s.2 > wT l)]
  exact hp
theorem qsz (k : Nat) (hk : 1200 ≤ k) {l : List wE} (hz : vt l = 0) {s : Sp} (h0 : 0 ≤ s.1) (hs : s.1 ≤ s.2) (h1 : s.2 ≤ 17179869184) (h2 : s.2 ≤ wT l) : wX k l s = (zN s l, 0) := by
 unfold wX; rw [qif k hk hz h0 hs h1 h2]; rfl
theorem qGD (k : Nat) {s : Sp} (h0 : 0 ≤ s.1) (hs : s.1 ≤ s.2) (h1 : s.2 ≤ 17179869184) (l : List wE) (hl : l.length ≤ 512) (ho : ∀ x ∈ l, SecOk x) : ∀ (d i j : Nat) (out : List wE), i + d = l.length → d < j → out.length ≤ i → Zs k j l (i : Int) s out = some (out ++ zN s (l.drop i), 0) := by
 intro d
 induction d with
 | zero =>
  intro i j out hi hj ho'
  obtain ⟨j, rfl⟩ := qQ (by omega : 0 < j)
  rw [Zs, qx (by omega : ¬ (i : Int) < (l.length : Int)), qg, qh (by omega), zN, qY]
 | succ d ih =>
  intro i j out hi hj ho'
  obtain ⟨j, rfl⟩ := qQ (by omega : 0 < j)
  rcases qrH h0 h1 (ho (l.getD i T2.dflt) (Vg _ _ _ (by omega))) with ⟨e1, e2⟩ | h
  ·rw [Zs, qA (by omega : (i : Int) < (l.length : Int)), qi, qd ⟨by omega, by omega⟩, qc, qF i (by omega), e1, e2, qq l i T2.dflt (by omega), zN, qd (by rw [qk]; omega), ih (i + 1) j _ (by omega) (by omega) (by rw [qn, qk]; omega), ih (i + 1) j out (by omega) (by omega) (by omega)]
   unfold qsT
   by_cases h : max (l.getD i T2.dflt).1 s.1 - s.1 < min (l.getD i T2.dflt).2.1 s.2 - s.1
   ·rw [qA h, qi, qd h, qw]
   ·rw [qx h, qg, qm h, qH]
  ·omega
theorem qgL (k : Nat) (hk : 1200 ≤ k) {l : List wE} (hz : vt l = 0) {s : Sp} (h0 : 0 ≤ s.1) (hs : s.1 ≤ s.2) (h1 : s.2 ≤ 17179869184) (h2 : s.2 ≤ wT l) : qey k l s = some (zN s l, 0) := by
 obtain ⟨hl, ho, _⟩ := Zw hz
 have hp := qGD k h0 hs h1 l hl ho l.length 0 k [] (by omega) (by omega) (by simp)
 have hc : (decide (s.1 < (0 : Int)) || decide (s.1 > s.2) || decide (s.2 > (17179869184 : Int))) = false := by
  rw [qx (by omega : ¬ s.1 < 0), qx (by omega : ¬ s.1 > s.2), qx (by omega : ¬ s.2 > 17179869184)]; rfl
 unfold qey
 rw [qaR k hk, qgY k hk, hz, qb, qd rfl, bne_self_eq_false, qg, hc, qg, qkn k hl, quO k hl, qd ⟨rfl, rfl⟩, qx (by omega : ¬ s.2 > wT l)]
 exact hp
theorem qqr (k : Nat) (hk : 1200 ≤ k) {l : List wE} (hz : vt l = 0) {s : Sp} (h0 : 0 ≤ s.1) (hs : s.1 ≤ s.2) (h1 : s.2 ≤ 17179869184) (h2 : s.2 ≤ wT l) : Vy k l s = (zN s l, 0) := by
 unfold Vy; rw [qgL k hk hz h0 hs h1 h2]; rfl
end Go.AM
namespace Go.AM
open Go Go.Proofs
noncomputable section
abbrev qlS : Type := List T2.T
def qr6 (r : qlS) : AV := .fn (Fn.func 172) [] [.ptr 0 0 0]
def qvb (a : List T2.T) (r : qlS) : List (Nat × Blk) := [(0, .var 24 [ro T2 r])]
abbrev qEH (a : List T2.T) (r : qlS) : Prop := CC Tryz.prog 125 [ro T2 a] [] (qr6 r) (qvb a r)
def qnn (k : Nat) (a : List T2.T) : Option qlS :=
 some a
def qe3 := fun k a => (qnn k a).getD []
def qJF (k : Nat) : Ke := (125, mo 1, fun
 | [.r (.ro d b)], [] => (qE d T2 b).bind fun a => some (.one (qr6 (qe3 k a), qvb a (qe3 k a)))
 | _, _ => none)
theorem qKi (k a r) (h : qnn k a = some r): qEH a r := qN Tryz.f125 (go (qD []) [] [] [.autoB [2] true []] (gL h))
theorem qJ3 {k a} (h : (qnn k a).isSome): qEH a (qe3 k a) := qJ h (qKi k a)
abbrev qtU : Type := List T21.T × List T21.T × Int
def qtY (r : qtU) : AV := .tup [ro T21 r.1, ro T21 r.2.1, ri r.2.2]
abbrev qAW (a : List T2.T) (b : List I.T) (d : Int) (r : qtU) : Prop := CC Tryz.prog 81 [ro T2 a, ro I b, ri d] [] (qtY r) (nb r)
def qh4 (k : Nat) (a : List T2.T) (b : List I.T) (d : Int) : Option qtU :=
 if ((X3 k a).isSome) then
 bif (QJ k a != (0 : Int)) then
 some ([], [], QJ k a)
 else
 bif (decide (d < 1) || decide (d > 17179869184)) then
 some ([], [], 1)
 else
 if ((ql9 k b).isSome) then
 bif (qlT k b != (0 : Int)) then
 some ([], [], qlT k b)
 else
 if ((qnn k a).isSome) then
 if ((qmW k b d [] [] (qe3 k a)).isSome) then
 some ((qhP k b d [] [] (qe3 k a)).1, (qhP k b d [] [] (qe3 k a)).2, 0)
 else none
 else none
 else none
 else none
def WU := fun k a b d => (qh4 k a b d).getD ([], [], 0)
def qMc (k : Nat) : Ke := (81, mo 3, fun
 | [.r (.ro g e), .r (.ro i f), .r (.v (.int .i64 d))], [] => (qE g T2 e).bind fun a => (qE i I f).bind fun b => some (.one (qtY (WU k a b d), []))
 | _, _ => none)
theorem qNb (k a b d r) (h : qh4 k a b d = some r): qAW a b d r := qN Tryz.f81 (go (qD [qex k, qJ0 k, qJF k, qn2 k, qJY k]) [] [(15, [.autoB [13, 15, 40, 41, 42] false []])] [.frz 6 false (RTy.list T21), .frz 7 false (RTy.list T21), .autoB [6, 7, 8] true []] (qu h qji fun h => qB h fun h => qB h fun h => qu h qJJ fun h => qB h fun h => qu h qJ3 fun h => qu h qMN fun h => gL h))
theorem qww {k a b d} (h : (qh4 k a b d).isSome): qAW a b d (WU k a b d) := qJ h (qNb k a b d)
abbrev qIC (a : T17.T) (r : Bool) : Prop := CC Tryz.prog 11 [.agg (qy (qr T17 a))] [] (rb r) (nb r)
def qG9 := fun y0 y1 y2 y3 y4 => (⟨qI 105 [(1, .ptr 1000000 0 0), (3, ri y0), (60, ro T9 y1), (61, ri y2), (62, ri y3)], [(1000000, 0, .var 36 (qy (qr T17 y4)))]⟩ : St)
def qGV := fun y0 y1 y2 y3 y4 => (⟨qI 105 [(1, .ptr 1000000 0 0), (3, ri y0), (76, ro T11 y1), (77, ri y2), (78, ri y3)], [(1000000, 0, .var 36 (qy (qr T17 y4)))]⟩ : St)
def qzr := fun y0 y1 y2 y3 => (⟨qI 105 [(3, ri y0), (89, ro T5 y1), (90, ri y2), (91, ri y3)], []⟩ : St)
mutual
def YJ (k : Nat) : Nat → Int → List T9.T → Int → Int → T17.T → Option Bool
 | 0, _, _, _, _, _ => none
 | j + 1, y0, y1, y2, y3, y4 =>
 bif y3 < y2 then
 if (0 ≤ y3) ∧ (y3 < y1.length) then
 YJ k j (qz (qz y0 (↑ (qe (y1.getD y3.toNat T9.dflt).2.1) : Int)) (↑ (qe (y1.getD y3.toNat T9.dflt).2.2.1) : Int)) y1 y2 (qa .i64 (y3 + 1)) y4
 else none
 else
 YN k j y0 y4.2.2.2.2.2.2.2.2.2.2.2.2.2.2.2.2.2.1 (↑ (qe y4.2.2.2.2.2.2.2.2.2.2.2.2.2.2.2.2.2.1) : Int) 0 y4
def YN (k : Nat) : Nat → Int → List T11.T → Int → Int → T17.T → Option Bool
 | 0, _, _, _, _, _ => none
 | j + 1, y0, y1, y2, y3, y4 =>
 bif y3 < y2 then
 if (0 ≤ y3) ∧ (y3 < y1.length) then
 YN k j (if (↑ (qe (y1.getD y3.toNat T11.dflt).2.2) : Int) > y0 then (↑ (qe (y1.getD y3.toNat T11.dflt).2.2) : Int) else y0) y1 y2 (qa .i64 (y3 + 1)) y4
 else none
 else
 VM k j y0 y4.2.2.2.2.2.2.2.2.2.2.2.1 (↑ (qe y4.2.2.2.2.2.2.2.2.2.2.2.1) : Int) 0
def VM (k : Nat) : Nat → Int → List T5.T → Int → Int → Option Bool
 | 0, _, _, _, _ => none
 | j + 1, y0, y1, y2, y3 =>
 bif y3 < y2 then
 if (0 ≤ y3) ∧ (y3 < y1.length) then
 VM k j (if qa .i64 (2 * (↑ (qe (y1.getD y3.toNat T5.dflt).2.2.2.2.2) : Int)) > y0 then qa .i64 (2 * (↑ (qe (y1.getD y3.toNat T5.dflt).2.2.2.2.2) : Int)) else y0) y1 y2 (qa .i64 (y3 + 1))
 else none
 else
 some (decide (y0 > 40))
end
def qf8 (k : Nat) (a : T17.T) : Option Bool :=
 if ((4 : Int) ≠ (0 : Int)) then
 YJ k (k + (qe a.2.2.2.2.2.2.2.2.2.2.2.2.2.2.2.1 + (qe a.2.2.2.2.2.2.2.2.2.2.2.2.2.2.2.2.2.1 + qe a.2.2.2.2.2.2.2.2.2.2.2.1))) (qz (qz (qz (qz (qz (qz (qz (qz (qz (qz (qz (qz (qz (qz (↑ (qe a.2.2.2.2.2.2.2.1) : Int) (↑ (qe a.2.2.2.2.2.2.2.2.2.1) : Int)) (↑ (qe a.2.2.2.2.2.2.2.2.2.2.1) : Int)) (↑ (qe a.2.2.2.2.2.2.2.2.2.2.2.1) : Int)) (↑ (qe a.2.2.2.2.2.2.2.2.2.2.2.2.1) : Int)) (↑ (qe a.2.2.2.2.2.2.2.2.2.2.2.2.2.1) : Int)) (↑ (qe a.2.2.2.2.2.2.2.2.2.2.2.2.2.2.1) : Int)) (qa .i64 ((↑ (qe a.2.2.2.2.2.2.2.2.1) : Int).tdiv 4))) (↑ (qe a.2.2.2.2.2.2.2.2.2.2.2.2.2.2.2.1) : Int)) (↑ (qe a.2.2.2.2.2.2.2.2.2.2.2.2.2.2.2.2.1) : Int)) (↑ (qe a.2.2.2.2.2.2.2.2.2.2.2.2.2.2.2.2.2.1) : Int)) (↑ (qe a.2.2.2.2.2.2.2.2.2.2.2.2.2.2.2.2.2.2.1) : Int)) (↑ (qe a.2.2.2.2.2.2.2.2.2.2.2.2.2.2.2.2.2.2.2.1) : Int)) (↑ (qe a.2.2.2.2.2.2.2.2.2.2.2.2.2.2.2.2.2.2.2.2.1) : Int)) (↑ (qe a.2.2.2.2.2.2.2.2.2.2.2.2.2.2.2.2.2.2.2.2.2) : Int)) a.2.2.2.2.2.2.2.2.2.2.2.2.2.2.2.1 (↑ (qe a.2.2.2.2.2.2.2.2.2.2.2.2.2.2.2.1) : Int) 0 a
 else none
def qmD := fun k a => (qf8 k a).getD false
def qPq (k : Nat) : Ke := (11, mo 1, fun
 | [.agg b], [] => (qW [] T17 b).bind fun a => some (.one (rb (qmD k a), []))
 | _, _ => none)
def qA6 : List (Nat × List Cmd) := [(4, [.autoB [1, 3, 60, 61, 62] false []]), (9, [.autoB [1, 3, 76, 77, 78] false []]), (14, [.autoB [3, 89, 90, 91] false []])]
abbrev qy0 := EP Tryz.f11 0 rb nb
theorem qEd (k) : ∀ j, (∀ {y0 y1 y2 y3 y4}, qy0 4 (qG9 y0 y1 y2 y3 y4) (YJ k j y0 y1 y2 y3 y4)) ∧ (∀ {y0 y1 y2 y3 y4}, qy0 9 (qGV y0 y1 y2 y3 y4) (YN k j y0 y1 y2 y3 y4)) ∧ (∀ {y0 y1 y2 y3}, qy0 14 (qzr y0 y1 y2 y3) (VM k j y0 y1 y2 y3))
 | 0 => by and_intros <;> intros <;> exact e0
 | j + 1 => by
  have ih := @qEd k j
  have g := @go (qD []) [] qA6 [.autoB [2] true []]
  refine ⟨?_, ?_, ?_⟩
  ·intro y0 y1 y2 y3 y4 r h
   rw [YJ] at h
   exact g (gS h (fun h => qS h fun h => gD h 4 ih.1) fun h => gD h 9 ih.2.1)
  ·intro y0 y1 y2 y3 y4 r h
   rw [YN] at h
   exact g (gS h (fun h => qS h fun h => gD h 9 ih.2.1) fun h => gD h 14 ih.2.2)
  ·intro y0 y1 y2 y3 r h
   rw [VM] at h
   exact g (gS h (fun h => qS h fun h => gD h 14 ih.2.2) fun h => gL h)
theorem qOP (k a r) (h : qf8 k a = some r): qIC a r := qN Tryz.f11 (go (qD []) [] qA6 [.autoB [2] true []] (qu h id fun h => gD h 4 (qEd k (k + (qe a.2.2.2.2.2.2.2.2.2.2.2.2.2.2.2.1 + (qe a.2.2.2.2.2.2.2.2.2.2.2.2.2.2.2.2.2.1 + qe a.2.2.2.2.2.2.2.2.2.2.2.1)))).1))
theorem qND {k a} (h : (qf8 k a).isSome): qIC a (qmD k a) := qJ h (qOP k a)
abbrev qzG (a : T17.T) (r : Int) : Prop := CC Tryz.prog 27 [.agg (qy (qr T17 a))] [] (ri r) (nb r)
def qCX := fun y0 y1 y2 => (⟨qI 95 [(1, .ptr 1000000 0 0), (3, ri y0), (4, ri y1)], [(1000000, 0, .var 36 (qy (qr T17 y2)))]⟩ : St)
def qEM := fun y0 y1 y2 => (⟨qI 95 [(1, .ptr 1000000 0 0), (3, ri y0), (5, ri y1)], [(1000000, 0, .var 36 (qy (qr T17 y2)))]⟩ : St)
mutual
def VT (k : Nat) : Nat → Int → Int → T17.T → Option Int
 | 0, _, _, _ => none
 | j + 1, y0, y1, y2 =>
 bif y1 < (↑ (qe y2.2.2.2.2.2.2.2.2.2.2.2.2.2.2.2.1) : Int) then
 if (0 ≤ y1) ∧ (y1 < (↑ (qe y2.2.2.2.2.2.2.2.2.2.2.2.2.2.2.2.1) : Int)) ∧ (0 ≤ y1) ∧ (y1 < (↑ (qe y2.2.2.2.2.2.2.2.2.2.2.2.2.2.2.2.1) : Int)) then
 VT k j (qz (qz y0 (↑ (qe (qM y2.2.2.2.2.2.2.2.2.2.2.2.2.2.2.2.1 y1.toNat T9.dflt).2.1) : Int)) (↑ (qe (qM y2.2.2.2.2.2.2.2.2.2.2.2.2.2.2.2.1 y1.toNat T9.dflt).2.2.1) : Int)) (qa .i64 (y1 + 1)) y2
 else none
 else
 VS k j y0 0 y2
def VS (k : Nat) : Nat → Int → Int → T17.T → Option Int
 | 0, _, _, _ => none
 | j + 1, y0, y1, y2 =>
 bif y1 < (↑ (qe y2.2.2.2.2.2.2.2.2.2.2.2.2.2.2.2.2.2.1) : Int) then
 if (0 ≤ y1) ∧ (y1 < (↑ (qe y2.2.2.2.2.2.2.2.2.2.2.2.2.2.2.2.2.2.1) : Int)) then
 VS k j (if (↑ (qe (qM y2.2.2.2.2.2.2.2.2.2.2.2.2.2.2.2.2.2.1 y1.toNat T11.dflt).2.2) : Int) > y0 then (↑ (qe (qM y2.2.2.2.2.2.2.2.2.2.2.2.2.2.2.2.2.2.1 y1.toNat T11.dflt).2.2) : Int) else y0) (qa .i64 (y1 + 1)) y2
 else none
 else
 bif y0 > 512 then
 some 8
 else
 some 0
end
def qeK (k : Nat) (a : T17.T) : Option Int :=
 VT k k (qz (qz (qz (qz (qz (qz (qz (qz (qz (qz (qz (qz (qz (qz (↑ (qe a.2.2.2.2.2.2.2.1) : Int) (↑ (qe a.2.2.2.2.2.2.2.2.1) : Int)) (↑ (qe a.2.2.2.2.2.2.2.2.2.1) : Int)) (↑ (qe a.2.2.2.2.2.2.2.2.2.2.1) : Int)) (↑ (qe a.2.2.2.2.2.2.2.2.2.2.2.1) : Int)) (↑ (qe a.2.2.2.2.2.2.2.2.2.2.2.2.1) : Int)) (↑ (qe a.2.2.2.2.2.2.2.2.2.2.2.2.2.1) : Int)) (↑ (qe a.2.2.2.2.2.2.2.2.2.2.2.2.2.2.1) : Int)) (↑ (qe a.2.2.2.2.2.2.2.2.2.2.2.2.2.2.2.1) : Int)) (↑ (qe a.2.2.2.2.2.2.2.2.2.2.2.2.2.2.2.2.1) : Int)) (↑ (qe a.2.2.2.2.2.2.2.2.2.2.2.2.2.2.2.2.2.1) : Int)) (↑ (qe a.2.2.2.2.2.2.2.2.2.2.2.2.2.2.2.2.2.2.1) : Int)) (↑ (qe a.2.2.2.2.2.2.2.2.2.2.2.2.2.2.2.2.2.2.2.1) : Int)) (↑ (qe a.2.2.2.2.2.2.2.2.2.2.2.2.2.2.2.2.2.2.2.2.1) : Int)) (↑ (qe a.2.2.2.2.2.2.2.2.2.2.2.2.2.2.2.2.2.2.2.2.2) : Int)) 0 a
def qeF := fun k a => (qeK k a).getD 0
def qJU (k : Nat) : Ke := (27, mo 1, fun
 | [.agg b], [] => (qW [] T17 b).bind fun a => some (.one (ri (qeF k a), []))
 | _, _ => none)
def qvT : List (Nat × List Cmd) := [(4, [.autoB [1, 3, 4] false []]), (8, [.autoB [1, 3, 5] false []])]
abbrev qzp := EP Tryz.f27 0 ri nb
theorem qwH (k) : ∀ j, (∀ {y0 y1 y2}, qzp 4 (qCX y0 y1 y2) (VT k j y0 y1 y2)) ∧ (∀ {y0 y1 y2}, qzp 8 (qEM y0 y1 y2) (VS k j y0 y1 y2))
 | 0 => by and_intros <;> intros <;> exact e0
 | j + 1 => by
  have ih := @qwH k j
  have g := @go (qD []) [] qvT [.autoB [2] true []]
  refine ⟨?_, ?_⟩
  ·intro y0 y1 y2 r h
   rw [VT] at h
   exact g (gS h (fun h => gN h Xo fun h => gD h 4 ih.1) fun h => gD h 8 ih.2)
  ·intro y0 y1 y2 r h
   rw [VS] at h
   exact g (gS h (fun h => qS h fun h => gD h 8 ih.2) fun h => qB h fun h => gL h)
theorem qMj (k a r) (h : qeK k a = some r): qzG a r := qN Tryz.f27 (go (qD []) [] qvT [.autoB [2] true []] (gD h 4 (qwH k k).1))
theorem qMx {k a} (h : (qeK k a).isSome): qzG a (qeF k a) := qJ h (qMj k a)
abbrev qIw (a : T17.T) (r : Bool) : Prop := CC Tryz.prog 74 [.agg (qy (qr T17 a))] [] (rb r) (nb r)
def qG0 := fun y0 y1 y2 y3 y4 => (⟨qI 96 [(1, .ptr 1000000 0 0), (3, .own 1000001 0), (57, ro T9 y0), (58, ri y1), (59, ri y2)], [(1000000, 0, .var 36 (qy (qr T17 y3))), (1000001, 0, .row 3 I y4)]⟩ : St)
def qFJ := fun y0 y1 y2 y3 => (⟨qI 96 [(3, .own 1000000 0), (74, ro T11 y0), (75, ri y1), (76, ri y2)], [(1000000, 0, .row 3 I y3)]⟩ : St)
def qzw := fun y0 y1 y2 => (⟨qI 96 [(87, .own 1000000 0), (88, ri y0), (89, ri y1)], [(1000000, 0, .row 3 I y2)]⟩ : St)
mutual
def Ys (k : Nat) : Nat → List T9.T → Int → Int → T17.T → List I.T → Option Bool
 | 0, _, _, _, _, _ => none
 | j + 1, y0, y1, y2, y3, y4 =>
 bif y2 < y1 then
 if (0 ≤ y2) ∧ (y2 < y0.length) then
 if ((y4.length + [(↑ (qe (y0.getD y2.toNat T9.dflt).2.1) : Int), (↑ (qe (y0.getD y2.toNat T9.dflt).2.2.1) : Int)].length) * (8 : Nat) ≤ (140737488355328 : Nat)) then
 Ys k j y0 y1 (qa .i64 (y2 + 1)) y3 (y4 ++ [(↑ (qe (y0.getD y2.toNat T9.dflt).2.1) : Int), (↑ (qe (y0.getD y2.toNat T9.dflt).2.2.1) : Int)])
 else none
 else none
 else
 Yt k j y3.2.2.2.2.2.2.2.2.2.2.2.2.2.2.2.2.2.1 (↑ (qe y3.2.2.2.2.2.2.2.2.2.2.2.2.2.2.2.2.2.1) : Int) 0 y4
def Yt (k : Nat) : Nat → List T11.T → Int → Int → List I.T → Option Bool
 | 0, _, _, _, _ => none
 | j + 1, y0, y1, y2, y3 =>
 bif y2 < y1 then
 if (0 ≤ y2) ∧ (y2 < y0.length) then
 if ((y3.length + [(↑ (qe (y0.getD y2.toNat T11.dflt).2.2) : Int)].length) * (8 : Nat) ≤ (140737488355328 : Nat)) then
 Yt k j y0 y1 (qa .i64 (y2 + 1)) (y3 ++ [(↑ (qe (y0.getD y2.toNat T11.dflt).2.2) : Int)])
 else none
 else none
 else
 V8 k j (↑y3.length : Int) 0 y3
def V8 (k : Nat) : Nat → Int → Int → List I.T → Option Bool
 | 0, _, _, _ => none
 | j + 1, y0, y1, y2 =>
 bif y1 < y0 then
 if (0 ≤ y1) ∧ (y1 < y2.length) then
 bif y2.getD y1.toNat I.dflt > (512 : Int) then
 some true
 else
 V8 k j y0 (qa .i64 (y1 + 1)) y2
 else none
 else
 some false
end
def qbd (k : Nat) (a : T17.T) : Option Bool :=
 Ys k k a.2.2.2.2.2.2.2.2.2.2.2.2.2.2.2.1 (↑ (qe a.2.2.2.2.2.2.2.2.2.2.2.2.2.2.2.1) : Int) 0 a ([(↑ (qe a.2.2.2.2.2.2.2.1) : Int), (↑ (qe a.2.2.2.2.2.2.2.2.1) : Int), (↑ (qe a.2.2.2.2.2.2.2.2.2.1) : Int), (↑ (qe a.2.2.2.2.2.2.2.2.2.2.1) : Int), (↑ (qe a.2.2.2.2.2.2.2.2.2.2.2.1) : Int), (↑ (qe a.2.2.2.2.2.2.2.2.2.2.2.2.1) : Int), (↑ (qe a.2.2.2.2.2.2.2.2.2.2.2.2.2.1) : Int), (↑ (qe a.2.2.2.2.2.2.2.2.2.2.2.2.2.2.1) : Int), (↑ (qe a.2.2.2.2.2.2.2.2.2.2.2.2.2.2.2.1) : Int), (↑ (qe a.2.2.2.2.2.2.2.2.2.2.2.2.2.2.2.2.1) : Int), (↑ (qe a.2.2.2.2.2.2.2.2.2.2.2.2.2.2.2.2.2.1) : Int), (↑ (qe a.2.2.2.2.2.2.2.2.2.2.2.2.2.2.2.2.2.2.1) : Int), (↑ (qe a.2.2.2.2.2.2.2.2.2.2.2.2.2.2.2.2.2.2.2.1) : Int), (↑ (qe a.2.2.2.2.2.2.2.2.2.2.2.2.2.2.2.2.2.2.2.2.1) : Int), (↑ (qe a.2.2.2.2.2.2.2.2.2.2.2.2.2.2.2.2.2.2.2.2.2) : Int)])
def qcJ := fun k a => (qbd k a).getD false
def qnu (k : Nat) : Ke := (74, mo 1, fun
 | [.agg b], [] => (qW [] T17 b).bind fun a => some (.one (rb (qcJ k a), []))
 | _, _ => none)
def qzt : List (Nat × List Cmd) := [(3, [.autoB [1, 3, 57, 58, 59] false []]), (8, [.autoB [3, 74, 75, 76] false []]), (13, [.autoB [87, 88, 89] false []])]
abbrev qyA := EP Tryz.f74 0 rb nb
theorem qA1 (k) : ∀ j, (∀ {y0 y1 y2 y3 y4}, qyA 3 (qG0 y0 y1 y2 y3 y4) (Ys k j y0 y1 y2 y3 y4)) ∧ (∀ {y0 y1 y2 y3}, qyA 8 (qFJ y0 y1 y2 y3) (Yt k j y0 y1 y2 y3)) ∧ (∀ {y0 y1 y2}, qyA 13 (qzw y0 y1 y2) (V8 k j y0 y1 y2))
 | 0 => by and_intros <;> intros <;> exact e0
 | j + 1 => by
  have ih := @qA1 k j
  have g := @go (qD []) [] qzt [.autoB [2] true []]
  refine ⟨?_, ?_, ?_⟩
  ·intro y0 y1 y2 y3 y4 r h
   rw [Ys] at h
   exact g (gS h (fun h => qS h fun h => qu h id fun h => gD h 3 ih.1) fun h => gD h 8 ih.2.1)
  ·intro y0 y1 y2 y3 r h
   rw [Yt] at h
   exact g (gS h (fun h => qS h fun h => qu h id fun h => gD h 8 ih.2.1) fun h => gD h 13 ih.2.2)
  ·intro y0 y1 y2 r h
   rw [V8] at h
   exact g (gS h (fun h => qS h fun h => qB h fun h => gD h 13 ih.2.2) fun h => gL h)
theorem qNK (k a r) (h : qbd k a = some r): qIw a r := qN Tryz.f74 (go (qD []) [] qzt [.autoB [2] true []] (gD h 3 (qA1 k k).1))
theorem qm7 {k a} (h : (qbd k a).isSome): qIw a (qcJ k a) := qJ h (qNK k a)
end
theorem Q0 (a b : Int) : a ≤ qz a b := by unfold qz; split <;> omega
theorem QY (a b : Int) : b ≤ qz a b := by unfold qz; split <;> omega
theorem qtr {a b c : Int} (h1 : a ≤ c) (h2 : b ≤ c) : qz a b ≤ c := by unfold qz; split <;> omega
structure GB (b : T17.T) : Prop where
 bGrades : b.2.2.2.2.2.2.2.1.length ≤ 40
 bSections : b.2.2.2.2.2.2.2.2.2.1.length ≤ 40
 bTurns : b.2.2.2.2.2.2.2.2.2.2.1.length ≤ 40
 bRolls : b.2.2.2.2.2.2.2.2.2.2.2.1.length ≤ 40
 bUsed : b.2.2.2.2.2.2.2.2.2.2.2.2.1.length ≤ 40
 bScrapped : b.2.2.2.2.2.2.2.2.2.2.2.2.2.1.length ≤ 40
 bSpots : b.2.2.2.2.2.2.2.2.2.2.2.2.2.2.1.length ≤ 40
 bOrders : b.2.2.2.2.2.2.2.2.2.2.2.2.2.2.2.1.length ≤ 40
 bWaivers : b.2.2.2.2.2.2.2.2.2.2.2.2.2.2.2.2.1.length ≤ 40
 bShipments : b.2.2.2.2.2.2.2.2.2.2.2.2.2.2.2.2.2.1.length ≤ 40
 bClaims : b.2.2.2.2.2.2.2.2.2.2.2.2.2.2.2.2.2.2.1.length ≤ 40
 bCredits : b.2.2.2.2.2.2.2.2.2.2.2.2.2.2.2.2.2.2.2.1.length ≤ 40
 bBroke : b.2.2.2.2.2.2.2.2.2.2.2.2.2.2.2.2.2.2.2.2.1.length ≤ 40
 bPostings : b.2.2.2.2.2.2.2.2.2.2.2.2.2.2.2.2.2.2.2.2.2.length ≤ 40
 supp : b.2.2.2.2.2.2.2.2.1.length ≤ 200
 ord : ∀ x ∈ b.2.2.2.2.2.2.2.2.2.2.2.2.2.2.2.1, x.2.1.length ≤ 40 ∧ x.2.2.1.length ≤ 40
 shp : ∀ x ∈ b.2.2.2.2.2.2.2.2.2.2.2.2.2.2.2.2.2.1, x.2.2.length ≤ 40
theorem qGU (k : Nat) (l : List T5.T) (hl : l.length ≤ 140737488351232) : ∀ (d i j : Nat) (y : Int), i + d = l.length → d < j →
  ∃ n : Int, VM k j y l (l.length : Int) (i : Int) = some (decide (n > 40)) ∧ y ≤ n := by
 intro d
 induction d with
 | zero =>
  intro i j y hi hj
  obtain ⟨j, rfl⟩ := qQ (by omega : 0 < j)
  refine ⟨y, ?_, Wg _⟩
  rw [VM, qx (by omega : ¬ (i : Int) < (l.length : Int)), qg]
 | succ d ih =>
  intro i j y hi hj
  obtain ⟨j, rfl⟩ := qQ (by omega : 0 < j)
  rw [VM, qA (by omega : (i : Int) < (l.length : Int)), qi, qd ⟨by omega, by omega⟩, qF i (by omega)]
  generalize qa .i64 (2 * _) = z
  obtain ⟨n, h1, h2⟩ := ih (i + 1) j (if z > y then z else y) (by omega) (by omega)
  refine ⟨n, h1, ?_⟩
  revert h2
  split <;> omega
theorem qMi (k : Nat) (b : T17.T) (hr : b.2.2.2.2.2.2.2.2.2.2.2.1.length ≤ 140737488351232) (l : List T11.T) (hl : l.length ≤ 140737488351232) : ∀ (d i j : Nat) (y : Int), i + d = l.length → d + 1 + b.2.2.2.2.2.2.2.2.2.2.2.1.length < j →
  ∃ n : Int, YN k j y l (l.length : Int) (i : Int) b = some (decide (n > 40)) ∧ y ≤ n ∧ ∀ x ∈ l.drop i, (x.2.2.length : Int) ≤ n := by
 intro d
 induction d with
 | zero =>
  intro i j y hi hj
  obtain ⟨j, rfl⟩ := qQ (by omega : 0 < j)
  rw [YN, qx (by omega : ¬ (i : Int) < (l.length : Int)), qg, qh (by omega)]
  obtain ⟨n, h1, h2⟩ := qGU k (b.2.2.2.2.2.2.2.2.2.2.2.1) hr (b.2.2.2.2.2.2.2.2.2.2.2.1.length) 0 j y (by omega) (by omega)
  exact ⟨n, h1, h2, fun x hx => by simp at hx⟩
 | succ d ih =>
  intro i j y hi hj
  obtain ⟨j, rfl⟩ := qQ (by omega : 0 < j)
  rw [YN, qA (by omega : (i : Int) < (l.length : Int)), qi, qd ⟨by omega, by omega⟩, qF i (by omega), qc, qq l i T11.dflt (by omega)]
  obtain ⟨n, h1, h2, h3⟩ := ih (i + 1) j (if ((l.getD i T11.dflt).2.2.length : Int) > y then ((l.getD i T11.dflt).2.2.length : Int) else y) (by omega) (by omega)
  refine ⟨n, h1, ?_, fun x hx => ?_⟩
  ·revert h2; split <;> omega
  ·rcases qK.1 hx with e | hx
   ·rw [e]; revert h2; split <;> omega
   ·exact h3 x hx
theorem qMo (k : Nat) (b : T17.T) (hr : b.2.2.2.2.2.2.2.2.2.2.2.1.length ≤ 140737488351232) (hs : b.2.2.2.2.2.2.2.2.2.2.2.2.2.2.2.2.2.1.length ≤ 140737488351232) (l : List T9.T) (hl : l.length ≤ 140737488351232) : ∀ (d i j : Nat) (y : Int), i + d = l.length → d + 2 + (b.2.2.2.2.2.2.2.2.2.2.2.2.2.2.2.2.2.1.length + b.2.2.2.2.2.2.2.2.2.2.2.1.length) < j →
  ∃ n : Int, YJ k j y l (l.length : Int) (i : Int) b = some (decide (n > 40)) ∧ y ≤ n ∧ (∀ x ∈ b.2.2.2.2.2.2.2.2.2.2.2.2.2.2.2.2.2.1, (x.2.2.length : Int) ≤ n) ∧ ∀ x ∈ l.drop i, (x.2.1.length : Int) ≤ n ∧ (x.2.2.1.length : Int) ≤ n := by
 intro d
 induction d with
 | zero =>
  intro i j y hi hj
  obtain ⟨j, rfl⟩ := qQ (by omega : 0 < j)
  rw [YJ, qx (by omega : ¬ (i : Int) < (l.length : Int)), qg, qh (by omega)]
  obtain ⟨n, h1, h2, h3⟩ := qMi k b hr (b.2.2.2.2.2.2.2.2.2.2.2.2.2.2.2.2.2.1) hs (b.2.2.2.2.2.2.2.2.2.2.2.2.2.2.2.2.2.1.length) 0 j y (by omega) (by omega)
  rw [wm] at h3
  exact ⟨n, h1, h2, h3, fun x hx => by simp at hx⟩
 | succ d ih =>
  intro i j y hi hj
  obtain ⟨j, rfl⟩ := qQ (by omega : 0 < j)
  rw [YJ, qA (by omega : (i : Int) < (l.length : Int)), qi, qd ⟨by omega, by omega⟩, qF i (by omega), qc, qq l i T9.dflt (by omega)]
  obtain ⟨n, h1, h2, h3, h4⟩ := ih (i + 1) j (qz (qz y ((l.getD i T9.dflt).2.1.length : Int)) ((l.getD i T9.dflt).2.2.1.length : Int)) (by omega) (by omega)
  have a1 := Q0 (qz y ((l.getD i T9.dflt).2.1.length : Int)) ((l.getD i T9.dflt).2.2.1.length : Int)
  have a2 := QY (qz y ((l.getD i T9.dflt).2.1.length : Int)) ((l.getD i T9.dflt).2.2.1.length : Int)
  have a3 := Q0 y ((l.getD i T9.dflt).2.1.length : Int)
  have a4 := QY y ((l.getD i T9.dflt).2.1.length : Int)
  refine ⟨n, h1, by omega, h3, fun x hx => ?_⟩
  rcases qK.1 hx with e | hx
  ·rw [e]; exact ⟨by omega, by omega⟩
  ·exact h4 x hx
theorem qKY (k : Nat) (hk : 100 ≤ k) (b : T17.T) (h1 : b.2.2.2.2.2.2.2.2.2.2.2.2.2.2.2.1.length ≤ 140737488351232) (h2 : b.2.2.2.2.2.2.2.2.2.2.2.2.2.2.2.2.2.1.length ≤ 140737488351232) (h3 : b.2.2.2.2.2.2.2.2.2.2.2.1.length ≤ 140737488351232) (h4 : b.2.2.2.2.2.2.2.2.1.length ≤ 140737488351232) :
  ∃ r : Bool, qf8 k b = some r ∧ (r = false → GB b) := by
 unfold qf8
 rw [qd (by decide)]
 have hw : qa .i64 (((b.2.2.2.2.2.2.2.2.1.length : Nat) : Int).tdiv 4) = ((b.2.2.2.2.2.2.2.2.1.length : Nat) : Int) / 4 := by
  rw [Int.tdiv_eq_ediv_of_nonneg (by omega)]; exact qo (by omega) (by omega)
 obtain ⟨n, g1, g2, g3, g4⟩ := qMo k b h3 h2 (b.2.2.2.2.2.2.2.2.2.2.2.2.2.2.2.1) h1 (b.2.2.2.2.2.2.2.2.2.2.2.2.2.2.2.1.length) 0 (k + (b.2.2.2.2.2.2.2.2.2.2.2.2.2.2.2.1.length + (b.2.2.2.2.2.2.2.2.2.2.2.2.2.2.2.2.2.1.length + b.2.2.2.2.2.2.2.2.2.2.2.1.length))) (qz (qz (qz (qz (qz (qz (qz (qz (qz (qz (qz (qz (qz (qz (((b.2.2.2.2.2.2.2.1.length : Nat) : Int)) (((b.2.2.2.2.2.2.2.2.2.1.length : Nat) : Int))) (((b.2.2.2.2.2.2.2.2.2.2.1.length : Nat) : Int))) (((b.2.2.2.2.2.2.2.2.2.2.2.1.length : Nat) : Int))) (((b.2.2.2.2.2.2.2.2.2.2.2.2.1.length : Nat) : Int))) (((b.2.2.2.2.2.2.2.2.2.2.2.2.2.1.length : Nat) : Int))) (((b.2.2.2.2.2.2.2.2.2.2.2.2.2.2.1.length : Nat) : Int))) (qa .i64 (((b.2.2.2.2.2.2.2.2.1.length : Nat) : Int).tdiv 4))) (((b.2.2.2.2.2.2.2.2.2.2.2.2.2.2.2.1.length : Nat) : Int))) (((b.2.2.2.2.2.2.2.2.2.2.2.2.2.2.2.2.1.length : Nat) : Int))) (((b.2.2.2.2.2.2.2.2.2.2.2.2.2.2.2.2.2.1.length : Nat) : Int))) (((b.2.2.2.2.2.2.2.2.2.2.2.2.2.2.2.2.2.2.1.length : Nat) : Int))) (((b.2.2.2.2.2.2.2.2.2.2.2.2.2.2.2.2.2.2.2.1.length : Nat) : Int))) (((b.2.2.2.2.2.2.2.2.2.2.2.2.2.2.2.2.2.2.2.2.1.length : Nat) : Int))) (((b.2.2.2.2.2.2.2.2.2.2.2.2.2.2.2.2.2.2.2.2.2.length : Nat) : Int))) (by omega) (by omega)
 rw [wm] at g4
 refine ⟨_, g1, fun hr => ?_⟩
 have hn : n ≤ 40 := by
  have := of_decide_eq_false hr
  omega
 have p1 := Q0 (((b.2.2.2.2.2.2.2.1.length : Nat) : Int)) (((b.2.2.2.2.2.2.2.2.2.1.length : Nat) : Int))
 have e1 := QY (((b.2.2.2.2.2.2.2.1.length : Nat) : Int)) (((b.2.2.2.2.2.2.2.2.2.1.length : Nat) : Int))
 have p2 := Q0 (qz (((b.2.2.2.2.2.2.2.1.length : Nat) : Int)) (((b.2.2.2.2.2.2.2.2.2.1.length : Nat) : Int))) (((b.2.2.2.2.2.2.2.2.2.2.1.length : Nat) : Int))
 have e2 := QY (qz (((b.2.2.2.2.2.2.2.1.length : Nat) : Int)) (((b.2.2.2.2.2.2.2.2.2.1.length : Nat) : Int))) (((b.2.2.2.2.2.2.2.2.2.2.1.length : Nat) : Int))
 have p3 := Q0 (qz (qz (((b.2.2.2.2.2.2.2.1.length : Nat) : Int)) (((b.2.2.2.2.2.2.2.2.2.1.length : Nat) : Int))) (((b.2.2.2.2.2.2.2.2.2.2.1.length : Nat) : Int))) (((b.2.2.2.2.2.2.2.2.2.2.2.1.length : Nat) : Int))
 have e3 := QY (qz (qz (((b.2.2.2.2.2.2.2.1.length : Nat) : Int)) (((b.2.2.2.2.2.2.2.2.2.1.length : Nat) : Int))) (((b.2.2.2.2.2.2.2.2.2.2.1.length : Nat) : Int))) (((b.2.2.2.2.2.2.2.2.2.2.2.1.length : Nat) : Int))
 have p4 := Q0 (qz (qz (qz (((b.2.2.2.2.2.2.2.1.length : Nat) : Int)) (((b.2.2.2.2.2.2.2.2.2.1.length : Nat) : Int))) (((b.2.2.2.2.2.2.2.2.2.2.1.length : Nat) : Int))) (((b.2.2.2.2.2.2.2.2.2.2.2.1.length : Nat) : Int))) (((b.2.2.2.2.2.2.2.2.2.2.2.2.1.length : Nat) : Int))
 have e4 := QY (qz (qz (qz (((b.2.2.2.2.2.2.2.1.length : Nat) : Int)) (((b.2.2.2.2.2.2.2.2.2.1.length : Nat) : Int))) (((b.2.2.2.2.2.2.2.2.2.2.1.length : Nat) : Int))) (((b.2.2.2.2.2.2.2.2.2.2.2.1.length : Nat) : Int))) (((b.2.2.2.2.2.2.2.2.2.2.2.2.1.length : Nat) : Int))
 have p5 := Q0 (qz (qz (qz (qz (((b.2.2.2.2.2.2.2.1.length : Nat) : Int)) (((b.2.2.2.2.2.2.2.2.2.1.length : Nat) : Int))) (((b.2.2.2.2.2.2.2.2.2.2.1.length : Nat) : Int))) (((b.2.2.2.2.2.2.2.2.2.2.2.1.length : Nat) : Int))) (((b.2.2.2.2.2.2.2.2.2.2.2.2.1.length : Nat) : Int))) (((b.2.2.2.2.2.2.2.2.2.2.2.2.2.1.length : Nat) : Int))
 have e5 := QY (qz (qz (qz (qz (((b.2.2.2.2.2.2.2.1.length : Nat) : Int)) (((b.2.2.2.2.2.2.2.2.2.1.length : Nat) : Int))) (((b.2.2.2.2.2.2.2.2.2.2.1.length : Nat) : Int))) (((b.2.2.2.2.2.2.2.2.2.2.2.1.length : Nat) : Int))) (((b.2.2.2.2.2.2.2.2.2.2.2.2.1.length : Nat) : Int))) (((b.2.2.2.2.2.2.2.2.2.2.2.2.2.1.length : Nat) : Int))
 have p6 := Q0 (qz (qz (qz (qz (qz (((b.2.2.2.2.2.2.2.1.length : Nat) : Int)) (((b.2.2.2.2.2.2.2.2.2.1.length : Nat) : Int))) (((b.2.2.2.2.2.2.2.2.2.2.1.length : Nat) : Int))) (((b.2.2.2.2.2.2.2.2.2.2.2.1.length : Nat) : Int))) (((b.2.2.2.2.2.2.2.2.2.2.2.2.1.length : Nat) : Int))) (((b.2.2.2.2.2.2.2.2.2.2.2.2.2.1.length : Nat) : Int))) (((b.2.2.2.2.2.2.2.2.2.2.2.2.2.2.1.length : Nat) : Int))
 have e6 := QY (qz (qz (qz (qz (qz (((b.2.2.2.2.2.2.2.1.length : Nat) : Int)) (((b.2.2.2.2.2.2.2.2.2.1.length : Nat) : Int))) (((b.2.2.2.2.2.2.2.2.2.2.1.length : Nat) : Int))) (((b.2.2.2.2.2.2.2.2.2.2.2.1.length : Nat) : Int))) (((b.2.2.2.2.2.2.2.2.2.2.2.2.1.length : Nat) : Int))) (((b.2.2.2.2.2.2.2.2.2.2.2.2.2.1.length : Nat) : Int))) (((b.2.2.2.2.2.2.2.2.2.2.2.2.2.2.1.length : Nat) : Int))
 have p7 := Q0 (qz (qz (qz (qz (qz (qz (((b.2.2.2.2.2.2.2.1.length : Nat) : Int)) (((b.2.2.2.2.2.2.2.2.2.1.length : Nat) : Int))) (((b.2.2.2.2.2.2.2.2.2.2.1.length : Nat) : Int))) (((b.2.2.2.2.2.2.2.2.2.2.2.1.length : Nat) : Int))) (((b.2.2.2.2.2.2.2.2.2.2.2.2.1.length : Nat) : Int))) (((b.2.2.2.2.2.2.2.2.2.2.2.2.2.1.length : Nat) : Int))) (((b.2.2.2.2.2.2.2.2.2.2.2.2.2.2.1.length : Nat) : Int))) (qa .i64 (((b.2.2.2.2.2.2.2.2.1.length : Nat) : Int).tdiv 4))
 have e7 := QY (qz (qz (qz (qz (qz (qz (((b.2.2.2.2.2.2.2.1.length : Nat) : Int)) (((b.2.2.2.2.2.2.2.2.2.1.length : Nat) : Int))) (((b.2.2.2.2.2.2.2.2.2.2.1.length : Nat) : Int))) (((b.2.2.2.2.2.2.2.2.2.2.2.1.length : Nat) : Int))) (((b.2.2.2.2.2.2.2.2.2.2.2.2.1.length : Nat) : Int))) (((b.2.2.2.2.2.2.2.2.2.2.2.2.2.1.length : Nat) : Int))) (((b.2.2.2.2.2.2.2.2.2.2.2.2.2.2.1.length : Nat) : Int))) (qa .i64 (((b.2.2.2.2.2.2.2.2.1.length : Nat) : Int).tdiv 4))
 have p8 := Q0 (qz (qz (qz (qz (qz (qz (qz (((b.2.2.2.2.2.2.2.1.length : Nat) : Int)) (((b.2.2.2.2.2.2.2.2.2.1.length : Nat) : Int))) (((b.2.2.2.2.2.2.2.2.2.2.1.length : Nat) : Int))) (((b.2.2.2.2.2.2.2.2.2.2.2.1.length : Nat) : Int))) (((b.2.2.2.2.2.2.2.2.2.2.2.2.1.length : Nat) : Int))) (((b.2.2.2.2.2.2.2.2.2.2.2.2.2.1.length : Nat) : Int))) (((b.2.2.2.2.2.2.2.2.2.2.2.2.2.2.1.length : Nat) : Int))) (qa .i64 (((b.2.2.2.2.2.2.2.2.1.length : Nat) : Int).tdiv 4))) (((b.2.2.2.2.2.2.2.2.2.2.2.2.2.2.2.1.length : Nat) : Int))
 have e8 := QY (qz (qz (qz (qz (qz (qz (qz (((b.2.2.2.2.2.2.2.1.length : Nat) : Int)) (((b.2.2.2.2.2.2.2.2.2.1.length : Nat) : Int))) (((b.2.2.2.2.2.2.2.2.2.2.1.length : Nat) : Int))) (((b.2.2.2.2.2.2.2.2.2.2.2.1.length : Nat) : Int))) (((b.2.2.2.2.2.2.2.2.2.2.2.2.1.length : Nat) : Int))) (((b.2.2.2.2.2.2.2.2.2.2.2.2.2.1.length : Nat) : Int))) (((b.2.2.2.2.2.2.2.2.2.2.2.2.2.2.1.length : Nat) : Int))) (qa .i64 (((b.2.2.2.2.2.2.2.2.1.length : Nat) : Int).tdiv 4))) (((b.2.2.2.2.2.2.2.2.2.2.2.2.2.2.2.1.length : Nat) : Int))
 have p9 := Q0 (qz (qz (qz (qz (qz (qz (qz (qz (((b.2.2.2.2.2.2.2.1.length : Nat) : Int)) (((b.2.2.2.2.2.2.2.2.2.1.length : Nat) : Int))) (((b.2.2.2.2.2.2.2.2.2.2.1.length : Nat) : Int))) (((b.2.2.2.2.2.2.2.2.2.2.2.1.length : Nat) : Int))) (((b.2.2.2.2.2.2.2.2.2.2.2.2.1.length : Nat) : Int))) (((b.2.2.2.2.2.2.2.2.2.2.2.2.2.1.length : Nat) : Int))) (((b.2.2.2.2.2.2.2.2.2.2.2.2.2.2.1.length : Nat) : Int))) (qa .i64 (((b.2.2.2.2.2.2.2.2.1.length : Nat) : Int).tdiv 4))) (((b.2.2.2.2.2.2.2.2.2.2.2.2.2.2.2.1.length : Nat) : Int))) (((b.2.2.2.2.2.2.2.2.2.2.2.2.2.2.2.2.1.length : Nat) : Int))
 have e9 := QY (qz (qz (qz (qz (qz (qz (qz (qz (((b.2.2.2.2.2.2.2.1.length : Nat) : Int)) (((b.2.2.2.2.2.2.2.2.2.1.length : Nat) : Int))) (((b.2.2.2.2.2.2.2.2.2.2.1.length : Nat) : Int))) (((b.2.2.2.2.2.2.2.2.2.2.2.1.length : Nat) : Int))) (((b.2.2.2.2.2.2.2.2.2.2.2.2.1.length : Nat) : Int))) (((b.2.2.2.2.2.2.2.2.2.2.2.2.2.1.length : Nat) : Int))) (((b.2.2.2.2.2.2.2.2.2.2.2.2.2.2.1.length : Nat) : Int))) (qa .i64 (((b.2.2.2.2.2.2.2.2.1.length : Nat) : Int).tdiv 4))) (((b.2.2.2.2.2.2.2.2.2.2.2.2.2.2.2.1.length : Nat) : Int))) (((b.2.2.2.2.2.2.2.2.2.2.2.2.2.2.2.2.1.length : Nat) : Int))
 have p10 := Q0 (qz (qz (qz (qz (qz (qz (qz (qz (qz (((b.2.2.2.2.2.2.2.1.length : Nat) : Int)) (((b.2.2.2.2.2.2.2.2.2.1.length : Nat) : Int))) (((b.2.2.2.2.2.2.2.2.2.2.1.length : Nat) : Int))) (((b.2.2.2.2.2.2.2.2.2.2.2.1.length : Nat) : Int))) (((b.2.2.2.2.2.2.2.2.2.2.2.2.1.length : Nat) : Int))) (((b.2.2.2.2.2.2.2.2.2.2.2.2.2.1.length : Nat) : Int))) (((b.2.2.2.2.2.2.2.2.2.2.2.2.2.2.1.length : Nat) : Int))) (qa .i64 (((b.2.2.2.2.2.2.2.2.1.length : Nat) : Int).tdiv 4))) (((b.2.2.2.2.2.2.2.2.2.2.2.2.2.2.2.1.length : Nat) : Int))) (((b.2.2.2.2.2.2.2.2.2.2.2.2.2.2.2.2.1.length : Nat) : Int))) (((b.2.2.2.2.2.2.2.2.2.2.2.2.2.2.2.2.2.1.length : Nat) : Int))
 have e10 := QY (qz (qz (qz (qz (qz (qz (qz (qz (qz (((b.2.2.2.2.2.2.2.1.length : Nat) : Int)) (((b.2.2.2.2.2.2.2.2.2.1.length : Nat) : Int))) (((b.2.2.2.2.2.2.2.2.2.2.1.length : Nat) : Int))) (((b.2.2.2.2.2.2.2.2.2.2.2.1.length : Nat) : Int))) (((b.2.2.2.2.2.2.2.2.2.2.2.2.1.length : Nat) : Int))) (((b.2.2.2.2.2.2.2.2.2.2.2.2.2.1.length : Nat) : Int))) (((b.2.2.2.2.2.2.2.2.2.2.2.2.2.2.1.length : Nat) : Int))) (qa .i64 (((b.2.2.2.2.2.2.2.2.1.length : Nat) : Int).tdiv 4))) (((b.2.2.2.2.2.2.2.2.2.2.2.2.2.2.2.1.length : Nat) : Int))) (((b.2.2.2.2.2.2.2.2.2.2.2.2.2.2.2.2.1.length : Nat) : Int))) (((b.2.2.2.2.2.2.2.2.2.2.2.2.2.2.2.2.2.1.length : Nat) : Int))
 have p11 := Q0 (qz (qz (qz (qz (qz (qz (qz (qz (qz (qz (((b.2.2.2.2.2.2.2.1.length : Nat) : Int)) (((b.2.2.2.2.2.2.2.2.2.1.length : Nat) : Int))) (((b.2.2.2.2.2.2.2.2.2.2.1.length : Nat) : Int))) (((b.2.2.2.2.2.2.2.2.2.2.2.1.length : Nat) : Int))) (((b.2.2.2.2.2.2.2.2.2.2.2.2.1.length : Nat) : Int))) (((b.2.2.2.2.2.2.2.2.2.2.2.2.2.1.length : Nat) : Int))) (((b.2.2.2.2.2.2.2.2.2.2.2.2.2.2.1.length : Nat) : Int))) (qa .i64 (((b.2.2.2.2.2.2.2.2.1.length : Nat) : Int).tdiv 4))) (((b.2.2.2.2.2.2.2.2.2.2.2.2.2.2.2.1.length : Nat) : Int))) (((b.2.2.2.2.2.2.2.2.2.2.2.2.2.2.2.2.1.length : Nat) : Int))) (((b.2.2.2.2.2.2.2.2.2.2.2.2.2.2.2.2.2.1.length : Nat) : Int))) (((b.2.2.2.2.2.2.2.2.2.2.2.2.2.2.2.2.2.2.1.length : Nat) : Int))
 have e11 := QY (qz (qz (qz (qz (qz (qz (qz (qz (qz (qz (((b.2.2.2.2.2.2.2.1.length : Nat) : Int)) (((b.2.2.2.2.2.2.2.2.2.1.length : Nat) : Int))) (((b.2.2.2.2.2.2.2.2.2.2.1.length : Nat) : Int))) (((b.2.2.2.2.2.2.2.2.2.2.2.1.length : Nat) : Int))) (((b.2.2.2.2.2.2.2.2.2.2.2.2.1.length : Nat) : Int))) (((b.2.2.2.2.2.2.2.2.2.2.2.2.2.1.length : Nat) : Int))) (((b.2.2.2.2.2.2.2.2.2.2.2.2.2.2.1.length : Nat) : Int))) (qa .i64 (((b.2.2.2.2.2.2.2.2.1.length : Nat) : Int).tdiv 4))) (((b.2.2.2.2.2.2.2.2.2.2.2.2.2.2.2.1.length : Nat) : Int))) (((b.2.2.2.2.2.2.2.2.2.2.2.2.2.2.2.2.1.length : Nat) : Int))) (((b.2.2.2.2.2.2.2.2.2.2.2.2.2.2.2.2.2.1.length : Nat) : Int))) (((b.2.2.2.2.2.2.2.2.2.2.2.2.2.2.2.2.2.2.1.length : Nat) : Int))
 have p12 := Q0 (qz (qz (qz (qz (qz (qz (qz (qz (qz (qz (qz (((b.2.2.2.2.2.2.2.1.length : Nat) : Int)) (((b.2.2.2.2.2.2.2.2.2.1.length : Nat) : Int))) (((b.2.2.2.2.2.2.2.2.2.2.1.length : Nat) : Int))) (((b.2.2.2.2.2.2.2.2.2.2.2.1.length : Nat) : Int))) (((b.2.2.2.2.2.2.2.2.2.2.2.2.1.length : Nat) : Int))) (((b.2.2.2.2.2.2.2.2.2.2.2.2.2.1.length : Nat) : Int))) (((b.2.2.2.2.2.2.2.2.2.2.2.2.2.2.1.length : Nat) : Int))) (qa .i64 (((b.2.2.2.2.2.2.2.2.1.length : Nat) : Int).tdiv 4))) (((b.2.2.2.2.2.2.2.2.2.2.2.2.2.2.2.1.length : Nat) : Int))) (((b.2.2.2.2.2.2.2.2.2.2.2.2.2.2.2.2.1.length : Nat) : Int))) (((b.2.2.2.2.2.2.2.2.2.2.2.2.2.2.2.2.2.1.length : Nat) : Int))) (((b.2.2.2.2.2.2.2.2.2.2.2.2.2.2.2.2.2.2.1.length : Nat) : Int))) (((b.2.2.2.2.2.2.2.2.2.2.2.2.2.2.2.2.2.2.2.1.length : Nat) : Int))
 have e12 := QY (qz (qz (qz (qz (qz (qz (qz (qz (qz (qz (qz (((b.2.2.2.2.2.2.2.1.length : Nat) : Int)) (((b.2.2.2.2.2.2.2.2.2.1.length : Nat) : Int))) (((b.2.2.2.2.2.2.2.2.2.2.1.length : Nat) : Int))) (((b.2.2.2.2.2.2.2.2.2.2.2.1.length : Nat) : Int))) (((b.2.2.2.2.2.2.2.2.2.2.2.2.1.length : Nat) : Int))) (((b.2.2.2.2.2.2.2.2.2.2.2.2.2.1.length : Nat) : Int))) (((b.2.2.2.2.2.2.2.2.2.2.2.2.2.2.1.length : Nat) : Int))) (qa .i64 (((b.2.2.2.2.2.2.2.2.1.length : Nat) : Int).tdiv 4))) (((b.2.2.2.2.2.2.2.2.2.2.2.2.2.2.2.1.length : Nat) : Int))) (((b.2.2.2.2.2.2.2.2.2.2.2.2.2.2.2.2.1.length : Nat) : Int))) (((b.2.2.2.2.2.2.2.2.2.2.2.2.2.2.2.2.2.1.length : Nat) : Int))) (((b.2.2.2.2.2.2.2.2.2.2.2.2.2.2.2.2.2.2.1.length : Nat) : Int))) (((b.2.2.2.2.2.2.2.2.2.2.2.2.2.2.2.2.2.2.2.1.length : Nat) : Int))
 have p13 := Q0 (qz (qz (qz (qz (qz (qz (qz (qz (qz (qz (qz (qz (((b.2.2.2.2.2.2.2.1.length : Nat) : Int)) (((b.2.2.2.2.2.2.2.2.2.1.length : Nat) : Int))) (((b.2.2.2.2.2.2.2.2.2.2.1.length : Nat) : Int))) (((b.2.2.2.2.2.2.2.2.2.2.2.1.length : Nat) : Int))) (((b.2.2.2.2.2.2.2.2.2.2.2.2.1.length : Nat) : Int))) (((b.2.2.2.2.2.2.2.2.2.2.2.2.2.1.length : Nat) : Int))) (((b.2.2.2.2.2.2.2.2.2.2.2.2.2.2.1.length : Nat) : Int))) (qa .i64 (((b.2.2.2.2.2.2.2.2.1.length : Nat) : Int).tdiv 4))) (((b.2.2.2.2.2.2.2.2.2.2.2.2.2.2.2.1.length : Nat) : Int))) (((b.2.2.2.2.2.2.2.2.2.2.2.2.2.2.2.2.1.length : Nat) : Int))) (((b.2.2.2.2.2.2.2.2.2.2.2.2.2.2.2.2.2.1.length : Nat) : Int))) (((b.2.2.2.2.2.2.2.2.2.2.2.2.2.2.2.2.2.2.1.length : Nat) : Int))) (((b.2.2.2.2.2.2.2.2.2.2.2.2.2.2.2.2.2.2.2.1.length : Nat) : Int))) (((b.2.2.2.2.2.2.2.2.2.2.2.2.2.2.2.2.2.2.2.2.1.length : Nat) : Int))
 have e13 := QY (qz (qz (qz (qz (qz (qz (qz (qz (qz (qz (qz (qz (((b.2.2.2.2.2.2.2.1.length : Nat) : Int)) (((b.2.2.2.2.2.2.2.2.2.1.length : Nat) : Int))) (((b.2.2.2.2.2.2.2.2.2.2.1.length : Nat) : Int))) (((b.2.2.2.2.2.2.2.2.2.2.2.1.length : Nat) : Int))) (((b.2.2.2.2.2.2.2.2.2.2.2.2.1.length : Nat) : Int))) (((b.2.2.2.2.2.2.2.2.2.2.2.2.2.1.length : Nat) : Int))) (((b.2.2.2.2.2.2.2.2.2.2.2.2.2.2.1.length : Nat) : Int))) (qa .i64 (((b.2.2.2.2.2.2.2.2.1.length : Nat) : Int).tdiv 4))) (((b.2.2.2.2.2.2.2.2.2.2.2.2.2.2.2.1.length : Nat) : Int))) (((b.2.2.2.2.2.2.2.2.2.2.2.2.2.2.2.2.1.length : Nat) : Int))) (((b.2.2.2.2.2.2.2.2.2.2.2.2.2.2.2.2.2.1.length : Nat) : Int))) (((b.2.2.2.2.2.2.2.2.2.2.2.2.2.2.2.2.2.2.1.length : Nat) : Int))) (((b.2.2.2.2.2.2.2.2.2.2.2.2.2.2.2.2.2.2.2.1.length : Nat) : Int))) (((b.2.2.2.2.2.2.2.2.2.2.2.2.2.2.2.2.2.2.2.2.1.length : Nat) : Int))
 have p14 := Q0 (qz (qz (qz (qz (qz (qz (qz (qz (qz (qz (qz (qz (qz (((b.2.2.2.2.2.2.2.1.length : Nat) : Int)) (((b.2.2.2.2.2.2.2.2.2.1.length : Nat) : Int))) (((b.2.2.2.2.2.2.2.2.2.2.1.length : Nat) : Int))) (((b.2.2.2.2.2.2.2.2.2.2.2.1.length : Nat) : Int))) (((b.2.2.2.2.2.2.2.2.2.2.2.2.1.length : Nat) : Int))) (((b.2.2.2.2.2.2.2.2.2.2.2.2.2.1.length : Nat) : Int))) (((b.2.2.2.2.2.2.2.2.2.2.2.2.2.2.1.length : Nat) : Int))) (qa .i64 (((b.2.2.2.2.2.2.2.2.1.length : Nat) : Int).tdiv 4))) (((b.2.2.2.2.2.2.2.2.2.2.2.2.2.2.2.1.length : Nat) : Int))) (((b.2.2.2.2.2.2.2.2.2.2.2.2.2.2.2.2.1.length : Nat) : Int))) (((b.2.2.2.2.2.2.2.2.2.2.2.2.2.2.2.2.2.1.length : Nat) : Int))) (((b.2.2.2.2.2.2.2.2.2.2.2.2.2.2.2.2.2.2.1.length : Nat) : Int))) (((b.2.2.2.2.2.2.2.2.2.2.2.2.2.2.2.2.2.2.2.1.length : Nat) : Int))) (((b.2.2.2.2.2.2.2.2.2.2.2.2.2.2.2.2.2.2.2.2.1.length : Nat) : Int))) (((b.2.2.2.2.2.2.2.2.2.2.2.2.2.2.2.2.2.2.2.2.2.length : Nat) : Int))
 have e14 := QY (qz (qz (qz (qz (qz (qz (qz (qz (qz (qz (qz (qz (qz (((b.2.2.2.2.2.2.2.1.length : Nat) : Int)) (((b.2.2.2.2.2.2.2.2.2.1.length : Nat) : Int))) (((b.2.2.2.2.2.2.2.2.2.2.1.length : Nat) : Int))) (((b.2.2.2.2.2.2.2.2.2.2.2.1.length : Nat) : Int))) (((b.2.2.2.2.2.2.2.2.2.2.2.2.1.length : Nat) : Int))) (((b.2.2.2.2.2.2.2.2.2.2.2.2.2.1.length : Nat) : Int))) (((b.2.2.2.2.2.2.2.2.2.2.2.2.2.2.1.length : Nat) : Int))) (qa .i64 (((b.2.2.2.2.2.2.2.2.1.length : Nat) : Int).tdiv 4))) (((b.2.2.2.2.2.2.2.2.2.2.2.2.2.2.2.1.length : Nat) : Int))) (((b.2.2.2.2.2.2.2.2.2.2.2.2.2.2.2.2.1.length : Nat) : Int))) (((b.2.2.2.2.2.2.2.2.2.2.2.2.2.2.2.2.2.1.length : Nat) : Int))) (((b.2.2.2.2.2.2.2.2.2.2.2.2.2.2.2.2.2.2.1.length : Nat) : Int))) (((b.2.2.2.2.2.2.2.2.2.2.2.2.2.2.2.2.2.2.2.1.length : Nat) : Int))) (((b.2.2.2.2.2.2.2.2.2.2.2.2.2.2.2.2.2.2.2.2.1.length : Nat) : Int))) (((b.2.2.2.2.2.2.2.2.2.2.2.2.2.2.2.2.2.2.2.2.2.length : Nat) : Int))
 generalize hm1 : qz (((b.2.2.2.2.2.2.2.1.length : Nat) : Int)) (((b.2.2.2.2.2.2.2.2.2.1.length : Nat) : Int)) = m1 at *
 generalize hm2 : qz m1 (((b.2.2.2.2.2.2.2.2.2.2.1.length : Nat) : Int)) = m2 at *
 generalize hm3 : qz m2 (((b.2.2.2.2.2.2.2.2.2.2.2.1.length : Nat) : Int)) = m3 at *
 generalize hm4 : qz m3 (((b.2.2.2.2.2.2.2.2.2.2.2.2.1.length : Nat) : Int)) = m4 at *
 generalize hm5 : qz m4 (((b.2.2.2.2.2.2.2.2.2.2.2.2.2.1.length : Nat) : Int)) = m5 at *
 generalize hm6 : qz m5 (((b.2.2.2.2.2.2.2.2.2.2.2.2.2.2.1.length : Nat) : Int)) = m6 at *
 generalize hm7 : qz m6 (qa .i64 (((b.2.2.2.2.2.2.2.2.1.length : Nat) : Int).tdiv 4)) = m7 at *
 generalize hm8 : qz m7 (((b.2.2.2.2.2.2.2.2.2.2.2.2.2.2.2.1.length : Nat) : Int)) = m8 at *
 generalize hm9 : qz m8 (((b.2.2.2.2.2.2.2.2.2.2.2.2.2.2.2.2.1.length : Nat) : Int)) = m9 at *
 generalize hm10 : qz m9 (((b.2.2.2.2.2.2.2.2.2.2.2.2.2.2.2.2.2.1.length : Nat) : Int)) = m10 at *
 generalize hm11 : qz m10 (((b.2.2.2.2.2.2.2.2.2.2.2.2.2.2.2.2.2.2.1.length : Nat) : Int)) = m11 at *
 generalize hm12 : qz m11 (((b.2.2.2.2.2.2.2.2.2.2.2.2.2.2.2.2.2.2.2.1.length : Nat) : Int)) = m12 at *
 generalize hm13 : qz m12 (((b.2.2.2.2.2.2.2.2.2.2.2.2.2.2.2.2.2.2.2.2.1.length : Nat) : Int)) = m13 at *
 generalize hm14 : qz m13 (((b.2.2.2.2.2.2.2.2.2.2.2.2.2.2.2.2.2.2.2.2.2.length : Nat) : Int)) = m14 at *
 rw [hw] at e7
 exact { bGrades := by omega, bSections := by omega, bTurns := by omega, bRolls := by omega, bUsed := by omega, bScrapped := by omega, bSpots := by omega, bOrders := by omega, bWaivers := by omega, bShipments := by omega, bClaims := by omega, bCredits := by omega, bBroke := by omega, bPostings := by omega, supp := by omega, ord := fun x hx => by have := g4 x hx; omega, shp := fun x hx => by have := g3 x hx; omega }
theorem qNY (k : Nat) (b : T17.T) (g : GB b) : ∀ (d i j : Nat) (y : Int), i + d = b.2.2.2.2.2.2.2.2.2.2.2.2.2.2.2.2.2.1.length → d < j → y ≤ 512 → VS k j y (i : Int) b = some 0 := by
 have hl := g.bShipments
 intro d
 induction d with
 | zero =>
  intro i j y hi hj hy
  obtain ⟨j, rfl⟩ := qQ (by omega : 0 < j)
  rw [VS, qx (by omega : ¬ (i : Int) < (b.2.2.2.2.2.2.2.2.2.2.2.2.2.2.2.2.2.1.length : Int)), qg, qx (by omega : ¬ y > 512), qg]
 | succ d ih =>
  intro i j y hi hj hy
  obtain ⟨j, rfl⟩ := qQ (by omega : 0 < j)
  have hx := g.shp (b.2.2.2.2.2.2.2.2.2.2.2.2.2.2.2.2.2.1.getD i T11.dflt) (Vg _ _ _ (by omega))
  rw [VS, qA (by omega : (i : Int) < (b.2.2.2.2.2.2.2.2.2.2.2.2.2.2.2.2.2.1.length : Int)), qi, qd ⟨by omega, by omega⟩, qF i (by omega), qc]
  exact ih (i + 1) j _ (by omega) (by omega) (by split <;> omega)
theorem qQu (k : Nat) (b : T17.T) (g : GB b) : ∀ (d i j : Nat) (y : Int), i + d = b.2.2.2.2.2.2.2.2.2.2.2.2.2.2.2.1.length → d + 50 < j → y ≤ 512 → VT k j y (i : Int) b = some 0 := by
 have hl := g.bOrders
 have hl2 := g.bShipments
 intro d
 induction d with
 | zero =>
  intro i j y hi hj hy
  obtain ⟨j, rfl⟩ := qQ (by omega : 0 < j)
  rw [VT, qx (by omega : ¬ (i : Int) < (b.2.2.2.2.2.2.2.2.2.2.2.2.2.2.2.1.length : Int)), qg]
  exact qNY k b g (b.2.2.2.2.2.2.2.2.2.2.2.2.2.2.2.2.2.1.length) 0 j y (by omega) (by omega) hy
 | succ d ih =>
  intro i j y hi hj hy
  obtain ⟨j, rfl⟩ := qQ (by omega : 0 < j)
  have hx := g.ord (b.2.2.2.2.2.2.2.2.2.2.2.2.2.2.2.1.getD i T9.dflt) (Vg _ _ _ (by omega))
  rw [VT, qA (by omega : (i : Int) < (b.2.2.2.2.2.2.2.2.2.2.2.2.2.2.2.1.length : Int)), qi, qd ⟨by omega, by omega, by omega, by omega⟩, qF i (by omega), qc]
  exact ih (i + 1) j _ (by omega) (by omega) (qtr (qtr hy (by omega)) (by omega))
theorem qAV (k : Nat) (hk : 200 ≤ k) (b : T17.T) (g : GB b) : qeK k b = some 0 := by
 unfold qeK
 have bGrades := g.bGrades
 have bSections := g.bSections
 have bTurns := g.bTurns
 have bRolls := g.bRolls
 have bUsed := g.bUsed
 have bScrapped := g.bScrapped
 have bSpots := g.bSpots
 have bOrders := g.bOrders
 have bWaivers := g.bWaivers
 have bShipments := g.bShipments
 have bClaims := g.bClaims
 have bCredits := g.bCredits
 have bBroke := g.bBroke
 have bPostings := g.bPostings
 have bSup := g.supp
 refine qQu k b g (b.2.2.2.2.2.2.2.2.2.2.2.2.2.2.2.1.length) 0 k _ (by omega) (by omega) ?_
 repeat' refine qtr ?_ ?_
 all_goals omega
theorem qPW (k : Nat) (hk : 200 ≤ k) (b : T17.T) (g : GB b) : qeF k b = 0 := by
 unfold qeF; rw [qAV k hk b g]; rfl
theorem qMA (k : Nat) (l : List Int) (hl : l.length ≤ 100000) (hb : ∀ x ∈ l, x ≤ 512) : ∀ (d i j : Nat), i + d = l.length → d < j → V8 k j (l.length : Int) (i : Int) l = some false := by
 intro d
 induction d with
 | zero =>
  intro i j hi hj
  obtain ⟨j, rfl⟩ := qQ (by omega : 0 < j)
  rw [V8, qx (by omega : ¬ (i : Int) < (l.length : Int)), qg]
 | succ d ih =>
  intro i j hi hj
  obtain ⟨j, rfl⟩ := qQ (by omega : 0 < j)
  have hx := hb (l.getD i I.dflt) (Vg _ _ _ (by omega))
  rw [V8, qA (by omega : (i : Int) < (l.length : Int)), qi, qd ⟨by omega, by omega⟩, qF i (by omega), qc, qx (by omega : ¬ l.getD i I.dflt > 512), qg]
  exact ih (i + 1) j (by omega) (by omega)
theorem qNo (k : Nat) (l : List T11.T) (hl : l.length ≤ 40) (hs : ∀ x ∈ l, x.2.2.length ≤ 40) : ∀ (d i j : Nat) (a : List Int), i + d = l.length → 2 * d + a.length + 100 < j → a.length + d ≤ 1000 → (∀ x ∈ a, x ≤ 512) → Yt k j l (l.length : Int) (i : Int) a = some false := by
 intro d
 induction d with
 | zero =>
  intro i j a hi hj ha hb
  obtain ⟨j, rfl⟩ := qQ (by omega : 0 < j)
  rw [Yt, qx (by omega : ¬ (i : Int) < (l.length : Int)), qg]
  exact qMA k a (by omega) hb a.length 0 j (by omega) (by omega)
 | succ d ih =>
  intro i j a hi hj ha hb
  obtain ⟨j, rfl⟩ := qQ (by omega : 0 < j)
  have hx := hs (l.getD i T11.dflt) (Vg _ _ _ (by omega))
  rw [Yt, qA (by omega : (i : Int) < (l.length : Int)), qi, qd ⟨by omega, by omega⟩, qF i (by omega), qc, qd (by simp only [qk]; omega)]
  refine ih (i + 1) j _ (by omega) (by simp; omega) (by simp; omega) fun x hx' => ?_
  rcases zW.1 hx' with h | h
  ·exact hb x h
  ·rw [List.mem_singleton] at h; omega
theorem qQT (k : Nat) (b : T17.T) (g : GB b) (l : List T9.T) (hl : l.length ≤ 40) (hs : ∀ x ∈ l, x.2.1.length ≤ 40 ∧ x.2.2.1.length ≤ 40) : ∀ (d i j : Nat) (a : List Int), i + d = l.length → 3 * d + a.length + 200 < j → a.length + 2 * d ≤ 500 → (∀ x ∈ a, x ≤ 512) → Ys k j l (l.length : Int) (i : Int) b a = some false := by
 intro d
 induction d with
 | zero =>
  intro i j a hi hj ha hb
  obtain ⟨j, rfl⟩ := qQ (by omega : 0 < j)
  have := g.bShipments
  rw [Ys, qx (by omega : ¬ (i : Int) < (l.length : Int)), qg]
  exact qNo k (b.2.2.2.2.2.2.2.2.2.2.2.2.2.2.2.2.2.1) (by omega) g.shp (b.2.2.2.2.2.2.2.2.2.2.2.2.2.2.2.2.2.1.length) 0 j a (by omega) (by omega) (by omega) hb
 | succ d ih =>
  intro i j a hi hj ha hb
  obtain ⟨j, rfl⟩ := qQ (by omega : 0 < j)
  have hx := hs (l.getD i T9.dflt) (Vg _ _ _ (by omega))
  rw [Ys, qA (by omega : (i : Int) < (l.length : Int)), qi, qd ⟨by omega, by omega⟩, qF i (by omega), qc, qd (by simp only [wc, List.length_nil]; omega)]
  refine ih (i + 1) j _ (by omega) (by simp; omega) (by simp; omega) fun x hx' => ?_
  rcases zW.1 hx' with h | h
  ·exact hb x h
  ·simp only [qK, List.not_mem_nil, or_false] at h
   omega
theorem qDO (k : Nat) (hk : 1000 ≤ k) (b : T17.T) (g : GB b) : qbd k b = some false := by
 unfold qbd
 have bGrades := g.bGrades
 have bSections := g.bSections
 have bTurns := g.bTurns
 have bRolls := g.bRolls
 have bUsed := g.bUsed
 have bScrapped := g.bScrapped
 have bSpots := g.bSpots
 have bOrders := g.bOrders
 have bWaivers := g.bWaivers
 have bShipments := g.bShipments
 have bClaims := g.bClaims
 have bCredits := g.bCredits
 have bBroke := g.bBroke
 have bPostings := g.bPostings
 have bSup := g.supp
 refine qQT k b g (b.2.2.2.2.2.2.2.2.2.2.2.2.2.2.2.1) (by omega) g.ord (b.2.2.2.2.2.2.2.2.2.2.2.2.2.2.2.1.length) 0 k _ (by omega) (by simp; omega) (by simp; omega) fun x hx => ?_
 simp only [qK, List.not_mem_nil, or_false] at hx
 omega
theorem qPE (k : Nat) (hk : 1000 ≤ k) (b : T17.T) (g : GB b) : qcJ k b = false := by
 unfold qcJ; rw [qDO k hk b g]; rfl
end Go.AM
namespace Go.AM
open Go Go.Proofs
noncomputable section
abbrev qq8 : Type := T17.T × List T18.T
def qwR (r : qq8) : AV := .tup []
def qAC (a : T17.T) (b : List T18.T) (d : Int) (e : Int) (f : Int) (r : qq8) : List (Nat × Blk) := [(0, .var 140 ((qy (qr T17 r.1)) ++ [.own 1 1])), (1, .row 54 T18 r.2)]
abbrev qHG (a : T17.T) (b : List T18.T) (d : Int) (e : Int) (f : Int) (r : qq8) : Prop := CC Tryz.prog 75 [.ptr 0 0 0, ri d, ri e, ri f] [.var 140 (qy (qr T17 a) ++ [.own 1 0]), .row 54 T18 b] (qwR r) (qAC a b d e f r)
def wU (k : Nat) (a : T17.T) (b : List T18.T) (d : Int) (e : Int) (f : Int) : Option qq8 :=
 if ((b.length + [(d, e, f)].length) * (24 : Nat) ≤ (140737488355328 : Nat)) then
 some (a, b ++ [(d, e, f)])
 else none
def q9 := fun k a b d e f => (wU k a b d e f).getD ((T17).dflt, [])
def qaF (k : Nat) : Ke := (75, fun
 | [.ptr _ _ _, _, _, _] => some [true, false, false, false]
 | _ => none, fun
 | [.ptr 0 0 0, .r (.v (.int .i64 d)), .r (.v (.int .i64 e)), .r (.v (.int .i64 f))], [.var 140 g, .row 54 tb_22_ qb_22] => (qW [] T17 (g.take 22)).bind fun a => (qE tb_22_ T18 qb_22).bind fun b => some (.one (qwR (q9 k a b d e f), qAC a b d e f (q9 k a b d e f)))
 | _, _ => none)
theorem qOb (k a b d e f r) (h : wU k a b d e f = some r): qHG a b d e f r := qN Tryz.f75 (go (qD []) [] [] [.autoB [] true [1]] (qu h id fun h => gL h))
theorem wN {k a b d e f} (h : (wU k a b d e f).isSome): qHG a b d e f (q9 k a b d e f) := qJ h (qOb k a b d e f)
def qCY (a : T17.T) (b : List T18.T) (d : T21.T) (e : T4.T) (r : Bool) : List (Nat × Blk) := [(0, .var 140 (qy (qr T17 a) ++ [.own 1 0])), (0, .row 54 T18 b)]
abbrev qHt (a : T17.T) (b : List T18.T) (d : T21.T) (e : T4.T) (r : Bool) : Prop := CC Tryz.prog 82 [.ptr 0 0 0, .agg (qy (qr T21 d)), .agg (qy (qr T4 e))] [.var 140 (qy (qr T17 a) ++ [.own 1 0]), .row 54 T18 b] (rb r) (qCY a b d e r)
def qrx (k : Nat) (a : T17.T) (b : List T18.T) (d : T21.T) (e : T4.T) : Option Bool :=
 if ((e.1 == (0 : Int) && e.2.1 == a.2.1 && (!e.2.2.1) && (↑ (qe e.2.2.2) : Int) == (1 : Int)) = true → (0 : Int) ≤ (0 : Int)) ∧ ((e.1 == (0 : Int) && e.2.1 == a.2.1 && (!e.2.2.1) && (↑ (qe e.2.2.2) : Int) == (1 : Int)) = true → (0 : Int) < (↑ (qe e.2.2.2) : Int)) then
 some (e.1 == 0 && e.2.1 == a.2.1 && (!e.2.2.1) && (↑ (qe e.2.2.2) : Int) == 1 && Vp T3 (qM e.2.2.2 (qt 0) T3.dflt) (d.1, qa .i64 (d.2 - d.1), false))
 else none
def qru := fun k a b d e => (qrx k a b d e).getD false
def qOr (k : Nat) : Ke := (82, fun
 | [.ptr _ _ _, _, _] => some [true, false, false]
 | _ => none, fun
 | [.ptr 0 0 0, .agg i, .agg g], [.var 140 f, .row 54 tb_22_ qb_22] => (qW [] T21 i).bind fun d => (qW [] T4 g).bind fun e => (qW [] T17 (f.take 22)).bind fun a => (qE tb_22_ T18 qb_22).bind fun b => some (.one (rb (qru k a b d e), qCY a b d e (qru k a b d e)))
 | _, _ => none)
theorem qOg (k a b d e r) (h : qrx k a b d e = some r): qHt a b d e r := qN Tryz.f82 (go (qD []) [] [] [.autoB [6] true []] (qS h fun h => gL h))
theorem qNp {k a b d e} (h : (qrx k a b d e).isSome): qHt a b d e (qru k a b d e) := qJ h (qOg k a b d e)
abbrev qjD : Type := T17.T × List T18.T
def qoq (r : qjD) : AV := .tup []
def qsJ (a : T17.T) (b : List T18.T) (r : qjD) : List (Nat × Blk) := [(0, .var 140 ((qy (qr T17 r.1)) ++ [.own 1 1])), (1, .row 54 T18 r.2)]
abbrev qIA (a : T17.T) (b : List T18.T) (r : qjD) : Prop := CC Tryz.prog 37 [.ptr 0 0 0] [.var 140 (qy (qr T17 a) ++ [.own 1 0]), .row 54 T18 b] (qoq r) (qsJ a b r)
def qzH := fun (a : T17.T) (b : List T18.T) y0 y1 y2 y3 y4 y5 y6 => (⟨qI 143 [(0, .ptr 0 0 0), (7, ro T21 y0), (8, .own 1000000 0), (93, ro T5 y1), (94, ri y2), (95, ri y3)], [(0, 0, .var 140 ((qy (qr T17 y4)) ++ [.own 1 1])), (1, 1, .row 54 T18 y5), (1000000, 0, .row 45 T4 y6)]⟩ : St)
def qEV := fun (a : T17.T) (b : List T18.T) y0 y1 y2 y3 y4 y5 => (⟨qI 143 [(0, .ptr 0 0 0), (7, ro T21 y0), (8, .own 1000000 0), (112, ri y1), (113, ri y2)], [(0, 0, .var 140 ((qy (qr T17 y3)) ++ [.own 1 1])), (1, 1, .row 54 T18 y4), (1000000, 0, .row 45 T4 y5)]⟩ : St)
mutual
def ZN (k : Nat) (a : T17.T) (b : List T18.T) : Nat → List T21.T → List T5.T → Int → Int → T17.T → List T18.T → List T4.T → Option qjD
 | 0, _, _, _, _, _, _, _ => none
 | j + 1, y0, y1, y2, y3, y4, y5, y6 =>
 bif y3 < y2 then
 if (0 ≤ y3) ∧ (y3 < y1.length) then
 bif ((y1.getD y3.toNat T5.dflt).2.1 == (0 : Int)) then
 if ((y6.length + [(y1.getD y3.toNat T5.dflt).2.2].length) * (48 : Nat) ≤ (140737488355328 : Nat)) then
 ZN k a b j y0 y1 y2 (qa .i64 (y3 + 1)) y4 y5 (y6 ++ [(y1.getD y3.toNat T5.dflt).2.2])
 else none
 else
 ZN k a b j y0 y1 y2 (qa .i64 (y3 + 1)) y4 y5 y6
 else none
 else
 qgs k a b j y0 (if (↑y6.length : Int) > (↑y0.length : Int) then (↑y6.length : Int) else (↑y0.length : Int)) 0 y4 y5 y6
def qgs (k : Nat) (a : T17.T) (b : List T18.T) : Nat → List T21.T → Int → Int → T17.T → List T18.T → List T4.T → Option qjD
 | 0, _, _, _, _, _, _ => none
 | j + 1, y0, y1, y2, y3, y4, y5 =>
 bif y2 < y1 then
 bif (decide (y2 ≥ y0.length) || decide (y2 ≥ y5.length)) then
 if ((decide (y2 ≥ y0.length) || decide (y2 ≥ y5.length)) = true) then
 if ((wU k y3 y4 2 y2 0).isSome) then
 some ((q9 k y3 y4 2 y2 0).1, (q9 k y3 y4 2 y2 0).2)
 else none
 else none
 else
 if ((decide (y2 ≥ y0.length) || decide (y2 ≥ y5.length)) = false) ∧ (0 ≤ y2) ∧ (y2 < y0.length) ∧ (0 ≤ y2) ∧ (y2 < y5.length) ∧ ((qrx k y3 y4 (y0.getD y2.toNat T21.dflt) (y5.getD y2.toNat T4.dflt)).isSome) then
 bif (false || (!qru k y3 y4 (y0.getD y2.toNat T21.dflt) (y5.getD y2.toNat T4.dflt))) then
 if ((wU k y3 y4 2 y2 0).isSome) then
 some ((q9 k y3 y4 2 y2 0).1, (q9 k y3 y4 2 y2 0).2)
 else none
 else
 qgs k a b j y0 y1 (qa .i64 (y2 + 1)) y3 y4 y5
 else none
 else
 some (y3, y4)
end
def qmz (k : Nat) (a : T17.T) (b : List T18.T) : Option qjD :=
 if ((X3 k a.2.2.2.2.2.2.2.2.2.1).isSome) then
 bif (QJ k a.2.2.2.2.2.2.2.2.2.1 != (0 : Int)) then
 if ((wU k a b 1 (QJ k a.2.2.2.2.2.2.2.2.2.1) 0).isSome) then
 some ((q9 k a b 1 (QJ k a.2.2.2.2.2.2.2.2.2.1) 0).1, (q9 k a b 1 (QJ k a.2.2.2.2.2.2.2.2.2.1) 0).2)
 else none
 else
 bif (↑ (qe a.2.2.2.2.2.2.2.2.2.1) : Int) > (0 : Int) then
 if ((0 : Int) ≤ qa .i64 ((↑ (qe a.2.2.2.2.2.2.2.2.2.1) : Int) - (1 : Int))) ∧ (qa .i64 ((↑ (qe a.2.2.2.2.2.2.2.2.2.1) : Int) - (1 : Int)) < (↑ (qe a.2.2.2.2.2.2.2.2.2.1) : Int)) then
 bif ((qM a.2.2.2.2.2.2.2.2.2.1 (qa .i64 ((↑ (qe a.2.2.2.2.2.2.2.2.2.1) : Int) - (1 : Int))).toNat T2.dflt).2.1 != a.2.2.1) then
 if ((wU k a b 1 0 (qM a.2.2.2.2.2.2.2.2.2.1 (qa .i64 ((↑ (qe a.2.2.2.2.2.2.2.2.2.1) : Int) - 1)).toNat T2.dflt).2.1).isSome) then
 some ((q9 k a b 1 0 (qM a.2.2.2.2.2.2.2.2.2.1 (qa .i64 ((↑ (qe a.2.2.2.2.2.2.2.2.2.1) : Int) - 1)).toNat T2.dflt).2.1).1, (q9 k a b 1 0 (qM a.2.2.2.2.2.2.2.2.2.1 (qa .i64 ((↑ (qe a.2.2.2.2.2.2.2.2.2.1) : Int) - 1)).toNat T2.dflt).2.1).2)
 else none
 else
 if ((qas k a.2.2.2.2.2.2.2.2.2.1 (0, a.2.2.2.1)).isSome) then
 bif ((wX k a.2.2.2.2.2.2.2.2.2.1 ((0 : Int), a.2.2.2.1)).2 == (0 : Int)) then
 if ((qh4 k (wX k a.2.2.2.2.2.2.2.2.2.1 (0, a.2.2.2.1)).1 a.2.2.2.2.2.2.2.2.2.2.1 a.2.2.2.2.1).isSome) then
 bif ((WU k (wX k a.2.2.2.2.2.2.2.2.2.1 ((0 : Int), a.2.2.2.1)).1 a.2.2.2.2.2.2.2.2.2.2.1 a.2.2.2.2.1).2.2 != (0 : Int)) then
 if ((wU k a b 2 (-1) (WU k (wX k a.2.2.2.2.2.2.2.2.2.1 (0, a.2.2.2.1)).1 a.2.2.2.2.2.2.2.2.2.2.1 a.2.2.2.2.1).2.2).isSome) then
 some ((q9 k a b 2 (-1) (WU k (wX k a.2.2.2.2.2.2.2.2.2.1 (0, a.2.2.2.1)).1 a.2.2.2.2.2.2.2.2.2.2.1 a.2.2.2.2.1).2.2).1, (q9 k a b 2 (-1) (WU k (wX k a.2.2.2.2.2.2.2.2.2.1 (0, a.2.2.2.1)).1 a.2.2.2.2.2.2.2.2.2.2.1 a.2.2.2.2.1).2.2).2)
 else none
 else
 ZN k a b k ((WU k (wX k a.2.2.2.2.2.2.2.2.2.1 (0, a.2.2.2.1)).1 a.2.2.2.2.2.2.2.2.2.2.1 a.2.2.2.2.1).1) a.2.2.2.2.2.2.2.2.2.2.2.1 (↑ (qe a.2.2.2.2.2.2.2.2.2.2.2.1) : Int) 0 a b ([])
 else none
 else
 bif ((wX k a.2.2.2.2.2.2.2.2.2.1 ((0 : Int), a.2.2.2.1)).2 != (0 : Int)) then
 if ((wU k a b 2 (-1) (wX k a.2.2.2.2.2.2.2.2.2.1 (0, a.2.2.2.1)).2).isSome) then
 some ((q9 k a b 2 (-1) (wX k a.2.2.2.2.2.2.2.2.2.1 (0, a.2.2.2.1)).2).1, (q9 k a b 2 (-1) (wX k a.2.2.2.2.2.2.2.2.2.1 (0, a.2.2.2.1)).2).2)
 else none
 else
 ZN k a b k ([]) a.2.2.2.2.2.2.2.2.2.2.2.1 (↑ (qe a.2.2.2.2.2.2.2.2.2.2.2.1) : Int) 0 a b ([])
 else none
 else none
 else
 bif ((0 : Int) != a.2.2.1) then
 if ((wU k a b 1 0 0).isSome) then
 some ((q9 k a b 1 0 0).1, (q9 k a b 1 0 0).2)
 else none
 else
 if ((qas k a.2.2.2.2.2.2.2.2.2.1 (0, a.2.2.2.1)).isSome) then
 bif ((wX k a.2.2.2.2.2.2.2.2.2.1 ((0 : Int), a.2.2.2.1)).2 == (0 : Int)) then
 if ((qh4 k (wX k a.2.2.2.2.2.2.2.2.2.1 (0, a.2.2.2.1)).1 a.2.2.2.2.2.2.2.2.2.2.1 a.2.2.2.2.1).isSome) then
 bif ((WU k (wX k a.2.2.2.2.2.2.2.2.2.1 ((0 : Int), a.2.2.2.1)).1 a.2.2.2.2.2.2.2.2.2.2.1 a.2.2.2.2.1).2.2 != (0 : Int)) then
 if ((wU k a b 2 (-1) (WU k (wX k a.2.2.2.2.2.2.2.2.2.1 (0, a.2.2.2.1)).1 a.2.2.2.2.2.2.2.2.2.2.1 a.2.2.2.2.1).2.2).isSome) then
 some ((q9 k a b 2 (-1) (WU k (wX k a.2.2.2.2.2.2.2.2.2.1 (0, a.2.2.2.1)).1 a.2.2.2.2.2.2.2.2.2.2.1 a.2.2.2.2.1).2.2).1, (q9 k a b 2 (-1) (WU k (wX k a.2.2.2.2.2.2.2.2.2.1 (0, a.2.2.2.1)).1 a.2.2.2.2.2.2.2.2.2.2.1 a.2.2.2.2.1).2.2).2)
 else none
 else
 ZN k a b k ((WU k (wX k a.2.2.2.2.2.2.2.2.2.1 (0, a.2.2.2.1)).1 a.2.2.2.2.2.2.2.2.2.2.1 a.2.2.2.2.1).1) a.2.2.2.2.2.2.2.2.2.2.2.1 (↑ (qe a.2.2.2.2.2.2.2.2.2.2.2.1) : Int) 0 a b ([])
 else none
 else
 bif ((wX k a.2.2.2.2.2.2.2.2.2.1 ((0 : Int), a.2.2.2.1)).2 != (0 : Int)) then
 if ((wU k a b 2 (-1) (wX k a.2.2.2.2.2.2.2.2.2.1 (0, a.2.2.2.1)).2).isSome) then
 some ((q9 k a b 2 (-1) (wX k a.2.2.2.2.2.2.2.2.2.1 (0, a.2.2.2.1)).2).1, (q9 k a b 2 (-1) (wX k a.2.2.2.2.2.2.2.2.2.1 (0, a.2.2.2.1)).2).2)
 else none
 else
 ZN k a b k ([]) a.2.2.2.2.2.2.2.2.2.2.2.1 (↑ (qe a.2.2.2.2.2.2.2.2.2.2.2.1) : Int) 0 a b ([])
 else none
 else none
def qgi := fun k a b => (qmz k a b).getD ((T17).dflt, [])
def qnp (k : Nat) : Ke := (37, fun
 | [.ptr _ _ _] => some [true]
 | _ => none, fun
 | [.ptr 0 0 0], [.var 140 d, .row 54 tt_22_ qt_22] => (qW [] T17 (d.take 22)).bind fun a => (qE tt_22_ T18 qt_22).bind fun b => some (.one (qoq (qgi k a b), qsJ a b (qgi k a b)))
 | _, _ => none)
def qI0 (k : Nat) : Calld := qD [qaF k, qex k, qn0 k, qMc k, qOr k]
def qC6 : List (Nat × List Cmd) := [(17, [.frz 7 false (RTy.list T21), .row 8 45 T4, .autoB [0, 7, 8, 93, 94, 95] false [1]]), (23, [.autoB [0, 7, 8, 112, 113] false [1]])]
abbrev qIP := fun a b => EE Tryz.f37 2 qoq (qsJ a b)
theorem qhk (k a b) : ∀ j, (∀ {y0 y1 y2 y3 y4 y5 y6}, qIP a b (Qc Tryz.f37 17) (qzH a b y0 y1 y2 y3 y4 y5 y6) (ZN k a b j y0 y1 y2 y3 y4 y5 y6)) ∧ (∀ {y0 y1 y2 y3 y4 y5}, qIP a b (Qc Tryz.f37 23) (qEV a b y0 y1 y2 y3 y4 y5) (qgs k a b j y0 y1 y2 y3 y4 y5))
 | 0 => by and_intros <;> intros <;> exact e0
 | j + 1 => by
  have ih := @qhk k a b j
  have g := @go (qI0 k) [] qC6 [.autoB [] true [1]]
  refine ⟨?_, ?_⟩
  ·intro y0 y1 y2 y3 y4 y5 y6 r h
   rw [ZN] at h
   exact g (gS h (fun h => qS h fun h => gS h (fun h => qu h id fun h => gD h 17 ih.1) fun h => gD h 17 ih.1) fun h => gD h 23 ih.2)
  ·intro y0 y1 y2 y3 y4 y5 r h
   rw [qgs] at h
   exact g (gS h (fun h => gS h (fun h => qu h id fun h => gU1 h (.cut 23 (Qc Tryz.f37 23) ⟨qI 143 [(0, .ptr 0 0 0), (7, .r (.ro T21 y0)), (8, .own 1000000 0), (112, .r (.v (.int .i64 y1))), (113, .r (.v (.int .i64 (qa .i64 (y2 + 1)))))], [(0, 0, .var 140 ((qy (qr T17 y3)) ++ [.own 1 1])), (1, 1, .row 54 T18 y4), (1000000, 0, .row 45 T4 y5)]⟩) fun h => qu h wN fun h => gL h) fun h => gN h (fun q => qf q.1 (qf q.2.1 (qf q.2.2.1 (qf q.2.2.2.1 (qf q.2.2.2.2.1 (qf (qNp q.2.2.2.2.2) qR)))))) fun h => gS h (fun h => qu h wN fun h => gL h) fun h => gD h 23 ih.2) fun h => gL h)
theorem qO8 (k a b r) (h : qmz k a b = some r): qIA a b r := qN Tryz.f37 (go (qI0 k) [] qC6 [.autoB [] true [1]] (qu h qji fun h => gS h (fun h => qu h wN fun h => gL h) fun h => gS h (fun h => qS h fun h => gS h (fun h => qu h wN fun h => gL h) fun h => qu h qpb fun h => gS h (fun h => qu h qww fun h => gS h (fun h => qu h wN fun h => gL h) fun h => gD h 17 (qhk k a b k).1) fun h => gS h (fun h => qu h wN fun h => gL h) fun h => gD h 17 (qhk k a b k).1) fun h => gS h (fun h => qu h wN fun h => gL h) fun h => qu h qpb fun h => gS h (fun h => qu h qww fun h => gS h (fun h => qu h wN fun h => gL h) fun h => gD h 17 (qhk k a b k).1) fun h => gS h (fun h => qu h wN fun h => gL h) fun h => gD h 17 (qhk k a b k).1))
theorem qBx {k a b} (h : (qmz k a b).isSome): qIA a b (qgi k a b) := qJ h (qO8 k a b)
end
end Go.AM
namespace Go.AM
open Go Go.Proofs
noncomputable section
end
end Go.AM
namespace Go.AM
open Go Go.Proofs
noncomputable section
def qA7 (r : T17.T) : AV := .sub 2 0 1 0 1
def qIN (a : T17.T) (b : List T18.T) (r : T17.T) : List (Nat × Blk) := [(0, .var 140 ((qy (qr T17 r)) ++ [.own 1 0])), (0, .row 54 T18 b), (0, .var 1 [.fn (Fn.func 37) [.ptr 0 0 0] []])]
abbrev qOt (a : T17.T) (b : List T18.T) (r : T17.T) : Prop := CC Tryz.prog 36 [.ptr 0 0 0] [.var 140 (qy (qr T17 a) ++ [.own 1 0]), .row 54 T18 b] (qA7 r) (qIN a b r)
def qxB (k : Nat) (a : T17.T) (b : List T18.T) : Option T17.T :=
 some a
def qze := fun k a b => (qxB k a b).getD (T17).dflt
def qHv (k : Nat) : Ke := (36, fun
 | [.ptr _ _ _] => some [true]
 | _ => none, fun
 | [.ptr 0 0 0], [.var 140 d, .row 54 tx_22_ qx_22] => (qW [] T17 (d.take 22)).bind fun a => (qE tx_22_ T18 qx_22).bind fun b => some (.one (qA7 (qze k a b), qIN a b (qze k a b)))
 | _, _ => none)
theorem qRL (k a b r) (h : qxB k a b = some r): qOt a b r := qN Tryz.f36 (go (qD [qnp k]) [] [] [.autoB [2] true []] (gL h))
theorem qRS {k a b} (h : (qxB k a b).isSome): qOt a b (qze k a b) := qJ h (qRL k a b)
abbrev qnr : Type := List T18.T × Int
def qoJ (r : qnr) : AV := .tup [ro T18 r.1, ri r.2]
abbrev qIK (a : T17.T) (r : qnr) : Prop := CC Tryz.prog 33 [.agg (qy (qr T17 a)), .r (.v (.func (.func 36) #[] #[]))] [] (qoJ r) (nb r)
def qtd := fun y0 y1 => (⟨qI 29 [(6, .ptr 1000000 0 0), (16, .sub 1000002 0 1 0 1), (17, ri 1), (18, ri 0)], [(1000000, 0, .var 140 ((qy (qr T17 y0)) ++ [.own 1000001 0])), (1000001, 0, .row 54 T18 y1), (1000002, 0, .var 1 [.fn (Fn.func 37) [.ptr 1000000 0 0] []])]⟩ : St)
def quh := fun y0 y1 => (⟨qI 29 [(6, .ptr 1000000 0 0), (16, .sub 1000002 0 1 0 1), (17, ri 1), (18, ri 1)], [(1000000, 0, .var 140 ((qy (qr T17 y0)) ++ [.own 1000001 0])), (1000001, 0, .row 54 T18 y1), (1000002, 0, .var 1 [.fn (Fn.func 37) [.ptr 1000000 0 0] []])]⟩ : St)
mutual
def qdC (k : Nat) : Nat → T17.T → List T18.T → Option qnr
 | 0, _, _ => none
 | j + 1, y0, y1 =>
 if ((0 : Int) ≤ (0 : Int)) ∧ ((0 : Int) < (↑ (1 : Nat) : Int)) then
 if ((qmz k y0 y1).isSome) then
 qdS k j ((qgi k y0 y1).1) ((qgi k y0 y1).2)
 else none
 else none
def qdS (k : Nat) : Nat → T17.T → List T18.T → Option qnr
 | 0, _, _ => none
 | j + 1, y0, y1 =>
 some (y1, 0)
end
def qrg (k : Nat) (a : T17.T) : Option qnr :=
 if ((qbd k a).isSome) then
 bif (qcJ k a) then
 some ([], 8)
 else
 if ((qxB k a []).isSome) then
 qdC k k (qze k a []) ([])
 else none
 else none
def qrf := fun k a => (qrg k a).getD ([], 0)
def qPY (k : Nat) : Ke := (33, fun
 | [_, .r (.v (.func (.func 36) _ _))] => some [false, false]
 | _ => none, fun
 | [.agg b, .r (.v (.func (.func 36) _ _))], [] => (qW [] T17 b).bind fun a => some (.one (qoJ (qrf k a), []))
 | _, _ => none)
def qJm (k : Nat) : Calld := qD [qnu k, qnp k, qHv k]
def qAc : List (Nat × List Cmd) := [(5, [.key 18, .autoB [6, 16, 17, 18] false []])]
abbrev qHq := EP Tryz.f33 0 qoJ nb
theorem qzY (k) : ∀ j, (∀ {y0 y1}, qHq 5 (qtd y0 y1) (qdC k j y0 y1)) ∧ (∀ {y0 y1}, qHq 5 (quh y0 y1) (qdS k j y0 y1))
 | 0 => by and_intros <;> intros <;> exact e0
 | j + 1 => by
  have ih := @qzY k j
  have g := @go (qJm k) [] qAc [.frz 4 false (RTy.list T18), .autoB [4, 5] true []]
  refine ⟨?_, ?_⟩
  ·intro y0 y1 r h
   rw [qdC] at h
   exact g (gU1 h (.leaf (.tup [.r (.ro T18 y1), .r (.v (.int .i64 0))]) []) fun h => qS h fun h => qu h qBx fun h => gD h 20005 ih.2)
  ·intro y0 y1 r h
   rw [qdS] at h
   exact g (gU2 h (.stuck 5001) fun h => gL h)
theorem qRs (k a r) (h : qrg k a = some r): qIK a r := qN Tryz.f33 (go (qJm k) [] qAc [.frz 4 false (RTy.list T18), .autoB [4, 5] true []] (qu h qm7 fun h => qB h fun h => qu h qRS fun h => gD h 10005 (qzY k k).1))
theorem qOp {k a} (h : (qrg k a).isSome): qIK a (qrf k a) := qJ h (qRs k a)
abbrev qGm : Type := List T18.T × Int
def qE3 (r : qGm) : AV := .tup [ro T18 r.1, ri r.2]
abbrev qN0 (a : T17.T) (r : qGm) : Prop := CC Tryz.prog 15 [.agg (qy (qr T17 a))] [] (qE3 r) (nb r)
def qx4 (k : Nat) (a : T17.T) : Option qGm :=
 if ((qrg k a).isSome) then
 some ((qrf k a).1, (qrf k a).2)
 else none
def qnX := fun k a => (qx4 k a).getD ([], 0)
def qR5 (k : Nat) : Ke := (15, mo 1, fun
 | [.agg b], [] => (qW [] T17 b).bind fun a => some (.one (qE3 (qnX k a), []))
 | _, _ => none)
theorem qRO (k a r) (h : qx4 k a = some r): qN0 a r := qN Tryz.f15 (go (qD [qHv k, qPY k]) [] [] [.frz 2 false (RTy.list T18), .autoB [2, 3] true []] (qu h qOp fun h => gL h))
theorem qSc {k a} (h : (qx4 k a).isSome): qN0 a (qnX k a) := qJ h (qRO k a)
end
abbrev wP := Int × Int × Int
theorem WP (k : Nat) (b : T17.T) (fnd : List wP) (x y z : Int) (h : fnd.length ≤ 1000000) : wU k b fnd x y z = some (b, fnd ++ [(x, y, z)]) := by
 unfold wU
 rw [qd (by simp only [qk]; omega)]
theorem ZE (k : Nat) (b : T17.T) (fnd : List wP) (x y z : Int) (h : fnd.length ≤ 1000000) : q9 k b fnd x y z = (b, fnd ++ [(x, y, z)]) := by
 unfold q9; rw [WP k b fnd x y z h]; rfl
end Go.AM
namespace Go.AM
open Go
abbrev Rn := Int × Int × Bool   -- At, Len, Back
def good (r : Rn) : Prop := 1 ≤ r.2.1 ∧ r.2.1 ≤ 17179869184 ∧ 0 ≤ r.1 ∧ r.1 < 17179869184 ∧ (r.2.2 = true → 0 ≤ r.1 - r.2.1 + 1) ∧ (r.2.2 = false → r.1 + r.2.1 ≤ 17179869184)
instance (r : Rn) : Decidable (good r) := by unfold good; infer_instance
def qv : List Rn → Int
 | [] => 0
 | r :: t => r.2.1 + qv t
def goods : List Rn → Prop
 | [] => True
 | r :: t => good r ∧ goods t
instance : (l : List Rn) → Decidable (goods l)
 | [] => .isTrue trivial
 | r :: t => @instDecidableAnd _ _ _ (instDecidableGoods t)
def chk (m : List Rn) : Int := if m.length > 256 then 8 else if goods m then (if qv m > 17179869184 then 21 else 0) else 1
theorem W2 (a b : List Rn) : qv (a ++ b) = qv a + qv b := by
 induction a with
 | nil => simp [qv]
 | cons r t ih => simp only [qpk, qv, ih]; omega
theorem Qk (a b : List Rn) : goods (a ++ b) ↔ goods a ∧ goods b := by
 induction a with
 | nil => simp [goods]
 | cons r t ih => simp only [qpk, goods, ih]; exact and_assoc.symm
theorem goods.mem : ∀ {l : List Rn}, goods l → ∀ r ∈ l, good r
 | [], _, r, h => by simp at h
 | u :: t, ⟨h1, h2⟩, r, hr => by
  rcases qK.1 hr with rfl | hr
  ·exact h1
  ·exact goods.mem h2 r hr
theorem goods.of : ∀ {l : List Rn}, (∀ r ∈ l, good r) → goods l
 | [], _ => trivial
 | u :: t, h => ⟨h u (by simp), goods.of fun r hr => h r (by simp [hr])⟩
theorem zf : ∀ {l : List Rn}, goods l → (l.length : Int) ≤ qv l
 | [], _ => by simp [qv]
 | r :: t, ⟨h1, h2⟩ => by
  have := zf h2
  have := h1.1
  simp only [qv, wc]; omega
structure Chk (m : List Rn) : Prop where
 len : m.length ≤ 256
 goods : goods m
 tot : qv m ≤ 17179869184
theorem wW {m : List Rn} : chk m = 0 ↔ Chk m := by
 unfold chk
 constructor
 ·intro h
  by_cases h1 : m.length > 256
  ·rw [qd h1] at h; omega
  ·rw [qm h1] at h
   by_cases h2 : goods m
   ·rw [qd h2] at h
    by_cases h3 : qv m > 17179869184
    ·rw [qd h3] at h; omega
    ·exact ⟨by omega, h2, by omega⟩
   ·rw [qm h2] at h; omega
 ·rintro ⟨h1, h2, h3⟩
  rw [qm (by omega), qd h2, qm (by omega)]
def wh (r : Rn) (x : Int) : Int := if r.2.2 = true then r.1 - x else r.1 + x
def wb : List Rn → Int → Int
 | [], _ => 0
 | r :: t, x => if x < r.2.1 then wh r x else wb t (x - r.2.1)
def lo (r : Rn) : Int := if r.2.2 = true then r.1 - r.2.1 + 1 else r.1
def hi (r : Rn) : Int := if r.2.2 = true then r.1 else r.1 + r.2.1 - 1
def vX (r : Rn) : Sp := (lo r, hi r + 1)
theorem good.lohi {r : Rn} (h : good r) : 0 ≤ lo r ∧ lo r ≤ hi r ∧ hi r < 17179869184 ∧ hi r - lo r + 1 = r.2.1 := by
 obtain ⟨h1, h2, h3, h4, h5, h6⟩ := h
 unfold lo hi
 cases hb : r.2.2
 ·have := h6 hb; simp only [qG, if_false]; omega
 ·have := h5 hb; simp only [if_true]; omega
theorem qi4 {r : Rn} {x : Int} (h0 : 0 ≤ x) (h1 : x < r.2.1) : lo r ≤ wh r x ∧ wh r x ≤ hi r := by
 unfold lo hi wh
 cases r.2.2 <;> simp only [qG, if_false, if_true] <;> omega
def wG (r : Rn) (x n : Int) : Rn := (wh r x, n, r.2.2 && decide (n > 1))
def wC (c r : Rn) : Int := r.1 - wh c (c.2.1 - 1)
def apart (c r : Rn) : Bool := (wC c r != 1 && wC c r != -1) || (decide (c.2.1 > 1) && !((wC c r == -1) == c.2.2))
def vn (b : List Rn) (r : Rn) : List Rn :=
 if r.2.1 < 1 then b else match b.getLast? with
  | none => b ++ [wG r 0 r.2.1]
  | some c => bif apart c r then b ++ [wG r 0 r.2.1]
   else bif decide (r.2.1 > 1) && !(r.2.2 == (wC c r == -1)) then b.dropLast ++ [(c.1, c.2.1 + 1, wC c r == -1), wG r 1 (r.2.1 - 1)]
   else b.dropLast ++ [(c.1, c.2.1 + r.2.1, wC c r == -1)]
def zl (b : List Rn) (l : List Rn) : List Rn := l.foldl vn b
def wg : List Rn → Int → Int → List Rn
 | [], _, _ => []
 | r :: t, a, b =>
  (if max a 0 < min b r.2.1 then [wG r (max a 0) (min b r.2.1 - max a 0)] else []) ++ wg t (a - r.2.1) (b - r.2.1)
def vK (p : Rn) : Rn := (wh p (p.2.1 - 1), p.2.1, !p.2.2 && decide (p.2.1 > 1))
def steps (outer : List Rn) (r : Rn) : List Rn :=
 if r.2.2 = true then ((wg outer (r.1 - r.2.1 + 1) (r.1 + 1)).reverse).map vK else wg outer r.1 (r.1 + r.2.1)
def fitsIn (n : Int) : List Rn → Prop
 | [] => True
 | r :: t => hi r < n ∧ fitsIn n t
instance (n : Int) : (l : List Rn) → Decidable (fitsIn n l)
 | [] => .isTrue trivial
 | r :: t => @instDecidableAnd _ _ _ (instDecidableFitsIn n t)
def Yb (inner outer : List Rn) : List Rn := inner.foldl (fun b r => zl b (steps outer r)) []
def XH (inner outer : List Rn) : List Rn × Int :=
 if chk inner ≠ 0 then ([], chk inner) else if chk outer ≠ 0 then ([], chk outer) else if ¬ fitsIn (qv outer) inner then ([], 21)
 else if (Yb inner outer).length > 256 then ([], 8) else (Yb inner outer, 0)
end Go.AM
namespace Go.AM
open Go Go.Proofs
noncomputable section
abbrev qJi (a : List T3.T) (r : Int) : Prop := CC Tryz.prog 119 [ro T3 a] [] (ri r) (nb r)
def qFT := fun y0 y1 y2 y3 => (⟨qI 64 [(3, ri y0), (9, ro T3 y1), (10, ri y2), (11, ri y3)], []⟩ : St)
def qbl (k : Nat) : Nat → Int → List T3.T → Int → Int → Option Int
 | 0, _, _, _, _ => none
 | j + 1, y0, y1, y2, y3 =>
 bif y3 < y2 then
 if (0 ≤ y3) ∧ (y3 < y1.length) then
 bif (decide ((y1.getD y3.toNat T3.dflt).2.1 < (1 : Int)) || decide ((y1.getD y3.toNat T3.dflt).2.1 > (17179869184 : Int)) || decide ((y1.getD y3.toNat T3.dflt).1 < (0 : Int)) || decide ((y1.getD y3.toNat T3.dflt).1 ≥ (17179869184 : Int))) then
 some 1
 else
 bif ((y1.getD y3.toNat T3.dflt).2.2 && decide (qa .i64 (qa .i64 ((y1.getD y3.toNat T3.dflt).1 - (y1.getD y3.toNat T3.dflt).2.1) + (1 : Int)) < (0 : Int)) || (! (y1.getD y3.toNat T3.dflt).2.2) && decide (qa .i64 ((y1.getD y3.toNat T3.dflt).1 + (y1.getD y3.toNat T3.dflt).2.1) > (17179869184 : Int))) then
 some 1
 else
 qbl k j (qa .i64 (y0 + (y1.getD y3.toNat T3.dflt).2.1)) y1 y2 (qa .i64 (y3 + 1))
 else none
 else
 bif y0 > 17179869184 then
 some 21
 else
 some 0
def Ve (k : Nat) (a : List T3.T) : Option Int :=
 bif (↑a.length : Int) > (256 : Int) then
 some 8
 else
 qbl k k 0 a (↑a.length : Int) 0
def vE := fun k a => (Ve k a).getD 0
def qcq (k : Nat) : Ke := (119, mo 1, fun
 | [.r (.ro d b)], [] => (qE d T3 b).bind fun a => some (.one (ri (vE k a), []))
 | _, _ => none)
def qCc : List (Nat × List Cmd) := [(5, [.autoB [3, 9, 10, 11] false []])]
abbrev qSm := EP Tryz.f119 0 ri nb
theorem qDw (k) : ∀ j, (∀ y0 y1 y2 y3, qSm 5 (qFT y0 y1 y2 y3) (qbl k j y0 y1 y2 y3))
 | 0 => by intros; exact e0
 | j + 1 => by
  have ih := @qDw k j
  ·intro y0 y1 y2 y3 r h
   rw [qbl] at h
   exact go (qD []) [] qCc [.autoB [2] true []] (gS h (fun h => qS h fun h => qB h fun h => qB h fun h => gC h 5 (ih _ _ _ _ _)) fun h => qB h fun h => gL h)
theorem qPP (k a r) (h : Ve k a = some r): qJi a r := qN Tryz.f119 (go (qD []) [] qCc [.autoB [2] true []] (qB h fun h => gC h 5 ((qDw k k) _ _ _ _ _)))
theorem qcl {k a} (h : (Ve k a).isSome): qJi a (vE k a) := qJ h (qPP k a)
abbrev qHh (a : List T3.T) (r : Int) : Prop := CC Tryz.prog 171 [ro T3 a] [] (ri r) (nb r)
def qFX := fun y0 y1 y2 y3 => (⟨qI 18 [(3, ri y0), (6, ro T3 y1), (7, ri y2), (8, ri y3)], []⟩ : St)
def qbg (k : Nat) : Nat → Int → List T3.T → Int → Int → Option Int
 | 0, _, _, _, _ => none
 | j + 1, y0, y1, y2, y3 =>
 bif y3 < y2 then
 if (0 ≤ y3) ∧ (y3 < y1.length) then
 qbg k j (qa .i64 (y0 + (y1.getD y3.toNat T3.dflt).2.1)) y1 y2 (qa .i64 (y3 + 1))
 else none
 else
 some y0
def qcG (k : Nat) (a : List T3.T) : Option Int :=
 qbg k k 0 a (↑a.length : Int) 0
def qfL := fun k a => (qcG k a).getD 0
def qsR (k : Nat) : Ke := (171, mo 1, fun
 | [.r (.ro d b)], [] => (qE d T3 b).bind fun a => some (.one (ri (qfL k a), []))
 | _, _ => none)
def qAS : List (Nat × List Cmd) := [(3, [.autoB [3, 6, 7, 8] false []])]
abbrev qSF := EP Tryz.f171 0 ri nb
theorem qEx (k) : ∀ j, (∀ y0 y1 y2 y3, qSF 3 (qFX y0 y1 y2 y3) (qbg k j y0 y1 y2 y3))
 | 0 => by intros; exact e0
 | j + 1 => by
  have ih := @qEx k j
  ·intro y0 y1 y2 y3 r h
   rw [qbg] at h
   exact go (qD []) [] qAS [.autoB [2] true []] (gS h (fun h => qS h fun h => gC h 3 (ih _ _ _ _ _)) fun h => gL h)
theorem qRi (k a r) (h : qcG k a = some r): qHh a r := qN Tryz.f171 (go (qD []) [] qAS [.autoB [2] true []] (gC h 3 ((qEx k k) _ _ _ _ _)))
theorem qtT {k a} (h : (qcG k a).isSome): qHh a (qfL k a) := qJ h (qRi k a)
abbrev qIX (a : T3.T) (b : Int) (r : Int) : Prop := CC Tryz.prog 209 [.agg (qy (qr T3 a)), ri b] [] (ri r) (nb r)
def qad (k : Nat) (a : T3.T) (b : Int) : Option Int :=
 bif a.2.2 then
 some (qa .i64 (a.1 - b))
 else
 some (qa .i64 (a.1 + b))
def vl := fun k a b => (qad k a b).getD 0
def qee (k : Nat) : Ke := (209, mo 2, fun
 | [.agg d, .r (.v (.int .i64 b))], [] => (qW [] T3 d).bind fun a => some (.one (ri (vl k a b), []))
 | _, _ => none)
theorem qOj (k a b r) (h : qad k a b = some r): qIX a b r := qN Tryz.f209 (go (qD []) [] [] [.autoB [4] true []] (qB h fun h => gL h))
theorem qiT {k a b} (h : (qad k a b).isSome): qIX a b (vl k a b) := qJ h (qOj k a b)
def qwF (r : T3.T) : AV := .agg (qy (qr T3 r))
abbrev qIj (a : T3.T) (b : Int) (d : Int) (r : T3.T) : Prop := CC Tryz.prog 272 [.agg (qy (qr T3 a)), ri b, ri d] [] (qwF r) (nb r)
def XC (k : Nat) (a : T3.T) (b : Int) (d : Int) : Option T3.T :=
 if ((qad k a b).isSome) then
 some (vl k a b, (d, a.2.2 && decide (d > 1)))
 else none
def QZ := fun k a b d => (XC k a b d).getD (T3).dflt
def qh9 (k : Nat) : Ke := (272, mo 3, fun
 | [.agg e, .r (.v (.int .i64 b)), .r (.v (.int .i64 d))], [] => (qW [] T3 e).bind fun a => some (.one (qwF (QZ k a b d), []))
 | _, _ => none)
theorem qRH (k a b d r) (h : XC k a b d = some r): qIj a b d r := qN Tryz.f272 (go (qD [qee k]) [] [] [.autoB [6] true []] (qu h qiT fun h => gL h))
theorem qd7 {k a b d} (h : (XC k a b d).isSome): qIj a b d (QZ k a b d) := qJ h (qRH k a b d)
def qwj (r : List T3.T) : AV := .tup []
def qCO (a : List T3.T) (b : T3.T) (r : List T3.T) : List (Nat × Blk) := [(0, .var 287 [.own 1 1]), (1, .row 49 T3 r)]
abbrev qxO (a : List T3.T) (b : T3.T) (r : List T3.T) : Prop := CC Tryz.prog 241 [.ptr 0 0 0, .agg (qy (qr T3 b))] [.var 287 [.own 1 0], .row 49 T3 a] (qwj r) (qCO a b r)
def qrs (g : List T3.T → T3.T → Option (List T3.T)) (a : List T3.T) (b : T3.T) : (List T3.T) := (g a b).getD []
def va : Nat → List T3.T → T3.T → Option (List T3.T)
 | 0, _, _ => none
 | k + 1, a, b =>
 bif b.2.1 < (1 : Int) then
 some a
 else
 bif ((↑a.length : Int) == (0 : Int)) then
 if ((XC k b 0 b.2.1).isSome) ∧ ((a.length + [QZ k b (0 : Int) b.2.1].length) * (24 : Nat) ≤ (140737488355328 : Nat)) then
 some (a ++ [QZ k b 0 b.2.1])
 else none
 else
 if ((0 : Int) ≤ qa .i64 ((↑a.length : Int) - (1 : Int))) ∧ (qa .i64 ((↑a.length : Int) - (1 : Int)) < (↑a.length : Int)) then
 if ((qad k (a.getD (qa .i64 ((↑a.length : Int) - 1)).toNat T3.dflt) (qa .i64 ((a.getD (qa .i64 ((↑a.length : Int) - 1)).toNat T3.dflt).2.1 - 1))).isSome) then
 bif (qa .i64 (b.1 - vl k (a.getD (qa .i64 ((↑a.length : Int) - (1 : Int))).toNat T3.dflt) (qa .i64 ((a.getD (qa .i64 ((↑a.length : Int) - (1 : Int))).toNat T3.dflt).2.1 - (1 : Int)))) != (1 : Int) && qa .i64 (b.1 - vl k (a.getD (qa .i64 ((↑a.length : Int) - (1 : Int))).toNat T3.dflt) (qa .i64 ((a.getD (qa .i64 ((↑a.length : Int) - (1 : Int))).toNat T3.dflt).2.1 - (1 : Int)))) != (-1 : Int) || decide ((a.getD (qa .i64 ((↑a.length : Int) - (1 : Int))).toNat T3.dflt).2.1 > (1 : Int)) && (! (qa .i64 (b.1 - vl k (a.getD (qa .i64 ((↑a.length : Int) - (1 : Int))).toNat T3.dflt) (qa .i64 ((a.getD (qa .i64 ((↑a.length : Int) - (1 : Int))).toNat T3.dflt).2.1 - (1 : Int)))) == (-1 : Int)) == (a.getD (qa .i64 ((↑a.length : Int) - (1 : Int))).toNat T3.dflt).2.2)) then
 if ((XC k b 0 b.2.1).isSome) ∧ ((a.length + [QZ k b (0 : Int) b.2.1].length) * (24 : Nat) ≤ (140737488355328 : Nat)) then
 some (a ++ [QZ k b 0 b.2.1])
 else none
 else
 bif (decide (b.2.1 > (1 : Int)) && b.2.2 == (qa .i64 (b.1 - vl k (a.getD (qa .i64 ((↑a.length : Int) - (1 : Int))).toNat T3.dflt) (qa .i64 ((a.getD (qa .i64 ((↑a.length : Int) - (1 : Int))).toNat T3.dflt).2.1 - (1 : Int)))) == (-1 : Int))) then
 if ((0 : Int) ≤ qa .i64 ((↑a.length : Int) - (1 : Int))) ∧ (qa .i64 ((↑a.length : Int) - (1 : Int)) < (↑a.length : Int)) then
 if ((XC k b b.2.1 (qa .i64 (b.2.1 - b.2.1))).isSome) ∧ ((va k (a.set (qa .i64 ((↑a.length : Int) - 1)).toNat ((a.getD (qa .i64 ((↑a.length : Int) - 1)).toNat T3.dflt).1, qa .i64 ((a.getD (qa .i64 ((↑a.length : Int) - 1)).toNat T3.dflt).2.1 + b.2.1), qa .i64 (b.1 - vl k (a.getD (qa .i64 ((↑a.length : Int) - 1)).toNat T3.dflt) (qa .i64 ((a.getD (qa .i64 ((↑a.length : Int) - 1)).toNat T3.dflt).2.1 - 1))) == (-1))) (QZ k b b.2.1 (qa .i64 (b.2.1 - b.2.1)))).isSome) then
 some (qrs (va k) (a.set (qa .i64 ((↑a.length : Int) - 1)).toNat ((a.getD (qa .i64 ((↑a.length : Int) - 1)).toNat T3.dflt).1, qa .i64 ((a.getD (qa .i64 ((↑a.length : Int) - 1)).toNat T3.dflt).2.1 + b.2.1), qa .i64 (b.1 - vl k (a.getD (qa .i64 ((↑a.length : Int) - 1)).toNat T3.dflt) (qa .i64 ((a.getD (qa .i64 ((↑a.length : Int) - 1)).toNat T3.dflt).2.1 - 1))) == (-1))) (QZ k b b.2.1 (qa .i64 (b.2.1 - b.2.1))))
 else none
 else none
 else
 if ((0 : Int) ≤ qa .i64 ((↑a.length : Int) - (1 : Int))) ∧ (qa .i64 ((↑a.length : Int) - (1 : Int)) < (↑a.length : Int)) then
 if ((XC k b 1 (qa .i64 (b.2.1 - 1))).isSome) ∧ ((va k (a.set (qa .i64 ((↑a.length : Int) - 1)).toNat ((a.getD (qa .i64 ((↑a.length : Int) - 1)).toNat T3.dflt).1, qa .i64 ((a.getD (qa .i64 ((↑a.length : Int) - 1)).toNat T3.dflt).2.1 + 1), qa .i64 (b.1 - vl k (a.getD (qa .i64 ((↑a.length : Int) - 1)).toNat T3.dflt) (qa .i64 ((a.getD (qa .i64 ((↑a.length : Int) - 1)).toNat T3.dflt).2.1 - 1))) == (-1))) (QZ k b 1 (qa .i64 (b.2.1 - 1)))).isSome) then
 some (qrs (va k) (a.set (qa .i64 ((↑a.length : Int) - 1)).toNat ((a.getD (qa .i64 ((↑a.length : Int) - 1)).toNat T3.dflt).1, qa .i64 ((a.getD (qa .i64 ((↑a.length : Int) - 1)).toNat T3.dflt).2.1 + 1), qa .i64 (b.1 - vl k (a.getD (qa .i64 ((↑a.length : Int) - 1)).toNat T3.dflt) (qa .i64 ((a.getD (qa .i64 ((↑a.length : Int) - 1)).toNat T3.dflt).2.1 - 1))) == (-1))) (QZ k b 1 (qa .i64 (b.2.1 - 1))))
 else none
 else none
 else none
 else none
def qcZ := fun k a b => (va k a b).getD []
def qfd (k : Nat) : Ke := (241, fun
 | [.ptr _ _ _, _] => some [true, false]
 | _ => none, fun
 | [.ptr 0 0 0, .agg d], [.var 287 [.own 1 0], .row 49 tb_0_ qb_0] => (qW [] T3 d).bind fun b => (qE tb_0_ T3 qb_0).bind fun a => some (.one (qwj (qcZ k a b), qCO a b (qcZ k a b)))
 | _, _ => none)
theorem qAg : ∀ (k : Nat) (a : List T3.T) (b : T3.T) (r : List T3.T), va k a b = some r → qxO a b r
 | 0, a, b, r, h => by simp [va] at h
 | k + 1, a, b, r, h => by
  have ih : ∀ {a : List T3.T} {b : T3.T}, (va k a b).isSome = true → qxO a b (qcZ k a b) := fun {a} {b} h => qJ h (qAg k a b)
  refine CC.of (fn := Tryz.f241) (by kernel_rfl) (by kernel_rfl) (by kernel_rfl) (by kernel_rfl) ?_
  rw [va] at h
  exact go (qD [qee k, qh9 k, qfd k]) [] [] [.autoB [] true [1]] (qB h fun h => gS h (fun h => gN h (fun q => qf (qd7 q.1) (qf q.2 qR)) fun h => gL h) fun h => qS h fun h => qu h qiT fun h => gS h (fun h => gN h (fun q => qf (qd7 q.1) (qf q.2 qR)) fun h => gL h) fun h => gS h (fun h => qS h fun h => gN h (fun q => qf (qd7 q.1) (qf (ih q.2) qR)) fun h => gL h) fun h => qS h fun h => gN h (fun q => qf (qd7 q.1) (qf (ih q.2) qR)) fun h => gL h)
theorem qBp {k a b} (h : (va k a b).isSome): qxO a b (qcZ k a b) := qJ h (qAg k a b)
def qpg (r : List T3.T) : AV := .tup []
def qsh (a : List T3.T) (b : Int) (d : Int) (e : List T3.T) (r : List T3.T) : List (Nat × Blk) := [(0, .var 287 [.own 1 1]), (1, .row 49 T3 r)]
abbrev qHg (a : List T3.T) (b : Int) (d : Int) (e : List T3.T) (r : List T3.T) : Prop := CC Tryz.prog 240 [ro T3 a, ri b, ri d, .fn (.func 241) [.ptr 0 0 0] []] [.var 287 [.own 1 0], .row 49 T3 e] (qpg r) (qsh a b d e r)
def qFy := fun (a : List T3.T) (b : Int) (d : Int) (e : List T3.T) y0 y1 y2 y3 y4 y5 y6 => (⟨qI 46 [(1, ri y0), (2, ri y1), (3, .fn (Fn.func 241) [.ptr 0 0 0] []), (8, ri y2), (13, ro T3 y3), (14, ri y4), (15, ri y5)], [(0, 0, .var 287 [.own 1 1]), (1, 1, .row 49 T3 y6)]⟩ : St)
def Yj (k : Nat) (a : List T3.T) (b : Int) (d : Int) (e : List T3.T) : Nat → Int → Int → Int → List T3.T → Int → Int → List T3.T → Option (List T3.T)
 | 0, _, _, _, _, _, _, _ => none
 | j + 1, y0, y1, y2, y3, y4, y5, y6 =>
 bif y5 < y4 then
 if (0 ≤ y5) ∧ (y5 < y3.length) then
 bif (if y2 > y0 then y2 else y0) < if qa .i64 (y2 + (y3.getD y5.toNat T3.dflt).2.1) < y1 then qa .i64 (y2 + (y3.getD y5.toNat T3.dflt).2.1) else y1 then
 if ((XC k (y3.getD y5.toNat T3.dflt) (qa .i64 ((if y2 > y0 then y2 else y0) - y2)) (qa .i64 ((if qa .i64 (y2 + (y3.getD y5.toNat T3.dflt).2.1) < y1 then qa .i64 (y2 + (y3.getD y5.toNat T3.dflt).2.1) else y1) - if y2 > y0 then y2 else y0))).isSome) ∧ ((va k y6 (QZ k (y3.getD y5.toNat T3.dflt) (qa .i64 ((if y2 > y0 then y2 else y0) - y2)) (qa .i64 ((if qa .i64 (y2 + (y3.getD y5.toNat T3.dflt).2.1) < y1 then qa .i64 (y2 + (y3.getD y5.toNat T3.dflt).2.1) else y1) - if y2 > y0 then y2 else y0)))).isSome) then
 Yj k a b d e j y0 y1 (qa .i64 (y2 + (y3.getD y5.toNat T3.dflt).2.1)) y3 y4 (qa .i64 (y5 + 1)) (qcZ k y6 (QZ k (y3.getD y5.toNat T3.dflt) (qa .i64 ((if y2 > y0 then y2 else y0) - y2)) (qa .i64 ((if qa .i64 (y2 + (y3.getD y5.toNat T3.dflt).2.1) < y1 then qa .i64 (y2 + (y3.getD y5.toNat T3.dflt).2.1) else y1) - if y2 > y0 then y2 else y0))))
 else none
 else
 Yj k a b d e j y0 y1 (qa .i64 (y2 + (y3.getD y5.toNat T3.dflt).2.1)) y3 y4 (qa .i64 (y5 + 1)) y6
 else none
 else
 some y6
def qjj (k : Nat) (a : List T3.T) (b : Int) (d : Int) (e : List T3.T) : Option (List T3.T) :=
 Yj k a b d e k b d 0 a (↑a.length : Int) 0 e
def qjl := fun k a b d e => (qjj k a b d e).getD []
def qRf (k : Nat) : Ke := (240, fun
 | [_, _, _, .fn (.func 241) _ _] => some [false, false, false, true]
 | _ => none, fun
 | [.r (.ro g f), .r (.v (.int .i64 b)), .r (.v (.int .i64 d)), .fn (.func 241) [.ptr 0 0 0] []], [.var 287 [.own 1 0], .row 49 tf_f00_ qf_f00] => (qE g T3 f).bind fun a => (qE tf_f00_ T3 qf_f00).bind fun e => some (.one (qpg (qjl k a b d e), qsh a b d e (qjl k a b d e)))
 | _, _ => none)
def qEN : List (Nat × List Cmd) := [(2, [.autoB [1, 2, 3, 8, 13, 14, 15] false [1]])]
abbrev qSa := fun a b d e => EP Tryz.f240 2 qpg (qsh a b d e)
theorem qzj (k a b d e) : ∀ j, (∀ y0 y1 y2 y3 y4 y5 y6, qSa a b d e 2 (qFy a b d e y0 y1 y2 y3 y4 y5 y6) (Yj k a b d e j y0 y1 y2 y3 y4 y5 y6))
 | 0 => by intros; exact e0
 | j + 1 => by
  have ih := @qzj k a b d e j
  ·intro y0 y1 y2 y3 y4 y5 y6 r h
   rw [Yj] at h
   exact go (qD [qh9 k, qfd k]) [] qEN [.autoB [] true [1]] (gS h (fun h => qS h fun h => gS h (fun h => gN h (fun q => qf (qd7 q.1) (qf (qBp q.2) qR)) fun h => gC h 2 (ih _ _ _ _ _ _ _ _)) fun h => gC h 2 (ih _ _ _ _ _ _ _ _)) fun h => gL h)
theorem qRC (k a b d e r) (h : qjj k a b d e = some r): qHg a b d e r := qN Tryz.f240 (go (qD [qh9 k, qfd k]) [] qEN [.autoB [] true [1]] (gC h 2 ((qzj k a b d e k) _ _ _ _ _ _ _ _)))
theorem qRm {k a b d e} (h : (qjj k a b d e).isSome): qHg a b d e (qjl k a b d e) := qJ h (qRC k a b d e)
def qwz (r : List T3.T) : AV := .tup []
def qBh (a : T3.T) (b : List T3.T) (r : List T3.T) : List (Nat × Blk) := [(0, .var 43 [.own 1 1]), (1, .row 49 T3 r)]
abbrev qH8 (a : T3.T) (b : List T3.T) (r : List T3.T) : Prop := CC Tryz.prog 242 [.agg (qy (qr T3 a)), .ptr 0 0 0] [.var 43 [.own 1 0], .row 49 T3 b] (qwz r) (qBh a b r)
def qje (k : Nat) (a : T3.T) (b : List T3.T) : Option (List T3.T) :=
 if ((b.length + [a].length) * (24 : Nat) ≤ (140737488355328 : Nat)) then
 some (b ++ [a])
 else none
def qiW := fun k a b => (qje k a b).getD []
def qrU (k : Nat) : Ke := (242, fun
 | [_, .ptr _ _ _] => some [false, true]
 | _ => none, fun
 | [.agg d, .ptr 0 0 0], [.var 43 [.own 1 0], .row 49 tz00_ qz00] => (qW [] T3 d).bind fun a => (qE tz00_ T3 qz00).bind fun b => some (.one (qwz (qiW k a b), qBh a b (qiW k a b)))
 | _, _ => none)
theorem qQm (k a b r) (h : qje k a b = some r): qH8 a b r := qN Tryz.f242 (go (qD []) [] [] [.autoB [] true [1]] (qu h id fun h => gL h))
theorem qOU {k a b} (h : (qje k a b).isSome): qH8 a b (qiW k a b) := qJ h (qQm k a b)
def qoE (r : List T3.T) : AV := .tup []
def qrY (a : List T3.T) (b : Int) (d : Int) (e : List T3.T) (r : List T3.T) : List (Nat × Blk) := [(0, .var 43 [.own 1 1]), (1, .row 49 T3 r)]
abbrev qIT (a : List T3.T) (b : Int) (d : Int) (e : List T3.T) (r : List T3.T) : Prop := CC Tryz.prog 240 [ro T3 a, ri b, ri d, .fn (.func 242) [] [.ptr 0 0 0]] [.var 43 [.own 1 0], .row 49 T3 e] (qoE r) (qrY a b d e r)
def qFg := fun (a : List T3.T) (b : Int) (d : Int) (e : List T3.T) y0 y1 y2 y3 y4 y5 y6 => (⟨qI 46 [(1, ri y0), (2, ri y1), (3, .fn (Fn.func 242) [] [.ptr 0 0 0]), (8, ri y2), (13, ro T3 y3), (14, ri y4), (15, ri y5)], [(0, 0, .var 43 [.own 1 1]), (1, 1, .row 49 T3 y6)]⟩ : St)
def Yr (k : Nat) (a : List T3.T) (b : Int) (d : Int) (e : List T3.T) : Nat → Int → Int → Int → List T3.T → Int → Int → List T3.T → Option (List T3.T)
 | 0, _, _, _, _, _, _, _ => none
 | j + 1, y0, y1, y2, y3, y4, y5, y6 =>
 bif y5 < y4 then
 if (0 ≤ y5) ∧ (y5 < y3.length) then
 bif (if y2 > y0 then y2 else y0) < if qa .i64 (y2 + (y3.getD y5.toNat T3.dflt).2.1) < y1 then qa .i64 (y2 + (y3.getD y5.toNat T3.dflt).2.1) else y1 then
 if ((XC k (y3.getD y5.toNat T3.dflt) (qa .i64 ((if y2 > y0 then y2 else y0) - y2)) (qa .i64 ((if qa .i64 (y2 + (y3.getD y5.toNat T3.dflt).2.1) < y1 then qa .i64 (y2 + (y3.getD y5.toNat T3.dflt).2.1) else y1) - if y2 > y0 then y2 else y0))).isSome) ∧ ((qje k (QZ k (y3.getD y5.toNat T3.dflt) (qa .i64 ((if y2 > y0 then y2 else y0) - y2)) (qa .i64 ((if qa .i64 (y2 + (y3.getD y5.toNat T3.dflt).2.1) < y1 then qa .i64 (y2 + (y3.getD y5.toNat T3.dflt).2.1) else y1) - if y2 > y0 then y2 else y0))) y6).isSome) then
 Yr k a b d e j y0 y1 (qa .i64 (y2 + (y3.getD y5.toNat T3.dflt).2.1)) y3 y4 (qa .i64 (y5 + 1)) (qiW k (QZ k (y3.getD y5.toNat T3.dflt) (qa .i64 ((if y2 > y0 then y2 else y0) - y2)) (qa .i64 ((if qa .i64 (y2 + (y3.getD y5.toNat T3.dflt).2.1) < y1 then qa .i64 (y2 + (y3.getD y5.toNat T3.dflt).2.1) else y1) - if y2 > y0 then y2 else y0))) y6)
 else none
 else
 Yr k a b d e j y0 y1 (qa .i64 (y2 + (y3.getD y5.toNat T3.dflt).2.1)) y3 y4 (qa .i64 (y5 + 1)) y6
 else none
 else
 some y6
def qi7 (k : Nat) (a : List T3.T) (b : Int) (d : Int) (e : List T3.T) : Option (List T3.T) :=
 Yr k a b d e k b d 0 a (↑a.length : Int) 0 e
def qfC := fun k a b d e => (qi7 k a b d e).getD []
def qNh (k : Nat) : Ke := (240, fun
 | [_, _, _, .fn (.func 242) _ _] => some [false, false, false, true]
 | _ => none, fun
 | [.r (.ro g f), .r (.v (.int .i64 b)), .r (.v (.int .i64 d)), .fn (.func 242) [] [.ptr 0 0 0]], [.var 43 [.own 1 0], .row 49 tf_c00_ qf_c00] => (qE g T3 f).bind fun a => (qE tf_c00_ T3 qf_c00).bind fun e => some (.one (qoE (qfC k a b d e), qrY a b d e (qfC k a b d e)))
 | _, _ => none)
def qBR : List (Nat × List Cmd) := [(2, [.autoB [1, 2, 3, 8, 13, 14, 15] false [1]])]
abbrev qRT := fun a b d e => EP Tryz.f240 2 qoE (qrY a b d e)
theorem qDc (k a b d e) : ∀ j, (∀ y0 y1 y2 y3 y4 y5 y6, qRT a b d e 2 (qFg a b d e y0 y1 y2 y3 y4 y5 y6) (Yr k a b d e j y0 y1 y2 y3 y4 y5 y6))
 | 0 => by intros; exact e0
 | j + 1 => by
  have ih := @qDc k a b d e j
  ·intro y0 y1 y2 y3 y4 y5 y6 r h
   rw [Yr] at h
   exact go (qD [qh9 k, qrU k]) [] qBR [.autoB [] true [1]] (gS h (fun h => qS h fun h => gS h (fun h => gN h (fun q => qf (qd7 q.1) (qf (qOU q.2) qR)) fun h => gC h 2 (ih _ _ _ _ _ _ _ _)) fun h => gC h 2 (ih _ _ _ _ _ _ _ _)) fun h => gL h)
theorem qOD (k a b d e r) (h : qi7 k a b d e = some r): qIT a b d e r := qN Tryz.f240 (go (qD [qh9 k, qrU k]) [] qBR [.autoB [] true [1]] (gC h 2 ((qDc k a b d e k) _ _ _ _ _ _ _ _)))
theorem qQc {k a b d e} (h : (qi7 k a b d e).isSome): qIT a b d e (qfC k a b d e) := qJ h (qOD k a b d e)
abbrev qmg : Type := List T3.T
def qo0 (r : qmg) : AV := .tup []
def qtW (a : List T3.T) (b : List T3.T) (r : qmg) : List (Nat × Blk) := [(0, .var 287 [.own 1 1]), (1, .row 49 T3 r)]
abbrev qJp (a : List T3.T) (b : List T3.T) (r : qmg) : Prop := CC Tryz.prog 243 [ro T3 a, .fn (.func 241) [.ptr 0 0 0] []] [.var 287 [.own 1 0], .row 49 T3 b] (qo0 r) (qtW a b r)
def qG2 := fun (a : List T3.T) (b : List T3.T) y0 y1 y2 => (⟨qI 35 [(0, ro T3 y0), (1, .fn (Fn.func 241) [.ptr 0 0 0] []), (4, ri y1)], [(0, 0, .var 287 [.own 1 1]), (1, 1, .row 49 T3 y2)]⟩ : St)
def qbs (k : Nat) (a : List T3.T) (b : List T3.T) : Nat → List T3.T → Int → List T3.T → Option qmg
 | 0, _, _, _ => none
 | j + 1, y0, y1, y2 =>
 bif y1 ≥ 0 then
 if (0 ≤ y1) ∧ (y1 < y0.length) then
 if ((qad k (y0.getD y1.toNat T3.dflt) (qa .i64 ((y0.getD y1.toNat T3.dflt).2.1 - 1))).isSome) ∧ ((va k y2 (vl k (y0.getD y1.toNat T3.dflt) (qa .i64 ((y0.getD y1.toNat T3.dflt).2.1 - 1)), (y0.getD y1.toNat T3.dflt).2.1, ! (y0.getD y1.toNat T3.dflt).2.2 && decide ((y0.getD y1.toNat T3.dflt).2.1 > 1))).isSome) then
 qbs k a b j y0 (qa .i64 (y1 - 1)) (qcZ k y2 (vl k (y0.getD y1.toNat T3.dflt) (qa .i64 ((y0.getD y1.toNat T3.dflt).2.1 - 1)), (y0.getD y1.toNat T3.dflt).2.1, ! (y0.getD y1.toNat T3.dflt).2.2 && decide ((y0.getD y1.toNat T3.dflt).2.1 > 1)))
 else none
 else none
 else
 some y2
def qi0 (k : Nat) (a : List T3.T) (b : List T3.T) : Option qmg :=
 qbs k a b k a (qa .i64 ((↑a.length : Int) - 1)) b
def qjT := fun k a b => (qi0 k a b).getD []
def qQY (k : Nat) : Ke := (243, fun
 | [_, .fn (.func 241) _ _] => some [false, true]
 | _ => none, fun
 | [.r (.ro e d), .fn (.func 241) [.ptr 0 0 0] []], [.var 287 [.own 1 0], .row 49 tf_f00_ qf_f00] => (qE e T3 d).bind fun a => (qE tf_f00_ T3 qf_f00).bind fun b => some (.one (qo0 (qjT k a b), qtW a b (qjT k a b)))
 | _, _ => none)
def qBC : List (Nat × List Cmd) := [(1, [.autoB [0, 1, 4] false [1]])]
abbrev qRU := fun a b => EP Tryz.f243 2 qo0 (qtW a b)
theorem qCn (k a b) : ∀ j, (∀ y0 y1 y2, qRU a b 1 (qG2 a b y0 y1 y2) (qbs k a b j y0 y1 y2))
 | 0 => by intros; exact e0
 | j + 1 => by
  have ih := @qCn k a b j
  ·intro y0 y1 y2 r h
   rw [qbs] at h
   exact go (qD [qee k, qfd k]) [] qBC [.autoB [] true [1]] (gS h (fun h => qS h fun h => gN h (fun q => qf (qiT q.1) (qf (qBp q.2) qR)) fun h => gC h 1 (ih _ _ _ _)) fun h => gL h)
theorem qO0 (k a b r) (h : qi0 k a b = some r): qJp a b r := qN Tryz.f243 (go (qD [qee k, qfd k]) [] qBC [.autoB [] true [1]] (gC h 1 ((qCn k a b k) _ _ _ _)))
theorem qOh {k a b} (h : (qi0 k a b).isSome): qJp a b (qjT k a b) := qJ h (qO0 k a b)
abbrev qis : Type := Int
def qkR (r : qis) : AV := .tup [.r (.v (Value.slice none 0 0)), .r (.v (.int .i64 r))]
def qok (b : List T3.T) (r : qis) : List (Nat × Blk) := [(0, .var 287 [.own 1 0]), (0, .row 49 T3 b)]
abbrev qih : Type := Int
def qlb (r : qih) : AV := .tup [.own 1 0, .r (.v (.int .i64 r))]
def qoe (b : List T3.T) (r : qih) : List (Nat × Blk) := [(0, .var 287 [.own 1 0]), (0, .row 49 T3 b)]
abbrev qrt : Type := qis ⊕ qih
def qMB (r : qrt) : AV := match r with
 | .inl a => qkR a
 | .inr a => qlb a
def qPr (b : List T3.T) (r : qrt) : List (Nat × Blk) := match r with
 | .inl a => qok b a
 | .inr a => qoe b a
abbrev qq2 (b : List T3.T) (r : qrt) : Prop := CC Tryz.prog 244 [.ptr 0 0 0] [.var 287 [.own 1 0], .row 49 T3 b] (qMB r) (qPr b r)
abbrev qPA (b : List T3.T) (r : qis) : Prop := CC Tryz.prog 244 [.ptr 0 0 0] [.var 287 [.own 1 0], .row 49 T3 b] (qkR r) (qok b r)
abbrev qPa (b : List T3.T) (r : qih) : Prop := CC Tryz.prog 244 [.ptr 0 0 0] [.var 287 [.own 1 0], .row 49 T3 b] (qlb r) (qoe b r)
def XB (k : Nat) (b : List T3.T) : Option qrt :=
 bif (↑b.length : Int) > (256 : Int) then
 some (.inl 8)
 else
 some (.inr 0)
def XP := fun k b => (XB k b).getD (.inl 0)
def qfa (k : Nat) (b : List T3.T) : qis := lft 0 (XP k b)
def qeA (k : Nat) (b : List T3.T) : qih := rgt 0 (XP k b)
def qPM (k : Nat) : Ke := (244, fun
 | [.ptr _ _ _] => some [true]
 | _ => none, fun
 | [.ptr 0 0 0], [.var 287 [.own 1 0], .row 49 tb_0_ qb_0] => (qE tb_0_ T3 qb_0).bind fun b => some (.two (XP k b).isLeft (qkR (qfa k b), qok b (qfa k b)) (qlb (qeA k b), qoe b (qeA k b)))
 | _, _ => none)
theorem qOE (k b r) (h : XB k b = some r): qq2 b r := qN Tryz.f244 (go (qD []) [] [] [.autoB [2, 3] true []] (qB h fun h => gL h))
theorem qBe {k b} (h : (XB k b).isSome): qq2 b (XP k b) := qJ h (qOE k b)
theorem qKs {k : Nat} {b : List T3.T} (h : (XB k b).isSome = true) (hb : (XP k b).isLeft = true) : qPA b (qfa k b) := qFx (Φ := qq2 b) (qBe h) hb
theorem qLw {k : Nat} {b : List T3.T} (h : (XB k b).isSome = true) (hb : (XP k b).isLeft = false) : qPa b (qeA k b) := qF5 (Φ := qq2 b) (qBe h) hb
abbrev qm8 : Type := List T3.T × Int
def qn8 (r : qm8) : AV := .tup [ro T3 r.1, ri r.2]
abbrev qH6 (a : List T3.T) (b : List T3.T) (r : qm8) : Prop := CC Tryz.prog 208 [ro T3 a, ro T3 b] [] (qn8 r) (nb r)
def qFA := fun y0 y1 y2 y3 y4 y5 => (⟨qI 82 [(0, ro T3 y0), (1, ro T3 y1), (8, ri y2), (27, ro T3 y3), (28, ri y4), (29, ri y5)], []⟩ : St)
def qES := fun y0 y1 y2 y3 y4 => (⟨qI 82 [(1, ro T3 y0), (11, .ptr 1000000 0 0), (44, ro T3 y1), (45, ri y2), (46, ri y3)], [(1000000, 0, .var 287 [.own 1000001 0]), (1000001, 0, .row 49 T3 y4)]⟩ : St)
mutual
def qbo (k : Nat) : Nat → List T3.T → List T3.T → Int → List T3.T → Int → Int → Option qm8
 | 0, _, _, _, _, _, _ => none
 | j + 1, y0, y1, y2, y3, y4, y5 =>
 bif y5 < y4 then
 if (0 ≤ y5) ∧ (y5 < y3.length) then
 if ((qad k (y3.getD y5.toNat T3.dflt) (qa .i64 ((y3.getD y5.toNat T3.dflt).2.1 - 1))).isSome) then
 bif (if vl k (y3.getD y5.toNat T3.dflt) (qa .i64 ((y3.getD y5.toNat T3.dflt).2.1 - (1 : Int))) > (y3.getD y5.toNat T3.dflt).1 then vl k (y3.getD y5.toNat T3.dflt) (qa .i64 ((y3.getD y5.toNat T3.dflt).2.1 - (1 : Int))) else (y3.getD y5.toNat T3.dflt).1) ≥ y2 then
 some ([], 21)
 else
 qbo k j y0 y1 y2 y3 y4 (qa .i64 (y5 + 1))
 else none
 else none
 else
 ZU k j y1 y0 (↑y0.length : Int) 0 ([])
def ZU (k : Nat) : Nat → List T3.T → List T3.T → Int → Int → List T3.T → Option qm8
 | 0, _, _, _, _, _ => none
 | j + 1, y0, y1, y2, y3, y4 =>
 bif y3 < y2 then
 if (0 ≤ y3) ∧ (y3 < y1.length) then
 bif (! (y1.getD y3.toNat T3.dflt).2.2) then
 if ((qjj k y0 (y1.getD y3.toNat T3.dflt).1 (qa .i64 ((y1.getD y3.toNat T3.dflt).1 + (y1.getD y3.toNat T3.dflt).2.1)) y4).isSome) then
 ZU k j y0 y1 y2 (qa .i64 (y3 + 1)) (qjl k y0 (y1.getD y3.toNat T3.dflt).1 (qa .i64 ((y1.getD y3.toNat T3.dflt).1 + (y1.getD y3.toNat T3.dflt).2.1)) y4)
 else none
 else
 if ((qi7 k y0 (qa .i64 (qa .i64 ((y1.getD y3.toNat T3.dflt).1 - (y1.getD y3.toNat T3.dflt).2.1) + 1)) (qa .i64 ((y1.getD y3.toNat T3.dflt).1 + 1)) []).isSome) then
 if ((qi0 k (qfC k y0 (qa .i64 (qa .i64 ((y1.getD y3.toNat T3.dflt).1 - (y1.getD y3.toNat T3.dflt).2.1) + 1)) (qa .i64 ((y1.getD y3.toNat T3.dflt).1 + 1)) []) y4).isSome) then
 ZU k j y0 y1 y2 (qa .i64 (y3 + 1)) (qjT k (qfC k y0 (qa .i64 (qa .i64 ((y1.getD y3.toNat T3.dflt).1 - (y1.getD y3.toNat T3.dflt).2.1) + 1)) (qa .i64 ((y1.getD y3.toNat T3.dflt).1 + 1)) []) y4)
 else none
 else none
 else none
 else
 bif (Sum.isLeft (XP k y4)) then
 if ((XB k y4).isSome) then
 some ([], qfa k y4)
 else none
 else
 if ((XB k y4).isSome) then
 some (y4, qeA k y4)
 else none
end
def qjk (k : Nat) (a : List T3.T) (b : List T3.T) : Option qm8 :=
 if ((Ve k a).isSome) then
 bif (vE k a != (0 : Int)) then
 some ([], vE k a)
 else
 if ((Ve k b).isSome) then
 bif (vE k b != (0 : Int)) then
 some ([], vE k b)
 else
 if ((qcG k b).isSome) then
 qbo k k a b (qfL k b) a (↑a.length : Int) 0
 else none
 else none
 else none
def qcV := fun k a b => (qjk k a b).getD ([], 0)
def qPv (k : Nat) : Ke := (208, mo 2, fun
 | [.r (.ro f d), .r (.ro i e)], [] => (qE f T3 d).bind fun a => (qE i T3 e).bind fun b => some (.one (qn8 (qcV k a b), []))
 | _, _ => none)
def qII (k : Nat) : Calld := qD [qcq k, qsR k, qee k, qfd k, qRf k, qrU k, qNh k, qQY k, qPM k]
def qEa : List (Nat × List Cmd) := [(9, [.autoB [0, 1, 8, 27, 28, 29] false []]), (16, [.autoB [1, 11, 44, 45, 46] false []])]
abbrev qHZ := EP Tryz.f208 0 qn8 nb
theorem qFf (k) : ∀ j, (∀ {y0 y1 y2 y3 y4 y5}, qHZ 9 (qFA y0 y1 y2 y3 y4 y5) (qbo k j y0 y1 y2 y3 y4 y5)) ∧ (∀ {y0 y1 y2 y3 y4}, qHZ 16 (qES y0 y1 y2 y3 y4) (ZU k j y0 y1 y2 y3 y4))
 | 0 => by and_intros <;> intros <;> exact e0
 | j + 1 => by
  have ih := @qFf k j
  have g := @go (qII k) [] qEa [.frz 4 false (RTy.list T3), .autoB [4, 5] true []]
  refine ⟨?_, ?_⟩
  ·intro y0 y1 y2 y3 y4 y5 r h
   rw [qbo] at h
   exact g (gT h (fun c h => qS h fun h => qu h qiT fun h => gTl h fun c h => gD h 9 ih.1) fun c h => gD h 16 ih.2)
  ·intro y0 y1 y2 y3 y4 r h
   rw [ZU] at h
   exact g (gT h (fun c h => qS h fun h => gT h (fun c h => qu h qRm fun h => gD h 16 ih.2) fun c h => qu h qQc fun h => qu h qOh fun h => gD h 16 ih.2) fun c h => gT h (fun c h => qu h (fun q => qKs q (by assumption)) fun h => gL h) fun c h => qu h (fun q => qLw q (by assumption)) fun h => gL h)
theorem qNO (k a b r) (h : qjk k a b = some r): qH6 a b r := qN Tryz.f208 (go (qII k) [] qEa [.frz 4 false (RTy.list T3), .autoB [4, 5] true []] (qu h qcl fun h => gTl h fun c h => qu h qcl fun h => gTl h fun c h => qu h qtT fun h => gD h 9 (qFf k k).1))
theorem qOV {k a b} (h : (qjk k a b).isSome): qH6 a b (qcV k a b) := qJ h (qNO k a b)
abbrev qA5 (a : List T21.T) (r : Int) : Prop := CC Tryz.prog 116 [ro T21 a] [] (ri r) (nb r)
def qCq := fun y0 y1 y2 => (⟨qI 30 [(8, ro T21 y0), (9, ri y1), (10, ri y2)], []⟩ : St)
def YG (k : Nat) : Nat → List T21.T → Int → Int → Option Int
 | 0, _, _, _ => none
 | j + 1, y0, y1, y2 =>
 bif y2 < y1 then
 if (0 ≤ y2) ∧ (y2 < y0.length) then
 bif (decide ((y0.getD y2.toNat T21.dflt).1 < (0 : Int)) || decide ((y0.getD y2.toNat T21.dflt).1 > (y0.getD y2.toNat T21.dflt).2) || decide ((y0.getD y2.toNat T21.dflt).2 > (17179869184 : Int))) then
 some 1
 else
 YG k j y0 y1 (qa .i64 (y2 + 1))
 else none
 else
 some 0
def qaG (k : Nat) (a : List T21.T) : Option Int :=
 bif (↑a.length : Int) > (256 : Int) then
 some 8
 else
 YG k k a (↑a.length : Int) 0
def Vv := fun k a => (qaG k a).getD 0
def qnM (k : Nat) : Ke := (116, mo 1, fun
 | [.r (.ro d b)], [] => (qE d T21 b).bind fun a => some (.one (ri (Vv k a), []))
 | _, _ => none)
def qwU : List (Nat × List Cmd) := [(4, [.autoB [8, 9, 10] false []])]
abbrev qRe := EP Tryz.f116 0 ri nb
theorem qvW (k) : ∀ j, (∀ y0 y1 y2, qRe 4 (qCq y0 y1 y2) (YG k j y0 y1 y2))
 | 0 => by intros; exact e0
 | j + 1 => by
  have ih := @qvW k j
  ·intro y0 y1 y2 r h
   rw [YG] at h
   exact go (qD []) [] qwU [.autoB [2] true []] (gS h (fun h => qS h fun h => qB h fun h => gC h 4 (ih _ _ _ _)) fun h => gL h)
theorem qMf (k a r) (h : qaG k a = some r): qA5 a r := qN Tryz.f116 (go (qD []) [] qwU [.autoB [2] true []] (qB h fun h => gC h 4 ((qvW k k) _ _ _ _)))
theorem qoF {k a} (h : (qaG k a).isSome): qA5 a (Vv k a) := qJ h (qMf k a)
end
end Go.AM
namespace Go.AM
open Go
end Go.AM
namespace Go.AM
open Go Go.Proofs Go.Shelf Go.RowKit Go.Lib
variable {P : Program} {ρ : Ren}
structure Ext (w w' : World) : Prop where
 grew : Grew w w'
 frame : ∀ B, B < w.heap.size → w'.heap[B]? = w.heap[B]?
theorem Ext.refl (w : World) : Ext w w := ⟨.refl w, fun _ _ => rfl⟩
theorem Ext.trans {a b c : World} (h : Ext a b) (k : Ext b c) : Ext a c := ⟨h.grew.trans k.grew, fun B hB => (k.frame B (Nat.lt_of_lt_of_le hB h.grew.size)).trans (h.frame B hB)⟩
end Go.AM
namespace Go.AM
open Go Go.Proofs Go.Shelf Go.RowKit
section
variable {P : Program}
theorem qwM {cx : Cx} {env : Env} {b : Blk} {h : Value} {w' : World} (hn : ∀ n, env n = none) (hh : ∀ n, ¬ cx.hid n) (hent : ∀ nm h, cx.ent nm = some h ↔ env nm = some (0, h))
  (hg : Grew cx.w0 w') (hfr : ∀ B, B < cx.w0.heap.size → w'.heap[B]? = cx.w0.heap[B]?) (hb : ∀ B, wB h = some B → cx.w0.heap.size ≤ B ∧ B < w'.heap.size)
  (hr : RepB w' (qp cx (env.put 0 0 h) w') (env.put 0 0 h) h b) : Mem cx (zV 0 [(0, b)]) w' (env.put 0 0 h) := by
 have nent : ∀ nm h0, cx.ent nm = some h0 → False := fun nm h0 e => by
  have := (hent nm h0).1 e
  rw [hn] at this; cases this
 have hput : ∀ nm v x, env.put 0 0 h nm = some (v, x) → nm = 0 ∧ v = 0 ∧ x = h := fun nm v x e => by
  unfold Env.put at e
  split at e
  ·rename_i hn
   simp at e
   exact ⟨hn, e.1.symm, e.2.symm⟩
  ·rw [hn] at e; cases e
 refine ⟨fun nm ver b' e => ?_, fun nm e _ => ?_, fun nm h => absurd h (hh nm), fun nm nm' v v' h h' B e e' _ _ => ?_, fun nm v h' B e hq => ?_, hg, fun B hB _ => hfr B hB, fun nm h h0 _ e0 => (nent nm h0 e0).elim, fun nm h0 e0 => (nent nm h0 e0).elim⟩
 ·have hn : nm = 0 ∧ ver = 0 ∧ b' = b := by
   simp only [zV, qU] at e
   cases hq : qC 0 nm <;> simp only [hq, qi, qg] at e
   ·cases e
   ·have := ql hq
    simp at e
    exact ⟨this.symm, e.1.symm, e.2.symm⟩
  obtain ⟨rfl, rfl, rfl⟩ := hn
  exact ⟨h, by simp [Env.put], hr⟩
 ·unfold Env.put
  split
  ·rename_i hn
   subst hn
   simp [zV, qU] at e
  ·exact hn nm
 ·rw [(hput _ _ _ e).1, (hput _ _ _ e').1]
 ·obtain ⟨rfl, rfl, rfl⟩ := hput _ _ _ e
  exact ⟨.inl (hb B hq).1, (hb B hq).2⟩
theorem qsQ {w : World} {ok : Nat → Prop} {env : Env} {base : Nat} {e : TypeId} {τ : RTy} {l : List τ.T} {v : Value} {us : List Value} (hpos : 0 < τ.sz) (h : w.ownsRow base e τ.sz v l.length us) (hu : All2 (RepR w ok) us (wF τ l)) : RepB w ok env v (.row e τ l) ∧ ∀ B, wB v = some B → base ≤ B ∧ B < w.heap.size := by
 obtain ⟨hl, ⟨rfl, h0⟩ | ⟨g, cap, cur, rfl, hg, hh, hcap, hmx, hs, ht⟩⟩ := h
 ·have : l = [] := List.length_eq_zero_iff.1 h0
  subst this
  exact ⟨.rowNil _ _ _, fun B hB => by simp [wB] at hB⟩
 ·by_cases hc : cap = 0
  ·have hl0 : l.length = 0 := by omega
   have : l = [] := List.length_eq_zero_iff.1 hl0
   subst this; subst hc
   exact ⟨.rowNil _ _ _, fun B hB => by simp [wB] at hB⟩
  ·refine ⟨.row g e τ l cap cur hh hcap (by omega) hmx hs fun k hk => ?_, fun B hB => ?_⟩
   ·have := hu.get Go.undef .undef k (by rw [wH]; exact hk)
    rw [← ht] at this
    simpa [List.getElem?_take, hk] using this
   ·rw [zI (by omega)] at hB
    simp at hB; subst hB
    exact ⟨hg, (Array.getElem?_eq_some_iff.1 hh).1⟩
open Go.RowKit Go.Lib in
set_option maxHeartbeats 2000000 in
set_option maxRecDepth 100000 in
theorem quE {ρ : Ren} (L : SlLaysE0.n41 P ρ) (i0 : TypeInfo) (z : Value) (size bytes : Nat) (hi : P.info? (ρ.t 23) = some i0) (hz0 : i0.zero = some z) (hz1 : i0.size = size) (hz2 : i0.bytes = bytes) (hzs : z.cells.size = size) (hsz : 0 < size)
  (z23 : ∀ w, (Go.sizeOf (ρ.t 23)).run P w = .ok size w) (ad : Addr) (c : Nat) (w : World) :
  Calls P (ρ.f 41) #[.slice (some ad) 0 c] w fun e w' => ∃ v', e = .returned v' ∧ w'.ownsRow w.heap.size (ρ.t 23) size v' 0 [] ∧ Below w.heap.size w w' := by
 have mixed := L.mixed; have t4 := L.t4; have a4 := L.a4; have z4 := L.z4; have v4 := L.v4; have t22 := L.t22; have a22 := L.a22; have z22 := L.z22; have v22 := L.v22
 have q22 : ∀ (w : World) (a : Option Addr) (n c n' c' : Nat), (binOp .eql (ρ.t 22) (.slice a n c) (.slice none n' c')).run P w = .ok (.bool a.isNone) w := fun w a n c n' c' => Lib.run_eql_slice_nil w _ _ a n c n' c' L.t22
 have u22 : ∀ w, Sem.run P (underlying (ρ.t 22)) w = .ok (TypeDesc.slice (ρ.t 23)) w := run_underlying t22
 obtain ⟨_, _, FG⟩ := L.f41
 go_enter FG, SlBodyN.n41_ntmps ρ
 go_wp2_with (at_builtin; refine wpList_append_own _ rfl _ _ (ρ.t 22) rfl w.heap.size (ρ.t 23) i0 z size bytes t22 hi hz0 hz1 hz2 hzs hsz _ _ _ rfl (World.ownsRow_made w #[] 0 (qT _) (z8 _) (by simp)) ad 0 c [] rfl ?qc1 ?qc2 ?qc3 ?qc4 ?qc5 ?qc6 ?_)
 case qc1 => simp
 case qc2 => intro j u hj; simp at hj
 case qc3 => intro u hu; simp at hu
 case qc4 => simp [maxLen]
 case qc5 => simp
 case qc6 => simp
 intro v' w1 hown hgrow hnil
 go_wp2
 go_ret
 refine ⟨v', rfl, by simpa using hown, ?_⟩
 exact ((Below.refl _ w).alloc (qT _) _).grown hgrow (by simp) (by intro k hk; simp [Value.ownBlock] at hk; omega)
theorem qGx [GT P] {ρ : Ren} (L : SlLaysE0.n41 P ρ) {τ : RTy} {i0 : TypeInfo} {z : Value} (hi : P.info? (ρ.t 23) = some i0) (hz0 : i0.zero = some z) (hz1 : i0.size = τ.sz) (hzs : z.cells.size = τ.sz) (hpos : 0 < τ.sz) (hby : 0 < i0.bytes) (z23 : ∀ w, (Go.sizeOf (ρ.t 23)).run P w = .ok τ.sz w)
  (hf : ∃ fn c, P.funcs[ρ.f 41]? = some fn ∧ fn.body = some c ∧ (fn.name == "runtime.NumGoroutine") = false) (l : List τ.T) (hbig : l.length * i0.bytes ≤ 140737488355328) : CC P (ρ.f 41) [.r (.ro τ l)] [] (.own 0 0) [(0, .row (ρ.t 23) τ l)] := by
 refine ⟨hf, fun cx env vs hwf hG hh hent hm hs hargs => ?_⟩
 have none : ∀ n, env n = none := fun n => hm.dom n rfl (hh n)
 have hvs : vs = #[vs.getD 0 Go.undef] := by
  refine Array.ext (by rw [hs]; rfl) fun i hi1 hi2 => ?_
  have : i = 0 := by simpa using hi2
  subst this
  simp [hi1]
 have hr := hargs 0 (by simp)
 simp only [List.getD_cons_zero] at hr
 rw [hvs]
 generalize vs.getD 0 Go.undef = u at hr
 have hlen : l.length ≤ maxLen := by
  have : l.length ≤ l.length * i0.bytes := Nat.le_mul_of_pos_right _ hby
  unfold maxLen; omega
 have fin : ∀ {v' : Value} {w' : World} {us : List Value}, w'.ownsRow cx.w0.heap.size (ρ.t 23) τ.sz v' l.length us → Below cx.w0.heap.size cx.w0 w' → All2 (RepR cx.w0 (qp cx env cx.w0)) us (wF τ l) →
   ∃ v env', (Ending.returned v' : Ending) = .returned v ∧ Mem cx (zV 0 [(0, .row (ρ.t 23) τ l)]) w' env' ∧ Rep w' (qp cx env' w') env' v (.own 0 0) := fun {v' w' us} ho hB hu => by
  have ok' : ∀ B, qp cx env cx.w0 B → qp cx (env.put 0 0 v') w' B := fun B ⟨h1, h2, h3⟩ => by
   refine ⟨h1, Nat.lt_of_lt_of_le h2 hB.size, fun nm ver h e q => ?_⟩
   unfold Env.put at e
   split at e
   ·simp at e
    obtain ⟨rfl, rfl⟩ := e
    obtain ⟨_, ⟨rfl, _⟩ | ⟨g, cap, cur, rfl, hg, _⟩⟩ := ho
    ·simp [wB] at q
    ·cases cap with
     | zero => simp [wB] at q
     | succ c => simp [wB] at q; omega
   ·rw [none] at e; cases e
  have hu' : All2 (RepR w' (qp cx (env.put 0 0 v') w')) us (wF τ l) := hu.mono fun _ _ h => h.mono ok' fun B o hB' => zt (hB.block B hB'.2.1) o
  obtain ⟨h1, h2⟩ := qsQ (env := env.put 0 0 v') hpos ho hu'
  exact ⟨v', env.put 0 0 v', rfl, qwM none hh hent ⟨hB.size, hB.os, hB.output⟩ (fun B hB' => hB.block B hB') h2 h1, .own ⟨0, _, by simp [Env.put], qT _, fun _ => rfl⟩⟩
 have nilC : ∀ cap, l = [] → Calls P (ρ.f 41) #[.slice Option.none 0 cap] cx.w0 fun e w' => ∃ v env', e = .returned v ∧ Mem cx (zV 0 [(0, .row (ρ.t 23) τ l)]) w' env' ∧ Rep w' (qp cx env' w') env' v (.own 0 0) := fun cap h0 => by
  refine (AnyE.slices_Clone_nil L 0 cap cx.w0).mono fun e w' ⟨he, hw⟩ => ?_
  subst hw; subst h0; subst he
  exact fin (us := []) ⟨by simp, .inl ⟨rfl, rfl⟩⟩ (Below.refl _ _) .nil
 have some_ : ∀ (B o cap : Nat) (us : List Value), us.length = l.length * τ.sz → (∀ k, k < l.length * τ.sz → cx.w0.cell? ⟨B, o + k, Option.none⟩ = some (us.getD k Go.undef)) → All2 (RepR cx.w0 (qp cx env cx.w0)) us (wF τ l) →
   Calls P (ρ.f 41) #[.slice (some ⟨B, o, Option.none⟩) l.length cap] cx.w0 fun e w' => ∃ v env', e = .returned v ∧ Mem cx (zV 0 [(0, .row (ρ.t 23) τ l)]) w' env' ∧ Rep w' (qp cx env' w') env' v (.own 0 0) := fun B o cap us h1 h2 h3 => by
  refine (AnyE.slices_Clone L i0 z τ.sz i0.bytes hi hz0 hz1 rfl hzs hpos z23 B o l.length cap us cx.w0 h1 hlen hbig (fun j u hu => ?_) (qbH τ l us h3)).mono fun e w' ⟨v', he, ho, _, hB⟩ => ?_
  ·obtain ⟨hj, hv⟩ := List.getElem?_eq_some_iff.1 hu
   rw [h2 j (by omega)]
   simp [hj, hv]
  ·subst he
   exact fin ho hB h3
 cases hr with
 | r h =>
  cases h with
  | nil _ a cap =>
   cases a with
   | none => exact nilC cap rfl
   | some a =>
    obtain ⟨B, o, q⟩ := a
    cases q with
    | none => exact some_ B o cap [] (by simp) (fun k hk => by simp at hk) .nil
    | some q =>
     refine (quE L i0 z τ.sz i0.bytes hi hz0 hz1 rfl hzs hpos z23 ⟨B, o, some q⟩ cap cx.w0).mono fun e w' ⟨v', he, ho, hB⟩ => ?_
     subst he
     exact fin ho hB .nil
  | ro _ _ B o cap g hB hcap hc hr =>
   obtain ⟨us, h1, h2, h3⟩ := qa7 (RepR.ro τ l B o cap g hB hcap hc hr)
   exact some_ B o cap us h1 h2 h3
end
end Go.AM
namespace Go.AM
open Go Go.Proofs Go.Shelf Go.RowKit Go.Sort
def vJ (τ : RTy) : List τ.T → List Value
 | [] => []
 | x :: l => wq τ x ++ vJ τ l
theorem qcM {τ : RTy} (hf : τ.flat = true) : ∀ l : List τ.T, wF τ l = (vJ τ l).map .v
 | [] => rfl
 | x :: l => by simp [wF, vJ, ZO τ x hf, qcM hf l]
theorem Qm {τ : RTy} (hf : τ.flat = true) (l : List τ.T) : (vJ τ l).length = l.length * τ.sz := by
 rw [← wH, qcM hf]; simp
theorem quR {w : World} {ok : Nat → Prop} {u x : Value} (h : RepR w ok u (.v x)) : u = x := by
 cases h; rfl
section
variable {P : Program}
def qMt (P : Program) [GT P] (f : FuncId) (τ : RTy) (e : TypeId) (l l' : List τ.T) (ys : List Value) : Prop :=
 (l = [] → ∀ (w : World) (a : Option Addr), GT.G P w → Calls P f (.slice a 0 0 :: ys).toArray w fun en w' => en = .returned (.tuple #[]) ∧ Grew w w' ∧ ∀ B, B < w.heap.size → w'.heap[B]? = w.heap[B]?) ∧
 ∀ (w : World) (B cap : Nat) (cur : Array Value), GT.G P w → w.heap[B]? = some (.cells cur e (0, 0)) → l.length ≤ cap → 0 < cap → cap ≤ maxLen → cur.size = cap * τ.sz → (∀ k, k < l.length * τ.sz → cur.getD k Go.undef = (vJ τ l).getD k Go.undef) →
  Calls P f (.slice (some ⟨B, 0, none⟩) l.length cap :: ys).toArray w fun en w' => en = .returned (.tuple #[]) ∧ Grew w w' ∧ (∀ B', B' < w.heap.size → B' ≠ B → w'.heap[B']? = w.heap[B']?) ∧
   ∃ cur', w'.heap[B]? = some (.cells cur' e (0, 0)) ∧ cur'.size = cur.size ∧ ∀ k, k < l.length * τ.sz → cur'.getD k Go.undef = (vJ τ l').getD k Go.undef
theorem qnv [GT P] {f : FuncId} {τ : RTy} {e : TypeId} {l l' : List τ.T} (hflat : τ.flat = true) (hlen : l'.length = l.length) {xs : List AV} {ys : List Value} (hxl : xs.length = ys.length)
  (hx : ∀ (w : World) (ok : Nat → Prop) (env : Env) (u : Value) (i : Nat), i < xs.length → Rep w ok env u (xs.getD i .undef) → u = ys.getD i Go.undef)
  (hf : ∃ fn c, P.funcs[f]? = some fn ∧ fn.body = some c ∧ (fn.name == "runtime.NumGoroutine") = false) (h : qMt P f τ e l l' ys) :
  CC P f (.own 0 0 :: xs) [.row e τ l] (.tup []) [(0, .row e τ l')] := by
 refine ⟨hf, fun cx env vs hwf hG hh hent hm hs hargs => ?_⟩
 obtain ⟨top, h1, h2, h3, h4⟩ := hG
 have hG := GT.keep _ _ h3 h1
 obtain ⟨u, heu, hrep⟩ := hm.blk 0 0 (.row e τ l) rfl
 have hvs : vs = (u :: ys).toArray := by
  refine Array.ext (by rw [hs]; simp [hxl]) fun i hi hi2 => ?_
  have hi3 : i < xs.length + 1 := by rw [hs] at hi; simpa using hi
  have hr := hargs i (by simpa using hi3)
  cases i with
  | zero =>
   simp only [List.getD_cons_zero] at hr
   have : vs.getD 0 Go.undef = u := by
    generalize vs.getD 0 Go.undef = z at hr
    cases hr with
    | own hR =>
     obtain ⟨cv, x, e1, e2, e3⟩ := hR
     rw [heu] at e1
     simp at e1
     obtain ⟨rfl, rfl⟩ := e1
     exact e3 rfl
   simp [hi] at this
   simpa using this
  | succ i =>
   simp only [List.getD_cons_succ] at hr
   have := hx _ _ _ _ i (by omega) hr
   have hi4 : i < ys.length := by omega
   simp [hi, hi4] at this
   simpa using this
 subst hvs
 have upd : ∀ {w' : World}, Grew cx.w0 w' → (∀ B, B < cx.w0.heap.size → wB u ≠ some B → w'.heap[B]? = cx.w0.heap[B]?) → RepB w' (qp cx (env.put 0 0 u) w') (env.put 0 0 u) u (.row e τ l') →
   ∃ v env', (Ending.returned (.tuple #[]) : Ending) = .returned v ∧ Mem cx (zV 0 [(0, .row e τ l')]) w' env' ∧ Rep w' (qp cx env' w') env' v (.tup []) := fun {w'} hg hk hr => by
  have T := wL (ver := 0) (b := .row e τ l') hm (hh 0) ⟨⟨.inr ⟨0, u, heu, .inr ⟨rfl, rfl⟩⟩, hg, fun B hB hq => hk B hB (hq 0 u heu), fun B q => .inr ⟨0, u, heu, q⟩⟩, hr⟩
  exact ⟨_, _, rfl, T.mem, .tup _ _ rfl fun i hi => by simp at hi⟩
 generalize hb : Blk.row e τ l = b at hrep
 cases hrep with
 | rowNil _ _ a =>
  cases hb
  refine (h.1 rfl cx.w0 a hG).mono fun en w' ⟨he, hg, hk⟩ => ?_
  subst he
  refine upd hg (fun B hB _ => hk B hB) ?_
  have : l' = [] := List.length_eq_zero_iff.1 hlen
  subst this
  exact .rowNil _ _ _
 | row B _ _ _ cap cur hB hcap h0 hmx hsz hc =>
  cases hb
  refine (h.2 cx.w0 B cap cur hG hB hcap h0 hmx hsz fun k hk => ?_).mono fun en w' ⟨he, hg, hk, cur', hB', hs', hc'⟩ => ?_
  ·have := hc k hk
   rw [qcM hflat] at this
   have hk2 : k < (vJ τ l).length := by rw [Qm hflat]; exact hk
   have e1 : ((vJ τ l).map RV.v).getD k .undef = .v ((vJ τ l).getD k Go.undef) := by simp [hk2]
   rw [e1] at this
   exact quR this
  ·subst he
   have hhb : wB (.slice (some ⟨B, 0, none⟩) l.length cap) = some B := zI h0
   refine upd hg (fun B' hB2 hq => hk B' hB2 fun q => hq (by rw [hhb, q])) ?_
   have R := RepB.row (env := env.put 0 0 (.slice (some ⟨B, 0, none⟩) l.length cap)) (ok := qp cx (env.put 0 0 (.slice (some ⟨B, 0, none⟩) l.length cap)) w') B e τ l' cap cur' hB' (by omega) h0 hmx (by rw [hs', hsz]) fun k hk => by
    rw [hlen] at hk
    rw [hc' k hk, qcM hflat]
    have hk2 : k < (vJ τ l').length := by rw [Qm hflat, hlen]; exact hk
    simp [hk2]
    exact .v _
   rw [hlen] at R
   exact R
 | _ => cases hb
theorem ql1 {w : World} {B : Nat} {cur : Array Value} {e : TypeId} (hB : w.heap[B]? = some (.cells cur e (0, 0))) {F : Array Value} (hs : F.size ≤ cur.size) (h : ∀ k, k < F.size → cur.getD k Go.undef = F.getD k Go.undef) : Holds id w B 0 F := fun j hj => by
 have hj2 : j < cur.size := by omega
 refine ⟨?_, ?_⟩
 ·have := h j hj
  simp [hj, hj2] at this
  unfold World.cell?
  simp [hB, hj2, this, hj]
 ·unfold World.frozen?
  simp [hB]
theorem qiy {w : World} {B : Nat} {cur : Array Value} {e : TypeId} (n : Nat) (hB : w.heap[B]? = some (.cells cur e (0, 0))) (F : Array Value) (os : Array Obj) (hs : F.size ≤ cur.size) :
  let w' := grow (putRow id (Sort.ahead w n) B 0 F) os
  Grew w w' ∧ (∀ B', B' < w.heap.size → B' ≠ B → w'.heap[B']? = w.heap[B']?) ∧ ∃ cur', w'.heap[B]? = some (.cells cur' e (0, 0)) ∧ cur'.size = cur.size ∧ ∀ k, k < F.size → cur'.getD k Go.undef = F.getD k Go.undef := by
 have hlt : B < w.heap.size := (Array.getElem?_eq_some_iff.1 hB).1
 have hsz : (putRow id (Sort.ahead w n) B 0 F).heap.size = w.heap.size := by simp [putRow, mapBlock, Sort.ahead]
 have hget : ∀ B', B' < w.heap.size → (grow (putRow id (Sort.ahead w n) B 0 F) os).heap[B']? = (w.heap.modify B (onCells (putCells id 0 F)))[B']? := fun B' hB' => by
  show (_ ++ os)[B']? = _
  rw [Array.getElem?_append_left (by rw [hsz]; exact hB')]
  rfl
 refine ⟨⟨?_, rfl, rfl⟩, fun B' hB' hne => ?_, putCells id 0 F cur, ?_, by simp [putCells], fun k hk => ?_⟩
 ·show _ ≤ (_ ++ os).size
  simp [hsz]
 ·rw [hget B' hB', Array.getElem?_modify]
  simp [Ne.symm hne]
 ·rw [hget B hlt, Array.getElem?_modify]
  simp [hB, onCells]
 ·have : k < cur.size := by omega
  simp [putCells, this, hk]
theorem quB [GT P] {ρ : Ren} (L : Lays.n189 P ρ) (hf : ∃ fn c, P.funcs[ρ.f 189]? = some fn ∧ fn.body = some c ∧ (fn.name == "runtime.NumGoroutine") = false) (e : TypeId) (l : List Int) (hb : l.length < 4611686018427387904) :
  CC P (ρ.f 189) [.own 0 0] [.row e (.int .i64) l] (.tup []) [(0, .row e (.int .i64) (l.mergeSort fun x y => decide (x ≤ y)))] := by
 have hv : ∀ l : List Int, vJ (.int .i64) l = l.map (Value.int .i64) := fun l => by
  induction l with
  | nil => rfl
  | cons x l ih => simp [vJ, wq, ih]
 refine qnv (τ := .int .i64) (e := e) (l := l) (xs := []) (ys := []) rfl (List.length_mergeSort l) rfl (fun _ _ _ _ i hi => by simp at hi) hf ⟨fun _ w a _ => ?_, fun w B cap cur hG hB hcap h0 hmx hsz hc => ?_⟩
 ·refine (Any.slices_Sort_int_none L a 0 w).mono fun en w' ⟨he, hw⟩ => ⟨he, ?_⟩
  subst hw
  exact ⟨Grew.refl _, fun _ _ => rfl⟩
 ·have hsz' : cur.size = cap := by rw [hsz]; simp [RTy.sz]
  have hF : Holds (Value.int .i64) w B 0 l.toArray := fun j hj => by
   have hj : j < l.length := by simpa using hj
   have := (ql1 hB (F := (l.map (Value.int .i64)).toArray) (by simp; omega) fun k hk => by
    have hk : k < l.length := by simpa using hk
    have := hc k (by simpa [RTy.sz] using hk)
    rw [hv] at this
    simpa using this) j (by simpa using hj)
   simpa [hj] using this
  refine (Any.slices_Sort_int L B 0 cap l w hF (Array.getElem?_eq_some_iff.1 hB).1 hb).mono fun en w' ⟨he, n, os, hw⟩ => ⟨he, ?_⟩
  have e0 : ∀ m : List Int, putRow (Value.int .i64) (Sort.ahead w n) B 0 m.toArray = putRow id (Sort.ahead w n) B 0 (m.map (Value.int .i64)).toArray := fun m => by
   unfold putRow
   congr 1
   funext c
   unfold putCells
   refine Array.ext (by simp) fun i h1 h2 => ?_
   by_cases q : i < m.length
   ·simp [q]
   ·simp [q]
  rw [e0] at hw
  subst hw
  have := qiy n hB ((l.mergeSort fun x y => decide (x ≤ y)).map (Value.int .i64)).toArray os (by simp; omega)
  refine ⟨this.1, this.2.1, ?_⟩
  obtain ⟨cur', h1, h2, h3⟩ := this.2.2
  refine ⟨cur', h1, h2, fun k hk => ?_⟩
  rw [h3 k (by simpa [RTy.sz] using hk), hv]
  simp
end
end Go.AM
namespace Go.AM
open Go Go.Proofs Go.Shelf Go.RowKit Go.Sort
section
variable {P : Program}
theorem qkj {α : Type} [Inhabited α] {τ : RTy} (hf : τ.flat = true) (zb : α → τ.T) (hpos : 0 < τ.sz) (d : Array α) :
  Sort.flatK (fun a => wq τ (zb a)) τ.sz d = (vJ τ (d.toList.map zb)).toArray := by
 have hl : ∀ (l : List α) (j i : Nat), j < l.length → i < τ.sz → (vJ τ (l.map zb)).getD (j * τ.sz + i) Go.undef = (wq τ (zb (l.getD j default))).getD i Go.undef := fun l => by
  induction l with
  | nil => intro j i h; simp at h
  | cons x l ih =>
   intro j i hj hi
   have hv := v7 τ (zb x) hf
   cases j with
   | zero => simp [vJ, List.getElem?_append, hv, hi]
   | succ j =>
    have := ih j i (by simpa using hj) hi
    have e1 : (j + 1) * τ.sz + i - τ.sz = j * τ.sz + i := by rw [qTX]; omega
    have e2 : ¬ (j + 1) * τ.sz + i < τ.sz := by rw [qTX]; omega
    simpa [vJ, List.getElem?_append, hv, e1, e2] using this
 refine ext_get! (by simp [Sort.size_flatK, Qm hf]) fun t ht => ?_
 have ht' : t < d.size * τ.sz := by simpa using ht
 rw [Sort.get_flatK _ _ _ _ ht']
 have hd : t / τ.sz < d.size := Nat.div_lt_of_lt_mul (by rw [Nat.mul_comm]; exact ht')
 have := hl d.toList (t / τ.sz) (t % τ.sz) (by simpa using hd) (Nat.mod_lt _ hpos)
 rw [Nat.mul_comm, Nat.div_add_mod] at this
 have h2 : t < (vJ τ (d.toList.map zb)).length := by rw [Qm hf]; simpa using ht'
 have h3 : t % τ.sz < (wq τ (zb (d.toList.getD (t / τ.sz) default))).length := by rw [v7 _ _ hf]; exact Nat.mod_lt _ hpos
 have e4 : d[t / τ.sz]! = d.toList.getD (t / τ.sz) default := by simp [hd]
 rw [e4, getElem!_pos (vJ τ (d.toList.map zb)).toArray t (by simpa using h2)]
 show (wq τ (zb (d.toList.getD (t / τ.sz) default)))[t % τ.sz]! = _
 rw [getElem!_pos (wq τ (zb (d.toList.getD (t / τ.sz) default))) (t % τ.sz) h3]
 rw [List.getD_eq_getElem?_getD, List.getD_eq_getElem?_getD, List.getElem?_eq_getElem h2, List.getElem?_eq_getElem h3] at this
 simpa using this.symm
theorem quw [GT P] {ρ : Ren} (L : SlLaysF0.n6 P ρ) (hf : ∃ fn c, P.funcs[ρ.f 6]? = some fn ∧ fn.body = some c ∧ (fn.name == "runtime.NumGoroutine") = false) {τ : RTy} (hflat : τ.flat = true) (hpos : 0 < τ.sz)
  (aE : ∀ w, (isAgg (ρ.t 24)).run P w = .ok true w) (zE : ∀ w, (Go.sizeOf (ρ.t 24)).run P w = .ok τ.sz w) (e : TypeId) {α : Type} [Inhabited α] (zb : α → τ.T) (cf : α → α → Int) (hO : SWO (ltOf cf)) (g : Nat)
  (eg : ∀ args w, (callFunc g args).run P w = .ok (.enter g args) w) (hcmp : ∀ blk n w, CmpLays P g #[] (fun a => wq τ (zb a)) τ.sz cf blk 0 n w) (d : Array α) (hsz : d.size < 4611686018427387904) (h1 : ∀ x, ∀ v ∈ wq τ (zb x), v.oneCell' = true) :
  CC P (ρ.f 6) [.own 0 0, .r (.v (.func (.func g) #[] #[]))] [.row e τ (d.toList.map zb)] (.tup []) [(0, .row e τ ((pdq (ltOf cf) d 0 d.size (Lib.bitLen d.size) true true).toList.map zb))] := by
 have hp := pdq_sorts (ltOf cf) hO d 0 d.size (Lib.bitLen d.size) true true (z8 _) (qT _) (Or.inl rfl)
 have hps : (pdq (ltOf cf) d 0 d.size (Lib.bitLen d.size) true true).size = d.size := hp.1.1
 refine qnv (τ := τ) (e := e) (xs := [.r (.v (.func (.func g) #[] #[]))]) (ys := [.func (.func g) #[] #[]]) hflat (by simp [hps]) rfl (fun _ _ _ u i hi hr => ?_) hf ⟨fun h0 w a _ => ?_, fun w B cap cur hG hB hcap h0 hmx hs hc => ?_⟩
 ·have : i = 0 := by simpa using hi
  subst this
  simp only [List.getD_cons_zero] at hr ⊢
  exact qP hr
 ·refine (AnyF.slices_SortFunc_none L a 0 _ w).mono fun en w' ⟨he, hw⟩ => ⟨he, ?_⟩
  subst hw
  exact ⟨Grew.refl _, fun _ _ => rfl⟩
 ·have hl : (d.toList.map zb).length = d.size := by simp
  rw [hl] at hc hcap ⊢
  have hle : d.size * τ.sz ≤ cur.size := by rw [hs]; exact vT _ hcap
  have hF : HoldsK (fun a => wq τ (zb a)) τ.sz w B 0 d := by
   unfold HoldsK
   rw [qkj hflat zb hpos]
   refine ql1 hB (by simp [Qm hflat]; exact hle) fun k hk => ?_
   have hk : k < d.size * τ.sz := by simpa [Qm hflat] using hk
   rw [hc k hk]
   simp
  refine (AnyQ.slices_SortFunc_eq L τ.sz aE zE (fun a => wq τ (zb a)) (fun x => v7 _ _ hflat) h1 cf hO g #[] B 0 cap d w eg (hcmp _ _ _) hF (Array.getElem?_eq_some_iff.1 hB).1 hsz).mono fun en w' ⟨he, n, os, hw⟩ => ⟨he, ?_⟩
  unfold sortWorldK putRowK at hw
  rw [qkj hflat zb hpos] at hw
  subst hw
  have hls : (vJ τ ((pdq (ltOf cf) d 0 d.size (Lib.bitLen d.size) true true).toList.map zb)).length = d.size * τ.sz := by rw [Qm hflat]; simp [hps]
  have := qiy n hB (vJ τ ((pdq (ltOf cf) d 0 d.size (Lib.bitLen d.size) true true).toList.map zb)).toArray os (by simp [hls]; exact hle)
  refine ⟨this.1, this.2.1, ?_⟩
  obtain ⟨cur', h1, h2, h3⟩ := this.2.2
  refine ⟨cur', h1, h2, fun k hk => ?_⟩
  rw [h3 k (by simpa [hls] using hk)]
  simp
end
end Go.AM
namespace Go.AM
open Go Go.Proofs Go.Shelf Go.RowKit Go.Sort
section
variable {P : Program}
theorem qGg [GT P] {f : FuncId} {xs : List Value} {e : TypeId} {τ : RTy} {l : List τ.T} (hf : ∃ fn c, P.funcs[f]? = some fn ∧ fn.body = some c ∧ (fn.name == "runtime.NumGoroutine") = false)
  (h : ∀ w : World, GT.G P w → Calls P f xs.toArray w fun en w' => ∃ v, en = .returned v ∧ Grew w w' ∧ (∀ B, B < w.heap.size → w'.heap[B]? = w.heap[B]?) ∧ (∀ ok env, RepB w' ok env v (.row e τ l)) ∧ ∀ B, wB v = some B → w.heap.size ≤ B ∧ B < w'.heap.size) :
  CC P f (zx xs) [] (.own 0 0) [(0, .row e τ l)] := by
 refine ⟨hf, fun cx env vs hwf hG hh hent hm hs hargs => ?_⟩
 obtain ⟨top, h1, h2, h3, h4⟩ := hG
 have hlen : ∀ l : List Value, (zx l).length = l.length := fun l => by induction l <;> simp [zx, *]
 have hget : ∀ (l : List Value) (i : Nat), i < l.length → (zx l).getD i .undef = .r (.v (l.getD i Go.undef)) := fun l => by
  induction l with
  | nil => intro i h; simp at h
  | cons x l ih =>
   intro i h
   cases i with
   | zero => rfl
   | succ i => simpa [zx] using ih i (by simpa using h)
 have hvs : vs = xs.toArray := by
  refine Array.ext (by rw [hs, hlen]; simp) fun i hi hi2 => ?_
  have hi3 : i < xs.length := by simpa using hi2
  have := hargs i (by rw [hlen]; exact hi3)
  rw [hget xs i hi3] at this
  have := qP this
  simpa [hi, hi3] using this
 subst hvs
 have none : ∀ n, env n = none := fun n => hm.dom n rfl (hh n)
 refine (h cx.w0 (GT.keep _ _ h3 h1)).mono fun en w' ⟨v, he, hg, hfr, hr, hb⟩ => ?_
 exact ⟨v, env.put 0 0 v, he, qwM none hh hent hg hfr hb (hr _ _), .own ⟨0, _, by simp [Env.put], qT _, fun _ => rfl⟩⟩
theorem qLl [GT P] {ρ : Ren} (L : Lays8.n4 P ρ) (hf : ∃ fn c, P.funcs[ρ.f 4]? = some fn ∧ fn.body = some c ∧ (fn.name == "runtime.NumGoroutine") = false) (i0 : TypeInfo) (z : Value) (hi0 : P.info? (ρ.t 25) = some i0) (hz0 : i0.zero = some z) (τ : RTy) (hs : i0.size = τ.sz) (hzs : z.cells.size = τ.sz) (hpos : 0 < τ.sz) (hby : 0 < i0.bytes)
  (n : Nat) (hbig : n * i0.bytes ≤ 140737488355328) : CC P (ρ.f 4) [.r (.v (.slice none 0 0)), .r (.v (.int .i64 n))] [] (.own 0 0) [(0, .row (ρ.t 25) τ [])] := by
 have hn : n ≤ 140737488355328 := Nat.le_trans (Nat.le_mul_of_pos_right _ hby) hbig
 refine qGg (xs := [.slice none 0 0, .int .i64 n]) hf fun w _ => ?_
 by_cases h0 : n = 0
 ·subst h0
  refine (Any8.slices_Grow_room L none 0 0 0 w (qT _) (by omega) (by omega) (by omega)).mono fun en w' ⟨he, hw⟩ => ?_
  subst hw
  exact ⟨_, he, Grew.refl _, fun _ _ => rfl, fun _ _ => .rowNil _ _ _, fun B hB => by simp [wB] at hB⟩
 ·refine (Any8.slices_Grow_grow L i0 z hi0 hz0 (by omega) none 0 0 n [] w (qT _) (by omega) (by simpa using hbig) (by omega) (by simp) (fun _ => rfl) (fun a ha => by cases ha)).mono fun en w' ⟨he, hw⟩ => ?_
  have hge := grownCap_ge w (0 + n) 0 (ρ.t 25)
  have hm := grownCap_le_maxLen w (0 + n) 0 (ρ.t 25) (by unfold maxLen; omega)
  subst hw
  refine ⟨_, he, ⟨?_, rfl, rfl⟩, fun B hB => ?_, fun ok env => ?_, fun B hB => ?_⟩
  ·show w.heap.size ≤ (w.heap.push _).size
   simp
  ·show (w.heap.push _)[B]? = _
   rw [Array.getElem?_push]
   simp; omega
  ·refine .row w.heap.size (ρ.t 25) τ [] _ _ (heap_alloc_new w.drew _) (z8 _) (by omega) hm ?_ fun k hk => by simp at hk
   simp only [Yd] at hge ⊢
   simp [size_zeroCells, hzs, ← qaS]
   congr 1
   omega
  ·rw [zI (by omega)] at hB
   simp at hB
   subst hB
   refine ⟨qT _, ?_⟩
   show _ < (w.heap.push _).size
   simp
end
end Go.AM
namespace Go.AM
open Go Go.Proofs Go.Shelf Go.RowKit Go.Sort
def qnq (P : Program) (t : TypeId) (sz b : Nat) : Bool :=
 match P.info? t with
 | some i => match i.zero with
  | some z => qC i.size sz && (qC z.cells.size sz && (qC i.bytes b && (Nat.blt 0 sz && Nat.blt 0 b)))
  | none => false
 | none => false
theorem qkA {P : Program} {t : TypeId} {sz b : Nat} (h : qnq P t sz b = true) : ∃ i z, P.info? t = some i ∧ i.zero = some z ∧ i.size = sz ∧ z.cells.size = sz ∧ i.bytes = b ∧ 0 < sz ∧ 0 < b := by
 unfold qnq at h
 split at h
 ·rename_i i hi
  split at h
  ·rename_i z hz
   simp only [qj] at h
   exact ⟨i, z, hi, hz, ql h.1, ql h.2.1, ql h.2.2.1, wo h.2.2.2.1, wo h.2.2.2.2⟩
  ·cases h
 ·cases h
section
variable {P : Program}
theorem qEQ [GT P] {ρ : Ren} (L : SlLaysE0.n41 P ρ) {τ : RTy} {b : Nat} (he : qnq P (ρ.t 23) τ.sz b = true) (z23 : ∀ w, (Go.sizeOf (ρ.t 23)).run P w = .ok τ.sz w)
  (hf : ∃ fn c, P.funcs[ρ.f 41]? = some fn ∧ fn.body = some c ∧ (fn.name == "runtime.NumGoroutine") = false) (l : List τ.T) (hbig : l.length * b ≤ 140737488355328) : CC P (ρ.f 41) [.r (.ro τ l)] [] (.own 0 0) [(0, .row (ρ.t 23) τ l)] := by
 obtain ⟨i, z, h1, h2, h3, h4, h5, h6, h7⟩ := qkA he
 subst h5
 exact qGx L h1 h2 h3 h4 h6 h7 z23 hf l hbig
theorem qFt [GT P] {ρ : Ren} (L : Lays8.n4 P ρ) (hf : ∃ fn c, P.funcs[ρ.f 4]? = some fn ∧ fn.body = some c ∧ (fn.name == "runtime.NumGoroutine") = false) (τ : RTy) {b : Nat} (he : qnq P (ρ.t 25) τ.sz b = true)
  (n : Int) (h0 : 0 ≤ n) (hbig : n.toNat * b ≤ 140737488355328) : CC P (ρ.f 4) [.r (.v (.slice none 0 0)), .r (.v (.int .i64 n))] [] (.own 0 0) [(0, .row (ρ.t 25) τ [])] := by
 obtain ⟨i, z, h1, h2, h3, h4, h5, h6, h7⟩ := qkA he
 subst h5
 obtain ⟨m, rfl⟩ := Int.eq_ofNat_of_zero_le h0
 exact qLl L hf i z h1 h2 τ h3 h4 h6 h7 m (by simpa using hbig)
def VA (x : Int) : Prop := 0 ≤ x ∧ x ≤ 4611686018427387904
instance (x : Int) : Decidable (VA x) := inferInstanceAs (Decidable (_ ∧ _))
abbrev Y5 : Type := {x : Int × Int // VA x.1}
instance : Inhabited Y5 := ⟨⟨(0, 0), by decide⟩⟩
def QO : List (Int × Int) → List Y5
 | [] => []
 | x :: l => if h : VA x.1 then ⟨x, h⟩ :: QO l else QO l
theorem qkL : ∀ l : List (Int × Int), (∀ x ∈ l, VA x.1) → (QO l).map (·.1) = l
 | [], _ => rfl
 | x :: l, h => by
  have h1 : VA x.1 := h x (by simp)
  simp [QO, h1, qkL l fun y hy => h y (by simp [hy])]
def XL (x y : Y5) : Int := x.1.1 - y.1.1
theorem qfE (x y : Y5) : ltOf XL x y = decide (x.1.1 < y.1.1) := by
 unfold ltOf XL
 by_cases h : x.1.1 < y.1.1
 ·rw [qA h, qA (by omega)]
 ·rw [qx h, qx (by omega)]
theorem qiC : SWO (ltOf XL) where
 irrefl x := by rw [qfE]; simp
 trans x y z h1 h2 := by rw [qfE] at *; rw [decide_eq_true_iff] at *; omega
 ntrans x y z h1 h2 := by rw [qfE] at *; rw [decide_eq_false_iff_not] at *; omega
def WS (l : List (Int × Int)) : List (Int × Int) := (pdq (ltOf XL) (QO l).toArray 0 (QO l).toArray.size (Lib.bitLen (QO l).toArray.size) true true).toList.map (·.1)
end
theorem QW {l : List (Int × Int)} (h : ∀ x ∈ l, VA x.1) : (WS l).Perm l := by
 have hp := (pdq_sorts (ltOf XL) qiC (QO l).toArray 0 (QO l).toArray.size (Lib.bitLen (QO l).toArray.size) true true (z8 _) (qT _) (Or.inl rfl)).1
 have h3 := hp.2.2
 have e1 : ∀ (d : Array Y5) (n : Nat), d.size = n → d.extract 0 n = d := fun d n hn => by subst hn; exact Array.extract_size
 rw [e1 _ _ hp.1, e1 _ _ rfl] at h3
 have := h3.map (fun x : Y5 => x.1)
 unfold WS
 refine this.trans ?_
 show (List.map (fun x : Y5 => x.1) (QO l)).Perm l
 rw [qkL l h]
theorem qqH {l : List (Int × Int)} : (WS l).Pairwise fun x y => x.1 ≤ y.1 := by
 have hp := pdq_sorts (ltOf XL) qiC (QO l).toArray 0 (QO l).toArray.size (Lib.bitLen (QO l).toArray.size) true true (z8 _) (qT _) (Or.inl rfl)
 have hs := hp.1.1
 have h := hp.2
 unfold WS
 generalize pdq (ltOf XL) (QO l).toArray 0 (QO l).toArray.size (Lib.bitLen (QO l).toArray.size) true true = d at hs h
 rw [List.pairwise_map, List.pairwise_iff_getElem]
 intro i j hi hj hij
 have := h i j (z8 _) hij (by rw [← hs]; simpa using hj)
 have hi' : i < d.size := by simpa using hi
 have hj' : j < d.size := by simpa using hj
 rw [getElem!_pos d i hi', getElem!_pos d j hj'] at this
 rw [qfE, decide_eq_false_iff_not] at this
 simp only [Array.getElem_toList]
 omega
def qG5 (l : List Int) : List Int := match l with
 | [] => []
 | [a] => [a]
 | [a, b] => bif decide (a ≤ b) then [a, b] else [b, a]
 | l => l.mergeSort fun x y => decide (x ≤ y)
theorem qwa (l : List Int) : qG5 l = l.mergeSort fun x y => decide (x ≤ y) := by
 unfold qG5
 split
 ·simp
 ·simp
 ·rename_i a b
  have hp := List.mergeSort_perm [a, b] (fun x y => decide (x ≤ y))
  have hs := List.pairwise_mergeSort (le := fun x y : Int => decide (x ≤ y)) (fun a b c h1 h2 => by simp at h1 h2 ⊢; omega) (fun a b => by simp; omega) [a, b]
  generalize List.mergeSort [a, b] (fun x y => decide (x ≤ y)) = q at hp hs
  have hl := hp.length_eq
  match q, hl with
  | [c, d], _ =>
   simp at hs
   have h1 : c = a ∨ c = b := by simpa using hp.subset (by simp : c ∈ [c, d])
   have h2 : d = a ∨ d = b := by simpa using hp.subset (by simp : d ∈ [c, d])
   have h3 : a = c ∨ a = d := by simpa using hp.symm.subset (by simp : a ∈ [a, b])
   have h4 : b = c ∨ b = d := by simpa using hp.symm.subset (by simp : b ∈ [a, b])
   cases h : decide (a ≤ b)
   ·have h' := of_decide_eq_false h
    rw [qg]
    have : c = b ∧ d = a := by omega
    rw [this.1, this.2]
   ·have h' := of_decide_eq_true h
    rw [qi]
    have : c = a ∧ d = b := by omega
    rw [this.1, this.2]
 ·rfl
def qx3 (l : List (Int × Int)) : List (Int × Int) := match l with
 | [] => []
 | [a] => [a]
 | l => WS l
theorem qrR {l : List (Int × Int)} (h : ∀ x ∈ l, VA x.1) : qx3 l = WS l := by
 unfold qx3
 split
 ·have := (QW (l := []) (by simp)).length_eq
  exact (List.length_eq_zero_iff.1 this).symm
 ·rename_i a
  exact (List.perm_singleton.1 (QW h)).symm
 ·rfl
end Go.AM
/-
 DERIVED: THE SHELF's CONTRACTS AT THIS DUMP, IN PLAIN WORDS (tools/lay-plain.mjs out of 'TryShelf.lean', which tools/lay-shelf.mjs wrote): THE SAME DECLARATIONS UNDER THE SAME NAMES: 'import', 'namespace', 'open', 'def', 'theorem' AND NOTHING ELSE: no command of the shelf's: FOR A HAND-IN. Each laying: the table of numbers ('.._ren') and one theorem, a field a fact of the dump's own or the kernel's comparison; each contract: ONE APPLICATION.
-/
namespace Go.Proofs
open Go.Shelf
def Tryz.sort_int_ren : Go.Shelf.Ren := ⟨fun | 189 => 246 | 125 => 213 | 257 => 274 | 128 => 255 | 129 => 236 | 294 => 282 | 295 => 283 | 296 => 284 | 297 => 285 | 298 => 286 | 299 => 287 | 216 => 288 | 300 => 289 | 301 => 290 | 328 => 292 | 329 => 276 | 330 => 277 | 331 => 293 | 332 => 294 | 215 => 269 | 343 => 295 | n => n, fun | 28 => 25 | 3 => 3 | 46 => 270 | 0 => 0 | 51 => 284 | 53 => 254 | 4 => 4 | 183 => 296 | 182 => 295 | 131 => 190 | 5 => 5 | 9 => 9 | 218 => 312 | 222 => 316 | 228 => 326 | 229 => 181 | n => n, fun | n => n⟩
theorem Tryz.sort_int : Go.Proofs.Lays.n189 Tryz.prog Tryz.sort_int_ren := {
 mixed := by kernel_rfl
 f125 := Tryz.func213.trans (congrArg some (by kernel_rfl))
 f128 := Tryz.func255.trans (congrArg some (by kernel_rfl))
 f129 := Tryz.func236.trans (congrArg some (by kernel_rfl))
 f189 := Tryz.func246.trans (congrArg some (by kernel_rfl))
 f215 := Tryz.func269.trans (congrArg some (by kernel_rfl))
 f216 := Tryz.func288.trans (congrArg some (by kernel_rfl))
 f257 := Tryz.func274.trans (congrArg some (by kernel_rfl))
 f294 := Tryz.func282.trans (congrArg some (by kernel_rfl))
 f295 := Tryz.func283.trans (congrArg some (by kernel_rfl))
 f296 := Tryz.func284.trans (congrArg some (by kernel_rfl))
 f297 := Tryz.func285.trans (congrArg some (by kernel_rfl))
 f298 := Tryz.func286.trans (congrArg some (by kernel_rfl))
 f299 := Tryz.func287.trans (congrArg some (by kernel_rfl))
 f300 := Tryz.func289.trans (congrArg some (by kernel_rfl))
 f301 := Tryz.func290.trans (congrArg some (by kernel_rfl))
 f328 := Tryz.func292.trans (congrArg some (by kernel_rfl))
 f329 := Tryz.func276.trans (congrArg some (by kernel_rfl))
 f330 := Tryz.func277.trans (congrArg some (by kernel_rfl))
 f331 := Tryz.func293.trans (congrArg some (by kernel_rfl))
 f332 := Tryz.func294.trans (congrArg some (by kernel_rfl))
 f343 := Tryz.func295.trans (congrArg some (by kernel_rfl))
 t0 := Tryz.underlying0
 a0 := Tryz.isAgg0
 z0 := Tryz.sizeOf0
 v0 := Tryz.zeroValue0
 t3 := Tryz.underlying3
 a3 := Tryz.isAgg3
 z3 := Tryz.sizeOf3
 v3 := Tryz.zeroValue3
 t4 := Tryz.underlying4
 a4 := Tryz.isAgg4
 z4 := Tryz.sizeOf4
 v4 := Tryz.zeroValue4
 t5 := Tryz.underlying5
 a5 := Tryz.isAgg5
 z5 := Tryz.sizeOf5
 v5 := Tryz.zeroValue5
 t9 := Tryz.underlying9
 a9 := Tryz.isAgg9
 z9 := Tryz.sizeOf9
 v9 := Tryz.zeroValue9
 t28 := Tryz.underlying25
 a28 := Tryz.isAgg25
 z28 := Tryz.sizeOf25
 v28 := Tryz.zeroValue25
 t46 := Tryz.underlying270
 a46 := Tryz.isAgg270
 z46 := Tryz.sizeOf270
 v46 := Tryz.zeroValue270
 t51 := Tryz.underlying284
 a51 := Tryz.isAgg284
 z51 := Tryz.sizeOf284
 v51 := Tryz.zeroValue284
 t53 := Tryz.underlying254
 a53 := Tryz.isAgg254
 z53 := Tryz.sizeOf254
 v53 := Tryz.zeroValue254
 t131 := Tryz.underlying190
 a131 := Tryz.isAgg190
 z131 := Tryz.sizeOf190
 v131 := Tryz.zeroValue190
 t182 := Tryz.underlying295
 a182 := Tryz.isAgg295
 z182 := Tryz.sizeOf295
 v182 := Tryz.zeroValue295
 t183 := Tryz.underlying296
 a183 := Tryz.isAgg296
 z183 := Tryz.sizeOf296
 v183 := Tryz.zeroValue296
 t218 := Tryz.underlying312
 a218 := Tryz.isAgg312
 z218 := Tryz.sizeOf312
 v218 := Tryz.zeroValue312
 t222 := Tryz.underlying316
 a222 := Tryz.isAgg316
 z222 := Tryz.sizeOf316
 v222 := Tryz.zeroValue316
 t228 := Tryz.underlying326
 a228 := Tryz.isAgg326
 z228 := Tryz.sizeOf326
 v228 := Tryz.zeroValue326
 t229 := Tryz.underlying181
 a229 := Tryz.isAgg181
 z229 := Tryz.sizeOf181
 v229 := Tryz.zeroValue181 }
def Tryz.clone_span_ren : Go.Shelf.Ren := ⟨fun | 41 => 167 | n => n, fun | 22 => 92 | 23 => 91 | 4 => 4 | n => n, fun | n => n⟩
theorem Tryz.clone_span : Go.Proofs.SlLaysE0.n41 Tryz.prog Tryz.clone_span_ren := {
 mixed := by kernel_rfl
 f41 := ⟨Tryz.f167.name, by decide, Tryz.func167.trans (congrArg some (by kernel_rfl))⟩
 t4 := Tryz.underlying4
 a4 := Tryz.isAgg4
 z4 := Tryz.sizeOf4
 v4 := Tryz.zeroValue4
 t22 := Tryz.underlying92
 a22 := Tryz.isAgg92
 z22 := Tryz.sizeOf92
 v22 := Tryz.zeroValue92 }
def Tryz.sort_span_ren : Go.Shelf.Ren := ⟨fun | 6 => 168 | 15 => 213 | 14 => 212 | 28 => 255 | 29 => 236 | 20 => 247 | 21 => 248 | 22 => 249 | 23 => 250 | 24 => 251 | 25 => 252 | 26 => 253 | 27 => 254 | 46 => 275 | 47 => 276 | 48 => 277 | 49 => 278 | 50 => 279 | 57 => 291 | n => n, fun | 22 => 92 | 24 => 91 | 25 => 232 | 3 => 3 | 39 => 270 | 0 => 0 | 53 => 284 | 55 => 254 | 4 => 4 | 46 => 296 | 45 => 295 | 50 => 190 | 5 => 5 | 9 => 9 | 66 => 312 | 70 => 316 | 76 => 326 | 77 => 181 | n => n, fun | n => n⟩
theorem Tryz.sort_span : Go.Proofs.SlLaysF0.n6 Tryz.prog Tryz.sort_span_ren := {
 mixed := by kernel_rfl
 f6 := ⟨Tryz.f168.name, by decide, Tryz.func168.trans (congrArg some (by kernel_rfl))⟩
 f14 := ⟨Tryz.f212.name, by decide, Tryz.func212.trans (congrArg some (by kernel_rfl))⟩
 f15 := Tryz.func213.trans (congrArg some (by kernel_rfl))
 f20 := ⟨Tryz.f247.name, by decide, Tryz.func247.trans (congrArg some (by kernel_rfl))⟩
 f21 := ⟨Tryz.f248.name, by decide, Tryz.func248.trans (congrArg some (by kernel_rfl))⟩
 f22 := ⟨Tryz.f249.name, by decide, Tryz.func249.trans (congrArg some (by kernel_rfl))⟩
 f23 := ⟨Tryz.f250.name, by decide, Tryz.func250.trans (congrArg some (by kernel_rfl))⟩
 f24 := ⟨Tryz.f251.name, by decide, Tryz.func251.trans (congrArg some (by kernel_rfl))⟩
 f25 := ⟨Tryz.f252.name, by decide, Tryz.func252.trans (congrArg some (by kernel_rfl))⟩
 f26 := ⟨Tryz.f253.name, by decide, Tryz.func253.trans (congrArg some (by kernel_rfl))⟩
 f27 := ⟨Tryz.f254.name, by decide, Tryz.func254.trans (congrArg some (by kernel_rfl))⟩
 f28 := Tryz.func255.trans (congrArg some (by kernel_rfl))
 f29 := Tryz.func236.trans (congrArg some (by kernel_rfl))
 f46 := ⟨Tryz.f275.name, by decide, Tryz.func275.trans (congrArg some (by kernel_rfl))⟩
 f47 := Tryz.func276.trans (congrArg some (by kernel_rfl))
 f48 := Tryz.func277.trans (congrArg some (by kernel_rfl))
 f49 := ⟨Tryz.f278.name, by decide, Tryz.func278.trans (congrArg some (by kernel_rfl))⟩
 f50 := ⟨Tryz.f279.name, by decide, Tryz.func279.trans (congrArg some (by kernel_rfl))⟩
 f57 := ⟨Tryz.f291.name, by decide, Tryz.func291.trans (congrArg some (by kernel_rfl))⟩
 t0 := Tryz.underlying0
 a0 := Tryz.isAgg0
 z0 := Tryz.sizeOf0
 v0 := Tryz.zeroValue0
 t3 := Tryz.underlying3
 a3 := Tryz.isAgg3
 z3 := Tryz.sizeOf3
 v3 := Tryz.zeroValue3
 t4 := Tryz.underlying4
 a4 := Tryz.isAgg4
 z4 := Tryz.sizeOf4
 v4 := Tryz.zeroValue4
 t5 := Tryz.underlying5
 a5 := Tryz.isAgg5
 z5 := Tryz.sizeOf5
 v5 := Tryz.zeroValue5
 t9 := Tryz.underlying9
 a9 := Tryz.isAgg9
 z9 := Tryz.sizeOf9
 v9 := Tryz.zeroValue9
 t22 := Tryz.underlying92
 a22 := Tryz.isAgg92
 z22 := Tryz.sizeOf92
 v22 := Tryz.zeroValue92
 t25 := Tryz.underlying232
 a25 := Tryz.isAgg232
 z25 := Tryz.sizeOf232
 v25 := Tryz.zeroValue232
 t39 := Tryz.underlying270
 a39 := Tryz.isAgg270
 z39 := Tryz.sizeOf270
 v39 := Tryz.zeroValue270
 t45 := Tryz.underlying295
 a45 := Tryz.isAgg295
 z45 := Tryz.sizeOf295
 v45 := Tryz.zeroValue295
 t46 := Tryz.underlying296
 a46 := Tryz.isAgg296
 z46 := Tryz.sizeOf296
 v46 := Tryz.zeroValue296
 t50 := Tryz.underlying190
 a50 := Tryz.isAgg190
 z50 := Tryz.sizeOf190
 v50 := Tryz.zeroValue190
 t53 := Tryz.underlying284
 a53 := Tryz.isAgg284
 z53 := Tryz.sizeOf284
 v53 := Tryz.zeroValue284
 t55 := Tryz.underlying254
 a55 := Tryz.isAgg254
 z55 := Tryz.sizeOf254
 v55 := Tryz.zeroValue254
 t66 := Tryz.underlying312
 a66 := Tryz.isAgg312
 z66 := Tryz.sizeOf312
 v66 := Tryz.zeroValue312
 t70 := Tryz.underlying316
 a70 := Tryz.isAgg316
 z70 := Tryz.sizeOf316
 v70 := Tryz.zeroValue316
 t76 := Tryz.underlying326
 a76 := Tryz.isAgg326
 z76 := Tryz.sizeOf326
 v76 := Tryz.zeroValue326
 t77 := Tryz.underlying181
 a77 := Tryz.isAgg181
 z77 := Tryz.sizeOf181
 v77 := Tryz.zeroValue181 }
def Tryz.grow_span_ren : Go.Shelf.Ren := ⟨fun | 4 => 273 | n => n, fun | 22 => 92 | 25 => 91 | 3 => 3 | 4 => 4 | 9 => 9 | 20 => 20 | 0 => 0 | 2 => 3 | n => n, fun | n => n⟩
theorem Tryz.grow_span : Go.Proofs.Lays8.n4 Tryz.prog Tryz.grow_span_ren := {
 mixed := by kernel_rfl
 f4 := ⟨Tryz.f273.name, by decide, Tryz.func273.trans (congrArg some (by kernel_rfl))⟩
 t0 := Tryz.underlying0
 a0 := Tryz.isAgg0
 z0 := Tryz.sizeOf0
 v0 := Tryz.zeroValue0
 t3 := Tryz.underlying3
 a3 := Tryz.isAgg3
 z3 := Tryz.sizeOf3
 v3 := Tryz.zeroValue3
 t4 := Tryz.underlying4
 a4 := Tryz.isAgg4
 z4 := Tryz.sizeOf4
 v4 := Tryz.zeroValue4
 t9 := Tryz.underlying9
 a9 := Tryz.isAgg9
 z9 := Tryz.sizeOf9
 v9 := Tryz.zeroValue9
 t20 := Tryz.underlying20
 a20 := Tryz.isAgg20
 z20 := Tryz.sizeOf20
 v20 := Tryz.zeroValue20
 t22 := Tryz.underlying92
 a22 := Tryz.isAgg92
 z22 := Tryz.sizeOf92
 v22 := Tryz.zeroValue92 }
end Go.Proofs
namespace Go.AM
open Go Go.Proofs
noncomputable section
def qlk (r : List T21.T) : AV := .own 0 0
def qnZ (a : List T21.T) (r : List T21.T) : List (Nat × Blk) := [(0, .row 91 T21 r)]
abbrev qNi (a : List T21.T) (r : List T21.T) : Prop := CC Tryz.prog 167 [ro T21 a] [] (qlk r) (qnZ a r)
def qb6 (k : Nat) (a : List T21.T) : Option (List T21.T) := if a.length * 16 ≤ 140737488355328 then some a else none
def qay := fun k a => (qb6 k a).getD []
def qMI (k : Nat) : Ke := (167, mo 1, fun
 | [.r (.ro d b)], [] => (qE d T21 b).bind fun a => some (.one (qlk (qay k a), qnZ a (qay k a)))
 | _, _ => none)
theorem qKw (k a r) (h : qb6 k a = some r): CC Tryz.prog 167 [.r (.ro T21 a)] [] (qlk r) (qnZ a r) := by
 unfold qb6 at h
 split at h
 ·rename_i q
  cases h
  exact qEQ (τ := T21) Tryz.clone_span (by kernel_rfl) Tryz.sizeOf91 ⟨Tryz.f167, _, Tryz.func167, rfl, by kernel_rfl⟩ a q
 ·cases h
theorem qKI {k a} (h : (qb6 k a).isSome): qNi a (qay k a) := qJ h (qKw k a)
def qlj (r : List T21.T) : AV := .tup []
def qn4 (a : List T21.T) (r : List T21.T) : List (Nat × Blk) := [(0, .row 91 T21 r)]
abbrev qNX (a : List T21.T) (r : List T21.T) : Prop := CC Tryz.prog 168 [.own 0 0, .r (.v (.func (.func 169) #[] #[]))] [.row 91 T21 a] (qlj r) (qn4 a r)
theorem qSQ (x y : Y5) (W : World) : Calls Tryz.prog 169 #[.agg #[.int .i64 x.1.1, .int .i64 x.1.2], .agg #[.int .i64 y.1.1, .int .i64 y.1.2]] W fun e w' => e = .returned (.int .i64 (XL x y)) ∧ ∃ q os', w' = Sort.grow (W.drewN q) os' := by
 have hw : RowKit.wrap64 (x.1.1 - y.1.1) = XL x y := by
  have h1 := x.2; have h2 := y.2
  unfold VA at h1 h2
  unfold RowKit.wrap64 XL
  omega
 go_enter Tryz.func169, Tryz.ntmps169
 go_wp2
 go_ret
 exact ⟨by rw [← hw]; rfl, 0, _, by rw [Sort.alloc_eq_grow, Sort.alloc_eq_grow, Sort.grow_grow]; rfl⟩
def qby (k : Nat) (a : List T21.T) : Option (List T21.T) := if (a.all fun x => decide (VA x.1)) = true ∧ a.length < 4611686018427387904 then some (qx3 a) else none
def qbC := fun k a => (qby k a).getD []
def qJy (k : Nat) : Ke := (168, fun
 | [.own _ _, .r (.v (.func (.func 169) _ _))] => some [true, false]
 | _ => none, fun
 | [.own 0 0, .r (.v (.func (.func 169) _ _))], [.row 91 d b] => (qE d T21 b).bind fun a => some (.one (qlj (qbC k a), qn4 a (qbC k a)))
 | _, _ => none)
theorem qJE (k a r) (h : qby k a = some r): CC Tryz.prog 168 [.own 0 0, .r (.v (.func (.func 169) #[] #[]))] [.row 91 T21 a] (qlj r) (qn4 a r) := by
 unfold qby at h
 split at h
 ·rename_i q
  cases h
  rw [qrR (fun x hx => by simpa using vA.1 q.1 x hx)]
  have h1 : (QO a).map (·.1) = a := qkL a fun x hx => by simpa using vA.1 q.1 x hx
  have hl : (QO a).toArray.size = a.length := by
   have := congrArg qe h1
   simpa using this
  have := quw (P := Tryz.prog) Tryz.sort_span ⟨Tryz.f168, _, Tryz.func168, rfl, by kernel_rfl⟩ (τ := T21) rfl (by decide) Tryz.isAgg91 Tryz.sizeOf91 91 (α := Y5) (fun x => x.1) XL qiC 169 (enters_of Tryz.func169 (by kernel_rfl) rfl) (fun blk n w => fun _ _ _ _ x y => qSQ x y _) (QO a).toArray (by rw [hl]; exact q.2) (fun x v hv => by simp [wq] at hv; rcases hv with rfl | rfl <;> rfl)
  have e2 : (QO a).toArray.toList.map (fun x : Y5 => x.1) = a := h1
  rw [e2] at this
  exact this
 ·cases h
theorem qM6 {k a} (h : (qby k a).isSome): qNX a (qbC k a) := qJ h (qJE k a)
def qNl (k : Nat) (a : T21.T) (b : T21.T) : Option Int :=
 some (qa .i64 (a.1 - b.1))
def qN1 := fun k a b => (qNl k a b).getD 0
def qJQ (k : Nat) : Ke := (169, mo 2, fun
 | [.agg d, .agg e], [] => (qW [] T21 d).bind fun a => (qW [] T21 e).bind fun b => some (.one (ri (qN1 k a b), []))
 | _, _ => none)
end
end Go.AM
namespace Go.AM
open Go Go.Proofs
noncomputable section
abbrev qmE : Type := List T21.T
def qkM (r : qmE) : AV := ro T21 r
abbrev qDV (a : List T21.T) (r : qmE) : Prop := CC Tryz.prog 117 [ro T21 a] [] (qkM r) (nb r)
def qDl := fun y0 y1 y2 y3 y4 => (⟨qI 66 [(3, .own 1000000 0), (4, .ptr 1000001 0 0), (12, .own 1000002 0), (13, ri y0), (14, ri y1)], [(1000000, 0, .row 91 T21 y2), (1000001, 0, .var 91 (qy (qr T21 y3))), (1000002, 0, .row 91 T21 y4)]⟩ : St)
def vL (k : Nat) : Nat → Int → Int → List T21.T → T21.T → List T21.T → Option qmE
 | 0, _, _, _, _, _ => none
 | j + 1, y0, y1, y2, y3, y4 =>
 bif y1 < y0 then
 if (0 ≤ y1) ∧ (y1 < y4.length) then
 bif (decide ((y4.getD y1.toNat T21.dflt).1 ≥ (y4.getD y1.toNat T21.dflt).2) || Vp T21 (y4.getD y1.toNat T21.dflt) y3) then
 vL k j y0 (qa .i64 (y1 + 1)) y2 (y4.getD y1.toNat T21.dflt) y4
 else
 if (decide ((↑y2.length : Int) > (0 : Int)) = true → (0 : Int) ≤ qa .i64 ((↑y2.length : Int) - (1 : Int))) ∧ (decide ((↑y2.length : Int) > (0 : Int)) = true → qa .i64 ((↑y2.length : Int) - (1 : Int)) < (↑y2.length : Int)) then
 bif (decide ((↑y2.length : Int) > (0 : Int)) && decide ((y4.getD y1.toNat T21.dflt).1 ≤ (y2.getD (qa .i64 ((↑y2.length : Int) - (1 : Int))).toNat T21.dflt).2)) then
 if ((0 : Int) ≤ qa .i64 ((↑y2.length : Int) - (1 : Int))) ∧ (qa .i64 ((↑y2.length : Int) - (1 : Int)) < (↑y2.length : Int)) ∧ ((0 : Int) ≤ qa .i64 ((↑y2.length : Int) - (1 : Int))) ∧ (qa .i64 ((↑y2.length : Int) - (1 : Int)) < (↑y2.length : Int)) then
 vL k j y0 (qa .i64 (y1 + 1)) (y2.set (qa .i64 ((↑y2.length : Int) - 1)).toNat ((y2.getD (qa .i64 ((↑y2.length : Int) - 1)).toNat T21.dflt).1, if (y4.getD y1.toNat T21.dflt).2 > (y2.getD (qa .i64 ((↑y2.length : Int) - 1)).toNat T21.dflt).2 then (y4.getD y1.toNat T21.dflt).2 else (y2.getD (qa .i64 ((↑y2.length : Int) - 1)).toNat T21.dflt).2)) (y4.getD y1.toNat T21.dflt) y4
 else none
 else
 if ((y2.length + [y4.getD y1.toNat T21.dflt].length) * (16 : Nat) ≤ (140737488355328 : Nat)) then
 vL k j y0 (qa .i64 (y1 + 1)) (y2 ++ [y4.getD y1.toNat T21.dflt]) (y4.getD y1.toNat T21.dflt) y4
 else none
 else none
 else none
 else
 some y2
def X1 (k : Nat) (a : List T21.T) : Option qmE :=
 if ((qb6 k a).isSome) then
 if ((qby k (qay k a)).isSome) then
 vL k k (↑ (qe (qbC k (qay k a))) : Int) 0 ([]) (0, 0) (qbC k (qay k a))
 else none
 else none
def vP := fun k a => (X1 k a).getD []
def qo8 (k : Nat) : Ke := (117, mo 1, fun
 | [.r (.ro d b)], [] => (qE d T21 b).bind fun a => some (.one (qkM (vP k a), []))
 | _, _ => none)
def qEK (k : Nat) : Calld := qD [qMI k, qJy k, qJQ k]
def qvx : List (Nat × List Cmd) := [(6, [.row 3 91 T21, .autoB [3, 4, 12, 13, 14] false []])]
abbrev qPB := EP Tryz.f117 0 qkM nb
theorem qwl (k) : ∀ j, (∀ y0 y1 y2 y3 y4, qPB 6 (qDl y0 y1 y2 y3 y4) (vL k j y0 y1 y2 y3 y4))
 | 0 => by intros; exact e0
 | j + 1 => by
  have ih := @qwl k j
  ·intro y0 y1 y2 y3 y4 r h
   rw [vL] at h
   exact go (qEK k) [] qvx [.frz 2 false (RTy.list T21), .autoB [2] true []] (gS h (fun h => qS h fun h => gS h (fun h => gC h 6 (ih _ _ _ _ _ _)) fun h => qS h fun h => gS h (fun h => gN h Xo fun h => gC h 6 (ih _ _ _ _ _ _)) fun h => qu h id fun h => gC h 6 (ih _ _ _ _ _ _)) fun h => gL h)
theorem qMq (k a r) (h : X1 k a = some r): qDV a r := qN Tryz.f117 (go (qEK k) [] qvx [.frz 2 false (RTy.list T21), .autoB [2] true []] (qu h qKI fun h => qu h qM6 fun h => gC h 6 ((qwl k k) _ _ _ _ _ _)))
theorem qjZ {k a} (h : (X1 k a).isSome): qDV a (vP k a) := qJ h (qMq k a)
def qkJ (r : Int × Int) : AV := .tup [ri r.1, ri r.2]
abbrev qEi (a : List T21.T) (r : Int × Int) : Prop := CC Tryz.prog 69 [ro T21 a] [] (qkJ r) (nb r)
def qDA := fun y0 y1 y2 y3 => (⟨qI 29 [(5, ri y0), (14, ro T21 y1), (15, ri y2), (16, ri y3)], []⟩ : St)
def Yq (k : Nat) : Nat → Int → List T21.T → Int → Int → Option (Int × Int)
 | 0, _, _, _, _ => none
 | j + 1, y0, y1, y2, y3 =>
 bif y3 < y2 then
 if (0 ≤ y3) ∧ (y3 < y1.length) then
 Yq k j (qa .i64 (y0 + qa .i64 ((y1.getD y3.toNat T21.dflt).2 - (y1.getD y3.toNat T21.dflt).1))) y1 y2 (qa .i64 (y3 + 1))
 else none
 else
 some (y0, 0)
def qcp (k : Nat) (a : List T21.T) : Option (Int × Int) :=
 if ((qaG k a).isSome) then
 bif (Vv k a != (0 : Int)) then
 some (0, Vv k a)
 else
 if ((X1 k a).isSome) then
 Yq k k 0 (vP k a) (↑ (qe (vP k a)) : Int) 0
 else none
 else none
def XF := fun k a => (qcp k a).getD (0, 0)
def qKn (k : Nat) : Ke := (69, mo 1, fun
 | [.r (.ro d b)], [] => (qE d T21 b).bind fun a => some (.one (qkJ (XF k a), []))
 | _, _ => none)
def qxs : List (Nat × List Cmd) := [(6, [.autoB [5, 14, 15, 16] false []])]
abbrev qQ2 := EP Tryz.f69 0 qkJ nb
theorem qwX (k) : ∀ j, (∀ y0 y1 y2 y3, qQ2 6 (qDA y0 y1 y2 y3) (Yq k j y0 y1 y2 y3))
 | 0 => by intros; exact e0
 | j + 1 => by
  have ih := @qwX k j
  ·intro y0 y1 y2 y3 r h
   rw [Yq] at h
   exact go (qD [qnM k, qo8 k]) [] qxs [.autoB [2, 3] true []] (gS h (fun h => qS h fun h => gC h 6 (ih _ _ _ _ _)) fun h => gL h)
theorem qKL (k a r) (h : qcp k a = some r): qEi a r := qN Tryz.f69 (go (qD [qnM k, qo8 k]) [] qxs [.autoB [2, 3] true []] (qu h qoF fun h => qB h fun h => qu h qjZ fun h => gC h 6 ((qwX k k) _ _ _ _ _)))
theorem qMz {k a} (h : (qcp k a).isSome): qEi a (XF k a) := qJ h (qKL k a)
def qwN (r : T21.T) : AV := .agg (qy (qr T21 r))
abbrev qHu (a : T3.T) (r : T21.T) : Prop := CC Tryz.prog 165 [.agg (qy (qr T3 a))] [] (qwN r) (nb r)
def qfA (k : Nat) (a : T3.T) : Option T21.T :=
 if ((qad k a (qa .i64 (a.2.1 - 1))).isSome) then
 some (if vl k a (qa .i64 (a.2.1 - 1)) < a.1 then vl k a (qa .i64 (a.2.1 - 1)) else a.1, qa .i64 ((if vl k a (qa .i64 (a.2.1 - 1)) > a.1 then vl k a (qa .i64 (a.2.1 - 1)) else a.1) + 1))
 else none
def wp := fun k a => (qfA k a).getD (T21).dflt
def qmO (k : Nat) : Ke := (165, mo 1, fun
 | [.agg b], [] => (qW [] T3 b).bind fun a => some (.one (qwN (wp k a), []))
 | _, _ => none)
theorem qQe (k a r) (h : qfA k a = some r): qHu a r := qN Tryz.f165 (go (qD [qee k]) [] [] [.autoB [2] true []] (qu h qiT fun h => gL h))
theorem qz3 {k a} (h : (qfA k a).isSome): qHu a (wp k a) := qJ h (qQe k a)
abbrev qEO (a : Bool) (b : Bool) (r : Bool) : Prop := CC Tryz.prog 211 [rb a, rb b] [] (rb r) (nb r)
def qfb (k : Nat) (a : Bool) (b : Bool) : Option Bool :=
 some a
def qiE := fun k a b => (qfb k a b).getD false
def qxq (k : Nat) : Ke := (211, mo 2, fun
 | [.r (.v (.bool a)), .r (.v (.bool b))], [] => some (.one (rb (qiE k a b), []))
 | _, _ => none)
theorem qJG (k a b r) (h : qfb k a b = some r): qEO a b r := qN Tryz.f211 (go (qD []) [] [] [.autoB [4] true []] (gL h))
theorem qKc {k a b} (h : (qfb k a b).isSome): qEO a b (qiE k a b) := qJ h (qJG k a b)
def qlv (r : List T21.T) : AV := .own 0 0
def qoW (a : Int) (r : List T21.T) : List (Nat × Blk) := [(0, .row 91 T21 r)]
abbrev qPy (a : Int) (r : List T21.T) : Prop := CC Tryz.prog 273 [.r (.v (Value.slice none 0 0)), ri a] [] (qlv r) (qoW a r)
def qbK (k : Nat) (a : Int) : Option (List T21.T) := if 0 ≤ a ∧ a.toNat * 16 ≤ 140737488355328 then some [] else none
def qei := fun k a => (qbK k a).getD []
def qwB (k : Nat) : Ke := (273, fun
 | [.r (.v (Value.slice none 0 0)), _] => some [true, false]
 | _ => none, fun
 | [.r (.v (Value.slice none 0 0)), .r (.v (.int .i64 a))], [] => some (.one (qlv (qei k a), qoW a (qei k a)))
 | _, _ => none)
theorem qLo (k a r) (h : qbK k a = some r): CC Tryz.prog 273 [.r (.v (Value.slice none 0 0)), .r (.v (.int .i64 a))] [] (qlv r) (qoW a r) := by
 unfold qbK at h
 split at h
 ·rename_i q
  cases h
  exact qFt Tryz.grow_span ⟨Tryz.f273, _, Tryz.func273, rfl, by kernel_rfl⟩ T21 (by kernel_rfl) a q.1 q.2
 ·cases h
theorem qJO {k a} (h : (qbK k a).isSome): qPy a (qei k a) := qJ h (qLo k a)
def qlt (r : List T21.T) : AV := .own 0 0
def qnB (a : List (RTy.list T21).T) (r : List T21.T) : List (Nat × Blk) := [(0, .row 91 T21 r)]
abbrev qBf (a : List (RTy.list T21).T) (r : List T21.T) : Prop := CC Tryz.prog 245 [.r (.ro (RTy.list T21) a)] [] (qlt r) (qnB a r)
def qAT := fun y0 y1 y2 y3 y4 => (⟨qI 36 [(0, .r (.ro T21.list y0)), (3, ri y1), (9, .r (.ro T21.list y2)), (10, ri y3), (11, ri y4)], []⟩ : St)
def qyB := fun y0 y1 y2 y3 => (⟨qI 36 [(6, .own 1000000 0), (25, .r (.ro T21.list y0)), (26, ri y1), (27, ri y2)], [(1000000, 0, .row 91 T21 y3)]⟩ : St)
mutual
def WA (k : Nat) : Nat → List (T21.list).T → Int → List (T21.list).T → Int → Int → Option (List T21.T)
 | 0, _, _, _, _, _ => none
 | j + 1, y0, y1, y2, y3, y4 =>
 bif y4 < y3 then
 if (0 ≤ y4) ∧ (y4 < y2.length) then
 bif qa .i64 (y1 + (↑ (qe (y2.getD y4.toNat T21.list.dflt)) : Int)) < (0 : Int) then
 none
 else
 WA k j y0 (qa .i64 (y1 + (↑ (qe (y2.getD y4.toNat T21.list.dflt)) : Int))) y2 y3 (qa .i64 (y4 + 1))
 else none
 else
 if ((qbK k y1).isSome) then
 QB k j y0 (↑y0.length : Int) 0 (qei k y1)
 else none
def QB (k : Nat) : Nat → List (T21.list).T → Int → Int → List T21.T → Option (List T21.T)
 | 0, _, _, _, _ => none
 | j + 1, y0, y1, y2, y3 =>
 bif y2 < y1 then
 if (0 ≤ y2) ∧ (y2 < y0.length) then
 if ((y3.length + qe (y0.getD y2.toNat T21.list.dflt)) * (16 : Nat) ≤ (140737488355328 : Nat)) then
 QB k j y0 y1 (qa .i64 (y2 + 1)) (y3 ++ y0.getD y2.toNat T21.list.dflt)
 else none
 else none
 else
 some y3
end
def qe0 (k : Nat) (a : List (RTy.list T21).T) : Option (List T21.T) :=
 WA k k a 0 a (↑a.length : Int) 0
def qbM := fun k a => (qe0 k a).getD []
def qKF (k : Nat) : Ke := (245, mo 1, fun
 | [.r (.ro d b)], [] => (qE d (RTy.list T21) b).bind fun a => some (.one (qlt (qbM k a), qnB a (qbM k a)))
 | _, _ => none)
def qvE : List (Nat × List Cmd) := [(3, [.autoB [0, 3, 9, 10, 11] false []]), (11, [.autoB [6, 25, 26, 27] false []])]
abbrev qC3 := fun a => EP Tryz.f245 0 qlt (qnB a)
theorem qvg (k a) : ∀ j, (∀ {y0 y1 y2 y3 y4}, qC3 a 3 (qAT y0 y1 y2 y3 y4) (WA k j y0 y1 y2 y3 y4)) ∧ (∀ {y0 y1 y2 y3}, qC3 a 11 (qyB y0 y1 y2 y3) (QB k j y0 y1 y2 y3))
 | 0 => by and_intros <;> intros <;> exact e0
 | j + 1 => by
  have ih := @qvg k a j
  have g := @go (qD [qwB k]) [] qvE [.autoB [2] true []]
  refine ⟨?_, ?_⟩
  ·intro y0 y1 y2 y3 y4 r h
   rw [WA] at h
   exact g (gS h (fun h => qS h fun h => gS h (fun h => gZ h (.stuck 5000)) fun h => gD h 3 ih.1) fun h => qu h qJO fun h => gD h 11 ih.2)
  ·intro y0 y1 y2 y3 r h
   rw [QB] at h
   exact g (gS h (fun h => qS h fun h => qu h id fun h => gD h 11 ih.2) fun h => gL h)
theorem qMU (k a r) (h : qe0 k a = some r): qBf a r := qN Tryz.f245 (go (qD [qwB k]) [] qvE [.autoB [2] true []] (gD h 3 (qvg k a k).1))
theorem qMm {k a} (h : (qe0 k a).isSome): qBf a (qbM k a) := qJ h (qMU k a)
def qlG (r : List Int) : AV := .tup []
def qo2 (a : List I.T) (r : List Int) : List (Nat × Blk) := [(0, .row 3 (RTy.int .i64) r)]
abbrev qNB (a : List I.T) (r : List Int) : Prop := CC Tryz.prog 246 [.own 0 0] [.row 3 I a] (qlG r) (qo2 a r)
def qct (k : Nat) (a : List Int) : Option (List Int) := if a.length < 4611686018427387904 then some (qG5 a) else none
def qcg := fun k a => (qct k a).getD []
def qMb (k : Nat) : Ke := (246, fun
 | [.own _ _] => some [true]
 | _ => none, fun
 | [.own 0 0], [.row 3 d b] => (qE d I b).bind fun a => some (.one (qlG (qcg k a), qo2 a (qcg k a)))
 | _, _ => none)
theorem qMQ (k a r) (h : qct k a = some r): CC Tryz.prog 246 [.own 0 0] [.row 3 I a] (qlG r) (qo2 a r) := by
 unfold qct at h
 split at h
 ·rename_i q
  cases h
  rw [qwa a]
  exact quB Tryz.sort_int ⟨Tryz.f246, _, Tryz.func246, rfl, by kernel_rfl⟩ 3 a q
 ·cases h
theorem qKb {k a} (h : (qct k a).isSome): qNB a (qcg k a) := qJ h (qMQ k a)
abbrev qav : Type := List T21.T × Int
def qlp (r : qav) : AV := .tup [ro T21 r.1, ri r.2]
abbrev qCM (a : List T21.T) (b : List T21.T) (r : qav) : Prop := CC Tryz.prog 210 [ro T21 a, ro T21 b, .r (.v (.func (.func 211) #[] #[]))] [] (qlp r) (nb r)
def qzi := fun y0 y1 y2 y3 y4 y5 => (⟨qI 147 [(0, ro T21 y0), (1, ro T21 y1), (2, .r (.v (Value.func (Fn.func 211) #[] #[]))), (10, .own 1000000 0), (35, .own 1000001 0), (36, ri y2), (37, ri y3)], [(1000000, 0, .row 3 I y4), (1000001, 0, .row 91 T21 y5)]⟩ : St)
def qx9 := fun y0 y1 y2 y3 y4 y5 y6 y7 => (⟨qI 147 [(0, ro T21 y0), (1, ro T21 y1), (2, .r (.v (Value.func (Fn.func 211) #[] #[]))), (10, .own 1000000 0), (13, .own 1000001 0), (14, ri y2), (15, ri y3), (51, .own 1000000 0), (52, ri y4), (53, ri y5)], [(1000000, 0, .row 3 (RTy.int IntKind.i64) y6), (1000001, 0, .row 91 T21 y7)]⟩ : St)
def qyf := fun y0 y1 y2 y3 y4 y5 y6 y7 y8 y9 => (⟨qI 147 [(0, ro T21 y0), (1, ro T21 y1), (2, .r (.v (Value.func (Fn.func 211) #[] #[]))), (10, .own 1000000 0), (13, .own 1000001 0), (14, ri y2), (15, ri y3), (16, ri y4), (17, ri y5), (51, .own 1000000 0), (52, ri y6), (53, ri y7)], [(1000000, 0, .row 3 (RTy.int IntKind.i64) y8), (1000001, 0, .row 91 T21 y9)]⟩ : St)
def qx7 := fun y0 y1 y2 y3 y4 y5 y6 y7 y8 y9 => (⟨qI 147 [(0, ro T21 y0), (1, ro T21 y1), (2, .r (.v (Value.func (Fn.func 211) #[] #[]))), (10, .own 1000000 0), (13, .own 1000001 0), (14, ri y2), (15, ri y3), (16, ri y4), (17, ri y5), (51, .own 1000000 0), (52, ri y6), (53, ri y7)], [(1000000, 0, .row 3 (RTy.int IntKind.i64) y8), (1000001, 0, .row 91 T21 y9)]⟩ : St)
def qxZ := fun y0 => (⟨qI 147 [(13, ro T21 y0)], []⟩ : St)
mutual
def Xj (k : Nat) : Nat → List T21.T → List T21.T → Int → Int → List I.T → List T21.T → Option qav
 | 0, _, _, _, _, _, _ => none
 | j + 1, y0, y1, y2, y3, y4, y5 =>
 bif y3 < y2 then
 if (0 ≤ y3) ∧ (y3 < y5.length) then
 if ((y4.length + [(y5.getD y3.toNat T21.dflt).1, (y5.getD y3.toNat T21.dflt).2].length) * (8 : Nat) ≤ (140737488355328 : Nat)) then
 Xj k j y0 y1 y2 (qa .i64 (y3 + 1)) (y4 ++ [(y5.getD y3.toNat T21.dflt).1, (y5.getD y3.toNat T21.dflt).2]) y5
 else none
 else none
 else
 if ((qct k y4).isSome) then
 zq k j y0 y1 0 0 (↑ (qe (qcg k y4)) : Int) 0 (qcg k y4) ([])
 else none
def zq (k : Nat) : Nat → List T21.T → List T21.T → Int → Int → Int → Int → List (RTy.int IntKind.i64).T → List T21.T → Option qav
 | 0, _, _, _, _, _, _, _, _ => none
 | j + 1, y0, y1, y2, y3, y4, y5, y6, y7 =>
 bif y5 < y4 then
 if (0 ≤ y5) ∧ (y5 < y6.length) then
 zp k j y0 y1 y2 y3 y5 (y6.getD y5.toNat (RTy.int IntKind.i64).dflt) y4 y5 y6 y7
 else none
 else
 qaE k j y7
def zp (k : Nat) : Nat → List T21.T → List T21.T → Int → Int → Int → Int → Int → Int → List (RTy.int IntKind.i64).T → List T21.T → Option qav
 | 0, _, _, _, _, _, _, _, _, _, _ => none
 | j + 1, y0, y1, y2, y3, y4, y5, y6, y7, y8, y9 =>
 if (decide (y2 < y0.length) = true → 0 ≤ y2) ∧ (decide (y2 < y0.length) = true → y2 < y0.length) then
 bif (decide (y2 < y0.length) && decide ((y0.getD y2.toNat T21.dflt).2 ≤ y5)) then
 zp k j y0 y1 (qa .i64 (y2 + 1)) y3 y4 y5 y6 y7 y8 y9
 else
 zJ k j y0 y1 y2 y3 y4 y5 y6 y7 y8 y9
 else none
def zJ (k : Nat) : Nat → List T21.T → List T21.T → Int → Int → Int → Int → Int → Int → List (RTy.int IntKind.i64).T → List T21.T → Option qav
 | 0, _, _, _, _, _, _, _, _, _, _ => none
 | j + 1, y0, y1, y2, y3, y4, y5, y6, y7, y8, y9 =>
 if (decide (y3 < y1.length) = true → 0 ≤ y3) ∧ (decide (y3 < y1.length) = true → y3 < y1.length) then
 bif (decide (y3 < y1.length) && decide ((y1.getD y3.toNat T21.dflt).2 ≤ y5)) then
 zJ k j y0 y1 y2 (qa .i64 (y3 + 1)) y4 y5 y6 y7 y8 y9
 else
 if ((qa .i64 (y4 + 1) == (↑y8.length : Int)) = false → (0 : Int) ≤ qa .i64 (y4 + 1)) ∧ ((qa .i64 (y4 + 1) == (↑y8.length : Int)) = false → qa .i64 (y4 + 1) < (↑y8.length : Int)) then
 bif (qa .i64 (y4 + 1) == (↑y8.length : Int) || y8.getD (qa .i64 (y4 + 1)).toNat (RTy.int IntKind.i64).dflt == y5) then
 zq k j y0 y1 y2 y3 y6 (qa .i64 (y7 + 1)) y8 y9
 else
 if (decide (y2 < y0.length) = true → 0 ≤ y2) ∧ (decide (y2 < y0.length) = true → y2 < y0.length) ∧ (decide (y3 < y1.length) = true → 0 ≤ y3) ∧ (decide (y3 < y1.length) = true → y3 < y1.length) ∧ ((qfb k (decide (y2 < y0.length) && decide ((y0.getD y2.toNat T21.dflt).1 ≤ y5)) (decide (y3 < y1.length) && decide ((y1.getD y3.toNat T21.dflt).1 ≤ y5))).isSome) then
 bif (qiE k (decide (y2 < y0.length) && decide ((y0.getD y2.toNat T21.dflt).1 ≤ y5)) (decide (y3 < y1.length) && decide ((y1.getD y3.toNat T21.dflt).1 ≤ y5))) then
 if ((0 : Int) ≤ qa .i64 (y4 + 1)) ∧ (qa .i64 (y4 + 1) < (↑y8.length : Int)) ∧ ((y9.length + [(y5, y8.getD (qa .i64 (y4 + 1)).toNat (RTy.int IntKind.i64).dflt)].length) * (16 : Nat) ≤ (140737488355328 : Nat)) then
 zq k j y0 y1 y2 y3 y6 (qa .i64 (y7 + 1)) y8 (y9 ++ [(y5, y8.getD (qa .i64 (y4 + 1)).toNat (RTy.int IntKind.i64).dflt)])
 else none
 else
 zq k j y0 y1 y2 y3 y6 (qa .i64 (y7 + 1)) y8 y9
 else none
 else none
 else none
def qaE (k : Nat) : Nat → List T21.T → Option qav
 | 0, _ => none
 | j + 1, y0 =>
 if ((X1 k y0).isSome) then
 bif (↑ (qe (vP k y0)) : Int) > (256 : Int) then
 some ([], 8)
 else
 some (vP k y0, 0)
 else none
end
def qe6 (k : Nat) (a : List T21.T) (b : List T21.T) : Option qav :=
 if ((qaG k a).isSome) then
 bif (Vv k a != (0 : Int)) then
 some ([], Vv k a)
 else
 if ((qaG k b).isSome) then
 bif (Vv k b != (0 : Int)) then
 some ([], Vv k b)
 else
 if ((X1 k a).isSome) ∧ ((X1 k b).isSome) then
 if ((qe0 k [vP k a, vP k b]).isSome) then
 Xj k k (vP k a) (vP k b) (↑ (qe (qbM k [vP k a, vP k b])) : Int) 0 ([]) (qbM k [vP k a, vP k b])
 else none
 else none
 else none
 else none
def qeE := fun k a b => (qe6 k a b).getD ([], 0)
def qL8 (k : Nat) : Ke := (210, fun
 | [_, _, .r (.v (.func (.func 211) _ _))] => some [false, false, false]
 | _ => none, fun
 | [.r (.ro i e), .r (.ro f d), .r (.v (.func (.func 211) _ _))], [] => (qE i T21 e).bind fun a => (qE f T21 d).bind fun b => some (.one (qlp (qeE k a b), []))
 | _, _ => none)
def qBs (k : Nat) : Calld := qD [qnM k, qo8 k, qKF k, qMb k, qxq k]
def qu7 : List (Nat × List Cmd) := [(10, [.row 10 3 I, .autoB [0, 1, 2, 10, 35, 36, 37] false []]), (18, [.row 13 91 T21, .autoB [0, 1, 2, 10, 13, 14, 15, 51, 52, 53] false []]), (20, [.autoB [0, 1, 2, 10, 13, 14, 15, 16, 17, 51, 52, 53] false []]), (22, [.autoB [0, 1, 2, 10, 13, 14, 15, 16, 17, 51, 52, 53] false []]), (28, [.frz 13 false (RTy.list T21), .autoB [13] false []])]
abbrev qia := EP Tryz.f210 0 qlp nb
theorem qu0 (k) : ∀ j, (∀ {y0 y1 y2 y3 y4 y5}, qia 10 (qzi y0 y1 y2 y3 y4 y5) (Xj k j y0 y1 y2 y3 y4 y5)) ∧ (∀ {y0 y1 y2 y3 y4 y5 y6 y7}, qia 18 (qx9 y0 y1 y2 y3 y4 y5 y6 y7) (zq k j y0 y1 y2 y3 y4 y5 y6 y7)) ∧ (∀ {y0 y1 y2 y3 y4 y5 y6 y7 y8 y9}, qia 20 (qyf y0 y1 y2 y3 y4 y5 y6 y7 y8 y9) (zp k j y0 y1 y2 y3 y4 y5 y6 y7 y8 y9)) ∧ (∀ {y0 y1 y2 y3 y4 y5 y6 y7 y8 y9}, qia 22 (qx7 y0 y1 y2 y3 y4 y5 y6 y7 y8 y9) (zJ k j y0 y1 y2 y3 y4 y5 y6 y7 y8 y9)) ∧ (∀ {y0}, qia 28 (qxZ y0) (qaE k j y0))
 | 0 => by and_intros <;> intros <;> exact e0
 | j + 1 => by
  have ih := @qu0 k j
  have g := @go (qBs k) [28] qu7 [.frz 6 false (RTy.list T21), .autoB [6, 7] true []]
  refine ⟨?_, ?_, ?_, ?_, ?_⟩
  ·intro y0 y1 y2 y3 y4 y5 r h
   rw [Xj] at h
   exact g (gS h (fun h => qS h fun h => qu h id fun h => gD h 10 ih.1) fun h => qu h qKb fun h => gD h 18 ih.2.1)
  ·intro y0 y1 y2 y3 y4 y5 y6 y7 r h
   rw [zq] at h
   exact g (gS h (fun h => qS h fun h => gD h 20 ih.2.2.1) fun h => gD h 28 ih.2.2.2.2)
  ·intro y0 y1 y2 y3 y4 y5 y6 y7 y8 y9 r h
   rw [zp] at h
   exact g (qS h fun h => gS h (fun h => gD h 20 ih.2.2.1) fun h => gD h 22 ih.2.2.2.1)
  ·intro y0 y1 y2 y3 y4 y5 y6 y7 y8 y9 r h
   rw [zJ] at h
   exact g (qS h fun h => gS h (fun h => gD h 22 ih.2.2.2.1) fun h => qS h fun h => gS h (fun h => gD h 18 ih.2.1) fun h => gN h (fun q => qf q.1 (qf q.2.1 (qf q.2.2.1 (qf q.2.2.2.1 (qf (qKc q.2.2.2.2) qR))))) fun h => gS h (fun h => gN h Xl fun h => gD h 18 ih.2.1) fun h => gD h 18 ih.2.1)
  ·intro y0 r h
   rw [qaE] at h
   exact g (qu h qjZ fun h => qB h fun h => gL h)
theorem qLZ (k a b r) (h : qe6 k a b = some r): qCM a b r := qN Tryz.f210 (go (qBs k) [28] qu7 [.frz 6 false (RTy.list T21), .autoB [6, 7] true []] (qu h qoF fun h => qB h fun h => qu h qoF fun h => qB h fun h => gN h (fun q => qf (qjZ q.1) (qf (qjZ q.2) qR)) fun h => qu h qMm fun h => gD h 10 (qu0 k k).1))
theorem qLP {k a b} (h : (qe6 k a b).isSome): qCM a b (qeE k a b) := qJ h (qLZ k a b)
abbrev qrC : Type := List T21.T × Int
def qsX (r : qrC) : AV := .tup [ro T21 r.1, ri r.2]
abbrev qBg (a : List T21.T) (r : qrC) : Prop := CC Tryz.prog 166 [ro T21 a] [] (qsX r) (nb r)
def qb2 (k : Nat) (a : List T21.T) : Option qrC :=
 if ((qe6 k a []).isSome) then
 some ((qeE k a []).1, (qeE k a []).2)
 else none
def qaC := fun k a => (qb2 k a).getD ([], 0)
def qjq (k : Nat) : Ke := (166, mo 1, fun
 | [.r (.ro d b)], [] => (qE d T21 b).bind fun a => some (.one (qsX (qaC k a), []))
 | _, _ => none)
theorem qKE (k a r) (h : qb2 k a = some r): qBg a r := qN Tryz.f166 (go (qD [qxq k, qL8 k]) [] [] [.frz 2 false (RTy.list T21), .autoB [2, 3] true []] (qu h qLP fun h => gL h))
theorem qwC {k a} (h : (qb2 k a).isSome): qBg a (qaC k a) := qJ h (qKE k a)
abbrev qnt : Type := List T21.T × Int
def qoL (r : qnt) : AV := .tup [ro T21 r.1, ri r.2]
abbrev qI6 (a : List T3.T) (r : qnt) : Prop := CC Tryz.prog 170 [ro T3 a] [] (qoL r) (nb r)
def qGt := fun y0 y1 y2 y3 => (⟨qI 29 [(5, .own 1000000 0), (13, ro T3 y0), (14, ri y1), (15, ri y2)], [(1000000, 0, .row 91 T21 y3)]⟩ : St)
def qCV := fun y0 => (⟨qI 29 [(5, ro T21 y0)], []⟩ : St)
mutual
def qbp (k : Nat) : Nat → List T3.T → Int → Int → List T21.T → Option qnt
 | 0, _, _, _, _ => none
 | j + 1, y0, y1, y2, y3 =>
 bif y2 < y1 then
 if (0 ≤ y2) ∧ (y2 < y0.length) then
 if ((qfA k (y0.getD y2.toNat T3.dflt)).isSome) ∧ ((y3.length + [wp k (y0.getD y2.toNat T3.dflt)].length) * (16 : Nat) ≤ (140737488355328 : Nat)) then
 qbp k j y0 y1 (qa .i64 (y2 + 1)) (y3 ++ [wp k (y0.getD y2.toNat T3.dflt)])
 else none
 else none
 else
 qgw k j y3
def qgw (k : Nat) : Nat → List T21.T → Option qnt
 | 0, _ => none
 | j + 1, y0 =>
 if ((qb2 k y0).isSome) then
 some ((qaC k y0).1, (qaC k y0).2)
 else none
end
def qge (k : Nat) (a : List T3.T) : Option qnt :=
 if ((Ve k a).isSome) then
 bif (vE k a != (0 : Int)) then
 some ([], vE k a)
 else
 qbp k k a (↑a.length : Int) 0 ([])
 else none
def zU := fun k a => (qge k a).getD ([], 0)
def qBQ (k : Nat) : Ke := (170, mo 1, fun
 | [.r (.ro d b)], [] => (qE d T3 b).bind fun a => some (.one (qoL (zU k a), []))
 | _, _ => none)
def qEu : List (Nat × List Cmd) := [(6, [.row 5 91 T21, .autoB [5, 13, 14, 15] false []]), (10, [.frz 5 false (RTy.list T21), .autoB [5] false []])]
abbrev qJd := EP Tryz.f170 0 qoL nb
theorem qDG (k) : ∀ j, (∀ {y0 y1 y2 y3}, qJd 6 (qGt y0 y1 y2 y3) (qbp k j y0 y1 y2 y3)) ∧ (∀ {y0}, qJd 10 (qCV y0) (qgw k j y0))
 | 0 => by and_intros <;> intros <;> exact e0
 | j + 1 => by
  have ih := @qDG k j
  have g := @go (qD [qcq k, qmO k, qjq k]) [10] qEu [.frz 2 false (RTy.list T21), .autoB [2, 3] true []]
  refine ⟨?_, ?_⟩
  ·intro y0 y1 y2 y3 r h
   rw [qbp] at h
   exact g (gS h (fun h => qS h fun h => gN h (fun q => qf (qz3 q.1) (qf q.2 qR)) fun h => gD h 6 ih.1) fun h => gD h 10 ih.2)
  ·intro y0 r h
   rw [qgw] at h
   exact g (qu h qwC fun h => gL h)
theorem qNL (k a r) (h : qge k a = some r): qI6 a r := qN Tryz.f170 (go (qD [qcq k, qmO k, qjq k]) [10] qEu [.frz 2 false (RTy.list T21), .autoB [2, 3] true []] (qu h qcl fun h => qB h fun h => gD h 6 (qDG k k).1))
theorem qDd {k a} (h : (qge k a).isSome): qI6 a (zU k a) := qJ h (qNL k a)
abbrev qHP (a : List T3.T) (r : Bool) : Prop := CC Tryz.prog 120 [ro T3 a] [] (rb r) (nb r)
def qc7 (k : Nat) (a : List T3.T) : Option Bool :=
 if ((qge k a).isSome) then
 bif ((zU k a).2 != (0 : Int)) then
 some false
 else
 if ((qcp k (zU k a).1).isSome) then
 bif ((XF k (zU k a).1).2 == (0 : Int)) then
 if (((XF k (zU k a).1).2 == (0 : Int)) = true) ∧ ((qcG k a).isSome) then
 some (true && (XF k (zU k a).1).1 == qfL k a)
 else none
 else
 if (((XF k (zU k a).1).2 == (0 : Int)) = false) then
 some false
 else none
 else none
 else none
def qgB := fun k a => (qc7 k a).getD false
def qOn (k : Nat) : Ke := (120, mo 1, fun
 | [.r (.ro d b)], [] => (qE d T3 b).bind fun a => some (.one (rb (qgB k a), []))
 | _, _ => none)
theorem qOM (k a r) (h : qc7 k a = some r): qHP a r := qN Tryz.f120 (go (qD [qsR k, qKn k, qBQ k]) [] [] [.autoB [2] true []] (qu h qDd fun h => qB h fun h => qu h qMz fun h => gS h (fun h => gN h (fun q => qf q.1 (qf (qtT q.2) qR)) fun h => gL h) fun h => qu h id fun h => gL h))
theorem qEW {k a} (h : (qc7 k a).isSome): qHP a (qgB k a) := qJ h (qOM k a)
abbrev qHf (a : T3.T) (r : Bool) : Prop := CC Tryz.prog 173 [.agg (qy (qr T3 a))] [] (rb r) (nb r)
def qjS (k : Nat) (a : T3.T) : Option Bool :=
 bif (decide (a.2.1 < (1 : Int)) || decide (a.2.1 > (17179869184 : Int)) || decide (a.1 < (0 : Int)) || decide (a.1 ≥ (17179869184 : Int))) then
 some false
 else
 bif a.2.2 then
 some (decide (qa .i64 (qa .i64 (a.1 - a.2.1) + 1) ≥ 0))
 else
 some (decide (qa .i64 (a.1 + a.2.1) ≤ 17179869184))
def qmx := fun k a => (qjS k a).getD false
def qD6 (k : Nat) : Ke := (173, mo 1, fun
 | [.agg b], [] => (qW [] T3 b).bind fun a => some (.one (rb (qmx k a), []))
 | _, _ => none)
theorem qOG (k a r) (h : qjS k a = some r): qHf a r := qN Tryz.f173 (go (qD []) [] [] [.autoB [2] true []] (qB h fun h => qB h fun h => gL h))
theorem qPf {k a} (h : (qjS k a).isSome): qHf a (qmx k a) := qJ h (qOG k a)
abbrev qJq (a : List T3.T) (r : Int) : Prop := CC Tryz.prog 174 [ro T3 a] [] (ri r) (nb r)
def qGE := fun y0 y1 y2 => (⟨qI 19 [(0, ro T3 y0), (3, ri y1), (4, ri y2)], []⟩ : St)
def qbi (k : Nat) : Nat → List T3.T → Int → Int → Option Int
 | 0, _, _, _ => none
 | j + 1, y0, y1, y2 =>
 bif y2 < y0.length then
 if (0 ≤ y2) ∧ (y2 < y0.length) then
 qbi k j y0 (qa .i64 (y1 + (y0.getD y2.toNat T3.dflt).2.1)) (qa .i64 (y2 + 1))
 else none
 else
 some y1
def qgk (k : Nat) (a : List T3.T) : Option Int :=
 qbi k k a 0 0
def qjE := fun k a => (qgk k a).getD 0
def qsv (k : Nat) : Ke := (174, mo 1, fun
 | [.r (.ro d b)], [] => (qE d T3 b).bind fun a => some (.one (ri (qjE k a), []))
 | _, _ => none)
def qCW : List (Nat × List Cmd) := [(3, [.autoB [0, 3, 4] false []])]
abbrev qSu := EP Tryz.f174 0 ri nb
theorem qAe (k) : ∀ j, (∀ y0 y1 y2, qSu 3 (qGE y0 y1 y2) (qbi k j y0 y1 y2))
 | 0 => by intros; exact e0
 | j + 1 => by
  have ih := @qAe k j
  ·intro y0 y1 y2 r h
   rw [qbi] at h
   exact go (qD []) [] qCW [.autoB [2] true []] (gS h (fun h => qS h fun h => gC h 3 (ih _ _ _ _)) fun h => gL h)
theorem qNS (k a r) (h : qgk k a = some r): qJq a r := qN Tryz.f174 (go (qD []) [] qCW [.autoB [2] true []] (gC h 3 ((qAe k k) _ _ _ _)))
theorem qCi {k a} (h : (qgk k a).isSome): qJq a (qjE k a) := qJ h (qNS k a)
abbrev qJe (a : List T3.T) (r : Int) : Prop := CC Tryz.prog 127 [ro T3 a] [] (ri r) (nb r)
def qGa := fun y0 y1 => (⟨qI 22 [(0, ro T3 y0), (3, ri y1)], []⟩ : St)
def qbj (k : Nat) : Nat → List T3.T → Int → Option Int
 | 0, _, _ => none
 | j + 1, y0, y1 =>
 bif y1 < y0.length then
 if (0 ≤ y1) ∧ (y1 < y0.length) ∧ ((qjS k (y0.getD y1.toNat T3.dflt)).isSome) then
 bif (!qmx k (y0.getD y1.toNat T3.dflt)) then
 some 1
 else
 qbj k j y0 (qa .i64 (y1 + 1))
 else none
 else
 if ((qgk k y0).isSome) then
 bif qjE k y0 > (17179869184 : Int) then
 some 21
 else
 some 0
 else none
def Z6 (k : Nat) (a : List T3.T) : Option Int :=
 bif (↑a.length : Int) > (256 : Int) then
 some 8
 else
 qbj k k a 0
def vS := fun k a => (Z6 k a).getD 0
def qeb (k : Nat) : Ke := (127, mo 1, fun
 | [.r (.ro d b)], [] => (qE d T3 b).bind fun a => some (.one (ri (vS k a), []))
 | _, _ => none)
def qzE : List (Nat × List Cmd) := [(4, [.autoB [0, 3] false []])]
abbrev qR3 := EP Tryz.f127 0 ri nb
theorem qDF (k) : ∀ j, (∀ y0 y1, qR3 4 (qGa y0 y1) (qbj k j y0 y1))
 | 0 => by intros; exact e0
 | j + 1 => by
  have ih := @qDF k j
  ·intro y0 y1 r h
   rw [qbj] at h
   exact go (qD [qD6 k, qsv k]) [] qzE [.autoB [2] true []] (gS h (fun h => gN h (fun q => qf q.1 (qf q.2.1 (qf (qPf q.2.2) qR))) fun h => qB h fun h => gC h 4 (ih _ _ _)) fun h => qu h qCi fun h => qB h fun h => gL h)
theorem qPc (k a r) (h : Z6 k a = some r): qJe a r := qN Tryz.f127 (go (qD [qD6 k, qsv k]) [] qzE [.autoB [2] true []] (qB h fun h => gC h 4 ((qDF k k) _ _ _)))
theorem qbV {k a} (h : (Z6 k a).isSome): qJe a (vS k a) := qJ h (qPc k a)
abbrev qIL (a : T3.T) (b : Int) (r : Int) : Prop := CC Tryz.prog 136 [.agg (qy (qr T3 a)), ri b] [] (ri r) (nb r)
def VF (k : Nat) (a : T3.T) (b : Int) : Option Int :=
 bif a.2.2 then
 some (qa .i64 (a.1 - b))
 else
 some (qa .i64 (a.1 + b))
def zi := fun k a b => (VF k a b).getD 0
def qh5 (k : Nat) : Ke := (136, mo 2, fun
 | [.agg d, .r (.v (.int .i64 b))], [] => (qW [] T3 d).bind fun a => some (.one (ri (zi k a b), []))
 | _, _ => none)
theorem qN9 (k a b r) (h : VF k a b = some r): qIL a b r := qN Tryz.f136 (go (qD []) [] [] [.autoB [4] true []] (qB h fun h => gL h))
theorem qcf {k a b} (h : (VF k a b).isSome): qIL a b (zi k a b) := qJ h (qN9 k a b)
def qnP (r : Int × Int) : AV := .tup [ri r.1, ri r.2]
abbrev qHk (a : List T3.T) (b : Int) (r : Int × Int) : Prop := CC Tryz.prog 182 [ro T3 a, ri b] [] (qnP r) (nb r)
def qFZ := fun y0 y1 y2 => (⟨qI 33 [(0, ro T3 y0), (1, ri y1), (6, ri y2)], []⟩ : St)
def YA (k : Nat) : Nat → List T3.T → Int → Int → Option (Int × Int)
 | 0, _, _, _ => none
 | j + 1, y0, y1, y2 =>
 bif (decide (y2 < y0.length) && decide (y1 ≥ 0)) then
 if (0 ≤ y2) ∧ (y2 < y0.length) then
 bif y1 < (y0.getD y2.toNat T3.dflt).2.1 then
 some (y2, y1)
 else
 if (0 ≤ y2) ∧ (y2 < y0.length) then
 YA k j y0 (qa .i64 (y1 - (y0.getD y2.toNat T3.dflt).2.1)) (qa .i64 (y2 + 1))
 else none
 else none
 else
 some (-1, 0)
def VG (k : Nat) (a : List T3.T) (b : Int) : Option (Int × Int) :=
 YA k k a b 0
def qO := fun k a b => (VG k a b).getD (0, 0)
def qOq (k : Nat) : Ke := (182, mo 2, fun
 | [.r (.ro e d), .r (.v (.int .i64 b))], [] => (qE e T3 d).bind fun a => some (.one (qnP (qO k a b), []))
 | _, _ => none)
def qzA : List (Nat × List Cmd) := [(2, [.autoB [0, 1, 6] false []])]
abbrev qRX := EP Tryz.f182 0 qnP nb
theorem qBU (k) : ∀ j, (∀ y0 y1 y2, qRX 2 (qFZ y0 y1 y2) (YA k j y0 y1 y2))
 | 0 => by intros; exact e0
 | j + 1 => by
  have ih := @qBU k j
  ·intro y0 y1 y2 r h
   rw [YA] at h
   exact go (qD []) [] qzA [.autoB [4, 5] true []] (gS h (fun h => qS h fun h => qB h fun h => qS h fun h => gC h 2 (ih _ _ _ _)) fun h => gL h)
theorem qOZ (k a b r) (h : VG k a b = some r): qHk a b r := qN Tryz.f182 (go (qD []) [] qzA [.autoB [4, 5] true []] (gC h 2 ((qBU k k) _ _ _ _)))
theorem qPX {k a b} (h : (VG k a b).isSome): qHk a b (qO k a b) := qJ h (qOZ k a b)
def qwt (r : T3.T) : AV := .agg (qy (qr T3 r))
abbrev qHO (a : T3.T) (b : Int) (d : Int) (r : T3.T) : Prop := CC Tryz.prog 221 [.agg (qy (qr T3 a)), ri b, ri d] [] (qwt r) (nb r)
def qa1 (k : Nat) (a : T3.T) (b : Int) (d : Int) : Option T3.T :=
 if ((VF k a b).isSome) then
 some (zi k a b, (d, a.2.2 && decide (d > 1)))
 else none
def Y7 := fun k a b d => (qa1 k a b d).getD (T3).dflt
def qB7 (k : Nat) : Ke := (221, mo 3, fun
 | [.agg e, .r (.v (.int .i64 b)), .r (.v (.int .i64 d))], [] => (qW [] T3 e).bind fun a => some (.one (qwt (Y7 k a b d), []))
 | _, _ => none)
theorem qPT (k a b d r) (h : qa1 k a b d = some r): qHO a b d r := qN Tryz.f221 (go (qD [qh5 k]) [] [] [.autoB [6] true []] (qu h qcf fun h => gL h))
theorem ql8 {k a b d} (h : (qa1 k a b d).isSome): qHO a b d (Y7 k a b d) := qJ h (qPT k a b d)
def qoN (r : List T3.T) : AV := ro T3 r
abbrev qHM (a : List T3.T) (b : T3.T) (r : List T3.T) : Prop := CC Tryz.prog 183 [ro T3 a, .agg (qy (qr T3 b))] [] (qoN r) (nb r)
def qFl := fun y0 y1 => (⟨qI 101 [(3, .ptr 1000000 0 0), (5, .own 1000001 0)], [(1000000, 0, .var 49 (qy (qr T3 y0))), (1000001, 0, .row 49 T3 y1)]⟩ : St)
def Q9 (k : Nat) : Nat → T3.T → List T3.T → Option (List T3.T)
 | 0, _, _ => none
 | j + 1, y0, y1 =>
 bif y0.2.1 > (0 : Int) then
 bif qa .i64 ((↑y1.length : Int) - (1 : Int)) < (0 : Int) then
 if ((qa1 k y0 0 y0.2.1).isSome) ∧ ((y1.length + [Y7 k y0 (0 : Int) y0.2.1].length) * (24 : Nat) ≤ (140737488355328 : Nat)) then
 some (y1 ++ [Y7 k y0 0 y0.2.1])
 else none
 else
 if ((0 : Int) ≤ qa .i64 ((↑y1.length : Int) - (1 : Int))) ∧ (qa .i64 ((↑y1.length : Int) - (1 : Int)) < (↑y1.length : Int)) then
 if ((VF k (y1.getD (qa .i64 ((↑y1.length : Int) - 1)).toNat T3.dflt) (qa .i64 ((y1.getD (qa .i64 ((↑y1.length : Int) - 1)).toNat T3.dflt).2.1 - 1))).isSome) then
 bif (qa .i64 (y0.1 - zi k (y1.getD (qa .i64 ((↑y1.length : Int) - (1 : Int))).toNat T3.dflt) (qa .i64 ((y1.getD (qa .i64 ((↑y1.length : Int) - (1 : Int))).toNat T3.dflt).2.1 - (1 : Int)))) != (1 : Int) && qa .i64 (y0.1 - zi k (y1.getD (qa .i64 ((↑y1.length : Int) - (1 : Int))).toNat T3.dflt) (qa .i64 ((y1.getD (qa .i64 ((↑y1.length : Int) - (1 : Int))).toNat T3.dflt).2.1 - (1 : Int)))) != (-1 : Int) || decide ((y1.getD (qa .i64 ((↑y1.length : Int) - (1 : Int))).toNat T3.dflt).2.1 > (1 : Int)) && (! (y1.getD (qa .i64 ((↑y1.length : Int) - (1 : Int))).toNat T3.dflt).2.2 == (qa .i64 (y0.1 - zi k (y1.getD (qa .i64 ((↑y1.length : Int) - (1 : Int))).toNat T3.dflt) (qa .i64 ((y1.getD (qa .i64 ((↑y1.length : Int) - (1 : Int))).toNat T3.dflt).2.1 - (1 : Int)))) == (-1 : Int)))) then
 if ((qa1 k y0 0 y0.2.1).isSome) ∧ ((y1.length + [Y7 k y0 (0 : Int) y0.2.1].length) * (24 : Nat) ≤ (140737488355328 : Nat)) then
 some (y1 ++ [Y7 k y0 0 y0.2.1])
 else none
 else
 bif (decide (y0.2.1 > (1 : Int)) && (!y0.2.2 == (qa .i64 (y0.1 - zi k (y1.getD (qa .i64 ((↑y1.length : Int) - (1 : Int))).toNat T3.dflt) (qa .i64 ((y1.getD (qa .i64 ((↑y1.length : Int) - (1 : Int))).toNat T3.dflt).2.1 - (1 : Int)))) == (-1 : Int)))) then
 if ((0 : Int) ≤ qa .i64 ((↑y1.length : Int) - (1 : Int))) ∧ (qa .i64 ((↑y1.length : Int) - (1 : Int)) < (↑y1.length : Int)) then
 bif ((1 : Int) == y0.2.1) then
 some (y1.set (qa .i64 ((↑y1.length : Int) - 1)).toNat ((y1.getD (qa .i64 ((↑y1.length : Int) - 1)).toNat T3.dflt).1, qa .i64 ((y1.getD (qa .i64 ((↑y1.length : Int) - 1)).toNat T3.dflt).2.1 + 1), qa .i64 (y0.1 - zi k (y1.getD (qa .i64 ((↑y1.length : Int) - 1)).toNat T3.dflt) (qa .i64 ((y1.getD (qa .i64 ((↑y1.length : Int) - 1)).toNat T3.dflt).2.1 - 1))) == (-1)))
 else
 if ((qa1 k y0 1 (qa .i64 (y0.2.1 - 1))).isSome) then
 Q9 k j (Y7 k y0 1 (qa .i64 (y0.2.1 - 1))) (y1.set (qa .i64 ((↑y1.length : Int) - 1)).toNat ((y1.getD (qa .i64 ((↑y1.length : Int) - 1)).toNat T3.dflt).1, qa .i64 ((y1.getD (qa .i64 ((↑y1.length : Int) - 1)).toNat T3.dflt).2.1 + 1), qa .i64 (y0.1 - zi k (y1.getD (qa .i64 ((↑y1.length : Int) - 1)).toNat T3.dflt) (qa .i64 ((y1.getD (qa .i64 ((↑y1.length : Int) - 1)).toNat T3.dflt).2.1 - 1))) == (-1)))
 else none
 else none
 else
 if ((0 : Int) ≤ qa .i64 ((↑y1.length : Int) - (1 : Int))) ∧ (qa .i64 ((↑y1.length : Int) - (1 : Int)) < (↑y1.length : Int)) then
 bif (y0.2.1 == y0.2.1) then
 some (y1.set (qa .i64 ((↑y1.length : Int) - 1)).toNat ((y1.getD (qa .i64 ((↑y1.length : Int) - 1)).toNat T3.dflt).1, qa .i64 ((y1.getD (qa .i64 ((↑y1.length : Int) - 1)).toNat T3.dflt).2.1 + y0.2.1), qa .i64 (y0.1 - zi k (y1.getD (qa .i64 ((↑y1.length : Int) - 1)).toNat T3.dflt) (qa .i64 ((y1.getD (qa .i64 ((↑y1.length : Int) - 1)).toNat T3.dflt).2.1 - 1))) == (-1)))
 else
 if ((qa1 k y0 y0.2.1 (qa .i64 (y0.2.1 - y0.2.1))).isSome) then
 Q9 k j (Y7 k y0 y0.2.1 (qa .i64 (y0.2.1 - y0.2.1))) (y1.set (qa .i64 ((↑y1.length : Int) - 1)).toNat ((y1.getD (qa .i64 ((↑y1.length : Int) - 1)).toNat T3.dflt).1, qa .i64 ((y1.getD (qa .i64 ((↑y1.length : Int) - 1)).toNat T3.dflt).2.1 + y0.2.1), qa .i64 (y0.1 - zi k (y1.getD (qa .i64 ((↑y1.length : Int) - 1)).toNat T3.dflt) (qa .i64 ((y1.getD (qa .i64 ((↑y1.length : Int) - 1)).toNat T3.dflt).2.1 - 1))) == (-1)))
 else none
 else none
 else none
 else none
 else
 some y1
def qft (k : Nat) (a : List T3.T) (b : T3.T) : Option (List T3.T) :=
 if (((0 : Nat) + a.length) * (24 : Nat) ≤ (140737488355328 : Nat)) then
 Q9 k k b ([] ++ a)
 else none
def qc9 := fun k a b => (qft k a b).getD []
def qNJ (k : Nat) : Ke := (183, mo 2, fun
 | [.r (.ro f d), .agg e], [] => (qE f T3 d).bind fun a => (qW [] T3 e).bind fun b => some (.one (qoN (qc9 k a b), []))
 | _, _ => none)
def qCE : List (Nat × List Cmd) := [(2, [.autoB [3, 5] false []])]
abbrev qRM := EP Tryz.f183 0 qoN nb
theorem qBM (k) : ∀ j, (∀ y0 y1, qRM 2 (qFl y0 y1) (Q9 k j y0 y1))
 | 0 => by intros; exact e0
 | j + 1 => by
  have ih := @qBM k j
  ·intro y0 y1 r h
   rw [Q9] at h
   exact go (qD [qh5 k, qB7 k]) [] qCE [.frz 4 false (RTy.list T3), .autoB [4] true []] (gS h (fun h => gS h (fun h => gN h (fun q => qf (ql8 q.1) (qf q.2 qR)) fun h => gL h) fun h => qS h fun h => qu h qcf fun h => gS h (fun h => gN h (fun q => qf (ql8 q.1) (qf q.2 qR)) fun h => gL h) fun h => gS h (fun h => qS h fun h => qB h fun h => qu h ql8 fun h => gC h 2 (ih _ _ _)) fun h => qS h fun h => qB h fun h => qu h ql8 fun h => gC h 2 (ih _ _ _)) fun h => gL h)
theorem qRp (k a b r) (h : qft k a b = some r): qHM a b r := qN Tryz.f183 (go (qD [qh5 k, qB7 k]) [] qCE [.frz 4 false (RTy.list T3), .autoB [4] true []] (qu h id fun h => gC h 2 ((qBM k k) _ _ _)))
theorem qBl {k a b} (h : (qft k a b).isSome): qHM a b (qc9 k a b) := qJ h (qRp k a b)
def qvm (r : List T3.T × Int) : AV := .tup [ro T3 r.1, ri r.2]
abbrev qHX (a : List T3.T) (r : List T3.T × Int) : Prop := CC Tryz.prog 184 [ro T3 a] [] (qvm r) (nb r)
def qcK (k : Nat) (a : List T3.T) : Option (List T3.T × Int) :=
 bif (↑a.length : Int) > (256 : Int) then
 some ([], 8)
 else
 some (a, 0)
def qde := fun k a => (qcK k a).getD ([], 0)
def qNF (k : Nat) : Ke := (184, mo 1, fun
 | [.r (.ro d b)], [] => (qE d T3 b).bind fun a => some (.one (qvm (qde k a), []))
 | _, _ => none)
theorem qQy (k a r) (h : qcK k a = some r): qHX a r := qN Tryz.f184 (go (qD []) [] [] [.frz 2 false (RTy.list T3), .autoB [2, 3] true []] (qB h fun h => gL h))
theorem qPt {k a} (h : (qcK k a).isSome): qHX a (qde k a) := qJ h (qQy k a)
end
end Go.AM
