/- Contracts of the functions that the law reaches, and the plain law. -/
import Derived.Test.YtlakpahbdecdpaaGreatDoorLibb
import Derived.Test.YtlakpahbdecdpaaGreatDoorProg
import Derived.Laws.RangeAny
import Derived.Lib.IndexAny
import Derived.Shelf.Strings.IndexAnyAll
import Derived.Shelf.Small.Utf8
import Derived.Shelf.SlicesE.Clone
import Derived.Shelf.SlSortCmp.WholeK
import Derived.Shelf.SlSortCmp.NoneTotal
import Derived.Shelf.Sort.Plain
import Derived.Shelf.Slices.In.SortNone
import Derived.Shelf.Spec.SlicesGrow
import Derived.Shelf.SlGeneric
import Derived.Shelf.Small.Bits
import Derived.Ground.NamesProg
import Derived.Ground.Names2Prog
import Derived.Ground.Names8Prog
import Derived.Ground.SlgnProg
import Derived.Ground.SlsfProg
set_option linter.unusedVariables false
set_option linter.unusedSimpArgs false
set_option linter.unusedSectionVars false
open Bool renaming and_eq_true → qh, false_and → wE, false_or → vH, or_eq_false_iff → v6, true_and → wH
open Int renaming le_refl → V6, toNat → ql, toNat_natCast → qe
open List renaming all_eq_true → vB, append_assoc → qeY, append_nil → zH, drop → Wm, drop_of_length_le → qo, drop_zero → wv, getD → qI, length → qb, length_append → qT, length_cons → wB, length_singleton → qz, mem_append → zX, mem_cons → qK, nil_append → wk, take → qS3, take_of_length_le → zj
open Nat renaming add_mul → W9, beq → qy, eq_of_beq_eq_true → qk, le_of_ble_eq_true → wj, le_refl → qR, mul_le_mul_right → v7, zero_add → wX, zero_le → Q9
open Option renaming isSome_some → qd
open Go.IntKind renaming wrap → qa
namespace Go.AM
open Go
theorem zz {α : Type} (l : List α) (i : Nat) (d : α) (h : i < l.length) : l.take (i + 1) = l.take i ++ [l.getD i d] := by
 rw [List.take_add_one]; simp [h]
abbrev Sp := Int × Int
def Qu : List Sp → Int → Prop
 | [], _ => False
 | s :: t, x => (s.1 ≤ x ∧ x < s.2) ∨ Qu t x
theorem Qh (l : List Sp) (x : Int) : Qu l x ↔ ∃ s ∈ l, s.1 ≤ x ∧ x < s.2 := by
 induction l with
 | nil => simp [Qu]
 | cons s t ih => simp [Qu, ih]
theorem qE1 {a b : List Sp} (h : a.Perm b) (x : Int) : Qu a x ↔ Qu b x := by
 rw [Qh, Qh]
 exact ⟨fun ⟨s, hs, h2⟩ => ⟨s, h.mem_iff.1 hs, h2⟩, fun ⟨s, hs, h2⟩ => ⟨s, h.mem_iff.2 hs, h2⟩⟩
def Nr : Int → List Sp → Prop
 | _, [] => True
 | b, s :: t => b < s.1 ∧ s.1 < s.2 ∧ Nr s.2 t
theorem Nr.weaken {a b : Int} (h : a ≤ b) : ∀ {l : List Sp}, Nr b l → Nr a l
 | [], _ => trivial
 | _ :: _, ⟨h1, h2, h3⟩ => ⟨by omega, h2, h3⟩
theorem Nr.low : ∀ {b : Int} {l : List Sp}, Nr b l → ∀ x, Qu l x → b < x
 | _, [], _, x, hx => hx.elim
 | b, s :: t, ⟨h1, h2, h3⟩, x, hx => by
  rcases hx with ⟨h, _⟩ | hx
  ·omega
  ·have := Nr.low h3 x hx; omega
theorem Nr.uniq : ∀ {b : Int} {l m : List Sp}, Nr b l → Nr b m → (∀ x, Qu l x ↔ Qu m x) → l = m
 | _, [], [], _, _, _ => rfl
 | b, [], s :: t, _, ⟨h1, h2, _⟩, h => ((h s.1).2 (.inl ⟨by omega, h2⟩)).elim
 | b, s :: t, [], ⟨h1, h2, _⟩, _, h => ((h s.1).1 (.inl ⟨by omega, h2⟩)).elim
 | b, s :: t, u :: v, ⟨h1, h2, h3⟩, ⟨k1, k2, k3⟩, h => by
  have e1 : s.1 = u.1 := by
   have a1 := (h s.1).1 (.inl ⟨by omega, h2⟩)
   have a2 := (h u.1).2 (.inl ⟨by omega, k2⟩)
   rcases a1 with a1 | a1
   ·rcases a2 with a2 | a2
    ·omega
    ·have := Nr.low h3 _ a2; omega
   ·have := Nr.low k3 _ a1
    rcases a2 with a2 | a2
    ·omega
    ·have := Nr.low h3 _ a2; omega
  have e2 : s.2 = u.2 := by
   rcases Int.lt_trichotomy s.2 u.2 with hlt | heq | hgt
   ·have a1 := (h s.2).2 (.inl ⟨by omega, hlt⟩)
    rcases a1 with a1 | a1
    ·omega
    ·have := Nr.low h3 _ a1; omega
   ·exact heq
   ·have a1 := (h u.2).1 (.inl ⟨by omega, hgt⟩)
    rcases a1 with a1 | a1
    ·omega
    ·have := Nr.low k3 _ a1; omega
  have e3 : s = u := Prod.ext e1 e2
  subst e3
  congr 1
  refine Nr.uniq h3 k3 fun x => ?_
  constructor
  ·intro hx
   have := Nr.low h3 _ hx
   rcases (h x).1 (.inr hx) with a | a
   ·omega
   ·exact a
  ·intro hx
   have := Nr.low k3 _ hx
   rcases (h x).2 (.inr hx) with a | a
   ·omega
   ·exact a
def tot : List Sp → Int
 | [] => 0
 | s :: t => (s.2 - s.1) + tot t
def jn : Sp → List Sp → List Sp
 | c, [] => [c]
 | c, s :: t => if s.1 ≥ s.2 then jn c t else if s.1 ≤ c.2 then jn (c.1, if s.2 > c.2 then s.2 else c.2) t else c :: jn s t
def jn0 : List Sp → List Sp
 | [] => []
 | s :: t => if s.1 ≥ s.2 then jn0 t else jn s t
def Asc : Int → List Sp → Prop
 | _, [] => True
 | b, s :: t => b ≤ s.1 ∧ Asc s.1 t
theorem Asc.weaken {a b : Int} (h : a ≤ b) : ∀ {l : List Sp}, Asc b l → Asc a l
 | [], _ => trivial
 | _ :: _, ⟨h1, h3⟩ => ⟨by omega, h3⟩
theorem qqI : ∀ (l : List Sp) (c : Sp) (b : Int), b < c.1 → c.1 < c.2 → Asc c.1 l → Nr b (jn c l)
 | [], c, b, h1, h2, _ => ⟨h1, h2, trivial⟩
 | s :: t, c, b, h1, h2, ⟨h3, h4⟩ => by
  unfold jn
  by_cases q : s.1 ≥ s.2
  ·rw [qc q]; exact qqI t c b h1 h2 (h4.weaken h3)
  ·rw [qi q]
   by_cases q2 : s.1 ≤ c.2
   ·rw [qc q2]
    refine qqI t _ b h1 ?_ (h4.weaken h3)
    show c.1 < if s.2 > c.2 then s.2 else c.2
    split <;> omega
   ·rw [qi q2]
    exact ⟨h1, h2, qqI t s c.2 (by omega) (by omega) h4⟩
theorem qmw : ∀ (l : List Sp) (c : Sp) (x : Int), c.1 < c.2 → Asc c.1 l → (Qu (jn c l) x ↔ (c.1 ≤ x ∧ x < c.2) ∨ Qu l x)
 | [], c, x, _, _ => by simp [jn, Qu]
 | s :: t, c, x, h2, ⟨h3, h4⟩ => by
  unfold jn
  by_cases q : s.1 ≥ s.2
  ·rw [qc q, qmw t c x h2 (h4.weaken h3)]
   simp only [Qu]
   constructor
   ·rintro (h | h)
    ·exact .inl h
    ·exact .inr (.inr h)
   ·rintro (h | h | h)
    ·exact .inl h
    ·omega
    ·exact .inr h
  ·rw [qi q]
   by_cases q2 : s.1 ≤ c.2
   ·rw [qc q2, qmw t (c.1, if s.2 > c.2 then s.2 else c.2) x (by show c.1 < if s.2 > c.2 then s.2 else c.2; split <;> omega) (h4.weaken h3)]
    simp only [Qu]
    constructor
    ·rintro (h | h)
     ·by_cases q3 : x < c.2
      ·exact .inl ⟨h.1, q3⟩
      ·refine .inr (.inl ⟨by omega, ?_⟩)
       have := h.2
       split at this <;> omega
     ·exact .inr (.inr h)
    ·rintro (h | h | h)
     ·exact .inl ⟨h.1, by split <;> omega⟩
     ·exact .inl ⟨by omega, by split <;> omega⟩
     ·exact .inr h
   ·rw [qi q2]
    simp only [Qu, qmw t s x (by omega) h4]
theorem qCk : ∀ (l : List Sp) (b : Int), Asc (b + 1) l → Nr b (jn0 l)
 | [], b, _ => trivial
 | s :: t, b, ⟨h3, h4⟩ => by
  unfold jn0
  by_cases q : s.1 ≥ s.2
  ·rw [qc q]; exact qCk t b (h4.weaken h3)
  ·rw [qi q]; exact qqI t s b (by omega) (by omega) h4
theorem qvI : ∀ (l : List Sp) (b x : Int), Asc b l → (Qu (jn0 l) x ↔ Qu l x)
 | [], b, x, _ => Iff.rfl
 | s :: t, b, x, ⟨h3, h4⟩ => by
  unfold jn0
  by_cases q : s.1 ≥ s.2
  ·rw [qc q, qvI t _ x h4]
   simp only [Qu]
   exact ⟨.inr, fun h => h.elim (fun h => by omega) id⟩
  ·rw [qi q, qmw t s x (by omega) h4]; rfl
theorem qmx : ∀ (l : List Sp) (c : Sp), (jn c l).length ≤ l.length + 1
 | [], c => by simp [jn]
 | s :: t, c => by
  unfold jn
  split
  ·have := qmx t c; simp; omega
  ·split
   ·have := qmx t (c.1, if s.2 > c.2 then s.2 else c.2); simp at this ⊢; omega
   ·have := qmx t s; simp; omega
theorem qvJ : ∀ (l : List Sp), (jn0 l).length ≤ l.length
 | [] => qR _
 | s :: t => by
  unfold jn0
  split
  ·have := qvJ t; simp; omega
  ·have := qmx t s; simpa using this
def In (a b : Int) : List Sp → Prop
 | [] => True
 | s :: t => (a ≤ s.1 ∧ s.1 ≤ s.2 ∧ s.2 ≤ b) ∧ In a b t
theorem In.mem {a b : Int} : ∀ {l : List Sp}, In a b l → ∀ s ∈ l, a ≤ s.1 ∧ s.1 ≤ s.2 ∧ s.2 ≤ b
 | [], _, s, hs => by simp at hs
 | u :: t, ⟨h1, h2⟩, s, hs => by
  rcases qK.1 hs with rfl | hs
  ·exact h1
  ·exact In.mem h2 s hs
theorem In.of {a b : Int} : ∀ {l : List Sp}, (∀ s ∈ l, a ≤ s.1 ∧ s.1 ≤ s.2 ∧ s.2 ≤ b) → In a b l
 | [], _ => trivial
 | u :: t, h => ⟨h u (by simp), In.of fun s hs => h s (by simp [hs])⟩
theorem qqH {a b : Int} : ∀ (l : List Sp) (c : Sp), In a b l → (a ≤ c.1 ∧ c.1 ≤ c.2 ∧ c.2 ≤ b) → In a b (jn c l)
 | [], c, _, hc => ⟨hc, trivial⟩
 | s :: t, c, ⟨h1, h2⟩, hc => by
  unfold jn
  split
  ·exact qqH t c h2 hc
  ·split
   ·refine qqH t _ h2 ⟨hc.1, ?_, ?_⟩
    ·show c.1 ≤ if s.2 > c.2 then s.2 else c.2
     split <;> omega
    ·show (if s.2 > c.2 then s.2 else c.2) ≤ b
     split <;> omega
   ·exact ⟨hc, qqH t s h2 h1⟩
theorem qCj {a b : Int} : ∀ (l : List Sp), In a b l → In a b (jn0 l)
 | [], h => h
 | s :: t, ⟨h1, h2⟩ => by
  unfold jn0
  split
  ·exact qCj t h2
  ·exact qqH t s h2 h1
end Go.AM
namespace Go.AM
open Go
end Go.AM
namespace Go.AM
open Go Go.Proofs
noncomputable section
def rpt : Nat → RTy → RTy
 | 0, a => a
 | n + 1, a => .pair a (rpt n a)
abbrev I : RTy := .int .i64
abbrev t7 : RTy := (RTy.pair I (RTy.pair I (RTy.pair RTy.bool (RTy.int .u8))))
abbrev t8 : RTy := (RTy.pair I (RTy.pair I (RTy.pair RTy.bool (RTy.int .u8))))
abbrev t13 : RTy := (RTy.pair RTy.str (RTy.int .u64))
abbrev t14 : RTy := (RTy.pair RTy.str (RTy.int .u64))
abbrev T0 : RTy := (RTy.pair RTy.str (RTy.pair I (RTy.pair I (RTy.pair I (RTy.pair I (RTy.pair I (RTy.pair (RTy.list I) I)))))))
abbrev T1 : RTy := (RTy.pair I (RTy.list I))
abbrev T2 : RTy := (RTy.pair I (RTy.pair I (RTy.pair I (RTy.pair I I))))
abbrev T3 : RTy := (RTy.pair I (RTy.pair I RTy.bool))
abbrev T4 : RTy := (RTy.pair I (RTy.pair I (RTy.pair RTy.bool (RTy.list T3))))
abbrev T5 : RTy := (RTy.pair I (RTy.pair I T4))
abbrev T6 : RTy := (RTy.pair I (RTy.pair I (RTy.pair I I)))
abbrev T7 : RTy := (RTy.pair T6 (RTy.pair I I))
abbrev T8 : RTy := (RTy.pair I (RTy.pair I (RTy.pair I (RTy.pair I (RTy.pair I (RTy.pair I (RTy.pair I (RTy.pair I (RTy.pair I (RTy.pair I (RTy.pair I I)))))))))))
abbrev T9 : RTy := (RTy.pair T8 (RTy.pair (RTy.list I) (RTy.pair (RTy.list I) RTy.bool)))
abbrev T10 : RTy := (RTy.pair I (RTy.pair I I))
abbrev T11 : RTy := (RTy.pair I (RTy.pair I (RTy.list I)))
abbrev T12 : RTy := (RTy.pair I (RTy.pair I (RTy.pair I (RTy.pair I (RTy.pair I I)))))
abbrev T13 : RTy := (RTy.pair I (RTy.pair I (RTy.pair I I)))
abbrev T14 : RTy := (RTy.pair I (RTy.pair I (RTy.pair I I)))
abbrev T15 : RTy := (RTy.pair I I)
abbrev T16 : RTy := (RTy.pair I (RTy.pair I (RTy.list T15)))
abbrev t35 : RTy := (RTy.pair I (RTy.pair I (RTy.pair I (RTy.pair I (RTy.pair I (RTy.pair I (RTy.pair I (RTy.pair (RTy.list T0) (RTy.pair (RTy.list T1) (RTy.pair (RTy.list T2) (RTy.pair (RTy.list I) (RTy.pair (RTy.list T5) (RTy.pair (RTy.list I) (RTy.pair (RTy.list I) (RTy.pair (RTy.list T7) (RTy.pair (RTy.list T9) (RTy.pair (RTy.list T10) (RTy.pair (RTy.list T11) (RTy.pair (RTy.list T12) (RTy.pair (RTy.list T13) (RTy.pair (RTy.list T14) (RTy.list T16))))))))))))))))))))))
abbrev T17 : RTy := (RTy.pair I (RTy.pair I (RTy.pair I (RTy.pair I (RTy.pair I (RTy.pair I (RTy.pair I (RTy.pair (RTy.list T0) (RTy.pair (RTy.list T1) (RTy.pair (RTy.list T2) (RTy.pair (RTy.list I) (RTy.pair (RTy.list T5) (RTy.pair (RTy.list I) (RTy.pair (RTy.list I) (RTy.pair (RTy.list T7) (RTy.pair (RTy.list T9) (RTy.pair (RTy.list T10) (RTy.pair (RTy.list T11) (RTy.pair (RTy.list T12) (RTy.pair (RTy.list T13) (RTy.pair (RTy.list T14) (RTy.list T16))))))))))))))))))))))
abbrev t41 : RTy := (RTy.pair I (RTy.pair I (RTy.pair I I)))
abbrev t44 : RTy := (RTy.pair I (RTy.pair I (RTy.pair RTy.bool (RTy.list T3))))
abbrev t46 : RTy := (RTy.pair I (RTy.pair I T4))
abbrev t48 : RTy := (RTy.pair I (RTy.pair I RTy.bool))
abbrev T18 : RTy := (RTy.pair I (RTy.pair I I))
abbrev t53 : RTy := (RTy.pair I (RTy.pair I I))
abbrev t60 : RTy := (RTy.pair I (RTy.pair I (RTy.pair I (RTy.pair I (RTy.pair I I)))))
abbrev t62 : RTy := (RTy.pair I (RTy.pair I (RTy.pair I I)))
abbrev t66 : RTy := (RTy.pair I I)
abbrev T19 : RTy := (RTy.pair I I)
abbrev t68 : RTy := (RTy.pair I (RTy.pair I I))
abbrev T20 : RTy := (RTy.pair I (RTy.pair I I))
abbrev t71 : RTy := (RTy.pair I (RTy.pair I (RTy.pair I (RTy.pair I (RTy.pair I (RTy.pair I (RTy.pair I (RTy.pair I (RTy.pair I (RTy.pair I (RTy.pair I I)))))))))))
abbrev t73 : RTy := (RTy.pair T8 (RTy.pair (RTy.list I) (RTy.pair (RTy.list I) RTy.bool)))
abbrev t75 : RTy := (RTy.pair I (RTy.pair I (RTy.list I)))
abbrev t86 : RTy := (RTy.pair I (RTy.pair I (RTy.pair I (RTy.pair I I))))
abbrev t90 : RTy := (RTy.pair I I)
abbrev T21 : RTy := (RTy.pair I I)
abbrev qSf : RTy := (RTy.pair I (RTy.pair RTy.bool (RTy.pair I (RTy.pair I (RTy.pair I I)))))
abbrev T22 : RTy := (RTy.pair I (RTy.pair RTy.bool (RTy.pair I (RTy.pair I (RTy.pair I I)))))
abbrev T23 : RTy := (RTy.pair I I)
abbrev qSg : RTy := (RTy.pair (RTy.list T5) (RTy.pair T23 (RTy.pair (RTy.list T2) (RTy.pair (RTy.list T7) (RTy.pair (RTy.list T0) I)))))
abbrev T24 : RTy := (RTy.pair (RTy.list T5) (RTy.pair T23 (RTy.pair (RTy.list T2) (RTy.pair (RTy.list T7) (RTy.pair (RTy.list T0) I)))))
abbrev qSh : RTy := (RTy.pair I (RTy.pair I (RTy.list T15)))
abbrev qSi : RTy := (RTy.pair I I)
abbrev qSj : RTy := (RTy.pair I (RTy.pair I (RTy.pair I I)))
abbrev qSk : RTy := (RTy.pair T6 (RTy.pair I I))
abbrev qSl : RTy := RTy.fn
abbrev T25 : RTy := RTy.fn
abbrev qSm : RTy := (RTy.pair T17 (RTy.list T18))
abbrev T26 : RTy := (RTy.pair T17 (RTy.list T18))
abbrev qSn : RTy := (RTy.pair RTy.str (RTy.pair I (RTy.pair I (RTy.pair I (RTy.pair I (RTy.pair I (RTy.pair (RTy.list I) I)))))))
abbrev qSo : RTy := (RTy.pair I (RTy.pair I (RTy.pair I (RTy.pair I (RTy.pair I I)))))
abbrev T27 : RTy := (RTy.pair I (RTy.pair I (RTy.pair I (RTy.pair I (RTy.pair I I)))))
abbrev qSp : RTy := (RTy.pair (RTy.list T5) (RTy.pair T19 (RTy.pair (RTy.list T2) (RTy.pair (RTy.list T7) (RTy.pair (RTy.list T0) I)))))
abbrev T28 : RTy := (RTy.pair (RTy.list T5) (RTy.pair T19 (RTy.pair (RTy.list T2) (RTy.pair (RTy.list T7) (RTy.pair (RTy.list T0) I)))))
abbrev qSq : RTy := (RTy.pair I (RTy.pair I I))
abbrev T29 : RTy := (RTy.pair I (RTy.pair I (RTy.pair I (RTy.pair I (RTy.pair I I)))))
abbrev qSr : RTy := (RTy.pair (RTy.int .u64) (RTy.int .u64))
abbrev T30 : RTy := (RTy.pair (RTy.int .u64) (RTy.int .u64))
abbrev qSs : RTy := rpt 23 (RTy.int .u8)
abbrev qSt : RTy := rpt 19 (RTy.int .u64)
abbrev qSu : RTy := (RTy.list T3)
abbrev T31 : RTy := (RTy.list T3)
abbrev qSv : RTy := (RTy.pair T22 T8)
abbrev T32 : RTy := (RTy.pair T22 T8)
abbrev qSw : RTy := rpt 31 (RTy.int .u8)
abbrev qSx : RTy := rpt 63 (RTy.int .u8)
abbrev qSy : RTy := RTy.unit
abbrev qSz : RTy := RTy.unit
abbrev qSA : RTy := (RTy.pair I (RTy.list I))
instance : GT Tryz.prog := ⟨fun _ => True, fun _ _ _ h => h⟩
def Rt : wT := qIp (([1, 37, 39, 40, 52, 55, 57, 58, 59, 65, 70, 79, 80, 81, 84, 85, 89, 94, 95, 96, 97, 98, 99, 100, 101, 105, 109, 110, 111, 113, 114, 118, 121, 123, 128, 131, 132, 136, 137, 138, 141, 142, 144, 146, 147, 148, 149, 150, 151, 152, 153, 154, 156, 158, 160, 161, 164, 165, 167, 168, 169, 171, 174, 175, 176, 177, 179, 180, 182, 183, 184, 185, 186, 187, 188, 189, 191, 192, 193, 194, 195, 196, 198, 199, 202, 204, 205, 206, 207, 208, 212, 213, 214, 216, 218, 219, 221, 222, 223, 224, 225, 226, 227, 228, 229, 230, 231, 232, 233, 234, 235, 236, 237, 238, 239, 240, 241, 242, 243, 244, 245, 246, 247, 248, 249, 250, 251, 252, 253, 258, 259, 260, 262, 263, 265, 266, 267, 268, 269, 271, 272, 273, 274, 275, 276, 277, 278, 279, 280, 281, 282, 288, 289, 290, 291, 292, 293, 294, 297, 298, 299, 300, 301, 305, 306, 307, 308, 310, 311, 313, 314, 315, 317, 318, 319, 322, 323, 324, 325, 327, 328, 329, 330, 331, 337, 340].map fun n => (n, RTy.fn)) ++ [(2, I), (3, I), (4, RTy.bool), (5, (RTy.int .u8)), (6, (RTy.int .u8)), (7, t7), (8, t8), (9, RTy.str), (10, RTy.str), (11, RTy.str), (12, (RTy.int .u64)), (13, t13), (14, t14), (21, (RTy.int .i32)), (22, (RTy.list T0)), (23, (RTy.list T1)), (24, (RTy.list T2)), (25, (RTy.list I)), (26, (RTy.list T5)), (27, (RTy.list T7)), (28, (RTy.list T9)), (29, (RTy.list T10)), (30, (RTy.list T11)), (31, (RTy.list T12)), (32, (RTy.list T13)), (33, (RTy.list T14)), (34, (RTy.list T16)), (35, t35), (36, T17), (38, I), (41, t41), (42, T14), (43, (RTy.list T3)), (44, t44), (45, T4), (46, t46), (47, T5), (48, t48), (49, T3), (50, (RTy.list T18)), (53, t53), (54, T18), (60, t60), (61, T12), (62, t62), (63, T13), (66, t66), (67, T19), (68, t68), (69, T20), (71, t71), (72, T8), (73, t73), (74, T9), (75, t75), (76, T11), (83, (RTy.list RTy.fn)), (86, t86), (87, T2), (90, t90), (91, T21), (92, (RTy.list T21)), (102, qSf), (103, T22), (106, T23), (107, qSg), (108, T24), (115, (RTy.list T15)), (116, qSh), (117, T16), (119, qSi), (120, T15), (124, qSj), (125, T6), (126, qSk), (127, T7), (129, qSl), (130, T25), (139, qSm), (140, T26), (145, (RTy.list T4)), (162, qSn), (163, T0), (172, qSo), (173, T27), (178, (RTy.list (RTy.int .u8))), (200, qSp), (201, T28), (209, qSq), (210, T10), (215, T29), (220, (RTy.list (RTy.list T21))), (254, (RTy.int .u64)), (256, qSr), (257, T30), (261, qSs), (270, (RTy.int .u64)), (283, qSt), (284, (RTy.int .u32)), (286, qSu), (287, T31), (295, I), (302, qSv), (303, T32), (304, (RTy.list RTy.fn)), (312, (RTy.int .u64)), (320, qSw), (321, qSx), (334, RTy.unit), (335, qSy), (336, qSz), (338, (RTy.int .u8)), (339, (RTy.int .u8)), (342, (RTy.int .i32)), (343, (RTy.int .i32)), (346, qSA), (347, T1)])
theorem hm : Tryz.prog.follows .mixedOrders = true := by kernel_rfl
theorem go (K : Calld) (l : List Nat) (C : List (Nat × List Cmd)) (E : List Cmd) {fn : Wy} {m : Nat} {todo : List Item} {st : St} {res : AV} {bout : List (Nat × Blk)} {T : Tree} (h : T.gives Tryz.prog fn m res bout) (e : tree Tryz.prog Rt K fn.rd m l fn.fn.results.toList C E 1000 todo st = T := by kernel_rfl) : Ev Tryz.prog fn m todo st res bout := Ev.tree hm (R := Rt) (K := K) e h
theorem qO {f : FuncId} (fn : Func) {args : List AV} {bin : List Blk} {res : AV} {bout : List (Nat × Blk)} (h : Ev Tryz.prog (.of fn) bin.length (qru fn) (qa3 fn args bin) res bout) (hf : Tryz.prog.funcs[f]? = some fn := by kernel_rfl) (hb : fn.body.isSome = true := by kernel_rfl) (hn : (fn.name == "runtime.NumGoroutine") = false := by kernel_rfl) (hg : zq args = true := by kernel_rfl) : CC Tryz.prog f args bin res bout := CC.of hf hb hn hg h
abbrev ri (n : Int) : AV := .r (.v (.int .i64 n))
abbrev rb (n : Bool) : AV := .r (.v (.bool n))
abbrev ro (τ : RTy) (l : List τ.T) : AV := .r (.ro τ l)
abbrev EE {R : Type} (fn : Wy) (m : Nat) (s : R → AV) (b : R → List (Nat × Blk)) (todo : List Item) (st : St) (o : Option R) : Prop := ∀ r, o = some r → Ev Tryz.prog fn m todo st (s r) (b r)
section
variable {fn : Wy} {m : Nat} {R : Type} {r : R} {s : R → AV} {b : R → List (Nat × Blk)}
theorem gD {o : Option R} {todo : List Item} {st : St} (h : o = some r) (key : Nat) (H : ∀ r, o = some r → Ev Tryz.prog fn m todo st (s r) (b r)) : (Tree.cut key todo st).gives Tryz.prog fn m (s r) (b r) := H r h
theorem gTl {c : Bool} {x : R} {y : Option R} {f : Tree} (h : (bif c then some x else y) = some r) (hf : c = false → y = some r → f.gives Tryz.prog fn m (s r) (b r)) : (Tree.test c (.leaf (s x) (b x)) f).gives Tryz.prog fn m (s r) (b r) := gT h (fun _ h => gL h) hf
theorem qu {c : Bool} {x : R} {y : Option R} {f : Tree} (h : (bif c then some x else y) = some r) (hf : y = some r → f.gives Tryz.prog fn m (s r) (b r)) : (Tree.test c (.leaf (s x) (b x)) f).gives Tryz.prog fn m (s r) (b r) := gT h (fun _ h => gL h) fun _ => hf
theorem gS {c : Bool} {x y : Option R} {t f : Tree} {res : AV} {bout : List (Nat × Blk)} (h : (bif c then x else y) = some r) (ht : x = some r → t.gives Tryz.prog fn m res bout) (hf : y = some r → f.gives Tryz.prog fn m res bout) : (Tree.test c t f).gives Tryz.prog fn m res bout := gT h (fun _ => ht) fun _ => hf
end
abbrev EP {R : Type} (fn : Func) (m : Nat) (s : R → AV) (b : R → List (Nat × Blk)) (n : Nat) (st : St) (o : Option R) : Prop := EE (.of fn) m s b (zK fn n) st o
theorem e0 {R : Type} {fn : Wy} {m : Nat} {s : R → AV} {b : R → List (Nat × Blk)} {todo : List Item} {st : St} : EE fn m s b todo st none := fun _ h => nomatch h
theorem cj3 {a b c : Prop} (q : a ∧ b ∧ c) : zo [a, b, c] := qf q.1 (qf q.2.1 (qf q.2.2 qP))
theorem YW {a b c d : Prop} (q : a ∧ b ∧ c ∧ d) : zo [a, b, c, d] := qf q.1 (cj3 q.2)
def nb {R : Type} (_ : R) : List (Nat × Blk) := []
def mo (n : Nat) (xs : List AV) : Option (List Bool) := bif qy xs.length n then some (List.replicate n false) else none
abbrev qlz : Type := Int × List T21.T × List T21.T
def qs7 (r : qlz) : AV := .tup []
def que (a : Int) (b : Int) (d : Int) (e : List T21.T) (f : List T21.T) (r : qlz) : List (Nat × Blk) := [(0, .var 3 [ri r.1]), (0, .var 3 [ri d]), (0, .var 92 [.own 3 1]), (1, .row 91 T21 r.2.1), (0, .var 92 [.own 5 1]), (1, .row 91 T21 r.2.2)]
abbrev qzi (a : Int) (b : Int) (d : Int) (e : List T21.T) (f : List T21.T) (r : qlz) : Prop := CC Tryz.prog 126 [ri a, .ptr 0 0 0, .ptr 1 0 0, .ptr 2 0 0, .ptr 4 0 0] [.var 3 [ri b], .var 3 [ri d], .var 92 [.own 3 0], .row 91 T21 e, .var 92 [.own 5 0], .row 91 T21 f] (qs7 r) (que a b d e f r)
def qhj (k : Nat) (a : Int) (b : Int) (d : Int) (e : List T21.T) (f : List T21.T) : Option qlz :=
 bif qa .i64 (a - b) ≥ d then
 if ((e.length + [(b, a)].length) * (16 : Nat) ≤ (140737488355328 : Nat)) then
 some (a, e ++ [(b, a)], f)
 else none
 else
 if ((f.length + [(b, a)].length) * (16 : Nat) ≤ (140737488355328 : Nat)) then
 some (a, e, f ++ [(b, a)])
 else none
def qal := fun k a b d e f => (qhj k a b d e f).getD (0, [], [])
def qnZ (k : Nat) : Ke := (126, fun
 | [_, .ptr _ _ _, .ptr _ _ _, .ptr _ _ _, .ptr _ _ _] => some [false, true, true, true, true]
 | _ => none, fun
 | [.r (.v (.int .i64 a)), .ptr 0 0 0, .ptr 1 0 0, .ptr 2 0 0, .ptr 4 0 0], [.var 3 [.r (.v (.int .i64 b))], .var 3 [.r (.v (.int .i64 d))], .var 92 [.own 3 0], .row 91 tz20_ qz20, .var 92 [.own 5 0], .row 91 tz30_ qz30] => (qC tz20_ T21 qz20).bind fun e => (qC tz30_ T21 qz30).bind fun f => some (.one (qs7 (qal k a b d e f), que a b d e f (qal k a b d e f)))
 | _, _ => none)
theorem qLh (k a b d e f r) (h : qhj k a b d e f = some r): qzi a b d e f r := qO Tryz.f126 (go (qA []) [] [] [.autoB [] true [3, 5]] (gS h (fun h => qv h id fun h => gL h) fun h => qv h id fun h => gL h))
theorem quv {k a b d e f} (h : (qhj k a b d e f).isSome): qzi a b d e f (qal k a b d e f) := qJ h (qLh k a b d e f)
abbrev qqY : Type := List T21.T × List T21.T
def qsU (r : qqY) : AV := rb true
def qw4 (a : List I.T) (b : Int) (d : List T21.T) (e : List T21.T) (f : T21.T) (r : qqY) : List (Nat × Blk) := [(0, .loop .ready none (qfV Tryz.f81 11 [91]) (qM 66 [(4, .ptr 1 0 0), (5, .ptr 2 0 0), (11, .ptr 3 0 0), (12, .ptr 5 0 0)])), (0, .var 25 [ro I a]), (0, .var 3 [ri b]), (0, .var 92 [.own 4 1]), (1, .row 91 T21 r.1), (0, .var 92 [.own 6 1]), (1, .row 91 T21 r.2)]
abbrev qL2 (a : List I.T) (b : Int) (d : List T21.T) (e : List T21.T) (f : T21.T) (r : qqY) : Prop := YC Tryz.prog [.agg (qB (qr T21 f))] [.loop .ready none (qfV Tryz.f81 11 [91]) (qM 66 [(4, .ptr 1 0 0), (5, .ptr 2 0 0), (11, .ptr 3 0 0), (12, .ptr 5 0 0)]), .var 25 [ro I a], .var 3 [ri b], .var 92 [.own 4 0], .row 91 T21 d, .var 92 [.own 6 0], .row 91 T21 e] (qsU r) (qw4 a b d e f r)
def qFs := fun a b (d : List T21.T) (e : List T21.T) (f : T21.T) y0 y1 y2 y3 y4 y5 y6 => (⟨qM 66 [(13, .ptr 1000000 0 0), (15, .fn (Fn.func 126) [] [.ptr 1000001 0 0, .ptr 2 0 0, .ptr 3 0 0, .ptr 5 0 0]), (40, ro I y0), (41, ri y1), (42, ri y2)], [(0, 0, .loop .busy none (qfV Tryz.f81 11 [91]) (qM 66 [(4, .ptr 1 0 0), (5, .ptr 2 0 0), (11, .ptr 3 0 0), (12, .ptr 5 0 0)])), (1, 0, .var 25 [ro I a]), (2, 0, .var 3 [ri b]), (3, 0, .var 92 [.own 4 1]), (4, 1, .row 91 T21 y3), (5, 0, .var 92 [.own 6 1]), (6, 1, .row 91 T21 y4), (1000000, 0, .var 91 (qB (qr T21 y5))), (1000001, 0, .var 3 [ri y6])]⟩ : St)
def qdS (k : Nat) (a : List I.T) (b : Int) (d : List T21.T) (e : List T21.T) (f : T21.T) : Nat → List I.T → Int → Int → List T21.T → List T21.T → T21.T → Int → Option qqY
 | 0, _, _, _, _, _, _, _ => none
 | j + 1, y0, y1, y2, y3, y4, y5, y6 =>
 bif y2 < y1 then
 if (0 ≤ y2) ∧ (y2 < y0.length) then
 bif (decide (y0.getD y2.toNat I.dflt > y5.1) && decide (y0.getD y2.toNat I.dflt < y5.2)) then
 if ((qhj k (y0.getD y2.toNat I.dflt) y6 b y3 y4).isSome) then
 qdS k a b d e f j y0 y1 (qa .i64 (y2 + 1)) ((qal k (y0.getD y2.toNat I.dflt) y6 b y3 y4).2.1) ((qal k (y0.getD y2.toNat I.dflt) y6 b y3 y4).2.2) y5 ((qal k (y0.getD y2.toNat I.dflt) y6 b y3 y4).1)
 else none
 else
 qdS k a b d e f j y0 y1 (qa .i64 (y2 + 1)) y3 y4 y5 y6
 else none
 else
 if ((qhj k y5.2 y6 b y3 y4).isSome) then
 some ((qal k y5.2 y6 b y3 y4).2.1, (qal k y5.2 y6 b y3 y4).2.2)
 else none
def qrQ (k : Nat) (a : List I.T) (b : Int) (d : List T21.T) (e : List T21.T) (f : T21.T) : Option qqY :=
 qdS k a b d e f k a (↑a.length : Int) 0 d e f f.1
def qlo := fun k a b d e f => (qrQ k a b d e f).getD ([], [])
def qIh (k : Nat) : Ke := (1000000, mo 1, fun
 | [.agg qx0], [.loop _ _ _ qs, .var 25 [.r (.ro p l)], .var 3 [.r (.v (.int .i64 b))], .var 92 [.own 4 0], .row 91 m g, .var 92 [.own 6 0], .row 91 n i] => (qX [] T21 qx0).bind fun f => (qC p I l).bind fun a => (qC m T21 g).bind fun d => (qC n T21 i).bind fun e => some (.one (qsU (qlo k a b d e f), qw4 a b d e f (qlo k a b d e f)))
 | _, _ => none)
def qId : List (Nat × List Cmd) := [(15, [.autoB [13, 15, 40, 41, 42] false [4, 6]])]
abbrev qR0 := fun a b d e f => EE .round 7 qsU (qw4 a b d e f)
theorem qIf (k a b d e f) : ∀ j, (∀ y0 y1 y2 y3 y4 y5 y6, qR0 a b d e f (qQj (qfV Tryz.f81 11 [91]).body 15) (qFs a b d e f y0 y1 y2 y3 y4 y5 y6) (qdS k a b d e f j y0 y1 y2 y3 y4 y5 y6))
 | 0 => by intros; exact e0
 | j + 1 => by
  have ih := @qIf k a b d e f j
  ·intro y0 y1 y2 y3 y4 y5 y6 r h
   rw [qdS] at h
   exact go (qA [qnZ k]) [] qId [.autoB [0] true [4, 6]] (gS h (fun h => qU h fun h => gS h (fun h => qv h quv fun h => gC h 15 (ih _ _ _ _ _ _ _ _)) fun h => gC h 15 (ih _ _ _ _ _ _ _ _)) fun h => qv h quv fun h => gL h)
theorem qRB (k a b d e f r) (h : qrQ k a b d e f = some r): qL2 a b d e f r := by
 refine YC.of (List.cons_ne_nil _ _) (by kernel_rfl) ?_
 unfold qrQ at h
 exact go (qA [qnZ k]) [] qId [.autoB [0] true [4, 6]] (gC h 15 ((qIf k a b d e f k) _ _ _ _ _ _ _ _))
theorem qQ7 {k a b d e f} (h : (qrQ k a b d e f).isSome): qL2 a b d e f (qlo k a b d e f) := qJ h (qRB k a b d e f)
end
theorem gdm {α : Type} (l : List α) (i : Nat) (d : α) (h : i < l.length) : l.getD i d ∈ l := by simp [h]
end Go.AM
namespace Go.AM
open Go Go.Proofs
noncomputable section
abbrev qzl (a : List I.T) (r : Int) : Prop := CC Tryz.prog 124 [ro I a] [] (ri r) (nb r)
def qDL := fun y0 y1 y2 y3 => (⟨qM 42 [(0, ro I y0), (9, ro I y1), (10, ri y2), (11, ri y3)], []⟩ : St)
def qya := fun y0 y1 y2 => (⟨qM 42 [(0, ro I y0), (23, ri y1), (24, ri y2)], []⟩ : St)
mutual
def qfd (k : Nat) : Nat → List I.T → List I.T → Int → Int → Option Int
 | 0, _, _, _, _ => none
 | j + 1, y0, y1, y2, y3 =>
 bif y3 < y2 then
 if (0 ≤ y3) ∧ (y3 < y1.length) then
 bif (decide (y1.getD y3.toNat I.dflt < (0 : Int)) || decide (y1.getD y3.toNat I.dflt > (17179869184 : Int))) then
 some 1
 else
 qfd k j y0 y1 y2 (qa .i64 (y3 + 1))
 else none
 else
 qcv k j y0 (↑y0.length : Int) 0
def qcv (k : Nat) : Nat → List I.T → Int → Int → Option Int
 | 0, _, _, _ => none
 | j + 1, y0, y1, y2 =>
 bif y2 < y1 then
 if (decide (y2 > 0) = true → 0 ≤ y2) ∧ (decide (y2 > 0) = true → y2 < y0.length) ∧ (decide (y2 > 0) = true → (0 : Int) ≤ qa .i64 (y2 - 1)) ∧ (decide (y2 > 0) = true → qa .i64 (y2 - 1) < (↑y0.length : Int)) then
 bif (decide (y2 > 0) && decide (y0.getD y2.toNat I.dflt ≤ y0.getD (qa .i64 (y2 - 1)).toNat I.dflt)) then
 some 9
 else
 qcv k j y0 y1 (qa .i64 (y2 + 1))
 else none
 else
 some 0
end
def ql7 (k : Nat) (a : List I.T) : Option Int :=
 bif (↑a.length : Int) > (512 : Int) then
 some 8
 else
 qfd k k a a (↑a.length : Int) 0
def qm2 := fun k a => (ql7 k a).getD 0
def qKe (k : Nat) : Ke := (124, mo 1, fun
 | [.r (.ro d b)], [] => (qC d I b).bind fun a => some (.one (ri (qm2 k a), []))
 | _, _ => none)
def qu0 : List (Nat × List Cmd) := [(4, [.autoB [0, 9, 10, 11] false []]), (10, [.autoB [0, 23, 24] false []])]
abbrev qzJ := EP Tryz.f124 0 ri nb
theorem qvx (k) : ∀ j, (∀ {y0 y1 y2 y3}, qzJ 4 (qDL y0 y1 y2 y3) (qfd k j y0 y1 y2 y3)) ∧ (∀ {y0 y1 y2}, qzJ 10 (qya y0 y1 y2) (qcv k j y0 y1 y2))
 | 0 => by and_intros <;> intros <;> exact e0
 | j + 1 => by
  have ih := @qvx k j
  have g := @go (qA []) [] qu0 [.autoB [2] true []]
  refine ⟨?_, ?_⟩
  ·intro y0 y1 y2 y3 r h
   rw [qfd] at h
   exact g (gS h (fun h => qU h fun h => qu h fun h => gD h 4 ih.1) fun h => gD h 10 ih.2)
  ·intro y0 y1 y2 r h
   rw [qcv] at h
   exact g (gS h (fun h => gN h YW fun h => qu h fun h => gD h 10 ih.2) fun h => gL h)
theorem qLk (k a r) (h : ql7 k a = some r): qzl a r := qO Tryz.f124 (go (qA []) [] qu0 [.autoB [2] true []] (qu h fun h => gD h 4 (qvx k k).1))
theorem qJh {k a} (h : (ql7 k a).isSome): qzl a (qm2 k a) := qJ h (qLk k a)
end
end Go.AM
namespace Go.AM
open Go Go.Proofs
noncomputable section
end
end Go.AM
namespace Go.AM
open Go Go.Proofs
noncomputable section
abbrev qyM (a : List T2.T) (r : Int) : Prop := CC Tryz.prog 38 [ro T2 a] [] (ri r) (nb r)
def qDs := fun y0 y1 => (⟨qM 106 [(0, ro T2 y0), (3, ri y1)], []⟩ : St)
def qxU := fun y0 y1 => (⟨qM 106 [(0, ro T2 y0), (5, ri y1)], []⟩ : St)
mutual
def Vz (k : Nat) : Nat → List T2.T → Int → Option Int
 | 0, _, _ => none
 | j + 1, y0, y1 =>
 bif y1 < y0.length then
 if (0 ≤ y1) ∧ (y1 < y0.length) then
 bif (decide ((y0.getD y1.toNat T2.dflt).1 < (0 : Int)) || decide ((y0.getD y1.toNat T2.dflt).1 ≥ (y0.getD y1.toNat T2.dflt).2.1) || decide ((y0.getD y1.toNat T2.dflt).2.1 > (17179869184 : Int))) then
 some 1
 else
 bif (decide ((y0.getD y1.toNat T2.dflt).2.2.1 < (1 : Int)) || decide ((y0.getD y1.toNat T2.dflt).2.2.1 > (3 : Int))) then
 some 17
 else
 bif (decide ((y0.getD y1.toNat T2.dflt).2.2.2.1 < (-1 : Int)) || decide ((y0.getD y1.toNat T2.dflt).2.2.2.1 ≥ (16 : Int))) then
 some 22
 else
 bif (decide ((y0.getD y1.toNat T2.dflt).2.2.2.2 < (0 : Int)) || decide ((y0.getD y1.toNat T2.dflt).2.2.2.2 > (2048 : Int))) then
 some 1
 else
 Vz k j y0 (qa .i64 (y1 + 1))
 else none
 else
 Zk k j y0 0
def Zk (k : Nat) : Nat → List T2.T → Int → Option Int
 | 0, _, _ => none
 | j + 1, y0, y1 =>
 bif y1 < y0.length then
 if ((y1 == 0) = true → 0 ≤ y1) ∧ ((y1 == 0) = true → y1 < y0.length) ∧ ((y1 == 0 && (y0.getD y1.toNat T2.dflt).1 != (0 : Int)) = false → decide (y1 > 0) = true → 0 ≤ y1) ∧ ((y1 == 0 && (y0.getD y1.toNat T2.dflt).1 != (0 : Int)) = false → decide (y1 > 0) = true → y1 < y0.length) ∧ ((y1 == 0 && (y0.getD y1.toNat T2.dflt).1 != (0 : Int)) = false → decide (y1 > 0) = true → (0 : Int) ≤ qa .i64 (y1 - 1)) ∧ ((y1 == 0 && (y0.getD y1.toNat T2.dflt).1 != (0 : Int)) = false → decide (y1 > 0) = true → qa .i64 (y1 - 1) < (↑y0.length : Int)) ∧ ((y1 == 0 && (y0.getD y1.toNat T2.dflt).1 != (0 : Int)) = false → decide (y1 > 0) = true → ((y0.getD y1.toNat T2.dflt).1 != (y0.getD (qa .i64 (y1 - 1)).toNat T2.dflt).2.1) = false → 0 ≤ y1) ∧ ((y1 == 0 && (y0.getD y1.toNat T2.dflt).1 != (0 : Int)) = false → decide (y1 > 0) = true → ((y0.getD y1.toNat T2.dflt).1 != (y0.getD (qa .i64 (y1 - 1)).toNat T2.dflt).2.1) = false → y1 < y0.length) ∧ ((y1 == 0 && (y0.getD y1.toNat T2.dflt).1 != (0 : Int)) = false → decide (y1 > 0) = true → ((y0.getD y1.toNat T2.dflt).1 != (y0.getD (qa .i64 (y1 - 1)).toNat T2.dflt).2.1) = false → (0 : Int) ≤ qa .i64 (y1 - 1)) ∧ ((y1 == 0 && (y0.getD y1.toNat T2.dflt).1 != (0 : Int)) = false → decide (y1 > 0) = true → ((y0.getD y1.toNat T2.dflt).1 != (y0.getD (qa .i64 (y1 - 1)).toNat T2.dflt).2.1) = false → qa .i64 (y1 - 1) < (↑y0.length : Int)) then
 bif (y1 == 0 && (y0.getD y1.toNat T2.dflt).1 != (0 : Int) || decide (y1 > 0) && ((y0.getD y1.toNat T2.dflt).1 != (y0.getD (qa .i64 (y1 - 1)).toNat T2.dflt).2.1 || decide ((y0.getD y1.toNat T2.dflt).2.2.2.2 < (y0.getD (qa .i64 (y1 - 1)).toNat T2.dflt).2.2.2.2))) then
 some 9
 else
 Zk k j y0 (qa .i64 (y1 + 1))
 else none
 else
 some 0
end
def qbt (k : Nat) (a : List T2.T) : Option Int :=
 bif (↑a.length : Int) > (512 : Int) then
 some 8
 else
 Vz k k a 0
def qaj := fun k a => (qbt k a).getD 0
def qnU (k : Nat) : Ke := (38, mo 1, fun
 | [.r (.ro d b)], [] => (qC d T2 b).bind fun a => some (.one (ri (qaj k a), []))
 | _, _ => none)
def quG : List (Nat × List Cmd) := [(4, [.autoB [0, 3] false []]), (16, [.autoB [0, 5] false []])]
abbrev qzE := EP Tryz.f38 0 ri nb
theorem qvh (k) : ∀ j, (∀ {y0 y1}, qzE 4 (qDs y0 y1) (Vz k j y0 y1)) ∧ (∀ {y0 y1}, qzE 16 (qxU y0 y1) (Zk k j y0 y1))
 | 0 => by and_intros <;> intros <;> exact e0
 | j + 1 => by
  have ih := @qvh k j
  have g := @go (qA []) [] quG [.autoB [2] true []]
  refine ⟨?_, ?_⟩
  ·intro y0 y1 r h
   rw [Vz] at h
   exact g (gS h (fun h => qU h fun h => qu h fun h => qu h fun h => qu h fun h => qu h fun h => gD h 4 ih.1) fun h => gD h 16 ih.2)
  ·intro y0 y1 r h
   rw [Zk] at h
   exact g (gS h (fun h => gN h (fun q => qf q.1 (qf q.2.1 (qf q.2.2.1 (qf q.2.2.2.1 (qf q.2.2.2.2.1 (qf q.2.2.2.2.2.1 (qf q.2.2.2.2.2.2.1 (qf q.2.2.2.2.2.2.2.1 (qf q.2.2.2.2.2.2.2.2.1 (qf q.2.2.2.2.2.2.2.2.2 qP)))))))))) fun h => qu h fun h => gD h 16 ih.2) fun h => gL h)
theorem qKL (k a r) (h : qbt k a = some r): qyM a r := qO Tryz.f38 (go (qA []) [] quG [.autoB [2] true []] (qu h fun h => gD h 4 (qvh k k).1))
theorem qup {k a} (h : (qbt k a).isSome): qyM a (qaj k a) := qJ h (qKL k a)
end
end Go.AM
namespace Go.AM
open Go Go.Proofs
noncomputable section
abbrev qdJ : Type := List T21.T × List T21.T
def qk8 (r : qdJ) : AV := .tup []
def qno (a : List I.T) (b : Int) (d : List T21.T) (e : List T21.T) (f : List T2.T) (r : qdJ) : List (Nat × Blk) := [(0, .loop .ready none (qfV Tryz.f81 11 [91]) (qM 66 [(4, .ptr 1 0 0), (5, .ptr 2 0 0), (11, .ptr 3 0 0), (12, .ptr 5 0 0)])), (0, .var 25 [ro I a]), (0, .var 3 [ri b]), (0, .var 92 [.own 4 1]), (1, .row 91 T21 r.1), (0, .var 92 [.own 6 1]), (1, .row 91 T21 r.2), (0, .var 24 [ro T2 f])]
abbrev qzn (a : List I.T) (b : Int) (d : List T21.T) (e : List T21.T) (f : List T2.T) (r : qdJ) : Prop := CC Tryz.prog 172 [.own 0 0, .ptr 7 0 0] [.loop .ready none (qfV Tryz.f81 11 [91]) (qM 66 [(4, .ptr 1 0 0), (5, .ptr 2 0 0), (11, .ptr 3 0 0), (12, .ptr 5 0 0)]), .var 25 [ro I a], .var 3 [ri b], .var 92 [.own 4 0], .row 91 T21 d, .var 92 [.own 6 0], .row 91 T21 e, .var 24 [ro T2 f]] (qk8 r) (qno a b d e f r)
def qDM := fun a b (d : List T21.T) (e : List T21.T) f y0 y1 y2 => (⟨qM 61 [(0, .own 0 0), (1, .ptr 7 0 0), (3, ri y0)], [(0, 0, .loop .ready none (qfV Tryz.f81 11 [91]) (qM 66 [(4, .ptr 1 0 0), (5, .ptr 2 0 0), (11, .ptr 3 0 0), (12, .ptr 5 0 0)])), (1, 0, .var 25 [ro I a]), (2, 0, .var 3 [ri b]), (3, 0, .var 92 [.own 4 1]), (4, 1, .row 91 T21 y1), (5, 0, .var 92 [.own 6 1]), (6, 1, .row 91 T21 y2), (7, 0, .var 24 [ro T2 f])]⟩ : St)
def qDN := fun a b (d : List T21.T) (e : List T21.T) f y0 y1 y2 y3 => (⟨qM 61 [(0, .own 0 0), (1, .ptr 7 0 0), (3, ri y0), (4, ri y1)], [(0, 0, .loop .ready none (qfV Tryz.f81 11 [91]) (qM 66 [(4, .ptr 1 0 0), (5, .ptr 2 0 0), (11, .ptr 3 0 0), (12, .ptr 5 0 0)])), (1, 0, .var 25 [ro I a]), (2, 0, .var 3 [ri b]), (3, 0, .var 92 [.own 4 1]), (4, 1, .row 91 T21 y2), (5, 0, .var 92 [.own 6 1]), (6, 1, .row 91 T21 y3), (7, 0, .var 24 [ro T2 f])]⟩ : St)
mutual
def qbw (k : Nat) (a : List I.T) (b : Int) (d : List T21.T) (e : List T21.T) (f : List T2.T) : Nat → Int → List T21.T → List T21.T → Option qdJ
 | 0, _, _, _ => none
 | j + 1, y0, y1, y2 =>
 bif y0 < f.length then
 if (0 ≤ y0) ∧ (y0 < f.length) then
 bif ((f.getD y0.toNat T2.dflt).2.2.1 == (3 : Int)) then
 qbw k a b d e f j (qa .i64 (y0 + 1)) y1 y2
 else
 qfe k a b d e f j y0 y0 y1 y2
 else none
 else
 some (y1, y2)
def qfe (k : Nat) (a : List I.T) (b : Int) (d : List T21.T) (e : List T21.T) (f : List T2.T) : Nat → Int → Int → List T21.T → List T21.T → Option qdJ
 | 0, _, _, _, _ => none
 | j + 1, y0, y1, y2, y3 =>
 if (decide (y1 < f.length) = true → 0 ≤ y1) ∧ (decide (y1 < f.length) = true → y1 < f.length) ∧ ((decide (y1 < f.length) && (f.getD y1.toNat T2.dflt).2.2.1 != (3 : Int)) = true → 0 ≤ y1) ∧ ((decide (y1 < f.length) && (f.getD y1.toNat T2.dflt).2.2.1 != (3 : Int)) = true → y1 < f.length) ∧ ((decide (y1 < f.length) && (f.getD y1.toNat T2.dflt).2.2.1 != (3 : Int)) = true → 0 ≤ y0) ∧ ((decide (y1 < f.length) && (f.getD y1.toNat T2.dflt).2.2.1 != (3 : Int)) = true → y0 < f.length) then
 bif (decide (y1 < f.length) && (f.getD y1.toNat T2.dflt).2.2.1 != (3 : Int) && (f.getD y1.toNat T2.dflt).2.2.2.2 == (f.getD y0.toNat T2.dflt).2.2.2.2) then
 qfe k a b d e f j y0 (qa .i64 (y1 + 1)) y2 y3
 else
 if (0 ≤ y0) ∧ (y0 < f.length) ∧ ((0 : Int) ≤ qa .i64 (y1 - 1)) ∧ (qa .i64 (y1 - 1) < (↑f.length : Int)) ∧ ((qrQ k a b y2 y3 ((f.getD y0.toNat T2.dflt).1, (f.getD (qa .i64 (y1 - 1)).toNat T2.dflt).2.1)).isSome) then
 qbw k a b d e f j y1 ((qlo k a b y2 y3 ((f.getD y0.toNat T2.dflt).1, (f.getD (qa .i64 (y1 - 1)).toNat T2.dflt).2.1)).1) ((qlo k a b y2 y3 ((f.getD y0.toNat T2.dflt).1, (f.getD (qa .i64 (y1 - 1)).toNat T2.dflt).2.1)).2)
 else none
 else none
end
def ql9 (k : Nat) (a : List I.T) (b : Int) (d : List T21.T) (e : List T21.T) (f : List T2.T) : Option qdJ :=
 qbw k a b d e f k 0 d e
def qii := fun k a b d e f => (ql9 k a b d e f).getD ([], [])
def qKg (k : Nat) : Ke := (172, fun
 | [.own _ _, .ptr _ _ _] => some [true, true]
 | _ => none, fun
 | [.own 0 0, .ptr 7 0 0], [.loop _ _ _ i, .var 25 [.r (.ro tyield_40_ qyield_40)], .var 3 [.r (.v (.int .i64 b))], .var 92 [.own 4 0], .row 91 tyield_110_ qyield_110, .var 92 [.own 6 0], .row 91 tyield_120_ qyield_120, .var 24 [.r (.ro tz00_ qz00)]] => (qC tyield_40_ I qyield_40).bind fun a => (qC tyield_110_ T21 qyield_110).bind fun d => (qC tyield_120_ T21 qyield_120).bind fun e => (qC tz00_ T2 qz00).bind fun f => some (.one (qk8 (qii k a b d e f), qno a b d e f (qii k a b d e f)))
 | _, _ => none)
def qu1 : List (Nat × List Cmd) := [(1, [.autoB [0, 1, 3] false [4, 6]]), (5, [.autoB [0, 1, 3, 4] false [4, 6]])]
abbrev qzK := fun a b d e f => EP Tryz.f172 8 qk8 (qno a b d e f)
theorem qvy (k a b d e f) : ∀ j, (∀ {y0 y1 y2}, qzK a b d e f 1 (qDM a b d e f y0 y1 y2) (qbw k a b d e f j y0 y1 y2)) ∧ (∀ {y0 y1 y2 y3}, qzK a b d e f 5 (qDN a b d e f y0 y1 y2 y3) (qfe k a b d e f j y0 y1 y2 y3))
 | 0 => by and_intros <;> intros <;> exact e0
 | j + 1 => by
  have ih := @qvy k a b d e f j
  have g := @go (qA [qIh k]) [] qu1 [.autoB [] true [4, 6]]
  refine ⟨?_, ?_⟩
  ·intro y0 y1 y2 r h
   rw [qbw] at h
   exact g (gS h (fun h => qU h fun h => gS h (fun h => gD h 1 ih.1) fun h => gD h 5 ih.2) fun h => gL h)
  ·intro y0 y1 y2 y3 r h
   rw [qfe] at h
   exact g (gN h (fun q => qf q.1 (qf q.2.1 (qf q.2.2.1 (qf q.2.2.2.1 (qf q.2.2.2.2.1 (qf q.2.2.2.2.2 qP)))))) fun h => gS h (fun h => gD h 5 ih.2) fun h => gN h (fun q => qf q.1 (qf q.2.1 (qf q.2.2.1 (qf q.2.2.2.1 (qf (qQ7 q.2.2.2.2) qP))))) fun h => gU2 h (.leaf (.tup []) [(0, .loop .ready none (qfV Tryz.f81 11 [91]) (qM 66 [(4, .ptr 1 0 0), (5, .ptr 2 0 0), (11, .ptr 3 0 0), (12, .ptr 5 0 0)])), (0, .var 25 [.r (.ro I a)]), (0, .var 3 [.r (.v (.int .i64 b))]), (0, .var 92 [.own 4 1]), (1, .row 91 T21 ((qlo k a b y2 y3 ((f.getD y0.toNat T2.dflt).1, (f.getD (qa .i64 (y1 - 1)).toNat T2.dflt).2.1)).1)), (0, .var 92 [.own 6 1]), (1, .row 91 T21 ((qlo k a b y2 y3 ((f.getD y0.toNat T2.dflt).1, (f.getD (qa .i64 (y1 - 1)).toNat T2.dflt).2.1)).2)), (0, .var 24 [.r (.ro T2 f)])]) fun h => gD h 1 ih.1)
theorem qLm (k a b d e f r) (h : ql9 k a b d e f = some r): qzn a b d e f r := qO Tryz.f172 (go (qA [qIh k]) [] qu1 [.autoB [] true [4, 6]] (gD h 1 (qvy k a b d e f k).1))
theorem qJj {k a b d e f} (h : (ql9 k a b d e f).isSome): qzn a b d e f (qii k a b d e f) := qJ h (qLm k a b d e f)
abbrev qzk (a : T2.T) (r : Int) : Prop := CC Tryz.prog 123 [.agg (qB (qr T2 a))] [] (ri r) (nb r)
def qei (k : Nat) (a : T2.T) : Option Int :=
 bif (decide (a.1 < (0 : Int)) || decide (a.1 ≥ a.2.1) || decide (a.2.1 > (17179869184 : Int))) then
 some 1
 else
 bif (decide (a.2.2.1 < (1 : Int)) || decide (a.2.2.1 > (3 : Int))) then
 some 17
 else
 bif (decide (a.2.2.2.1 < (-1 : Int)) || decide (a.2.2.2.1 ≥ (16 : Int))) then
 some 22
 else
 bif (decide (a.2.2.2.2 < (0 : Int)) || decide (a.2.2.2.2 > (2048 : Int))) then
 some 1
 else
 some 0
def qeS := fun k a => (qei k a).getD 0
def qvW (k : Nat) : Ke := (123, mo 1, fun
 | [.agg b], [] => (qX [] T2 b).bind fun a => some (.one (ri (qeS k a), []))
 | _, _ => none)
theorem qLj (k a r) (h : qei k a = some r): qzk a r := qO Tryz.f123 (go (qA []) [] [] [.autoB [2] true []] (qu h fun h => qu h fun h => qu h fun h => qu h fun h => gL h))
theorem qJg {k a} (h : (qei k a).isSome): qzk a (qeS k a) := qJ h (qLj k a)
abbrev qzg (a : List T2.T) (r : Int) : Prop := CC Tryz.prog 79 [ro T2 a] [] (ri r) (nb r)
def qDK := fun y0 y1 y2 y3 => (⟨qM 46 [(0, ro T2 y0), (13, ro T2 y1), (14, ri y2), (15, ri y3)], []⟩ : St)
def qx8 := fun y0 y1 y2 y3 y4 => (⟨qM 46 [(6, ri y0), (7, ri y1), (25, ro T2 y2), (26, ri y3), (27, ri y4)], []⟩ : St)
mutual
def VJ (k : Nat) : Nat → List T2.T → List T2.T → Int → Int → Option Int
 | 0, _, _, _, _ => none
 | j + 1, y0, y1, y2, y3 =>
 bif y3 < y2 then
 if (0 ≤ y3) ∧ (y3 < y1.length) then
 if ((qei k (y1.getD y3.toNat T2.dflt)).isSome) then
 bif (qeS k (y1.getD y3.toNat T2.dflt) != (0 : Int)) then
 some (qeS k (y1.getD y3.toNat T2.dflt))
 else
 VJ k j y0 y1 y2 (qa .i64 (y3 + 1))
 else none
 else none
 else
 Zv k j 0 0 y0 (↑y0.length : Int) 0
def Zv (k : Nat) : Nat → Int → Int → List T2.T → Int → Int → Option Int
 | 0, _, _, _, _, _ => none
 | j + 1, y0, y1, y2, y3, y4 =>
 bif y4 < y3 then
 if (0 ≤ y4) ∧ (y4 < y2.length) then
 bif ((y2.getD y4.toNat T2.dflt).1 != y0 || decide ((y2.getD y4.toNat T2.dflt).2.2.2.2 < y1)) then
 some 9
 else
 Zv k j ((y2.getD y4.toNat T2.dflt).2.1) ((y2.getD y4.toNat T2.dflt).2.2.2.2) y2 y3 (qa .i64 (y4 + 1))
 else none
 else
 some 0
end
def Xf (k : Nat) (a : List T2.T) : Option Int :=
 bif (↑a.length : Int) > (512 : Int) then
 some 8
 else
 VJ k k a a (↑a.length : Int) 0
def QP := fun k a => (Xf k a).getD 0
def qev (k : Nat) : Ke := (79, mo 1, fun
 | [.r (.ro d b)], [] => (qC d T2 b).bind fun a => some (.one (ri (QP k a), []))
 | _, _ => none)
def quY : List (Nat × List Cmd) := [(4, [.autoB [0, 13, 14, 15] false []]), (12, [.autoB [6, 7, 25, 26, 27] false []])]
abbrev qzI := EP Tryz.f79 0 ri nb
theorem qvw (k) : ∀ j, (∀ {y0 y1 y2 y3}, qzI 4 (qDK y0 y1 y2 y3) (VJ k j y0 y1 y2 y3)) ∧ (∀ {y0 y1 y2 y3 y4}, qzI 12 (qx8 y0 y1 y2 y3 y4) (Zv k j y0 y1 y2 y3 y4))
 | 0 => by and_intros <;> intros <;> exact e0
 | j + 1 => by
  have ih := @qvw k j
  have g := @go (qA [qvW k]) [] quY [.autoB [2] true []]
  refine ⟨?_, ?_⟩
  ·intro y0 y1 y2 y3 r h
   rw [VJ] at h
   exact g (gS h (fun h => qU h fun h => qv h qJg fun h => qu h fun h => gD h 4 ih.1) fun h => gD h 12 ih.2)
  ·intro y0 y1 y2 y3 y4 r h
   rw [Zv] at h
   exact g (gS h (fun h => qU h fun h => qu h fun h => gD h 12 ih.2) fun h => gL h)
theorem qLf (k a r) (h : Xf k a = some r): qzg a r := qO Tryz.f79 (go (qA [qvW k]) [] quY [.autoB [2] true []] (qu h fun h => gD h 4 (qvw k k).1))
theorem qix {k a} (h : (Xf k a).isSome): qzg a (QP k a) := qJ h (qLf k a)
abbrev qlA : Type := List T2.T × Int
def qk7 (r : qlA) : AV := .tup [ro T2 r.1, ri r.2]
abbrev qzj (a : List T2.T) (b : T21.T) (r : qlA) : Prop := CC Tryz.prog 80 [ro T2 a, .agg (qB (qr T21 b))] [] (qk7 r) (nb r)
def qx9 := fun y0 y1 y2 y3 y4 => (⟨qM 77 [(3, .ptr 1000000 0 0), (8, .own 1000001 0), (42, ro T2 y0), (43, ri y1), (44, ri y2)], [(1000000, 0, .var 91 (qB (qr T21 y3))), (1000001, 0, .row 87 T2 y4)]⟩ : St)
def QD (k : Nat) : Nat → List T2.T → Int → Int → T21.T → List T2.T → Option qlA
 | 0, _, _, _, _, _ => none
 | j + 1, y0, y1, y2, y3, y4 =>
 bif y2 < y1 then
 if (0 ≤ y2) ∧ (y2 < y0.length) then
 bif qa .i64 ((if y3.1 > (y0.getD y2.toNat T2.dflt).1 then y3.1 else (y0.getD y2.toNat T2.dflt).1) - y3.1) < qa .i64 ((if y3.2 < (y0.getD y2.toNat T2.dflt).2.1 then y3.2 else (y0.getD y2.toNat T2.dflt).2.1) - y3.1) then
 if ((y4.length + [(qa .i64 ((if y3.1 > (y0.getD y2.toNat T2.dflt).1 then y3.1 else (y0.getD y2.toNat T2.dflt).1) - y3.1), qa .i64 ((if y3.2 < (y0.getD y2.toNat T2.dflt).2.1 then y3.2 else (y0.getD y2.toNat T2.dflt).2.1) - y3.1), (y0.getD y2.toNat T2.dflt).2.2)].length) * (40 : Nat) ≤ (140737488355328 : Nat)) then
 QD k j y0 y1 (qa .i64 (y2 + 1)) y3 (y4 ++ [(qa .i64 ((if y3.1 > (y0.getD y2.toNat T2.dflt).1 then y3.1 else (y0.getD y2.toNat T2.dflt).1) - y3.1), qa .i64 ((if y3.2 < (y0.getD y2.toNat T2.dflt).2.1 then y3.2 else (y0.getD y2.toNat T2.dflt).2.1) - y3.1), (y0.getD y2.toNat T2.dflt).2.2)])
 else none
 else
 QD k j y0 y1 (qa .i64 (y2 + 1)) y3 y4
 else none
 else
 some (y4, 0)
def Y5 (k : Nat) (a : List T2.T) (b : T21.T) : Option qlA :=
 if ((Xf k a).isSome) then
 bif (QP k a != (0 : Int)) then
 some ([], QP k a)
 else
 bif (↑a.length : Int) > (0 : Int) then
 if ((0 : Int) ≤ qa .i64 ((↑a.length : Int) - (1 : Int))) ∧ (qa .i64 ((↑a.length : Int) - (1 : Int)) < (↑a.length : Int)) then
 bif (decide (b.1 < (0 : Int)) || decide (b.1 > b.2) || decide (b.2 > (a.getD (qa .i64 ((↑a.length : Int) - (1 : Int))).toNat T2.dflt).2.1)) then
 some ([], 1)
 else
 QD k k a (↑a.length : Int) 0 b ([])
 else none
 else
 bif (decide (b.1 < (0 : Int)) || decide (b.1 > b.2) || decide (b.2 > (0 : Int))) then
 some ([], 1)
 else
 QD k k a (↑a.length : Int) 0 b ([])
 else none
def wV := fun k a b => (Y5 k a b).getD ([], 0)
def qn0 (k : Nat) : Ke := (80, mo 2, fun
 | [.r (.ro f d), .agg e], [] => (qC f T2 d).bind fun a => (qX [] T21 e).bind fun b => some (.one (qk7 (wV k a b), []))
 | _, _ => none)
def quZ : List (Nat × List Cmd) := [(11, [.row 8 87 T2, .autoB [3, 8, 42, 43, 44] false []])]
abbrev qMv := EP Tryz.f80 0 qk7 nb
theorem qnH (k) : ∀ j, (∀ y0 y1 y2 y3 y4, qMv 11 (qx9 y0 y1 y2 y3 y4) (QD k j y0 y1 y2 y3 y4))
 | 0 => by intros; exact e0
 | j + 1 => by
  have ih := @qnH k j
  ·intro y0 y1 y2 y3 y4 r h
   rw [QD] at h
   exact go (qA [qev k]) [] quZ [.frz 4 false (RTy.list T2), .autoB [4, 5] true []] (gS h (fun h => qU h fun h => gS h (fun h => qv h id fun h => gC h 11 (ih _ _ _ _ _ _)) fun h => gC h 11 (ih _ _ _ _ _ _)) fun h => gL h)
theorem qLi (k a b r) (h : Y5 k a b = some r): qzj a b r := qO Tryz.f80 (go (qA [qev k]) [] quZ [.frz 4 false (RTy.list T2), .autoB [4, 5] true []] (qv h qix fun h => qu h fun h => gS h (fun h => qU h fun h => qu h fun h => gC h 11 ((qnH k k) _ _ _ _ _ _)) fun h => qu h fun h => gC h 11 ((qnH k k) _ _ _ _ _ _)))
theorem qny {k a b} (h : (Y5 k a b).isSome): qzj a b (wV k a b) := qJ h (qLi k a b)
abbrev qyP (a : List T2.T) (r : Int) : Prop := CC Tryz.prog 83 [ro T2 a] [] (ri r) (nb r)
def qdY (k : Nat) (a : List T2.T) : Option Int :=
 bif ((↑a.length : Int) == (0 : Int)) then
 some 0
 else
 if ((0 : Int) ≤ qa .i64 ((↑a.length : Int) - (1 : Int))) ∧ (qa .i64 ((↑a.length : Int) - (1 : Int)) < (↑a.length : Int)) then
 some ((a.getD (qa .i64 ((↑a.length : Int) - 1)).toNat T2.dflt).2.1)
 else none
def qic := fun k a => (qdY k a).getD 0
def qvQ (k : Nat) : Ke := (83, mo 1, fun
 | [.r (.ro d b)], [] => (qC d T2 b).bind fun a => some (.one (ri (qic k a), []))
 | _, _ => none)
theorem qKO (k a r) (h : qdY k a = some r): qyP a r := qO Tryz.f83 (go (qA []) [] [] [.autoB [2] true []] (qu h fun h => qU h fun h => gL h))
theorem qIV {k a} (h : (qdY k a).isSome): qyP a (qic k a) := qJ h (qKO k a)
abbrev qly : Type := List T2.T × Int
def qk1 (r : qly) : AV := .tup [ro T2 r.1, ri r.2]
abbrev qyO (a : List T2.T) (b : T21.T) (r : qly) : Prop := CC Tryz.prog 39 [ro T2 a, .agg (qB (qr T21 b))] [] (qk1 r) (nb r)
def qDu := fun y0 y1 y2 y3 => (⟨qM 75 [(0, ro T2 y0), (3, .ptr 1000000 0 0), (7, .own 1000001 0), (8, ri y1)], [(1000000, 0, .var 91 (qB (qr T21 y2))), (1000001, 0, .row 87 T2 y3)]⟩ : St)
def Zm (k : Nat) : Nat → List T2.T → Int → T21.T → List T2.T → Option qly
 | 0, _, _, _, _ => none
 | j + 1, y0, y1, y2, y3 =>
 bif y1 < y0.length then
 if (0 ≤ y1) ∧ (y1 < y0.length) then
 bif qa .i64 ((if y2.1 > (y0.getD y1.toNat T2.dflt).1 then y2.1 else (y0.getD y1.toNat T2.dflt).1) - y2.1) < qa .i64 ((if y2.2 < (y0.getD y1.toNat T2.dflt).2.1 then y2.2 else (y0.getD y1.toNat T2.dflt).2.1) - y2.1) then
 if ((y3.length + [(qa .i64 ((if y2.1 > (y0.getD y1.toNat T2.dflt).1 then y2.1 else (y0.getD y1.toNat T2.dflt).1) - y2.1), qa .i64 ((if y2.2 < (y0.getD y1.toNat T2.dflt).2.1 then y2.2 else (y0.getD y1.toNat T2.dflt).2.1) - y2.1), (y0.getD y1.toNat T2.dflt).2.2)].length) * (40 : Nat) ≤ (140737488355328 : Nat)) then
 Zm k j y0 (qa .i64 (y1 + 1)) y2 (y3 ++ [(qa .i64 ((if y2.1 > (y0.getD y1.toNat T2.dflt).1 then y2.1 else (y0.getD y1.toNat T2.dflt).1) - y2.1), qa .i64 ((if y2.2 < (y0.getD y1.toNat T2.dflt).2.1 then y2.2 else (y0.getD y1.toNat T2.dflt).2.1) - y2.1), (y0.getD y1.toNat T2.dflt).2.2)])
 else none
 else
 Zm k j y0 (qa .i64 (y1 + 1)) y2 y3
 else none
 else
 some (y3, 0)
def qdX (k : Nat) (a : List T2.T) (b : T21.T) : Option qly :=
 if ((qbt k a).isSome) then
 bif (qaj k a != (0 : Int)) then
 some ([], qaj k a)
 else
 bif (decide (b.1 < (0 : Int)) || decide (b.1 > b.2) || decide (b.2 > (17179869184 : Int))) then
 if ((decide (b.1 < (0 : Int)) || decide (b.1 > b.2) || decide (b.2 > (17179869184 : Int))) = true) then
 some ([], 1)
 else none
 else
 if ((decide (b.1 < (0 : Int)) || decide (b.1 > b.2) || decide (b.2 > (17179869184 : Int))) = false) ∧ ((qdY k a).isSome) then
 bif (false || decide (b.2 > qic k a)) then
 some ([], 1)
 else
 Zm k k a 0 b ([])
 else none
 else none
def Vo := fun k a b => (qdX k a b).getD ([], 0)
def qvP (k : Nat) : Ke := (39, mo 2, fun
 | [.r (.ro f d), .agg e], [] => (qC f T2 d).bind fun a => (qX [] T21 e).bind fun b => some (.one (qk1 (Vo k a b), []))
 | _, _ => none)
def quI : List (Nat × List Cmd) := [(8, [.row 7 87 T2, .autoB [0, 3, 7, 8] false []])]
abbrev qMk := EE Tryz.f39 0 qk1 nb
theorem qvj (k) : ∀ j, (∀ y0 y1 y2 y3, qMk (zK Tryz.f39 8) (qDu y0 y1 y2 y3) (Zm k j y0 y1 y2 y3))
 | 0 => by intros; exact e0
 | j + 1 => by
  have ih := @qvj k j
  ·intro y0 y1 y2 y3 r h
   rw [Zm] at h
   exact go (qA [qnU k, qvQ k]) [] quI [.frz 4 false (RTy.list T2), .autoB [4, 5] true []] (gS h (fun h => qU h fun h => gS h (fun h => qv h id fun h => gC h 8 (ih _ _ _ _ _)) fun h => gC h 8 (ih _ _ _ _ _)) fun h => gL h)
theorem qKN (k a b r) (h : qdX k a b = some r): qyO a b r := qO Tryz.f39 (go (qA [qnU k, qvQ k]) [] quI [.frz 4 false (RTy.list T2), .autoB [4, 5] true []] (qv h qup fun h => qu h fun h => gS h (fun h => qv h id fun h => gU1 h (.cut 8 (zK Tryz.f39 8) ⟨qM 75 [(0, .r (.ro T2 a)), (3, .ptr 1000000 0 0), (7, .own 1000001 0), (8, .r (.v (.int .i64 0)))], [(1000000, 0, .var 91 (qB (qr T21 b))), (1000001, 0, .row 87 T2 ([]))]⟩) fun h => gL h) fun h => gN h (fun q => qf q.1 (qf (qIV q.2) qP)) fun h => qu h fun h => gC h 8 ((qvj k k) _ _ _ _ _)))
theorem qIU {k a b} (h : (qdX k a b).isSome): qyO a b (Vo k a b) := qJ h (qKN k a b)
end
abbrev wz := Int × Int × Int × Int × Int   -- From, To, Kind, Grade, Phase
def Qo (s : wz) : Int :=
 bif (decide (s.1 < (0 : Int)) || decide (s.1 ≥ s.2.1) || decide (s.2.1 > (17179869184 : Int))) then 1
 else bif (decide (s.2.2.1 < (1 : Int)) || decide (s.2.2.1 > (3 : Int))) then 17
 else bif (decide (s.2.2.2.1 < (-1 : Int)) || decide (s.2.2.2.1 ≥ (16 : Int))) then 22
 else bif (decide (s.2.2.2.2 < (0 : Int)) || decide (s.2.2.2.2 > (2048 : Int))) then 1 else 0
def W7 : List wz → Int
 | [] => 0
 | x :: t => bif Qo x != 0 then Qo x else W7 t
def ZL (e p : Int) : List wz → Int
 | [] => 0
 | x :: t => bif (x.1 != e || decide (x.2.2.2.2 < p)) then 9 else ZL x.2.1 x.2.2.2.2 t
def vt (l : List wz) : Int := if l.length > 512 then 8 else if W7 l ≠ 0 then W7 l else ZL 0 0 l
theorem qlZ (k : Nat) (s : wz) : qei k s = some (Qo s) := by
 unfold qei Qo
 cases (decide (s.1 < (0 : Int)) || decide (s.1 ≥ s.2.1) || decide (s.2.1 > (17179869184 : Int)))
 ·cases (decide (s.2.2.1 < (1 : Int)) || decide (s.2.2.1 > (3 : Int)))
  ·cases (decide (s.2.2.2.1 < (-1 : Int)) || decide (s.2.2.2.1 ≥ (16 : Int)))
   ·cases (decide (s.2.2.2.2 < (0 : Int)) || decide (s.2.2.2.2 > (2048 : Int))) <;> rfl
   ·rfl
  ·rfl
 ·rfl
theorem qw8 (k : Nat) (s : wz) : qeS k s = Qo s := by unfold qeS; rw [qlZ]; rfl
structure SecOk (s : wz) : Prop where
 f : 0 ≤ s.1
 ft : s.1 < s.2.1
 t : s.2.1 ≤ 17179869184
 p : 0 ≤ s.2.2.2.2
theorem qj7 {s : wz} (h : Qo s = 0) : SecOk s := by
 unfold Qo at h
 cases h1 : (decide (s.1 < (0 : Int)) || decide (s.1 ≥ s.2.1) || decide (s.2.1 > (17179869184 : Int)))
 ·rw [h1, qg] at h
  cases h2 : (decide (s.2.2.1 < (1 : Int)) || decide (s.2.2.1 > (3 : Int)))
  ·rw [h2, qg] at h
   cases h3 : (decide (s.2.2.2.1 < (-1 : Int)) || decide (s.2.2.2.1 ≥ (16 : Int)))
   ·rw [h3, qg] at h
    cases h4 : (decide (s.2.2.2.2 < (0 : Int)) || decide (s.2.2.2.2 > (2048 : Int)))
    ·simp only [v6, decide_eq_false_iff_not] at h1 h4
     exact ⟨by omega, by omega, by omega, by omega⟩
    ·rw [h4] at h; cases h
   ·rw [h3] at h; cases h
  ·rw [h2] at h; cases h
 ·rw [h1] at h; cases h
theorem qmU : ∀ {l : List wz}, W7 l = 0 → ∀ x ∈ l, SecOk x
 | [], _, x, hx => by simp at hx
 | y :: t, h, x, hx => by
  unfold W7 at h
  by_cases h1 : Qo y = 0
  ·rw [show (Qo y != 0) = false by simp [h1], qg] at h
   rcases qK.1 hx with e | hx'
   ·rw [e]; exact qj7 h1
   ·exact qmU h x hx'
  ·rw [bne_iff_ne.2 h1, qj] at h; exact absurd h h1
theorem qLJ (k : Nat) (l : List wz) (hl : l.length ≤ 512) : ∀ (d i j : Nat) (e p : Int), i + d = l.length → d < j → Zv k j e p l (l.length : Int) (i : Int) = some (ZL e p (l.drop i)) := by
 intro d
 induction d with
 | zero =>
  intro i j e p hi hj
  obtain ⟨j, rfl⟩ := qW (by omega : 0 < j)
  rw [Zv, qq (by omega : ¬ (i : Int) < (l.length : Int)), qg, qo (by omega)]; rfl
 | succ d ih =>
  intro i j e p hi hj
  obtain ⟨j, rfl⟩ := qW (by omega : 0 < j)
  rw [Zv, qw (by omega : (i : Int) < (l.length : Int)), qj, qc ⟨by omega, by omega⟩, qe, qH i (by omega), qt l i T2.dflt (by omega), ZL, ih (i + 1) j _ _ (by omega) (by omega)]
  cases ((l.getD i T2.dflt).1 != e || decide ((l.getD i T2.dflt).2.2.2.2 < p)) <;> rfl
theorem qQn (k : Nat) (l : List wz) (hl : l.length ≤ 512) : ∀ (d i j : Nat), i + d = l.length → d + 600 < j → VJ k j l l (l.length : Int) (i : Int) = some (if W7 (l.drop i) ≠ 0 then W7 (l.drop i) else ZL 0 0 l) := by
 intro d
 induction d with
 | zero =>
  intro i j hi hj
  obtain ⟨j, rfl⟩ := qW (by omega : 0 < j)
  rw [VJ, qq (by omega : ¬ (i : Int) < (l.length : Int)), qg, qo (by omega), W7, qi (fun h => h rfl)]
  exact qLJ k l hl l.length 0 j 0 0 (by omega) (by omega)
 | succ d ih =>
  intro i j hi hj
  obtain ⟨j, rfl⟩ := qW (by omega : 0 < j)
  rw [VJ, qw (by omega : (i : Int) < (l.length : Int)), qj, qc ⟨by omega, by omega⟩, qe, qlZ, qw8, qd, qc rfl, qH i (by omega), qt l i T2.dflt (by omega), W7, ih (i + 1) j (by omega) (by omega)]
  by_cases h : Qo (l.getD i T2.dflt) = 0
  ·rw [show (Qo (l.getD i T2.dflt) != 0) = false by rw [h]; rfl, qg, qg]
  ·rw [bne_iff_ne.2 h, qj, qj, qc h]
theorem qbZ (k : Nat) (hk : 1200 ≤ k) (l : List wz) : Xf k l = some (vt l) := by
 unfold Xf vt
 by_cases h : l.length > 512
 ·rw [qc h, qw (by omega : (l.length : Int) > 512)]; rfl
 ·rw [qi h, qq (by omega : ¬ (l.length : Int) > 512), qg]
  exact qQn k l (by omega) l.length 0 k (by omega) (by omega)
theorem qhS (k : Nat) (hk : 1200 ≤ k) (l : List wz) : QP k l = vt l := by
 unfold QP; rw [qbZ k hk]; rfl
def qob (l : List wz) (i : Nat) : Int := if i = 0 then 0 else (l.getD (i - 1) T2.dflt).2.1
def qoc (l : List wz) (i : Nat) : Int := if i = 0 then 0 else (l.getD (i - 1) T2.dflt).2.2.2.2
theorem qFf (k : Nat) (l : List wz) (hl : l.length ≤ 512) (ho : ∀ x ∈ l, SecOk x) : ∀ (d i j : Nat), i + d = l.length → d < j → Zk k j l (i : Int) = some (ZL (qob l i) (qoc l i) (l.drop i)) := by
 intro d
 induction d with
 | zero =>
  intro i j hi hj
  obtain ⟨j, rfl⟩ := qW (by omega : 0 < j)
  rw [Zk, qq (by omega : ¬ (i : Int) < (l.length : Int)), qg, qo (by omega)]; rfl
 | succ d ih =>
  intro i j hi hj
  obtain ⟨j, rfl⟩ := qW (by omega : 0 < j)
  have h3 : (0 : Int) ≤ (i : Int) := by omega
  have h4 : (i : Int) < (l.length : Int) := by omega
  have hx := (ho (l.getD i T2.dflt) (gdm _ _ _ (by omega))).p
  have hw : (i : Int) > 0 → qa .i64 ((i : Int) - 1) = ((i - 1 : Nat) : Int) := fun h => by rw [qm (by omega) (by omega)]; omega
  have g1 : decide ((i : Int) > 0) = true → (0 : Int) ≤ qa .i64 ((i : Int) - 1) := fun h => by rw [hw (of_decide_eq_true h)]; omega
  have g2 : decide ((i : Int) > 0) = true → qa .i64 ((i : Int) - 1) < (l.length : Int) := fun h => by rw [hw (of_decide_eq_true h)]; omega
  rw [Zk, qw h4, qj, qe, qc ⟨fun _ => h3, fun _ => h4, fun _ _ => h3, fun _ _ => h4, fun _ h => g1 h, fun _ h => g2 h, fun _ _ _ => h3, fun _ _ _ => h4, fun _ h _ => g1 h, fun _ h _ => g2 h⟩, qH i (by omega), ih (i + 1) j (by omega) (by omega), qt l i T2.dflt (by omega), ZL]
  have e1 : qob l (i + 1) = (l.getD i T2.dflt).2.1 := by unfold qob; rw [qi (by omega), Nat.add_sub_cancel]
  have e2 : qoc l (i + 1) = (l.getD i T2.dflt).2.2.2.2 := by unfold qoc; rw [qi (by omega), Nat.add_sub_cancel]
  rw [e1, e2]
  have hb : ((i : Int) == 0 && (l.getD i T2.dflt).1 != 0 || decide ((i : Int) > 0) && ((l.getD i T2.dflt).1 != (l.getD (qa .i64 ((i : Int) - 1)).toNat T2.dflt).2.1 || decide ((l.getD i T2.dflt).2.2.2.2 < (l.getD (qa .i64 ((i : Int) - 1)).toNat T2.dflt).2.2.2.2))) = ((l.getD i T2.dflt).1 != qob l i || decide ((l.getD i T2.dflt).2.2.2.2 < qoc l i)) := by
   unfold qob qoc
   by_cases h : i = 0
   ·subst h
    rw [qc rfl, qc rfl, qq (by omega : ¬ (l.getD 0 T2.dflt).2.2.2.2 < 0)]
    show (true && _ || false && _) = _
    rw [wH, wE]
   ·have h' : (i : Int) > 0 := by omega
    rw [qi h, qi h, hw h', qe, qw h', wH, show ((i : Int) == 0) = false from beq_eq_false_iff_ne.2 (by omega), wE, vH]
  rw [hb]
  cases ((l.getD i T2.dflt).1 != qob l i || decide ((l.getD i T2.dflt).2.2.2.2 < qoc l i)) <;> rfl
theorem qLK (k : Nat) (l : List wz) (hl : l.length ≤ 512) : ∀ (d i j : Nat), i + d = l.length → d + 600 < j → (∀ x ∈ l.take i, SecOk x) → Vz k j l (i : Int) = some (if W7 (l.drop i) ≠ 0 then W7 (l.drop i) else ZL 0 0 l) := by
 intro d
 induction d with
 | zero =>
  intro i j hi hj ho
  obtain ⟨j, rfl⟩ := qW (by omega : 0 < j)
  rw [Vz, qq (by omega : ¬ (i : Int) < (l.length : Int)), qg, qo (by omega), W7, qi (fun h => h rfl)]
  rw [zj (by omega)] at ho
  exact qFf k l hl ho l.length 0 j (by omega) (by omega)
 | succ d ih =>
  intro i j hi hj ho
  obtain ⟨j, rfl⟩ := qW (by omega : 0 < j)
  rw [Vz, qw (by omega : (i : Int) < (l.length : Int)), qj, qc ⟨by omega, by omega⟩, qe, qH i (by omega), qt l i T2.dflt (by omega), W7]
  have ht : l.take (i + 1) = l.take i ++ [l.getD i T2.dflt] := by
   rw [List.take_add_one, List.getD_eq_getElem?_getD]
   rw [List.getElem?_eq_getElem (by omega)]; rfl
  by_cases h : Qo (l.getD i T2.dflt) = 0
  ·rw [ih (i + 1) j (by omega) (by omega) (fun x hx => by
    rw [ht] at hx
    rcases zX.1 hx with hx | hx
    ·exact ho x hx
    ·rw [List.mem_singleton] at hx; rw [hx]; exact qj7 h)]
   rw [show (Qo (l.getD i T2.dflt) != 0) = false by rw [h]; rfl, qg]
   unfold Qo at h
   generalize l.getD i T2.dflt = s at *
   revert h
   cases (decide (s.1 < (0 : Int)) || decide (s.1 ≥ s.2.1) || decide (s.2.1 > (17179869184 : Int)))
   ·cases (decide (s.2.2.1 < (1 : Int)) || decide (s.2.2.1 > (3 : Int)))
    ·cases (decide (s.2.2.2.1 < (-1 : Int)) || decide (s.2.2.2.1 ≥ (16 : Int)))
     ·cases (decide (s.2.2.2.2 < (0 : Int)) || decide (s.2.2.2.2 > (2048 : Int)))
      ·intro _; rfl
      ·intro h; cases h
     ·intro h; cases h
    ·intro h; cases h
   ·intro h; cases h
  ·rw [bne_iff_ne.2 h, qj, qc h]
   unfold Qo at h ⊢
   generalize l.getD i T2.dflt = s at *
   revert h
   cases (decide (s.1 < (0 : Int)) || decide (s.1 ≥ s.2.1) || decide (s.2.1 > (17179869184 : Int)))
   ·cases (decide (s.2.2.1 < (1 : Int)) || decide (s.2.2.1 > (3 : Int)))
    ·cases (decide (s.2.2.2.1 < (-1 : Int)) || decide (s.2.2.2.1 ≥ (16 : Int)))
     ·cases (decide (s.2.2.2.2 < (0 : Int)) || decide (s.2.2.2.2 > (2048 : Int)))
      ·intro h; exact absurd rfl h
      ·intro _; rfl
     ·intro _; rfl
    ·intro _; rfl
   ·intro _; rfl
theorem qau (k : Nat) (hk : 1200 ≤ k) (l : List wz) : qbt k l = some (vt l) := by
 unfold qbt vt
 by_cases h : l.length > 512
 ·rw [qc h, qw (by omega : (l.length : Int) > 512)]; rfl
 ·rw [qi h, qq (by omega : ¬ (l.length : Int) > 512), qg]
  exact qLK k l (by omega) l.length 0 k (by omega) (by omega) (fun x hx => by simp at hx)
theorem qgu (k : Nat) (hk : 1200 ≤ k) (l : List wz) : qaj k l = vt l := by
 unfold qaj; rw [qau k hk]; rfl
theorem ZK {l : List wz} (h : vt l = 0) : l.length ≤ 512 ∧ (∀ x ∈ l, SecOk x) ∧ ZL 0 0 l = 0 := by
 unfold vt at h
 by_cases h1 : l.length > 512
 ·rw [qc h1] at h; omega
 ·rw [qi h1] at h
  by_cases h2 : W7 l = 0
  ·rw [qi (fun h => h h2)] at h
   exact ⟨by omega, qmU h2, h⟩
  ·rw [qc h2] at h; exact absurd h h2
def wQ (l : List wz) : Int := if l.length = 0 then 0 else (l.getD (l.length - 1) T2.dflt).2.1
theorem qBr (x : wz) {t : List wz} (h : t ≠ []) : wQ (x :: t) = wQ t := by
 obtain ⟨y, t, rfl⟩ : ∃ y u, t = y :: u := by
  cases t with
  | nil => exact absurd rfl h
  | cons y u => exact ⟨y, u, rfl⟩
 unfold wQ
 rw [qi (by simp), qi (by simp)]
 rfl
theorem qDf : ∀ (l : List wz) (e p z : Int), (∀ x ∈ l, SecOk x) → ZL e p l = 0 → l ≠ [] → e ≤ z → z < wQ l → ∃ x ∈ l, x.1 ≤ z ∧ z < x.2.1
 | [], _, _, _, _, _, h, _, _ => absurd rfl h
 | x :: t, e, p, z, ho, h, _, h0, h1 => by
  unfold ZL at h
  cases hb : (x.1 != e || decide (x.2.2.2.2 < p))
  ·rw [hb, qg] at h
   have hx : x.1 = e := by
    have := (v6.1 hb).1
    simpa using this
   by_cases hz : z < x.2.1
   ·exact ⟨x, by simp, by omega, hz⟩
   ·by_cases ht : t = []
    ·subst ht
     have : wQ [x] = x.2.1 := rfl
     omega
    ·rw [qBr x ht] at h1
     obtain ⟨y, hy, a, b⟩ := qDf t x.2.1 x.2.2.2.2 z (fun y hy => ho y (by simp [hy])) h ht (by omega) h1
     exact ⟨y, by simp [hy], a, b⟩
  ·rw [hb] at h; cases h
def qsx (s : Sp) (x : wz) : List wz := if max x.1 s.1 - s.1 < min x.2.1 s.2 - s.1 then [(max x.1 s.1 - s.1, min x.2.1 s.2 - s.1, x.2.2)] else []
def zW (s : Sp) : List wz → List wz
 | [] => []
 | x :: t => qsx s x ++ zW s t
theorem qkL (s : Sp) : ∀ l : List wz, (zW s l).length ≤ l.length
 | [] => qR _
 | x :: t => by
  have := qkL s t
  unfold zW qsx
  rw [qT, wB]
  split <;> simp <;> omega
theorem qod {l : List wz} (h : vt l = 0) {s : Sp} (h0 : 0 ≤ s.1) (h1 : s.1 < s.2) (h2 : s.2 ≤ wQ l) : zW s l ≠ [] := by
 obtain ⟨a, b, c⟩ := ZK h
 have hl : l ≠ [] := fun e => by rw [e] at h2; have : wQ [] = 0 := rfl; omega
 obtain ⟨x, hx, x0, x1⟩ := qDf l 0 0 s.1 b c hl h0 (by omega)
 have : ∀ l : List wz, x ∈ l → zW s l ≠ [] := fun l => by
  induction l with
  | nil => intro h; simp at h
  | cons y t ih =>
   intro hm
   unfold zW
   rcases qK.1 hm with e | hm
   ·subst e
    unfold qsx
    rw [qc (by omega)]; simp
   ·intro e
    exact ih hm (List.append_eq_nil_iff.1 e).2
 exact this l hx
theorem qiC {l : List wz} (hl : l.length ≤ 512) (h0 : l.length ≠ 0) : qa .i64 ((l.length : Int) - 1) = ((l.length - 1 : Nat) : Int) := by
 rw [qm (by omega) (by omega)]; omega
theorem qj2 (k : Nat) {l : List wz} (hl : l.length ≤ 512) : qdY k l = some (wQ l) := by
 unfold qdY wQ
 by_cases h : l.length = 0
 ·rw [qc h, show ((l.length : Int) == 0) = true from beq_iff_eq.2 (by omega), qj]
 ·rw [qi h, show ((l.length : Int) == 0) = false from beq_eq_false_iff_ne.2 (by omega), qg, qiC hl h, qc ⟨by omega, by omega⟩, qe]
theorem qt1 (k : Nat) {l : List wz} (hl : l.length ≤ 512) : qic k l = wQ l := by unfold qic; rw [qj2 k hl]; rfl
theorem qKt (a b : Int) : (if a > b then a else b) = max b a := by split <;> omega
theorem qKu (a b : Int) : (if a < b then a else b) = min b a := by split <;> omega
theorem qsy {s : Sp} (h0 : 0 ≤ s.1) (h1 : s.2 ≤ 17179869184) {x : wz} (ok : SecOk x) : qa .i64 ((if s.1 > x.1 then s.1 else x.1) - s.1) = max x.1 s.1 - s.1 ∧ qa .i64 ((if s.2 < x.2.1 then s.2 else x.2.1) - s.1) = min x.2.1 s.2 - s.1 ∨ s.2 < s.1 := by
 obtain ⟨a, b, c, d⟩ := ok
 by_cases h : s.2 < s.1
 ·exact .inr h
 ·left
  rw [qKt, qKu]
  exact ⟨qm (by omega) (by omega), qm (by omega) (by omega)⟩
theorem qEu (k : Nat) {s : Sp} (h0 : 0 ≤ s.1) (hs : s.1 ≤ s.2) (h1 : s.2 ≤ 17179869184) (l : List wz) (hl : l.length ≤ 512) (ho : ∀ x ∈ l, SecOk x) : ∀ (d i j : Nat) (out : List wz), i + d = l.length → d < j → out.length ≤ i → QD k j l (l.length : Int) (i : Int) s out = some (out ++ zW s (l.drop i), 0) := by
 intro d
 induction d with
 | zero =>
  intro i j out hi hj ho'
  obtain ⟨j, rfl⟩ := qW (by omega : 0 < j)
  rw [QD, qq (by omega : ¬ (i : Int) < (l.length : Int)), qg, qo (by omega), zW, zH]
 | succ d ih =>
  intro i j out hi hj ho'
  obtain ⟨j, rfl⟩ := qW (by omega : 0 < j)
  rcases qsy h0 h1 (ho (l.getD i T2.dflt) (gdm _ _ _ (by omega))) with ⟨e1, e2⟩ | h
  ·rw [QD, qw (by omega : (i : Int) < (l.length : Int)), qj, qc ⟨by omega, by omega⟩, qe, qH i (by omega), e1, e2, qt l i T2.dflt (by omega), zW, qc (by rw [qz]; omega), ih (i + 1) j _ (by omega) (by omega) (by rw [qT, qz]; omega), ih (i + 1) j out (by omega) (by omega) (by omega)]
   unfold qsx
   by_cases h : max (l.getD i T2.dflt).1 s.1 - s.1 < min (l.getD i T2.dflt).2.1 s.2 - s.1
   ·rw [qw h, qj, qc h, qeY]
   ·rw [qq h, qg, qi h, wk]
  ·omega
theorem qhT (k : Nat) (hk : 1200 ≤ k) {l : List wz} (hz : vt l = 0) {s : Sp} (h0 : 0 ≤ s.1) (hs : s.1 ≤ s.2) (h1 : s.2 ≤ 17179869184) (h2 : s.2 ≤ wQ l) : Y5 k l s = some (zW s l, 0) := by
 obtain ⟨hl, ho, _⟩ := ZK hz
 have hp := qEu k h0 hs h1 l hl ho l.length 0 k [] (by omega) (by omega) (by simp)
 unfold Y5
 rw [qbZ k hk, qhS k hk, hz, qd, qc rfl, bne_self_eq_false, qg]
 by_cases h : l.length = 0
 ·have he : wQ l = 0 := by unfold wQ; rw [qc h]
  rw [qq (by omega : ¬ (l.length : Int) > 0), qg, qq (by omega : ¬ s.1 < 0), qq (by omega : ¬ s.1 > s.2), qq (by omega : ¬ s.2 > 0)]
  exact hp
 ·have he : wQ l = (l.getD (l.length - 1) T2.dflt).2.1 := by unfold wQ; rw [qi h]
  rw [qw (by omega : (l.length : Int) > 0), qj, qiC hl h, qc ⟨by omega, by omega⟩, qe, ← he, qq (by omega : ¬ s.1 < 0), qq (by omega : ¬ s.1 > s.2), qq (by omega : ¬ s.2 > wQ l)]
  exact hp
theorem qsD (k : Nat) (hk : 1200 ≤ k) {l : List wz} (hz : vt l = 0) {s : Sp} (h0 : 0 ≤ s.1) (hs : s.1 ≤ s.2) (h1 : s.2 ≤ 17179869184) (h2 : s.2 ≤ wQ l) : wV k l s = (zW s l, 0) := by
 unfold wV; rw [qhT k hk hz h0 hs h1 h2]; rfl
theorem qEt (k : Nat) {s : Sp} (h0 : 0 ≤ s.1) (hs : s.1 ≤ s.2) (h1 : s.2 ≤ 17179869184) (l : List wz) (hl : l.length ≤ 512) (ho : ∀ x ∈ l, SecOk x) : ∀ (d i j : Nat) (out : List wz), i + d = l.length → d < j → out.length ≤ i → Zm k j l (i : Int) s out = some (out ++ zW s (l.drop i), 0) := by
 intro d
 induction d with
 | zero =>
  intro i j out hi hj ho'
  obtain ⟨j, rfl⟩ := qW (by omega : 0 < j)
  rw [Zm, qq (by omega : ¬ (i : Int) < (l.length : Int)), qg, qo (by omega), zW, zH]
 | succ d ih =>
  intro i j out hi hj ho'
  obtain ⟨j, rfl⟩ := qW (by omega : 0 < j)
  rcases qsy h0 h1 (ho (l.getD i T2.dflt) (gdm _ _ _ (by omega))) with ⟨e1, e2⟩ | h
  ·rw [Zm, qw (by omega : (i : Int) < (l.length : Int)), qj, qc ⟨by omega, by omega⟩, qe, qH i (by omega), e1, e2, qt l i T2.dflt (by omega), zW, qc (by rw [qz]; omega), ih (i + 1) j _ (by omega) (by omega) (by rw [qT, qz]; omega), ih (i + 1) j out (by omega) (by omega) (by omega)]
   unfold qsx
   by_cases h : max (l.getD i T2.dflt).1 s.1 - s.1 < min (l.getD i T2.dflt).2.1 s.2 - s.1
   ·rw [qw h, qj, qc h, qeY]
   ·rw [qq h, qg, qi h, wk]
  ·omega
theorem qgw (k : Nat) (hk : 1200 ≤ k) {l : List wz} (hz : vt l = 0) {s : Sp} (h0 : 0 ≤ s.1) (hs : s.1 ≤ s.2) (h1 : s.2 ≤ 17179869184) (h2 : s.2 ≤ wQ l) : qdX k l s = some (zW s l, 0) := by
 obtain ⟨hl, ho, _⟩ := ZK hz
 have hp := qEt k h0 hs h1 l hl ho l.length 0 k [] (by omega) (by omega) (by simp)
 have hc : (decide (s.1 < (0 : Int)) || decide (s.1 > s.2) || decide (s.2 > (17179869184 : Int))) = false := by
  rw [qq (by omega : ¬ s.1 < 0), qq (by omega : ¬ s.1 > s.2), qq (by omega : ¬ s.2 > 17179869184)]; rfl
 unfold qdX
 rw [qau k hk, qgu k hk, hz, qd, qc rfl, bne_self_eq_false, qg, hc, qg, qj2 k hl, qt1 k hl, qc ⟨rfl, rfl⟩, qq (by omega : ¬ s.2 > wQ l)]
 exact hp
theorem qp4 (k : Nat) (hk : 1200 ≤ k) {l : List wz} (hz : vt l = 0) {s : Sp} (h0 : 0 ≤ s.1) (hs : s.1 ≤ s.2) (h1 : s.2 ≤ 17179869184) (h2 : s.2 ≤ wQ l) : Vo k l s = (zW s l, 0) := by
 unfold Vo; rw [qgw k hk hz h0 hs h1 h2]; rfl
end Go.AM
namespace Go.AM
open Go Go.Proofs
noncomputable section
abbrev qlB : Type := List T2.T
def qs8 (r : qlB) : AV := .fn (Fn.func 172) [] [.ptr 0 0 0]
def quf (a : List T2.T) (r : qlB) : List (Nat × Blk) := [(0, .var 24 [ro T2 r])]
abbrev qzm (a : List T2.T) (r : qlB) : Prop := CC Tryz.prog 125 [ro T2 a] [] (qs8 r) (quf a r)
def ql8 (k : Nat) (a : List T2.T) : Option qlB :=
 some a
def qeT := fun k a => (ql8 k a).getD []
def qKf (k : Nat) : Ke := (125, mo 1, fun
 | [.r (.ro d b)], [] => (qC d T2 b).bind fun a => some (.one (qs8 (qeT k a), quf a (qeT k a)))
 | _, _ => none)
theorem qLl (k a r) (h : ql8 k a = some r): qzm a r := qO Tryz.f125 (go (qA []) [] [] [.autoB [2] true []] (gL h))
theorem qJi {k a} (h : (ql8 k a).isSome): qzm a (qeT k a) := qJ h (qLl k a)
abbrev qq1 : Type := List T21.T × List T21.T × Int
def qs6 (r : qq1) : AV := .tup [ro T21 r.1, ro T21 r.2.1, ri r.2.2]
abbrev qzh (a : List T2.T) (b : List I.T) (d : Int) (r : qq1) : Prop := CC Tryz.prog 81 [ro T2 a, ro I b, ri d] [] (qs6 r) (nb r)
def qhi (k : Nat) (a : List T2.T) (b : List I.T) (d : Int) : Option qq1 :=
 if ((Xf k a).isSome) then
 bif (QP k a != (0 : Int)) then
 some ([], [], QP k a)
 else
 bif (decide (d < 1) || decide (d > 17179869184)) then
 some ([], [], 1)
 else
 if ((ql7 k b).isSome) then
 bif (qm2 k b != (0 : Int)) then
 some ([], [], qm2 k b)
 else
 if ((ql8 k a).isSome) then
 if ((ql9 k b d [] [] (qeT k a)).isSome) then
 some ((qii k b d [] [] (qeT k a)).1, (qii k b d [] [] (qeT k a)).2, 0)
 else none
 else none
 else none
 else none
def WP := fun k a b d => (qhi k a b d).getD ([], [], 0)
def qKd (k : Nat) : Ke := (81, mo 3, fun
 | [.r (.ro g e), .r (.ro i f), .r (.v (.int .i64 d))], [] => (qC g T2 e).bind fun a => (qC i I f).bind fun b => some (.one (qs6 (WP k a b d), []))
 | _, _ => none)
theorem qLg (k a b d r) (h : qhi k a b d = some r): qzh a b d r := qO Tryz.f81 (go (qA [qev k, qKe k, qKf k, qnZ k, qKg k]) [] [(15, [.autoB [13, 15, 40, 41, 42] false []])] [.frz 6 false (RTy.list T21), .frz 7 false (RTy.list T21), .autoB [6, 7, 8] true []] (qv h qix fun h => qu h fun h => qu h fun h => qv h qJh fun h => qu h fun h => qv h qJi fun h => qv h qJj fun h => gL h))
theorem quu {k a b d} (h : (qhi k a b d).isSome): qzh a b d (WP k a b d) := qJ h (qLg k a b d)
abbrev qHg (a : T17.T) (r : Bool) : Prop := CC Tryz.prog 11 [.agg (qB (qr T17 a))] [] (rb r) (nb r)
def qFY := fun y0 y1 y2 y3 y4 => (⟨qM 105 [(1, .ptr 1000000 0 0), (3, ri y0), (60, ro T9 y1), (61, ri y2), (62, ri y3)], [(1000000, 0, .var 36 (qB (qr T17 y4)))]⟩ : St)
def qFZ := fun y0 y1 y2 y3 y4 => (⟨qM 105 [(1, .ptr 1000000 0 0), (3, ri y0), (76, ro T11 y1), (77, ri y2), (78, ri y3)], [(1000000, 0, .var 36 (qB (qr T17 y4)))]⟩ : St)
def qEg := fun y0 y1 y2 y3 => (⟨qM 105 [(3, ri y0), (89, ro T5 y1), (90, ri y2), (91, ri y3)], []⟩ : St)
mutual
def Yi (k : Nat) : Nat → Int → List T9.T → Int → Int → T17.T → Option Bool
 | 0, _, _, _, _, _ => none
 | j + 1, y0, y1, y2, y3, y4 =>
 bif y3 < y2 then
 if (0 ≤ y3) ∧ (y3 < y1.length) then
 Yi k j (qx (qx y0 (↑ (qb (y1.getD y3.toNat T9.dflt).2.1) : Int)) (↑ (qb (y1.getD y3.toNat T9.dflt).2.2.1) : Int)) y1 y2 (qa .i64 (y3 + 1)) y4
 else none
 else
 Yj k j y0 y4.2.2.2.2.2.2.2.2.2.2.2.2.2.2.2.2.2.1 (↑ (qb y4.2.2.2.2.2.2.2.2.2.2.2.2.2.2.2.2.2.1) : Int) 0 y4
def Yj (k : Nat) : Nat → Int → List T11.T → Int → Int → T17.T → Option Bool
 | 0, _, _, _, _, _ => none
 | j + 1, y0, y1, y2, y3, y4 =>
 bif y3 < y2 then
 if (0 ≤ y3) ∧ (y3 < y1.length) then
 Yj k j (if (↑ (qb (y1.getD y3.toNat T11.dflt).2.2) : Int) > y0 then (↑ (qb (y1.getD y3.toNat T11.dflt).2.2) : Int) else y0) y1 y2 (qa .i64 (y3 + 1)) y4
 else none
 else
 VP k j y0 y4.2.2.2.2.2.2.2.2.2.2.2.1 (↑ (qb y4.2.2.2.2.2.2.2.2.2.2.2.1) : Int) 0
def VP (k : Nat) : Nat → Int → List T5.T → Int → Int → Option Bool
 | 0, _, _, _, _ => none
 | j + 1, y0, y1, y2, y3 =>
 bif y3 < y2 then
 if (0 ≤ y3) ∧ (y3 < y1.length) then
 VP k j (if qa .i64 (2 * (↑ (qb (y1.getD y3.toNat T5.dflt).2.2.2.2.2) : Int)) > y0 then qa .i64 (2 * (↑ (qb (y1.getD y3.toNat T5.dflt).2.2.2.2.2) : Int)) else y0) y1 y2 (qa .i64 (y3 + 1))
 else none
 else
 some (decide (y0 > 40))
end
def qft (k : Nat) (a : T17.T) : Option Bool :=
 if ((4 : Int) ≠ (0 : Int)) then
 Yi k (k + (qb a.2.2.2.2.2.2.2.2.2.2.2.2.2.2.2.1 + (qb a.2.2.2.2.2.2.2.2.2.2.2.2.2.2.2.2.2.1 + qb a.2.2.2.2.2.2.2.2.2.2.2.1))) (qx (qx (qx (qx (qx (qx (qx (qx (qx (qx (qx (qx (qx (qx (↑ (qb a.2.2.2.2.2.2.2.1) : Int) (↑ (qb a.2.2.2.2.2.2.2.2.2.1) : Int)) (↑ (qb a.2.2.2.2.2.2.2.2.2.2.1) : Int)) (↑ (qb a.2.2.2.2.2.2.2.2.2.2.2.1) : Int)) (↑ (qb a.2.2.2.2.2.2.2.2.2.2.2.2.1) : Int)) (↑ (qb a.2.2.2.2.2.2.2.2.2.2.2.2.2.1) : Int)) (↑ (qb a.2.2.2.2.2.2.2.2.2.2.2.2.2.2.1) : Int)) (qa .i64 ((↑ (qb a.2.2.2.2.2.2.2.2.1) : Int).tdiv 4))) (↑ (qb a.2.2.2.2.2.2.2.2.2.2.2.2.2.2.2.1) : Int)) (↑ (qb a.2.2.2.2.2.2.2.2.2.2.2.2.2.2.2.2.1) : Int)) (↑ (qb a.2.2.2.2.2.2.2.2.2.2.2.2.2.2.2.2.2.1) : Int)) (↑ (qb a.2.2.2.2.2.2.2.2.2.2.2.2.2.2.2.2.2.2.1) : Int)) (↑ (qb a.2.2.2.2.2.2.2.2.2.2.2.2.2.2.2.2.2.2.2.1) : Int)) (↑ (qb a.2.2.2.2.2.2.2.2.2.2.2.2.2.2.2.2.2.2.2.2.1) : Int)) (↑ (qb a.2.2.2.2.2.2.2.2.2.2.2.2.2.2.2.2.2.2.2.2.2) : Int)) a.2.2.2.2.2.2.2.2.2.2.2.2.2.2.2.1 (↑ (qb a.2.2.2.2.2.2.2.2.2.2.2.2.2.2.2.1) : Int) 0 a
 else none
def qm9 := fun k a => (qft k a).getD false
def qOx (k : Nat) : Ke := (11, mo 1, fun
 | [.agg b], [] => (qX [] T17 b).bind fun a => some (.one (rb (qm9 k a), []))
 | _, _ => none)
def qBe : List (Nat × List Cmd) := [(4, [.autoB [1, 3, 60, 61, 62] false []]), (9, [.autoB [1, 3, 76, 77, 78] false []]), (14, [.autoB [3, 89, 90, 91] false []])]
abbrev qwQ := EP Tryz.f11 0 rb nb
theorem qBZ (k) : ∀ j, (∀ {y0 y1 y2 y3 y4}, qwQ 4 (qFY y0 y1 y2 y3 y4) (Yi k j y0 y1 y2 y3 y4)) ∧ (∀ {y0 y1 y2 y3 y4}, qwQ 9 (qFZ y0 y1 y2 y3 y4) (Yj k j y0 y1 y2 y3 y4)) ∧ (∀ {y0 y1 y2 y3}, qwQ 14 (qEg y0 y1 y2 y3) (VP k j y0 y1 y2 y3))
 | 0 => by and_intros <;> intros <;> exact e0
 | j + 1 => by
  have ih := @qBZ k j
  have g := @go (qA []) [] qBe [.autoB [2] true []]
  refine ⟨?_, ?_, ?_⟩
  ·intro y0 y1 y2 y3 y4 r h
   rw [Yi] at h
   exact g (gS h (fun h => qU h fun h => gD h 4 ih.1) fun h => gD h 9 ih.2.1)
  ·intro y0 y1 y2 y3 y4 r h
   rw [Yj] at h
   exact g (gS h (fun h => qU h fun h => gD h 9 ih.2.1) fun h => gD h 14 ih.2.2)
  ·intro y0 y1 y2 y3 r h
   rw [VP] at h
   exact g (gS h (fun h => qU h fun h => gD h 14 ih.2.2) fun h => gL h)
theorem qPY (k a r) (h : qft k a = some r): qHg a r := qO Tryz.f11 (go (qA []) [] qBe [.autoB [2] true []] (qv h id fun h => gD h 4 (qBZ k (k + (qb a.2.2.2.2.2.2.2.2.2.2.2.2.2.2.2.1 + (qb a.2.2.2.2.2.2.2.2.2.2.2.2.2.2.2.2.2.1 + qb a.2.2.2.2.2.2.2.2.2.2.2.1)))).1))
theorem qNx {k a} (h : (qft k a).isSome): qHg a (qm9 k a) := qJ h (qPY k a)
abbrev qy8 (a : T17.T) (r : Int) : Prop := CC Tryz.prog 27 [.agg (qB (qr T17 a))] [] (ri r) (nb r)
def qDG := fun y0 y1 y2 => (⟨qM 95 [(1, .ptr 1000000 0 0), (3, ri y0), (4, ri y1)], [(1000000, 0, .var 36 (qB (qr T17 y2)))]⟩ : St)
def qDH := fun y0 y1 y2 => (⟨qM 95 [(1, .ptr 1000000 0 0), (3, ri y0), (5, ri y1)], [(1000000, 0, .var 36 (qB (qr T17 y2)))]⟩ : St)
mutual
def VF (k : Nat) : Nat → Int → Int → T17.T → Option Int
 | 0, _, _, _ => none
 | j + 1, y0, y1, y2 =>
 bif y1 < (↑ (qb y2.2.2.2.2.2.2.2.2.2.2.2.2.2.2.2.1) : Int) then
 if (0 ≤ y1) ∧ (y1 < (↑ (qb y2.2.2.2.2.2.2.2.2.2.2.2.2.2.2.2.1) : Int)) ∧ (0 ≤ y1) ∧ (y1 < (↑ (qb y2.2.2.2.2.2.2.2.2.2.2.2.2.2.2.2.1) : Int)) then
 VF k j (qx (qx y0 (↑ (qb (qI y2.2.2.2.2.2.2.2.2.2.2.2.2.2.2.2.1 y1.toNat T9.dflt).2.1) : Int)) (↑ (qb (qI y2.2.2.2.2.2.2.2.2.2.2.2.2.2.2.2.1 y1.toNat T9.dflt).2.2.1) : Int)) (qa .i64 (y1 + 1)) y2
 else none
 else
 VG k j y0 0 y2
def VG (k : Nat) : Nat → Int → Int → T17.T → Option Int
 | 0, _, _, _ => none
 | j + 1, y0, y1, y2 =>
 bif y1 < (↑ (qb y2.2.2.2.2.2.2.2.2.2.2.2.2.2.2.2.2.2.1) : Int) then
 if (0 ≤ y1) ∧ (y1 < (↑ (qb y2.2.2.2.2.2.2.2.2.2.2.2.2.2.2.2.2.2.1) : Int)) then
 VG k j (if (↑ (qb (qI y2.2.2.2.2.2.2.2.2.2.2.2.2.2.2.2.2.2.1 y1.toNat T11.dflt).2.2) : Int) > y0 then (↑ (qb (qI y2.2.2.2.2.2.2.2.2.2.2.2.2.2.2.2.2.2.1 y1.toNat T11.dflt).2.2) : Int) else y0) (qa .i64 (y1 + 1)) y2
 else none
 else
 bif y0 > 512 then
 some 8
 else
 some 0
end
def qec (k : Nat) (a : T17.T) : Option Int :=
 VF k k (qx (qx (qx (qx (qx (qx (qx (qx (qx (qx (qx (qx (qx (qx (↑ (qb a.2.2.2.2.2.2.2.1) : Int) (↑ (qb a.2.2.2.2.2.2.2.2.1) : Int)) (↑ (qb a.2.2.2.2.2.2.2.2.2.1) : Int)) (↑ (qb a.2.2.2.2.2.2.2.2.2.2.1) : Int)) (↑ (qb a.2.2.2.2.2.2.2.2.2.2.2.1) : Int)) (↑ (qb a.2.2.2.2.2.2.2.2.2.2.2.2.1) : Int)) (↑ (qb a.2.2.2.2.2.2.2.2.2.2.2.2.2.1) : Int)) (↑ (qb a.2.2.2.2.2.2.2.2.2.2.2.2.2.2.1) : Int)) (↑ (qb a.2.2.2.2.2.2.2.2.2.2.2.2.2.2.2.1) : Int)) (↑ (qb a.2.2.2.2.2.2.2.2.2.2.2.2.2.2.2.2.1) : Int)) (↑ (qb a.2.2.2.2.2.2.2.2.2.2.2.2.2.2.2.2.2.1) : Int)) (↑ (qb a.2.2.2.2.2.2.2.2.2.2.2.2.2.2.2.2.2.2.1) : Int)) (↑ (qb a.2.2.2.2.2.2.2.2.2.2.2.2.2.2.2.2.2.2.2.1) : Int)) (↑ (qb a.2.2.2.2.2.2.2.2.2.2.2.2.2.2.2.2.2.2.2.2.1) : Int)) (↑ (qb a.2.2.2.2.2.2.2.2.2.2.2.2.2.2.2.2.2.2.2.2.2) : Int)) 0 a
def qeQ := fun k a => (qec k a).getD 0
def qJ8 (k : Nat) : Ke := (27, mo 1, fun
 | [.agg b], [] => (qX [] T17 b).bind fun a => some (.one (ri (qeQ k a), []))
 | _, _ => none)
def quU : List (Nat × List Cmd) := [(4, [.autoB [1, 3, 4] false []]), (8, [.autoB [1, 3, 5] false []])]
abbrev qzH := EP Tryz.f27 0 ri nb
theorem qvt (k) : ∀ j, (∀ {y0 y1 y2}, qzH 4 (qDG y0 y1 y2) (VF k j y0 y1 y2)) ∧ (∀ {y0 y1 y2}, qzH 8 (qDH y0 y1 y2) (VG k j y0 y1 y2))
 | 0 => by and_intros <;> intros <;> exact e0
 | j + 1 => by
  have ih := @qvt k j
  have g := @go (qA []) [] quU [.autoB [2] true []]
  refine ⟨?_, ?_⟩
  ·intro y0 y1 y2 r h
   rw [VF] at h
   exact g (gS h (fun h => gN h YW fun h => gD h 4 ih.1) fun h => gD h 8 ih.2)
  ·intro y0 y1 y2 r h
   rw [VG] at h
   exact g (gS h (fun h => qU h fun h => gD h 8 ih.2) fun h => qu h fun h => gL h)
theorem qK7 (k a r) (h : qec k a = some r): qy8 a r := qO Tryz.f27 (go (qA []) [] quU [.autoB [2] true []] (gD h 4 (qvt k k).1))
theorem qI9 {k a} (h : (qec k a).isSome): qy8 a (qeQ k a) := qJ h (qK7 k a)
abbrev qGq (a : T17.T) (r : Bool) : Prop := CC Tryz.prog 74 [.agg (qB (qr T17 a))] [] (rb r) (nb r)
def qFB := fun y0 y1 y2 y3 y4 => (⟨qM 96 [(1, .ptr 1000000 0 0), (3, .own 1000001 0), (57, ro T9 y0), (58, ri y1), (59, ri y2)], [(1000000, 0, .var 36 (qB (qr T17 y3))), (1000001, 0, .row 3 I y4)]⟩ : St)
def qFC := fun y0 y1 y2 y3 => (⟨qM 96 [(3, .own 1000000 0), (74, ro T11 y0), (75, ri y1), (76, ri y2)], [(1000000, 0, .row 3 I y3)]⟩ : St)
def qD7 := fun y0 y1 y2 => (⟨qM 96 [(87, .own 1000000 0), (88, ri y0), (89, ri y1)], [(1000000, 0, .row 3 I y2)]⟩ : St)
mutual
def X6 (k : Nat) : Nat → List T9.T → Int → Int → T17.T → List I.T → Option Bool
 | 0, _, _, _, _, _ => none
 | j + 1, y0, y1, y2, y3, y4 =>
 bif y2 < y1 then
 if (0 ≤ y2) ∧ (y2 < y0.length) then
 if ((y4.length + [(↑ (qb (y0.getD y2.toNat T9.dflt).2.1) : Int), (↑ (qb (y0.getD y2.toNat T9.dflt).2.2.1) : Int)].length) * (8 : Nat) ≤ (140737488355328 : Nat)) then
 X6 k j y0 y1 (qa .i64 (y2 + 1)) y3 (y4 ++ [(↑ (qb (y0.getD y2.toNat T9.dflt).2.1) : Int), (↑ (qb (y0.getD y2.toNat T9.dflt).2.2.1) : Int)])
 else none
 else none
 else
 X7 k j y3.2.2.2.2.2.2.2.2.2.2.2.2.2.2.2.2.2.1 (↑ (qb y3.2.2.2.2.2.2.2.2.2.2.2.2.2.2.2.2.2.1) : Int) 0 y4
def X7 (k : Nat) : Nat → List T11.T → Int → Int → List I.T → Option Bool
 | 0, _, _, _, _ => none
 | j + 1, y0, y1, y2, y3 =>
 bif y2 < y1 then
 if (0 ≤ y2) ∧ (y2 < y0.length) then
 if ((y3.length + [(↑ (qb (y0.getD y2.toNat T11.dflt).2.2) : Int)].length) * (8 : Nat) ≤ (140737488355328 : Nat)) then
 X7 k j y0 y1 (qa .i64 (y2 + 1)) (y3 ++ [(↑ (qb (y0.getD y2.toNat T11.dflt).2.2) : Int)])
 else none
 else none
 else
 VO k j (↑y3.length : Int) 0 y3
def VO (k : Nat) : Nat → Int → Int → List I.T → Option Bool
 | 0, _, _, _ => none
 | j + 1, y0, y1, y2 =>
 bif y1 < y0 then
 if (0 ≤ y1) ∧ (y1 < y2.length) then
 bif y2.getD y1.toNat I.dflt > (512 : Int) then
 some true
 else
 VO k j y0 (qa .i64 (y1 + 1)) y2
 else none
 else
 some false
end
def qaI (k : Nat) (a : T17.T) : Option Bool :=
 X6 k k a.2.2.2.2.2.2.2.2.2.2.2.2.2.2.2.1 (↑ (qb a.2.2.2.2.2.2.2.2.2.2.2.2.2.2.2.1) : Int) 0 a ([(↑ (qb a.2.2.2.2.2.2.2.1) : Int), (↑ (qb a.2.2.2.2.2.2.2.2.1) : Int), (↑ (qb a.2.2.2.2.2.2.2.2.2.1) : Int), (↑ (qb a.2.2.2.2.2.2.2.2.2.2.1) : Int), (↑ (qb a.2.2.2.2.2.2.2.2.2.2.2.1) : Int), (↑ (qb a.2.2.2.2.2.2.2.2.2.2.2.2.1) : Int), (↑ (qb a.2.2.2.2.2.2.2.2.2.2.2.2.2.1) : Int), (↑ (qb a.2.2.2.2.2.2.2.2.2.2.2.2.2.2.1) : Int), (↑ (qb a.2.2.2.2.2.2.2.2.2.2.2.2.2.2.2.1) : Int), (↑ (qb a.2.2.2.2.2.2.2.2.2.2.2.2.2.2.2.2.1) : Int), (↑ (qb a.2.2.2.2.2.2.2.2.2.2.2.2.2.2.2.2.2.1) : Int), (↑ (qb a.2.2.2.2.2.2.2.2.2.2.2.2.2.2.2.2.2.2.1) : Int), (↑ (qb a.2.2.2.2.2.2.2.2.2.2.2.2.2.2.2.2.2.2.2.1) : Int), (↑ (qb a.2.2.2.2.2.2.2.2.2.2.2.2.2.2.2.2.2.2.2.2.1) : Int), (↑ (qb a.2.2.2.2.2.2.2.2.2.2.2.2.2.2.2.2.2.2.2.2.2) : Int)])
def qcW := fun k a => (qaI k a).getD false
def qmB (k : Nat) : Ke := (74, mo 1, fun
 | [.agg b], [] => (qX [] T17 b).bind fun a => some (.one (rb (qcW k a), []))
 | _, _ => none)
def qAO : List (Nat × List Cmd) := [(3, [.autoB [1, 3, 57, 58, 59] false []]), (8, [.autoB [3, 74, 75, 76] false []]), (13, [.autoB [87, 88, 89] false []])]
abbrev qwO := EP Tryz.f74 0 rb nb
theorem qBA (k) : ∀ j, (∀ {y0 y1 y2 y3 y4}, qwO 3 (qFB y0 y1 y2 y3 y4) (X6 k j y0 y1 y2 y3 y4)) ∧ (∀ {y0 y1 y2 y3}, qwO 8 (qFC y0 y1 y2 y3) (X7 k j y0 y1 y2 y3)) ∧ (∀ {y0 y1 y2}, qwO 13 (qD7 y0 y1 y2) (VO k j y0 y1 y2))
 | 0 => by and_intros <;> intros <;> exact e0
 | j + 1 => by
  have ih := @qBA k j
  have g := @go (qA []) [] qAO [.autoB [2] true []]
  refine ⟨?_, ?_, ?_⟩
  ·intro y0 y1 y2 y3 y4 r h
   rw [X6] at h
   exact g (gS h (fun h => qU h fun h => qv h id fun h => gD h 3 ih.1) fun h => gD h 8 ih.2.1)
  ·intro y0 y1 y2 y3 r h
   rw [X7] at h
   exact g (gS h (fun h => qU h fun h => qv h id fun h => gD h 8 ih.2.1) fun h => gD h 13 ih.2.2)
  ·intro y0 y1 y2 r h
   rw [VO] at h
   exact g (gS h (fun h => qU h fun h => qu h fun h => gD h 13 ih.2.2) fun h => gL h)
theorem qO3 (k a r) (h : qaI k a = some r): qGq a r := qO Tryz.f74 (go (qA []) [] qAO [.autoB [2] true []] (gD h 3 (qBA k k).1))
theorem qlW {k a} (h : (qaI k a).isSome): qGq a (qcW k a) := qJ h (qO3 k a)
end
theorem Q5 (a b : Int) : a ≤ qx a b := by unfold qx; split <;> omega
theorem Q6 (a b : Int) : b ≤ qx a b := by unfold qx; split <;> omega
theorem qrY {a b c : Int} (h1 : a ≤ c) (h2 : b ≤ c) : qx a b ≤ c := by unfold qx; split <;> omega
structure GB (b : T17.T) : Prop where
 bGrades : b.2.2.2.2.2.2.2.1.length ≤ 40
 bSections : b.2.2.2.2.2.2.2.2.2.1.length ≤ 40
 bTurns : b.2.2.2.2.2.2.2.2.2.2.1.length ≤ 40
 bRolls : b.2.2.2.2.2.2.2.2.2.2.2.1.length ≤ 40
 bUsed : b.2.2.2.2.2.2.2.2.2.2.2.2.1.length ≤ 40
 bScrapped : b.2.2.2.2.2.2.2.2.2.2.2.2.2.1.length ≤ 40
 bSpots : b.2.2.2.2.2.2.2.2.2.2.2.2.2.2.1.length ≤ 40
 bOrders : b.2.2.2.2.2.2.2.2.2.2.2.2.2.2.2.1.length ≤ 40
 bWaivers : b.2.2.2.2.2.2.2.2.2.2.2.2.2.2.2.2.1.length ≤ 40
 bShipments : b.2.2.2.2.2.2.2.2.2.2.2.2.2.2.2.2.2.1.length ≤ 40
 bClaims : b.2.2.2.2.2.2.2.2.2.2.2.2.2.2.2.2.2.2.1.length ≤ 40
 bCredits : b.2.2.2.2.2.2.2.2.2.2.2.2.2.2.2.2.2.2.2.1.length ≤ 40
 bBroke : b.2.2.2.2.2.2.2.2.2.2.2.2.2.2.2.2.2.2.2.2.1.length ≤ 40
 bPostings : b.2.2.2.2.2.2.2.2.2.2.2.2.2.2.2.2.2.2.2.2.2.length ≤ 40
 supp : b.2.2.2.2.2.2.2.2.1.length ≤ 200
 ord : ∀ x ∈ b.2.2.2.2.2.2.2.2.2.2.2.2.2.2.2.1, x.2.1.length ≤ 40 ∧ x.2.2.1.length ≤ 40
 shp : ∀ x ∈ b.2.2.2.2.2.2.2.2.2.2.2.2.2.2.2.2.2.1, x.2.2.length ≤ 40
theorem qEZ (k : Nat) (l : List T5.T) (hl : l.length ≤ 140737488351232) : ∀ (d i j : Nat) (y : Int), i + d = l.length → d < j →
  ∃ n : Int, VP k j y l (l.length : Int) (i : Int) = some (decide (n > 40)) ∧ y ≤ n := by
 intro d
 induction d with
 | zero =>
  intro i j y hi hj
  obtain ⟨j, rfl⟩ := qW (by omega : 0 < j)
  refine ⟨y, ?_, V6 _⟩
  rw [VP, qq (by omega : ¬ (i : Int) < (l.length : Int)), qg]
 | succ d ih =>
  intro i j y hi hj
  obtain ⟨j, rfl⟩ := qW (by omega : 0 < j)
  rw [VP, qw (by omega : (i : Int) < (l.length : Int)), qj, qc ⟨by omega, by omega⟩, qH i (by omega)]
  generalize qa .i64 (2 * _) = z
  obtain ⟨n, h1, h2⟩ := ih (i + 1) j (if z > y then z else y) (by omega) (by omega)
  refine ⟨n, h1, ?_⟩
  revert h2
  split <;> omega
theorem qJH (k : Nat) (b : T17.T) (hr : b.2.2.2.2.2.2.2.2.2.2.2.1.length ≤ 140737488351232) (l : List T11.T) (hl : l.length ≤ 140737488351232) : ∀ (d i j : Nat) (y : Int), i + d = l.length → d + 1 + b.2.2.2.2.2.2.2.2.2.2.2.1.length < j →
  ∃ n : Int, Yj k j y l (l.length : Int) (i : Int) b = some (decide (n > 40)) ∧ y ≤ n ∧ ∀ x ∈ l.drop i, (x.2.2.length : Int) ≤ n := by
 intro d
 induction d with
 | zero =>
  intro i j y hi hj
  obtain ⟨j, rfl⟩ := qW (by omega : 0 < j)
  rw [Yj, qq (by omega : ¬ (i : Int) < (l.length : Int)), qg, qo (by omega)]
  obtain ⟨n, h1, h2⟩ := qEZ k (b.2.2.2.2.2.2.2.2.2.2.2.1) hr (b.2.2.2.2.2.2.2.2.2.2.2.1.length) 0 j y (by omega) (by omega)
  exact ⟨n, h1, h2, fun x hx => by simp at hx⟩
 | succ d ih =>
  intro i j y hi hj
  obtain ⟨j, rfl⟩ := qW (by omega : 0 < j)
  rw [Yj, qw (by omega : (i : Int) < (l.length : Int)), qj, qc ⟨by omega, by omega⟩, qH i (by omega), qe, qt l i T11.dflt (by omega)]
  obtain ⟨n, h1, h2, h3⟩ := ih (i + 1) j (if ((l.getD i T11.dflt).2.2.length : Int) > y then ((l.getD i T11.dflt).2.2.length : Int) else y) (by omega) (by omega)
  refine ⟨n, h1, ?_, fun x hx => ?_⟩
  ·revert h2; split <;> omega
  ·rcases qK.1 hx with e | hx
   ·rw [e]; revert h2; split <;> omega
   ·exact h3 x hx
theorem qJG (k : Nat) (b : T17.T) (hr : b.2.2.2.2.2.2.2.2.2.2.2.1.length ≤ 140737488351232) (hs : b.2.2.2.2.2.2.2.2.2.2.2.2.2.2.2.2.2.1.length ≤ 140737488351232) (l : List T9.T) (hl : l.length ≤ 140737488351232) : ∀ (d i j : Nat) (y : Int), i + d = l.length → d + 2 + (b.2.2.2.2.2.2.2.2.2.2.2.2.2.2.2.2.2.1.length + b.2.2.2.2.2.2.2.2.2.2.2.1.length) < j →
  ∃ n : Int, Yi k j y l (l.length : Int) (i : Int) b = some (decide (n > 40)) ∧ y ≤ n ∧ (∀ x ∈ b.2.2.2.2.2.2.2.2.2.2.2.2.2.2.2.2.2.1, (x.2.2.length : Int) ≤ n) ∧ ∀ x ∈ l.drop i, (x.2.1.length : Int) ≤ n ∧ (x.2.2.1.length : Int) ≤ n := by
 intro d
 induction d with
 | zero =>
  intro i j y hi hj
  obtain ⟨j, rfl⟩ := qW (by omega : 0 < j)
  rw [Yi, qq (by omega : ¬ (i : Int) < (l.length : Int)), qg, qo (by omega)]
  obtain ⟨n, h1, h2, h3⟩ := qJH k b hr (b.2.2.2.2.2.2.2.2.2.2.2.2.2.2.2.2.2.1) hs (b.2.2.2.2.2.2.2.2.2.2.2.2.2.2.2.2.2.1.length) 0 j y (by omega) (by omega)
  rw [wv] at h3
  exact ⟨n, h1, h2, h3, fun x hx => by simp at hx⟩
 | succ d ih =>
  intro i j y hi hj
  obtain ⟨j, rfl⟩ := qW (by omega : 0 < j)
  rw [Yi, qw (by omega : (i : Int) < (l.length : Int)), qj, qc ⟨by omega, by omega⟩, qH i (by omega), qe, qt l i T9.dflt (by omega)]
  obtain ⟨n, h1, h2, h3, h4⟩ := ih (i + 1) j (qx (qx y ((l.getD i T9.dflt).2.1.length : Int)) ((l.getD i T9.dflt).2.2.1.length : Int)) (by omega) (by omega)
  have a1 := Q5 (qx y ((l.getD i T9.dflt).2.1.length : Int)) ((l.getD i T9.dflt).2.2.1.length : Int)
  have a2 := Q6 (qx y ((l.getD i T9.dflt).2.1.length : Int)) ((l.getD i T9.dflt).2.2.1.length : Int)
  have a3 := Q5 y ((l.getD i T9.dflt).2.1.length : Int)
  have a4 := Q6 y ((l.getD i T9.dflt).2.1.length : Int)
  refine ⟨n, h1, by omega, h3, fun x hx => ?_⟩
  rcases qK.1 hx with e | hx
  ·rw [e]; exact ⟨by omega, by omega⟩
  ·exact h4 x hx
theorem qJI (k : Nat) (hk : 100 ≤ k) (b : T17.T) (h1 : b.2.2.2.2.2.2.2.2.2.2.2.2.2.2.2.1.length ≤ 140737488351232) (h2 : b.2.2.2.2.2.2.2.2.2.2.2.2.2.2.2.2.2.1.length ≤ 140737488351232) (h3 : b.2.2.2.2.2.2.2.2.2.2.2.1.length ≤ 140737488351232) (h4 : b.2.2.2.2.2.2.2.2.1.length ≤ 140737488351232) :
  ∃ r : Bool, qft k b = some r ∧ (r = false → GB b) := by
 unfold qft
 rw [qc (by decide)]
 have hw : qa .i64 (((b.2.2.2.2.2.2.2.2.1.length : Nat) : Int).tdiv 4) = ((b.2.2.2.2.2.2.2.2.1.length : Nat) : Int) / 4 := by
  rw [Int.tdiv_eq_ediv_of_nonneg (by omega)]; exact qm (by omega) (by omega)
 obtain ⟨n, g1, g2, g3, g4⟩ := qJG k b h3 h2 (b.2.2.2.2.2.2.2.2.2.2.2.2.2.2.2.1) h1 (b.2.2.2.2.2.2.2.2.2.2.2.2.2.2.2.1.length) 0 (k + (b.2.2.2.2.2.2.2.2.2.2.2.2.2.2.2.1.length + (b.2.2.2.2.2.2.2.2.2.2.2.2.2.2.2.2.2.1.length + b.2.2.2.2.2.2.2.2.2.2.2.1.length))) (qx (qx (qx (qx (qx (qx (qx (qx (qx (qx (qx (qx (qx (qx (((b.2.2.2.2.2.2.2.1.length : Nat) : Int)) (((b.2.2.2.2.2.2.2.2.2.1.length : Nat) : Int))) (((b.2.2.2.2.2.2.2.2.2.2.1.length : Nat) : Int))) (((b.2.2.2.2.2.2.2.2.2.2.2.1.length : Nat) : Int))) (((b.2.2.2.2.2.2.2.2.2.2.2.2.1.length : Nat) : Int))) (((b.2.2.2.2.2.2.2.2.2.2.2.2.2.1.length : Nat) : Int))) (((b.2.2.2.2.2.2.2.2.2.2.2.2.2.2.1.length : Nat) : Int))) (qa .i64 (((b.2.2.2.2.2.2.2.2.1.length : Nat) : Int).tdiv 4))) (((b.2.2.2.2.2.2.2.2.2.2.2.2.2.2.2.1.length : Nat) : Int))) (((b.2.2.2.2.2.2.2.2.2.2.2.2.2.2.2.2.1.length : Nat) : Int))) (((b.2.2.2.2.2.2.2.2.2.2.2.2.2.2.2.2.2.1.length : Nat) : Int))) (((b.2.2.2.2.2.2.2.2.2.2.2.2.2.2.2.2.2.2.1.length : Nat) : Int))) (((b.2.2.2.2.2.2.2.2.2.2.2.2.2.2.2.2.2.2.2.1.length : Nat) : Int))) (((b.2.2.2.2.2.2.2.2.2.2.2.2.2.2.2.2.2.2.2.2.1.length : Nat) : Int))) (((b.2.2.2.2.2.2.2.2.2.2.2.2.2.2.2.2.2.2.2.2.2.length : Nat) : Int))) (by omega) (by omega)
 rw [wv] at g4
 refine ⟨_, g1, fun hr => ?_⟩
 have hn : n ≤ 40 := by
  have := of_decide_eq_false hr
  omega
 have p1 := Q5 (((b.2.2.2.2.2.2.2.1.length : Nat) : Int)) (((b.2.2.2.2.2.2.2.2.2.1.length : Nat) : Int))
 have e1 := Q6 (((b.2.2.2.2.2.2.2.1.length : Nat) : Int)) (((b.2.2.2.2.2.2.2.2.2.1.length : Nat) : Int))
 have p2 := Q5 (qx (((b.2.2.2.2.2.2.2.1.length : Nat) : Int)) (((b.2.2.2.2.2.2.2.2.2.1.length : Nat) : Int))) (((b.2.2.2.2.2.2.2.2.2.2.1.length : Nat) : Int))
 have e2 := Q6 (qx (((b.2.2.2.2.2.2.2.1.length : Nat) : Int)) (((b.2.2.2.2.2.2.2.2.2.1.length : Nat) : Int))) (((b.2.2.2.2.2.2.2.2.2.2.1.length : Nat) : Int))
 have p3 := Q5 (qx (qx (((b.2.2.2.2.2.2.2.1.length : Nat) : Int)) (((b.2.2.2.2.2.2.2.2.2.1.length : Nat) : Int))) (((b.2.2.2.2.2.2.2.2.2.2.1.length : Nat) : Int))) (((b.2.2.2.2.2.2.2.2.2.2.2.1.length : Nat) : Int))
 have e3 := Q6 (qx (qx (((b.2.2.2.2.2.2.2.1.length : Nat) : Int)) (((b.2.2.2.2.2.2.2.2.2.1.length : Nat) : Int))) (((b.2.2.2.2.2.2.2.2.2.2.1.length : Nat) : Int))) (((b.2.2.2.2.2.2.2.2.2.2.2.1.length : Nat) : Int))
 have p4 := Q5 (qx (qx (qx (((b.2.2.2.2.2.2.2.1.length : Nat) : Int)) (((b.2.2.2.2.2.2.2.2.2.1.length : Nat) : Int))) (((b.2.2.2.2.2.2.2.2.2.2.1.length : Nat) : Int))) (((b.2.2.2.2.2.2.2.2.2.2.2.1.length : Nat) : Int))) (((b.2.2.2.2.2.2.2.2.2.2.2.2.1.length : Nat) : Int))
 have e4 := Q6 (qx (qx (qx (((b.2.2.2.2.2.2.2.1.length : Nat) : Int)) (((b.2.2.2.2.2.2.2.2.2.1.length : Nat) : Int))) (((b.2.2.2.2.2.2.2.2.2.2.1.length : Nat) : Int))) (((b.2.2.2.2.2.2.2.2.2.2.2.1.length : Nat) : Int))) (((b.2.2.2.2.2.2.2.2.2.2.2.2.1.length : Nat) : Int))
 have p5 := Q5 (qx (qx (qx (qx (((b.2.2.2.2.2.2.2.1.length : Nat) : Int)) (((b.2.2.2.2.2.2.2.2.2.1.length : Nat) : Int))) (((b.2.2.2.2.2.2.2.2.2.2.1.length : Nat) : Int))) (((b.2.2.2.2.2.2.2.2.2.2.2.1.length : Nat) : Int))) (((b.2.2.2.2.2.2.2.2.2.2.2.2.1.length : Nat) : Int))) (((b.2.2.2.2.2.2.2.2.2.2.2.2.2.1.length : Nat) : Int))
 have e5 := Q6 (qx (qx (qx (qx (((b.2.2.2.2.2.2.2.1.length : Nat) : Int)) (((b.2.2.2.2.2.2.2.2.2.1.length : Nat) : Int))) (((b.2.2.2.2.2.2.2.2.2.2.1.length : Nat) : Int))) (((b.2.2.2.2.2.2.2.2.2.2.2.1.length : Nat) : Int))) (((b.2.2.2.2.2.2.2.2.2.2.2.2.1.length : Nat) : Int))) (((b.2.2.2.2.2.2.2.2.2.2.2.2.2.1.length : Nat) : Int))
 have p6 := Q5 (qx (qx (qx (qx (qx (((b.2.2.2.2.2.2.2.1.length : Nat) : Int)) (((b.2.2.2.2.2.2.2.2.2.1.length : Nat) : Int))) (((b.2.2.2.2.2.2.2.2.2.2.1.length : Nat) : Int))) (((b.2.2.2.2.2.2.2.2.2.2.2.1.length : Nat) : Int))) (((b.2.2.2.2.2.2.2.2.2.2.2.2.1.length : Nat) : Int))) (((b.2.2.2.2.2.2.2.2.2.2.2.2.2.1.length : Nat) : Int))) (((b.2.2.2.2.2.2.2.2.2.2.2.2.2.2.1.length : Nat) : Int))
 have e6 := Q6 (qx (qx (qx (qx (qx (((b.2.2.2.2.2.2.2.1.length : Nat) : Int)) (((b.2.2.2.2.2.2.2.2.2.1.length : Nat) : Int))) (((b.2.2.2.2.2.2.2.2.2.2.1.length : Nat) : Int))) (((b.2.2.2.2.2.2.2.2.2.2.2.1.length : Nat) : Int))) (((b.2.2.2.2.2.2.2.2.2.2.2.2.1.length : Nat) : Int))) (((b.2.2.2.2.2.2.2.2.2.2.2.2.2.1.length : Nat) : Int))) (((b.2.2.2.2.2.2.2.2.2.2.2.2.2.2.1.length : Nat) : Int))
 have p7 := Q5 (qx (qx (qx (qx (qx (qx (((b.2.2.2.2.2.2.2.1.length : Nat) : Int)) (((b.2.2.2.2.2.2.2.2.2.1.length : Nat) : Int))) (((b.2.2.2.2.2.2.2.2.2.2.1.length : Nat) : Int))) (((b.2.2.2.2.2.2.2.2.2.2.2.1.length : Nat) : Int))) (((b.2.2.2.2.2.2.2.2.2.2.2.2.1.length : Nat) : Int))) (((b.2.2.2.2.2.2.2.2.2.2.2.2.2.1.length : Nat) : Int))) (((b.2.2.2.2.2.2.2.2.2.2.2.2.2.2.1.length : Nat) : Int))) (qa .i64 (((b.2.2.2.2.2.2.2.2.1.length : Nat) : Int).tdiv 4))
 have e7 := Q6 (qx (qx (qx (qx (qx (qx (((b.2.2.2.2.2.2.2.1.length : Nat) : Int)) (((b.2.2.2.2.2.2.2.2.2.1.length : Nat) : Int))) (((b.2.2.2.2.2.2.2.2.2.2.1.length : Nat) : Int))) (((b.2.2.2.2.2.2.2.2.2.2.2.1.length : Nat) : Int))) (((b.2.2.2.2.2.2.2.2.2.2.2.2.1.length : Nat) : Int))) (((b.2.2.2.2.2.2.2.2.2.2.2.2.2.1.length : Nat) : Int))) (((b.2.2.2.2.2.2.2.2.2.2.2.2.2.2.1.length : Nat) : Int))) (qa .i64 (((b.2.2.2.2.2.2.2.2.1.length : Nat) : Int).tdiv 4))
 have p8 := Q5 (qx (qx (qx (qx (qx (qx (qx (((b.2.2.2.2.2.2.2.1.length : Nat) : Int)) (((b.2.2.2.2.2.2.2.2.2.1.length : Nat) : Int))) (((b.2.2.2.2.2.2.2.2.2.2.1.length : Nat) : Int))) (((b.2.2.2.2.2.2.2.2.2.2.2.1.length : Nat) : Int))) (((b.2.2.2.2.2.2.2.2.2.2.2.2.1.length : Nat) : Int))) (((b.2.2.2.2.2.2.2.2.2.2.2.2.2.1.length : Nat) : Int))) (((b.2.2.2.2.2.2.2.2.2.2.2.2.2.2.1.length : Nat) : Int))) (qa .i64 (((b.2.2.2.2.2.2.2.2.1.length : Nat) : Int).tdiv 4))) (((b.2.2.2.2.2.2.2.2.2.2.2.2.2.2.2.1.length : Nat) : Int))
 have e8 := Q6 (qx (qx (qx (qx (qx (qx (qx (((b.2.2.2.2.2.2.2.1.length : Nat) : Int)) (((b.2.2.2.2.2.2.2.2.2.1.length : Nat) : Int))) (((b.2.2.2.2.2.2.2.2.2.2.1.length : Nat) : Int))) (((b.2.2.2.2.2.2.2.2.2.2.2.1.length : Nat) : Int))) (((b.2.2.2.2.2.2.2.2.2.2.2.2.1.length : Nat) : Int))) (((b.2.2.2.2.2.2.2.2.2.2.2.2.2.1.length : Nat) : Int))) (((b.2.2.2.2.2.2.2.2.2.2.2.2.2.2.1.length : Nat) : Int))) (qa .i64 (((b.2.2.2.2.2.2.2.2.1.length : Nat) : Int).tdiv 4))) (((b.2.2.2.2.2.2.2.2.2.2.2.2.2.2.2.1.length : Nat) : Int))
 have p9 := Q5 (qx (qx (qx (qx (qx (qx (qx (qx (((b.2.2.2.2.2.2.2.1.length : Nat) : Int)) (((b.2.2.2.2.2.2.2.2.2.1.length : Nat) : Int))) (((b.2.2.2.2.2.2.2.2.2.2.1.length : Nat) : Int))) (((b.2.2.2.2.2.2.2.2.2.2.2.1.length : Nat) : Int))) (((b.2.2.2.2.2.2.2.2.2.2.2.2.1.length : Nat) : Int))) (((b.2.2.2.2.2.2.2.2.2.2.2.2.2.1.length : Nat) : Int))) (((b.2.2.2.2.2.2.2.2.2.2.2.2.2.2.1.length : Nat) : Int))) (qa .i64 (((b.2.2.2.2.2.2.2.2.1.length : Nat) : Int).tdiv 4))) (((b.2.2.2.2.2.2.2.2.2.2.2.2.2.2.2.1.length : Nat) : Int))) (((b.2.2.2.2.2.2.2.2.2.2.2.2.2.2.2.2.1.length : Nat) : Int))
 have e9 := Q6 (qx (qx (qx (qx (qx (qx (qx (qx (((b.2.2.2.2.2.2.2.1.length : Nat) : Int)) (((b.2.2.2.2.2.2.2.2.2.1.length : Nat) : Int))) (((b.2.2.2.2.2.2.2.2.2.2.1.length : Nat) : Int))) (((b.2.2.2.2.2.2.2.2.2.2.2.1.length : Nat) : Int))) (((b.2.2.2.2.2.2.2.2.2.2.2.2.1.length : Nat) : Int))) (((b.2.2.2.2.2.2.2.2.2.2.2.2.2.1.length : Nat) : Int))) (((b.2.2.2.2.2.2.2.2.2.2.2.2.2.2.1.length : Nat) : Int))) (qa .i64 (((b.2.2.2.2.2.2.2.2.1.length : Nat) : Int).tdiv 4))) (((b.2.2.2.2.2.2.2.2.2.2.2.2.2.2.2.1.length : Nat) : Int))) (((b.2.2.2.2.2.2.2.2.2.2.2.2.2.2.2.2.1.length : Nat) : Int))
 have p10 := Q5 (qx (qx (qx (qx (qx (qx (qx (qx (qx (((b.2.2.2.2.2.2.2.1.length : Nat) : Int)) (((b.2.2.2.2.2.2.2.2.2.1.length : Nat) : Int))) (((b.2.2.2.2.2.2.2.2.2.2.1.length : Nat) : Int))) (((b.2.2.2.2.2.2.2.2.2.2.2.1.length : Nat) : Int))) (((b.2.2.2.2.2.2.2.2.2.2.2.2.1.length : Nat) : Int))) (((b.2.2.2.2.2.2.2.2.2.2.2.2.2.1.length : Nat) : Int))) (((b.2.2.2.2.2.2.2.2.2.2.2.2.2.2.1.length : Nat) : Int))) (qa .i64 (((b.2.2.2.2.2.2.2.2.1.length : Nat) : Int).tdiv 4))) (((b.2.2.2.2.2.2.2.2.2.2.2.2.2.2.2.1.length : Nat) : Int))) (((b.2.2.2.2.2.2.2.2.2.2.2.2.2.2.2.2.1.length : Nat) : Int))) (((b.2.2.2.2.2.2.2.2.2.2.2.2.2.2.2.2.2.1.length : Nat) : Int))
 have e10 := Q6 (qx (qx (qx (qx (qx (qx (qx (qx (qx (((b.2.2.2.2.2.2.2.1.length : Nat) : Int)) (((b.2.2.2.2.2.2.2.2.2.1.length : Nat) : Int))) (((b.2.2.2.2.2.2.2.2.2.2.1.length : Nat) : Int))) (((b.2.2.2.2.2.2.2.2.2.2.2.1.length : Nat) : Int))) (((b.2.2.2.2.2.2.2.2.2.2.2.2.1.length : Nat) : Int))) (((b.2.2.2.2.2.2.2.2.2.2.2.2.2.1.length : Nat) : Int))) (((b.2.2.2.2.2.2.2.2.2.2.2.2.2.2.1.length : Nat) : Int))) (qa .i64 (((b.2.2.2.2.2.2.2.2.1.length : Nat) : Int).tdiv 4))) (((b.2.2.2.2.2.2.2.2.2.2.2.2.2.2.2.1.length : Nat) : Int))) (((b.2.2.2.2.2.2.2.2.2.2.2.2.2.2.2.2.1.length : Nat) : Int))) (((b.2.2.2.2.2.2.2.2.2.2.2.2.2.2.2.2.2.1.length : Nat) : Int))
 have p11 := Q5 (qx (qx (qx (qx (qx (qx (qx (qx (qx (qx (((b.2.2.2.2.2.2.2.1.length : Nat) : Int)) (((b.2.2.2.2.2.2.2.2.2.1.length : Nat) : Int))) (((b.2.2.2.2.2.2.2.2.2.2.1.length : Nat) : Int))) (((b.2.2.2.2.2.2.2.2.2.2.2.1.length : Nat) : Int))) (((b.2.2.2.2.2.2.2.2.2.2.2.2.1.length : Nat) : Int))) (((b.2.2.2.2.2.2.2.2.2.2.2.2.2.1.length : Nat) : Int))) (((b.2.2.2.2.2.2.2.2.2.2.2.2.2.2.1.length : Nat) : Int))) (qa .i64 (((b.2.2.2.2.2.2.2.2.1.length : Nat) : Int).tdiv 4))) (((b.2.2.2.2.2.2.2.2.2.2.2.2.2.2.2.1.length : Nat) : Int))) (((b.2.2.2.2.2.2.2.2.2.2.2.2.2.2.2.2.1.length : Nat) : Int))) (((b.2.2.2.2.2.2.2.2.2.2.2.2.2.2.2.2.2.1.length : Nat) : Int))) (((b.2.2.2.2.2.2.2.2.2.2.2.2.2.2.2.2.2.2.1.length : Nat) : Int))
 have e11 := Q6 (qx (qx (qx (qx (qx (qx (qx (qx (qx (qx (((b.2.2.2.2.2.2.2.1.length : Nat) : Int)) (((b.2.2.2.2.2.2.2.2.2.1.length : Nat) : Int))) (((b.2.2.2.2.2.2.2.2.2.2.1.length : Nat) : Int))) (((b.2.2.2.2.2.2.2.2.2.2.2.1.length : Nat) : Int))) (((b.2.2.2.2.2.2.2.2.2.2.2.2.1.length : Nat) : Int))) (((b.2.2.2.2.2.2.2.2.2.2.2.2.2.1.length : Nat) : Int))) (((b.2.2.2.2.2.2.2.2.2.2.2.2.2.2.1.length : Nat) : Int))) (qa .i64 (((b.2.2.2.2.2.2.2.2.1.length : Nat) : Int).tdiv 4))) (((b.2.2.2.2.2.2.2.2.2.2.2.2.2.2.2.1.length : Nat) : Int))) (((b.2.2.2.2.2.2.2.2.2.2.2.2.2.2.2.2.1.length : Nat) : Int))) (((b.2.2.2.2.2.2.2.2.2.2.2.2.2.2.2.2.2.1.length : Nat) : Int))) (((b.2.2.2.2.2.2.2.2.2.2.2.2.2.2.2.2.2.2.1.length : Nat) : Int))
 have p12 := Q5 (qx (qx (qx (qx (qx (qx (qx (qx (qx (qx (qx (((b.2.2.2.2.2.2.2.1.length : Nat) : Int)) (((b.2.2.2.2.2.2.2.2.2.1.length : Nat) : Int))) (((b.2.2.2.2.2.2.2.2.2.2.1.length : Nat) : Int))) (((b.2.2.2.2.2.2.2.2.2.2.2.1.length : Nat) : Int))) (((b.2.2.2.2.2.2.2.2.2.2.2.2.1.length : Nat) : Int))) (((b.2.2.2.2.2.2.2.2.2.2.2.2.2.1.length : Nat) : Int))) (((b.2.2.2.2.2.2.2.2.2.2.2.2.2.2.1.length : Nat) : Int))) (qa .i64 (((b.2.2.2.2.2.2.2.2.1.length : Nat) : Int).tdiv 4))) (((b.2.2.2.2.2.2.2.2.2.2.2.2.2.2.2.1.length : Nat) : Int))) (((b.2.2.2.2.2.2.2.2.2.2.2.2.2.2.2.2.1.length : Nat) : Int))) (((b.2.2.2.2.2.2.2.2.2.2.2.2.2.2.2.2.2.1.length : Nat) : Int))) (((b.2.2.2.2.2.2.2.2.2.2.2.2.2.2.2.2.2.2.1.length : Nat) : Int))) (((b.2.2.2.2.2.2.2.2.2.2.2.2.2.2.2.2.2.2.2.1.length : Nat) : Int))
 have e12 := Q6 (qx (qx (qx (qx (qx (qx (qx (qx (qx (qx (qx (((b.2.2.2.2.2.2.2.1.length : Nat) : Int)) (((b.2.2.2.2.2.2.2.2.2.1.length : Nat) : Int))) (((b.2.2.2.2.2.2.2.2.2.2.1.length : Nat) : Int))) (((b.2.2.2.2.2.2.2.2.2.2.2.1.length : Nat) : Int))) (((b.2.2.2.2.2.2.2.2.2.2.2.2.1.length : Nat) : Int))) (((b.2.2.2.2.2.2.2.2.2.2.2.2.2.1.length : Nat) : Int))) (((b.2.2.2.2.2.2.2.2.2.2.2.2.2.2.1.length : Nat) : Int))) (qa .i64 (((b.2.2.2.2.2.2.2.2.1.length : Nat) : Int).tdiv 4))) (((b.2.2.2.2.2.2.2.2.2.2.2.2.2.2.2.1.length : Nat) : Int))) (((b.2.2.2.2.2.2.2.2.2.2.2.2.2.2.2.2.1.length : Nat) : Int))) (((b.2.2.2.2.2.2.2.2.2.2.2.2.2.2.2.2.2.1.length : Nat) : Int))) (((b.2.2.2.2.2.2.2.2.2.2.2.2.2.2.2.2.2.2.1.length : Nat) : Int))) (((b.2.2.2.2.2.2.2.2.2.2.2.2.2.2.2.2.2.2.2.1.length : Nat) : Int))
 have p13 := Q5 (qx (qx (qx (qx (qx (qx (qx (qx (qx (qx (qx (qx (((b.2.2.2.2.2.2.2.1.length : Nat) : Int)) (((b.2.2.2.2.2.2.2.2.2.1.length : Nat) : Int))) (((b.2.2.2.2.2.2.2.2.2.2.1.length : Nat) : Int))) (((b.2.2.2.2.2.2.2.2.2.2.2.1.length : Nat) : Int))) (((b.2.2.2.2.2.2.2.2.2.2.2.2.1.length : Nat) : Int))) (((b.2.2.2.2.2.2.2.2.2.2.2.2.2.1.length : Nat) : Int))) (((b.2.2.2.2.2.2.2.2.2.2.2.2.2.2.1.length : Nat) : Int))) (qa .i64 (((b.2.2.2.2.2.2.2.2.1.length : Nat) : Int).tdiv 4))) (((b.2.2.2.2.2.2.2.2.2.2.2.2.2.2.2.1.length : Nat) : Int))) (((b.2.2.2.2.2.2.2.2.2.2.2.2.2.2.2.2.1.length : Nat) : Int))) (((b.2.2.2.2.2.2.2.2.2.2.2.2.2.2.2.2.2.1.length : Nat) : Int))) (((b.2.2.2.2.2.2.2.2.2.2.2.2.2.2.2.2.2.2.1.length : Nat) : Int))) (((b.2.2.2.2.2.2.2.2.2.2.2.2.2.2.2.2.2.2.2.1.length : Nat) : Int))) (((b.2.2.2.2.2.2.2.2.2.2.2.2.2.2.2.2.2.2.2.2.1.length : Nat) : Int))
 have e13 := Q6 (qx (qx (qx (qx (qx (qx (qx (qx (qx (qx (qx (qx (((b.2.2.2.2.2.2.2.1.length : Nat) : Int)) (((b.2.2.2.2.2.2.2.2.2.1.length : Nat) : Int))) (((b.2.2.2.2.2.2.2.2.2.2.1.length : Nat) : Int))) (((b.2.2.2.2.2.2.2.2.2.2.2.1.length : Nat) : Int))) (((b.2.2.2.2.2.2.2.2.2.2.2.2.1.length : Nat) : Int))) (((b.2.2.2.2.2.2.2.2.2.2.2.2.2.1.length : Nat) : Int))) (((b.2.2.2.2.2.2.2.2.2.2.2.2.2.2.1.length : Nat) : Int))) (qa .i64 (((b.2.2.2.2.2.2.2.2.1.length : Nat) : Int).tdiv 4))) (((b.2.2.2.2.2.2.2.2.2.2.2.2.2.2.2.1.length : Nat) : Int))) (((b.2.2.2.2.2.2.2.2.2.2.2.2.2.2.2.2.1.length : Nat) : Int))) (((b.2.2.2.2.2.2.2.2.2.2.2.2.2.2.2.2.2.1.length : Nat) : Int))) (((b.2.2.2.2.2.2.2.2.2.2.2.2.2.2.2.2.2.2.1.length : Nat) : Int))) (((b.2.2.2.2.2.2.2.2.2.2.2.2.2.2.2.2.2.2.2.1.length : Nat) : Int))) (((b.2.2.2.2.2.2.2.2.2.2.2.2.2.2.2.2.2.2.2.2.1.length : Nat) : Int))
 have p14 := Q5 (qx (qx (qx (qx (qx (qx (qx (qx (qx (qx (qx (qx (qx (((b.2.2.2.2.2.2.2.1.length : Nat) : Int)) (((b.2.2.2.2.2.2.2.2.2.1.length : Nat) : Int))) (((b.2.2.2.2.2.2.2.2.2.2.1.length : Nat) : Int))) (((b.2.2.2.2.2.2.2.2.2.2.2.1.length : Nat) : Int))) (((b.2.2.2.2.2.2.2.2.2.2.2.2.1.length : Nat) : Int))) (((b.2.2.2.2.2.2.2.2.2.2.2.2.2.1.length : Nat) : Int))) (((b.2.2.2.2.2.2.2.2.2.2.2.2.2.2.1.length : Nat) : Int))) (qa .i64 (((b.2.2.2.2.2.2.2.2.1.length : Nat) : Int).tdiv 4))) (((b.2.2.2.2.2.2.2.2.2.2.2.2.2.2.2.1.length : Nat) : Int))) (((b.2.2.2.2.2.2.2.2.2.2.2.2.2.2.2.2.1.length : Nat) : Int))) (((b.2.2.2.2.2.2.2.2.2.2.2.2.2.2.2.2.2.1.length : Nat) : Int))) (((b.2.2.2.2.2.2.2.2.2.2.2.2.2.2.2.2.2.2.1.length : Nat) : Int))) (((b.2.2.2.2.2.2.2.2.2.2.2.2.2.2.2.2.2.2.2.1.length : Nat) : Int))) (((b.2.2.2.2.2.2.2.2.2.2.2.2.2.2.2.2.2.2.2.2.1.length : Nat) : Int))) (((b.2.2.2.2.2.2.2.2.2.2.2.2.2.2.2.2.2.2.2.2.2.length : Nat) : Int))
 have e14 := Q6 (qx (qx (qx (qx (qx (qx (qx (qx (qx (qx (qx (qx (qx (((b.2.2.2.2.2.2.2.1.length : Nat) : Int)) (((b.2.2.2.2.2.2.2.2.2.1.length : Nat) : Int))) (((b.2.2.2.2.2.2.2.2.2.2.1.length : Nat) : Int))) (((b.2.2.2.2.2.2.2.2.2.2.2.1.length : Nat) : Int))) (((b.2.2.2.2.2.2.2.2.2.2.2.2.1.length : Nat) : Int))) (((b.2.2.2.2.2.2.2.2.2.2.2.2.2.1.length : Nat) : Int))) (((b.2.2.2.2.2.2.2.2.2.2.2.2.2.2.1.length : Nat) : Int))) (qa .i64 (((b.2.2.2.2.2.2.2.2.1.length : Nat) : Int).tdiv 4))) (((b.2.2.2.2.2.2.2.2.2.2.2.2.2.2.2.1.length : Nat) : Int))) (((b.2.2.2.2.2.2.2.2.2.2.2.2.2.2.2.2.1.length : Nat) : Int))) (((b.2.2.2.2.2.2.2.2.2.2.2.2.2.2.2.2.2.1.length : Nat) : Int))) (((b.2.2.2.2.2.2.2.2.2.2.2.2.2.2.2.2.2.2.1.length : Nat) : Int))) (((b.2.2.2.2.2.2.2.2.2.2.2.2.2.2.2.2.2.2.2.1.length : Nat) : Int))) (((b.2.2.2.2.2.2.2.2.2.2.2.2.2.2.2.2.2.2.2.2.1.length : Nat) : Int))) (((b.2.2.2.2.2.2.2.2.2.2.2.2.2.2.2.2.2.2.2.2.2.length : Nat) : Int))
 generalize hm1 : qx (((b.2.2.2.2.2.2.2.1.length : Nat) : Int)) (((b.2.2.2.2.2.2.2.2.2.1.length : Nat) : Int)) = m1 at *
 generalize hm2 : qx m1 (((b.2.2.2.2.2.2.2.2.2.2.1.length : Nat) : Int)) = m2 at *
 generalize hm3 : qx m2 (((b.2.2.2.2.2.2.2.2.2.2.2.1.length : Nat) : Int)) = m3 at *
 generalize hm4 : qx m3 (((b.2.2.2.2.2.2.2.2.2.2.2.2.1.length : Nat) : Int)) = m4 at *
 generalize hm5 : qx m4 (((b.2.2.2.2.2.2.2.2.2.2.2.2.2.1.length : Nat) : Int)) = m5 at *
 generalize hm6 : qx m5 (((b.2.2.2.2.2.2.2.2.2.2.2.2.2.2.1.length : Nat) : Int)) = m6 at *
 generalize hm7 : qx m6 (qa .i64 (((b.2.2.2.2.2.2.2.2.1.length : Nat) : Int).tdiv 4)) = m7 at *
 generalize hm8 : qx m7 (((b.2.2.2.2.2.2.2.2.2.2.2.2.2.2.2.1.length : Nat) : Int)) = m8 at *
 generalize hm9 : qx m8 (((b.2.2.2.2.2.2.2.2.2.2.2.2.2.2.2.2.1.length : Nat) : Int)) = m9 at *
 generalize hm10 : qx m9 (((b.2.2.2.2.2.2.2.2.2.2.2.2.2.2.2.2.2.1.length : Nat) : Int)) = m10 at *
 generalize hm11 : qx m10 (((b.2.2.2.2.2.2.2.2.2.2.2.2.2.2.2.2.2.2.1.length : Nat) : Int)) = m11 at *
 generalize hm12 : qx m11 (((b.2.2.2.2.2.2.2.2.2.2.2.2.2.2.2.2.2.2.2.1.length : Nat) : Int)) = m12 at *
 generalize hm13 : qx m12 (((b.2.2.2.2.2.2.2.2.2.2.2.2.2.2.2.2.2.2.2.2.1.length : Nat) : Int)) = m13 at *
 generalize hm14 : qx m13 (((b.2.2.2.2.2.2.2.2.2.2.2.2.2.2.2.2.2.2.2.2.2.length : Nat) : Int)) = m14 at *
 rw [hw] at e7
 exact { bGrades := by omega, bSections := by omega, bTurns := by omega, bRolls := by omega, bUsed := by omega, bScrapped := by omega, bSpots := by omega, bOrders := by omega, bWaivers := by omega, bShipments := by omega, bClaims := by omega, bCredits := by omega, bBroke := by omega, bPostings := by omega, supp := by omega, ord := fun x hx => by have := g4 x hx; omega, shp := fun x hx => by have := g3 x hx; omega }
theorem qMB (k : Nat) (b : T17.T) (g : GB b) : ∀ (d i j : Nat) (y : Int), i + d = b.2.2.2.2.2.2.2.2.2.2.2.2.2.2.2.2.2.1.length → d < j → y ≤ 512 → VG k j y (i : Int) b = some 0 := by
 have hl := g.bShipments
 intro d
 induction d with
 | zero =>
  intro i j y hi hj hy
  obtain ⟨j, rfl⟩ := qW (by omega : 0 < j)
  rw [VG, qq (by omega : ¬ (i : Int) < (b.2.2.2.2.2.2.2.2.2.2.2.2.2.2.2.2.2.1.length : Int)), qg, qq (by omega : ¬ y > 512), qg]
 | succ d ih =>
  intro i j y hi hj hy
  obtain ⟨j, rfl⟩ := qW (by omega : 0 < j)
  have hx := g.shp (b.2.2.2.2.2.2.2.2.2.2.2.2.2.2.2.2.2.1.getD i T11.dflt) (gdm _ _ _ (by omega))
  rw [VG, qw (by omega : (i : Int) < (b.2.2.2.2.2.2.2.2.2.2.2.2.2.2.2.2.2.1.length : Int)), qj, qc ⟨by omega, by omega⟩, qH i (by omega), qe]
  exact ih (i + 1) j _ (by omega) (by omega) (by split <;> omega)
theorem qMA (k : Nat) (b : T17.T) (g : GB b) : ∀ (d i j : Nat) (y : Int), i + d = b.2.2.2.2.2.2.2.2.2.2.2.2.2.2.2.1.length → d + 50 < j → y ≤ 512 → VF k j y (i : Int) b = some 0 := by
 have hl := g.bOrders
 have hl2 := g.bShipments
 intro d
 induction d with
 | zero =>
  intro i j y hi hj hy
  obtain ⟨j, rfl⟩ := qW (by omega : 0 < j)
  rw [VF, qq (by omega : ¬ (i : Int) < (b.2.2.2.2.2.2.2.2.2.2.2.2.2.2.2.1.length : Int)), qg]
  exact qMB k b g (b.2.2.2.2.2.2.2.2.2.2.2.2.2.2.2.2.2.1.length) 0 j y (by omega) (by omega) hy
 | succ d ih =>
  intro i j y hi hj hy
  obtain ⟨j, rfl⟩ := qW (by omega : 0 < j)
  have hx := g.ord (b.2.2.2.2.2.2.2.2.2.2.2.2.2.2.2.1.getD i T9.dflt) (gdm _ _ _ (by omega))
  rw [VF, qw (by omega : (i : Int) < (b.2.2.2.2.2.2.2.2.2.2.2.2.2.2.2.1.length : Int)), qj, qc ⟨by omega, by omega, by omega, by omega⟩, qH i (by omega), qe]
  exact ih (i + 1) j _ (by omega) (by omega) (qrY (qrY hy (by omega)) (by omega))
theorem qzN (k : Nat) (hk : 200 ≤ k) (b : T17.T) (g : GB b) : qec k b = some 0 := by
 unfold qec
 have bGrades := g.bGrades
 have bSections := g.bSections
 have bTurns := g.bTurns
 have bRolls := g.bRolls
 have bUsed := g.bUsed
 have bScrapped := g.bScrapped
 have bSpots := g.bSpots
 have bOrders := g.bOrders
 have bWaivers := g.bWaivers
 have bShipments := g.bShipments
 have bClaims := g.bClaims
 have bCredits := g.bCredits
 have bBroke := g.bBroke
 have bPostings := g.bPostings
 have bSup := g.supp
 refine qMA k b g (b.2.2.2.2.2.2.2.2.2.2.2.2.2.2.2.1.length) 0 k _ (by omega) (by omega) ?_
 repeat' refine qrY ?_ ?_
 all_goals omega
theorem qMC (k : Nat) (hk : 200 ≤ k) (b : T17.T) (g : GB b) : qeQ k b = 0 := by
 unfold qeQ; rw [qzN k hk b g]; rfl
theorem qJD (k : Nat) (l : List Int) (hl : l.length ≤ 100000) (hb : ∀ x ∈ l, x ≤ 512) : ∀ (d i j : Nat), i + d = l.length → d < j → VO k j (l.length : Int) (i : Int) l = some false := by
 intro d
 induction d with
 | zero =>
  intro i j hi hj
  obtain ⟨j, rfl⟩ := qW (by omega : 0 < j)
  rw [VO, qq (by omega : ¬ (i : Int) < (l.length : Int)), qg]
 | succ d ih =>
  intro i j hi hj
  obtain ⟨j, rfl⟩ := qW (by omega : 0 < j)
  have hx := hb (l.getD i I.dflt) (gdm _ _ _ (by omega))
  rw [VO, qw (by omega : (i : Int) < (l.length : Int)), qj, qc ⟨by omega, by omega⟩, qH i (by omega), qe, qq (by omega : ¬ l.getD i I.dflt > 512), qg]
  exact ih (i + 1) j (by omega) (by omega)
theorem qNN (k : Nat) (l : List T11.T) (hl : l.length ≤ 40) (hs : ∀ x ∈ l, x.2.2.length ≤ 40) : ∀ (d i j : Nat) (a : List Int), i + d = l.length → 2 * d + a.length + 100 < j → a.length + d ≤ 1000 → (∀ x ∈ a, x ≤ 512) → X7 k j l (l.length : Int) (i : Int) a = some false := by
 intro d
 induction d with
 | zero =>
  intro i j a hi hj ha hb
  obtain ⟨j, rfl⟩ := qW (by omega : 0 < j)
  rw [X7, qq (by omega : ¬ (i : Int) < (l.length : Int)), qg]
  exact qJD k a (by omega) hb a.length 0 j (by omega) (by omega)
 | succ d ih =>
  intro i j a hi hj ha hb
  obtain ⟨j, rfl⟩ := qW (by omega : 0 < j)
  have hx := hs (l.getD i T11.dflt) (gdm _ _ _ (by omega))
  rw [X7, qw (by omega : (i : Int) < (l.length : Int)), qj, qc ⟨by omega, by omega⟩, qH i (by omega), qe, qc (by simp only [qz]; omega)]
  refine ih (i + 1) j _ (by omega) (by simp; omega) (by simp; omega) fun x hx' => ?_
  rcases zX.1 hx' with h | h
  ·exact hb x h
  ·rw [List.mem_singleton] at h; omega
theorem qNM (k : Nat) (b : T17.T) (g : GB b) (l : List T9.T) (hl : l.length ≤ 40) (hs : ∀ x ∈ l, x.2.1.length ≤ 40 ∧ x.2.2.1.length ≤ 40) : ∀ (d i j : Nat) (a : List Int), i + d = l.length → 3 * d + a.length + 200 < j → a.length + 2 * d ≤ 500 → (∀ x ∈ a, x ≤ 512) → X6 k j l (l.length : Int) (i : Int) b a = some false := by
 intro d
 induction d with
 | zero =>
  intro i j a hi hj ha hb
  obtain ⟨j, rfl⟩ := qW (by omega : 0 < j)
  have := g.bShipments
  rw [X6, qq (by omega : ¬ (i : Int) < (l.length : Int)), qg]
  exact qNN k (b.2.2.2.2.2.2.2.2.2.2.2.2.2.2.2.2.2.1) (by omega) g.shp (b.2.2.2.2.2.2.2.2.2.2.2.2.2.2.2.2.2.1.length) 0 j a (by omega) (by omega) (by omega) hb
 | succ d ih =>
  intro i j a hi hj ha hb
  obtain ⟨j, rfl⟩ := qW (by omega : 0 < j)
  have hx := hs (l.getD i T9.dflt) (gdm _ _ _ (by omega))
  rw [X6, qw (by omega : (i : Int) < (l.length : Int)), qj, qc ⟨by omega, by omega⟩, qH i (by omega), qe, qc (by simp only [wB, List.length_nil]; omega)]
  refine ih (i + 1) j _ (by omega) (by simp; omega) (by simp; omega) fun x hx' => ?_
  rcases zX.1 hx' with h | h
  ·exact hb x h
  ·simp only [qK, List.not_mem_nil, or_false] at h
   omega
theorem qCd (k : Nat) (hk : 1000 ≤ k) (b : T17.T) (g : GB b) : qaI k b = some false := by
 unfold qaI
 have bGrades := g.bGrades
 have bSections := g.bSections
 have bTurns := g.bTurns
 have bRolls := g.bRolls
 have bUsed := g.bUsed
 have bScrapped := g.bScrapped
 have bSpots := g.bSpots
 have bOrders := g.bOrders
 have bWaivers := g.bWaivers
 have bShipments := g.bShipments
 have bClaims := g.bClaims
 have bCredits := g.bCredits
 have bBroke := g.bBroke
 have bPostings := g.bPostings
 have bSup := g.supp
 refine qNM k b g (b.2.2.2.2.2.2.2.2.2.2.2.2.2.2.2.1) (by omega) g.ord (b.2.2.2.2.2.2.2.2.2.2.2.2.2.2.2.1.length) 0 k _ (by omega) (by simp; omega) (by simp; omega) fun x hx => ?_
 simp only [qK, List.not_mem_nil, or_false] at hx
 omega
theorem qNO (k : Nat) (hk : 1000 ≤ k) (b : T17.T) (g : GB b) : qcW k b = false := by
 unfold qcW; rw [qCd k hk b g]; rfl
end Go.AM
namespace Go.AM
open Go Go.Proofs
noncomputable section
abbrev qqp : Type := T17.T × List T18.T
def qwb (r : qqp) : AV := .tup []
def qz4 (a : T17.T) (b : List T18.T) (d : Int) (e : Int) (f : Int) (r : qqp) : List (Nat × Blk) := [(0, .var 140 ((qB (qr T17 r.1)) ++ [.own 1 1])), (1, .row 54 T18 r.2)]
abbrev qGg (a : T17.T) (b : List T18.T) (d : Int) (e : Int) (f : Int) (r : qqp) : Prop := CC Tryz.prog 75 [.ptr 0 0 0, ri d, ri e, ri f] [.var 140 (qB (qr T17 a) ++ [.own 1 0]), .row 54 T18 b] (qwb r) (qz4 a b d e f r)
def zl (k : Nat) (a : T17.T) (b : List T18.T) (d : Int) (e : Int) (f : Int) : Option qqp :=
 if ((b.length + [(d, e, f)].length) * (24 : Nat) ≤ (140737488355328 : Nat)) then
 some (a, b ++ [(d, e, f)])
 else none
def wg := fun k a b d e f => (zl k a b d e f).getD ((T17).dflt, [])
def qbQ (k : Nat) : Ke := (75, fun
 | [.ptr _ _ _, _, _, _] => some [true, false, false, false]
 | _ => none, fun
 | [.ptr 0 0 0, .r (.v (.int .i64 d)), .r (.v (.int .i64 e)), .r (.v (.int .i64 f))], [.var 140 g, .row 54 tb_22_ qb_22] => (qX [] T17 (g.take 22)).bind fun a => (qC tb_22_ T18 qb_22).bind fun b => some (.one (qwb (wg k a b d e f), qz4 a b d e f (wg k a b d e f)))
 | _, _ => none)
theorem qOT (k a b d e f r) (h : zl k a b d e f = some r): qGg a b d e f r := qO Tryz.f75 (go (qA []) [] [] [.autoB [] true [1]] (qv h id fun h => gL h))
theorem zk {k a b d e f} (h : (zl k a b d e f).isSome): qGg a b d e f (wg k a b d e f) := qJ h (qOT k a b d e f)
def qz3 (a : T17.T) (b : List T18.T) (d : T21.T) (e : T4.T) (r : Bool) : List (Nat × Blk) := [(0, .var 140 (qB (qr T17 a) ++ [.own 1 0])), (0, .row 54 T18 b)]
abbrev qGd (a : T17.T) (b : List T18.T) (d : T21.T) (e : T4.T) (r : Bool) : Prop := CC Tryz.prog 82 [.ptr 0 0 0, .agg (qB (qr T21 d)), .agg (qB (qr T4 e))] [.var 140 (qB (qr T17 a) ++ [.own 1 0]), .row 54 T18 b] (rb r) (qz3 a b d e r)
def qqt (k : Nat) (a : T17.T) (b : List T18.T) (d : T21.T) (e : T4.T) : Option Bool :=
 if ((e.1 == (0 : Int) && e.2.1 == a.2.1 && (!e.2.2.1) && (↑ (qb e.2.2.2) : Int) == (1 : Int)) = true → (0 : Int) ≤ (0 : Int)) ∧ ((e.1 == (0 : Int) && e.2.1 == a.2.1 && (!e.2.2.1) && (↑ (qb e.2.2.2) : Int) == (1 : Int)) = true → (0 : Int) < (↑ (qb e.2.2.2) : Int)) then
 some (e.1 == 0 && e.2.1 == a.2.1 && (!e.2.2.1) && (↑ (qb e.2.2.2) : Int) == 1 && Vd T3 (qI e.2.2.2 (ql 0) T3.dflt) (d.1, qa .i64 (d.2 - d.1), false))
 else none
def qqO := fun k a b d e => (qqt k a b d e).getD false
def qNV (k : Nat) : Ke := (82, fun
 | [.ptr _ _ _, _, _] => some [true, false, false]
 | _ => none, fun
 | [.ptr 0 0 0, .agg i, .agg g], [.var 140 f, .row 54 tb_22_ qb_22] => (qX [] T21 i).bind fun d => (qX [] T4 g).bind fun e => (qX [] T17 (f.take 22)).bind fun a => (qC tb_22_ T18 qb_22).bind fun b => some (.one (rb (qqO k a b d e), qz3 a b d e (qqO k a b d e)))
 | _, _ => none)
theorem qOQ (k a b d e r) (h : qqt k a b d e = some r): qGd a b d e r := qO Tryz.f82 (go (qA []) [] [] [.autoB [6] true []] (qU h fun h => gL h))
theorem qMS {k a b d e} (h : (qqt k a b d e).isSome): qGd a b d e (qqO k a b d e) := qJ h (qOQ k a b d e)
abbrev qit : Type := T17.T × List T18.T
def qos (r : qit) : AV := .tup []
def qro (a : T17.T) (b : List T18.T) (r : qit) : List (Nat × Blk) := [(0, .var 140 ((qB (qr T17 r.1)) ++ [.own 1 1])), (1, .row 54 T18 r.2)]
abbrev qGp (a : T17.T) (b : List T18.T) (r : qit) : Prop := CC Tryz.prog 37 [.ptr 0 0 0] [.var 140 (qB (qr T17 a) ++ [.own 1 0]), .row 54 T18 b] (qos r) (qro a b r)
def qD5 := fun (a : T17.T) (b : List T18.T) y0 y1 y2 y3 y4 y5 y6 => (⟨qM 143 [(0, .ptr 0 0 0), (7, ro T21 y0), (8, .own 1000000 0), (93, ro T5 y1), (94, ri y2), (95, ri y3)], [(0, 0, .var 140 ((qB (qr T17 y4)) ++ [.own 1 1])), (1, 1, .row 54 T18 y5), (1000000, 0, .row 45 T4 y6)]⟩ : St)
def qD6 := fun (a : T17.T) (b : List T18.T) y0 y1 y2 y3 y4 y5 => (⟨qM 143 [(0, .ptr 0 0 0), (7, ro T21 y0), (8, .own 1000000 0), (112, ri y1), (113, ri y2)], [(0, 0, .var 140 ((qB (qr T17 y3)) ++ [.own 1 1])), (1, 1, .row 54 T18 y4), (1000000, 0, .row 45 T4 y5)]⟩ : St)
mutual
def Zx (k : Nat) (a : T17.T) (b : List T18.T) : Nat → List T21.T → List T5.T → Int → Int → T17.T → List T18.T → List T4.T → Option qit
 | 0, _, _, _, _, _, _, _ => none
 | j + 1, y0, y1, y2, y3, y4, y5, y6 =>
 bif y3 < y2 then
 if (0 ≤ y3) ∧ (y3 < y1.length) then
 bif ((y1.getD y3.toNat T5.dflt).2.1 == (0 : Int)) then
 if ((y6.length + [(y1.getD y3.toNat T5.dflt).2.2].length) * (48 : Nat) ≤ (140737488355328 : Nat)) then
 Zx k a b j y0 y1 y2 (qa .i64 (y3 + 1)) y4 y5 (y6 ++ [(y1.getD y3.toNat T5.dflt).2.2])
 else none
 else
 Zx k a b j y0 y1 y2 (qa .i64 (y3 + 1)) y4 y5 y6
 else none
 else
 qfj k a b j y0 (if (↑y6.length : Int) > (↑y0.length : Int) then (↑y6.length : Int) else (↑y0.length : Int)) 0 y4 y5 y6
def qfj (k : Nat) (a : T17.T) (b : List T18.T) : Nat → List T21.T → Int → Int → T17.T → List T18.T → List T4.T → Option qit
 | 0, _, _, _, _, _, _ => none
 | j + 1, y0, y1, y2, y3, y4, y5 =>
 bif y2 < y1 then
 bif (decide (y2 ≥ y0.length) || decide (y2 ≥ y5.length)) then
 if ((decide (y2 ≥ y0.length) || decide (y2 ≥ y5.length)) = true) then
 if ((zl k y3 y4 2 y2 0).isSome) then
 some ((wg k y3 y4 2 y2 0).1, (wg k y3 y4 2 y2 0).2)
 else none
 else none
 else
 if ((decide (y2 ≥ y0.length) || decide (y2 ≥ y5.length)) = false) ∧ (0 ≤ y2) ∧ (y2 < y0.length) ∧ (0 ≤ y2) ∧ (y2 < y5.length) ∧ ((qqt k y3 y4 (y0.getD y2.toNat T21.dflt) (y5.getD y2.toNat T4.dflt)).isSome) then
 bif (false || (!qqO k y3 y4 (y0.getD y2.toNat T21.dflt) (y5.getD y2.toNat T4.dflt))) then
 if ((zl k y3 y4 2 y2 0).isSome) then
 some ((wg k y3 y4 2 y2 0).1, (wg k y3 y4 2 y2 0).2)
 else none
 else
 qfj k a b j y0 y1 (qa .i64 (y2 + 1)) y3 y4 y5
 else none
 else
 some (y3, y4)
end
def qmc (k : Nat) (a : T17.T) (b : List T18.T) : Option qit :=
 if ((Xf k a.2.2.2.2.2.2.2.2.2.1).isSome) then
 bif (QP k a.2.2.2.2.2.2.2.2.2.1 != (0 : Int)) then
 if ((zl k a b 1 (QP k a.2.2.2.2.2.2.2.2.2.1) 0).isSome) then
 some ((wg k a b 1 (QP k a.2.2.2.2.2.2.2.2.2.1) 0).1, (wg k a b 1 (QP k a.2.2.2.2.2.2.2.2.2.1) 0).2)
 else none
 else
 bif (↑ (qb a.2.2.2.2.2.2.2.2.2.1) : Int) > (0 : Int) then
 if ((0 : Int) ≤ qa .i64 ((↑ (qb a.2.2.2.2.2.2.2.2.2.1) : Int) - (1 : Int))) ∧ (qa .i64 ((↑ (qb a.2.2.2.2.2.2.2.2.2.1) : Int) - (1 : Int)) < (↑ (qb a.2.2.2.2.2.2.2.2.2.1) : Int)) then
 bif ((qI a.2.2.2.2.2.2.2.2.2.1 (qa .i64 ((↑ (qb a.2.2.2.2.2.2.2.2.2.1) : Int) - (1 : Int))).toNat T2.dflt).2.1 != a.2.2.1) then
 if ((zl k a b 1 0 (qI a.2.2.2.2.2.2.2.2.2.1 (qa .i64 ((↑ (qb a.2.2.2.2.2.2.2.2.2.1) : Int) - 1)).toNat T2.dflt).2.1).isSome) then
 some ((wg k a b 1 0 (qI a.2.2.2.2.2.2.2.2.2.1 (qa .i64 ((↑ (qb a.2.2.2.2.2.2.2.2.2.1) : Int) - 1)).toNat T2.dflt).2.1).1, (wg k a b 1 0 (qI a.2.2.2.2.2.2.2.2.2.1 (qa .i64 ((↑ (qb a.2.2.2.2.2.2.2.2.2.1) : Int) - 1)).toNat T2.dflt).2.1).2)
 else none
 else
 if ((Y5 k a.2.2.2.2.2.2.2.2.2.1 (0, a.2.2.2.1)).isSome) then
 bif ((wV k a.2.2.2.2.2.2.2.2.2.1 ((0 : Int), a.2.2.2.1)).2 == (0 : Int)) then
 if ((qhi k (wV k a.2.2.2.2.2.2.2.2.2.1 (0, a.2.2.2.1)).1 a.2.2.2.2.2.2.2.2.2.2.1 a.2.2.2.2.1).isSome) then
 bif ((WP k (wV k a.2.2.2.2.2.2.2.2.2.1 ((0 : Int), a.2.2.2.1)).1 a.2.2.2.2.2.2.2.2.2.2.1 a.2.2.2.2.1).2.2 != (0 : Int)) then
 if ((zl k a b 2 (-1) (WP k (wV k a.2.2.2.2.2.2.2.2.2.1 (0, a.2.2.2.1)).1 a.2.2.2.2.2.2.2.2.2.2.1 a.2.2.2.2.1).2.2).isSome) then
 some ((wg k a b 2 (-1) (WP k (wV k a.2.2.2.2.2.2.2.2.2.1 (0, a.2.2.2.1)).1 a.2.2.2.2.2.2.2.2.2.2.1 a.2.2.2.2.1).2.2).1, (wg k a b 2 (-1) (WP k (wV k a.2.2.2.2.2.2.2.2.2.1 (0, a.2.2.2.1)).1 a.2.2.2.2.2.2.2.2.2.2.1 a.2.2.2.2.1).2.2).2)
 else none
 else
 Zx k a b k ((WP k (wV k a.2.2.2.2.2.2.2.2.2.1 (0, a.2.2.2.1)).1 a.2.2.2.2.2.2.2.2.2.2.1 a.2.2.2.2.1).1) a.2.2.2.2.2.2.2.2.2.2.2.1 (↑ (qb a.2.2.2.2.2.2.2.2.2.2.2.1) : Int) 0 a b ([])
 else none
 else
 bif ((wV k a.2.2.2.2.2.2.2.2.2.1 ((0 : Int), a.2.2.2.1)).2 != (0 : Int)) then
 if ((zl k a b 2 (-1) (wV k a.2.2.2.2.2.2.2.2.2.1 (0, a.2.2.2.1)).2).isSome) then
 some ((wg k a b 2 (-1) (wV k a.2.2.2.2.2.2.2.2.2.1 (0, a.2.2.2.1)).2).1, (wg k a b 2 (-1) (wV k a.2.2.2.2.2.2.2.2.2.1 (0, a.2.2.2.1)).2).2)
 else none
 else
 Zx k a b k ([]) a.2.2.2.2.2.2.2.2.2.2.2.1 (↑ (qb a.2.2.2.2.2.2.2.2.2.2.2.1) : Int) 0 a b ([])
 else none
 else none
 else
 bif ((0 : Int) != a.2.2.1) then
 if ((zl k a b 1 0 0).isSome) then
 some ((wg k a b 1 0 0).1, (wg k a b 1 0 0).2)
 else none
 else
 if ((Y5 k a.2.2.2.2.2.2.2.2.2.1 (0, a.2.2.2.1)).isSome) then
 bif ((wV k a.2.2.2.2.2.2.2.2.2.1 ((0 : Int), a.2.2.2.1)).2 == (0 : Int)) then
 if ((qhi k (wV k a.2.2.2.2.2.2.2.2.2.1 (0, a.2.2.2.1)).1 a.2.2.2.2.2.2.2.2.2.2.1 a.2.2.2.2.1).isSome) then
 bif ((WP k (wV k a.2.2.2.2.2.2.2.2.2.1 ((0 : Int), a.2.2.2.1)).1 a.2.2.2.2.2.2.2.2.2.2.1 a.2.2.2.2.1).2.2 != (0 : Int)) then
 if ((zl k a b 2 (-1) (WP k (wV k a.2.2.2.2.2.2.2.2.2.1 (0, a.2.2.2.1)).1 a.2.2.2.2.2.2.2.2.2.2.1 a.2.2.2.2.1).2.2).isSome) then
 some ((wg k a b 2 (-1) (WP k (wV k a.2.2.2.2.2.2.2.2.2.1 (0, a.2.2.2.1)).1 a.2.2.2.2.2.2.2.2.2.2.1 a.2.2.2.2.1).2.2).1, (wg k a b 2 (-1) (WP k (wV k a.2.2.2.2.2.2.2.2.2.1 (0, a.2.2.2.1)).1 a.2.2.2.2.2.2.2.2.2.2.1 a.2.2.2.2.1).2.2).2)
 else none
 else
 Zx k a b k ((WP k (wV k a.2.2.2.2.2.2.2.2.2.1 (0, a.2.2.2.1)).1 a.2.2.2.2.2.2.2.2.2.2.1 a.2.2.2.2.1).1) a.2.2.2.2.2.2.2.2.2.2.2.1 (↑ (qb a.2.2.2.2.2.2.2.2.2.2.2.1) : Int) 0 a b ([])
 else none
 else
 bif ((wV k a.2.2.2.2.2.2.2.2.2.1 ((0 : Int), a.2.2.2.1)).2 != (0 : Int)) then
 if ((zl k a b 2 (-1) (wV k a.2.2.2.2.2.2.2.2.2.1 (0, a.2.2.2.1)).2).isSome) then
 some ((wg k a b 2 (-1) (wV k a.2.2.2.2.2.2.2.2.2.1 (0, a.2.2.2.1)).2).1, (wg k a b 2 (-1) (wV k a.2.2.2.2.2.2.2.2.2.1 (0, a.2.2.2.1)).2).2)
 else none
 else
 Zx k a b k ([]) a.2.2.2.2.2.2.2.2.2.2.2.1 (↑ (qb a.2.2.2.2.2.2.2.2.2.2.2.1) : Int) 0 a b ([])
 else none
 else none
def qf3 := fun k a b => (qmc k a b).getD ((T17).dflt, [])
def qmA (k : Nat) : Ke := (37, fun
 | [.ptr _ _ _] => some [true]
 | _ => none, fun
 | [.ptr 0 0 0], [.var 140 d, .row 54 tt_22_ qt_22] => (qX [] T17 (d.take 22)).bind fun a => (qC tt_22_ T18 qt_22).bind fun b => some (.one (qos (qf3 k a b), qro a b (qf3 k a b)))
 | _, _ => none)
def qHS (k : Nat) : Calld := qA [qbQ k, qev k, qn0 k, qKd k, qNV k]
def qAN : List (Nat × List Cmd) := [(17, [.frz 7 false (RTy.list T21), .row 8 45 T4, .autoB [0, 7, 8, 93, 94, 95] false [1]]), (23, [.autoB [0, 7, 8, 112, 113] false [1]])]
abbrev qHy := fun a b => EE Tryz.f37 2 qos (qro a b)
theorem qhe (k a b) : ∀ j, (∀ {y0 y1 y2 y3 y4 y5 y6}, qHy a b (zK Tryz.f37 17) (qD5 a b y0 y1 y2 y3 y4 y5 y6) (Zx k a b j y0 y1 y2 y3 y4 y5 y6)) ∧ (∀ {y0 y1 y2 y3 y4 y5}, qHy a b (zK Tryz.f37 23) (qD6 a b y0 y1 y2 y3 y4 y5) (qfj k a b j y0 y1 y2 y3 y4 y5))
 | 0 => by and_intros <;> intros <;> exact e0
 | j + 1 => by
  have ih := @qhe k a b j
  have g := @go (qHS k) [] qAN [.autoB [] true [1]]
  refine ⟨?_, ?_⟩
  ·intro y0 y1 y2 y3 y4 y5 y6 r h
   rw [Zx] at h
   exact g (gS h (fun h => qU h fun h => gS h (fun h => qv h id fun h => gD h 17 ih.1) fun h => gD h 17 ih.1) fun h => gD h 23 ih.2)
  ·intro y0 y1 y2 y3 y4 y5 r h
   rw [qfj] at h
   exact g (gS h (fun h => gS h (fun h => qv h id fun h => gU1 h (.cut 23 (zK Tryz.f37 23) ⟨qM 143 [(0, .ptr 0 0 0), (7, .r (.ro T21 y0)), (8, .own 1000000 0), (112, .r (.v (.int .i64 y1))), (113, .r (.v (.int .i64 (qa .i64 (y2 + 1)))))], [(0, 0, .var 140 ((qB (qr T17 y3)) ++ [.own 1 1])), (1, 1, .row 54 T18 y4), (1000000, 0, .row 45 T4 y5)]⟩) fun h => qv h zk fun h => gL h) fun h => gN h (fun q => qf q.1 (qf q.2.1 (qf q.2.2.1 (qf q.2.2.2.1 (qf q.2.2.2.2.1 (qf (qMS q.2.2.2.2.2) qP)))))) fun h => gS h (fun h => qv h zk fun h => gL h) fun h => gD h 23 ih.2) fun h => gL h)
theorem qO2 (k a b r) (h : qmc k a b = some r): qGp a b r := qO Tryz.f37 (go (qHS k) [] qAN [.autoB [] true [1]] (qv h qix fun h => gS h (fun h => qv h zk fun h => gL h) fun h => gS h (fun h => qU h fun h => gS h (fun h => qv h zk fun h => gL h) fun h => qv h qny fun h => gS h (fun h => qv h quu fun h => gS h (fun h => qv h zk fun h => gL h) fun h => gD h 17 (qhe k a b k).1) fun h => gS h (fun h => qv h zk fun h => gL h) fun h => gD h 17 (qhe k a b k).1) fun h => gS h (fun h => qv h zk fun h => gL h) fun h => qv h qny fun h => gS h (fun h => qv h quu fun h => gS h (fun h => qv h zk fun h => gL h) fun h => gD h 17 (qhe k a b k).1) fun h => gS h (fun h => qv h zk fun h => gL h) fun h => gD h 17 (qhe k a b k).1))
theorem qAm {k a b} (h : (qmc k a b).isSome): qGp a b (qf3 k a b) := qJ h (qO2 k a b)
end
end Go.AM
namespace Go.AM
open Go Go.Proofs
noncomputable section
end
end Go.AM
namespace Go.AM
open Go Go.Proofs
noncomputable section
def qC8 (r : T17.T) : AV := .sub 2 0 1 0 1
def qIb (a : T17.T) (b : List T18.T) (r : T17.T) : List (Nat × Blk) := [(0, .var 140 ((qB (qr T17 r)) ++ [.own 1 0])), (0, .row 54 T18 b), (0, .var 1 [.fn (Fn.func 37) [.ptr 0 0 0] []])]
abbrev qMf (a : T17.T) (b : List T18.T) (r : T17.T) : Prop := CC Tryz.prog 36 [.ptr 0 0 0] [.var 140 (qB (qr T17 a) ++ [.own 1 0]), .row 54 T18 b] (qC8 r) (qIb a b r)
def qxl (k : Nat) (a : T17.T) (b : List T18.T) : Option T17.T :=
 some a
def qyt := fun k a b => (qxl k a b).getD (T17).dflt
def qIl (k : Nat) : Ke := (36, fun
 | [.ptr _ _ _] => some [true]
 | _ => none, fun
 | [.ptr 0 0 0], [.var 140 d, .row 54 tx_22_ qx_22] => (qX [] T17 (d.take 22)).bind fun a => (qC tx_22_ T18 qx_22).bind fun b => some (.one (qC8 (qyt k a b), qIb a b (qyt k a b)))
 | _, _ => none)
theorem qRK (k a b r) (h : qxl k a b = some r): qMf a b r := qO Tryz.f36 (go (qA [qmA k]) [] [] [.autoB [2] true []] (gL h))
theorem qRg {k a b} (h : (qxl k a b).isSome): qMf a b (qyt k a b) := qJ h (qRK k a b)
abbrev qlG : Type := List T18.T × Int
def qow (r : qlG) : AV := .tup [ro T18 r.1, ri r.2]
abbrev qGx (a : T17.T) (r : qlG) : Prop := CC Tryz.prog 33 [.agg (qB (qr T17 a)), .r (.v (.func (.func 36) #[] #[]))] [] (qow r) (nb r)
def qts := fun y0 y1 => (⟨qM 29 [(6, .ptr 1000000 0 0), (16, .sub 1000002 0 1 0 1), (17, ri 1), (18, ri 0)], [(1000000, 0, .var 140 ((qB (qr T17 y0)) ++ [.own 1000001 0])), (1000001, 0, .row 54 T18 y1), (1000002, 0, .var 1 [.fn (Fn.func 37) [.ptr 1000000 0 0] []])]⟩ : St)
def qtt := fun y0 y1 => (⟨qM 29 [(6, .ptr 1000000 0 0), (16, .sub 1000002 0 1 0 1), (17, ri 1), (18, ri 1)], [(1000000, 0, .var 140 ((qB (qr T17 y0)) ++ [.own 1000001 0])), (1000001, 0, .row 54 T18 y1), (1000002, 0, .var 1 [.fn (Fn.func 37) [.ptr 1000000 0 0] []])]⟩ : St)
mutual
def qdq (k : Nat) : Nat → T17.T → List T18.T → Option qlG
 | 0, _, _ => none
 | j + 1, y0, y1 =>
 if ((0 : Int) ≤ (0 : Int)) ∧ ((0 : Int) < (↑ (1 : Nat) : Int)) then
 if ((qmc k y0 y1).isSome) then
 qdr k j ((qf3 k y0 y1).1) ((qf3 k y0 y1).2)
 else none
 else none
def qdr (k : Nat) : Nat → T17.T → List T18.T → Option qlG
 | 0, _, _ => none
 | j + 1, y0, y1 =>
 some (y1, 0)
end
def qqB (k : Nat) (a : T17.T) : Option qlG :=
 if ((qaI k a).isSome) then
 bif (qcW k a) then
 some ([], 8)
 else
 if ((qxl k a []).isSome) then
 qdq k k (qyt k a []) ([])
 else none
 else none
def qqR := fun k a => (qqB k a).getD ([], 0)
def qN3 (k : Nat) : Ke := (33, fun
 | [_, .r (.v (.func (.func 36) _ _))] => some [false, false]
 | _ => none, fun
 | [.agg b, .r (.v (.func (.func 36) _ _))], [] => (qX [] T17 b).bind fun a => some (.one (qow (qqR k a), []))
 | _, _ => none)
def qHW (k : Nat) : Calld := qA [qmB k, qmA k, qIl k]
def qAU : List (Nat × List Cmd) := [(5, [.key 18, .autoB [6, 16, 17, 18] false []])]
abbrev qHB := EP Tryz.f33 0 qow nb
theorem qBG (k) : ∀ j, (∀ {y0 y1}, qHB 5 (qts y0 y1) (qdq k j y0 y1)) ∧ (∀ {y0 y1}, qHB 5 (qtt y0 y1) (qdr k j y0 y1))
 | 0 => by and_intros <;> intros <;> exact e0
 | j + 1 => by
  have ih := @qBG k j
  have g := @go (qHW k) [] qAU [.frz 4 false (RTy.list T18), .autoB [4, 5] true []]
  refine ⟨?_, ?_⟩
  ·intro y0 y1 r h
   rw [qdq] at h
   exact g (gU1 h (.leaf (.tup [.r (.ro T18 y1), .r (.v (.int .i64 0))]) []) fun h => qU h fun h => qv h qAm fun h => gD h 20005 ih.2)
  ·intro y0 y1 r h
   rw [qdr] at h
   exact g (gU2 h (.stuck 5001) fun h => gL h)
theorem qPa (k a r) (h : qqB k a = some r): qGx a r := qO Tryz.f33 (go (qHW k) [] qAU [.frz 4 false (RTy.list T18), .autoB [4, 5] true []] (qv h qlW fun h => qu h fun h => qv h qRg fun h => gD h 10005 (qBG k k).1))
theorem qM2 {k a} (h : (qqB k a).isSome): qGx a (qqR k a) := qJ h (qPa k a)
abbrev qEA : Type := List T18.T × Int
def qC7 (r : qEA) : AV := .tup [ro T18 r.1, ri r.2]
abbrev qMe (a : T17.T) (r : qEA) : Prop := CC Tryz.prog 15 [.agg (qB (qr T17 a))] [] (qC7 r) (nb r)
def qxk (k : Nat) (a : T17.T) : Option qEA :=
 if ((qqB k a).isSome) then
 some ((qqR k a).1, (qqR k a).2)
 else none
def qoP := fun k a => (qxk k a).getD ([], 0)
def qRr (k : Nat) : Ke := (15, mo 1, fun
 | [.agg b], [] => (qX [] T17 b).bind fun a => some (.one (qC7 (qoP k a), []))
 | _, _ => none)
theorem qRJ (k a r) (h : qxk k a = some r): qMe a r := qO Tryz.f15 (go (qA [qIl k, qN3 k]) [] [] [.frz 2 false (RTy.list T18), .autoB [2, 3] true []] (qv h qM2 fun h => gL h))
theorem qRf {k a} (h : (qxk k a).isSome): qMe a (qoP k a) := qJ h (qRJ k a)
end
abbrev vm := Int × Int × Int
theorem qhr (k : Nat) (b : T17.T) (fnd : List vm) (x y z : Int) (h : fnd.length ≤ 1000000) : zl k b fnd x y z = some (b, fnd ++ [(x, y, z)]) := by
 unfold zl
 rw [qc (by simp only [qz]; omega)]
theorem qmi (k : Nat) (b : T17.T) (fnd : List vm) (x y z : Int) (h : fnd.length ≤ 1000000) : wg k b fnd x y z = (b, fnd ++ [(x, y, z)]) := by
 unfold wg; rw [qhr k b fnd x y z h]; rfl
end Go.AM
namespace Go.AM
open Go Go.Proofs
noncomputable section
def qAb (a : Int) (b : Int) (d : List T5.T) (e : List (I.T × I.T)) (f : Int) (r : Bool) : List (Nat × Blk) := [(0, .var 135 [ri a, ri b, ro T5 d, .own 1 0]), (0, .map false I I e)]
abbrev qGN (a : Int) (b : Int) (d : List T5.T) (e : List (I.T × I.T)) (f : Int) (r : Bool) : Prop := CC Tryz.prog 72 [.ptr 0 0 0, ri f] [.var 135 [ri a, ri b, ro T5 d, .own 1 0], .map false I I e] (rb r) (qAb a b d e f r)
def Xh (k : Nat) (a : Int) (b : Int) (d : List T5.T) (e : List (I.T × I.T)) (f : Int) : Option Bool :=
 some ((wb I f e).isSome)
def WF := fun k a b d e f => (Xh k a b d e f).getD false
def qr5 (k : Nat) : Ke := (72, fun
 | [.ptr _ _ _, _] => some [true, false]
 | _ => none, fun
 | [.ptr 0 0 0, .r (.v (.int .i64 f))], [.var 135 [.r (.v (.int .i64 a)), .r (.v (.int .i64 b)), .r (.ro tg_2_ qg_2), .own 1 0], .map false kg_3_ tg_3_ qg_3] => (qC tg_2_ T5 qg_2).bind fun d => (qlU kg_3_ tg_3_ I I qg_3).bind fun e => some (.one (rb (WF k a b d e f), qAb a b d e f (WF k a b d e f)))
 | _, _ => none)
theorem qPs (k a b d e f r) (h : Xh k a b d e f = some r): qGN a b d e f r := qO Tryz.f72 (go (qA []) [] [] [.autoB [4] true []] (gL h))
theorem qrC {k a b d e f} (h : (Xh k a b d e f).isSome): qGN a b d e f (WF k a b d e f) := qJ h (qPs k a b d e f)
abbrev qGV (a : List T3.T) (r : Int) : Prop := CC Tryz.prog 119 [ro T3 a] [] (ri r) (nb r)
def qFM := fun y0 y1 y2 y3 => (⟨qM 64 [(3, ri y0), (9, ro T3 y1), (10, ri y2), (11, ri y3)], []⟩ : St)
def qa5 (k : Nat) : Nat → Int → List T3.T → Int → Int → Option Int
 | 0, _, _, _, _ => none
 | j + 1, y0, y1, y2, y3 =>
 bif y3 < y2 then
 if (0 ≤ y3) ∧ (y3 < y1.length) then
 bif (decide ((y1.getD y3.toNat T3.dflt).2.1 < (1 : Int)) || decide ((y1.getD y3.toNat T3.dflt).2.1 > (17179869184 : Int)) || decide ((y1.getD y3.toNat T3.dflt).1 < (0 : Int)) || decide ((y1.getD y3.toNat T3.dflt).1 ≥ (17179869184 : Int))) then
 some 1
 else
 bif ((y1.getD y3.toNat T3.dflt).2.2 && decide (qa .i64 (qa .i64 ((y1.getD y3.toNat T3.dflt).1 - (y1.getD y3.toNat T3.dflt).2.1) + (1 : Int)) < (0 : Int)) || (! (y1.getD y3.toNat T3.dflt).2.2) && decide (qa .i64 ((y1.getD y3.toNat T3.dflt).1 + (y1.getD y3.toNat T3.dflt).2.1) > (17179869184 : Int))) then
 some 1
 else
 qa5 k j (qa .i64 (y0 + (y1.getD y3.toNat T3.dflt).2.1)) y1 y2 (qa .i64 (y3 + 1))
 else none
 else
 bif y0 > 17179869184 then
 some 21
 else
 some 0
def ZT (k : Nat) (a : List T3.T) : Option Int :=
 bif (↑a.length : Int) > (256 : Int) then
 some 8
 else
 qa5 k k 0 a (↑a.length : Int) 0
def vP := fun k a => (ZT k a).getD 0
def qbR (k : Nat) : Ke := (119, mo 1, fun
 | [.r (.ro d b)], [] => (qC d T3 b).bind fun a => some (.one (ri (vP k a), []))
 | _, _ => none)
def qA2 : List (Nat × List Cmd) := [(5, [.autoB [3, 9, 10, 11] false []])]
abbrev qQO := EP Tryz.f119 0 ri nb
theorem qBN (k) : ∀ j, (∀ y0 y1 y2 y3, qQO 5 (qFM y0 y1 y2 y3) (qa5 k j y0 y1 y2 y3))
 | 0 => by intros; exact e0
 | j + 1 => by
  have ih := @qBN k j
  ·intro y0 y1 y2 y3 r h
   rw [qa5] at h
   exact go (qA []) [] qA2 [.autoB [2] true []] (gS h (fun h => qU h fun h => qu h fun h => qu h fun h => gC h 5 (ih _ _ _ _ _)) fun h => qu h fun h => gL h)
theorem qPA (k a r) (h : ZT k a = some r): qGV a r := qO Tryz.f119 (go (qA []) [] qA2 [.autoB [2] true []] (qu h fun h => gC h 5 ((qBN k k) _ _ _ _ _)))
theorem qbk {k a} (h : (ZT k a).isSome): qGV a (vP k a) := qJ h (qPA k a)
abbrev qG6 (a : List T3.T) (r : Int) : Prop := CC Tryz.prog 171 [ro T3 a] [] (ri r) (nb r)
def qFS := fun y0 y1 y2 y3 => (⟨qM 18 [(3, ri y0), (6, ro T3 y1), (7, ri y2), (8, ri y3)], []⟩ : St)
def qa8 (k : Nat) : Nat → Int → List T3.T → Int → Int → Option Int
 | 0, _, _, _, _ => none
 | j + 1, y0, y1, y2, y3 =>
 bif y3 < y2 then
 if (0 ≤ y3) ∧ (y3 < y1.length) then
 qa8 k j (qa .i64 (y0 + (y1.getD y3.toNat T3.dflt).2.1)) y1 y2 (qa .i64 (y3 + 1))
 else none
 else
 some y0
def qcC (k : Nat) (a : List T3.T) : Option Int :=
 qa8 k k 0 a (↑a.length : Int) 0
def qf9 := fun k a => (qcC k a).getD 0
def qr8 (k : Nat) : Ke := (171, mo 1, fun
 | [.r (.ro d b)], [] => (qC d T3 b).bind fun a => some (.one (ri (qf9 k a), []))
 | _, _ => none)
def qA8 : List (Nat × List Cmd) := [(3, [.autoB [3, 6, 7, 8] false []])]
abbrev qQR := EP Tryz.f171 0 ri nb
theorem qBT (k) : ∀ j, (∀ y0 y1 y2 y3, qQR 3 (qFS y0 y1 y2 y3) (qa8 k j y0 y1 y2 y3))
 | 0 => by intros; exact e0
 | j + 1 => by
  have ih := @qBT k j
  ·intro y0 y1 y2 y3 r h
   rw [qa8] at h
   exact go (qA []) [] qA8 [.autoB [2] true []] (gS h (fun h => qU h fun h => gC h 3 (ih _ _ _ _ _)) fun h => gL h)
theorem qPM (k a r) (h : qcC k a = some r): qG6 a r := qO Tryz.f171 (go (qA []) [] qA8 [.autoB [2] true []] (gC h 3 ((qBT k k) _ _ _ _ _)))
theorem qrF {k a} (h : (qcC k a).isSome): qG6 a (qf9 k a) := qJ h (qPM k a)
def qwr (r : Int × Int) : AV := .tup [ri r.1, ri r.2]
abbrev qG0 (a : List T3.T) (r : Int × Int) : Prop := CC Tryz.prog 122 [ro T3 a] [] (qwr r) (nb r)
def qaJ (k : Nat) (a : List T3.T) : Option (Int × Int) :=
 if ((ZT k a).isSome) then
 bif (vP k a != (0 : Int)) then
 some (0, vP k a)
 else
 if ((qcC k a).isSome) then
 some (qf9 k a, 0)
 else none
 else none
def XQ := fun k a => (qaJ k a).getD (0, 0)
def qr7 (k : Nat) : Ke := (122, mo 1, fun
 | [.r (.ro d b)], [] => (qC d T3 b).bind fun a => some (.one (qwr (XQ k a), []))
 | _, _ => none)
theorem qPF (k a r) (h : qaJ k a = some r): qG0 a r := qO Tryz.f122 (go (qA [qbR k, qr8 k]) [] [] [.autoB [2, 3] true []] (qv h qbk fun h => qu h fun h => qv h qrF fun h => gL h))
theorem qrE {k a} (h : (qaJ k a).isSome): qG0 a (XQ k a) := qJ h (qPF k a)
def qwl (r : Int × Int) : AV := .tup [ri r.1, ri r.2]
def qAc (a : Int) (b : Int) (d : List T5.T) (e : List (I.T × I.T)) (f : Int) (r : Int × Int) : List (Nat × Blk) := [(0, .var 135 [ri a, ri b, ro T5 d, .own 1 0]), (0, .map false I I e)]
abbrev qGO (a : Int) (b : Int) (d : List T5.T) (e : List (I.T × I.T)) (f : Int) (r : Int × Int) : Prop := CC Tryz.prog 118 [.ptr 0 0 0, ri f] [.var 135 [ri a, ri b, ro T5 d, .own 1 0], .map false I I e] (qwl r) (qAc a b d e f r)
def Yy (k : Nat) (a : Int) (b : Int) (d : List T5.T) (e : List (I.T × I.T)) (f : Int) : Option (Int × Int) :=
 bif (f == 0) then
 some (a, b)
 else
 if ((0 : Int) ≤ (wb I f e).getD (0 : Int)) ∧ ((wb I f e).getD (0 : Int) < (↑d.length : Int)) then
 if ((qaJ k (d.getD (ql ((wb I f e).getD 0)) T5.dflt).2.2.2.2.2).isSome) then
 some ((d.getD (ql ((wb I f e).getD 0)) T5.dflt).2.2.2.1, (XQ k (d.getD (ql ((wb I f e).getD 0)) T5.dflt).2.2.2.2.2).1)
 else none
 else none
def Q7 := fun k a b d e f => (Yy k a b d e f).getD (0, 0)
def qCw (k : Nat) : Ke := (118, fun
 | [.ptr _ _ _, _] => some [true, false]
 | _ => none, fun
 | [.ptr 0 0 0, .r (.v (.int .i64 f))], [.var 135 [.r (.v (.int .i64 a)), .r (.v (.int .i64 b)), .r (.ro tg_2_ qg_2), .own 1 0], .map false kg_3_ tg_3_ qg_3] => (qC tg_2_ T5 qg_2).bind fun d => (qlU kg_3_ tg_3_ I I qg_3).bind fun e => some (.one (qwl (Q7 k a b d e f), qAc a b d e f (Q7 k a b d e f)))
 | _, _ => none)
theorem qPt (k a b d e f r) (h : Yy k a b d e f = some r): qGO a b d e f r := qO Tryz.f118 (go (qA [qr7 k]) [] [] [.autoB [4, 5] true []] (qu h fun h => qU h fun h => qv h qrE fun h => gL h))
theorem qrD {k a b d e f} (h : (Yy k a b d e f).isSome): qGO a b d e f (Q7 k a b d e f) := qJ h (qPt k a b d e f)
abbrev qzu (a : List T21.T) (r : Int) : Prop := CC Tryz.prog 116 [ro T21 a] [] (ri r) (nb r)
def qDT := fun y0 y1 y2 => (⟨qM 30 [(8, ro T21 y0), (9, ri y1), (10, ri y2)], []⟩ : St)
def X2 (k : Nat) : Nat → List T21.T → Int → Int → Option Int
 | 0, _, _, _ => none
 | j + 1, y0, y1, y2 =>
 bif y2 < y1 then
 if (0 ≤ y2) ∧ (y2 < y0.length) then
 bif (decide ((y0.getD y2.toNat T21.dflt).1 < (0 : Int)) || decide ((y0.getD y2.toNat T21.dflt).1 > (y0.getD y2.toNat T21.dflt).2) || decide ((y0.getD y2.toNat T21.dflt).2 > (17179869184 : Int))) then
 some 1
 else
 X2 k j y0 y1 (qa .i64 (y2 + 1))
 else none
 else
 some 0
def Y7 (k : Nat) (a : List T21.T) : Option Int :=
 bif (↑a.length : Int) > (256 : Int) then
 some 8
 else
 X2 k k a (↑a.length : Int) 0
def Vr := fun k a => (Y7 k a).getD 0
def qn1 (k : Nat) : Ke := (116, mo 1, fun
 | [.r (.ro d b)], [] => (qC d T21 b).bind fun a => some (.one (ri (Vr k a), []))
 | _, _ => none)
def qu6 : List (Nat × List Cmd) := [(4, [.autoB [8, 9, 10] false []])]
abbrev qMx := EP Tryz.f116 0 ri nb
theorem qvD (k) : ∀ j, (∀ y0 y1 y2, qMx 4 (qDT y0 y1 y2) (X2 k j y0 y1 y2))
 | 0 => by intros; exact e0
 | j + 1 => by
  have ih := @qvD k j
  ·intro y0 y1 y2 r h
   rw [X2] at h
   exact go (qA []) [] qu6 [.autoB [2] true []] (gS h (fun h => qU h fun h => qu h fun h => gC h 4 (ih _ _ _ _)) fun h => gL h)
theorem qLx (k a r) (h : Y7 k a = some r): qzu a r := qO Tryz.f116 (go (qA []) [] qu6 [.autoB [2] true []] (qu h fun h => gC h 4 ((qvD k k) _ _ _ _)))
theorem qnz {k a} (h : (Y7 k a).isSome): qzu a (Vr k a) := qJ h (qLx k a)
end
end Go.AM
namespace Go.AM
open Go
end Go.AM
namespace Go.AM
open Go Go.Proofs Go.Shelf Go.RowKit Go.Lib
variable {P : Program} {ρ : Ren}
structure Ext (w w' : World) : Prop where
 grew : Grew w w'
 frame : ∀ B, B < w.heap.size → w'.heap[B]? = w.heap[B]?
theorem Ext.refl (w : World) : Ext w w := ⟨.refl w, fun _ _ => rfl⟩
theorem Ext.trans {a b c : World} (h : Ext a b) (k : Ext b c) : Ext a c := ⟨h.grew.trans k.grew, fun B hB => (k.frame B (Nat.lt_of_lt_of_le hB h.grew.size)).trans (h.frame B hB)⟩
end Go.AM
namespace Go.AM
open Go Go.Proofs Go.Shelf Go.RowKit
section
variable {P : Program}
theorem qv3 {cx : Cx} {env : Env} {b : Blk} {h : Value} {w' : World} (hn : ∀ n, env n = none) (hh : ∀ n, ¬ cx.hid n) (hent : ∀ nm h, cx.ent nm = some h ↔ env nm = some (0, h))
  (hg : Grew cx.w0 w') (hfr : ∀ B, B < cx.w0.heap.size → w'.heap[B]? = cx.w0.heap[B]?) (hb : ∀ B, wx h = some B → cx.w0.heap.size ≤ B ∧ B < w'.heap.size)
  (hr : RepB w' (qn cx (env.put 0 0 h) w') (env.put 0 0 h) h b) : Mem cx (z6 0 [(0, b)]) w' (env.put 0 0 h) := by
 have nent : ∀ nm h0, cx.ent nm = some h0 → False := fun nm h0 e => by
  have := (hent nm h0).1 e
  rw [hn] at this; cases this
 have hput : ∀ nm v x, env.put 0 0 h nm = some (v, x) → nm = 0 ∧ v = 0 ∧ x = h := fun nm v x e => by
  unfold Env.put at e
  split at e
  ·rename_i hn
   simp at e
   exact ⟨hn, e.1.symm, e.2.symm⟩
  ·rw [hn] at e; cases e
 refine ⟨fun nm ver b' e => ?_, fun nm e _ => ?_, fun nm h => absurd h (hh nm), fun nm nm' v v' h h' B e e' _ _ => ?_, fun nm v h' B e hq => ?_, hg, fun B hB _ => hfr B hB, fun nm h h0 _ e0 => (nent nm h0 e0).elim, fun nm h0 e0 => (nent nm h0 e0).elim⟩
 ·have hn : nm = 0 ∧ ver = 0 ∧ b' = b := by
   simp only [z6, qS] at e
   cases hq : qy 0 nm <;> simp only [hq, qj, qg] at e
   ·cases e
   ·have := qk hq
    simp at e
    exact ⟨this.symm, e.1.symm, e.2.symm⟩
  obtain ⟨rfl, rfl, rfl⟩ := hn
  exact ⟨h, by simp [Env.put], hr⟩
 ·unfold Env.put
  split
  ·rename_i hn
   subst hn
   simp [z6, qS] at e
  ·exact hn nm
 ·rw [(hput _ _ _ e).1, (hput _ _ _ e').1]
 ·obtain ⟨rfl, rfl, rfl⟩ := hput _ _ _ e
  exact ⟨.inl (hb B hq).1, (hb B hq).2⟩
theorem qsT {w : World} {ok : Nat → Prop} {env : Env} {base : Nat} {e : TypeId} {τ : RTy} {l : List τ.T} {v : Value} {us : List Value} (hpos : 0 < τ.sz) (h : w.ownsRow base e τ.sz v l.length us) (hu : All2 (RepR w ok) us (wD τ l)) : RepB w ok env v (.row e τ l) ∧ ∀ B, wx v = some B → base ≤ B ∧ B < w.heap.size := by
 obtain ⟨hl, ⟨rfl, h0⟩ | ⟨g, cap, cur, rfl, hg, hh, hcap, hmx, hs, ht⟩⟩ := h
 ·have : l = [] := List.length_eq_zero_iff.1 h0
  subst this
  exact ⟨.rowNil _ _ _, fun B hB => by simp [wx] at hB⟩
 ·by_cases hc : cap = 0
  ·have hl0 : l.length = 0 := by omega
   have : l = [] := List.length_eq_zero_iff.1 hl0
   subst this; subst hc
   exact ⟨.rowNil _ _ _, fun B hB => by simp [wx] at hB⟩
  ·refine ⟨.row g e τ l cap cur hh hcap (by omega) hmx hs fun k hk => ?_, fun B hB => ?_⟩
   ·have := hu.get Go.undef .undef k (by rw [wF]; exact hk)
    rw [← ht] at this
    simpa [List.getElem?_take, hk] using this
   ·rw [zT (by omega)] at hB
    simp at hB; subst hB
    exact ⟨hg, (Array.getElem?_eq_some_iff.1 hh).1⟩
open Go.RowKit Go.Lib in
set_option maxHeartbeats 2000000 in
set_option maxRecDepth 100000 in
theorem qtS {ρ : Ren} (L : SlLaysE0.n41 P ρ) (i0 : TypeInfo) (z : Value) (size bytes : Nat) (hi : P.info? (ρ.t 23) = some i0) (hz0 : i0.zero = some z) (hz1 : i0.size = size) (hz2 : i0.bytes = bytes) (hzs : z.cells.size = size) (hsz : 0 < size)
  (z23 : ∀ w, (Go.sizeOf (ρ.t 23)).run P w = .ok size w) (ad : Addr) (c : Nat) (w : World) :
  Calls P (ρ.f 41) #[.slice (some ad) 0 c] w fun e w' => ∃ v', e = .returned v' ∧ w'.ownsRow w.heap.size (ρ.t 23) size v' 0 [] ∧ Below w.heap.size w w' := by
 have mixed := L.mixed; have t4 := L.t4; have a4 := L.a4; have z4 := L.z4; have v4 := L.v4; have t22 := L.t22; have a22 := L.a22; have z22 := L.z22; have v22 := L.v22
 have q22 : ∀ (w : World) (a : Option Addr) (n c n' c' : Nat), (binOp .eql (ρ.t 22) (.slice a n c) (.slice none n' c')).run P w = .ok (.bool a.isNone) w := fun w a n c n' c' => Lib.run_eql_slice_nil w _ _ a n c n' c' L.t22
 have u22 : ∀ w, Sem.run P (underlying (ρ.t 22)) w = .ok (TypeDesc.slice (ρ.t 23)) w := run_underlying t22
 obtain ⟨_, _, FG⟩ := L.f41
 go_enter FG, SlBodyN.n41_ntmps ρ
 go_wp2_with (at_builtin; refine wpList_append_own _ rfl _ _ (ρ.t 22) rfl w.heap.size (ρ.t 23) i0 z size bytes t22 hi hz0 hz1 hz2 hzs hsz _ _ _ rfl (World.ownsRow_made w #[] 0 (qR _) (Q9 _) (by simp)) ad 0 c [] rfl ?qc1 ?qc2 ?qc3 ?qc4 ?qc5 ?qc6 ?_)
 case qc1 => simp
 case qc2 => intro j u hj; simp at hj
 case qc3 => intro u hu; simp at hu
 case qc4 => simp [maxLen]
 case qc5 => simp
 case qc6 => simp
 intro v' w1 hown hgrow hnil
 go_wp2
 go_ret
 refine ⟨v', rfl, by simpa using hown, ?_⟩
 exact ((Below.refl _ w).alloc (qR _) _).grown hgrow (by simp) (by intro k hk; simp [Value.ownBlock] at hk; omega)
theorem qEL [GT P] {ρ : Ren} (L : SlLaysE0.n41 P ρ) {τ : RTy} {i0 : TypeInfo} {z : Value} (hi : P.info? (ρ.t 23) = some i0) (hz0 : i0.zero = some z) (hz1 : i0.size = τ.sz) (hzs : z.cells.size = τ.sz) (hpos : 0 < τ.sz) (hby : 0 < i0.bytes) (z23 : ∀ w, (Go.sizeOf (ρ.t 23)).run P w = .ok τ.sz w)
  (hf : ∃ fn c, P.funcs[ρ.f 41]? = some fn ∧ fn.body = some c ∧ (fn.name == "runtime.NumGoroutine") = false) (l : List τ.T) (hbig : l.length * i0.bytes ≤ 140737488355328) : CC P (ρ.f 41) [.r (.ro τ l)] [] (.own 0 0) [(0, .row (ρ.t 23) τ l)] := by
 refine ⟨hf, fun cx env vs hwf hG hh hent hm hs hargs => ?_⟩
 have none : ∀ n, env n = none := fun n => hm.dom n rfl (hh n)
 have hvs : vs = #[vs.getD 0 Go.undef] := by
  refine Array.ext (by rw [hs]; rfl) fun i hi1 hi2 => ?_
  have : i = 0 := by simpa using hi2
  subst this
  simp [hi1]
 have hr := hargs 0 (by simp)
 simp only [List.getD_cons_zero] at hr
 rw [hvs]
 generalize vs.getD 0 Go.undef = u at hr
 have hlen : l.length ≤ maxLen := by
  have : l.length ≤ l.length * i0.bytes := Nat.le_mul_of_pos_right _ hby
  unfold maxLen; omega
 have fin : ∀ {v' : Value} {w' : World} {us : List Value}, w'.ownsRow cx.w0.heap.size (ρ.t 23) τ.sz v' l.length us → Below cx.w0.heap.size cx.w0 w' → All2 (RepR cx.w0 (qn cx env cx.w0)) us (wD τ l) →
   ∃ v env', (Ending.returned v' : Ending) = .returned v ∧ Mem cx (z6 0 [(0, .row (ρ.t 23) τ l)]) w' env' ∧ Rep w' (qn cx env' w') env' v (.own 0 0) := fun {v' w' us} ho hB hu => by
  have ok' : ∀ B, qn cx env cx.w0 B → qn cx (env.put 0 0 v') w' B := fun B ⟨h1, h2, h3⟩ => by
   refine ⟨h1, Nat.lt_of_lt_of_le h2 hB.size, fun nm ver h e q => ?_⟩
   unfold Env.put at e
   split at e
   ·simp at e
    obtain ⟨rfl, rfl⟩ := e
    obtain ⟨_, ⟨rfl, _⟩ | ⟨g, cap, cur, rfl, hg, _⟩⟩ := ho
    ·simp [wx] at q
    ·cases cap with
     | zero => simp [wx] at q
     | succ c => simp [wx] at q; omega
   ·rw [none] at e; cases e
  have hu' : All2 (RepR w' (qn cx (env.put 0 0 v') w')) us (wD τ l) := hu.mono fun _ _ h => h.mono ok' fun B o hB' => zr (hB.block B hB'.2.1) o
  obtain ⟨h1, h2⟩ := qsT (env := env.put 0 0 v') hpos ho hu'
  exact ⟨v', env.put 0 0 v', rfl, qv3 none hh hent ⟨hB.size, hB.os, hB.output⟩ (fun B hB' => hB.block B hB') h2 h1, .own ⟨0, _, by simp [Env.put], qR _, fun _ => rfl⟩⟩
 have nilC : ∀ cap, l = [] → Calls P (ρ.f 41) #[.slice Option.none 0 cap] cx.w0 fun e w' => ∃ v env', e = .returned v ∧ Mem cx (z6 0 [(0, .row (ρ.t 23) τ l)]) w' env' ∧ Rep w' (qn cx env' w') env' v (.own 0 0) := fun cap h0 => by
  refine (AnyE.slices_Clone_nil L 0 cap cx.w0).mono fun e w' ⟨he, hw⟩ => ?_
  subst hw; subst h0; subst he
  exact fin (us := []) ⟨by simp, .inl ⟨rfl, rfl⟩⟩ (Below.refl _ _) .nil
 have some_ : ∀ (B o cap : Nat) (us : List Value), us.length = l.length * τ.sz → (∀ k, k < l.length * τ.sz → cx.w0.cell? ⟨B, o + k, Option.none⟩ = some (us.getD k Go.undef)) → All2 (RepR cx.w0 (qn cx env cx.w0)) us (wD τ l) →
   Calls P (ρ.f 41) #[.slice (some ⟨B, o, Option.none⟩) l.length cap] cx.w0 fun e w' => ∃ v env', e = .returned v ∧ Mem cx (z6 0 [(0, .row (ρ.t 23) τ l)]) w' env' ∧ Rep w' (qn cx env' w') env' v (.own 0 0) := fun B o cap us h1 h2 h3 => by
  refine (AnyE.slices_Clone L i0 z τ.sz i0.bytes hi hz0 hz1 rfl hzs hpos z23 B o l.length cap us cx.w0 h1 hlen hbig (fun j u hu => ?_) (qbp τ l us h3)).mono fun e w' ⟨v', he, ho, _, hB⟩ => ?_
  ·obtain ⟨hj, hv⟩ := List.getElem?_eq_some_iff.1 hu
   rw [h2 j (by omega)]
   simp [hj, hv]
  ·subst he
   exact fin ho hB h3
 cases hr with
 | r h =>
  cases h with
  | nil _ a cap =>
   cases a with
   | none => exact nilC cap rfl
   | some a =>
    obtain ⟨B, o, q⟩ := a
    cases q with
    | none => exact some_ B o cap [] (by simp) (fun k hk => by simp at hk) .nil
    | some q =>
     refine (qtS L i0 z τ.sz i0.bytes hi hz0 hz1 rfl hzs hpos z23 ⟨B, o, some q⟩ cap cx.w0).mono fun e w' ⟨v', he, ho, hB⟩ => ?_
     subst he
     exact fin ho hB .nil
  | ro _ _ B o cap g hB hcap hc hr =>
   obtain ⟨us, h1, h2, h3⟩ := qaQ (RepR.ro τ l B o cap g hB hcap hc hr)
   exact some_ B o cap us h1 h2 h3
end
end Go.AM
namespace Go.AM
open Go Go.Proofs Go.Shelf Go.RowKit Go.Sort
def vR (τ : RTy) : List τ.T → List Value
 | [] => []
 | x :: l => wy τ x ++ vR τ l
theorem qcq {τ : RTy} (hf : τ.flat = true) : ∀ l : List τ.T, wD τ l = (vR τ l).map .v
 | [] => rfl
 | x :: l => by simp [wD, vR, ZJ τ x hf, qcq hf l]
theorem Qp {τ : RTy} (hf : τ.flat = true) (l : List τ.T) : (vR τ l).length = l.length * τ.sz := by
 rw [← wF, qcq hf]; simp
theorem qt5 {w : World} {ok : Nat → Prop} {u x : Value} (h : RepR w ok u (.v x)) : u = x := by
 cases h; rfl
section
variable {P : Program}
def qIz (P : Program) [GT P] (f : FuncId) (τ : RTy) (e : TypeId) (l l' : List τ.T) (ys : List Value) : Prop :=
 (l = [] → ∀ (w : World) (a : Option Addr), GT.G P w → Calls P f (.slice a 0 0 :: ys).toArray w fun en w' => en = .returned (.tuple #[]) ∧ Grew w w' ∧ ∀ B, B < w.heap.size → w'.heap[B]? = w.heap[B]?) ∧
 ∀ (w : World) (B cap : Nat) (cur : Array Value), GT.G P w → w.heap[B]? = some (.cells cur e (0, 0)) → l.length ≤ cap → 0 < cap → cap ≤ maxLen → cur.size = cap * τ.sz → (∀ k, k < l.length * τ.sz → cur.getD k Go.undef = (vR τ l).getD k Go.undef) →
  Calls P f (.slice (some ⟨B, 0, none⟩) l.length cap :: ys).toArray w fun en w' => en = .returned (.tuple #[]) ∧ Grew w w' ∧ (∀ B', B' < w.heap.size → B' ≠ B → w'.heap[B']? = w.heap[B']?) ∧
   ∃ cur', w'.heap[B]? = some (.cells cur' e (0, 0)) ∧ cur'.size = cur.size ∧ ∀ k, k < l.length * τ.sz → cur'.getD k Go.undef = (vR τ l').getD k Go.undef
theorem qlV [GT P] {f : FuncId} {τ : RTy} {e : TypeId} {l l' : List τ.T} (hflat : τ.flat = true) (hlen : l'.length = l.length) {xs : List AV} {ys : List Value} (hxl : xs.length = ys.length)
  (hx : ∀ (w : World) (ok : Nat → Prop) (env : Env) (u : Value) (i : Nat), i < xs.length → Rep w ok env u (xs.getD i .undef) → u = ys.getD i Go.undef)
  (hf : ∃ fn c, P.funcs[f]? = some fn ∧ fn.body = some c ∧ (fn.name == "runtime.NumGoroutine") = false) (h : qIz P f τ e l l' ys) :
  CC P f (.own 0 0 :: xs) [.row e τ l] (.tup []) [(0, .row e τ l')] := by
 refine ⟨hf, fun cx env vs hwf hG hh hent hm hs hargs => ?_⟩
 obtain ⟨top, h1, h2, h3, h4⟩ := hG
 have hG := GT.keep _ _ h3 h1
 obtain ⟨u, heu, hrep⟩ := hm.blk 0 0 (.row e τ l) rfl
 have hvs : vs = (u :: ys).toArray := by
  refine Array.ext (by rw [hs]; simp [hxl]) fun i hi hi2 => ?_
  have hi3 : i < xs.length + 1 := by rw [hs] at hi; simpa using hi
  have hr := hargs i (by simpa using hi3)
  cases i with
  | zero =>
   simp only [List.getD_cons_zero] at hr
   have : vs.getD 0 Go.undef = u := by
    generalize vs.getD 0 Go.undef = z at hr
    cases hr with
    | own hR =>
     obtain ⟨cv, x, e1, e2, e3⟩ := hR
     rw [heu] at e1
     simp at e1
     obtain ⟨rfl, rfl⟩ := e1
     exact e3 rfl
   simp [hi] at this
   simpa using this
  | succ i =>
   simp only [List.getD_cons_succ] at hr
   have := hx _ _ _ _ i (by omega) hr
   have hi4 : i < ys.length := by omega
   simp [hi, hi4] at this
   simpa using this
 subst hvs
 have upd : ∀ {w' : World}, Grew cx.w0 w' → (∀ B, B < cx.w0.heap.size → wx u ≠ some B → w'.heap[B]? = cx.w0.heap[B]?) → RepB w' (qn cx (env.put 0 0 u) w') (env.put 0 0 u) u (.row e τ l') →
   ∃ v env', (Ending.returned (.tuple #[]) : Ending) = .returned v ∧ Mem cx (z6 0 [(0, .row e τ l')]) w' env' ∧ Rep w' (qn cx env' w') env' v (.tup []) := fun {w'} hg hk hr => by
  have T := wM (ver := 0) (b := .row e τ l') hm (hh 0) ⟨⟨.inr ⟨0, u, heu, .inr ⟨rfl, rfl⟩⟩, hg, fun B hB hq => hk B hB (hq 0 u heu), fun B q => .inr ⟨0, u, heu, q⟩⟩, hr⟩
  exact ⟨_, _, rfl, T.mem, .tup _ _ rfl fun i hi => by simp at hi⟩
 generalize hb : Blk.row e τ l = b at hrep
 cases hrep with
 | rowNil _ _ a =>
  cases hb
  refine (h.1 rfl cx.w0 a hG).mono fun en w' ⟨he, hg, hk⟩ => ?_
  subst he
  refine upd hg (fun B hB _ => hk B hB) ?_
  have : l' = [] := List.length_eq_zero_iff.1 hlen
  subst this
  exact .rowNil _ _ _
 | row B _ _ _ cap cur hB hcap h0 hmx hsz hc =>
  cases hb
  refine (h.2 cx.w0 B cap cur hG hB hcap h0 hmx hsz fun k hk => ?_).mono fun en w' ⟨he, hg, hk, cur', hB', hs', hc'⟩ => ?_
  ·have := hc k hk
   rw [qcq hflat] at this
   have hk2 : k < (vR τ l).length := by rw [Qp hflat]; exact hk
   have e1 : ((vR τ l).map RV.v).getD k .undef = .v ((vR τ l).getD k Go.undef) := by simp [hk2]
   rw [e1] at this
   exact qt5 this
  ·subst he
   have hhb : wx (.slice (some ⟨B, 0, none⟩) l.length cap) = some B := zT h0
   refine upd hg (fun B' hB2 hq => hk B' hB2 fun q => hq (by rw [hhb, q])) ?_
   have R := RepB.row (env := env.put 0 0 (.slice (some ⟨B, 0, none⟩) l.length cap)) (ok := qn cx (env.put 0 0 (.slice (some ⟨B, 0, none⟩) l.length cap)) w') B e τ l' cap cur' hB' (by omega) h0 hmx (by rw [hs', hsz]) fun k hk => by
    rw [hlen] at hk
    rw [hc' k hk, qcq hflat]
    have hk2 : k < (vR τ l').length := by rw [Qp hflat, hlen]; exact hk
    simp [hk2]
    exact .v _
   rw [hlen] at R
   exact R
 | _ => cases hb
theorem qlY {w : World} {B : Nat} {cur : Array Value} {e : TypeId} (hB : w.heap[B]? = some (.cells cur e (0, 0))) {F : Array Value} (hs : F.size ≤ cur.size) (h : ∀ k, k < F.size → cur.getD k Go.undef = F.getD k Go.undef) : Holds id w B 0 F := fun j hj => by
 have hj2 : j < cur.size := by omega
 refine ⟨?_, ?_⟩
 ·have := h j hj
  simp [hj, hj2] at this
  unfold World.cell?
  simp [hB, hj2, this, hj]
 ·unfold World.frozen?
  simp [hB]
theorem qhQ {w : World} {B : Nat} {cur : Array Value} {e : TypeId} (n : Nat) (hB : w.heap[B]? = some (.cells cur e (0, 0))) (F : Array Value) (os : Array Obj) (hs : F.size ≤ cur.size) :
  let w' := grow (putRow id (Sort.ahead w n) B 0 F) os
  Grew w w' ∧ (∀ B', B' < w.heap.size → B' ≠ B → w'.heap[B']? = w.heap[B']?) ∧ ∃ cur', w'.heap[B]? = some (.cells cur' e (0, 0)) ∧ cur'.size = cur.size ∧ ∀ k, k < F.size → cur'.getD k Go.undef = F.getD k Go.undef := by
 have hlt : B < w.heap.size := (Array.getElem?_eq_some_iff.1 hB).1
 have hsz : (putRow id (Sort.ahead w n) B 0 F).heap.size = w.heap.size := by simp [putRow, mapBlock, Sort.ahead]
 have hget : ∀ B', B' < w.heap.size → (grow (putRow id (Sort.ahead w n) B 0 F) os).heap[B']? = (w.heap.modify B (onCells (putCells id 0 F)))[B']? := fun B' hB' => by
  show (_ ++ os)[B']? = _
  rw [Array.getElem?_append_left (by rw [hsz]; exact hB')]
  rfl
 refine ⟨⟨?_, rfl, rfl⟩, fun B' hB' hne => ?_, putCells id 0 F cur, ?_, by simp [putCells], fun k hk => ?_⟩
 ·show _ ≤ (_ ++ os).size
  simp [hsz]
 ·rw [hget B' hB', Array.getElem?_modify]
  simp [Ne.symm hne]
 ·rw [hget B hlt, Array.getElem?_modify]
  simp [hB, onCells]
 ·have : k < cur.size := by omega
  simp [putCells, this, hk]
theorem qtR [GT P] {ρ : Ren} (L : Lays.n189 P ρ) (hf : ∃ fn c, P.funcs[ρ.f 189]? = some fn ∧ fn.body = some c ∧ (fn.name == "runtime.NumGoroutine") = false) (e : TypeId) (l : List Int) (hb : l.length < 4611686018427387904) :
  CC P (ρ.f 189) [.own 0 0] [.row e (.int .i64) l] (.tup []) [(0, .row e (.int .i64) (l.mergeSort fun x y => decide (x ≤ y)))] := by
 have hv : ∀ l : List Int, vR (.int .i64) l = l.map (Value.int .i64) := fun l => by
  induction l with
  | nil => rfl
  | cons x l ih => simp [vR, wy, ih]
 refine qlV (τ := .int .i64) (e := e) (l := l) (xs := []) (ys := []) rfl (List.length_mergeSort l) rfl (fun _ _ _ _ i hi => by simp at hi) hf ⟨fun _ w a _ => ?_, fun w B cap cur hG hB hcap h0 hmx hsz hc => ?_⟩
 ·refine (Any.slices_Sort_int_none L a 0 w).mono fun en w' ⟨he, hw⟩ => ⟨he, ?_⟩
  subst hw
  exact ⟨Grew.refl _, fun _ _ => rfl⟩
 ·have hsz' : cur.size = cap := by rw [hsz]; simp [RTy.sz]
  have hF : Holds (Value.int .i64) w B 0 l.toArray := fun j hj => by
   have hj : j < l.length := by simpa using hj
   have := (qlY hB (F := (l.map (Value.int .i64)).toArray) (by simp; omega) fun k hk => by
    have hk : k < l.length := by simpa using hk
    have := hc k (by simpa [RTy.sz] using hk)
    rw [hv] at this
    simpa using this) j (by simpa using hj)
   simpa [hj] using this
  refine (Any.slices_Sort_int L B 0 cap l w hF (Array.getElem?_eq_some_iff.1 hB).1 hb).mono fun en w' ⟨he, n, os, hw⟩ => ⟨he, ?_⟩
  have e0 : ∀ m : List Int, putRow (Value.int .i64) (Sort.ahead w n) B 0 m.toArray = putRow id (Sort.ahead w n) B 0 (m.map (Value.int .i64)).toArray := fun m => by
   unfold putRow
   congr 1
   funext c
   unfold putCells
   refine Array.ext (by simp) fun i h1 h2 => ?_
   by_cases q : i < m.length
   ·simp [q]
   ·simp [q]
  rw [e0] at hw
  subst hw
  have := qhQ n hB ((l.mergeSort fun x y => decide (x ≤ y)).map (Value.int .i64)).toArray os (by simp; omega)
  refine ⟨this.1, this.2.1, ?_⟩
  obtain ⟨cur', h1, h2, h3⟩ := this.2.2
  refine ⟨cur', h1, h2, fun k hk => ?_⟩
  rw [h3 k (by simpa [RTy.sz] using hk), hv]
  simp
end
end Go.AM
namespace Go.AM
open Go Go.Proofs Go.Shelf Go.RowKit Go.Sort
section
variable {P : Program}
theorem qjQ {α : Type} [Inhabited α] {τ : RTy} (hf : τ.flat = true) (zb : α → τ.T) (hpos : 0 < τ.sz) (d : Array α) :
  Sort.flatK (fun a => wy τ (zb a)) τ.sz d = (vR τ (d.toList.map zb)).toArray := by
 have hl : ∀ (l : List α) (j i : Nat), j < l.length → i < τ.sz → (vR τ (l.map zb)).getD (j * τ.sz + i) Go.undef = (wy τ (zb (l.getD j default))).getD i Go.undef := fun l => by
  induction l with
  | nil => intro j i h; simp at h
  | cons x l ih =>
   intro j i hj hi
   have hv := Qe τ (zb x) hf
   cases j with
   | zero => simp [vR, List.getElem?_append, hv, hi]
   | succ j =>
    have := ih j i (by simpa using hj) hi
    have e1 : (j + 1) * τ.sz + i - τ.sz = j * τ.sz + i := by rw [Nat.succ_mul]; omega
    have e2 : ¬ (j + 1) * τ.sz + i < τ.sz := by rw [Nat.succ_mul]; omega
    simpa [vR, List.getElem?_append, hv, e1, e2] using this
 refine ext_get! (by simp [Sort.size_flatK, Qp hf]) fun t ht => ?_
 have ht' : t < d.size * τ.sz := by simpa using ht
 rw [Sort.get_flatK _ _ _ _ ht']
 have hd : t / τ.sz < d.size := Nat.div_lt_of_lt_mul (by rw [Nat.mul_comm]; exact ht')
 have := hl d.toList (t / τ.sz) (t % τ.sz) (by simpa using hd) (Nat.mod_lt _ hpos)
 rw [Nat.mul_comm, Nat.div_add_mod] at this
 have h2 : t < (vR τ (d.toList.map zb)).length := by rw [Qp hf]; simpa using ht'
 have h3 : t % τ.sz < (wy τ (zb (d.toList.getD (t / τ.sz) default))).length := by rw [Qe _ _ hf]; exact Nat.mod_lt _ hpos
 have e4 : d[t / τ.sz]! = d.toList.getD (t / τ.sz) default := by simp [hd]
 rw [e4, getElem!_pos (vR τ (d.toList.map zb)).toArray t (by simpa using h2)]
 show (wy τ (zb (d.toList.getD (t / τ.sz) default)))[t % τ.sz]! = _
 rw [getElem!_pos (wy τ (zb (d.toList.getD (t / τ.sz) default))) (t % τ.sz) h3]
 rw [List.getD_eq_getElem?_getD, List.getD_eq_getElem?_getD, List.getElem?_eq_getElem h2, List.getElem?_eq_getElem h3] at this
 simpa using this.symm
theorem qtQ [GT P] {ρ : Ren} (L : SlLaysF0.n6 P ρ) (hf : ∃ fn c, P.funcs[ρ.f 6]? = some fn ∧ fn.body = some c ∧ (fn.name == "runtime.NumGoroutine") = false) {τ : RTy} (hflat : τ.flat = true) (hpos : 0 < τ.sz)
  (aE : ∀ w, (isAgg (ρ.t 24)).run P w = .ok true w) (zE : ∀ w, (Go.sizeOf (ρ.t 24)).run P w = .ok τ.sz w) (e : TypeId) {α : Type} [Inhabited α] (zb : α → τ.T) (cf : α → α → Int) (hO : SWO (ltOf cf)) (g : Nat)
  (eg : ∀ args w, (callFunc g args).run P w = .ok (.enter g args) w) (hcmp : ∀ blk n w, CmpLays P g #[] (fun a => wy τ (zb a)) τ.sz cf blk 0 n w) (d : Array α) (hsz : d.size < 4611686018427387904) (h1 : ∀ x, ∀ v ∈ wy τ (zb x), v.oneCell' = true) :
  CC P (ρ.f 6) [.own 0 0, .r (.v (.func (.func g) #[] #[]))] [.row e τ (d.toList.map zb)] (.tup []) [(0, .row e τ ((pdq (ltOf cf) d 0 d.size (Lib.bitLen d.size) true true).toList.map zb))] := by
 have hp := pdq_sorts (ltOf cf) hO d 0 d.size (Lib.bitLen d.size) true true (Q9 _) (qR _) (Or.inl rfl)
 have hps : (pdq (ltOf cf) d 0 d.size (Lib.bitLen d.size) true true).size = d.size := hp.1.1
 refine qlV (τ := τ) (e := e) (xs := [.r (.v (.func (.func g) #[] #[]))]) (ys := [.func (.func g) #[] #[]]) hflat (by simp [hps]) rfl (fun _ _ _ u i hi hr => ?_) hf ⟨fun h0 w a _ => ?_, fun w B cap cur hG hB hcap h0 hmx hs hc => ?_⟩
 ·have : i = 0 := by simpa using hi
  subst this
  simp only [List.getD_cons_zero] at hr ⊢
  exact qN hr
 ·refine (AnyF.slices_SortFunc_none L a 0 _ w).mono fun en w' ⟨he, hw⟩ => ⟨he, ?_⟩
  subst hw
  exact ⟨Grew.refl _, fun _ _ => rfl⟩
 ·have hl : (d.toList.map zb).length = d.size := by simp
  rw [hl] at hc hcap ⊢
  have hle : d.size * τ.sz ≤ cur.size := by rw [hs]; exact v7 _ hcap
  have hF : HoldsK (fun a => wy τ (zb a)) τ.sz w B 0 d := by
   unfold HoldsK
   rw [qjQ hflat zb hpos]
   refine qlY hB (by simp [Qp hflat]; exact hle) fun k hk => ?_
   have hk : k < d.size * τ.sz := by simpa [Qp hflat] using hk
   rw [hc k hk]
   simp
  refine (AnyQ.slices_SortFunc_eq L τ.sz aE zE (fun a => wy τ (zb a)) (fun x => Qe _ _ hflat) h1 cf hO g #[] B 0 cap d w eg (hcmp _ _ _) hF (Array.getElem?_eq_some_iff.1 hB).1 hsz).mono fun en w' ⟨he, n, os, hw⟩ => ⟨he, ?_⟩
  unfold sortWorldK putRowK at hw
  rw [qjQ hflat zb hpos] at hw
  subst hw
  have hls : (vR τ ((pdq (ltOf cf) d 0 d.size (Lib.bitLen d.size) true true).toList.map zb)).length = d.size * τ.sz := by rw [Qp hflat]; simp [hps]
  have := qhQ n hB (vR τ ((pdq (ltOf cf) d 0 d.size (Lib.bitLen d.size) true true).toList.map zb)).toArray os (by simp [hls]; exact hle)
  refine ⟨this.1, this.2.1, ?_⟩
  obtain ⟨cur', h1, h2, h3⟩ := this.2.2
  refine ⟨cur', h1, h2, fun k hk => ?_⟩
  rw [h3 k (by simpa [hls] using hk)]
  simp
end
end Go.AM
namespace Go.AM
open Go Go.Proofs Go.Shelf Go.RowKit Go.Sort
section
variable {P : Program}
theorem qEM [GT P] {f : FuncId} {xs : List Value} {e : TypeId} {τ : RTy} {l : List τ.T} (hf : ∃ fn c, P.funcs[f]? = some fn ∧ fn.body = some c ∧ (fn.name == "runtime.NumGoroutine") = false)
  (h : ∀ w : World, GT.G P w → Calls P f xs.toArray w fun en w' => ∃ v, en = .returned v ∧ Grew w w' ∧ (∀ B, B < w.heap.size → w'.heap[B]? = w.heap[B]?) ∧ (∀ ok env, RepB w' ok env v (.row e τ l)) ∧ ∀ B, wx v = some B → w.heap.size ≤ B ∧ B < w'.heap.size) :
  CC P f (zd xs) [] (.own 0 0) [(0, .row e τ l)] := by
 refine ⟨hf, fun cx env vs hwf hG hh hent hm hs hargs => ?_⟩
 obtain ⟨top, h1, h2, h3, h4⟩ := hG
 have hlen : ∀ l : List Value, (zd l).length = l.length := fun l => by induction l <;> simp [zd, *]
 have hget : ∀ (l : List Value) (i : Nat), i < l.length → (zd l).getD i .undef = .r (.v (l.getD i Go.undef)) := fun l => by
  induction l with
  | nil => intro i h; simp at h
  | cons x l ih =>
   intro i h
   cases i with
   | zero => rfl
   | succ i => simpa [zd] using ih i (by simpa using h)
 have hvs : vs = xs.toArray := by
  refine Array.ext (by rw [hs, hlen]; simp) fun i hi hi2 => ?_
  have hi3 : i < xs.length := by simpa using hi2
  have := hargs i (by rw [hlen]; exact hi3)
  rw [hget xs i hi3] at this
  have := qN this
  simpa [hi, hi3] using this
 subst hvs
 have none : ∀ n, env n = none := fun n => hm.dom n rfl (hh n)
 refine (h cx.w0 (GT.keep _ _ h3 h1)).mono fun en w' ⟨v, he, hg, hfr, hr, hb⟩ => ?_
 exact ⟨v, env.put 0 0 v, he, qv3 none hh hent hg hfr hb (hr _ _), .own ⟨0, _, by simp [Env.put], qR _, fun _ => rfl⟩⟩
theorem qIL [GT P] {ρ : Ren} (L : Lays8.n4 P ρ) (hf : ∃ fn c, P.funcs[ρ.f 4]? = some fn ∧ fn.body = some c ∧ (fn.name == "runtime.NumGoroutine") = false) (i0 : TypeInfo) (z : Value) (hi0 : P.info? (ρ.t 25) = some i0) (hz0 : i0.zero = some z) (τ : RTy) (hs : i0.size = τ.sz) (hzs : z.cells.size = τ.sz) (hpos : 0 < τ.sz) (hby : 0 < i0.bytes)
  (n : Nat) (hbig : n * i0.bytes ≤ 140737488355328) : CC P (ρ.f 4) [.r (.v (.slice none 0 0)), .r (.v (.int .i64 n))] [] (.own 0 0) [(0, .row (ρ.t 25) τ [])] := by
 have hn : n ≤ 140737488355328 := Nat.le_trans (Nat.le_mul_of_pos_right _ hby) hbig
 refine qEM (xs := [.slice none 0 0, .int .i64 n]) hf fun w _ => ?_
 by_cases h0 : n = 0
 ·subst h0
  refine (Any8.slices_Grow_room L none 0 0 0 w (qR _) (by omega) (by omega) (by omega)).mono fun en w' ⟨he, hw⟩ => ?_
  subst hw
  exact ⟨_, he, Grew.refl _, fun _ _ => rfl, fun _ _ => .rowNil _ _ _, fun B hB => by simp [wx] at hB⟩
 ·refine (Any8.slices_Grow_grow L i0 z hi0 hz0 (by omega) none 0 0 n [] w (qR _) (by omega) (by simpa using hbig) (by omega) (by simp) (fun _ => rfl) (fun a ha => by cases ha)).mono fun en w' ⟨he, hw⟩ => ?_
  have hge := grownCap_ge w (0 + n) 0 (ρ.t 25)
  have hm := grownCap_le_maxLen w (0 + n) 0 (ρ.t 25) (by unfold maxLen; omega)
  subst hw
  refine ⟨_, he, ⟨?_, rfl, rfl⟩, fun B hB => ?_, fun ok env => ?_, fun B hB => ?_⟩
  ·show w.heap.size ≤ (w.heap.push _).size
   simp
  ·show (w.heap.push _)[B]? = _
   rw [Array.getElem?_push]
   simp; omega
  ·refine .row w.heap.size (ρ.t 25) τ [] _ _ (heap_alloc_new w.drew _) (Q9 _) (by omega) hm ?_ fun k hk => by simp at hk
   simp only [wX] at hge ⊢
   simp [size_zeroCells, hzs, ← W9]
   congr 1
   omega
  ·rw [zT (by omega)] at hB
   simp at hB
   subst hB
   refine ⟨qR _, ?_⟩
   show _ < (w.heap.push _).size
   simp
end
end Go.AM
namespace Go.AM
open Go Go.Proofs Go.Shelf Go.RowKit Go.Sort
def ql4 (P : Program) (t : TypeId) (sz b : Nat) : Bool :=
 match P.info? t with
 | some i => match i.zero with
  | some z => qy i.size sz && (qy z.cells.size sz && (qy i.bytes b && (Nat.blt 0 sz && Nat.blt 0 b)))
  | none => false
 | none => false
theorem qjN {P : Program} {t : TypeId} {sz b : Nat} (h : ql4 P t sz b = true) : ∃ i z, P.info? t = some i ∧ i.zero = some z ∧ i.size = sz ∧ z.cells.size = sz ∧ i.bytes = b ∧ 0 < sz ∧ 0 < b := by
 unfold ql4 at h
 split at h
 ·rename_i i hi
  split at h
  ·rename_i z hz
   simp only [qh] at h
   exact ⟨i, z, hi, hz, qk h.1, qk h.2.1, qk h.2.2.1, wj h.2.2.2.1, wj h.2.2.2.2⟩
  ·cases h
 ·cases h
section
variable {P : Program}
theorem qAg [GT P] {ρ : Ren} (L : SlLaysE0.n41 P ρ) {τ : RTy} {b : Nat} (he : ql4 P (ρ.t 23) τ.sz b = true) (z23 : ∀ w, (Go.sizeOf (ρ.t 23)).run P w = .ok τ.sz w)
  (hf : ∃ fn c, P.funcs[ρ.f 41]? = some fn ∧ fn.body = some c ∧ (fn.name == "runtime.NumGoroutine") = false) (l : List τ.T) (hbig : l.length * b ≤ 140737488355328) : CC P (ρ.f 41) [.r (.ro τ l)] [] (.own 0 0) [(0, .row (ρ.t 23) τ l)] := by
 obtain ⟨i, z, h1, h2, h3, h4, h5, h6, h7⟩ := qjN he
 subst h5
 exact qEL L h1 h2 h3 h4 h6 h7 z23 hf l hbig
theorem qEN [GT P] {ρ : Ren} (L : Lays8.n4 P ρ) (hf : ∃ fn c, P.funcs[ρ.f 4]? = some fn ∧ fn.body = some c ∧ (fn.name == "runtime.NumGoroutine") = false) (τ : RTy) {b : Nat} (he : ql4 P (ρ.t 25) τ.sz b = true)
  (n : Int) (h0 : 0 ≤ n) (hbig : n.toNat * b ≤ 140737488355328) : CC P (ρ.f 4) [.r (.v (.slice none 0 0)), .r (.v (.int .i64 n))] [] (.own 0 0) [(0, .row (ρ.t 25) τ [])] := by
 obtain ⟨i, z, h1, h2, h3, h4, h5, h6, h7⟩ := qjN he
 subst h5
 obtain ⟨m, rfl⟩ := Int.eq_ofNat_of_zero_le h0
 exact qIL L hf i z h1 h2 τ h3 h4 h6 h7 m (by simpa using hbig)
def Z8 (x : Int) : Prop := 0 ≤ x ∧ x ≤ 4611686018427387904
instance (x : Int) : Decidable (Z8 x) := inferInstanceAs (Decidable (_ ∧ _))
abbrev Yu : Type := {x : Int × Int // Z8 x.1}
instance : Inhabited Yu := ⟨⟨(0, 0), by decide⟩⟩
def Q2 : List (Int × Int) → List Yu
 | [] => []
 | x :: l => if h : Z8 x.1 then ⟨x, h⟩ :: Q2 l else Q2 l
theorem qlm : ∀ l : List (Int × Int), (∀ x ∈ l, Z8 x.1) → (Q2 l).map (·.1) = l
 | [], _ => rfl
 | x :: l, h => by
  have h1 : Z8 x.1 := h x (by simp)
  simp [Q2, h1, qlm l fun y hy => h y (by simp [hy])]
def XF (x y : Yu) : Int := x.1.1 - y.1.1
theorem qfY (x y : Yu) : ltOf XF x y = decide (x.1.1 < y.1.1) := by
 unfold ltOf XF
 by_cases h : x.1.1 < y.1.1
 ·rw [qw h, qw (by omega)]
 ·rw [qq h, qq (by omega)]
theorem qh5 : SWO (ltOf XF) where
 irrefl x := by rw [qfY]; simp
 trans x y z h1 h2 := by rw [qfY] at *; rw [decide_eq_true_iff] at *; omega
 ntrans x y z h1 h2 := by rw [qfY] at *; rw [decide_eq_false_iff_not] at *; omega
def WL (l : List (Int × Int)) : List (Int × Int) := (pdq (ltOf XF) (Q2 l).toArray 0 (Q2 l).toArray.size (Lib.bitLen (Q2 l).toArray.size) true true).toList.map (·.1)
end
theorem Q0 {l : List (Int × Int)} (h : ∀ x ∈ l, Z8 x.1) : (WL l).Perm l := by
 have hp := (pdq_sorts (ltOf XF) qh5 (Q2 l).toArray 0 (Q2 l).toArray.size (Lib.bitLen (Q2 l).toArray.size) true true (Q9 _) (qR _) (Or.inl rfl)).1
 have h3 := hp.2.2
 have e1 : ∀ (d : Array Yu) (n : Nat), d.size = n → d.extract 0 n = d := fun d n hn => by subst hn; exact Array.extract_size
 rw [e1 _ _ hp.1, e1 _ _ rfl] at h3
 have := h3.map (fun x : Yu => x.1)
 unfold WL
 refine this.trans ?_
 show (List.map (fun x : Yu => x.1) (Q2 l)).Perm l
 rw [qlm l h]
theorem qqb {l : List (Int × Int)} : (WL l).Pairwise fun x y => x.1 ≤ y.1 := by
 have hp := pdq_sorts (ltOf XF) qh5 (Q2 l).toArray 0 (Q2 l).toArray.size (Lib.bitLen (Q2 l).toArray.size) true true (Q9 _) (qR _) (Or.inl rfl)
 have hs := hp.1.1
 have h := hp.2
 unfold WL
 generalize pdq (ltOf XF) (Q2 l).toArray 0 (Q2 l).toArray.size (Lib.bitLen (Q2 l).toArray.size) true true = d at hs h
 rw [List.pairwise_map, List.pairwise_iff_getElem]
 intro i j hi hj hij
 have := h i j (Q9 _) hij (by rw [← hs]; simpa using hj)
 have hi' : i < d.size := by simpa using hi
 have hj' : j < d.size := by simpa using hj
 rw [getElem!_pos d i hi', getElem!_pos d j hj'] at this
 rw [qfY, decide_eq_false_iff_not] at this
 simp only [Array.getElem_toList]
 omega
def qFr (l : List Int) : List Int := match l with
 | [] => []
 | [a] => [a]
 | [a, b] => bif decide (a ≤ b) then [a, b] else [b, a]
 | l => l.mergeSort fun x y => decide (x ≤ y)
theorem qwF (l : List Int) : qFr l = l.mergeSort fun x y => decide (x ≤ y) := by
 unfold qFr
 split
 ·simp
 ·simp
 ·rename_i a b
  have hp := List.mergeSort_perm [a, b] (fun x y => decide (x ≤ y))
  have hs := List.pairwise_mergeSort (le := fun x y : Int => decide (x ≤ y)) (fun a b c h1 h2 => by simp at h1 h2 ⊢; omega) (fun a b => by simp; omega) [a, b]
  generalize List.mergeSort [a, b] (fun x y => decide (x ≤ y)) = q at hp hs
  have hl := hp.length_eq
  match q, hl with
  | [c, d], _ =>
   simp at hs
   have h1 : c = a ∨ c = b := by simpa using hp.subset (by simp : c ∈ [c, d])
   have h2 : d = a ∨ d = b := by simpa using hp.subset (by simp : d ∈ [c, d])
   have h3 : a = c ∨ a = d := by simpa using hp.symm.subset (by simp : a ∈ [a, b])
   have h4 : b = c ∨ b = d := by simpa using hp.symm.subset (by simp : b ∈ [a, b])
   cases h : decide (a ≤ b)
   ·have h' := of_decide_eq_false h
    rw [qg]
    have : c = b ∧ d = a := by omega
    rw [this.1, this.2]
   ·have h' := of_decide_eq_true h
    rw [qj]
    have : c = a ∧ d = b := by omega
    rw [this.1, this.2]
 ·rfl
def qxQ (l : List (Int × Int)) : List (Int × Int) := match l with
 | [] => []
 | [a] => [a]
 | l => WL l
theorem qth {l : List (Int × Int)} (h : ∀ x ∈ l, Z8 x.1) : qxQ l = WL l := by
 unfold qxQ
 split
 ·have := (Q0 (l := []) (by simp)).length_eq
  exact (List.length_eq_zero_iff.1 this).symm
 ·rename_i a
  exact (List.perm_singleton.1 (Q0 h)).symm
 ·rfl
end Go.AM
/-
 DERIVED: THE SHELF's CONTRACTS AT THIS DUMP, IN PLAIN WORDS (tools/lay-plain.mjs out of 'TryShelf.lean', which tools/lay-shelf.mjs wrote): THE SAME DECLARATIONS UNDER THE SAME NAMES: 'import', 'namespace', 'open', 'def', 'theorem' AND NOTHING ELSE: no command of the shelf's: FOR A HAND-IN. Each laying: the table of numbers ('.._ren') and one theorem, a field a fact of the dump's own or the kernel's comparison; each contract: ONE APPLICATION.
-/
namespace Go.Proofs
open Go.Shelf
def Tryz.sort_int_ren : Go.Shelf.Ren := ⟨fun | 189 => 246 | 125 => 213 | 257 => 274 | 128 => 255 | 129 => 236 | 294 => 282 | 295 => 283 | 296 => 284 | 297 => 285 | 298 => 286 | 299 => 287 | 216 => 288 | 300 => 289 | 301 => 290 | 328 => 292 | 329 => 276 | 330 => 277 | 331 => 293 | 332 => 294 | 215 => 269 | 343 => 295 | n => n, fun | 28 => 25 | 3 => 3 | 46 => 270 | 0 => 0 | 51 => 284 | 53 => 254 | 4 => 4 | 183 => 296 | 182 => 295 | 131 => 190 | 5 => 5 | 9 => 9 | 218 => 312 | 222 => 316 | 228 => 326 | 229 => 181 | n => n, fun | n => n⟩
theorem Tryz.sort_int : Go.Proofs.Lays.n189 Tryz.prog Tryz.sort_int_ren := {
 mixed := by kernel_rfl
 f125 := Tryz.func213.trans (congrArg some (by kernel_rfl))
 f128 := Tryz.func255.trans (congrArg some (by kernel_rfl))
 f129 := Tryz.func236.trans (congrArg some (by kernel_rfl))
 f189 := Tryz.func246.trans (congrArg some (by kernel_rfl))
 f215 := Tryz.func269.trans (congrArg some (by kernel_rfl))
 f216 := Tryz.func288.trans (congrArg some (by kernel_rfl))
 f257 := Tryz.func274.trans (congrArg some (by kernel_rfl))
 f294 := Tryz.func282.trans (congrArg some (by kernel_rfl))
 f295 := Tryz.func283.trans (congrArg some (by kernel_rfl))
 f296 := Tryz.func284.trans (congrArg some (by kernel_rfl))
 f297 := Tryz.func285.trans (congrArg some (by kernel_rfl))
 f298 := Tryz.func286.trans (congrArg some (by kernel_rfl))
 f299 := Tryz.func287.trans (congrArg some (by kernel_rfl))
 f300 := Tryz.func289.trans (congrArg some (by kernel_rfl))
 f301 := Tryz.func290.trans (congrArg some (by kernel_rfl))
 f328 := Tryz.func292.trans (congrArg some (by kernel_rfl))
 f329 := Tryz.func276.trans (congrArg some (by kernel_rfl))
 f330 := Tryz.func277.trans (congrArg some (by kernel_rfl))
 f331 := Tryz.func293.trans (congrArg some (by kernel_rfl))
 f332 := Tryz.func294.trans (congrArg some (by kernel_rfl))
 f343 := Tryz.func295.trans (congrArg some (by kernel_rfl))
 t0 := Tryz.underlying0
 a0 := Tryz.isAgg0
 z0 := Tryz.sizeOf0
 v0 := Tryz.zeroValue0
 t3 := Tryz.underlying3
 a3 := Tryz.isAgg3
 z3 := Tryz.sizeOf3
 v3 := Tryz.zeroValue3
 t4 := Tryz.underlying4
 a4 := Tryz.isAgg4
 z4 := Tryz.sizeOf4
 v4 := Tryz.zeroValue4
 t5 := Tryz.underlying5
 a5 := Tryz.isAgg5
 z5 := Tryz.sizeOf5
 v5 := Tryz.zeroValue5
 t9 := Tryz.underlying9
 a9 := Tryz.isAgg9
 z9 := Tryz.sizeOf9
 v9 := Tryz.zeroValue9
 t28 := Tryz.underlying25
 a28 := Tryz.isAgg25
 z28 := Tryz.sizeOf25
 v28 := Tryz.zeroValue25
 t46 := Tryz.underlying270
 a46 := Tryz.isAgg270
 z46 := Tryz.sizeOf270
 v46 := Tryz.zeroValue270
 t51 := Tryz.underlying284
 a51 := Tryz.isAgg284
 z51 := Tryz.sizeOf284
 v51 := Tryz.zeroValue284
 t53 := Tryz.underlying254
 a53 := Tryz.isAgg254
 z53 := Tryz.sizeOf254
 v53 := Tryz.zeroValue254
 t131 := Tryz.underlying190
 a131 := Tryz.isAgg190
 z131 := Tryz.sizeOf190
 v131 := Tryz.zeroValue190
 t182 := Tryz.underlying295
 a182 := Tryz.isAgg295
 z182 := Tryz.sizeOf295
 v182 := Tryz.zeroValue295
 t183 := Tryz.underlying296
 a183 := Tryz.isAgg296
 z183 := Tryz.sizeOf296
 v183 := Tryz.zeroValue296
 t218 := Tryz.underlying312
 a218 := Tryz.isAgg312
 z218 := Tryz.sizeOf312
 v218 := Tryz.zeroValue312
 t222 := Tryz.underlying316
 a222 := Tryz.isAgg316
 z222 := Tryz.sizeOf316
 v222 := Tryz.zeroValue316
 t228 := Tryz.underlying326
 a228 := Tryz.isAgg326
 z228 := Tryz.sizeOf326
 v228 := Tryz.zeroValue326
 t229 := Tryz.underlying181
 a229 := Tryz.isAgg181
 z229 := Tryz.sizeOf181
 v229 := Tryz.zeroValue181 }
def Tryz.clone_span_ren : Go.Shelf.Ren := ⟨fun | 41 => 167 | n => n, fun | 22 => 92 | 23 => 91 | 4 => 4 | n => n, fun | n => n⟩
theorem Tryz.clone_span : Go.Proofs.SlLaysE0.n41 Tryz.prog Tryz.clone_span_ren := {
 mixed := by kernel_rfl
 f41 := ⟨Tryz.f167.name, by decide, Tryz.func167.trans (congrArg some (by kernel_rfl))⟩
 t4 := Tryz.underlying4
 a4 := Tryz.isAgg4
 z4 := Tryz.sizeOf4
 v4 := Tryz.zeroValue4
 t22 := Tryz.underlying92
 a22 := Tryz.isAgg92
 z22 := Tryz.sizeOf92
 v22 := Tryz.zeroValue92 }
def Tryz.sort_span_ren : Go.Shelf.Ren := ⟨fun | 6 => 168 | 15 => 213 | 14 => 212 | 28 => 255 | 29 => 236 | 20 => 247 | 21 => 248 | 22 => 249 | 23 => 250 | 24 => 251 | 25 => 252 | 26 => 253 | 27 => 254 | 46 => 275 | 47 => 276 | 48 => 277 | 49 => 278 | 50 => 279 | 57 => 291 | n => n, fun | 22 => 92 | 24 => 91 | 25 => 232 | 3 => 3 | 39 => 270 | 0 => 0 | 53 => 284 | 55 => 254 | 4 => 4 | 46 => 296 | 45 => 295 | 50 => 190 | 5 => 5 | 9 => 9 | 66 => 312 | 70 => 316 | 76 => 326 | 77 => 181 | n => n, fun | n => n⟩
theorem Tryz.sort_span : Go.Proofs.SlLaysF0.n6 Tryz.prog Tryz.sort_span_ren := {
 mixed := by kernel_rfl
 f6 := ⟨Tryz.f168.name, by decide, Tryz.func168.trans (congrArg some (by kernel_rfl))⟩
 f14 := ⟨Tryz.f212.name, by decide, Tryz.func212.trans (congrArg some (by kernel_rfl))⟩
 f15 := Tryz.func213.trans (congrArg some (by kernel_rfl))
 f20 := ⟨Tryz.f247.name, by decide, Tryz.func247.trans (congrArg some (by kernel_rfl))⟩
 f21 := ⟨Tryz.f248.name, by decide, Tryz.func248.trans (congrArg some (by kernel_rfl))⟩
 f22 := ⟨Tryz.f249.name, by decide, Tryz.func249.trans (congrArg some (by kernel_rfl))⟩
 f23 := ⟨Tryz.f250.name, by decide, Tryz.func250.trans (congrArg some (by kernel_rfl))⟩
 f24 := ⟨Tryz.f251.name, by decide, Tryz.func251.trans (congrArg some (by kernel_rfl))⟩
 f25 := ⟨Tryz.f252.name, by decide, Tryz.func252.trans (congrArg some (by kernel_rfl))⟩
 f26 := ⟨Tryz.f253.name, by decide, Tryz.func253.trans (congrArg some (by kernel_rfl))⟩
 f27 := ⟨Tryz.f254.name, by decide, Tryz.func254.trans (congrArg some (by kernel_rfl))⟩
 f28 := Tryz.func255.trans (congrArg some (by kernel_rfl))
 f29 := Tryz.func236.trans (congrArg some (by kernel_rfl))
 f46 := ⟨Tryz.f275.name, by decide, Tryz.func275.trans (congrArg some (by kernel_rfl))⟩
 f47 := Tryz.func276.trans (congrArg some (by kernel_rfl))
 f48 := Tryz.func277.trans (congrArg some (by kernel_rfl))
 f49 := ⟨Tryz.f278.name, by decide, Tryz.func278.trans (congrArg some (by kernel_rfl))⟩
 f50 := ⟨Tryz.f279.name, by decide, Tryz.func279.trans (congrArg some (by kernel_rfl))⟩
 f57 := ⟨Tryz.f291.name, by decide, Tryz.func291.trans (congrArg some (by kernel_rfl))⟩
 t0 := Tryz.underlying0
 a0 := Tryz.isAgg0
 z0 := Tryz.sizeOf0
 v0 := Tryz.zeroValue0
 t3 := Tryz.underlying3
 a3 := Tryz.isAgg3
 z3 := Tryz.sizeOf3
 v3 := Tryz.zeroValue3
 t4 := Tryz.underlying4
 a4 := Tryz.isAgg4
 z4 := Tryz.sizeOf4
 v4 := Tryz.zeroValue4
 t5 := Tryz.underlying5
 a5 := Tryz.isAgg5
 z5 := Tryz.sizeOf5
 v5 := Tryz.zeroValue5
 t9 := Tryz.underlying9
 a9 := Tryz.isAgg9
 z9 := Tryz.sizeOf9
 v9 := Tryz.zeroValue9
 t22 := Tryz.underlying92
 a22 := Tryz.isAgg92
 z22 := Tryz.sizeOf92
 v22 := Tryz.zeroValue92
 t25 := Tryz.underlying232
 a25 := Tryz.isAgg232
 z25 := Tryz.sizeOf232
 v25 := Tryz.zeroValue232
 t39 := Tryz.underlying270
 a39 := Tryz.isAgg270
 z39 := Tryz.sizeOf270
 v39 := Tryz.zeroValue270
 t45 := Tryz.underlying295
 a45 := Tryz.isAgg295
 z45 := Tryz.sizeOf295
 v45 := Tryz.zeroValue295
 t46 := Tryz.underlying296
 a46 := Tryz.isAgg296
 z46 := Tryz.sizeOf296
 v46 := Tryz.zeroValue296
 t50 := Tryz.underlying190
 a50 := Tryz.isAgg190
 z50 := Tryz.sizeOf190
 v50 := Tryz.zeroValue190
 t53 := Tryz.underlying284
 a53 := Tryz.isAgg284
 z53 := Tryz.sizeOf284
 v53 := Tryz.zeroValue284
 t55 := Tryz.underlying254
 a55 := Tryz.isAgg254
 z55 := Tryz.sizeOf254
 v55 := Tryz.zeroValue254
 t66 := Tryz.underlying312
 a66 := Tryz.isAgg312
 z66 := Tryz.sizeOf312
 v66 := Tryz.zeroValue312
 t70 := Tryz.underlying316
 a70 := Tryz.isAgg316
 z70 := Tryz.sizeOf316
 v70 := Tryz.zeroValue316
 t76 := Tryz.underlying326
 a76 := Tryz.isAgg326
 z76 := Tryz.sizeOf326
 v76 := Tryz.zeroValue326
 t77 := Tryz.underlying181
 a77 := Tryz.isAgg181
 z77 := Tryz.sizeOf181
 v77 := Tryz.zeroValue181 }
def Tryz.grow_span_ren : Go.Shelf.Ren := ⟨fun | 4 => 273 | n => n, fun | 22 => 92 | 25 => 91 | 3 => 3 | 4 => 4 | 9 => 9 | 20 => 20 | 0 => 0 | 2 => 3 | n => n, fun | n => n⟩
theorem Tryz.grow_span : Go.Proofs.Lays8.n4 Tryz.prog Tryz.grow_span_ren := {
 mixed := by kernel_rfl
 f4 := ⟨Tryz.f273.name, by decide, Tryz.func273.trans (congrArg some (by kernel_rfl))⟩
 t0 := Tryz.underlying0
 a0 := Tryz.isAgg0
 z0 := Tryz.sizeOf0
 v0 := Tryz.zeroValue0
 t3 := Tryz.underlying3
 a3 := Tryz.isAgg3
 z3 := Tryz.sizeOf3
 v3 := Tryz.zeroValue3
 t4 := Tryz.underlying4
 a4 := Tryz.isAgg4
 z4 := Tryz.sizeOf4
 v4 := Tryz.zeroValue4
 t9 := Tryz.underlying9
 a9 := Tryz.isAgg9
 z9 := Tryz.sizeOf9
 v9 := Tryz.zeroValue9
 t20 := Tryz.underlying20
 a20 := Tryz.isAgg20
 z20 := Tryz.sizeOf20
 v20 := Tryz.zeroValue20
 t22 := Tryz.underlying92
 a22 := Tryz.isAgg92
 z22 := Tryz.sizeOf92
 v22 := Tryz.zeroValue92 }
end Go.Proofs
namespace Go.AM
open Go Go.Proofs
noncomputable section
def qla (r : List T21.T) : AV := .own 0 0
def qnp (a : List T21.T) (r : List T21.T) : List (Nat × Blk) := [(0, .row 91 T21 r)]
abbrev qL4 (a : List T21.T) (r : List T21.T) : Prop := CC Tryz.prog 167 [ro T21 a] [] (qla r) (qnp a r)
def qbx (k : Nat) (a : List T21.T) : Option (List T21.T) := if a.length * 16 ≤ 140737488355328 then some a else none
def qam := fun k a => (qbx k a).getD []
def qKk (k : Nat) : Ke := (167, mo 1, fun
 | [.r (.ro d b)], [] => (qC d T21 b).bind fun a => some (.one (qla (qam k a), qnp a (qam k a)))
 | _, _ => none)
theorem qLr (k a r) (h : qbx k a = some r): CC Tryz.prog 167 [.r (.ro T21 a)] [] (qla r) (qnp a r) := by
 unfold qbx at h
 split at h
 ·rename_i q
  cases h
  exact qAg (τ := T21) Tryz.clone_span (by kernel_rfl) Tryz.sizeOf91 ⟨Tryz.f167, _, Tryz.func167, rfl, by kernel_rfl⟩ a q
 ·cases h
theorem qJn {k a} (h : (qbx k a).isSome): qL4 a (qam k a) := qJ h (qLr k a)
def qld (r : List T21.T) : AV := .tup []
def qns (a : List T21.T) (r : List T21.T) : List (Nat × Blk) := [(0, .row 91 T21 r)]
abbrev qL6 (a : List T21.T) (r : List T21.T) : Prop := CC Tryz.prog 168 [.own 0 0, .r (.v (.func (.func 169) #[] #[]))] [.row 91 T21 a] (qld r) (qns a r)
theorem qR1 (x y : Yu) (W : World) : Calls Tryz.prog 169 #[.agg #[.int .i64 x.1.1, .int .i64 x.1.2], .agg #[.int .i64 y.1.1, .int .i64 y.1.2]] W fun e w' => e = .returned (.int .i64 (XF x y)) ∧ ∃ q os', w' = Sort.grow (W.drewN q) os' := by
 have hw : RowKit.wrap64 (x.1.1 - y.1.1) = XF x y := by
  have h1 := x.2; have h2 := y.2
  unfold Z8 at h1 h2
  unfold RowKit.wrap64 XF
  omega
 go_enter Tryz.func169, Tryz.ntmps169
 go_wp2
 go_ret
 exact ⟨by rw [← hw]; rfl, 0, _, by rw [Sort.alloc_eq_grow, Sort.alloc_eq_grow, Sort.grow_grow]; rfl⟩
def qbz (k : Nat) (a : List T21.T) : Option (List T21.T) := if (a.all fun x => decide (Z8 x.1)) = true ∧ a.length < 4611686018427387904 then some (qxQ a) else none
def qcf := fun k a => (qbz k a).getD []
def qKm (k : Nat) : Ke := (168, fun
 | [.own _ _, .r (.v (.func (.func 169) _ _))] => some [true, false]
 | _ => none, fun
 | [.own 0 0, .r (.v (.func (.func 169) _ _))], [.row 91 d b] => (qC d T21 b).bind fun a => some (.one (qld (qcf k a), qns a (qcf k a)))
 | _, _ => none)
theorem qLu (k a r) (h : qbz k a = some r): CC Tryz.prog 168 [.own 0 0, .r (.v (.func (.func 169) #[] #[]))] [.row 91 T21 a] (qld r) (qns a r) := by
 unfold qbz at h
 split at h
 ·rename_i q
  cases h
  rw [qth (fun x hx => by simpa using vB.1 q.1 x hx)]
  have h1 : (Q2 a).map (·.1) = a := qlm a fun x hx => by simpa using vB.1 q.1 x hx
  have hl : (Q2 a).toArray.size = a.length := by
   have := congrArg qb h1
   simpa using this
  have := qtQ (P := Tryz.prog) Tryz.sort_span ⟨Tryz.f168, _, Tryz.func168, rfl, by kernel_rfl⟩ (τ := T21) rfl (by decide) Tryz.isAgg91 Tryz.sizeOf91 91 (α := Yu) (fun x => x.1) XF qh5 169 (enters_of Tryz.func169 (by kernel_rfl) rfl) (fun blk n w => fun _ _ _ _ x y => qR1 x y _) (Q2 a).toArray (by rw [hl]; exact q.2) (fun x v hv => by simp [wy] at hv; rcases hv with rfl | rfl <;> rfl)
  have e2 : (Q2 a).toArray.toList.map (fun x : Yu => x.1) = a := h1
  rw [e2] at this
  exact this
 ·cases h
theorem qJq {k a} (h : (qbz k a).isSome): qL6 a (qcf k a) := qJ h (qLu k a)
def qNK (k : Nat) (a : T21.T) (b : T21.T) : Option Int :=
 some (qa .i64 (a.1 - b.1))
def qQC := fun k a b => (qNK k a b).getD 0
def qKq (k : Nat) : Ke := (169, mo 2, fun
 | [.agg d, .agg e], [] => (qX [] T21 d).bind fun a => (qX [] T21 e).bind fun b => some (.one (ri (qQC k a b), []))
 | _, _ => none)
end
end Go.AM
namespace Go.AM
open Go Go.Proofs
noncomputable section
abbrev qlD : Type := List T21.T
def qlg (r : qlD) : AV := ro T21 r
abbrev qzy (a : List T21.T) (r : qlD) : Prop := CC Tryz.prog 117 [ro T21 a] [] (qlg r) (nb r)
def qDZ := fun y0 y1 y2 y3 y4 => (⟨qM 66 [(3, .own 1000000 0), (4, .ptr 1000001 0 0), (12, .own 1000002 0), (13, ri y0), (14, ri y1)], [(1000000, 0, .row 91 T21 y2), (1000001, 0, .var 91 (qB (qr T21 y3))), (1000002, 0, .row 91 T21 y4)]⟩ : St)
def vS (k : Nat) : Nat → Int → Int → List T21.T → T21.T → List T21.T → Option qlD
 | 0, _, _, _, _, _ => none
 | j + 1, y0, y1, y2, y3, y4 =>
 bif y1 < y0 then
 if (0 ≤ y1) ∧ (y1 < y4.length) then
 bif (decide ((y4.getD y1.toNat T21.dflt).1 ≥ (y4.getD y1.toNat T21.dflt).2) || Vd T21 (y4.getD y1.toNat T21.dflt) y3) then
 vS k j y0 (qa .i64 (y1 + 1)) y2 (y4.getD y1.toNat T21.dflt) y4
 else
 if (decide ((↑y2.length : Int) > (0 : Int)) = true → (0 : Int) ≤ qa .i64 ((↑y2.length : Int) - (1 : Int))) ∧ (decide ((↑y2.length : Int) > (0 : Int)) = true → qa .i64 ((↑y2.length : Int) - (1 : Int)) < (↑y2.length : Int)) then
 bif (decide ((↑y2.length : Int) > (0 : Int)) && decide ((y4.getD y1.toNat T21.dflt).1 ≤ (y2.getD (qa .i64 ((↑y2.length : Int) - (1 : Int))).toNat T21.dflt).2)) then
 if ((0 : Int) ≤ qa .i64 ((↑y2.length : Int) - (1 : Int))) ∧ (qa .i64 ((↑y2.length : Int) - (1 : Int)) < (↑y2.length : Int)) ∧ ((0 : Int) ≤ qa .i64 ((↑y2.length : Int) - (1 : Int))) ∧ (qa .i64 ((↑y2.length : Int) - (1 : Int)) < (↑y2.length : Int)) then
 vS k j y0 (qa .i64 (y1 + 1)) (y2.set (qa .i64 ((↑y2.length : Int) - 1)).toNat ((y2.getD (qa .i64 ((↑y2.length : Int) - 1)).toNat T21.dflt).1, if (y4.getD y1.toNat T21.dflt).2 > (y2.getD (qa .i64 ((↑y2.length : Int) - 1)).toNat T21.dflt).2 then (y4.getD y1.toNat T21.dflt).2 else (y2.getD (qa .i64 ((↑y2.length : Int) - 1)).toNat T21.dflt).2)) (y4.getD y1.toNat T21.dflt) y4
 else none
 else
 if ((y2.length + [y4.getD y1.toNat T21.dflt].length) * (16 : Nat) ≤ (140737488355328 : Nat)) then
 vS k j y0 (qa .i64 (y1 + 1)) (y2 ++ [y4.getD y1.toNat T21.dflt]) (y4.getD y1.toNat T21.dflt) y4
 else none
 else none
 else none
 else
 some y2
def Xg (k : Nat) (a : List T21.T) : Option qlD :=
 if ((qbx k a).isSome) then
 if ((qbz k (qam k a)).isSome) then
 vS k k (↑ (qb (qcf k (qam k a))) : Int) 0 ([]) (0, 0) (qcf k (qam k a))
 else none
 else none
def vZ := fun k a => (Xg k a).getD []
def qn2 (k : Nat) : Ke := (117, mo 1, fun
 | [.r (.ro d b)], [] => (qC d T21 b).bind fun a => some (.one (qlg (vZ k a), []))
 | _, _ => none)
def qzW (k : Nat) : Calld := qA [qKk k, qKm k, qKq k]
def qu8 : List (Nat × List Cmd) := [(6, [.row 3 91 T21, .autoB [3, 4, 12, 13, 14] false []])]
abbrev qMz := EP Tryz.f117 0 qlg nb
theorem qvF (k) : ∀ j, (∀ y0 y1 y2 y3 y4, qMz 6 (qDZ y0 y1 y2 y3 y4) (vS k j y0 y1 y2 y3 y4))
 | 0 => by intros; exact e0
 | j + 1 => by
  have ih := @qvF k j
  ·intro y0 y1 y2 y3 y4 r h
   rw [vS] at h
   exact go (qzW k) [] qu8 [.frz 2 false (RTy.list T21), .autoB [2] true []] (gS h (fun h => qU h fun h => gS h (fun h => gC h 6 (ih _ _ _ _ _ _)) fun h => qU h fun h => gS h (fun h => gN h YW fun h => gC h 6 (ih _ _ _ _ _ _)) fun h => qv h id fun h => gC h 6 (ih _ _ _ _ _ _)) fun h => gL h)
theorem qLB (k a r) (h : Xg k a = some r): qzy a r := qO Tryz.f117 (go (qzW k) [] qu8 [.frz 2 false (RTy.list T21), .autoB [2] true []] (qv h qJn fun h => qv h qJq fun h => gC h 6 ((qvF k k) _ _ _ _ _ _)))
theorem qiy {k a} (h : (Xg k a).isSome): qzy a (vZ k a) := qJ h (qLB k a)
def qlf (r : Int × Int) : AV := .tup [ri r.1, ri r.2]
abbrev qzx (a : List T21.T) (r : Int × Int) : Prop := CC Tryz.prog 69 [ro T21 a] [] (qlf r) (nb r)
def qDY := fun y0 y1 y2 y3 => (⟨qM 29 [(5, ri y0), (14, ro T21 y1), (15, ri y2), (16, ri y3)], []⟩ : St)
def X3 (k : Nat) : Nat → Int → List T21.T → Int → Int → Option (Int × Int)
 | 0, _, _, _, _ => none
 | j + 1, y0, y1, y2, y3 =>
 bif y3 < y2 then
 if (0 ≤ y3) ∧ (y3 < y1.length) then
 X3 k j (qa .i64 (y0 + qa .i64 ((y1.getD y3.toNat T21.dflt).2 - (y1.getD y3.toNat T21.dflt).1))) y1 y2 (qa .i64 (y3 + 1))
 else none
 else
 some (y0, 0)
def qbC (k : Nat) (a : List T21.T) : Option (Int × Int) :=
 if ((Y7 k a).isSome) then
 bif (Vr k a != (0 : Int)) then
 some (0, Vr k a)
 else
 if ((Xg k a).isSome) then
 X3 k k 0 (vZ k a) (↑ (qb (vZ k a)) : Int) 0
 else none
 else none
def XN := fun k a => (qbC k a).getD (0, 0)
def qKp (k : Nat) : Ke := (69, mo 1, fun
 | [.r (.ro d b)], [] => (qC d T21 b).bind fun a => some (.one (qlf (XN k a), []))
 | _, _ => none)
def qu7 : List (Nat × List Cmd) := [(6, [.autoB [5, 14, 15, 16] false []])]
abbrev qMy := EP Tryz.f69 0 qlf nb
theorem qvE (k) : ∀ j, (∀ y0 y1 y2 y3, qMy 6 (qDY y0 y1 y2 y3) (X3 k j y0 y1 y2 y3))
 | 0 => by intros; exact e0
 | j + 1 => by
  have ih := @qvE k j
  ·intro y0 y1 y2 y3 r h
   rw [X3] at h
   exact go (qA [qn1 k, qn2 k]) [] qu7 [.autoB [2, 3] true []] (gS h (fun h => qU h fun h => gC h 6 (ih _ _ _ _ _)) fun h => gL h)
theorem qLA (k a r) (h : qbC k a = some r): qzx a r := qO Tryz.f69 (go (qA [qn1 k, qn2 k]) [] qu7 [.autoB [2, 3] true []] (qv h qnz fun h => qu h fun h => qv h qiy fun h => gC h 6 ((qvE k k) _ _ _ _ _)))
theorem qJu {k a} (h : (qbC k a).isSome): qzx a (XN k a) := qJ h (qLA k a)
abbrev qG4 (a : T3.T) (b : Int) (r : Int) : Prop := CC Tryz.prog 209 [.agg (qB (qr T3 a)), ri b] [] (ri r) (nb r)
def Yz (k : Nat) (a : T3.T) (b : Int) : Option Int :=
 bif a.2.2 then
 some (qa .i64 (a.1 - b))
 else
 some (qa .i64 (a.1 + b))
def vz := fun k a b => (Yz k a b).getD 0
def qex (k : Nat) : Ke := (209, mo 2, fun
 | [.agg d, .r (.v (.int .i64 b))], [] => (qX [] T3 d).bind fun a => some (.one (ri (vz k a b), []))
 | _, _ => none)
theorem qPK (k a b r) (h : Yz k a b = some r): qG4 a b r := qO Tryz.f209 (go (qA []) [] [] [.autoB [4] true []] (qu h fun h => gL h))
theorem qg1 {k a b} (h : (Yz k a b).isSome): qG4 a b (vz k a b) := qJ h (qPK k a b)
def qwt (r : T21.T) : AV := .agg (qB (qr T21 r))
abbrev qG5 (a : T3.T) (r : T21.T) : Prop := CC Tryz.prog 165 [.agg (qB (qr T3 a))] [] (qwt r) (nb r)
def qfr (k : Nat) (a : T3.T) : Option T21.T :=
 if ((Yz k a (qa .i64 (a.2.1 - 1))).isSome) then
 some (if vz k a (qa .i64 (a.2.1 - 1)) < a.1 then vz k a (qa .i64 (a.2.1 - 1)) else a.1, qa .i64 ((if vz k a (qa .i64 (a.2.1 - 1)) > a.1 then vz k a (qa .i64 (a.2.1 - 1)) else a.1) + 1))
 else none
def wm := fun k a => (qfr k a).getD (T21).dflt
def qmD (k : Nat) : Ke := (165, mo 1, fun
 | [.agg b], [] => (qX [] T3 b).bind fun a => some (.one (qwt (wm k a), []))
 | _, _ => none)
theorem qPL (k a r) (h : qfr k a = some r): qG5 a r := qO Tryz.f165 (go (qA [qex k]) [] [] [.autoB [2] true []] (qv h qg1 fun h => gL h))
theorem qAw {k a} (h : (qfr k a).isSome): qG5 a (wm k a) := qJ h (qPL k a)
abbrev qzw (a : Bool) (b : Bool) (r : Bool) : Prop := CC Tryz.prog 211 [rb a, rb b] [] (rb r) (nb r)
def qel (k : Nat) (a : Bool) (b : Bool) : Option Bool :=
 some a
def qik := fun k a b => (qel k a b).getD false
def qvZ (k : Nat) : Ke := (211, mo 2, fun
 | [.r (.v (.bool a)), .r (.v (.bool b))], [] => some (.one (rb (qik k a b), []))
 | _, _ => none)
theorem qLz (k a b r) (h : qel k a b = some r): qzw a b r := qO Tryz.f211 (go (qA []) [] [] [.autoB [4] true []] (gL h))
theorem qJt {k a b} (h : (qel k a b).isSome): qzw a b (qik k a b) := qJ h (qLz k a b)
def qlc (r : List T21.T) : AV := .own 0 0
def qnr (a : Int) (r : List T21.T) : List (Nat × Blk) := [(0, .row 91 T21 r)]
abbrev qL5 (a : Int) (r : List T21.T) : Prop := CC Tryz.prog 273 [.r (.v (Value.slice none 0 0)), ri a] [] (qlc r) (qnr a r)
def qby (k : Nat) (a : Int) : Option (List T21.T) := if 0 ≤ a ∧ a.toNat * 16 ≤ 140737488355328 then some [] else none
def qeV := fun k a => (qby k a).getD []
def qvY (k : Nat) : Ke := (273, fun
 | [.r (.v (Value.slice none 0 0)), _] => some [true, false]
 | _ => none, fun
 | [.r (.v (Value.slice none 0 0)), .r (.v (.int .i64 a))], [] => some (.one (qlc (qeV k a), qnr a (qeV k a)))
 | _, _ => none)
theorem qLt (k a r) (h : qby k a = some r): CC Tryz.prog 273 [.r (.v (Value.slice none 0 0)), .r (.v (.int .i64 a))] [] (qlc r) (qnr a r) := by
 unfold qby at h
 split at h
 ·rename_i q
  cases h
  exact qEN Tryz.grow_span ⟨Tryz.f273, _, Tryz.func273, rfl, by kernel_rfl⟩ T21 (by kernel_rfl) a q.1 q.2
 ·cases h
theorem qJp {k a} (h : (qby k a).isSome): qL5 a (qeV k a) := qJ h (qLt k a)
def qlb (r : List T21.T) : AV := .own 0 0
def qnq (a : List (RTy.list T21).T) (r : List T21.T) : List (Nat × Blk) := [(0, .row 91 T21 r)]
abbrev qzs (a : List (RTy.list T21).T) (r : List T21.T) : Prop := CC Tryz.prog 245 [.r (.ro (RTy.list T21) a)] [] (qlb r) (qnq a r)
def qDR := fun y0 y1 y2 y3 y4 => (⟨qM 36 [(0, .r (.ro T21.list y0)), (3, ri y1), (9, .r (.ro T21.list y2)), (10, ri y3), (11, ri y4)], []⟩ : St)
def qyf := fun y0 y1 y2 y3 => (⟨qM 36 [(6, .own 1000000 0), (25, .r (.ro T21.list y0)), (26, ri y1), (27, ri y2)], [(1000000, 0, .row 91 T21 y3)]⟩ : St)
mutual
def Ws (k : Nat) : Nat → List (T21.list).T → Int → List (T21.list).T → Int → Int → Option (List T21.T)
 | 0, _, _, _, _, _ => none
 | j + 1, y0, y1, y2, y3, y4 =>
 bif y4 < y3 then
 if (0 ≤ y4) ∧ (y4 < y2.length) then
 bif qa .i64 (y1 + (↑ (qb (y2.getD y4.toNat T21.list.dflt)) : Int)) < (0 : Int) then
 none
 else
 Ws k j y0 (qa .i64 (y1 + (↑ (qb (y2.getD y4.toNat T21.list.dflt)) : Int))) y2 y3 (qa .i64 (y4 + 1))
 else none
 else
 if ((qby k y1).isSome) then
 QE k j y0 (↑y0.length : Int) 0 (qeV k y1)
 else none
def QE (k : Nat) : Nat → List (T21.list).T → Int → Int → List T21.T → Option (List T21.T)
 | 0, _, _, _, _ => none
 | j + 1, y0, y1, y2, y3 =>
 bif y2 < y1 then
 if (0 ≤ y2) ∧ (y2 < y0.length) then
 if ((y3.length + qb (y0.getD y2.toNat T21.list.dflt)) * (16 : Nat) ≤ (140737488355328 : Nat)) then
 QE k j y0 y1 (qa .i64 (y2 + 1)) (y3 ++ y0.getD y2.toNat T21.list.dflt)
 else none
 else none
 else
 some y3
end
def qek (k : Nat) (a : List (RTy.list T21).T) : Option (List T21.T) :=
 Ws k k a 0 a (↑a.length : Int) 0
def qce := fun k a => (qek k a).getD []
def qKl (k : Nat) : Ke := (245, mo 1, fun
 | [.r (.ro d b)], [] => (qC d (RTy.list T21) b).bind fun a => some (.one (qlb (qce k a), qnq a (qce k a)))
 | _, _ => none)
def qu4 : List (Nat × List Cmd) := [(3, [.autoB [0, 3, 9, 10, 11] false []]), (11, [.autoB [6, 25, 26, 27] false []])]
abbrev qzM := fun a => EP Tryz.f245 0 qlb (qnq a)
theorem qvB (k a) : ∀ j, (∀ {y0 y1 y2 y3 y4}, qzM a 3 (qDR y0 y1 y2 y3 y4) (Ws k j y0 y1 y2 y3 y4)) ∧ (∀ {y0 y1 y2 y3}, qzM a 11 (qyf y0 y1 y2 y3) (QE k j y0 y1 y2 y3))
 | 0 => by and_intros <;> intros <;> exact e0
 | j + 1 => by
  have ih := @qvB k a j
  have g := @go (qA [qvY k]) [] qu4 [.autoB [2] true []]
  refine ⟨?_, ?_⟩
  ·intro y0 y1 y2 y3 y4 r h
   rw [Ws] at h
   exact g (gS h (fun h => qU h fun h => gS h (fun h => gZ h (.stuck 5000)) fun h => gD h 3 ih.1) fun h => qv h qJp fun h => gD h 11 ih.2)
  ·intro y0 y1 y2 y3 r h
   rw [QE] at h
   exact g (gS h (fun h => qU h fun h => qv h id fun h => gD h 11 ih.2) fun h => gL h)
theorem qLs (k a r) (h : qek k a = some r): qzs a r := qO Tryz.f245 (go (qA [qvY k]) [] qu4 [.autoB [2] true []] (gD h 3 (qvB k a k).1))
theorem qJo {k a} (h : (qek k a).isSome): qzs a (qce k a) := qJ h (qLs k a)
def qle (r : List Int) : AV := .tup []
def qnt (a : List I.T) (r : List Int) : List (Nat × Blk) := [(0, .row 3 (RTy.int .i64) r)]
abbrev qL7 (a : List I.T) (r : List Int) : Prop := CC Tryz.prog 246 [.own 0 0] [.row 3 I a] (qle r) (qnt a r)
def qbA (k : Nat) (a : List Int) : Option (List Int) := if a.length < 4611686018427387904 then some (qFr a) else none
def qcg := fun k a => (qbA k a).getD []
def qKn (k : Nat) : Ke := (246, fun
 | [.own _ _] => some [true]
 | _ => none, fun
 | [.own 0 0], [.row 3 d b] => (qC d I b).bind fun a => some (.one (qle (qcg k a), qnt a (qcg k a)))
 | _, _ => none)
theorem qLv (k a r) (h : qbA k a = some r): CC Tryz.prog 246 [.own 0 0] [.row 3 I a] (qle r) (qnt a r) := by
 unfold qbA at h
 split at h
 ·rename_i q
  cases h
  rw [qwF a]
  exact qtR Tryz.sort_int ⟨Tryz.f246, _, Tryz.func246, rfl, by kernel_rfl⟩ 3 a q
 ·cases h
theorem qJr {k a} (h : (qbA k a).isSome): qL7 a (qcg k a) := qJ h (qLv k a)
abbrev YT : Type := List T21.T × Int
def qlh (r : YT) : AV := .tup [ro T21 r.1, ri r.2]
abbrev qzz (a : List T21.T) (b : List T21.T) (r : YT) : Prop := CC Tryz.prog 210 [ro T21 a, ro T21 b, .r (.v (.func (.func 211) #[] #[]))] [] (qlh r) (nb r)
def qyg := fun y0 y1 y2 y3 y4 y5 => (⟨qM 147 [(0, ro T21 y0), (1, ro T21 y1), (2, .r (.v (Value.func (Fn.func 211) #[] #[]))), (10, .own 1000000 0), (35, .own 1000001 0), (36, ri y2), (37, ri y3)], [(1000000, 0, .row 3 I y4), (1000001, 0, .row 91 T21 y5)]⟩ : St)
def qyh := fun y0 y1 y2 y3 y4 y5 y6 y7 => (⟨qM 147 [(0, ro T21 y0), (1, ro T21 y1), (2, .r (.v (Value.func (Fn.func 211) #[] #[]))), (10, .own 1000000 0), (13, .own 1000001 0), (14, ri y2), (15, ri y3), (51, .own 1000000 0), (52, ri y4), (53, ri y5)], [(1000000, 0, .row 3 (RTy.int IntKind.i64) y6), (1000001, 0, .row 91 T21 y7)]⟩ : St)
def qyi := fun y0 y1 y2 y3 y4 y5 y6 y7 y8 y9 => (⟨qM 147 [(0, ro T21 y0), (1, ro T21 y1), (2, .r (.v (Value.func (Fn.func 211) #[] #[]))), (10, .own 1000000 0), (13, .own 1000001 0), (14, ri y2), (15, ri y3), (16, ri y4), (17, ri y5), (51, .own 1000000 0), (52, ri y6), (53, ri y7)], [(1000000, 0, .row 3 (RTy.int IntKind.i64) y8), (1000001, 0, .row 91 T21 y9)]⟩ : St)
def qyj := fun y0 y1 y2 y3 y4 y5 y6 y7 y8 y9 => (⟨qM 147 [(0, ro T21 y0), (1, ro T21 y1), (2, .r (.v (Value.func (Fn.func 211) #[] #[]))), (10, .own 1000000 0), (13, .own 1000001 0), (14, ri y2), (15, ri y3), (16, ri y4), (17, ri y5), (51, .own 1000000 0), (52, ri y6), (53, ri y7)], [(1000000, 0, .row 3 (RTy.int IntKind.i64) y8), (1000001, 0, .row 91 T21 y9)]⟩ : St)
def qyk := fun y0 => (⟨qM 147 [(13, ro T21 y0)], []⟩ : St)
mutual
def V1 (k : Nat) : Nat → List T21.T → List T21.T → Int → Int → List I.T → List T21.T → Option YT
 | 0, _, _, _, _, _, _ => none
 | j + 1, y0, y1, y2, y3, y4, y5 =>
 bif y3 < y2 then
 if (0 ≤ y3) ∧ (y3 < y5.length) then
 if ((y4.length + [(y5.getD y3.toNat T21.dflt).1, (y5.getD y3.toNat T21.dflt).2].length) * (8 : Nat) ≤ (140737488355328 : Nat)) then
 V1 k j y0 y1 y2 (qa .i64 (y3 + 1)) (y4 ++ [(y5.getD y3.toNat T21.dflt).1, (y5.getD y3.toNat T21.dflt).2]) y5
 else none
 else none
 else
 if ((qbA k y4).isSome) then
 zu k j y0 y1 0 0 (↑ (qb (qcg k y4)) : Int) 0 (qcg k y4) ([])
 else none
def zu (k : Nat) : Nat → List T21.T → List T21.T → Int → Int → Int → Int → List (RTy.int IntKind.i64).T → List T21.T → Option YT
 | 0, _, _, _, _, _, _, _, _ => none
 | j + 1, y0, y1, y2, y3, y4, y5, y6, y7 =>
 bif y5 < y4 then
 if (0 ≤ y5) ∧ (y5 < y6.length) then
 zw k j y0 y1 y2 y3 y5 (y6.getD y5.toNat (RTy.int IntKind.i64).dflt) y4 y5 y6 y7
 else none
 else
 Y8 k j y7
def zw (k : Nat) : Nat → List T21.T → List T21.T → Int → Int → Int → Int → Int → Int → List (RTy.int IntKind.i64).T → List T21.T → Option YT
 | 0, _, _, _, _, _, _, _, _, _, _ => none
 | j + 1, y0, y1, y2, y3, y4, y5, y6, y7, y8, y9 =>
 if (decide (y2 < y0.length) = true → 0 ≤ y2) ∧ (decide (y2 < y0.length) = true → y2 < y0.length) then
 bif (decide (y2 < y0.length) && decide ((y0.getD y2.toNat T21.dflt).2 ≤ y5)) then
 zw k j y0 y1 (qa .i64 (y2 + 1)) y3 y4 y5 y6 y7 y8 y9
 else
 zS k j y0 y1 y2 y3 y4 y5 y6 y7 y8 y9
 else none
def zS (k : Nat) : Nat → List T21.T → List T21.T → Int → Int → Int → Int → Int → Int → List (RTy.int IntKind.i64).T → List T21.T → Option YT
 | 0, _, _, _, _, _, _, _, _, _, _ => none
 | j + 1, y0, y1, y2, y3, y4, y5, y6, y7, y8, y9 =>
 if (decide (y3 < y1.length) = true → 0 ≤ y3) ∧ (decide (y3 < y1.length) = true → y3 < y1.length) then
 bif (decide (y3 < y1.length) && decide ((y1.getD y3.toNat T21.dflt).2 ≤ y5)) then
 zS k j y0 y1 y2 (qa .i64 (y3 + 1)) y4 y5 y6 y7 y8 y9
 else
 if ((qa .i64 (y4 + 1) == (↑y8.length : Int)) = false → (0 : Int) ≤ qa .i64 (y4 + 1)) ∧ ((qa .i64 (y4 + 1) == (↑y8.length : Int)) = false → qa .i64 (y4 + 1) < (↑y8.length : Int)) then
 bif (qa .i64 (y4 + 1) == (↑y8.length : Int) || y8.getD (qa .i64 (y4 + 1)).toNat (RTy.int IntKind.i64).dflt == y5) then
 zu k j y0 y1 y2 y3 y6 (qa .i64 (y7 + 1)) y8 y9
 else
 if (decide (y2 < y0.length) = true → 0 ≤ y2) ∧ (decide (y2 < y0.length) = true → y2 < y0.length) ∧ (decide (y3 < y1.length) = true → 0 ≤ y3) ∧ (decide (y3 < y1.length) = true → y3 < y1.length) ∧ ((qel k (decide (y2 < y0.length) && decide ((y0.getD y2.toNat T21.dflt).1 ≤ y5)) (decide (y3 < y1.length) && decide ((y1.getD y3.toNat T21.dflt).1 ≤ y5))).isSome) then
 bif (qik k (decide (y2 < y0.length) && decide ((y0.getD y2.toNat T21.dflt).1 ≤ y5)) (decide (y3 < y1.length) && decide ((y1.getD y3.toNat T21.dflt).1 ≤ y5))) then
 if ((0 : Int) ≤ qa .i64 (y4 + 1)) ∧ (qa .i64 (y4 + 1) < (↑y8.length : Int)) ∧ ((y9.length + [(y5, y8.getD (qa .i64 (y4 + 1)).toNat (RTy.int IntKind.i64).dflt)].length) * (16 : Nat) ≤ (140737488355328 : Nat)) then
 zu k j y0 y1 y2 y3 y6 (qa .i64 (y7 + 1)) y8 (y9 ++ [(y5, y8.getD (qa .i64 (y4 + 1)).toNat (RTy.int IntKind.i64).dflt)])
 else none
 else
 zu k j y0 y1 y2 y3 y6 (qa .i64 (y7 + 1)) y8 y9
 else none
 else none
 else none
def Y8 (k : Nat) : Nat → List T21.T → Option YT
 | 0, _ => none
 | j + 1, y0 =>
 if ((Xg k y0).isSome) then
 bif (↑ (qb (vZ k y0)) : Int) > (256 : Int) then
 some ([], 8)
 else
 some (vZ k y0, 0)
 else none
end
def qem (k : Nat) (a : List T21.T) (b : List T21.T) : Option YT :=
 if ((Y7 k a).isSome) then
 bif (Vr k a != (0 : Int)) then
 some ([], Vr k a)
 else
 if ((Y7 k b).isSome) then
 bif (Vr k b != (0 : Int)) then
 some ([], Vr k b)
 else
 if ((Xg k a).isSome) ∧ ((Xg k b).isSome) then
 if ((qek k [vZ k a, vZ k b]).isSome) then
 V1 k k (vZ k a) (vZ k b) (↑ (qb (qce k [vZ k a, vZ k b])) : Int) 0 ([]) (qce k [vZ k a, vZ k b])
 else none
 else none
 else none
 else none
def qeW := fun k a b => (qem k a b).getD ([], 0)
def qKr (k : Nat) : Ke := (210, fun
 | [_, _, .r (.v (.func (.func 211) _ _))] => some [false, false, false]
 | _ => none, fun
 | [.r (.ro i e), .r (.ro f d), .r (.v (.func (.func 211) _ _))], [] => (qC i T21 e).bind fun a => (qC f T21 d).bind fun b => some (.one (qlh (qeW k a b), []))
 | _, _ => none)
def qzX (k : Nat) : Calld := qA [qn1 k, qn2 k, qKl k, qKn k, qvZ k]
def qu9 : List (Nat × List Cmd) := [(10, [.row 10 3 I, .autoB [0, 1, 2, 10, 35, 36, 37] false []]), (18, [.row 13 91 T21, .autoB [0, 1, 2, 10, 13, 14, 15, 51, 52, 53] false []]), (20, [.autoB [0, 1, 2, 10, 13, 14, 15, 16, 17, 51, 52, 53] false []]), (22, [.autoB [0, 1, 2, 10, 13, 14, 15, 16, 17, 51, 52, 53] false []]), (28, [.frz 13 false (RTy.list T21), .autoB [13] false []])]
abbrev qgJ := EP Tryz.f210 0 qlh nb
theorem qvG (k) : ∀ j, (∀ {y0 y1 y2 y3 y4 y5}, qgJ 10 (qyg y0 y1 y2 y3 y4 y5) (V1 k j y0 y1 y2 y3 y4 y5)) ∧ (∀ {y0 y1 y2 y3 y4 y5 y6 y7}, qgJ 18 (qyh y0 y1 y2 y3 y4 y5 y6 y7) (zu k j y0 y1 y2 y3 y4 y5 y6 y7)) ∧ (∀ {y0 y1 y2 y3 y4 y5 y6 y7 y8 y9}, qgJ 20 (qyi y0 y1 y2 y3 y4 y5 y6 y7 y8 y9) (zw k j y0 y1 y2 y3 y4 y5 y6 y7 y8 y9)) ∧ (∀ {y0 y1 y2 y3 y4 y5 y6 y7 y8 y9}, qgJ 22 (qyj y0 y1 y2 y3 y4 y5 y6 y7 y8 y9) (zS k j y0 y1 y2 y3 y4 y5 y6 y7 y8 y9)) ∧ (∀ {y0}, qgJ 28 (qyk y0) (Y8 k j y0))
 | 0 => by and_intros <;> intros <;> exact e0
 | j + 1 => by
  have ih := @qvG k j
  have g := @go (qzX k) [28] qu9 [.frz 6 false (RTy.list T21), .autoB [6, 7] true []]
  refine ⟨?_, ?_, ?_, ?_, ?_⟩
  ·intro y0 y1 y2 y3 y4 y5 r h
   rw [V1] at h
   exact g (gS h (fun h => qU h fun h => qv h id fun h => gD h 10 ih.1) fun h => qv h qJr fun h => gD h 18 ih.2.1)
  ·intro y0 y1 y2 y3 y4 y5 y6 y7 r h
   rw [zu] at h
   exact g (gS h (fun h => qU h fun h => gD h 20 ih.2.2.1) fun h => gD h 28 ih.2.2.2.2)
  ·intro y0 y1 y2 y3 y4 y5 y6 y7 y8 y9 r h
   rw [zw] at h
   exact g (qU h fun h => gS h (fun h => gD h 20 ih.2.2.1) fun h => gD h 22 ih.2.2.2.1)
  ·intro y0 y1 y2 y3 y4 y5 y6 y7 y8 y9 r h
   rw [zS] at h
   exact g (qU h fun h => gS h (fun h => gD h 22 ih.2.2.2.1) fun h => qU h fun h => gS h (fun h => gD h 18 ih.2.1) fun h => gN h (fun q => qf q.1 (qf q.2.1 (qf q.2.2.1 (qf q.2.2.2.1 (qf (qJt q.2.2.2.2) qP))))) fun h => gS h (fun h => gN h cj3 fun h => gD h 18 ih.2.1) fun h => gD h 18 ih.2.1)
  ·intro y0 r h
   rw [Y8] at h
   exact g (qv h qiy fun h => qu h fun h => gL h)
theorem qLC (k a b r) (h : qem k a b = some r): qzz a b r := qO Tryz.f210 (go (qzX k) [28] qu9 [.frz 6 false (RTy.list T21), .autoB [6, 7] true []] (qv h qnz fun h => qu h fun h => qv h qnz fun h => qu h fun h => gN h (fun q => qf (qiy q.1) (qf (qiy q.2) qP)) fun h => qv h qJo fun h => gD h 10 (qvG k k).1))
theorem qJv {k a b} (h : (qem k a b).isSome): qzz a b (qeW k a b) := qJ h (qLC k a b)
abbrev qq3 : Type := List T21.T × Int
def qta (r : qq3) : AV := .tup [ro T21 r.1, ri r.2]
abbrev qzv (a : List T21.T) (r : qq3) : Prop := CC Tryz.prog 166 [ro T21 a] [] (qta r) (nb r)
def qbB (k : Nat) (a : List T21.T) : Option qq3 :=
 if ((qem k a []).isSome) then
 some ((qeW k a []).1, (qeW k a []).2)
 else none
def qan := fun k a => (qbB k a).getD ([], 0)
def qjj (k : Nat) : Ke := (166, mo 1, fun
 | [.r (.ro d b)], [] => (qC d T21 b).bind fun a => some (.one (qta (qan k a), []))
 | _, _ => none)
theorem qLy (k a r) (h : qbB k a = some r): qzv a r := qO Tryz.f166 (go (qA [qvZ k, qKr k]) [] [] [.frz 2 false (RTy.list T21), .autoB [2, 3] true []] (qv h qJv fun h => gL h))
theorem qux {k a} (h : (qbB k a).isSome): qzv a (qan k a) := qJ h (qLy k a)
abbrev qlK : Type := List T21.T × Int
def qoB (r : qlK) : AV := .tup [ro T21 r.1, ri r.2]
abbrev qGZ (a : List T3.T) (r : qlK) : Prop := CC Tryz.prog 170 [ro T3 a] [] (qoB r) (nb r)
def qFP := fun y0 y1 y2 y3 => (⟨qM 29 [(5, .own 1000000 0), (13, ro T3 y0), (14, ri y1), (15, ri y2)], [(1000000, 0, .row 91 T21 y3)]⟩ : St)
def qEf := fun y0 => (⟨qM 29 [(5, ro T21 y0)], []⟩ : St)
mutual
def qa7 (k : Nat) : Nat → List T3.T → Int → Int → List T21.T → Option qlK
 | 0, _, _, _, _ => none
 | j + 1, y0, y1, y2, y3 =>
 bif y2 < y1 then
 if (0 ≤ y2) ∧ (y2 < y0.length) then
 if ((qfr k (y0.getD y2.toNat T3.dflt)).isSome) ∧ ((y3.length + [wm k (y0.getD y2.toNat T3.dflt)].length) * (16 : Nat) ≤ (140737488355328 : Nat)) then
 qa7 k j y0 y1 (qa .i64 (y2 + 1)) (y3 ++ [wm k (y0.getD y2.toNat T3.dflt)])
 else none
 else none
 else
 qfq k j y3
def qfq (k : Nat) : Nat → List T21.T → Option qlK
 | 0, _ => none
 | j + 1, y0 =>
 if ((qbB k y0).isSome) then
 some ((qan k y0).1, (qan k y0).2)
 else none
end
def qfp (k : Nat) (a : List T3.T) : Option qlK :=
 if ((ZT k a).isSome) then
 bif (vP k a != (0 : Int)) then
 some ([], vP k a)
 else
 qa7 k k a (↑a.length : Int) 0 ([])
 else none
def vb := fun k a => (qfp k a).getD ([], 0)
def qCy (k : Nat) : Ke := (170, mo 1, fun
 | [.r (.ro d b)], [] => (qC d T3 b).bind fun a => some (.one (qoB (vb k a), []))
 | _, _ => none)
def qA5 : List (Nat × List Cmd) := [(6, [.row 5 91 T21, .autoB [5, 13, 14, 15] false []]), (10, [.frz 5 false (RTy.list T21), .autoB [5] false []])]
abbrev qHH := EP Tryz.f170 0 qoB nb
theorem qBQ (k) : ∀ j, (∀ {y0 y1 y2 y3}, qHH 6 (qFP y0 y1 y2 y3) (qa7 k j y0 y1 y2 y3)) ∧ (∀ {y0}, qHH 10 (qEf y0) (qfq k j y0))
 | 0 => by and_intros <;> intros <;> exact e0
 | j + 1 => by
  have ih := @qBQ k j
  have g := @go (qA [qbR k, qmD k, qjj k]) [10] qA5 [.frz 2 false (RTy.list T21), .autoB [2, 3] true []]
  refine ⟨?_, ?_⟩
  ·intro y0 y1 y2 y3 r h
   rw [qa7] at h
   exact g (gS h (fun h => qU h fun h => gN h (fun q => qf (qAw q.1) (qf q.2 qP)) fun h => gD h 6 ih.1) fun h => gD h 10 ih.2)
  ·intro y0 r h
   rw [qfq] at h
   exact g (qv h qux fun h => gL h)
theorem qPE (k a r) (h : qfp k a = some r): qGZ a r := qO Tryz.f170 (go (qA [qbR k, qmD k, qjj k]) [10] qA5 [.frz 2 false (RTy.list T21), .autoB [2, 3] true []] (qv h qbk fun h => qu h fun h => gD h 6 (qBQ k k).1))
theorem qAs {k a} (h : (qfp k a).isSome): qGZ a (vb k a) := qJ h (qPE k a)
abbrev qG1 (a : List T3.T) (r : Bool) : Prop := CC Tryz.prog 120 [ro T3 a] [] (rb r) (nb r)
def qcB (k : Nat) (a : List T3.T) : Option Bool :=
 if ((qfp k a).isSome) then
 bif ((vb k a).2 != (0 : Int)) then
 some false
 else
 if ((qbC k (vb k a).1).isSome) then
 bif ((XN k (vb k a).1).2 == (0 : Int)) then
 if (((XN k (vb k a).1).2 == (0 : Int)) = true) ∧ ((qcC k a).isSome) then
 some (true && (XN k (vb k a).1).1 == qf9 k a)
 else none
 else
 if (((XN k (vb k a).1).2 == (0 : Int)) = false) then
 some false
 else none
 else none
 else none
def qf7 := fun k a => (qcB k a).getD false
def qOl (k : Nat) : Ke := (120, mo 1, fun
 | [.r (.ro d b)], [] => (qC d T3 b).bind fun a => some (.one (rb (qf7 k a), []))
 | _, _ => none)
theorem qPG (k a r) (h : qcB k a = some r): qG1 a r := qO Tryz.f120 (go (qA [qr8 k, qKp k, qCy k]) [] [] [.autoB [2] true []] (qv h qAs fun h => qu h fun h => qv h qJu fun h => gS h (fun h => gN h (fun q => qf q.1 (qf (qrF q.2) qP)) fun h => gL h) fun h => qv h id fun h => gL h))
theorem qAt {k a} (h : (qcB k a).isSome): qG1 a (qf7 k a) := qJ h (qPG k a)
def qwi (r : Int × Int) : AV := .tup [ri r.1, ri r.2]
abbrev qGK (a : T3.T) (r : Int × Int) : Prop := CC Tryz.prog 121 [.agg (qB (qr T3 a))] [] (qwi r) (nb r)
def qcA (k : Nat) (a : T3.T) : Option (Int × Int) :=
 bif a.2.2 then
 some (qa .i64 (qa .i64 (a.1 - a.2.1) + 1), a.1)
 else
 some (a.1, qa .i64 (qa .i64 (a.1 + a.2.1) - 1))
def qaY := fun k a => (qcA k a).getD (0, 0)
def qr4 (k : Nat) : Ke := (121, mo 1, fun
 | [.agg b], [] => (qX [] T3 b).bind fun a => some (.one (qwi (qaY k a), []))
 | _, _ => none)
theorem qPn (k a r) (h : qcA k a = some r): qGK a r := qO Tryz.f121 (go (qA []) [] [] [.autoB [2, 3] true []] (qu h fun h => gL h))
theorem qrB {k a} (h : (qcA k a).isSome): qGK a (qaY k a) := qJ h (qPn k a)
def qrp (a : Int) (b : Int) (d : List T5.T) (e : List (I.T × I.T)) (f : T5.T) (r : Int) : List (Nat × Blk) := [(0, .var 135 [ri a, ri b, ro T5 d, .own 1 0]), (0, .map false I I e)]
abbrev qGM (a : Int) (b : Int) (d : List T5.T) (e : List (I.T × I.T)) (f : T5.T) (r : Int) : Prop := CC Tryz.prog 71 [.ptr 0 0 0, .agg (qB (qr T5 f))] [.var 135 [ri a, ri b, ro T5 d, .own 1 0], .map false I I e] (ri r) (qrp a b d e f r)
def qEb := fun a b d e (f : T5.T) y0 y1 y2 y3 => (⟨qM 93 [(6, ri y0), (78, ro T3 y1), (79, ri y2), (80, ri y3)], [(0, 0, .var 135 [ri a, ri b, ro T5 d, .own 1 0]), (1, 0, .map false I I e)]⟩ : St)
def Ww (k : Nat) (a : Int) (b : Int) (d : List T5.T) (e : List (I.T × I.T)) (f : T5.T) : Nat → Int → List T3.T → Int → Int → Option Int
 | 0, _, _, _, _ => none
 | j + 1, y0, y1, y2, y3 =>
 bif y3 < y2 then
 if (0 ≤ y3) ∧ (y3 < y1.length) then
 if ((qcA k (y1.getD y3.toNat T3.dflt)).isSome) then
 bif (qaY k (y1.getD y3.toNat T3.dflt)).2 ≥ y0 then
 some 21
 else
 Ww k a b d e f j y0 y1 y2 (qa .i64 (y3 + 1))
 else none
 else none
 else
 some 0
def qiQ (k : Nat) (a : Int) (b : Int) (d : List T5.T) (e : List (I.T × I.T)) (f : T5.T) : Option Int :=
 bif (decide (f.1 < (1 : Int)) || decide (f.1 > (1000000 : Int))) then
 some 1
 else
 bif (f.2.1 != (0 : Int)) then
 if ((f.2.1 != (0 : Int)) = true) ∧ ((Xh k a b d e f.2.1).isSome) then
 bif (true && (!WF k a b d e f.2.1)) then
 some 7
 else
 if ((Yy k a b d e f.2.1).isSome) then
 bif (decide (f.2.2.1 < (0 : Int)) || decide (f.2.2.2.1 < (1 : Int)) || decide (f.2.2.1 > (Q7 k a b d e f.2.1).1) || decide (f.2.2.2.1 > qa .i64 ((Q7 k a b d e f.2.1).1 - f.2.2.1))) then
 some 20
 else
 if ((ZT k f.2.2.2.2.2).isSome) then
 bif (vP k f.2.2.2.2.2 != (0 : Int)) then
 some (vP k f.2.2.2.2.2)
 else
 bif ((↑ (qb f.2.2.2.2.2) : Int) == (0 : Int)) then
 some 10
 else
 if ((qcB k f.2.2.2.2.2).isSome) then
 bif (!qf7 k f.2.2.2.2.2) then
 some 12
 else
 Ww k a b d e f k ((Q7 k a b d e f.2.1).2) f.2.2.2.2.2 (↑ (qb f.2.2.2.2.2) : Int) 0
 else none
 else none
 else none
 else none
 else
 if ((f.2.1 != (0 : Int)) = false) then
 if ((Yy k a b d e f.2.1).isSome) then
 bif (decide (f.2.2.1 < (0 : Int)) || decide (f.2.2.2.1 < (1 : Int)) || decide (f.2.2.1 > (Q7 k a b d e f.2.1).1) || decide (f.2.2.2.1 > qa .i64 ((Q7 k a b d e f.2.1).1 - f.2.2.1))) then
 some 20
 else
 if ((ZT k f.2.2.2.2.2).isSome) then
 bif (vP k f.2.2.2.2.2 != (0 : Int)) then
 some (vP k f.2.2.2.2.2)
 else
 bif ((↑ (qb f.2.2.2.2.2) : Int) == (0 : Int)) then
 some 10
 else
 if ((qcB k f.2.2.2.2.2).isSome) then
 bif (!qf7 k f.2.2.2.2.2) then
 some 12
 else
 Ww k a b d e f k ((Q7 k a b d e f.2.1).2) f.2.2.2.2.2 (↑ (qb f.2.2.2.2.2) : Int) 0
 else none
 else none
 else none
 else none
def qf5 := fun k a b d e f => (qiQ k a b d e f).getD 0
def qOd (k : Nat) : Ke := (71, fun
 | [.ptr _ _ _, _] => some [true, false]
 | _ => none, fun
 | [.ptr 0 0 0, .agg g], [.var 135 [.r (.v (.int .i64 a)), .r (.v (.int .i64 b)), .r (.ro tg_2_ qg_2), .own 1 0], .map false kg_3_ tg_3_ qg_3] => (qX [] T5 g).bind fun f => (qC tg_2_ T5 qg_2).bind fun d => (qlU kg_3_ tg_3_ I I qg_3).bind fun e => some (.one (ri (qf5 k a b d e f), qrp a b d e f (qf5 k a b d e f)))
 | _, _ => none)
def qHY (k : Nat) : Calld := qA [qr5 k, qbR k, qCw k, qOl k, qr4 k]
def qAZ : List (Nat × List Cmd) := [(17, [.autoB [6, 78, 79, 80] false []])]
abbrev qQM := fun a b d e f => EP Tryz.f71 2 ri (qrp a b d e f)
theorem qrO (k a b d e f) : ∀ j, (∀ y0 y1 y2 y3, qQM a b d e f 17 (qEb a b d e f y0 y1 y2 y3) (Ww k a b d e f j y0 y1 y2 y3))
 | 0 => by intros; exact e0
 | j + 1 => by
  have ih := @qrO k a b d e f j
  ·intro y0 y1 y2 y3 r h
   rw [Ww] at h
   exact go (qHY k) [] qAZ [.autoB [4] true []] (gS h (fun h => qU h fun h => qv h qrB fun h => qu h fun h => gC h 17 (ih _ _ _ _ _)) fun h => gL h)
theorem qPr (k a b d e f r) (h : qiQ k a b d e f = some r): qGM a b d e f r := qO Tryz.f71 (go (qHY k) [] qAZ [.autoB [4] true []] (qu h fun h => gS h (fun h => gN h (fun q => qf q.1 (qf (qrC q.2) qP)) fun h => qu h fun h => qv h qrD fun h => qu h fun h => qv h qbk fun h => qu h fun h => qu h fun h => qv h qAt fun h => qu h fun h => gC h 17 ((qrO k a b d e f k) _ _ _ _ _)) fun h => qv h id fun h => gU2 h (.leaf (.r (.v (.int .i64 7))) [(0, .var 135 [.r (.v (.int .i64 a)), .r (.v (.int .i64 b)), .r (.ro T5 d), .own 1 0]), (0, .map false I I e)]) fun h => qv h qrD fun h => qu h fun h => qv h qbk fun h => qu h fun h => qu h fun h => qv h qAt fun h => qu h fun h => gC h 17 ((qrO k a b d e f k) _ _ _ _ _)))
theorem qNg {k a b d e f} (h : (qiQ k a b d e f).isSome): qGM a b d e f (qf5 k a b d e f) := qJ h (qPr k a b d e f)
abbrev qGL (a : T4.T) (b : T4.T) (r : Bool) : Prop := CC Tryz.prog 73 [.agg (qB (qr T4 a)), .agg (qB (qr T4 b))] [] (rb r) (nb r)
def qFI := fun y0 y1 y2 y3 => (⟨qM 65 [(3, .ptr 1000000 0 0), (32, ro T3 y0), (33, ri y1), (34, ri y2)], [(1000000, 0, .var 45 (qB (qr T4 y3)))]⟩ : St)
def qFJ := fun y0 y1 y2 y3 y4 y5 y6 y7 y8 => (⟨qM 65 [(3, .ptr 1000000 0 0), (7, ri y0), (8, ri y1), (32, ro T3 y2), (33, ri y3), (34, ri y4), (44, ro T3 y5), (45, ri y6), (46, ri y7)], [(1000000, 0, .var 45 (qB (qr T4 y8)))]⟩ : St)
mutual
def V2 (k : Nat) : Nat → List T3.T → Int → Int → T4.T → Option Bool
 | 0, _, _, _, _ => none
 | j + 1, y0, y1, y2, y3 =>
 bif y2 < y1 then
 if (0 ≤ y2) ∧ (y2 < y0.length) then
 if ((qcA k (y0.getD y2.toNat T3.dflt)).isSome) then
 Yb k j ((qaY k (y0.getD y2.toNat T3.dflt)).1) ((qaY k (y0.getD y2.toNat T3.dflt)).2) y0 y1 y2 y3.2.2.2 (↑ (qb y3.2.2.2) : Int) 0 y3
 else none
 else none
 else
 some false
def Yb (k : Nat) : Nat → Int → Int → List T3.T → Int → Int → List T3.T → Int → Int → T4.T → Option Bool
 | 0, _, _, _, _, _, _, _, _, _ => none
 | j + 1, y0, y1, y2, y3, y4, y5, y6, y7, y8 =>
 bif y7 < y6 then
 if (0 ≤ y7) ∧ (y7 < y5.length) then
 if ((qcA k (y5.getD y7.toNat T3.dflt)).isSome) then
 bif (decide (y0 ≤ (qaY k (y5.getD y7.toNat T3.dflt)).2) && decide ((qaY k (y5.getD y7.toNat T3.dflt)).1 ≤ y1)) then
 some true
 else
 Yb k j y0 y1 y2 y3 y4 y5 y6 (qa .i64 (y7 + 1)) y8
 else none
 else none
 else
 V2 k j y2 y3 (qa .i64 (y4 + 1)) y8
end
def qiP (k : Nat) (a : T4.T) (b : T4.T) : Option Bool :=
 bif (decide (qa .i64 (a.1 + a.2.1) ≤ b.1) || decide (qa .i64 (b.1 + b.2.1) ≤ a.1)) then
 some false
 else
 V2 k k a.2.2.2 (↑ (qb a.2.2.2) : Int) 0 b
def qm6 := fun k a b => (qiP k a b).getD false
def qOc (k : Nat) : Ke := (73, mo 2, fun
 | [.agg d, .agg e], [] => (qX [] T4 d).bind fun a => (qX [] T4 e).bind fun b => some (.one (rb (qm6 k a b), []))
 | _, _ => none)
def qAY : List (Nat × List Cmd) := [(4, [.autoB [3, 32, 33, 34] false []]), (8, [.autoB [3, 7, 8, 32, 33, 34, 44, 45, 46] false []])]
abbrev qHD := EP Tryz.f73 0 rb nb
theorem qBK (k) : ∀ j, (∀ {y0 y1 y2 y3}, qHD 4 (qFI y0 y1 y2 y3) (V2 k j y0 y1 y2 y3)) ∧ (∀ {y0 y1 y2 y3 y4 y5 y6 y7 y8}, qHD 8 (qFJ y0 y1 y2 y3 y4 y5 y6 y7 y8) (Yb k j y0 y1 y2 y3 y4 y5 y6 y7 y8))
 | 0 => by and_intros <;> intros <;> exact e0
 | j + 1 => by
  have ih := @qBK k j
  have g := @go (qA [qr4 k]) [] qAY [.autoB [4] true []]
  refine ⟨?_, ?_⟩
  ·intro y0 y1 y2 y3 r h
   rw [V2] at h
   exact g (gS h (fun h => qU h fun h => qv h qrB fun h => gD h 8 ih.2) fun h => gL h)
  ·intro y0 y1 y2 y3 y4 y5 y6 y7 y8 r h
   rw [Yb] at h
   exact g (gS h (fun h => qU h fun h => qv h qrB fun h => qu h fun h => gD h 8 ih.2) fun h => gD h 4 ih.1)
theorem qPq (k a b r) (h : qiP k a b = some r): qGL a b r := qO Tryz.f73 (go (qA [qr4 k]) [] qAY [.autoB [4] true []] (qu h fun h => gD h 4 (qBK k k).1))
theorem qNe {k a b} (h : (qiP k a b).isSome): qGL a b (qm6 k a b) := qJ h (qPq k a b)
abbrev qgN : Type := Int
def qkR (r : qgN) : AV := .tup [.r (.v (Value.pointer none)), .r (.v (.int .i64 r))]
def qnj (b : List T5.T) (d : T19.T) (r : qgN) : List (Nat × Blk) := []
abbrev qgQ : Type := Int × Int × Int × List T5.T × (List (I.T × I.T))
def qkU (r : qgQ) : AV := .tup [.ptr 0 0 0, .r (.v (.int .i64 r.1))]
def qnm (b : List T5.T) (d : T19.T) (r : qgQ) : List (Nat × Blk) := [(0, .var 135 [.r (.v (.int .i64 r.2.1)), .r (.v (.int .i64 r.2.2.1)), .r (.ro T5 r.2.2.2.1), .own 1 0]), (0, .map false I I r.2.2.2.2)]
abbrev qeZ : Type := qgN ⊕ qgQ
def qwj (r : qeZ) : AV := match r with
 | .inl a => qkR a
 | .inr a => qkU a
def qz9 (b : List T5.T) (d : T19.T) (r : qeZ) : List (Nat × Blk) := match r with
 | .inl a => qnj b d a
 | .inr a => qnm b d a
abbrev qqk (b : List T5.T) (d : T19.T) (r : qeZ) : Prop := CC Tryz.prog 31 [ro T5 b, .agg (qB (qr T19 d))] [] (qwj r) (qz9 b d r)
abbrev qLX (b : List T5.T) (d : T19.T) (r : qgN) : Prop := CC Tryz.prog 31 [.r (.ro T5 b), .agg (qB (qr T19 d))] [] (qkR r) (qnj b d r)
abbrev qL0 (b : List T5.T) (d : T19.T) (r : qgQ) : Prop := CC Tryz.prog 31 [.r (.ro T5 b), .agg (qB (qr T19 d))] [] (qkU r) (qnm b d r)
def qFH := fun y0 y1 y2 y3 y4 y5 y6 y7 y8 => (⟨qM 97 [(0, ro T5 y0), (6, .ptr 1000000 0 0), (7, rb y1), (41, ro T5 y2), (42, ri y3), (43, ri y4)], [(1000000, 0, .var 135 [ri y5, ri y6, ro T5 y7, .own 1000001 0]), (1000001, 0, .map false I I y8)]⟩ : St)
def qD9 := fun y0 y1 y2 y3 y4 y5 y6 y7 => (⟨qM 97 [(0, ro T5 y0), (6, .ptr 1000000 0 0), (67, ro T5 y1), (68, ri y2), (69, ri y3)], [(1000000, 0, .var 135 [ri y4, ri y5, ro T5 y6, .own 1000001 0]), (1000001, 0, .map false I I y7)]⟩ : St)
def qEa := fun y0 y1 y2 y3 y4 y5 y6 y7 y8 y9 y10 y11 => (⟨qM 97 [(0, ro T5 y0), (6, .ptr 1000000 0 0), (12, .ptr 1000002 0 0), (67, ro T5 y1), (68, ri y2), (69, ri y3), (76, ro T5 y4), (77, ri y5), (78, ri y6)], [(1000000, 0, .var 135 [ri y7, ri y8, ro T5 y9, .own 1000001 0]), (1000001, 0, .map false I I y10), (1000002, 0, .var 47 (qB (qr T5 y11)))]⟩ : St)
mutual
def Qf (k : Nat) : Nat → List T5.T → Bool → List T5.T → Int → Int → Int → Int → List T5.T → (List (I.T × I.T)) → Option qeZ
 | 0, _, _, _, _, _, _, _, _, _ => none
 | j + 1, y0, y1, y2, y3, y4, y5, y6, y7, y8 =>
 bif y4 < y3 then
 if (0 ≤ y4) ∧ (y4 < y2.length) then
 if ((qiQ k y5 y6 y7 y8 (y2.getD y4.toNat T5.dflt)).isSome) then
 bif (qf5 k y5 y6 y7 y8 (y2.getD y4.toNat T5.dflt) != (0 : Int)) then
 some (.inl (qf5 k y5 y6 y7 y8 (y2.getD y4.toNat T5.dflt)))
 else
 if ((Xh k y5 y6 y7 y8 (y2.getD y4.toNat T5.dflt).1).isSome) then
 bif (WF k y5 y6 y7 y8 (y2.getD y4.toNat T5.dflt).1) then
 Qf k j y0 true y2 y3 (qa .i64 (y4 + 1)) y5 y6 y7 y8
 else
 Qf k j y0 y1 y2 y3 (qa .i64 (y4 + 1)) y5 y6 y7 (zP I (y2.getD y4.toNat T5.dflt).1 y4 y8)
 else none
 else none
 else none
 else
 bif y1 then
 some (.inl 6)
 else
 Zz k j y0 y0 (↑y0.length : Int) 0 y5 y6 y7 y8
def Zz (k : Nat) : Nat → List T5.T → List T5.T → Int → Int → Int → Int → List T5.T → (List (I.T × I.T)) → Option qeZ
 | 0, _, _, _, _, _, _, _, _ => none
 | j + 1, y0, y1, y2, y3, y4, y5, y6, y7 =>
 bif y3 < y2 then
 if (0 ≤ y3) ∧ (y3 < y1.length) then
 if ((0 : Int) ≤ (0 : Int)) ∧ (0 ≤ y3) ∧ (y3 ≤ y0.length) then
 ZA k j y0 y1 y2 y3 (qS3 (y3.toNat - ql 0) (Wm (ql 0) y0)) (↑ (qS3 (y3.toNat - ql 0) (Wm (ql 0) y0)).length : Int) 0 y4 y5 y6 y7 (y1.getD y3.toNat T5.dflt)
 else none
 else none
 else
 some (.inr (0, y4, y5, y6, y7))
def ZA (k : Nat) : Nat → List T5.T → List T5.T → Int → Int → List T5.T → Int → Int → Int → Int → List T5.T → (List (I.T × I.T)) → T5.T → Option qeZ
 | 0, _, _, _, _, _, _, _, _, _, _, _, _ => none
 | j + 1, y0, y1, y2, y3, y4, y5, y6, y7, y8, y9, y10, y11 =>
 bif y6 < y5 then
 if (0 ≤ y6) ∧ (y6 < y4.length) then
 bif (y11.2.1 == (y4.getD y6.toNat T5.dflt).2.1) then
 if ((y11.2.1 == (y4.getD y6.toNat T5.dflt).2.1) = true) ∧ ((qiP k y11.2.2 (y4.getD y6.toNat T5.dflt).2.2).isSome) then
 bif (true && qm6 k y11.2.2 (y4.getD y6.toNat T5.dflt).2.2) then
 some (.inl 12)
 else
 ZA k j y0 y1 y2 y3 y4 y5 (qa .i64 (y6 + 1)) y7 y8 y9 y10 y11
 else none
 else
 if ((y11.2.1 == (y4.getD y6.toNat T5.dflt).2.1) = false) then
 ZA k j y0 y1 y2 y3 y4 y5 (qa .i64 (y6 + 1)) y7 y8 y9 y10 y11
 else none
 else none
 else
 Zz k j y0 y1 y2 (qa .i64 (y3 + 1)) y7 y8 y9 y10
end
def W4 (k : Nat) (b : List T5.T) (d : T19.T) : Option qeZ :=
 bif (decide (d.1 < (1 : Int)) || decide (d.1 > (12000 : Int)) || decide (d.2 < (0 : Int)) || decide (d.2 > (17179869184 : Int))) then
 some (.inl 1)
 else
 bif (↑b.length : Int) > (512 : Int) then
 some (.inl 8)
 else
 Qf k k b false b (↑b.length : Int) 0 d.1 d.2 b ([])
def YL := fun k b d => (W4 k b d).getD (.inl 0)
def XK (k : Nat) (b : List T5.T) (d : T19.T) : qgN := lft 0 (YL k b d)
def w6 (k : Nat) (b : List T5.T) (d : T19.T) : qgQ := rgt (0, 0, 0, [], []) (YL k b d)
def qCu (k : Nat) : Ke := (31, mo 2, fun
 | [.r (.ro i e), .agg f], [] => (qC i T5 e).bind fun b => (qX [] T19 f).bind fun d => some (.two (YL k b d).isLeft (qkR (XK k b d), qnj b d (XK k b d)) (qkU (w6 k b d), qnm b d (w6 k b d)))
 | _, _ => none)
def qHX (k : Nat) : Calld := qA [qr5 k, qOd k, qOc k]
def qAX : List (Nat × List Cmd) := [(8, [.autoB [0, 6, 7, 41, 42, 43] false []]), (20, [.autoB [0, 6, 67, 68, 69] false []]), (23, [.autoB [0, 6, 12, 67, 68, 69, 76, 77, 78] false []])]
abbrev qwP := fun b d => EP Tryz.f31 0 qwj (qz9 b d)
theorem qBJ (k b d) : ∀ j, (∀ {y0 y1 y2 y3 y4 y5 y6 y7 y8}, qwP b d 8 (qFH y0 y1 y2 y3 y4 y5 y6 y7 y8) (Qf k j y0 y1 y2 y3 y4 y5 y6 y7 y8)) ∧ (∀ {y0 y1 y2 y3 y4 y5 y6 y7}, qwP b d 20 (qD9 y0 y1 y2 y3 y4 y5 y6 y7) (Zz k j y0 y1 y2 y3 y4 y5 y6 y7)) ∧ (∀ {y0 y1 y2 y3 y4 y5 y6 y7 y8 y9 y10 y11}, qwP b d 23 (qEa y0 y1 y2 y3 y4 y5 y6 y7 y8 y9 y10 y11) (ZA k j y0 y1 y2 y3 y4 y5 y6 y7 y8 y9 y10 y11))
 | 0 => by and_intros <;> intros <;> exact e0
 | j + 1 => by
  have ih := @qBJ k b d j
  have g := @go (qHX k) [] qAX [.autoB [4, 5] true []]
  refine ⟨?_, ?_, ?_⟩
  ·intro y0 y1 y2 y3 y4 y5 y6 y7 y8 r h
   rw [Qf] at h
   exact g (gS h (fun h => qU h fun h => qv h qNg fun h => qu h fun h => qv h qrC fun h => gS h (fun h => gD h 8 ih.1) fun h => gD h 8 ih.1) fun h => qu h fun h => gD h 20 ih.2.1)
  ·intro y0 y1 y2 y3 y4 y5 y6 y7 r h
   rw [Zz] at h
   exact g (gS h (fun h => qU h fun h => gN h cj3 fun h => gD h 23 ih.2.2) fun h => gL h)
  ·intro y0 y1 y2 y3 y4 y5 y6 y7 y8 y9 y10 y11 r h
   rw [ZA] at h
   exact g (gS h (fun h => qU h fun h => gS h (fun h => gN h (fun q => qf q.1 (qf (qNe q.2) qP)) fun h => qu h fun h => gD h 23 ih.2.2) fun h => qv h id fun h => gU2 h (.leaf (.tup [.r (.v (Value.pointer none)), .r (.v (.int .i64 12))]) []) fun h => gD h 23 ih.2.2) fun h => gD h 20 ih.2.1)
theorem qPp (k b d r) (h : W4 k b d = some r): qqk b d r := qO Tryz.f31 (go (qHX k) [] qAX [.autoB [4, 5] true []] (qu h fun h => qu h fun h => gD h 8 (qBJ k b d k).1))
theorem qAr {k b d} (h : (W4 k b d).isSome): qqk b d (YL k b d) := qJ h (qPp k b d)
theorem qui {k : Nat} {b : List T5.T} {d : T19.T} (h : (W4 k b d).isSome = true) (hb : (YL k b d).isLeft = true) : qLX b d (XK k b d) := qEJ (Φ := qqk b d) (qAr h) hb
theorem quk {k : Nat} {b : List T5.T} {d : T19.T} (h : (W4 k b d).isSome = true) (hb : (YL k b d).isLeft = false) : qL0 b d (w6 k b d) := qEK (Φ := qqk b d) (qAr h) hb
abbrev qGH (a : List T5.T) (b : Int) (d : Int) (r : Int) : Prop := CC Tryz.prog 12 [ro T5 a, ri b, ri d] [] (ri r) (nb r)
def qqC (k : Nat) (a : List T5.T) (b : Int) (d : Int) : Option Int :=
 bif (Sum.isLeft (YL k a (b, d))) then
 if ((W4 k a (b, d)).isSome) then
 some (XK k a (b, d))
 else none
 else
 if ((W4 k a (b, d)).isSome) then
 some ((w6 k a (b, d)).1)
 else none
def qjD := fun k a b d => (qqC k a b d).getD 0
def qOa (k : Nat) : Ke := (12, mo 3, fun
 | [.r (.ro f e), .r (.v (.int .i64 b)), .r (.v (.int .i64 d))], [] => (qC f T5 e).bind fun a => some (.one (ri (qjD k a b d), []))
 | _, _ => none)
theorem qPk (k a b d r) (h : qqC k a b d = some r): qGH a b d r := qO Tryz.f12 (go (qA [qCu k]) [] [] [.autoB [6] true []] (gT h (fun c h => qv h (fun q => qui q (by assumption)) fun h => gL h) fun c h => qv h (fun q => quk q (by assumption)) fun h => gL h))
theorem qNc {k a b d} (h : (qqC k a b d).isSome): qGH a b d (qjD k a b d) := qJ h (qPk k a b d)
abbrev qGs (a : T5.T) (r : Int) : Prop := CC Tryz.prog 76 [.agg (qB (qr T5 a))] [] (ri r) (nb r)
def qmd (k : Nat) (a : T5.T) : Option Int :=
 if ((qaJ k a.2.2.2.2.2).isSome) then
 some ((XQ k a.2.2.2.2.2).1)
 else none
def qaW := fun k a => (qmd k a).getD 0
def qr2 (k : Nat) : Ke := (76, mo 1, fun
 | [.agg b], [] => (qX [] T5 b).bind fun a => some (.one (ri (qaW k a), []))
 | _, _ => none)
theorem qO5 (k a r) (h : qmd k a = some r): qGs a r := qO Tryz.f76 (go (qA [qr7 k]) [] [] [.autoB [2] true []] (qv h qrE fun h => gL h))
theorem qAo {k a} (h : (qmd k a).isSome): qGs a (qaW k a) := qJ h (qO5 k a)
abbrev qGt (a : T5.T) (r : Int) : Prop := CC Tryz.prog 77 [.agg (qB (qr T5 a))] [] (ri r) (nb r)
def qFE := fun y0 y1 y2 y3 => (⟨qM 30 [(3, ri y0), (8, ro T3 y1), (9, ri y2), (10, ri y3)], []⟩ : St)
def qeo (k : Nat) : Nat → Int → List T3.T → Int → Int → Option Int
 | 0, _, _, _, _ => none
 | j + 1, y0, y1, y2, y3 =>
 bif y3 < y2 then
 if (0 ≤ y3) ∧ (y3 < y1.length) then
 bif (y1.getD y3.toNat T3.dflt).2.2 then
 qeo k j (if qa .i64 (qa .i64 ((y1.getD y3.toNat T3.dflt).1 - (y1.getD y3.toNat T3.dflt).2.1) + 1) < if (y1.getD y3.toNat T3.dflt).1 < y0 then (y1.getD y3.toNat T3.dflt).1 else y0 then qa .i64 (qa .i64 ((y1.getD y3.toNat T3.dflt).1 - (y1.getD y3.toNat T3.dflt).2.1) + 1) else if (y1.getD y3.toNat T3.dflt).1 < y0 then (y1.getD y3.toNat T3.dflt).1 else y0) y1 y2 (qa .i64 (y3 + 1))
 else
 qeo k j (if (y1.getD y3.toNat T3.dflt).1 < y0 then (y1.getD y3.toNat T3.dflt).1 else y0) y1 y2 (qa .i64 (y3 + 1))
 else none
 else
 some y0
def qqy (k : Nat) (a : T5.T) : Option Int :=
 qeo k k 17179869184 a.2.2.2.2.2 (↑ (qb a.2.2.2.2.2) : Int) 0
def qyn := fun k a => (qqy k a).getD 0
def qNZ (k : Nat) : Ke := (77, mo 1, fun
 | [.agg b], [] => (qX [] T5 b).bind fun a => some (.one (ri (qyn k a), []))
 | _, _ => none)
def qAQ : List (Nat × List Cmd) := [(3, [.autoB [3, 8, 9, 10] false []])]
abbrev qQK := EP Tryz.f77 0 ri nb
theorem qBC (k) : ∀ j, (∀ y0 y1 y2 y3, qQK 3 (qFE y0 y1 y2 y3) (qeo k j y0 y1 y2 y3))
 | 0 => by intros; exact e0
 | j + 1 => by
  have ih := @qBC k j
  ·intro y0 y1 y2 y3 r h
   rw [qeo] at h
   exact go (qA []) [] qAQ [.autoB [2] true []] (gS h (fun h => qU h fun h => gS h (fun h => gC h 3 (ih _ _ _ _ _)) fun h => gC h 3 (ih _ _ _ _ _)) fun h => gL h)
theorem qO6 (k a r) (h : qqy k a = some r): qGt a r := qO Tryz.f77 (go (qA []) [] qAQ [.autoB [2] true []] (gC h 3 ((qBC k k) _ _ _ _ _)))
theorem qMY {k a} (h : (qqy k a).isSome): qGt a (qyn k a) := qJ h (qO6 k a)
def qri (a : T17.T) (b : List T18.T) (d : List (I.T × (RTy.bool).T)) (r : Int) : List (Nat × Blk) := [(0, .var 140 (qB (qr T17 a) ++ [.own 1 0])), (0, .row 54 T18 b), (0, .map false I RTy.bool d)]
abbrev qGf (a : T17.T) (b : List T18.T) (d : List (I.T × (RTy.bool).T)) (r : Int) : Prop := CC Tryz.prog 78 [.ptr 0 0 0, .own 2 0] [.var 140 (qB (qr T17 a) ++ [.own 1 0]), .row 54 T18 b, .map false I RTy.bool d] (ri r) (qri a b d r)
def qFu := fun a b d y0 y1 y2 y3 => (⟨qM 67 [(0, .ptr 0 0 0), (1, .own 2 0), (5, ri y0), (15, ro T5 y1), (16, ri y2), (17, ri y3)], [(0, 0, .var 140 (qB (qr T17 a) ++ [.own 1 0])), (1, 0, .row 54 T18 b), (2, 0, .map false I RTy.bool d)]⟩ : St)
def qDB := fun a b d y0 y1 y2 y3 => (⟨qM 67 [(5, ri y0), (53, ro T14 y1), (54, ri y2), (55, ri y3)], [(0, 0, .var 140 (qB (qr T17 a) ++ [.own 1 0])), (1, 0, .row 54 T18 b), (2, 0, .map false I RTy.bool d)]⟩ : St)
mutual
def qd5 (k : Nat) (a : T17.T) (b : List T18.T) (d : List (I.T × (RTy.bool).T)) : Nat → Int → List T5.T → Int → Int → Option Int
 | 0, _, _, _, _ => none
 | j + 1, y0, y1, y2, y3 =>
 bif y3 < y2 then
 if (0 ≤ y3) ∧ (y3 < y1.length) then
 if ((qmd k (y1.getD y3.toNat T5.dflt)).isSome) then
 bif (! (wb I (y1.getD y3.toNat T5.dflt).1 d).getD false) then
 if (0 ≤ y3) ∧ (y3 < (↑ (qb a.2.2.2.2.2.2.2.2.2.2.2.2.1) : Int)) then
 qd5 k a b d j (qa .i64 (y0 + qa .i64 ((y1.getD y3.toNat T5.dflt).2.2.2.1 * qa .i64 (qaW k (y1.getD y3.toNat T5.dflt) - if (if qaW k (y1.getD y3.toNat T5.dflt) < qI a.2.2.2.2.2.2.2.2.2.2.2.2.1 y3.toNat I.dflt then qaW k (y1.getD y3.toNat T5.dflt) else qI a.2.2.2.2.2.2.2.2.2.2.2.2.1 y3.toNat I.dflt) > 0 then if qaW k (y1.getD y3.toNat T5.dflt) < qI a.2.2.2.2.2.2.2.2.2.2.2.2.1 y3.toNat I.dflt then qaW k (y1.getD y3.toNat T5.dflt) else qI a.2.2.2.2.2.2.2.2.2.2.2.2.1 y3.toNat I.dflt else 0)))) y1 y2 (qa .i64 (y3 + 1))
 else none
 else
 qd5 k a b d j y0 y1 y2 (qa .i64 (y3 + 1))
 else none
 else none
 else
 qfc k a b d j y0 a.2.2.2.2.2.2.2.2.2.2.2.2.2.2.2.2.2.2.2.2.1 (↑ (qb a.2.2.2.2.2.2.2.2.2.2.2.2.2.2.2.2.2.2.2.2.1) : Int) 0
def qfc (k : Nat) (a : T17.T) (b : List T18.T) (d : List (I.T × (RTy.bool).T)) : Nat → Int → List T14.T → Int → Int → Option Int
 | 0, _, _, _, _ => none
 | j + 1, y0, y1, y2, y3 =>
 bif y3 < y2 then
 if (0 ≤ y3) ∧ (y3 < y1.length) then
 qfc k a b d j (qa .i64 (y0 + if (if 206158430208000 < (y1.getD y3.toNat T14.dflt).2.2.2 then 206158430208000 else (y1.getD y3.toNat T14.dflt).2.2.2) > 0 then if 206158430208000 < (y1.getD y3.toNat T14.dflt).2.2.2 then 206158430208000 else (y1.getD y3.toNat T14.dflt).2.2.2 else 0)) y1 y2 (qa .i64 (y3 + 1))
 else none
 else
 some y0
end
def qqv (k : Nat) (a : T17.T) (b : List T18.T) (d : List (I.T × (RTy.bool).T)) : Option Int :=
 qd5 k a b d k 0 a.2.2.2.2.2.2.2.2.2.2.2.1 (↑ (qb a.2.2.2.2.2.2.2.2.2.2.2.1) : Int) 0
def qf1 := fun k a b d => (qqv k a b d).getD 0
def qNW (k : Nat) : Ke := (78, fun
 | [.ptr _ _ _, .own _ _] => some [true, true, true, true, true]
 | _ => none, fun
 | [.ptr 0 0 0, .own 2 0], [.var 140 e, .row 54 tb_22_ qb_22, .map false kscrapped__ i f] => (qX [] T17 (e.take 22)).bind fun a => (qC tb_22_ T18 qb_22).bind fun b => (qlU kscrapped__ i I RTy.bool f).bind fun d => some (.one (ri (qf1 k a b d), qri a b d (qf1 k a b d)))
 | _, _ => none)
def qAH : List (Nat × List Cmd) := [(3, [.autoB [0, 1, 5, 15, 16, 17] false []]), (10, [.autoB [5, 53, 54, 55] false []])]
abbrev qHx := fun a b d => EP Tryz.f78 3 ri (qri a b d)
theorem qBv (k a b d) : ∀ j, (∀ {y0 y1 y2 y3}, qHx a b d 3 (qFu a b d y0 y1 y2 y3) (qd5 k a b d j y0 y1 y2 y3)) ∧ (∀ {y0 y1 y2 y3}, qHx a b d 10 (qDB a b d y0 y1 y2 y3) (qfc k a b d j y0 y1 y2 y3))
 | 0 => by and_intros <;> intros <;> exact e0
 | j + 1 => by
  have ih := @qBv k a b d j
  have g := @go (qA [qr2 k]) [] qAH [.autoB [4] true []]
  refine ⟨?_, ?_⟩
  ·intro y0 y1 y2 y3 r h
   rw [qd5] at h
   exact g (gS h (fun h => qU h fun h => qv h qAo fun h => gS h (fun h => qU h fun h => gD h 3 ih.1) fun h => gD h 3 ih.1) fun h => gD h 10 ih.2)
  ·intro y0 y1 y2 y3 r h
   rw [qfc] at h
   exact g (gS h (fun h => qU h fun h => gD h 10 ih.2) fun h => gL h)
theorem qOS (k a b d r) (h : qqv k a b d = some r): qGf a b d r := qO Tryz.f78 (go (qA [qr2 k]) [] qAH [.autoB [4] true []] (gD h 3 (qBv k a b d k).1))
theorem qMU {k a b d} (h : (qqv k a b d).isSome): qGf a b d (qf1 k a b d) := qJ h (qOS k a b d)
abbrev qaB : Type := T17.T × List T18.T
def qoq (r : qaB) : AV := .tup []
def qrm (a : T17.T) (b : List T18.T) (r : qaB) : List (Nat × Blk) := [(0, .var 140 ((qB (qr T17 r.1)) ++ [.own 1 1])), (1, .row 54 T18 r.2)]
abbrev qGn (a : T17.T) (b : List T18.T) (r : qaB) : Prop := CC Tryz.prog 35 [.ptr 0 0 0] [.var 140 (qB (qr T17 a) ++ [.own 1 0]), .row 54 T18 b] (qoq r) (qrm a b r)
def qFy := fun (a : T17.T) (b : List T18.T) y0 y1 y2 y3 y4 => (⟨qM 209 [(0, .ptr 0 0 0), (56, ro T5 y0), (57, ri y1), (58, ri y2)], [(0, 0, .var 140 ((qB (qr T17 y3)) ++ [.own 1 1])), (1, 1, .row 54 T18 y4)]⟩ : St)
def qD0 := fun (a : T17.T) (b : List T18.T) y0 y1 y2 y3 y4 y5 y6 y7 y8 y9 y10 y11 => (⟨qM 209 [(0, .ptr 0 0 0), (3, ri y0), (4, .ptr 1000000 0 0), (5, ri y1), (6, rb y2), (56, ro T5 y3), (57, ri y4), (58, ri y5), (90, ro T5 y6), (91, ri y7), (92, ri y8)], [(0, 0, .var 140 ((qB (qr T17 y9)) ++ [.own 1 1])), (1, 1, .row 54 T18 y10), (1000000, 0, .var 47 (qB (qr T5 y11)))]⟩ : St)
def qD1 := fun (a : T17.T) (b : List T18.T) y0 y1 y2 y3 y4 y5 => (⟨qM 209 [(0, .ptr 0 0 0), (9, .own 1000000 0), (132, ro T5 y0), (133, ri y1), (134, ri y2)], [(0, 0, .var 140 ((qB (qr T17 y3)) ++ [.own 1 1])), (1, 1, .row 54 T18 y4), (1000000, 0, .map false I RTy.bool y5)]⟩ : St)
def qD2 := fun (a : T17.T) (b : List T18.T) y0 y1 y2 y3 y4 y5 y6 => (⟨qM 209 [(0, .ptr 0 0 0), (9, .own 1000000 0), (12, .own 1000001 0), (147, ro I y0), (148, ri y1), (149, ri y2)], [(0, 0, .var 140 ((qB (qr T17 y3)) ++ [.own 1 1])), (1, 1, .row 54 T18 y4), (1000000, 0, .map false I RTy.bool y5), (1000001, 0, .map false I RTy.bool y6)]⟩ : St)
mutual
def qen (k : Nat) (a : T17.T) (b : List T18.T) : Nat → List T5.T → Int → Int → T17.T → List T18.T → Option qaB
 | 0, _, _, _, _, _ => none
 | j + 1, y0, y1, y2, y3, y4 =>
 bif y2 < y1 then
 if (0 ≤ y2) ∧ (y2 < y0.length) then
 if ((qmd k (y0.getD y2.toNat T5.dflt)).isSome) then
 if (0 ≤ y2) ∧ (y2 < (↑ (qb y3.2.2.2.2.2.2.2.2.2.2.2.2.1) : Int)) ∧ (decide (qI y3.2.2.2.2.2.2.2.2.2.2.2.2.1 y2.toNat I.dflt ≥ (0 : Int)) = true → 0 ≤ y2) ∧ (decide (qI y3.2.2.2.2.2.2.2.2.2.2.2.2.1 y2.toNat I.dflt ≥ (0 : Int)) = true → y2 < (↑ (qb y3.2.2.2.2.2.2.2.2.2.2.2.2.1) : Int)) then
 X5 k a b j y2 (qaW k (y0.getD y2.toNat T5.dflt)) (decide (qI y3.2.2.2.2.2.2.2.2.2.2.2.2.1 y2.toNat I.dflt ≥ 0) && decide (qI y3.2.2.2.2.2.2.2.2.2.2.2.2.1 y2.toNat I.dflt ≤ qaW k (y0.getD y2.toNat T5.dflt))) y0 y1 y2 y3.2.2.2.2.2.2.2.2.2.2.2.1 (↑ (qb y3.2.2.2.2.2.2.2.2.2.2.2.1) : Int) 0 y3 y4 (y0.getD y2.toNat T5.dflt)
 else none
 else none
 else none
 else
 qfh k a b j y3.2.2.2.2.2.2.2.2.2.2.2.1 (↑ (qb y3.2.2.2.2.2.2.2.2.2.2.2.1) : Int) 0 y3 y4 ([])
def X5 (k : Nat) (a : T17.T) (b : List T18.T) : Nat → Int → Int → Bool → List T5.T → Int → Int → List T5.T → Int → Int → T17.T → List T18.T → T5.T → Option qaB
 | 0, _, _, _, _, _, _, _, _, _, _, _, _ => none
 | j + 1, y0, y1, y2, y3, y4, y5, y6, y7, y8, y9, y10, y11 =>
 bif y8 < y7 then
 if (0 ≤ y8) ∧ (y8 < y6.length) then
 bif y2 then
 bif ((y6.getD y8.toNat T5.dflt).2.1 != y11.1) then
 if (y2 = true) ∧ (((y6.getD y8.toNat T5.dflt).2.1 != y11.1) = true) then
 X5 k a b j y0 y1 (true && true) y3 y4 y5 y6 y7 (qa .i64 (y8 + 1)) y9 y10 y11
 else none
 else
 if (y2 = true) ∧ (((y6.getD y8.toNat T5.dflt).2.1 != y11.1) = false) ∧ ((qqy k (y6.getD y8.toNat T5.dflt)).isSome) ∧ (0 ≤ y0) ∧ (y0 < (↑ (qb y9.2.2.2.2.2.2.2.2.2.2.2.2.1) : Int)) then
 X5 k a b j y0 y1 (true && (false || decide (qyn k (y6.getD y8.toNat T5.dflt) ≥ qa .i64 (y1 - qI y9.2.2.2.2.2.2.2.2.2.2.2.2.1 y0.toNat I.dflt)))) y3 y4 y5 y6 y7 (qa .i64 (y8 + 1)) y9 y10 y11
 else none
 else
 if (y2 = false) then
 X5 k a b j y0 y1 false y3 y4 y5 y6 y7 (qa .i64 (y8 + 1)) y9 y10 y11
 else none
 else none
 else
 bif (!y2) then
 if ((zl k y9 y10 3 y11.1 1).isSome) then
 qen k a b j y3 y4 (qa .i64 (y5 + 1)) ((wg k y9 y10 3 y11.1 1).1) ((wg k y9 y10 3 y11.1 1).2)
 else none
 else
 qen k a b j y3 y4 (qa .i64 (y5 + 1)) y9 y10
def qfh (k : Nat) (a : T17.T) (b : List T18.T) : Nat → List T5.T → Int → Int → T17.T → List T18.T → (List (I.T × (RTy.bool).T)) → Option qaB
 | 0, _, _, _, _, _, _ => none
 | j + 1, y0, y1, y2, y3, y4, y5 =>
 bif y2 < y1 then
 if (0 ≤ y2) ∧ (y2 < y0.length) then
 qfh k a b j y0 y1 (qa .i64 (y2 + 1)) y3 y4 (zP I (y0.getD y2.toNat T5.dflt).1 true y5)
 else none
 else
 qbD k a b j y3.2.2.2.2.2.2.2.2.2.2.2.2.2.1 (↑ (qb y3.2.2.2.2.2.2.2.2.2.2.2.2.2.1) : Int) 0 y3 y4 y5 ([])
def qbD (k : Nat) (a : T17.T) (b : List T18.T) : Nat → List I.T → Int → Int → T17.T → List T18.T → (List (I.T × (RTy.bool).T)) → (List (I.T × (RTy.bool).T)) → Option qaB
 | 0, _, _, _, _, _, _, _ => none
 | j + 1, y0, y1, y2, y3, y4, y5, y6 =>
 bif y2 < y1 then
 if (0 ≤ y2) ∧ (y2 < y0.length) then
 bif (! (wb I (y0.getD y2.toNat I.dflt) y5).getD false || (wb I (y0.getD y2.toNat I.dflt) y6).getD false) then
 if ((zl k y3 y4 3 (y0.getD y2.toNat I.dflt) 2).isSome) then
 qbD k a b j y0 y1 (qa .i64 (y2 + 1)) ((wg k y3 y4 3 (y0.getD y2.toNat I.dflt) 2).1) ((wg k y3 y4 3 (y0.getD y2.toNat I.dflt) 2).2) y5 (zP I (y0.getD y2.toNat I.dflt) true y6)
 else none
 else
 qbD k a b j y0 y1 (qa .i64 (y2 + 1)) y3 y4 y5 (zP I (y0.getD y2.toNat I.dflt) true y6)
 else none
 else
 bif (decide (y3.2.2.2.1 < (0 : Int)) || decide (y3.2.2.2.1 > y3.2.2.1)) then
 if ((zl k y3 y4 3 0 3).isSome) then
 some ((wg k y3 y4 3 0 3).1, (wg k y3 y4 3 0 3).2)
 else none
 else
 if ((qqv k y3 y4 y6).isSome) then
 bif (qa .i64 (qf1 k y3 y4 y6 - qa .i64 (y3.2.1 * y3.2.2.2.1)) != (0 : Int)) then
 if ((zl k y3 y4 4 (qa .i64 (qf1 k y3 y4 y6 - qa .i64 (y3.2.1 * y3.2.2.2.1))) 0).isSome) then
 some ((wg k y3 y4 4 (qa .i64 (qf1 k y3 y4 y6 - qa .i64 (y3.2.1 * y3.2.2.2.1))) 0).1, (wg k y3 y4 4 (qa .i64 (qf1 k y3 y4 y6 - qa .i64 (y3.2.1 * y3.2.2.2.1))) 0).2)
 else none
 else
 some (y3, y4)
 else none
end
def qmb (k : Nat) (a : T17.T) (b : List T18.T) : Option qaB :=
 if ((qqC k a.2.2.2.2.2.2.2.2.2.2.2.1 a.2.1 a.2.2.1).isSome) then
 bif (qjD k a.2.2.2.2.2.2.2.2.2.2.2.1 a.2.1 a.2.2.1 != (0 : Int)) then
 if ((zl k a b 3 0 (qjD k a.2.2.2.2.2.2.2.2.2.2.2.1 a.2.1 a.2.2.1)).isSome) then
 some ((wg k a b 3 0 (qjD k a.2.2.2.2.2.2.2.2.2.2.2.1 a.2.1 a.2.2.1)).1, (wg k a b 3 0 (qjD k a.2.2.2.2.2.2.2.2.2.2.2.1 a.2.1 a.2.2.1)).2)
 else none
 else
 bif ((↑ (qb a.2.2.2.2.2.2.2.2.2.2.2.2.1) : Int) != (↑ (qb a.2.2.2.2.2.2.2.2.2.2.2.1) : Int)) then
 if ((zl k a b 3 0 0).isSome) then
 some ((wg k a b 3 0 0).1, (wg k a b 3 0 0).2)
 else none
 else
 qen k a b k a.2.2.2.2.2.2.2.2.2.2.2.1 (↑ (qb a.2.2.2.2.2.2.2.2.2.2.2.1) : Int) 0 a b
 else none
def qf2 := fun k a b => (qmb k a b).getD ((T17).dflt, [])
def qmz (k : Nat) : Ke := (35, fun
 | [.ptr _ _ _] => some [true]
 | _ => none, fun
 | [.ptr 0 0 0], [.var 140 d, .row 54 tt_22_ qt_22] => (qX [] T17 (d.take 22)).bind fun a => (qC tt_22_ T18 qt_22).bind fun b => some (.one (qoq (qf2 k a b), qrm a b (qf2 k a b)))
 | _, _ => none)
def qHQ (k : Nat) : Calld := qA [qOa k, qbQ k, qr2 k, qNZ k, qNW k]
def qAL : List (Nat × List Cmd) := [(6, [.autoB [0, 56, 57, 58] false [1]]), (11, [.autoB [0, 3, 4, 5, 6, 56, 57, 58, 90, 91, 92] false [1]]), (20, [.autoB [0, 9, 132, 133, 134] false [1]]), (26, [.autoB [0, 9, 12, 147, 148, 149] false [1]])]
abbrev qqm := fun a b => EP Tryz.f35 2 qoq (qrm a b)
theorem qBy (k a b) : ∀ j, (∀ {y0 y1 y2 y3 y4}, qqm a b 6 (qFy a b y0 y1 y2 y3 y4) (qen k a b j y0 y1 y2 y3 y4)) ∧ (∀ {y0 y1 y2 y3 y4 y5 y6 y7 y8 y9 y10 y11}, qqm a b 11 (qD0 a b y0 y1 y2 y3 y4 y5 y6 y7 y8 y9 y10 y11) (X5 k a b j y0 y1 y2 y3 y4 y5 y6 y7 y8 y9 y10 y11)) ∧ (∀ {y0 y1 y2 y3 y4 y5}, qqm a b 20 (qD1 a b y0 y1 y2 y3 y4 y5) (qfh k a b j y0 y1 y2 y3 y4 y5)) ∧ (∀ {y0 y1 y2 y3 y4 y5 y6}, qqm a b 26 (qD2 a b y0 y1 y2 y3 y4 y5 y6) (qbD k a b j y0 y1 y2 y3 y4 y5 y6))
 | 0 => by and_intros <;> intros <;> exact e0
 | j + 1 => by
  have ih := @qBy k a b j
  have g := @go (qHQ k) [] qAL [.autoB [] true [1]]
  refine ⟨?_, ?_, ?_, ?_⟩
  ·intro y0 y1 y2 y3 y4 r h
   rw [qen] at h
   exact g (gS h (fun h => qU h fun h => qv h qAo fun h => gN h YW fun h => gD h 11 ih.2.1) fun h => gD h 20 ih.2.2.1)
  ·intro y0 y1 y2 y3 y4 y5 y6 y7 y8 y9 y10 y11 r h
   rw [X5] at h
   exact g (gS h (fun h => qU h fun h => gS h (fun h => gS h (fun h => qU h fun h => gD h 11 ih.2.1) fun h => gN h (fun q => qf q.1 (qf q.2.1 (qf (qMY q.2.2.1) (qf q.2.2.2.1 (qf q.2.2.2.2 qP))))) fun h => gD h 11 ih.2.1) fun h => qv h id fun h => gD h 11 ih.2.1) fun h => gS h (fun h => qv h zk fun h => gD h 6 ih.1) fun h => gD h 6 ih.1)
  ·intro y0 y1 y2 y3 y4 y5 r h
   rw [qfh] at h
   exact g (gS h (fun h => qU h fun h => gD h 20 ih.2.2.1) fun h => gD h 26 ih.2.2.2)
  ·intro y0 y1 y2 y3 y4 y5 y6 r h
   rw [qbD] at h
   exact g (gS h (fun h => qU h fun h => gS h (fun h => qv h zk fun h => gD h 26 ih.2.2.2) fun h => gD h 26 ih.2.2.2) fun h => gS h (fun h => qv h zk fun h => gL h) fun h => gN h (fun q => qf (⟨rfl, ⟨rfl, ⟨rfl, trivial⟩⟩⟩ : QL (0, .var 140 ((qB (qr T17 y3)) ++ [.own 1 1])) ∧ QL (1, .row 54 T18 y4) ∧ QL (0, .map false I RTy.bool y6) ∧ True) (qf (qMU q) qP)) fun h => gS h (fun h => qv h zk fun h => gL h) fun h => gL h)
theorem qO0 (k a b r) (h : qmb k a b = some r): qGn a b r := qO Tryz.f35 (go (qHQ k) [] qAL [.autoB [] true [1]] (qv h qNc fun h => gS h (fun h => qv h zk fun h => gL h) fun h => gS h (fun h => qv h zk fun h => gL h) fun h => gD h 6 (qBy k a b k).1))
theorem qAl {k a b} (h : (qmb k a b).isSome): qGn a b (qf2 k a b) := qJ h (qO0 k a b)
def qC5 (r : T17.T) : AV := .sub 2 0 1 0 1
def qIa (a : T17.T) (b : List T18.T) (r : T17.T) : List (Nat × Blk) := [(0, .var 140 ((qB (qr T17 r)) ++ [.own 1 0])), (0, .row 54 T18 b), (0, .var 1 [.fn (Fn.func 35) [.ptr 0 0 0] []])]
abbrev qMc (a : T17.T) (b : List T18.T) (r : T17.T) : Prop := CC Tryz.prog 34 [.ptr 0 0 0] [.var 140 (qB (qr T17 a) ++ [.own 1 0]), .row 54 T18 b] (qC5 r) (qIa a b r)
def qxh (k : Nat) (a : T17.T) (b : List T18.T) : Option T17.T :=
 some a
def qyr := fun k a b => (qxh k a b).getD (T17).dflt
def qIk (k : Nat) : Ke := (34, fun
 | [.ptr _ _ _] => some [true]
 | _ => none, fun
 | [.ptr 0 0 0], [.var 140 d, .row 54 tx_22_ qx_22] => (qX [] T17 (d.take 22)).bind fun a => (qC tx_22_ T18 qx_22).bind fun b => some (.one (qC5 (qyr k a b), qIa a b (qyr k a b)))
 | _, _ => none)
theorem qRH (k a b r) (h : qxh k a b = some r): qMc a b r := qO Tryz.f34 (go (qA [qmz k]) [] [] [.autoB [2] true []] (gL h))
theorem qRd {k a b} (h : (qxh k a b).isSome): qMc a b (qyr k a b) := qJ h (qRH k a b)
abbrev qlF : Type := List T18.T × Int
def qov (r : qlF) : AV := .tup [ro T18 r.1, ri r.2]
abbrev qGw (a : T17.T) (r : qlF) : Prop := CC Tryz.prog 33 [.agg (qB (qr T17 a)), .r (.v (.func (.func 34) #[] #[]))] [] (qov r) (nb r)
def qtq := fun y0 y1 => (⟨qM 29 [(6, .ptr 1000000 0 0), (16, .sub 1000002 0 1 0 1), (17, ri 1), (18, ri 0)], [(1000000, 0, .var 140 ((qB (qr T17 y0)) ++ [.own 1000001 0])), (1000001, 0, .row 54 T18 y1), (1000002, 0, .var 1 [.fn (Fn.func 35) [.ptr 1000000 0 0] []])]⟩ : St)
def qtr := fun y0 y1 => (⟨qM 29 [(6, .ptr 1000000 0 0), (16, .sub 1000002 0 1 0 1), (17, ri 1), (18, ri 1)], [(1000000, 0, .var 140 ((qB (qr T17 y0)) ++ [.own 1000001 0])), (1000001, 0, .row 54 T18 y1), (1000002, 0, .var 1 [.fn (Fn.func 35) [.ptr 1000000 0 0] []])]⟩ : St)
mutual
def qdo (k : Nat) : Nat → T17.T → List T18.T → Option qlF
 | 0, _, _ => none
 | j + 1, y0, y1 =>
 if ((0 : Int) ≤ (0 : Int)) ∧ ((0 : Int) < (↑ (1 : Nat) : Int)) then
 if ((qmb k y0 y1).isSome) then
 qdp k j ((qf2 k y0 y1).1) ((qf2 k y0 y1).2)
 else none
 else none
def qdp (k : Nat) : Nat → T17.T → List T18.T → Option qlF
 | 0, _, _ => none
 | j + 1, y0, y1 =>
 some (y1, 0)
end
def qqA (k : Nat) (a : T17.T) : Option qlF :=
 if ((qaI k a).isSome) then
 bif (qcW k a) then
 some ([], 8)
 else
 if ((qxh k a []).isSome) then
 qdo k k (qyr k a []) ([])
 else none
 else none
def qqQ := fun k a => (qqA k a).getD ([], 0)
def qN2 (k : Nat) : Ke := (33, fun
 | [_, .r (.v (.func (.func 34) _ _))] => some [false, false]
 | _ => none, fun
 | [.agg b, .r (.v (.func (.func 34) _ _))], [] => (qX [] T17 b).bind fun a => some (.one (qov (qqQ k a), []))
 | _, _ => none)
def qHV (k : Nat) : Calld := qA [qmB k, qmz k, qIk k]
def qAT : List (Nat × List Cmd) := [(5, [.key 18, .autoB [6, 16, 17, 18] false []])]
abbrev qHA := EP Tryz.f33 0 qov nb
theorem qBF (k) : ∀ j, (∀ {y0 y1}, qHA 5 (qtq y0 y1) (qdo k j y0 y1)) ∧ (∀ {y0 y1}, qHA 5 (qtr y0 y1) (qdp k j y0 y1))
 | 0 => by and_intros <;> intros <;> exact e0
 | j + 1 => by
  have ih := @qBF k j
  have g := @go (qHV k) [] qAT [.frz 4 false (RTy.list T18), .autoB [4, 5] true []]
  refine ⟨?_, ?_⟩
  ·intro y0 y1 r h
   rw [qdo] at h
   exact g (gU1 h (.leaf (.tup [.r (.ro T18 y1), .r (.v (.int .i64 0))]) []) fun h => qU h fun h => qv h qAl fun h => gD h 20005 ih.2)
  ·intro y0 y1 r h
   rw [qdp] at h
   exact g (gU2 h (.stuck 5001) fun h => gL h)
theorem qO9 (k a r) (h : qqA k a = some r): qGw a r := qO Tryz.f33 (go (qHV k) [] qAT [.frz 4 false (RTy.list T18), .autoB [4, 5] true []] (qv h qlW fun h => qu h fun h => qv h qRd fun h => gD h 10005 (qBF k k).1))
theorem qM1 {k a} (h : (qqA k a).isSome): qGw a (qqQ k a) := qJ h (qO9 k a)
abbrev qEy : Type := List T18.T × Int
def qC4 (r : qEy) : AV := .tup [ro T18 r.1, ri r.2]
abbrev qMb (a : T17.T) (r : qEy) : Prop := CC Tryz.prog 14 [.agg (qB (qr T17 a))] [] (qC4 r) (nb r)
def qxg (k : Nat) (a : T17.T) : Option qEy :=
 if ((qqA k a).isSome) then
 some ((qqQ k a).1, (qqQ k a).2)
 else none
def qil := fun k a => (qxg k a).getD ([], 0)
def qRp (k : Nat) : Ke := (14, mo 1, fun
 | [.agg b], [] => (qX [] T17 b).bind fun a => some (.one (qC4 (qil k a), []))
 | _, _ => none)
theorem qRG (k a r) (h : qxg k a = some r): qMb a r := qO Tryz.f14 (go (qA [qIk k, qN2 k]) [] [] [.frz 2 false (RTy.list T18), .autoB [2, 3] true []] (qv h qM1 fun h => gL h))
theorem qRc {k a} (h : (qxg k a).isSome): qMb a (qil k a) := qJ h (qRG k a)
def bs_H62_u56_0 : ByteArray := ByteArray.mk #[48, 49, 50, 51, 52, 53, 54, 55, 56, 57, 97, 98, 99, 100, 101, 102, 103, 104, 105, 106, 107, 108, 109, 110, 111, 112, 113, 114, 115, 116, 117, 118, 119, 120, 121, 122]
def bs_H62_u56_1 : ByteArray := ByteArray.mk #[48, 49, 50, 51, 52, 53, 54, 55, 56, 57, 97, 98, 99, 100, 101, 102, 103, 104, 105, 106, 107, 108, 109, 110, 111, 112, 113, 114, 115, 116, 117, 118, 119, 120, 121, 122]
def qwp (r : ByteArray) : AV := .r (.v (.string r))
abbrev qGU (a : Int) (r : ByteArray) : Prop := CC Tryz.prog 204 [ri a] [] (qwp r) (nb r)
def qqF (k : Nat) (a : Int) : Option ByteArray :=
 bif a < 10 then
 if (0 ≤ a) ∧ (a ≤ qa .i64 (a + 1)) ∧ (qa .i64 (a + 1) ≤ (↑ bs_H62_u56_0.size : Int)) then
 some (bs_H62_u56_1.extract a.toNat (qa .i64 (a + 1)).toNat)
 else none
 else
 if ((0 : Int) ≤ qa .i64 (a * 2)) ∧ (qa .i64 (a * 2) ≤ qa .i64 (qa .i64 (a * 2) + (2 : Int))) ∧ (qa .i64 (qa .i64 (a * 2) + (2 : Int)) ≤ (↑ (ByteArray.mk (([48, 48, 48, 49, 48, 50, 48, 51, 48, 52, 48, 53, 48, 54, 48, 55, 48, 56, 48, 57, 49, 48, 49, 49, 49, 50, 49, 51, 49, 52, 49, 53, 49, 54, 49, 55, 49, 56, 49, 57, 50, 48, 50, 49, 50, 50, 50, 51, 50, 52].append [50, 53, 50, 54, 50, 55, 50, 56, 50, 57, 51, 48, 51, 49, 51, 50, 51, 51, 51, 52, 51, 53, 51, 54, 51, 55, 51, 56, 51, 57, 52, 48, 52, 49, 52, 50, 52, 51, 52, 52, 52, 53, 52, 54, 52, 55, 52, 56, 52, 57]).append ([53, 48, 53, 49, 53, 50, 53, 51, 53, 52, 53, 53, 53, 54, 53, 55, 53, 56, 53, 57, 54, 48, 54, 49, 54, 50, 54, 51, 54, 52, 54, 53, 54, 54, 54, 55, 54, 56, 54, 57, 55, 48, 55, 49, 55, 50, 55, 51, 55, 52].append [55, 53, 55, 54, 55, 55, 55, 56, 55, 57, 56, 48, 56, 49, 56, 50, 56, 51, 56, 52, 56, 53, 56, 54, 56, 55, 56, 56, 56, 57, 57, 48, 57, 49, 57, 50, 57, 51, 57, 52, 57, 53, 57, 54, 57, 55, 57, 56, 57, 57])).toArray).size : Int)) then
 some ((ByteArray.mk (([48, 48, 48, 49, 48, 50, 48, 51, 48, 52, 48, 53, 48, 54, 48, 55, 48, 56, 48, 57, 49, 48, 49, 49, 49, 50, 49, 51, 49, 52, 49, 53, 49, 54, 49, 55, 49, 56, 49, 57, 50, 48, 50, 49, 50, 50, 50, 51, 50, 52].append [50, 53, 50, 54, 50, 55, 50, 56, 50, 57, 51, 48, 51, 49, 51, 50, 51, 51, 51, 52, 51, 53, 51, 54, 51, 55, 51, 56, 51, 57, 52, 48, 52, 49, 52, 50, 52, 51, 52, 52, 52, 53, 52, 54, 52, 55, 52, 56, 52, 57]).append ([53, 48, 53, 49, 53, 50, 53, 51, 53, 52, 53, 53, 53, 54, 53, 55, 53, 56, 53, 57, 54, 48, 54, 49, 54, 50, 54, 51, 54, 52, 54, 53, 54, 54, 54, 55, 54, 56, 54, 57, 55, 48, 55, 49, 55, 50, 55, 51, 55, 52].append [55, 53, 55, 54, 55, 55, 55, 56, 55, 57, 56, 48, 56, 49, 56, 50, 56, 51, 56, 52, 56, 53, 56, 54, 56, 55, 56, 56, 56, 57, 57, 48, 57, 49, 57, 50, 57, 51, 57, 52, 57, 53, 57, 54, 57, 55, 57, 56, 57, 57])).toArray).extract (qa .i64 (a * 2)).toNat (qa .i64 (qa .i64 (a * 2) + 2)).toNat)
 else none
def qyq := fun k a => (qqF k a).getD ByteArray.empty
def qOi (k : Nat) : Ke := (204, mo 1, fun
 | [.r (.v (.int .i64 a))], [] => some (.one (qwp (qyq k a), []))
 | _, _ => none)
theorem qPz (k a r) (h : qqF k a = some r): qGU a r := qO Tryz.f204 (go (qA []) [] [] [.autoB [2] true []] (gS h (fun h => gN h cj3 fun h => gL h) fun h => gN h cj3 fun h => gL h))
theorem qNm {k a} (h : (qqF k a).isSome): qGU a (qyq k a) := qJ h (qPz k a)
def qwn (r : ByteArray) : AV := .r (.v (.string r))
abbrev qGS (a : Int) (b : Int) (r : ByteArray) : Prop := CC Tryz.prog 161 [ri a, ri b] [] (qwn r) (nb r)
def qqD (k : Nat) (a : Int) (b : Int) : Option ByteArray :=
 bif (b == 10) then
 bif (decide (0 ≤ a) && decide (a < 100)) then
 if ((qqF k a).isSome) then
 some (qyq k a)
 else none
 else
 bif a < 0 then
 none
 else
 none
 else
 none
def qyo := fun k a b => (qqD k a b).getD ByteArray.empty
def qOg (k : Nat) : Ke := (161, mo 2, fun
 | [.r (.v (.int .i64 a)), .r (.v (.int .i64 b))], [] => some (.one (qwn (qyo k a b), []))
 | _, _ => none)
theorem qPx (k a b r) (h : qqD k a b = some r): qGS a b r := qO Tryz.f161 (go (qA [qOi k]) [] [] [.autoB [4] true []] (gS h (fun h => gS h (fun h => qv h qNm fun h => gL h) fun h => gS h (fun h => gZ h (.stuck 2001)) fun h => gZ h (.stuck 2001)) fun h => gZ h (.stuck 2005)))
theorem qNk {k a b} (h : (qqD k a b).isSome): qGS a b (qyo k a b) := qJ h (qPx k a b)
def qwo (r : ByteArray) : AV := .r (.v (.string r))
abbrev qGT (a : Int) (r : ByteArray) : Prop := CC Tryz.prog 111 [ri a] [] (qwo r) (nb r)
def qqE (k : Nat) (a : Int) : Option ByteArray :=
 if ((qqD k a 10).isSome) then
 some (qyo k a 10)
 else none
def qyp := fun k a => (qqE k a).getD ByteArray.empty
def qOh (k : Nat) : Ke := (111, mo 1, fun
 | [.r (.v (.int .i64 a))], [] => some (.one (qwo (qyp k a), []))
 | _, _ => none)
theorem qPy (k a r) (h : qqE k a = some r): qGT a r := qO Tryz.f111 (go (qA [qOg k]) [] [] [.autoB [2] true []] (qv h qNk fun h => gL h))
theorem qNl {k a} (h : (qqE k a).isSome): qGT a (qyp k a) := qJ h (qPy k a)
end
end Go.AM
