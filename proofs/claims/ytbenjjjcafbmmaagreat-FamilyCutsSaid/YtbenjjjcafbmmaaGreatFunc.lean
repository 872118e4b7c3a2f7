/- Contracts of the functions that the law reaches, and the plain law. -/
import Derived.Test.YtbenjjjcafbmmaaGreatFunb
set_option linter.unusedVariables false
set_option linter.unusedSimpArgs false
set_option linter.unusedSectionVars false
namespace Go.AM
open Go Go.IntKind

abbrev Ch := Int × Int × Bool × List Rn   -- Left, Width, Turn, Runs
abbrev Ro := Int × Int × Ch               -- ID, Parent, Cut
abbrev Pt := Int × Int × Int              -- Roll, Across, Along

def look (l : List Ro) (id : Int) : Option Ro := l.find? fun r => r.1 == id

def imageS (m : List Rn) : List Sp × Int := if chk m ≠ 0 then ([], chk m) else (nf (m.map spn), 0)
def singleS (m : List Rn) : Bool := decide (chk m = 0) && (tot (nf (m.map spn)) == lenS m)

def sizeS (l : List Ro) (W L id : Int) : Int × Int := if id = 0 then (W, L) else match look l id with
 | some r => (r.2.2.2.1, lenS r.2.2.2.2.2)
 | none => (0, 0)

def cutE (c : Ch) (w n : Int) : Int :=
 if c.1 < 0 ∨ c.2.1 < 1 ∨ c.1 > w ∨ c.2.1 > w - c.1 then 20 else if chk c.2.2.2 ≠ 0 then chk c.2.2.2 else if c.2.2.2 = [] then 10
 else if singleS c.2.2.2 = false then 12 else if fitsIn n c.2.2.2 then 0 else 21
def fitsS (p : List Ro) (W L : Int) (r : Ro) : Int :=
 if r.1 < 1 ∨ r.1 > 1000000 then 1 else if r.2.1 ≠ 0 ∧ look p r.2.1 = none then 7 else cutE r.2.2 (sizeS p W L r.2.1).1 (sizeS p W L r.2.1).2

def meetS (a b : List Rn) : Bool := a.any fun x => b.any fun y => decide (lo x ≤ hi y) && decide (lo y ≤ hi x)
def ovlS (a b : Ch) : Bool := (decide (a.1 < b.1 + b.2.1) && decide (b.1 < a.1 + a.2.1)) && meetS a.2.2.2 b.2.2.2
def clash (p : List Ro) (r : Ro) : Bool := p.any fun b => (r.2.1 == b.2.1) && ovlS r.2.2 b.2.2

def errsGo (W L : Int) : List Ro → List Ro → Int
 | _, [] => 0
 | p, r :: t => if fitsS p W L r ≠ 0 then fitsS p W L r else errsGo W L (p ++ [r]) t
def dupGo : List Ro → List Ro → Bool
 | _, [] => false
 | p, r :: t => (look p r.1).isSome || dupGo (p ++ [r]) t
def clashGo : List Ro → List Ro → Bool
 | _, [] => false
 | p, r :: t => clash p r || clashGo (p ++ [r]) t

def checkS (l : List Ro) (W L : Int) : Int :=
 if W < 1 ∨ W > 12000 ∨ L < 0 ∨ L > 17179869184 then 1 else if l.length > 512 then 8 else if errsGo W L [] l ≠ 0 then errsGo W L [] l
 else if dupGo [] l = true then 6 else if clashGo [] l = true then 12 else 0

theorem look_append (a b : List Ro) (id : Int) : look (a ++ b) id = (look a id).or (look b id) := by
 unfold look; exact List.find?_append
theorem look_some {l : List Ro} {id : Int} {r : Ro} (h : look l id = some r) : r ∈ l ∧ r.1 = id := by
 unfold look at h
 exact ⟨List.mem_of_find?_eq_some h, by have := List.find?_some h; simpa using this⟩
structure CutOk (c : Ch) (w n : Int) : Prop where
 left : 0 ≤ c.1
 width : 1 ≤ c.2.1
 right : c.1 + c.2.1 ≤ w
 chk : Chk c.2.2.2
 ne : c.2.2.2 ≠ []
 single : singleS c.2.2.2 = true
 fits : fitsIn n c.2.2.2
theorem cutE_zero {c : Ch} {w n : Int} : cutE c w n = 0 ↔ CutOk c w n := by
 unfold cutE
 constructor
 ·intro h
  by_cases h1 : c.1 < 0 ∨ c.2.1 < 1 ∨ c.1 > w ∨ c.2.1 > w - c.1
  ·rw [if_pos h1] at h; omega
  ·rw [if_neg h1] at h
   by_cases h2 : chk c.2.2.2 ≠ 0
   ·rw [if_pos h2] at h; exact absurd h h2
   ·rw [if_neg h2] at h
    by_cases h3 : c.2.2.2 = []
    ·rw [if_pos h3] at h; omega
    ·rw [if_neg h3] at h
     by_cases h4 : singleS c.2.2.2 = false
     ·rw [if_pos h4] at h; omega
     ·rw [if_neg h4] at h
      by_cases h5 : fitsIn n c.2.2.2
      ·exact ⟨by omega, by omega, by omega, chk_zero.1 (Classical.not_not.1 h2), h3, by simpa using h4, h5⟩
      ·rw [if_neg h5] at h; omega
 ·rintro ⟨h1, h2, h3, h4, h5, h6, h7⟩
  rw [if_neg (by omega), if_neg (fun h => h (chk_zero.2 h4)), if_neg h5, if_neg (by simp [h6]), if_pos h7]
structure FitOk (p : List Ro) (W L : Int) (r : Ro) : Prop where
 id0 : 1 ≤ r.1
 id1 : r.1 ≤ 1000000
 parent : r.2.1 = 0 ∨ ∃ q, look p r.2.1 = some q
 cut : CutOk r.2.2 (sizeS p W L r.2.1).1 (sizeS p W L r.2.1).2
theorem fitsS_zero {p : List Ro} {W L : Int} {r : Ro} : fitsS p W L r = 0 ↔ FitOk p W L r := by
 unfold fitsS
 constructor
 ·intro h
  by_cases h1 : r.1 < 1 ∨ r.1 > 1000000
  ·rw [if_pos h1] at h; omega
  ·rw [if_neg h1] at h
   by_cases h2 : r.2.1 ≠ 0 ∧ look p r.2.1 = none
   ·rw [if_pos h2] at h; omega
   ·rw [if_neg h2] at h
    refine ⟨by omega, by omega, ?_, cutE_zero.1 h⟩
    by_cases h3 : r.2.1 = 0
    ·exact .inl h3
    ·right
     cases h4 : look p r.2.1 with
     | none => exact absurd ⟨h3, h4⟩ h2
     | some q => exact ⟨q, rfl⟩
 ·rintro ⟨h1, h2, h3, h4⟩
  rw [if_neg (by omega), if_neg (fun h => by
   rcases h3 with h3 | ⟨q, h3⟩
   ·exact h.1 h3
   ·rw [h3] at h; cases h.2), cutE_zero.2 h4]

inductive Okp (W L : Int) : List Ro → Prop
 | nil : Okp W L []
 | snoc (p : List Ro) (r : Ro) (h : Okp W L p) (f : FitOk p W L r) (n : look p r.1 = none) (c : clash p r = false) : Okp W L (p ++ [r])
structure Reg (l : List Ro) (W L : Int) : Prop where
 w : 1 ≤ W ∧ W ≤ 12000
 len : 0 ≤ L ∧ L ≤ 17179869184
 num : l.length ≤ 512
 ok : Okp W L l
theorem okp_go {W L : Int} : ∀ (t p : List Ro), Okp W L p → errsGo W L p t = 0 → dupGo p t = false → clashGo p t = false → Okp W L (p ++ t)
 | [], p, h, _, _, _ => by simpa using h
 | r :: t, p, h, he, hd, hc => by
  rw [errsGo] at he
  rw [dupGo, Bool.or_eq_false_iff] at hd
  rw [clashGo, Bool.or_eq_false_iff] at hc
  have hf : fitsS p W L r = 0 := by
   by_cases q : fitsS p W L r = 0
   ·exact q
   ·rw [if_pos q] at he; exact absurd he q
  rw [if_neg (fun h => h hf)] at he
  have := okp_go t (p ++ [r]) (.snoc p r h (fitsS_zero.1 hf) (by cases e : look p r.1 <;> simp_all) hc.1) he hd.2 hc.2
  simpa using this
theorem go_okp {W L : Int} {l : List Ro} (h : Okp W L l) : ∀ (t p : List Ro), l = p ++ t → errsGo W L p t = 0 ∧ dupGo p t = false ∧ clashGo p t = false := by
 induction h with
 | nil =>
  intro t p e
  have : t = [] ∧ p = [] := by
   have := e.symm
   simp at this
   exact ⟨this.2, this.1⟩
  obtain ⟨rfl, rfl⟩ := this
  exact ⟨rfl, rfl, rfl⟩
 | snoc q r h f n c ih =>
  intro t p e
  rcases List.eq_nil_or_concat t with rfl | ⟨t', r', rfl⟩
  ·exact ⟨rfl, rfl, rfl⟩
  ·rw [List.concat_eq_append] at *
   rw [← List.append_assoc] at e
   obtain ⟨e1, e2⟩ := List.append_inj' e rfl
   simp only [List.cons.injEq, and_true] at e2
   subst e2
   obtain ⟨i1, i2, i3⟩ := ih t' p e1
   have key : ∀ (t' p : List Ro), errsGo W L p t' = 0 → dupGo p t' = false → clashGo p t' = false → fitsS (p ++ t') W L r = 0 → look (p ++ t') r.1 = none → clash (p ++ t') r = false → errsGo W L p (t' ++ [r]) = 0 ∧ dupGo p (t' ++ [r]) = false ∧ clashGo p (t' ++ [r]) = false := fun t' => by
    induction t' with
    | nil =>
     intro p _ _ _ a b c
     rw [List.append_nil] at a b c
     rw [List.nil_append, errsGo, dupGo, clashGo, if_neg (fun h => h a), b, c]
     exact ⟨rfl, rfl, rfl⟩
    | cons u v ih =>
     intro p a1 a2 a3 a4 a5 a6
     rw [errsGo] at a1
     rw [dupGo, Bool.or_eq_false_iff] at a2
     rw [clashGo, Bool.or_eq_false_iff] at a3
     have hf : fitsS p W L u = 0 := by
      by_cases q : fitsS p W L u = 0
      ·exact q
      ·rw [if_pos q] at a1; exact absurd a1 q
     rw [if_neg (fun h => h hf)] at a1
     have e3 : p ++ u :: v = p ++ [u] ++ v := by simp
     rw [e3] at a4 a5 a6
     obtain ⟨b1, b2, b3⟩ := ih (p ++ [u]) a1 a2.2 a3.2 a4 a5 a6
     rw [List.cons_append, errsGo, dupGo, clashGo, if_neg (fun h => h hf), a2.1, a3.1]
     exact ⟨b1, b2, b3⟩
   rw [e1] at f n c
   exact key t' p i1 i2 i3 (fitsS_zero.2 f) n c
theorem checkS_zero {l : List Ro} {W L : Int} : checkS l W L = 0 ↔ Reg l W L := by
 unfold checkS
 constructor
 ·intro h
  by_cases h1 : W < 1 ∨ W > 12000 ∨ L < 0 ∨ L > 17179869184
  ·rw [if_pos h1] at h; omega
  ·rw [if_neg h1] at h
   by_cases h2 : l.length > 512
   ·rw [if_pos h2] at h; omega
   ·rw [if_neg h2] at h
    by_cases h3 : errsGo W L [] l ≠ 0
    ·rw [if_pos h3] at h; exact absurd h h3
    ·rw [if_neg h3] at h
     by_cases h4 : dupGo [] l = true
     ·rw [if_pos h4] at h; omega
     ·rw [if_neg h4] at h
      by_cases h5 : clashGo [] l = true
      ·rw [if_pos h5] at h; omega
      ·have := okp_go l [] (W := W) (L := L) .nil (Classical.not_not.1 h3) (by simpa using h4) (by simpa using h5)
       exact ⟨by omega, by omega, by omega, by simpa using this⟩
 ·rintro ⟨h1, h2, h3, h4⟩
  obtain ⟨a, b, c⟩ := go_okp h4 l [] rfl
  rw [if_neg (by omega), if_neg (by omega), if_neg (fun h => h a), if_neg (by rw [b]; decide), if_neg (by rw [c]; decide)]
end Go.AM
namespace Go.AM
open Go Go.Proofs Go.IntKind

theorem spn_in {m : List Rn} (h : goods m) : In 0 17179869184 (m.map spn) := In.of fun s hs => by
 obtain ⟨r, hr, rfl⟩ := List.mem_map.1 hs
 obtain ⟨a, b, c, d⟩ := (h.mem r hr).lohi
 exact ⟨a, by show lo r ≤ hi r + 1; omega, by show hi r + 1 ≤ _; omega⟩
theorem normS_spn {m : List Rn} (h : Chk m) : normS (m.map spn) = (nf (m.map spn), 0) := by
 unfold normS
 rw [if_neg (fun e => e (chkS_zero.2 ⟨by rw [List.length_map]; exact h.len, spn_in h.goods⟩))]
theorem totalS_nf {m : List Rn} (h : Chk m) : totalS (nf (m.map spn)) = (tot (nf (m.map spn)), 0) := by
 have hi := spn_in h.goods
 have hl := nf_len hi
 have hm := h.len
 rw [List.length_map] at hl
 unfold totalS
 rw [if_neg (fun e => e (chkS_zero.2 ⟨by omega, nf_in hi⟩)), nf_self (nf_in hi) (nf_nr hi)]

theorem iso_images_s (k : Nat) (r : Rn) (h : good r) : f_u44 k r = some (spn r) := by
 have h' := h
 obtain ⟨g1, g2, g3, g4, _⟩ := h'
 obtain ⟨l1, l2, l3, l4⟩ := h.lohi
 unfold f_u44
 rw [wrap_id (i := r.snd.fst - 1) (by omega) (by omega), iso_image_s k r _ (by omega) (by omega) (by omega) (by omega), iso_image_v k r _ (by omega) (by omega) (by omega) (by omega), max_ends h, min_ends h, wrap_id (by omega) (by omega)]
 rfl
theorem iso_images_v (k : Nat) (r : Rn) (h : good r) : v_u44 k r = spn r := by
 unfold v_u44; rw [iso_images_s k r h]; rfl

theorem iso_Image_l (k : Nat) (hk : 2100 ≤ k) (m : List Rn) (hc : Chk m) : ∀ (j i : Nat), i ≤ m.length → m.length - i + 1 < j →
  f_u35_6 k j m (m.length : Int) (i : Int) ((m.take i).map spn) = some (nf (m.map spn), 0) := by
 have hml := hc.len
 intro j
 induction j with
 | zero => intros; omega
 | succ j ih =>
  intro i hi hj
  rw [f_u35_6]
  by_cases h : i < m.length
  ·have hgr : good (m.getD i T0.dflt) := hc.goods.mem _ (by simp [h])
   have ht := take_snoc m i T0.dflt h
   have := ih (i + 1) (by omega) (by omega)
   rw [ht, List.map_append] at this
   rw [decide_eq_true (by omega : (i : Int) < (m.length : Int)), cond_true, if_pos ⟨by omega, by omega⟩, Int.toNat_natCast, iso_images_s k _ hgr, iso_images_v k _ hgr, if_pos ⟨rfl, by rw [List.length_map, List.length_take, List.length_singleton]; omega⟩, wrapS i (by omega)]
   exact this
  ·obtain ⟨j, rfl⟩ : ∃ q, j = q + 1 := ⟨j - 1, by omega⟩
   rw [decide_eq_false (by omega : ¬ (i : Int) < (m.length : Int)), cond_false, List.take_of_length_le (by omega), f_u35_10, span_Norm_s k hk, span_Norm_v k hk, normS_spn hc]
   rfl
theorem iso_Image_s (k : Nat) (hk : 2100 ≤ k) (m : List Rn) : f_u35 k m = some (imageS m) := by
 unfold f_u35 imageS
 rw [iso_Check_s k (by omega), iso_Check_v k (by omega), Option.isSome_some, if_pos rfl]
 by_cases h1 : chk m = 0
 ·have hc := chk_zero.1 h1
  have hml := hc.len
  rw [show (chk m != 0) = false by simp [h1], cond_false, if_neg (fun h : chk m ≠ 0 => h h1)]
  exact iso_Image_l k hk m hc k 0 (by omega) (by omega)
 ·rw [show (chk m != 0) = true by simp [h1], cond_true, if_pos h1]
theorem iso_Image_v (k : Nat) (hk : 2100 ≤ k) (m : List Rn) : v_u35 k m = imageS m := by
 unfold v_u35; rw [iso_Image_s k hk]; rfl

theorem iso_Single_s (k : Nat) (hk : 2100 ≤ k) (m : List Rn) : f_u37 k m = some (singleS m) := by
 unfold f_u37 singleS
 rw [iso_Image_s k hk, iso_Image_v k hk, Option.isSome_some, if_pos rfl]
 unfold imageS
 by_cases h1 : chk m = 0
 ·have hc := chk_zero.1 h1
  have hml := hc.len
  rw [if_neg (fun h : chk m ≠ 0 => h h1), decide_eq_true h1, Bool.true_and]
  show (bif (0 : Int) != 0 then _ else _) = _
  rw [show ((0 : Int) != 0) = false from rfl, cond_false]
  show (if (f_u108 k (nf (m.map spn))).isSome = true then _ else none) = _
  rw [span_Total_s k (by omega)]
  show (bif ((v_u108 k (nf (m.map spn))).snd == 0) then _ else _) = _
  rw [span_Total_v k (by omega), totalS_nf hc, iso_length_s k m hc.goods (by omega) (by omega), iso_length_v k m hc.goods (by omega) (by omega)]
  rfl
 ·rw [if_pos h1, decide_eq_false h1, Bool.false_and]
  show (bif chk m != 0 then some false else _) = _
  rw [show (chk m != 0) = true by simp [h1], cond_true]
theorem iso_Single_v (k : Nat) (hk : 2100 ≤ k) (m : List Rn) : v_u37 k m = singleS m := by
 unfold v_u37; rw [iso_Single_s k hk]; rfl

theorem ref13_Image_l (k : Nat) (hk : 2100 ≤ k) (m : List Rn) (hc : Chk m) : ∀ (j i : Nat), i ≤ m.length → m.length - i + 1 < j →
  f_u70_6 k j m (i : Int) ((m.take i).map spn) = some (nf (m.map spn), 0) := by
 have hml := hc.len
 intro j
 induction j with
 | zero => intros; omega
 | succ j ih =>
  intro i hi hj
  rw [f_u70_6]
  by_cases h : i < m.length
  ·have hgr : good (m.getD i T0.dflt) := hc.goods.mem _ (by simp [h])
   have ht := take_snoc m i T0.dflt h
   have := ih (i + 1) (by omega) (by omega)
   rw [ht, List.map_append] at this
   rw [decide_eq_true (by omega : (i : Int) < (m.length : Int)), cond_true, Int.toNat_natCast]
   generalize m.getD i T0.dflt = r at hgr this
   have h' := hgr
   obtain ⟨g1, g2, g3, g4, _⟩ := h'
   obtain ⟨l1, l2, l3, l4⟩ := hgr.lohi
   rw [wrap_id (i := r.snd.fst - 1) (by omega) (by omega), ref13_image_s k r _ (by omega) (by omega) (by omega) (by omega), ref13_image_v k r _ (by omega) (by omega) (by omega) (by omega), max_ends hgr, min_ends hgr, wrap_id (i := Go.AM.hi r + 1) (by omega) (by omega), if_pos ⟨by omega, by omega, by omega, by omega, by omega, by omega, rfl⟩, if_pos (by rw [List.length_map, List.length_take, List.length_singleton]; omega), wrapS i (by omega)]
   exact this
  ·obtain ⟨j, rfl⟩ : ∃ q, j = q + 1 := ⟨j - 1, by omega⟩
   rw [decide_eq_false (by omega : ¬ (i : Int) < (m.length : Int)), cond_false, List.take_of_length_le (by omega), f_u70_10, ref04_Norm_s k (by omega), ref04_Norm_v k (by omega), normS_spn hc]
   rfl
theorem ref13_Image_s (k : Nat) (hk : 2100 ≤ k) (m : List Rn) : f_u70 k m = some (imageS m) := by
 unfold f_u70 imageS
 rw [ref13_Check_s k (by omega), ref13_Check_v k (by omega), Option.isSome_some, if_pos rfl]
 by_cases h1 : chk m = 0
 ·have hc := chk_zero.1 h1
  have hml := hc.len
  rw [show (chk m != 0) = false by simp [h1], cond_false, if_neg (fun h : chk m ≠ 0 => h h1)]
  exact ref13_Image_l k hk m hc k 0 (by omega) (by omega)
 ·rw [show (chk m != 0) = true by simp [h1], cond_true, if_pos h1]
theorem ref13_Image_v (k : Nat) (hk : 2100 ≤ k) (m : List Rn) : v_u70 k m = imageS m := by
 unfold v_u70; rw [ref13_Image_s k hk]; rfl
theorem ref13_Single_s (k : Nat) (hk : 2100 ≤ k) (m : List Rn) : f_u71 k m = some (singleS m) := by
 unfold f_u71 singleS
 rw [ref13_Check_s k (by omega), ref13_Check_v k (by omega), Option.isSome_some, if_pos rfl]
 by_cases h1 : chk m = 0
 ·have hc := chk_zero.1 h1
  have hml := hc.len
  rw [show (chk m != 0) = false by simp [h1], cond_false, decide_eq_true h1, Bool.true_and, ref13_Image_s k hk, ref13_Image_v k hk]
  unfold imageS
  rw [if_neg (fun h : chk m ≠ 0 => h h1), ref04_Total_s k (by omega), ref04_Total_v k (by omega), totalS_nf hc, ref13_length_s k m hc.goods (by omega) (by omega), ref13_length_v k m hc.goods (by omega) (by omega)]
  rfl
 ·rw [show (chk m != 0) = true by simp [h1], cond_true, decide_eq_false h1, Bool.false_and]
theorem ref13_Single_v (k : Nat) (hk : 2100 ≤ k) (m : List Rn) : v_u71 k m = singleS m := by
 unfold v_u71; rw [ref13_Single_s k hk]; rfl
end Go.AM
namespace Go.AM
open Go Go.Proofs Go.IntKind
set_option linter.unusedVariables false
noncomputable section
abbrev R_u12 : Type := Int × Int
def res_u12 (r : R_u12) : AV := .tup [.r (.v (.int .i64 r.1)), .r (.v (.int .i64 r.2))]
def bo_u12 (x_ : T0.T) (r : R_u12) : List (Nat × Blk) := []
def args_u12 (x_ : T0.T) : List AV := [.agg (rvs (enc T0 x_))]
def bin_u12 (x_ : T0.T) : List Blk := []
def f_u12 (k : Nat) (x_ : T0.T) : Option R_u12 :=
 bif x_.2.2 then
 some ((i64.wrap (i64.wrap (x_.1 - x_.2.1) + 1), x_.1))
 else
 some ((x_.1, i64.wrap (i64.wrap (x_.1 + x_.2.1) - 1)))
def v_u12 (k : Nat) (x_ : T0.T) : R_u12 := (f_u12 k x_).getD (0, 0)
def K_u12 (k : Nat) : Calld := ⟨fun g xs => match g with
 | _ => none, fun g xs bs => match g with
 | _ => none⟩
theorem of_u12 (k : Nat) (x_ : T0.T) (r : R_u12) (h : f_u12 k x_ = some r) : CC Tryz.prog 65 (args_u12 x_) (bin_u12 x_) (res_u12 r) (bo_u12 x_ r) := by
 refine CC.of (fn := Tryz.f65) (by kernel_rfl) (by kernel_rfl) (by kernel_rfl) (by kernel_rfl) ?_
 unfold f_u12 at h
 refine Ev.tree hm (R := Rt) (K := (K_u12 k)) (l := []) (C := []) (E := [.autoB [2, 3] true []]) (n := 1000) (T := .test (x_.2.2) (.leaf (res_u12 ((i64.wrap (i64.wrap (x_.1 - x_.2.1) + 1), x_.1))) (bo_u12 x_ ((i64.wrap (i64.wrap (x_.1 - x_.2.1) + 1), x_.1)))) (.leaf (res_u12 ((x_.1, i64.wrap (i64.wrap (x_.1 + x_.2.1) - 1)))) (bo_u12 x_ ((x_.1, i64.wrap (i64.wrap (x_.1 + x_.2.1) - 1)))))) (by kernel_rfl) ?_
 refine ⟨fun c => ?_, fun c => ?_⟩
 ·rw [cond_t (show x_.2.2 = true from c)] at h
  cases h; exact ⟨rfl, rfl⟩
 ·rw [cond_f (show x_.2.2 = false from c)] at h
  cases h; exact ⟨rfl, rfl⟩
theorem cc_u12 (k : Nat) (x_ : T0.T) (h : (f_u12 k x_).isSome = true) : CC Tryz.prog 65 (args_u12 x_) (bin_u12 x_) (res_u12 (v_u12 k x_)) (bo_u12 x_ (v_u12 k x_)) := by
 cases e : f_u12 k x_ with
 | none => rw [e] at h; cases h
 | some r => rw [show v_u12 k x_ = r by simp [v_u12, e]]; exact of_u12 k x_ r e

end
end Go.AM
namespace Go.AM
open Go Go.Proofs Go.IntKind
set_option linter.unusedVariables false
noncomputable section
abbrev R_u16 : Type := Bool
def res_u16 (r : R_u16) : AV := .r (.v (.bool r))
def bo_u16 (a_ : T1.T) (b_ : T1.T) (r : R_u16) : List (Nat × Blk) := []
def args_u16 (a_ : T1.T) (b_ : T1.T) : List AV := [.agg (rvs (enc T1 a_)), .agg (rvs (enc T1 b_))]
def bin_u16 (a_ : T1.T) (b_ : T1.T) : List Blk := []
def st_u16_4 (y0 : List (T0).T) (y1 : Int) (y2 : Int) (y3 : T1.T) : St := ⟨mkS 65 [(3, .ptr 1000000 0 0), (32, .r (.ro T0 y0)), (33, .r (.v (.int .i64 y1))), (34, .r (.v (.int .i64 y2)))], [(1000000, 0, .var 41 (rvs (enc T1 y3)))]⟩
def st_u16_8 (y0 : Int) (y1 : Int) (y2 : List (T0).T) (y3 : Int) (y4 : Int) (y5 : List (T0).T) (y6 : Int) (y7 : Int) (y8 : T1.T) : St := ⟨mkS 65 [(3, .ptr 1000000 0 0), (7, .r (.v (.int .i64 y0))), (8, .r (.v (.int .i64 y1))), (32, .r (.ro T0 y2)), (33, .r (.v (.int .i64 y3))), (34, .r (.v (.int .i64 y4))), (44, .r (.ro T0 y5)), (45, .r (.v (.int .i64 y6))), (46, .r (.v (.int .i64 y7)))], [(1000000, 0, .var 41 (rvs (enc T1 y8)))]⟩
mutual
def f_u16_4 (k : Nat) : Nat → List (T0).T → Int → Int → T1.T → Option R_u16
 | 0, _, _, _, _ => none
 | j + 1, y0, y1, y2, y3 =>
 bif (decide (y2 < y1)) then
 if (0 ≤ y2) ∧ (y2 < (↑y0.length : Int)) then
 if ((f_u12 k (y0.getD y2.toNat T0.dflt)).isSome = true) then
 f_u16_8 k j ((v_u12 k (y0.getD y2.toNat T0.dflt)).1) ((v_u12 k (y0.getD y2.toNat T0.dflt)).2) y0 y1 y2 y3.2.2.2 ((↑ (List.length y3.2.2.2) : Int)) 0 y3
 else none
 else none
 else
 some false
def f_u16_8 (k : Nat) : Nat → Int → Int → List (T0).T → Int → Int → List (T0).T → Int → Int → T1.T → Option R_u16
 | 0, _, _, _, _, _, _, _, _, _ => none
 | j + 1, y0, y1, y2, y3, y4, y5, y6, y7, y8 =>
 bif (decide (y7 < y6)) then
 if (0 ≤ y7) ∧ (y7 < (↑y5.length : Int)) then
 if ((f_u12 k (y5.getD y7.toNat T0.dflt)).isSome = true) then
 bif (decide (y0 ≤ (v_u12 k (y5.getD y7.toNat T0.dflt)).2) && decide ((v_u12 k (y5.getD y7.toNat T0.dflt)).1 ≤ y1)) then
 some true
 else
 f_u16_8 k j y0 y1 y2 y3 y4 y5 y6 ((i64.wrap (y7 + 1))) y8
 else none
 else none
 else
 f_u16_4 k j y2 y3 ((i64.wrap (y4 + 1))) y8
end
def f_u16 (k : Nat) (a_ : T1.T) (b_ : T1.T) : Option R_u16 :=
 bif (decide (i64.wrap (a_.1 + a_.2.1) ≤ b_.1) || decide (i64.wrap (b_.1 + b_.2.1) ≤ a_.1)) then
 some false
 else
 f_u16_4 k k a_.2.2.2 ((↑ (List.length a_.2.2.2) : Int)) 0 b_
def v_u16 (k : Nat) (a_ : T1.T) (b_ : T1.T) : R_u16 := (f_u16 k a_ b_).getD false
def K_u16 (k : Nat) : Calld := ⟨fun g xs => match g with
 | 65 => match xs with
  | [_] => some [false]
  | _ => none
 | _ => none, fun g xs bs => match g with
 | 65 => match xs, bs with
  | [.agg qx_], [] => (decS [] T0 qx_).bind fun x_ => some (.one (res_u12 (v_u12 k x_), bo_u12 x_ (v_u12 k x_)))
  | _, _ => none
 | _ => none⟩
theorem ev_u16 (k : Nat) (a_ : T1.T) (b_ : T1.T) : ∀ j, (∀ (y0 : List (T0).T) (y1 : Int) (y2 : Int) (y3 : T1.T) (r : R_u16), f_u16_4 k j y0 y1 y2 y3 = some r → Ev Tryz.prog Tryz.f60 0 (placeAt Tryz.f60 4) (st_u16_4 y0 y1 y2 y3) (res_u16 r) (bo_u16 a_ b_ r)) ∧ (∀ (y0 : Int) (y1 : Int) (y2 : List (T0).T) (y3 : Int) (y4 : Int) (y5 : List (T0).T) (y6 : Int) (y7 : Int) (y8 : T1.T) (r : R_u16), f_u16_8 k j y0 y1 y2 y3 y4 y5 y6 y7 y8 = some r → Ev Tryz.prog Tryz.f60 0 (placeAt Tryz.f60 8) (st_u16_8 y0 y1 y2 y3 y4 y5 y6 y7 y8) (res_u16 r) (bo_u16 a_ b_ r))
 | 0 => by
  refine ⟨?_, ?_⟩ <;> intros <;> rename_i h <;> simp [f_u16_4, f_u16_8] at h
 | j + 1 => by
  have ih := ev_u16 k a_ b_ j
  refine ⟨?_, ?_⟩
  ·intro y0 y1 y2 y3 r h
   rw [f_u16_4] at h
   refine Ev.tree hm (R := Rt) (K := (K_u16 k)) (l := []) (C := [(4, [.autoB [3, 32, 33, 34] false []]), (8, [.autoB [3, 7, 8, 32, 33, 34, 44, 45, 46] false []])]) (E := [.autoB [4] true []]) (n := 1000) (T := .test ((decide (y2 < y1))) (.need [0 ≤ y2, y2 < (↑y0.length : Int)] (.need [CC Tryz.prog 65 (args_u12 (y0.getD y2.toNat T0.dflt)) (bin_u12 (y0.getD y2.toNat T0.dflt)) (res_u12 (v_u12 k (y0.getD y2.toNat T0.dflt))) (bo_u12 (y0.getD y2.toNat T0.dflt) (v_u12 k (y0.getD y2.toNat T0.dflt)))] (.cut 8 (placeAt Tryz.f60 8) (st_u16_8 ((v_u12 k (y0.getD y2.toNat T0.dflt)).1) ((v_u12 k (y0.getD y2.toNat T0.dflt)).2) y0 y1 y2 y3.2.2.2 ((↑ (List.length y3.2.2.2) : Int)) 0 y3)))) (.leaf (res_u16 false) (bo_u16 a_ b_ false))) (by kernel_rfl) ?_
   refine ⟨fun c => ?_, fun c => ?_⟩
   ·rw [cond_t (show ((decide (y2 < y1))) = true from c)] at h
    by_cases q : (0 ≤ y2) ∧ (y2 < (↑y0.length : Int))
    ·rw [if_pos q] at h
     refine ⟨(conjC q.1 (conjC q.2 conj0)), ?_⟩
     by_cases q : ((f_u12 k (y0.getD y2.toNat T0.dflt)).isSome = true)
     ·rw [if_pos q] at h
      refine ⟨(conjC (cc_u12 k (y0.getD y2.toNat T0.dflt) q) conj0), ?_⟩
      exact ih.2 ((v_u12 k (y0.getD y2.toNat T0.dflt)).1) ((v_u12 k (y0.getD y2.toNat T0.dflt)).2) y0 y1 y2 y3.2.2.2 ((↑ (List.length y3.2.2.2) : Int)) 0 y3 _ h
     ·rw [if_neg q] at h; cases h
    ·rw [if_neg q] at h; cases h
   ·rw [cond_f (show ((decide (y2 < y1))) = false from c)] at h
    cases h; exact ⟨rfl, rfl⟩
  ·intro y0 y1 y2 y3 y4 y5 y6 y7 y8 r h
   rw [f_u16_8] at h
   refine Ev.tree hm (R := Rt) (K := (K_u16 k)) (l := []) (C := [(4, [.autoB [3, 32, 33, 34] false []]), (8, [.autoB [3, 7, 8, 32, 33, 34, 44, 45, 46] false []])]) (E := [.autoB [4] true []]) (n := 1000) (T := .test ((decide (y7 < y6))) (.need [0 ≤ y7, y7 < (↑y5.length : Int)] (.need [CC Tryz.prog 65 (args_u12 (y5.getD y7.toNat T0.dflt)) (bin_u12 (y5.getD y7.toNat T0.dflt)) (res_u12 (v_u12 k (y5.getD y7.toNat T0.dflt))) (bo_u12 (y5.getD y7.toNat T0.dflt) (v_u12 k (y5.getD y7.toNat T0.dflt)))] (.test ((decide (y0 ≤ (v_u12 k (y5.getD y7.toNat T0.dflt)).2) && decide ((v_u12 k (y5.getD y7.toNat T0.dflt)).1 ≤ y1))) (.leaf (res_u16 true) (bo_u16 a_ b_ true)) (.cut 8 (placeAt Tryz.f60 8) (st_u16_8 y0 y1 y2 y3 y4 y5 y6 ((i64.wrap (y7 + 1))) y8))))) (.cut 4 (placeAt Tryz.f60 4) (st_u16_4 y2 y3 ((i64.wrap (y4 + 1))) y8))) (by kernel_rfl) ?_
   refine ⟨fun c => ?_, fun c => ?_⟩
   ·rw [cond_t (show ((decide (y7 < y6))) = true from c)] at h
    by_cases q : (0 ≤ y7) ∧ (y7 < (↑y5.length : Int))
    ·rw [if_pos q] at h
     refine ⟨(conjC q.1 (conjC q.2 conj0)), ?_⟩
     by_cases q : ((f_u12 k (y5.getD y7.toNat T0.dflt)).isSome = true)
     ·rw [if_pos q] at h
      refine ⟨(conjC (cc_u12 k (y5.getD y7.toNat T0.dflt) q) conj0), ?_⟩
      refine ⟨fun c => ?_, fun c => ?_⟩
      ·rw [cond_t (show ((decide (y0 ≤ (v_u12 k (y5.getD y7.toNat T0.dflt)).2) && decide ((v_u12 k (y5.getD y7.toNat T0.dflt)).1 ≤ y1))) = true from c)] at h
       cases h; exact ⟨rfl, rfl⟩
      ·rw [cond_f (show ((decide (y0 ≤ (v_u12 k (y5.getD y7.toNat T0.dflt)).2) && decide ((v_u12 k (y5.getD y7.toNat T0.dflt)).1 ≤ y1))) = false from c)] at h
       exact ih.2 y0 y1 y2 y3 y4 y5 y6 ((i64.wrap (y7 + 1))) y8 _ h
     ·rw [if_neg q] at h; cases h
    ·rw [if_neg q] at h; cases h
   ·rw [cond_f (show ((decide (y7 < y6))) = false from c)] at h
    exact ih.1 y2 y3 ((i64.wrap (y4 + 1))) y8 _ h
theorem of_u16 (k : Nat) (a_ : T1.T) (b_ : T1.T) (r : R_u16) (h : f_u16 k a_ b_ = some r) : CC Tryz.prog 60 (args_u16 a_ b_) (bin_u16 a_ b_) (res_u16 r) (bo_u16 a_ b_ r) := by
 refine CC.of (fn := Tryz.f60) (by kernel_rfl) (by kernel_rfl) (by kernel_rfl) (by kernel_rfl) ?_
 unfold f_u16 at h
 refine Ev.tree hm (R := Rt) (K := (K_u16 k)) (l := []) (C := [(4, [.autoB [3, 32, 33, 34] false []]), (8, [.autoB [3, 7, 8, 32, 33, 34, 44, 45, 46] false []])]) (E := [.autoB [4] true []]) (n := 1000) (T := .test ((decide (i64.wrap (a_.1 + a_.2.1) ≤ b_.1) || decide (i64.wrap (b_.1 + b_.2.1) ≤ a_.1))) (.leaf (res_u16 false) (bo_u16 a_ b_ false)) (.cut 4 (placeAt Tryz.f60 4) (st_u16_4 a_.2.2.2 ((↑ (List.length a_.2.2.2) : Int)) 0 b_))) (by kernel_rfl) ?_
 refine ⟨fun c => ?_, fun c => ?_⟩
 ·rw [cond_t (show ((decide (i64.wrap (a_.1 + a_.2.1) ≤ b_.1) || decide (i64.wrap (b_.1 + b_.2.1) ≤ a_.1))) = true from c)] at h
  cases h; exact ⟨rfl, rfl⟩
 ·rw [cond_f (show ((decide (i64.wrap (a_.1 + a_.2.1) ≤ b_.1) || decide (i64.wrap (b_.1 + b_.2.1) ≤ a_.1))) = false from c)] at h
  exact (ev_u16 k a_ b_ k).1 a_.2.2.2 ((↑ (List.length a_.2.2.2) : Int)) 0 b_ _ h
theorem cc_u16 (k : Nat) (a_ : T1.T) (b_ : T1.T) (h : (f_u16 k a_ b_).isSome = true) : CC Tryz.prog 60 (args_u16 a_ b_) (bin_u16 a_ b_) (res_u16 (v_u16 k a_ b_)) (bo_u16 a_ b_ (v_u16 k a_ b_)) := by
 cases e : f_u16 k a_ b_ with
 | none => rw [e] at h; cases h
 | some r => rw [show v_u16 k a_ b_ = r by simp [v_u16, e]]; exact of_u16 k a_ b_ r e

end
end Go.AM
namespace Go.AM
open Go Go.Proofs Go.IntKind
set_option linter.unusedVariables false
noncomputable section
abbrev R_u90 : Type := Int × Int
def res_u90 (r : R_u90) : AV := .tup [.r (.v (.int .i64 r.1)), .r (.v (.int .i64 r.2))]
def bo_u90 (r_ : T0.T) (r : R_u90) : List (Nat × Blk) := []
def args_u90 (r_ : T0.T) : List AV := [.agg (rvs (enc T0 r_))]
def bin_u90 (r_ : T0.T) : List Blk := []
def f_u90 (k : Nat) (r_ : T0.T) : Option R_u90 :=
 bif r_.2.2 then
 some ((i64.wrap (i64.wrap (r_.1 - r_.2.1) + 1), r_.1))
 else
 some ((r_.1, i64.wrap (i64.wrap (r_.1 + r_.2.1) - 1)))
def v_u90 (k : Nat) (r_ : T0.T) : R_u90 := (f_u90 k r_).getD (0, 0)
def K_u90 (k : Nat) : Calld := ⟨fun g xs => match g with
 | _ => none, fun g xs bs => match g with
 | _ => none⟩
theorem of_u90 (k : Nat) (r_ : T0.T) (r : R_u90) (h : f_u90 k r_ = some r) : CC Tryz.prog 62 (args_u90 r_) (bin_u90 r_) (res_u90 r) (bo_u90 r_ r) := by
 refine CC.of (fn := Tryz.f62) (by kernel_rfl) (by kernel_rfl) (by kernel_rfl) (by kernel_rfl) ?_
 unfold f_u90 at h
 refine Ev.tree hm (R := Rt) (K := (K_u90 k)) (l := []) (C := []) (E := [.autoB [2, 3] true []]) (n := 1000) (T := .test (r_.2.2) (.leaf (res_u90 ((i64.wrap (i64.wrap (r_.1 - r_.2.1) + 1), r_.1))) (bo_u90 r_ ((i64.wrap (i64.wrap (r_.1 - r_.2.1) + 1), r_.1)))) (.leaf (res_u90 ((r_.1, i64.wrap (i64.wrap (r_.1 + r_.2.1) - 1)))) (bo_u90 r_ ((r_.1, i64.wrap (i64.wrap (r_.1 + r_.2.1) - 1)))))) (by kernel_rfl) ?_
 refine ⟨fun c => ?_, fun c => ?_⟩
 ·rw [cond_t (show r_.2.2 = true from c)] at h
  cases h; exact ⟨rfl, rfl⟩
 ·rw [cond_f (show r_.2.2 = false from c)] at h
  cases h; exact ⟨rfl, rfl⟩
theorem cc_u90 (k : Nat) (r_ : T0.T) (h : (f_u90 k r_).isSome = true) : CC Tryz.prog 62 (args_u90 r_) (bin_u90 r_) (res_u90 (v_u90 k r_)) (bo_u90 r_ (v_u90 k r_)) := by
 cases e : f_u90 k r_ with
 | none => rw [e] at h; cases h
 | some r => rw [show v_u90 k r_ = r by simp [v_u90, e]]; exact of_u90 k r_ r e

end
end Go.AM
namespace Go.AM
open Go Go.Proofs Go.IntKind
set_option linter.unusedVariables false
noncomputable section
abbrev R_u92 : Type := Bool
def res_u92 (r : R_u92) : AV := .r (.v (.bool r))
def bo_u92 (a_ : List (T0).T) (b_ : List (T0).T) (r : R_u92) : List (Nat × Blk) := []
def args_u92 (a_ : List (T0).T) (b_ : List (T0).T) : List AV := [.r (.ro T0 a_), .r (.ro T0 b_)]
def bin_u92 (a_ : List (T0).T) (b_ : List (T0).T) : List Blk := []
def st_u92_2 (y0 : List (T0).T) (y1 : List (T0).T) (y2 : Int) : St := ⟨mkS 47 [(0, .r (.ro T0 y0)), (1, .r (.ro T0 y1)), (5, .r (.v (.int .i64 y2)))], []⟩
def st_u92_5 (y0 : List (T0).T) (y1 : List (T0).T) (y2 : Int) (y3 : Int) : St := ⟨mkS 47 [(0, .r (.ro T0 y0)), (1, .r (.ro T0 y1)), (5, .r (.v (.int .i64 y2))), (6, .r (.v (.int .i64 y3)))], []⟩
mutual
def f_u92_2 (k : Nat) : Nat → List (T0).T → List (T0).T → Int → Option R_u92
 | 0, _, _, _ => none
 | j + 1, y0, y1, y2 =>
 bif (decide (y2 < (↑y0.length : Int))) then
 f_u92_5 k j y0 y1 y2 0
 else
 some false
def f_u92_5 (k : Nat) : Nat → List (T0).T → List (T0).T → Int → Int → Option R_u92
 | 0, _, _, _, _ => none
 | j + 1, y0, y1, y2, y3 =>
 bif (decide (y3 < (↑y1.length : Int))) then
 if (0 ≤ y2) ∧ (y2 < (↑y0.length : Int)) ∧ ((f_u90 k (y0.getD y2.toNat T0.dflt)).isSome = true) then
 if (0 ≤ y3) ∧ (y3 < (↑y1.length : Int)) ∧ ((f_u90 k (y1.getD y3.toNat T0.dflt)).isSome = true) then
 bif (decide ((v_u90 k (y0.getD y2.toNat T0.dflt)).1 ≤ (v_u90 k (y1.getD y3.toNat T0.dflt)).2) && decide ((v_u90 k (y1.getD y3.toNat T0.dflt)).1 ≤ (v_u90 k (y0.getD y2.toNat T0.dflt)).2)) then
 some true
 else
 f_u92_5 k j y0 y1 y2 ((i64.wrap (y3 + 1)))
 else none
 else none
 else
 f_u92_2 k j y0 y1 ((i64.wrap (y2 + 1)))
end
def f_u92 (k : Nat) (a_ : List (T0).T) (b_ : List (T0).T) : Option R_u92 :=
 f_u92_2 k k a_ b_ 0
def v_u92 (k : Nat) (a_ : List (T0).T) (b_ : List (T0).T) : R_u92 := (f_u92 k a_ b_).getD false
def K_u92 (k : Nat) : Calld := ⟨fun g xs => match g with
 | 62 => match xs with
  | [_] => some [false]
  | _ => none
 | _ => none, fun g xs bs => match g with
 | 62 => match xs, bs with
  | [.agg qr_], [] => (decS [] T0 qr_).bind fun r_ => some (.one (res_u90 (v_u90 k r_), bo_u90 r_ (v_u90 k r_)))
  | _, _ => none
 | _ => none⟩
theorem ev_u92 (k : Nat) (a_ : List (T0).T) (b_ : List (T0).T) : ∀ j, (∀ (y0 : List (T0).T) (y1 : List (T0).T) (y2 : Int) (r : R_u92), f_u92_2 k j y0 y1 y2 = some r → Ev Tryz.prog Tryz.f41 0 (placeAt Tryz.f41 2) (st_u92_2 y0 y1 y2) (res_u92 r) (bo_u92 a_ b_ r)) ∧ (∀ (y0 : List (T0).T) (y1 : List (T0).T) (y2 : Int) (y3 : Int) (r : R_u92), f_u92_5 k j y0 y1 y2 y3 = some r → Ev Tryz.prog Tryz.f41 0 (placeAt Tryz.f41 5) (st_u92_5 y0 y1 y2 y3) (res_u92 r) (bo_u92 a_ b_ r))
 | 0 => by
  refine ⟨?_, ?_⟩ <;> intros <;> rename_i h <;> simp [f_u92_2, f_u92_5] at h
 | j + 1 => by
  have ih := ev_u92 k a_ b_ j
  refine ⟨?_, ?_⟩
  ·intro y0 y1 y2 r h
   rw [f_u92_2] at h
   refine Ev.tree hm (R := Rt) (K := (K_u92 k)) (l := []) (C := [(2, [.autoB [0, 1, 5] false []]), (5, [.autoB [0, 1, 5, 6] false []])]) (E := [.autoB [4] true []]) (n := 1000) (T := .test ((decide (y2 < (↑y0.length : Int)))) (.cut 5 (placeAt Tryz.f41 5) (st_u92_5 y0 y1 y2 0)) (.leaf (res_u92 false) (bo_u92 a_ b_ false))) (by kernel_rfl) ?_
   refine ⟨fun c => ?_, fun c => ?_⟩
   ·rw [cond_t (show ((decide (y2 < (↑y0.length : Int)))) = true from c)] at h
    exact ih.2 y0 y1 y2 0 _ h
   ·rw [cond_f (show ((decide (y2 < (↑y0.length : Int)))) = false from c)] at h
    cases h; exact ⟨rfl, rfl⟩
  ·intro y0 y1 y2 y3 r h
   rw [f_u92_5] at h
   refine Ev.tree hm (R := Rt) (K := (K_u92 k)) (l := []) (C := [(2, [.autoB [0, 1, 5] false []]), (5, [.autoB [0, 1, 5, 6] false []])]) (E := [.autoB [4] true []]) (n := 1000) (T := .test ((decide (y3 < (↑y1.length : Int)))) (.need [0 ≤ y2, y2 < (↑y0.length : Int), CC Tryz.prog 62 (args_u90 (y0.getD y2.toNat T0.dflt)) (bin_u90 (y0.getD y2.toNat T0.dflt)) (res_u90 (v_u90 k (y0.getD y2.toNat T0.dflt))) (bo_u90 (y0.getD y2.toNat T0.dflt) (v_u90 k (y0.getD y2.toNat T0.dflt)))] (.need [0 ≤ y3, y3 < (↑y1.length : Int), CC Tryz.prog 62 (args_u90 (y1.getD y3.toNat T0.dflt)) (bin_u90 (y1.getD y3.toNat T0.dflt)) (res_u90 (v_u90 k (y1.getD y3.toNat T0.dflt))) (bo_u90 (y1.getD y3.toNat T0.dflt) (v_u90 k (y1.getD y3.toNat T0.dflt)))] (.test ((decide ((v_u90 k (y0.getD y2.toNat T0.dflt)).1 ≤ (v_u90 k (y1.getD y3.toNat T0.dflt)).2) && decide ((v_u90 k (y1.getD y3.toNat T0.dflt)).1 ≤ (v_u90 k (y0.getD y2.toNat T0.dflt)).2))) (.leaf (res_u92 true) (bo_u92 a_ b_ true)) (.cut 5 (placeAt Tryz.f41 5) (st_u92_5 y0 y1 y2 ((i64.wrap (y3 + 1)))))))) (.cut 2 (placeAt Tryz.f41 2) (st_u92_2 y0 y1 ((i64.wrap (y2 + 1)))))) (by kernel_rfl) ?_
   refine ⟨fun c => ?_, fun c => ?_⟩
   ·rw [cond_t (show ((decide (y3 < (↑y1.length : Int)))) = true from c)] at h
    by_cases q : (0 ≤ y2) ∧ (y2 < (↑y0.length : Int)) ∧ ((f_u90 k (y0.getD y2.toNat T0.dflt)).isSome = true)
    ·rw [if_pos q] at h
     refine ⟨(conjC q.1 (conjC q.2.1 (conjC (cc_u90 k (y0.getD y2.toNat T0.dflt) q.2.2) conj0))), ?_⟩
     by_cases q : (0 ≤ y3) ∧ (y3 < (↑y1.length : Int)) ∧ ((f_u90 k (y1.getD y3.toNat T0.dflt)).isSome = true)
     ·rw [if_pos q] at h
      refine ⟨(conjC q.1 (conjC q.2.1 (conjC (cc_u90 k (y1.getD y3.toNat T0.dflt) q.2.2) conj0))), ?_⟩
      refine ⟨fun c => ?_, fun c => ?_⟩
      ·rw [cond_t (show ((decide ((v_u90 k (y0.getD y2.toNat T0.dflt)).1 ≤ (v_u90 k (y1.getD y3.toNat T0.dflt)).2) && decide ((v_u90 k (y1.getD y3.toNat T0.dflt)).1 ≤ (v_u90 k (y0.getD y2.toNat T0.dflt)).2))) = true from c)] at h
       cases h; exact ⟨rfl, rfl⟩
      ·rw [cond_f (show ((decide ((v_u90 k (y0.getD y2.toNat T0.dflt)).1 ≤ (v_u90 k (y1.getD y3.toNat T0.dflt)).2) && decide ((v_u90 k (y1.getD y3.toNat T0.dflt)).1 ≤ (v_u90 k (y0.getD y2.toNat T0.dflt)).2))) = false from c)] at h
       exact ih.2 y0 y1 y2 ((i64.wrap (y3 + 1))) _ h
     ·rw [if_neg q] at h; cases h
    ·rw [if_neg q] at h; cases h
   ·rw [cond_f (show ((decide (y3 < (↑y1.length : Int)))) = false from c)] at h
    exact ih.1 y0 y1 ((i64.wrap (y2 + 1))) _ h
theorem of_u92 (k : Nat) (a_ : List (T0).T) (b_ : List (T0).T) (r : R_u92) (h : f_u92 k a_ b_ = some r) : CC Tryz.prog 41 (args_u92 a_ b_) (bin_u92 a_ b_) (res_u92 r) (bo_u92 a_ b_ r) := by
 refine CC.of (fn := Tryz.f41) (by kernel_rfl) (by kernel_rfl) (by kernel_rfl) (by kernel_rfl) ?_
 unfold f_u92 at h
 refine Ev.tree hm (R := Rt) (K := (K_u92 k)) (l := []) (C := [(2, [.autoB [0, 1, 5] false []]), (5, [.autoB [0, 1, 5, 6] false []])]) (E := [.autoB [4] true []]) (n := 1000) (T := .cut 2 (placeAt Tryz.f41 2) (st_u92_2 a_ b_ 0)) (by kernel_rfl) ?_
 exact (ev_u92 k a_ b_ k).1 a_ b_ 0 _ h
theorem cc_u92 (k : Nat) (a_ : List (T0).T) (b_ : List (T0).T) (h : (f_u92 k a_ b_).isSome = true) : CC Tryz.prog 41 (args_u92 a_ b_) (bin_u92 a_ b_) (res_u92 (v_u92 k a_ b_)) (bo_u92 a_ b_ (v_u92 k a_ b_)) := by
 cases e : f_u92 k a_ b_ with
 | none => rw [e] at h; cases h
 | some r => rw [show v_u92 k a_ b_ = r by simp [v_u92, e]]; exact of_u92 k a_ b_ r e

end
end Go.AM
namespace Go.AM
open Go Go.Proofs Go.IntKind
set_option linter.unusedVariables false
noncomputable section
abbrev R_u82 : Type := Int
def res_u82 (r : R_u82) : AV := .r (.v (.int .i64 r))
def bo_u82 (l_ : List (T2).T) (n_ : Int) (id_ : Int) (r : R_u82) : List (Nat × Blk) := []
def args_u82 (l_ : List (T2).T) (n_ : Int) (id_ : Int) : List AV := [.r (.ro T2 l_), .r (.v (.int .i64 n_)), .r (.v (.int .i64 id_))]
def bin_u82 (l_ : List (T2).T) (n_ : Int) (id_ : Int) : List Blk := []
def st_u82_2 (y0 : List (T2).T) (y1 : Int) (y2 : Int) (y3 : Int) : St := ⟨mkS 21 [(0, .r (.ro T2 y0)), (1, .r (.v (.int .i64 y1))), (2, .r (.v (.int .i64 y2))), (7, .r (.v (.int .i64 y3)))], []⟩
def f_u82_2 (k : Nat) : Nat → List (T2).T → Int → Int → Int → Option R_u82
 | 0, _, _, _, _ => none
 | j + 1, y0, y1, y2, y3 =>
 bif (decide (y3 < y1)) then
 if (0 ≤ y3) ∧ (y3 < (↑y0.length : Int)) then
 bif ((y0.getD y3.toNat T2.dflt).1 == y2) then
 some y3
 else
 f_u82_2 k j y0 y1 y2 ((i64.wrap (y3 + 1)))
 else none
 else
 some (-1)
def f_u82 (k : Nat) (l_ : List (T2).T) (n_ : Int) (id_ : Int) : Option R_u82 :=
 f_u82_2 k k l_ n_ id_ 0
def v_u82 (k : Nat) (l_ : List (T2).T) (n_ : Int) (id_ : Int) : R_u82 := (f_u82 k l_ n_ id_).getD 0
def K_u82 (k : Nat) : Calld := ⟨fun g xs => match g with
 | _ => none, fun g xs bs => match g with
 | _ => none⟩
theorem ev_u82 (k : Nat) (l_ : List (T2).T) (n_ : Int) (id_ : Int) : ∀ j, (∀ (y0 : List (T2).T) (y1 : Int) (y2 : Int) (y3 : Int) (r : R_u82), f_u82_2 k j y0 y1 y2 y3 = some r → Ev Tryz.prog Tryz.f35 0 (placeAt Tryz.f35 2) (st_u82_2 y0 y1 y2 y3) (res_u82 r) (bo_u82 l_ n_ id_ r))
 | 0 => by
  intros; rename_i h; simp [f_u82_2] at h
 | j + 1 => by
  have ih := ev_u82 k l_ n_ id_ j
  ·intro y0 y1 y2 y3 r h
   rw [f_u82_2] at h
   refine Ev.tree hm (R := Rt) (K := (K_u82 k)) (l := []) (C := [(2, [.autoB [0, 1, 2, 7] false []])]) (E := [.autoB [6] true []]) (n := 1000) (T := .test ((decide (y3 < y1))) (.need [0 ≤ y3, y3 < (↑y0.length : Int)] (.test (((y0.getD y3.toNat T2.dflt).1 == y2)) (.leaf (res_u82 y3) (bo_u82 l_ n_ id_ y3)) (.cut 2 (placeAt Tryz.f35 2) (st_u82_2 y0 y1 y2 ((i64.wrap (y3 + 1))))))) (.leaf (res_u82 (-1)) (bo_u82 l_ n_ id_ (-1)))) (by kernel_rfl) ?_
   refine ⟨fun c => ?_, fun c => ?_⟩
   ·rw [cond_t (show ((decide (y3 < y1))) = true from c)] at h
    by_cases q : (0 ≤ y3) ∧ (y3 < (↑y0.length : Int))
    ·rw [if_pos q] at h
     refine ⟨(conjC q.1 (conjC q.2 conj0)), ?_⟩
     refine ⟨fun c => ?_, fun c => ?_⟩
     ·rw [cond_t (show (((y0.getD y3.toNat T2.dflt).1 == y2)) = true from c)] at h
      cases h; exact ⟨rfl, rfl⟩
     ·rw [cond_f (show (((y0.getD y3.toNat T2.dflt).1 == y2)) = false from c)] at h
      exact ih y0 y1 y2 ((i64.wrap (y3 + 1))) _ h
    ·rw [if_neg q] at h; cases h
   ·rw [cond_f (show ((decide (y3 < y1))) = false from c)] at h
    cases h; exact ⟨rfl, rfl⟩
theorem of_u82 (k : Nat) (l_ : List (T2).T) (n_ : Int) (id_ : Int) (r : R_u82) (h : f_u82 k l_ n_ id_ = some r) : CC Tryz.prog 35 (args_u82 l_ n_ id_) (bin_u82 l_ n_ id_) (res_u82 r) (bo_u82 l_ n_ id_ r) := by
 refine CC.of (fn := Tryz.f35) (by kernel_rfl) (by kernel_rfl) (by kernel_rfl) (by kernel_rfl) ?_
 unfold f_u82 at h
 refine Ev.tree hm (R := Rt) (K := (K_u82 k)) (l := []) (C := [(2, [.autoB [0, 1, 2, 7] false []])]) (E := [.autoB [6] true []]) (n := 1000) (T := .cut 2 (placeAt Tryz.f35 2) (st_u82_2 l_ n_ id_ 0)) (by kernel_rfl) ?_
 exact (ev_u82 k l_ n_ id_ k) l_ n_ id_ 0 _ h
theorem cc_u82 (k : Nat) (l_ : List (T2).T) (n_ : Int) (id_ : Int) (h : (f_u82 k l_ n_ id_).isSome = true) : CC Tryz.prog 35 (args_u82 l_ n_ id_) (bin_u82 l_ n_ id_) (res_u82 (v_u82 k l_ n_ id_)) (bo_u82 l_ n_ id_ (v_u82 k l_ n_ id_)) := by
 cases e : f_u82 k l_ n_ id_ with
 | none => rw [e] at h; cases h
 | some r => rw [show v_u82 k l_ n_ id_ = r by simp [v_u82, e]]; exact of_u82 k l_ n_ id_ r e

end
end Go.AM
namespace Go.AM
open Go Go.Proofs Go.IntKind
set_option linter.unusedVariables false
noncomputable section
abbrev R_u85 : Type := Int
def res_u85 (r : R_u85) : AV := .r (.v (.int .i64 r))
def bo_u85 (m_ : List (T0).T) (r : R_u85) : List (Nat × Blk) := []
def args_u85 (m_ : List (T0).T) : List AV := [.r (.ro T0 m_)]
def bin_u85 (m_ : List (T0).T) : List Blk := []
def st_u85_3 (y0 : List (T0).T) (y1 : Int) (y2 : Int) : St := ⟨mkS 19 [(0, .r (.ro T0 y0)), (3, .r (.v (.int .i64 y1))), (4, .r (.v (.int .i64 y2)))], []⟩
def f_u85_3 (k : Nat) : Nat → List (T0).T → Int → Int → Option R_u85
 | 0, _, _, _ => none
 | j + 1, y0, y1, y2 =>
 bif (decide (y2 < (↑y0.length : Int))) then
 if (0 ≤ y2) ∧ (y2 < (↑y0.length : Int)) then
 f_u85_3 k j y0 ((i64.wrap (y1 + (y0.getD y2.toNat T0.dflt).2.1))) ((i64.wrap (y2 + 1)))
 else none
 else
 some y1
def f_u85 (k : Nat) (m_ : List (T0).T) : Option R_u85 :=
 f_u85_3 k k m_ 0 0
def v_u85 (k : Nat) (m_ : List (T0).T) : R_u85 := (f_u85 k m_).getD 0
def K_u85 (k : Nat) : Calld := ⟨fun g xs => match g with
 | _ => none, fun g xs bs => match g with
 | _ => none⟩
theorem ev_u85 (k : Nat) (m_ : List (T0).T) : ∀ j, (∀ (y0 : List (T0).T) (y1 : Int) (y2 : Int) (r : R_u85), f_u85_3 k j y0 y1 y2 = some r → Ev Tryz.prog Tryz.f43 0 (placeAt Tryz.f43 3) (st_u85_3 y0 y1 y2) (res_u85 r) (bo_u85 m_ r))
 | 0 => by
  intros; rename_i h; simp [f_u85_3] at h
 | j + 1 => by
  have ih := ev_u85 k m_ j
  ·intro y0 y1 y2 r h
   rw [f_u85_3] at h
   refine Ev.tree hm (R := Rt) (K := (K_u85 k)) (l := []) (C := [(3, [.autoB [0, 3, 4] false []])]) (E := [.autoB [2] true []]) (n := 1000) (T := .test ((decide (y2 < (↑y0.length : Int)))) (.need [0 ≤ y2, y2 < (↑y0.length : Int)] (.cut 3 (placeAt Tryz.f43 3) (st_u85_3 y0 ((i64.wrap (y1 + (y0.getD y2.toNat T0.dflt).2.1))) ((i64.wrap (y2 + 1)))))) (.leaf (res_u85 y1) (bo_u85 m_ y1))) (by kernel_rfl) ?_
   refine ⟨fun c => ?_, fun c => ?_⟩
   ·rw [cond_t (show ((decide (y2 < (↑y0.length : Int)))) = true from c)] at h
    by_cases q : (0 ≤ y2) ∧ (y2 < (↑y0.length : Int))
    ·rw [if_pos q] at h
     refine ⟨(conjC q.1 (conjC q.2 conj0)), ?_⟩
     exact ih y0 ((i64.wrap (y1 + (y0.getD y2.toNat T0.dflt).2.1))) ((i64.wrap (y2 + 1))) _ h
    ·rw [if_neg q] at h; cases h
   ·rw [cond_f (show ((decide (y2 < (↑y0.length : Int)))) = false from c)] at h
    cases h; exact ⟨rfl, rfl⟩
theorem of_u85 (k : Nat) (m_ : List (T0).T) (r : R_u85) (h : f_u85 k m_ = some r) : CC Tryz.prog 43 (args_u85 m_) (bin_u85 m_) (res_u85 r) (bo_u85 m_ r) := by
 refine CC.of (fn := Tryz.f43) (by kernel_rfl) (by kernel_rfl) (by kernel_rfl) (by kernel_rfl) ?_
 unfold f_u85 at h
 refine Ev.tree hm (R := Rt) (K := (K_u85 k)) (l := []) (C := [(3, [.autoB [0, 3, 4] false []])]) (E := [.autoB [2] true []]) (n := 1000) (T := .cut 3 (placeAt Tryz.f43 3) (st_u85_3 m_ 0 0)) (by kernel_rfl) ?_
 exact (ev_u85 k m_ k) m_ 0 0 _ h
theorem cc_u85 (k : Nat) (m_ : List (T0).T) (h : (f_u85 k m_).isSome = true) : CC Tryz.prog 43 (args_u85 m_) (bin_u85 m_) (res_u85 (v_u85 k m_)) (bo_u85 m_ (v_u85 k m_)) := by
 cases e : f_u85 k m_ with
 | none => rw [e] at h; cases h
 | some r => rw [show v_u85 k m_ = r by simp [v_u85, e]]; exact of_u85 k m_ r e

end
end Go.AM
namespace Go.AM
open Go Go.Proofs Go.IntKind
set_option linter.unusedVariables false
noncomputable section
abbrev R_u36 : Type := Int × Int
def res_u36 (r : R_u36) : AV := .tup [.r (.v (.int .i64 r.1)), .r (.v (.int .i64 r.2))]
def bo_u36 (m_ : List (T0).T) (r : R_u36) : List (Nat × Blk) := []
def args_u36 (m_ : List (T0).T) : List AV := [.r (.ro T0 m_)]
def bin_u36 (m_ : List (T0).T) : List Blk := []
def f_u36 (k : Nat) (m_ : List (T0).T) : Option R_u36 :=
 if ((f_u32 k m_).isSome = true) then
 bif (v_u32 k m_ != (0 : Int)) then
 some ((0, v_u32 k m_))
 else
 if ((f_u45 k m_).isSome = true) then
 some ((v_u45 k m_, 0))
 else none
 else none
def v_u36 (k : Nat) (m_ : List (T0).T) : R_u36 := (f_u36 k m_).getD (0, 0)
def K_u36 (k : Nat) : Calld := ⟨fun g xs => match g with
 | 68 => match xs with
  | [_] => some [false]
  | _ => none
 | 69 => match xs with
  | [_] => some [false]
  | _ => none
 | _ => none, fun g xs bs => match g with
 | 68 => match xs, bs with
  | [.r (.ro tm__ qm_)], [] => (castL tm__ T0 qm_).bind fun m_ => some (.one (res_u32 (v_u32 k m_), bo_u32 m_ (v_u32 k m_)))
  | _, _ => none
 | 69 => match xs, bs with
  | [.r (.ro tm__ qm_)], [] => (castL tm__ T0 qm_).bind fun m_ => some (.one (res_u45 (v_u45 k m_), bo_u45 m_ (v_u45 k m_)))
  | _, _ => none
 | _ => none⟩
theorem of_u36 (k : Nat) (m_ : List (T0).T) (r : R_u36) (h : f_u36 k m_ = some r) : CC Tryz.prog 63 (args_u36 m_) (bin_u36 m_) (res_u36 r) (bo_u36 m_ r) := by
 refine CC.of (fn := Tryz.f63) (by kernel_rfl) (by kernel_rfl) (by kernel_rfl) (by kernel_rfl) ?_
 unfold f_u36 at h
 refine Ev.tree hm (R := Rt) (K := (K_u36 k)) (l := []) (C := []) (E := [.autoB [2, 3] true []]) (n := 1000) (T := .need [CC Tryz.prog 68 (args_u32 m_) (bin_u32 m_) (res_u32 (v_u32 k m_)) (bo_u32 m_ (v_u32 k m_))] (.test ((v_u32 k m_ != (0 : Int))) (.leaf (res_u36 ((0, v_u32 k m_))) (bo_u36 m_ ((0, v_u32 k m_)))) (.need [CC Tryz.prog 69 (args_u45 m_) (bin_u45 m_) (res_u45 (v_u45 k m_)) (bo_u45 m_ (v_u45 k m_))] (.leaf (res_u36 ((v_u45 k m_, 0))) (bo_u36 m_ ((v_u45 k m_, 0))))))) (by kernel_rfl) ?_
 by_cases q : ((f_u32 k m_).isSome = true)
 ·rw [if_pos q] at h
  refine ⟨(conjC (cc_u32 k m_ q) conj0), ?_⟩
  refine ⟨fun c => ?_, fun c => ?_⟩
  ·rw [cond_t (show ((v_u32 k m_ != (0 : Int))) = true from c)] at h
   cases h; exact ⟨rfl, rfl⟩
  ·rw [cond_f (show ((v_u32 k m_ != (0 : Int))) = false from c)] at h
   by_cases q : ((f_u45 k m_).isSome = true)
   ·rw [if_pos q] at h
    refine ⟨(conjC (cc_u45 k m_ q) conj0), ?_⟩
    cases h; exact ⟨rfl, rfl⟩
   ·rw [if_neg q] at h; cases h
 ·rw [if_neg q] at h; cases h
theorem cc_u36 (k : Nat) (m_ : List (T0).T) (h : (f_u36 k m_).isSome = true) : CC Tryz.prog 63 (args_u36 m_) (bin_u36 m_) (res_u36 (v_u36 k m_)) (bo_u36 m_ (v_u36 k m_)) := by
 cases e : f_u36 k m_ with
 | none => rw [e] at h; cases h
 | some r => rw [show v_u36 k m_ = r by simp [v_u36, e]]; exact of_u36 k m_ r e

end
end Go.AM
namespace Go.AM
open Go Go.Proofs Go.IntKind

theorem getD_mem' {α : Type} (l : List α) (i : Nat) (d : α) (h : i < l.length) : l.getD i d ∈ l := by simp [h]
theorem getD_app {α : Type} (p t : List α) (i : Nat) (d : α) (h : i < p.length) : (p ++ t).getD i d = p.getD i d := by simp [List.getElem?_append_left h]
theorem getD_any {α : Type} (p : List α) (i : Nat) (d e : α) (h : i < p.length) : p.getD i d = p.getD i e := by simp [h]

theorem fam_bounds_s (k : Nat) (r : Rn) (h : good r) : f_u12 k r = some (lo r, Go.AM.hi r) := by
 obtain ⟨h1, h2, h3, h4, h5, h6⟩ := h
 unfold f_u12 lo Go.AM.hi
 cases hb : r.2.2
 ·have := h6 hb
  rw [cond_false, wrap_id (i := r.1 + r.2.1) (by omega) (by omega), wrap_id (by omega) (by omega)]; rfl
 ·have := h5 hb
  rw [cond_true, wrap_id (i := r.1 - r.2.1) (by omega) (by omega), wrap_id (by omega) (by omega)]; rfl
theorem fam_bounds_v (k : Nat) (r : Rn) (h : good r) : v_u12 k r = (lo r, Go.AM.hi r) := by
 unfold v_u12; rw [fam_bounds_s k r h]; rfl
theorem ref42_ends_s (k : Nat) (r : Rn) (h : good r) : f_u90 k r = some (lo r, Go.AM.hi r) := by
 obtain ⟨h1, h2, h3, h4, h5, h6⟩ := h
 unfold f_u90 lo Go.AM.hi
 cases hb : r.2.2
 ·have := h6 hb
  rw [cond_false, wrap_id (i := r.1 + r.2.1) (by omega) (by omega), wrap_id (by omega) (by omega)]; rfl
 ·have := h5 hb
  rw [cond_true, wrap_id (i := r.1 - r.2.1) (by omega) (by omega), wrap_id (by omega) (by omega)]; rfl
theorem ref42_ends_v (k : Nat) (r : Rn) (h : good r) : v_u90 k r = (lo r, Go.AM.hi r) := by
 unfold v_u90; rw [ref42_ends_s k r h]; rfl

def touch (x y : Rn) : Bool := decide (lo x ≤ Go.AM.hi y) && decide (lo y ≤ Go.AM.hi x)
theorem meetS_eq (a b : List Rn) : meetS a b = a.any fun x => b.any fun y => touch x y := rfl

theorem fam_overlap_8 (k : Nat) (x : Rn) (a : List Rn) (la i : Int) (c : Ch) (m : List Rn) (hm : goods m) (hl : m.length ≤ 256) : ∀ (d q n : Nat), q + d = m.length →
  f_u16_8 k (n + d + 1) (lo x) (Go.AM.hi x) a la i m (m.length : Int) (q : Int) c = if (m.drop q).any (touch x) = true then some true else f_u16_4 k n a la (i64.wrap (i + 1)) c := by
 intro d
 induction d with
 | zero =>
  intro q n hq
  rw [f_u16_8, decide_eq_false (by omega : ¬ (q : Int) < (m.length : Int)), cond_false, List.drop_of_length_le (by omega), List.any_nil, if_neg (by decide)]
 | succ d ih =>
  intro q n hq
  have hg : good (m.getD q T0.dflt) := hm.mem _ (getD_mem' _ _ _ (by omega))
  rw [show n + (d + 1) + 1 = (n + d + 1) + 1 from rfl, f_u16_8, decide_eq_true (by omega : (q : Int) < (m.length : Int)), cond_true, if_pos ⟨by omega, by omega⟩, Int.toNat_natCast, fam_bounds_s k _ hg, fam_bounds_v k _ hg, Option.isSome_some, if_pos rfl, drop_cons' m q T0.dflt (by omega), List.any_cons, wrapS q (by omega), ih (q + 1) n (by omega)]
  show (bif touch x (m.getD q T0.dflt) then _ else _) = _
  cases touch x (m.getD q T0.dflt)
  ·rw [cond_false, Bool.false_or]
  ·rw [cond_true, Bool.true_or, if_pos rfl]
set_option maxRecDepth 20000 in
theorem fam_overlap_4 (k : Nat) (a : List Rn) (ha : goods a) (hl : a.length ≤ 256) (c : Ch) (hc : goods c.2.2.2) (hcl : c.2.2.2.length ≤ 256) : ∀ (d i j : Nat), i + d = a.length → d * 258 < j →
  f_u16_4 k j a (a.length : Int) (i : Int) c = some (meetS (a.drop i) c.2.2.2) := by
 intro d
 induction d with
 | zero =>
  intro i j hi hj
  obtain ⟨j, rfl⟩ : ∃ q, j = q + 1 := ⟨j - 1, by omega⟩
  rw [f_u16_4, decide_eq_false (by omega : ¬ (i : Int) < (a.length : Int)), cond_false, List.drop_of_length_le (by omega)]
  rfl
 | succ d ih =>
  intro i j hi hj
  obtain ⟨j, rfl⟩ : ∃ q, j = (q + c.2.2.2.length + 1) + 1 := ⟨j - c.2.2.2.length - 2, by omega⟩
  have hg : good (a.getD i T0.dflt) := ha.mem _ (getD_mem' _ _ _ (by omega))
  have h8 := fam_overlap_8 k (a.getD i T0.dflt) a (a.length : Int) (i : Int) c c.2.2.2 hc hcl c.2.2.2.length 0 j (by omega)
  rw [f_u16_4, decide_eq_true (by omega : (i : Int) < (a.length : Int)), cond_true, if_pos ⟨by omega, by omega⟩, Int.toNat_natCast, fam_bounds_s k _ hg, fam_bounds_v k _ hg, Option.isSome_some, if_pos rfl, drop_cons' a i T0.dflt (by omega), meetS_eq, List.any_cons]
  refine (h8.trans ?_)
  rw [List.drop_zero, wrapS i (by omega), ih (i + 1) j (by omega) (by omega), meetS_eq]
  by_cases h : (c.2.2.2.any (touch (a.getD i T0.dflt))) = true
  ·rw [if_pos h, show (c.2.2.2.any fun y => touch (a.getD i T0.dflt) y) = true from h, Bool.true_or]
  ·rw [if_neg h, show (c.2.2.2.any fun y => touch (a.getD i T0.dflt) y) = false from by simpa using h, Bool.false_or]
structure Small (c : Ch) : Prop where
 l0 : 0 ≤ c.1
 w0 : 1 ≤ c.2.1
 r0 : c.1 + c.2.1 ≤ 12000
 chk : Chk c.2.2.2
theorem fam_overlap_s (k : Nat) (hk : 70000 ≤ k) (a b : Ch) (ha : Small a) (hb : Small b) : f_u16 k a b = some (ovlS a b) := by
 obtain ⟨a1, a2, a3, a4⟩ := ha
 obtain ⟨b1, b2, b3, b4⟩ := hb
 unfold f_u16 ovlS
 rw [wrap_id (i := a.1 + a.2.1) (by omega) (by omega), wrap_id (i := b.1 + b.2.1) (by omega) (by omega)]
 by_cases h1 : a.1 + a.2.1 ≤ b.1
 ·rw [decide_eq_true h1, Bool.true_or, cond_true, decide_eq_false (by omega : ¬ b.1 < a.1 + a.2.1), Bool.and_false, Bool.false_and]
 ·by_cases h2 : b.1 + b.2.1 ≤ a.1
  ·rw [decide_eq_true h2, Bool.or_true, cond_true, decide_eq_false (by omega : ¬ a.1 < b.1 + b.2.1), Bool.false_and, Bool.false_and]
  ·rw [decide_eq_false h1, decide_eq_false h2, Bool.or_false, cond_false, decide_eq_true (by omega : b.1 < a.1 + a.2.1), decide_eq_true (by omega : a.1 < b.1 + b.2.1), Bool.and_true, Bool.true_and]
   have h1 := a4.len
   exact fam_overlap_4 k a.2.2.2 a4.goods h1 b b4.goods b4.len a.2.2.2.length 0 k (by omega) (by omega)
theorem fam_overlap_v (k : Nat) (hk : 70000 ≤ k) (a b : Ch) (ha : Small a) (hb : Small b) : v_u16 k a b = ovlS a b := by
 unfold v_u16; rw [fam_overlap_s k hk a b ha hb]; rfl

theorem ref42_meet_5 (k : Nat) (a m : List Rn) (ha : goods a) (i : Nat) (hi : i < a.length) (hm : goods m) (hl : m.length ≤ 256) : ∀ (d q n : Nat), q + d = m.length →
  f_u92_5 k (n + d + 1) a m (i : Int) (q : Int) = if (m.drop q).any (touch (a.getD i T0.dflt)) = true then some true else f_u92_2 k n a m (i64.wrap ((i : Int) + 1)) := by
 intro d
 have hx : good (a.getD i T0.dflt) := ha.mem _ (getD_mem' _ _ _ (by omega))
 induction d with
 | zero =>
  intro q n hq
  rw [f_u92_5, decide_eq_false (by omega : ¬ (q : Int) < (m.length : Int)), cond_false, List.drop_of_length_le (by omega), List.any_nil, if_neg (by decide)]
 | succ d ih =>
  intro q n hq
  have hg : good (m.getD q T0.dflt) := hm.mem _ (getD_mem' _ _ _ (by omega))
  rw [show n + (d + 1) + 1 = (n + d + 1) + 1 from rfl, f_u92_5, decide_eq_true (by omega : (q : Int) < (m.length : Int)), cond_true, Int.toNat_natCast, Int.toNat_natCast, ref42_ends_s k _ hx, ref42_ends_v k _ hx, ref42_ends_s k _ hg, ref42_ends_v k _ hg, if_pos ⟨by omega, by omega, rfl⟩, if_pos ⟨by omega, by omega, rfl⟩, drop_cons' m q T0.dflt (by omega), List.any_cons, wrapS q (by omega), ih (q + 1) n (by omega)]
  show (bif touch (a.getD i T0.dflt) (m.getD q T0.dflt) then _ else _) = _
  cases touch (a.getD i T0.dflt) (m.getD q T0.dflt)
  ·rw [cond_false, Bool.false_or]
  ·rw [cond_true, Bool.true_or, if_pos rfl]
set_option maxRecDepth 20000 in
theorem ref42_meet_2 (k : Nat) (a m : List Rn) (ha : goods a) (hl : a.length ≤ 256) (hm : goods m) (hml : m.length ≤ 256) : ∀ (d i j : Nat), i + d = a.length → d * 258 < j →
  f_u92_2 k j a m (i : Int) = some (meetS (a.drop i) m) := by
 intro d
 induction d with
 | zero =>
  intro i j hi hj
  obtain ⟨j, rfl⟩ : ∃ q, j = q + 1 := ⟨j - 1, by omega⟩
  rw [f_u92_2, decide_eq_false (by omega : ¬ (i : Int) < (a.length : Int)), cond_false, List.drop_of_length_le (by omega)]
  rfl
 | succ d ih =>
  intro i j hi hj
  obtain ⟨j, rfl⟩ : ∃ q, j = (q + m.length + 1) + 1 := ⟨j - m.length - 2, by omega⟩
  have h8 := ref42_meet_5 k a m ha i (by omega) hm hml m.length 0 j (by omega)
  rw [f_u92_2, decide_eq_true (by omega : (i : Int) < (a.length : Int)), cond_true, drop_cons' a i T0.dflt (by omega), meetS_eq, List.any_cons]
  refine (h8.trans ?_)
  rw [List.drop_zero, wrapS i (by omega), ih (i + 1) j (by omega) (by omega), meetS_eq]
  by_cases h : (m.any (touch (a.getD i T0.dflt))) = true
  ·rw [if_pos h, show (m.any fun y => touch (a.getD i T0.dflt) y) = true from h, Bool.true_or]
  ·rw [if_neg h, show (m.any fun y => touch (a.getD i T0.dflt) y) = false from by simpa using h, Bool.false_or]
theorem ref42_meet_s (k : Nat) (hk : 70000 ≤ k) (a b : List Rn) (ha : Chk a) (hb : Chk b) : f_u92 k a b = some (meetS a b) := by
 unfold f_u92
 have h1 := ha.len
 exact ref42_meet_2 k a b ha.goods h1 hb.goods hb.len a.length 0 k (by omega) (by omega)
theorem ref42_meet_v (k : Nat) (hk : 70000 ≤ k) (a b : List Rn) (ha : Chk a) (hb : Chk b) : v_u92 k a b = meetS a b := by
 unfold v_u92; rw [ref42_meet_s k hk a b ha hb]; rfl

theorem iso_Length_s (k : Nat) (hk : 2100 ≤ k) (m : List Rn) (h : Chk m) : f_u36 k m = some (lenS m, 0) := by
 have h1 := h.len
 unfold f_u36
 rw [iso_Check_s k (by omega), iso_Check_v k (by omega), Option.isSome_some, if_pos rfl, chk_zero.2 h]
 show (if _ then _ else _) = _
 rw [iso_length_s k m h.goods (by omega) (by omega), iso_length_v k m h.goods (by omega) (by omega)]
 rfl
theorem iso_Length_v (k : Nat) (hk : 2100 ≤ k) (m : List Rn) (h : Chk m) : v_u36 k m = (lenS m, 0) := by
 unfold v_u36; rw [iso_Length_s k hk m h]; rfl

theorem ref42_Long_l (k : Nat) (m : List Rn) (hg : goods m) (hm : m.length ≤ 1000) : ∀ (j i : Nat) (n : Int), i ≤ m.length → m.length - i < j → 0 ≤ n → n ≤ (i : Int) * 17179869184 →
  f_u85_3 k j m n (i : Int) = some (n + lenS (m.drop i)) := by
 intro j
 induction j with
 | zero => intros; omega
 | succ j ih =>
  intro i n hi hj h0 h1
  rw [f_u85_3]
  by_cases h : i < m.length
  ·have hgr : good (m.getD i T0.dflt) := hg.mem _ (getD_mem' _ _ _ (by omega))
   obtain ⟨g1, g2, g3, g4, _⟩ := hgr
   rw [decide_eq_true (by omega : (i : Int) < (m.length : Int)), cond_true, if_pos ⟨by omega, by omega⟩, Int.toNat_natCast, wrapS i (by omega), wrap_id (by omega) (by omega), ih (i + 1) _ (by omega) (by omega) (by omega) (by omega), drop_cons' m i T0.dflt h, lenS, Int.add_assoc]
  ·rw [decide_eq_false (by omega : ¬ (i : Int) < (m.length : Int)), cond_false, List.drop_of_length_le (by omega), lenS, Int.add_zero]
theorem ref42_Long_s (k : Nat) (hk : 2100 ≤ k) (m : List Rn) (h : Chk m) : f_u85 k m = some (lenS m) := by
 have h1 := h.len
 unfold f_u85
 refine (ref42_Long_l k m h.goods (by omega) k 0 0 (by omega) (by omega) (by omega) (by omega)).trans ?_
 rw [List.drop_zero, Int.zero_add]
theorem ref42_Long_v (k : Nat) (hk : 2100 ≤ k) (m : List Rn) (h : Chk m) : v_u85 k m = lenS m := by
 unfold v_u85; rw [ref42_Long_s k hk m h]; rfl

def At (p : List Ro) (id : Int) (i : Option Int) : Prop := match look p id with
 | none => i = none
 | some r => ∃ q : Nat, i = some (q : Int) ∧ q < p.length ∧ ∀ d, p.getD q d = r
theorem At.none {p : List Ro} {id : Int} {i : Option Int} (h : At p id i) (e : look p id = .none) : i = .none := by
 unfold At at h; rw [e] at h; exact h
theorem At.some {p : List Ro} {id : Int} {i : Option Int} {r : Ro} (h : At p id i) (e : look p id = .some r) : ∃ q : Nat, i = .some (q : Int) ∧ q < p.length ∧ ∀ d, p.getD q d = r := by
 unfold At at h; rw [e] at h; exact h

theorem mget_mset (id v : Int) (x : Int) : ∀ M : List (Int × Int), mget I x (mset I id v M) = if x = id then some v else mget I x M
 | [] => by
  show (bif (x == id) then some v else none) = _
  by_cases h : x = id
  ·rw [show (x == id) = true by simp [h], if_pos h]; rfl
  ·rw [show (x == id) = false by simp [h], if_neg h]; rfl
 | p :: t => by
  unfold mset
  by_cases h : id = p.1
  ·rw [show eqK I id p.1 = true from by show (id == p.1) = true; simp [h], cond_true]
   show (bif (x == id) then some v else mget I x t) = _
   by_cases h2 : x = id
   ·simp [h2]
   ·rw [if_neg h2, show (x == id) = false by simp [h2], cond_false, mget, show eqK I x p.1 = false from by show (x == p.1) = false; rw [← h]; simp [h2], cond_false]
  ·rw [show eqK I id p.1 = false from by show (id == p.1) = false; simp [h], cond_false, mget, mget_mset id v x t]
   show (bif (x == p.1) then some p.2 else _) = if _ then _ else (bif (x == p.1) then some p.2 else _)
   by_cases h2 : x = id
   ·rw [if_pos h2, if_pos h2, show (x == p.1) = false by rw [h2]; simp [h], cond_false]
   ·rw [if_neg h2, if_neg h2]
def RegOk (M : List (Int × Int)) (p : List Ro) : Prop := ∀ id, At p id (mget I id M)
theorem regOk_nil : RegOk [] [] := fun id => by unfold At look; rfl
theorem regOk_old {M : List (Int × Int)} {p : List Ro} (h : RegOk M p) (r : Ro) (hr : (look p r.1).isSome = true) : RegOk M (p ++ [r]) := fun id => by
 have h1 := h id
 unfold At at *
 rw [look_append]
 cases e : look p id with
 | some q =>
  rw [e] at h1
  obtain ⟨i, h2, h3, h4⟩ := h1
  exact ⟨i, h2, by rw [List.length_append]; omega, fun d => by rw [getD_app _ _ _ _ h3]; exact h4 d⟩
 | none =>
  rw [e] at h1
  have : r.1 ≠ id := fun e2 => by rw [e2, e] at hr; cases hr
  rw [Option.none_or, show look [r] id = none by unfold look; simp [this]]
  exact h1
theorem regOk_new {M : List (Int × Int)} {p : List Ro} (h : RegOk M p) (r : Ro) (hr : look p r.1 = none) : RegOk (mset I r.1 (p.length : Int) M) (p ++ [r]) := fun id => by
 have h1 := h id
 rw [mget_mset]
 unfold At at *
 rw [look_append]
 by_cases hi : id = r.1
 ·rw [if_pos hi, hi, hr, Option.none_or, show look [r] r.1 = some r by unfold look; simp]
  exact ⟨p.length, rfl, by simp, fun d => by simp⟩
 ·rw [if_neg hi]
  cases e : look p id with
  | some q =>
   rw [e] at h1
   obtain ⟨i, h2, h3, h4⟩ := h1
   exact ⟨i, h2, by rw [List.length_append]; omega, fun d => by rw [getD_app _ _ _ _ h3]; exact h4 d⟩
  | none =>
   rw [e] at h1
   rw [Option.none_or, show look [r] id = none by unfold look; simp [Ne.symm hi]]
   exact h1

theorem ref42_Index_l (k : Nat) (p t : List Ro) (id : Int) (hp : p.length ≤ 100000) : ∀ (d i j : Nat), i + d = p.length → d < j → look (p.take i) id = none →
  ∃ o : Option Int, f_u82_2 k j (p ++ t) (p.length : Int) id (i : Int) = some (o.getD (-1)) ∧ At p id o := by
 intro d
 induction d with
 | zero =>
  intro i j hi hj hn
  obtain ⟨j, rfl⟩ : ∃ q, j = q + 1 := ⟨j - 1, by omega⟩
  rw [f_u82_2, decide_eq_false (by omega : ¬ (i : Int) < (p.length : Int)), cond_false]
  rw [List.take_of_length_le (by omega)] at hn
  exact ⟨none, rfl, by unfold At; rw [hn]⟩
 | succ d ih =>
  intro i j hi hj hn
  obtain ⟨j, rfl⟩ : ∃ q, j = q + 1 := ⟨j - 1, by omega⟩
  have hl : (p ++ t).length = p.length + t.length := List.length_append
  rw [f_u82_2, decide_eq_true (by omega : (i : Int) < (p.length : Int)), cond_true, if_pos ⟨by omega, by omega⟩, Int.toNat_natCast, getD_app _ _ _ _ (by omega)]
  have ht := take_snoc p i T2.dflt (by omega)
  by_cases h : (p.getD i T2.dflt).1 = id
  ·rw [show ((p.getD i T2.dflt).fst == id) = true from beq_iff_eq.2 h, cond_true]
   refine ⟨some (i : Int), rfl, ?_⟩
   have e : look p id = some (p.getD i T2.dflt) := by
    have e2 : look (p.drop i) id = some (p.getD i T2.dflt) := by
     rw [drop_cons' p i T2.dflt (by omega)]
     unfold look
     rw [List.find?_cons_of_pos (by exact beq_iff_eq.2 h)]
    have e3 := look_append (p.take i) (p.drop i) id
    rw [List.take_append_drop, hn, Option.none_or, e2] at e3
    exact e3
   unfold At
   rw [e]
   exact ⟨i, rfl, by omega, fun d => getD_any _ _ _ _ (by omega)⟩
  ·rw [show ((p.getD i T2.dflt).fst == id) = false from beq_false_of_ne h, cond_false, wrapS i (by omega)]
   refine ih (i + 1) j (by omega) (by omega) ?_
   rw [ht, look_append, hn, Option.none_or]
   unfold look
   simp only [List.find?_cons, List.find?_nil]
   rw [show ((p.getD i T2.dflt).1 == id) = false from beq_false_of_ne h]
theorem ref42_Index_s (k : Nat) (p t : List Ro) (id : Int) (hp : p.length ≤ 100000) (hk : p.length < k) : ∃ o : Option Int, f_u82 k (p ++ t) (p.length : Int) id = some (o.getD (-1)) ∧ v_u82 k (p ++ t) (p.length : Int) id = o.getD (-1) ∧ At p id o := by
 obtain ⟨o, h1, h2⟩ := ref42_Index_l k p t id hp p.length 0 k (by omega) (by omega) (by unfold look; rfl)
 exact ⟨o, h1, by unfold v_u82 f_u82; rw [show f_u82_2 k k (p ++ t) (p.length : Int) id 0 = _ from h1]; rfl, h2⟩
end Go.AM
namespace Go.AM
open Go Go.Proofs Go.IntKind
set_option linter.unusedVariables false
noncomputable section
abbrev R_u24 : Type := Bool
def res_u24 (r : R_u24) : AV := .r (.v (.bool r))
def bo_u24 (g_0 : Int) (g_1 : Int) (g_2 : List (T2).T) (g_3 : List ((I).T × (I).T)) (id_ : Int) (r : R_u24) : List (Nat × Blk) := [(0, .var 73 [.r (.v (.int .i64 g_0)), .r (.v (.int .i64 g_1)), .r (.ro T2 g_2), .own 1 0]), (0, .map false I I g_3)]
def args_u24 (g_0 : Int) (g_1 : Int) (g_2 : List (T2).T) (g_3 : List ((I).T × (I).T)) (id_ : Int) : List AV := [.ptr 0 0 0, .r (.v (.int .i64 id_))]
def bin_u24 (g_0 : Int) (g_1 : Int) (g_2 : List (T2).T) (g_3 : List ((I).T × (I).T)) (id_ : Int) : List Blk := [.var 73 [.r (.v (.int .i64 g_0)), .r (.v (.int .i64 g_1)), .r (.ro T2 g_2), .own 1 0], .map false I I g_3]
def f_u24 (k : Nat) (g_0 : Int) (g_1 : Int) (g_2 : List (T2).T) (g_3 : List ((I).T × (I).T)) (id_ : Int) : Option R_u24 :=
 some ((mget I id_ g_3).isSome)
def v_u24 (k : Nat) (g_0 : Int) (g_1 : Int) (g_2 : List (T2).T) (g_3 : List ((I).T × (I).T)) (id_ : Int) : R_u24 := (f_u24 k g_0 g_1 g_2 g_3 id_).getD false
def K_u24 (k : Nat) : Calld := ⟨fun g xs => match g with
 | _ => none, fun g xs bs => match g with
 | _ => none⟩
theorem of_u24 (k : Nat) (g_0 : Int) (g_1 : Int) (g_2 : List (T2).T) (g_3 : List ((I).T × (I).T)) (id_ : Int) (r : R_u24) (h : f_u24 k g_0 g_1 g_2 g_3 id_ = some r) : CC Tryz.prog 49 (args_u24 g_0 g_1 g_2 g_3 id_) (bin_u24 g_0 g_1 g_2 g_3 id_) (res_u24 r) (bo_u24 g_0 g_1 g_2 g_3 id_ r) := by
 refine CC.of (fn := Tryz.f49) (by kernel_rfl) (by kernel_rfl) (by kernel_rfl) (by kernel_rfl) ?_
 unfold f_u24 at h
 refine Ev.tree hm (R := Rt) (K := (K_u24 k)) (l := []) (C := []) (E := [.autoB [4] true []]) (n := 1000) (T := .leaf (res_u24 ((mget I id_ g_3).isSome)) (bo_u24 g_0 g_1 g_2 g_3 id_ ((mget I id_ g_3).isSome))) (by kernel_rfl) ?_
 cases h; exact ⟨rfl, rfl⟩
theorem cc_u24 (k : Nat) (g_0 : Int) (g_1 : Int) (g_2 : List (T2).T) (g_3 : List ((I).T × (I).T)) (id_ : Int) (h : (f_u24 k g_0 g_1 g_2 g_3 id_).isSome = true) : CC Tryz.prog 49 (args_u24 g_0 g_1 g_2 g_3 id_) (bin_u24 g_0 g_1 g_2 g_3 id_) (res_u24 (v_u24 k g_0 g_1 g_2 g_3 id_)) (bo_u24 g_0 g_1 g_2 g_3 id_ (v_u24 k g_0 g_1 g_2 g_3 id_)) := by
 cases e : f_u24 k g_0 g_1 g_2 g_3 id_ with
 | none => rw [e] at h; cases h
 | some r => rw [show v_u24 k g_0 g_1 g_2 g_3 id_ = r by simp [v_u24, e]]; exact of_u24 k g_0 g_1 g_2 g_3 id_ r e

end
end Go.AM
namespace Go.AM
open Go Go.Proofs Go.IntKind
set_option linter.unusedVariables false
noncomputable section
abbrev R_u27 : Type := Int × Int
def res_u27 (r : R_u27) : AV := .tup [.r (.v (.int .i64 r.1)), .r (.v (.int .i64 r.2))]
def bo_u27 (g_0 : Int) (g_1 : Int) (g_2 : List (T2).T) (g_3 : List ((I).T × (I).T)) (id_ : Int) (r : R_u27) : List (Nat × Blk) := [(0, .var 73 [.r (.v (.int .i64 g_0)), .r (.v (.int .i64 g_1)), .r (.ro T2 g_2), .own 1 0]), (0, .map false I I g_3)]
def args_u27 (g_0 : Int) (g_1 : Int) (g_2 : List (T2).T) (g_3 : List ((I).T × (I).T)) (id_ : Int) : List AV := [.ptr 0 0 0, .r (.v (.int .i64 id_))]
def bin_u27 (g_0 : Int) (g_1 : Int) (g_2 : List (T2).T) (g_3 : List ((I).T × (I).T)) (id_ : Int) : List Blk := [.var 73 [.r (.v (.int .i64 g_0)), .r (.v (.int .i64 g_1)), .r (.ro T2 g_2), .own 1 0], .map false I I g_3]
def f_u27 (k : Nat) (g_0 : Int) (g_1 : Int) (g_2 : List (T2).T) (g_3 : List ((I).T × (I).T)) (id_ : Int) : Option R_u27 :=
 bif (id_ == (0 : Int)) then
 some ((g_0, g_1))
 else
 if ((0 : Int) ≤ (mget I id_ g_3).getD (0 : Int)) ∧ ((mget I id_ g_3).getD (0 : Int) < (↑g_2.length : Int)) then
 if ((f_u36 k (g_2.getD (Int.toNat ((mget I id_ g_3).getD 0)) T2.dflt).2.2.2.2.2).isSome = true) then
 some (((g_2.getD (Int.toNat ((mget I id_ g_3).getD 0)) T2.dflt).2.2.2.1, (v_u36 k (g_2.getD (Int.toNat ((mget I id_ g_3).getD 0)) T2.dflt).2.2.2.2.2).1))
 else none
 else none
def v_u27 (k : Nat) (g_0 : Int) (g_1 : Int) (g_2 : List (T2).T) (g_3 : List ((I).T × (I).T)) (id_ : Int) : R_u27 := (f_u27 k g_0 g_1 g_2 g_3 id_).getD (0, 0)
def K_u27 (k : Nat) : Calld := ⟨fun g xs => match g with
 | 63 => match xs with
  | [_] => some [false]
  | _ => none
 | _ => none, fun g xs bs => match g with
 | 63 => match xs, bs with
  | [.r (.ro tm__ qm_)], [] => (castL tm__ T0 qm_).bind fun m_ => some (.one (res_u36 (v_u36 k m_), bo_u36 m_ (v_u36 k m_)))
  | _, _ => none
 | _ => none⟩
theorem of_u27 (k : Nat) (g_0 : Int) (g_1 : Int) (g_2 : List (T2).T) (g_3 : List ((I).T × (I).T)) (id_ : Int) (r : R_u27) (h : f_u27 k g_0 g_1 g_2 g_3 id_ = some r) : CC Tryz.prog 42 (args_u27 g_0 g_1 g_2 g_3 id_) (bin_u27 g_0 g_1 g_2 g_3 id_) (res_u27 r) (bo_u27 g_0 g_1 g_2 g_3 id_ r) := by
 refine CC.of (fn := Tryz.f42) (by kernel_rfl) (by kernel_rfl) (by kernel_rfl) (by kernel_rfl) ?_
 unfold f_u27 at h
 refine Ev.tree hm (R := Rt) (K := (K_u27 k)) (l := []) (C := []) (E := [.autoB [4, 5] true []]) (n := 1000) (T := .test ((id_ == (0 : Int))) (.leaf (res_u27 ((g_0, g_1))) (bo_u27 g_0 g_1 g_2 g_3 id_ ((g_0, g_1)))) (.need [(0 : Int) ≤ (mget I id_ g_3).getD (0 : Int), (mget I id_ g_3).getD (0 : Int) < (↑g_2.length : Int)] (.need [CC Tryz.prog 63 (args_u36 (g_2.getD (Int.toNat ((mget I id_ g_3).getD 0)) T2.dflt).2.2.2.2.2) (bin_u36 (g_2.getD (Int.toNat ((mget I id_ g_3).getD 0)) T2.dflt).2.2.2.2.2) (res_u36 (v_u36 k (g_2.getD (Int.toNat ((mget I id_ g_3).getD 0)) T2.dflt).2.2.2.2.2)) (bo_u36 (g_2.getD (Int.toNat ((mget I id_ g_3).getD 0)) T2.dflt).2.2.2.2.2 (v_u36 k (g_2.getD (Int.toNat ((mget I id_ g_3).getD 0)) T2.dflt).2.2.2.2.2))] (.leaf (res_u27 (((g_2.getD (Int.toNat ((mget I id_ g_3).getD 0)) T2.dflt).2.2.2.1, (v_u36 k (g_2.getD (Int.toNat ((mget I id_ g_3).getD 0)) T2.dflt).2.2.2.2.2).1))) (bo_u27 g_0 g_1 g_2 g_3 id_ (((g_2.getD (Int.toNat ((mget I id_ g_3).getD 0)) T2.dflt).2.2.2.1, (v_u36 k (g_2.getD (Int.toNat ((mget I id_ g_3).getD 0)) T2.dflt).2.2.2.2.2).1))))))) (by kernel_rfl) ?_
 refine ⟨fun c => ?_, fun c => ?_⟩
 ·rw [cond_t (show ((id_ == (0 : Int))) = true from c)] at h
  cases h; exact ⟨rfl, rfl⟩
 ·rw [cond_f (show ((id_ == (0 : Int))) = false from c)] at h
  by_cases q : ((0 : Int) ≤ (mget I id_ g_3).getD (0 : Int)) ∧ ((mget I id_ g_3).getD (0 : Int) < (↑g_2.length : Int))
  ·rw [if_pos q] at h
   refine ⟨(conjC q.1 (conjC q.2 conj0)), ?_⟩
   by_cases q : ((f_u36 k (g_2.getD (Int.toNat ((mget I id_ g_3).getD 0)) T2.dflt).2.2.2.2.2).isSome = true)
   ·rw [if_pos q] at h
    refine ⟨(conjC (cc_u36 k (g_2.getD (Int.toNat ((mget I id_ g_3).getD 0)) T2.dflt).2.2.2.2.2 q) conj0), ?_⟩
    cases h; exact ⟨rfl, rfl⟩
   ·rw [if_neg q] at h; cases h
  ·rw [if_neg q] at h; cases h
theorem cc_u27 (k : Nat) (g_0 : Int) (g_1 : Int) (g_2 : List (T2).T) (g_3 : List ((I).T × (I).T)) (id_ : Int) (h : (f_u27 k g_0 g_1 g_2 g_3 id_).isSome = true) : CC Tryz.prog 42 (args_u27 g_0 g_1 g_2 g_3 id_) (bin_u27 g_0 g_1 g_2 g_3 id_) (res_u27 (v_u27 k g_0 g_1 g_2 g_3 id_)) (bo_u27 g_0 g_1 g_2 g_3 id_ (v_u27 k g_0 g_1 g_2 g_3 id_)) := by
 cases e : f_u27 k g_0 g_1 g_2 g_3 id_ with
 | none => rw [e] at h; cases h
 | some r => rw [show v_u27 k g_0 g_1 g_2 g_3 id_ = r by simp [v_u27, e]]; exact of_u27 k g_0 g_1 g_2 g_3 id_ r e

end
end Go.AM
namespace Go.AM
open Go Go.Proofs Go.IntKind
set_option linter.unusedVariables false
noncomputable section
abbrev R_u23 : Type := Int
def res_u23 (r : R_u23) : AV := .r (.v (.int .i64 r))
def bo_u23 (g_0 : Int) (g_1 : Int) (g_2 : List (T2).T) (g_3 : List ((I).T × (I).T)) (r_ : T2.T) (r : R_u23) : List (Nat × Blk) := [(0, .var 73 [.r (.v (.int .i64 g_0)), .r (.v (.int .i64 g_1)), .r (.ro T2 g_2), .own 1 0]), (0, .map false I I g_3)]
def args_u23 (g_0 : Int) (g_1 : Int) (g_2 : List (T2).T) (g_3 : List ((I).T × (I).T)) (r_ : T2.T) : List AV := [.ptr 0 0 0, .agg (rvs (enc T2 r_))]
def bin_u23 (g_0 : Int) (g_1 : Int) (g_2 : List (T2).T) (g_3 : List ((I).T × (I).T)) (r_ : T2.T) : List Blk := [.var 73 [.r (.v (.int .i64 g_0)), .r (.v (.int .i64 g_1)), .r (.ro T2 g_2), .own 1 0], .map false I I g_3]
def st_u23_17 (g_0 : Int) (g_1 : Int) (g_2 : List (T2).T) (g_3 : List ((I).T × (I).T)) (r_ : T2.T) (y0 : Int) (y1 : List (T0).T) (y2 : Int) (y3 : Int) : St := ⟨mkS 93 [(6, .r (.v (.int .i64 y0))), (78, .r (.ro T0 y1)), (79, .r (.v (.int .i64 y2))), (80, .r (.v (.int .i64 y3)))], [(0, 0, .var 73 [.r (.v (.int .i64 g_0)), .r (.v (.int .i64 g_1)), .r (.ro T2 g_2), .own 1 0]), (1, 0, .map false I I g_3)]⟩
def f_u23_17 (k : Nat) (g_0 : Int) (g_1 : Int) (g_2 : List (T2).T) (g_3 : List ((I).T × (I).T)) (r_ : T2.T) : Nat → Int → List (T0).T → Int → Int → Option R_u23
 | 0, _, _, _, _ => none
 | j + 1, y0, y1, y2, y3 =>
 bif (decide (y3 < y2)) then
 if (0 ≤ y3) ∧ (y3 < (↑y1.length : Int)) then
 if ((f_u12 k (y1.getD y3.toNat T0.dflt)).isSome = true) then
 bif (decide ((v_u12 k (y1.getD y3.toNat T0.dflt)).2 ≥ y0)) then
 some 21
 else
 f_u23_17 k g_0 g_1 g_2 g_3 r_ j y0 y1 y2 ((i64.wrap (y3 + 1)))
 else none
 else none
 else
 some 0
def f_u23 (k : Nat) (g_0 : Int) (g_1 : Int) (g_2 : List (T2).T) (g_3 : List ((I).T × (I).T)) (r_ : T2.T) : Option R_u23 :=
 bif (decide (r_.1 < (1 : Int)) || decide (r_.1 > (1000000 : Int))) then
 some 1
 else
 bif (r_.2.1 != (0 : Int)) then
 if ((r_.2.1 != (0 : Int)) = true) ∧ ((f_u24 k g_0 g_1 g_2 g_3 r_.2.1).isSome = true) then
 bif (true && (!v_u24 k g_0 g_1 g_2 g_3 r_.2.1)) then
 some 7
 else
 if ((f_u27 k g_0 g_1 g_2 g_3 r_.2.1).isSome = true) then
 bif (decide (r_.2.2.1 < (0 : Int)) || decide (r_.2.2.2.1 < (1 : Int)) || decide (r_.2.2.1 > (v_u27 k g_0 g_1 g_2 g_3 r_.2.1).1) || decide (r_.2.2.2.1 > i64.wrap ((v_u27 k g_0 g_1 g_2 g_3 r_.2.1).1 - r_.2.2.1))) then
 some 20
 else
 if ((f_u32 k r_.2.2.2.2.2).isSome = true) then
 bif (v_u32 k r_.2.2.2.2.2 != (0 : Int)) then
 some (v_u32 k r_.2.2.2.2.2)
 else
 bif ((↑ (List.length r_.2.2.2.2.2) : Int) == (0 : Int)) then
 some 10
 else
 if ((f_u37 k r_.2.2.2.2.2).isSome = true) then
 bif (!v_u37 k r_.2.2.2.2.2) then
 some 12
 else
 f_u23_17 k g_0 g_1 g_2 g_3 r_ k ((v_u27 k g_0 g_1 g_2 g_3 r_.2.1).2) r_.2.2.2.2.2 ((↑ (List.length r_.2.2.2.2.2) : Int)) 0
 else none
 else none
 else none
 else none
 else
 if ((r_.2.1 != (0 : Int)) = false) then
 if ((f_u27 k g_0 g_1 g_2 g_3 r_.2.1).isSome = true) then
 bif (decide (r_.2.2.1 < (0 : Int)) || decide (r_.2.2.2.1 < (1 : Int)) || decide (r_.2.2.1 > (v_u27 k g_0 g_1 g_2 g_3 r_.2.1).1) || decide (r_.2.2.2.1 > i64.wrap ((v_u27 k g_0 g_1 g_2 g_3 r_.2.1).1 - r_.2.2.1))) then
 some 20
 else
 if ((f_u32 k r_.2.2.2.2.2).isSome = true) then
 bif (v_u32 k r_.2.2.2.2.2 != (0 : Int)) then
 some (v_u32 k r_.2.2.2.2.2)
 else
 bif ((↑ (List.length r_.2.2.2.2.2) : Int) == (0 : Int)) then
 some 10
 else
 if ((f_u37 k r_.2.2.2.2.2).isSome = true) then
 bif (!v_u37 k r_.2.2.2.2.2) then
 some 12
 else
 f_u23_17 k g_0 g_1 g_2 g_3 r_ k ((v_u27 k g_0 g_1 g_2 g_3 r_.2.1).2) r_.2.2.2.2.2 ((↑ (List.length r_.2.2.2.2.2) : Int)) 0
 else none
 else none
 else none
 else none
def v_u23 (k : Nat) (g_0 : Int) (g_1 : Int) (g_2 : List (T2).T) (g_3 : List ((I).T × (I).T)) (r_ : T2.T) : R_u23 := (f_u23 k g_0 g_1 g_2 g_3 r_).getD 0
def K_u23 (k : Nat) : Calld := ⟨fun g xs => match g with
 | 68 => match xs with
  | [_] => some [false]
  | _ => none
 | 79 => match xs with
  | [_] => some [false]
  | _ => none
 | 65 => match xs with
  | [_] => some [false]
  | _ => none
 | 42 => match xs with
  | [.ptr _ _ _, _] => some [true, false]
  | _ => none
 | 49 => match xs with
  | [.ptr _ _ _, _] => some [true, false]
  | _ => none
 | _ => none, fun g xs bs => match g with
 | 68 => match xs, bs with
  | [.r (.ro tm__ qm_)], [] => (castL tm__ T0 qm_).bind fun m_ => some (.one (res_u32 (v_u32 k m_), bo_u32 m_ (v_u32 k m_)))
  | _, _ => none
 | 79 => match xs, bs with
  | [.r (.ro tm__ qm_)], [] => (castL tm__ T0 qm_).bind fun m_ => some (.one (res_u37 (v_u37 k m_), bo_u37 m_ (v_u37 k m_)))
  | _, _ => none
 | 65 => match xs, bs with
  | [.agg qx_], [] => (decS [] T0 qx_).bind fun x_ => some (.one (res_u12 (v_u12 k x_), bo_u12 x_ (v_u12 k x_)))
  | _, _ => none
 | 42 => match xs, bs with
  | [.ptr 0 0 0, .r (.v (.int .i64 id_))], [.var 73 [.r (.v (.int .i64 g_0)), .r (.v (.int .i64 g_1)), .r (.ro tg_2_ qg_2), .own 1 0], .map false kg_3_ tg_3_ qg_3] => (castL tg_2_ T2 qg_2).bind fun g_2 => (castM kg_3_ tg_3_ I I qg_3).bind fun g_3 => some (.one (res_u27 (v_u27 k g_0 g_1 g_2 g_3 id_), bo_u27 g_0 g_1 g_2 g_3 id_ (v_u27 k g_0 g_1 g_2 g_3 id_)))
  | _, _ => none
 | 49 => match xs, bs with
  | [.ptr 0 0 0, .r (.v (.int .i64 id_))], [.var 73 [.r (.v (.int .i64 g_0)), .r (.v (.int .i64 g_1)), .r (.ro tg_2_ qg_2), .own 1 0], .map false kg_3_ tg_3_ qg_3] => (castL tg_2_ T2 qg_2).bind fun g_2 => (castM kg_3_ tg_3_ I I qg_3).bind fun g_3 => some (.one (res_u24 (v_u24 k g_0 g_1 g_2 g_3 id_), bo_u24 g_0 g_1 g_2 g_3 id_ (v_u24 k g_0 g_1 g_2 g_3 id_)))
  | _, _ => none
 | _ => none⟩
theorem ev_u23 (k : Nat) (g_0 : Int) (g_1 : Int) (g_2 : List (T2).T) (g_3 : List ((I).T × (I).T)) (r_ : T2.T) : ∀ j, (∀ (y0 : Int) (y1 : List (T0).T) (y2 : Int) (y3 : Int) (r : R_u23), f_u23_17 k g_0 g_1 g_2 g_3 r_ j y0 y1 y2 y3 = some r → Ev Tryz.prog Tryz.f59 2 (placeAt Tryz.f59 17) (st_u23_17 g_0 g_1 g_2 g_3 r_ y0 y1 y2 y3) (res_u23 r) (bo_u23 g_0 g_1 g_2 g_3 r_ r))
 | 0 => by
  intros; rename_i h; simp [f_u23_17] at h
 | j + 1 => by
  have ih := ev_u23 k g_0 g_1 g_2 g_3 r_ j
  ·intro y0 y1 y2 y3 r h
   rw [f_u23_17] at h
   refine Ev.tree hm (R := Rt) (K := (K_u23 k)) (l := []) (C := [(17, [.autoB [6, 78, 79, 80] false []])]) (E := [.autoB [4] true []]) (n := 1000) (T := .test ((decide (y3 < y2))) (.need [0 ≤ y3, y3 < (↑y1.length : Int)] (.need [CC Tryz.prog 65 (args_u12 (y1.getD y3.toNat T0.dflt)) (bin_u12 (y1.getD y3.toNat T0.dflt)) (res_u12 (v_u12 k (y1.getD y3.toNat T0.dflt))) (bo_u12 (y1.getD y3.toNat T0.dflt) (v_u12 k (y1.getD y3.toNat T0.dflt)))] (.test ((decide ((v_u12 k (y1.getD y3.toNat T0.dflt)).2 ≥ y0))) (.leaf (res_u23 21) (bo_u23 g_0 g_1 g_2 g_3 r_ 21)) (.cut 17 (placeAt Tryz.f59 17) (st_u23_17 g_0 g_1 g_2 g_3 r_ y0 y1 y2 ((i64.wrap (y3 + 1)))))))) (.leaf (res_u23 0) (bo_u23 g_0 g_1 g_2 g_3 r_ 0))) (by kernel_rfl) ?_
   refine ⟨fun c => ?_, fun c => ?_⟩
   ·rw [cond_t (show ((decide (y3 < y2))) = true from c)] at h
    by_cases q : (0 ≤ y3) ∧ (y3 < (↑y1.length : Int))
    ·rw [if_pos q] at h
     refine ⟨(conjC q.1 (conjC q.2 conj0)), ?_⟩
     by_cases q : ((f_u12 k (y1.getD y3.toNat T0.dflt)).isSome = true)
     ·rw [if_pos q] at h
      refine ⟨(conjC (cc_u12 k (y1.getD y3.toNat T0.dflt) q) conj0), ?_⟩
      refine ⟨fun c => ?_, fun c => ?_⟩
      ·rw [cond_t (show ((decide ((v_u12 k (y1.getD y3.toNat T0.dflt)).2 ≥ y0))) = true from c)] at h
       cases h; exact ⟨rfl, rfl⟩
      ·rw [cond_f (show ((decide ((v_u12 k (y1.getD y3.toNat T0.dflt)).2 ≥ y0))) = false from c)] at h
       exact ih y0 y1 y2 ((i64.wrap (y3 + 1))) _ h
     ·rw [if_neg q] at h; cases h
    ·rw [if_neg q] at h; cases h
   ·rw [cond_f (show ((decide (y3 < y2))) = false from c)] at h
    cases h; exact ⟨rfl, rfl⟩
theorem of_u23 (k : Nat) (g_0 : Int) (g_1 : Int) (g_2 : List (T2).T) (g_3 : List ((I).T × (I).T)) (r_ : T2.T) (r : R_u23) (h : f_u23 k g_0 g_1 g_2 g_3 r_ = some r) : CC Tryz.prog 59 (args_u23 g_0 g_1 g_2 g_3 r_) (bin_u23 g_0 g_1 g_2 g_3 r_) (res_u23 r) (bo_u23 g_0 g_1 g_2 g_3 r_ r) := by
 refine CC.of (fn := Tryz.f59) (by kernel_rfl) (by kernel_rfl) (by kernel_rfl) (by kernel_rfl) ?_
 unfold f_u23 at h
 refine Ev.tree hm (R := Rt) (K := (K_u23 k)) (l := []) (C := [(17, [.autoB [6, 78, 79, 80] false []])]) (E := [.autoB [4] true []]) (n := 1000) (T := .test ((decide (r_.1 < (1 : Int)) || decide (r_.1 > (1000000 : Int)))) (.leaf (res_u23 1) (bo_u23 g_0 g_1 g_2 g_3 r_ 1)) (.test ((r_.2.1 != (0 : Int))) (.need [(r_.2.1 != (0 : Int)) = true, CC Tryz.prog 49 (args_u24 g_0 g_1 g_2 g_3 r_.2.1) (bin_u24 g_0 g_1 g_2 g_3 r_.2.1) (res_u24 (v_u24 k g_0 g_1 g_2 g_3 r_.2.1)) (bo_u24 g_0 g_1 g_2 g_3 r_.2.1 (v_u24 k g_0 g_1 g_2 g_3 r_.2.1))] (.test ((true && (!v_u24 k g_0 g_1 g_2 g_3 r_.2.1))) (.leaf (res_u23 7) (bo_u23 g_0 g_1 g_2 g_3 r_ 7)) (.need [CC Tryz.prog 42 (args_u27 g_0 g_1 g_2 g_3 r_.2.1) (bin_u27 g_0 g_1 g_2 g_3 r_.2.1) (res_u27 (v_u27 k g_0 g_1 g_2 g_3 r_.2.1)) (bo_u27 g_0 g_1 g_2 g_3 r_.2.1 (v_u27 k g_0 g_1 g_2 g_3 r_.2.1))] (.test ((decide (r_.2.2.1 < (0 : Int)) || decide (r_.2.2.2.1 < (1 : Int)) || decide (r_.2.2.1 > (v_u27 k g_0 g_1 g_2 g_3 r_.2.1).1) || decide (r_.2.2.2.1 > i64.wrap ((v_u27 k g_0 g_1 g_2 g_3 r_.2.1).1 - r_.2.2.1)))) (.leaf (res_u23 20) (bo_u23 g_0 g_1 g_2 g_3 r_ 20)) (.need [CC Tryz.prog 68 (args_u32 r_.2.2.2.2.2) (bin_u32 r_.2.2.2.2.2) (res_u32 (v_u32 k r_.2.2.2.2.2)) (bo_u32 r_.2.2.2.2.2 (v_u32 k r_.2.2.2.2.2))] (.test ((v_u32 k r_.2.2.2.2.2 != (0 : Int))) (.leaf (res_u23 (v_u32 k r_.2.2.2.2.2)) (bo_u23 g_0 g_1 g_2 g_3 r_ (v_u32 k r_.2.2.2.2.2))) (.test (((↑ (List.length r_.2.2.2.2.2) : Int) == (0 : Int))) (.leaf (res_u23 10) (bo_u23 g_0 g_1 g_2 g_3 r_ 10)) (.need [CC Tryz.prog 79 (args_u37 r_.2.2.2.2.2) (bin_u37 r_.2.2.2.2.2) (res_u37 (v_u37 k r_.2.2.2.2.2)) (bo_u37 r_.2.2.2.2.2 (v_u37 k r_.2.2.2.2.2))] (.test ((!v_u37 k r_.2.2.2.2.2)) (.leaf (res_u23 12) (bo_u23 g_0 g_1 g_2 g_3 r_ 12)) (.cut 17 (placeAt Tryz.f59 17) (st_u23_17 g_0 g_1 g_2 g_3 r_ ((v_u27 k g_0 g_1 g_2 g_3 r_.2.1).2) r_.2.2.2.2.2 ((↑ (List.length r_.2.2.2.2.2) : Int)) 0))))))))))) (.need [(r_.2.1 != (0 : Int)) = false] (.test (false) (.leaf (.r (.v (.int .i64 7))) [(0, .var 73 [.r (.v (.int .i64 g_0)), .r (.v (.int .i64 g_1)), .r (.ro T2 g_2), .own 1 0]), (0, .map false I I g_3)]) (.need [CC Tryz.prog 42 (args_u27 g_0 g_1 g_2 g_3 r_.2.1) (bin_u27 g_0 g_1 g_2 g_3 r_.2.1) (res_u27 (v_u27 k g_0 g_1 g_2 g_3 r_.2.1)) (bo_u27 g_0 g_1 g_2 g_3 r_.2.1 (v_u27 k g_0 g_1 g_2 g_3 r_.2.1))] (.test ((decide (r_.2.2.1 < (0 : Int)) || decide (r_.2.2.2.1 < (1 : Int)) || decide (r_.2.2.1 > (v_u27 k g_0 g_1 g_2 g_3 r_.2.1).1) || decide (r_.2.2.2.1 > i64.wrap ((v_u27 k g_0 g_1 g_2 g_3 r_.2.1).1 - r_.2.2.1)))) (.leaf (res_u23 20) (bo_u23 g_0 g_1 g_2 g_3 r_ 20)) (.need [CC Tryz.prog 68 (args_u32 r_.2.2.2.2.2) (bin_u32 r_.2.2.2.2.2) (res_u32 (v_u32 k r_.2.2.2.2.2)) (bo_u32 r_.2.2.2.2.2 (v_u32 k r_.2.2.2.2.2))] (.test ((v_u32 k r_.2.2.2.2.2 != (0 : Int))) (.leaf (res_u23 (v_u32 k r_.2.2.2.2.2)) (bo_u23 g_0 g_1 g_2 g_3 r_ (v_u32 k r_.2.2.2.2.2))) (.test (((↑ (List.length r_.2.2.2.2.2) : Int) == (0 : Int))) (.leaf (res_u23 10) (bo_u23 g_0 g_1 g_2 g_3 r_ 10)) (.need [CC Tryz.prog 79 (args_u37 r_.2.2.2.2.2) (bin_u37 r_.2.2.2.2.2) (res_u37 (v_u37 k r_.2.2.2.2.2)) (bo_u37 r_.2.2.2.2.2 (v_u37 k r_.2.2.2.2.2))] (.test ((!v_u37 k r_.2.2.2.2.2)) (.leaf (res_u23 12) (bo_u23 g_0 g_1 g_2 g_3 r_ 12)) (.cut 17 (placeAt Tryz.f59 17) (st_u23_17 g_0 g_1 g_2 g_3 r_ ((v_u27 k g_0 g_1 g_2 g_3 r_.2.1).2) r_.2.2.2.2.2 ((↑ (List.length r_.2.2.2.2.2) : Int)) 0))))))))))))) (by kernel_rfl) ?_
 refine ⟨fun c => ?_, fun c => ?_⟩
 ·rw [cond_t (show ((decide (r_.1 < (1 : Int)) || decide (r_.1 > (1000000 : Int)))) = true from c)] at h
  cases h; exact ⟨rfl, rfl⟩
 ·rw [cond_f (show ((decide (r_.1 < (1 : Int)) || decide (r_.1 > (1000000 : Int)))) = false from c)] at h
  refine ⟨fun c => ?_, fun c => ?_⟩
  ·rw [cond_t (show ((r_.2.1 != (0 : Int))) = true from c)] at h
   by_cases q : ((r_.2.1 != (0 : Int)) = true) ∧ ((f_u24 k g_0 g_1 g_2 g_3 r_.2.1).isSome = true)
   ·rw [if_pos q] at h
    refine ⟨(conjC q.1 (conjC (cc_u24 k g_0 g_1 g_2 g_3 r_.2.1 q.2) conj0)), ?_⟩
    refine ⟨fun c => ?_, fun c => ?_⟩
    ·rw [cond_t (show ((true && (!v_u24 k g_0 g_1 g_2 g_3 r_.2.1))) = true from c)] at h
     cases h; exact ⟨rfl, rfl⟩
    ·rw [cond_f (show ((true && (!v_u24 k g_0 g_1 g_2 g_3 r_.2.1))) = false from c)] at h
     by_cases q : ((f_u27 k g_0 g_1 g_2 g_3 r_.2.1).isSome = true)
     ·rw [if_pos q] at h
      refine ⟨(conjC (cc_u27 k g_0 g_1 g_2 g_3 r_.2.1 q) conj0), ?_⟩
      refine ⟨fun c => ?_, fun c => ?_⟩
      ·rw [cond_t (show ((decide (r_.2.2.1 < (0 : Int)) || decide (r_.2.2.2.1 < (1 : Int)) || decide (r_.2.2.1 > (v_u27 k g_0 g_1 g_2 g_3 r_.2.1).1) || decide (r_.2.2.2.1 > i64.wrap ((v_u27 k g_0 g_1 g_2 g_3 r_.2.1).1 - r_.2.2.1)))) = true from c)] at h
       cases h; exact ⟨rfl, rfl⟩
      ·rw [cond_f (show ((decide (r_.2.2.1 < (0 : Int)) || decide (r_.2.2.2.1 < (1 : Int)) || decide (r_.2.2.1 > (v_u27 k g_0 g_1 g_2 g_3 r_.2.1).1) || decide (r_.2.2.2.1 > i64.wrap ((v_u27 k g_0 g_1 g_2 g_3 r_.2.1).1 - r_.2.2.1)))) = false from c)] at h
       by_cases q : ((f_u32 k r_.2.2.2.2.2).isSome = true)
       ·rw [if_pos q] at h
        refine ⟨(conjC (cc_u32 k r_.2.2.2.2.2 q) conj0), ?_⟩
        refine ⟨fun c => ?_, fun c => ?_⟩
        ·rw [cond_t (show ((v_u32 k r_.2.2.2.2.2 != (0 : Int))) = true from c)] at h
         cases h; exact ⟨rfl, rfl⟩
        ·rw [cond_f (show ((v_u32 k r_.2.2.2.2.2 != (0 : Int))) = false from c)] at h
         refine ⟨fun c => ?_, fun c => ?_⟩
         ·rw [cond_t (show (((↑ (List.length r_.2.2.2.2.2) : Int) == (0 : Int))) = true from c)] at h
          cases h; exact ⟨rfl, rfl⟩
         ·rw [cond_f (show (((↑ (List.length r_.2.2.2.2.2) : Int) == (0 : Int))) = false from c)] at h
          by_cases q : ((f_u37 k r_.2.2.2.2.2).isSome = true)
          ·rw [if_pos q] at h
           refine ⟨(conjC (cc_u37 k r_.2.2.2.2.2 q) conj0), ?_⟩
           refine ⟨fun c => ?_, fun c => ?_⟩
           ·rw [cond_t (show ((!v_u37 k r_.2.2.2.2.2)) = true from c)] at h
            cases h; exact ⟨rfl, rfl⟩
           ·rw [cond_f (show ((!v_u37 k r_.2.2.2.2.2)) = false from c)] at h
            exact (ev_u23 k g_0 g_1 g_2 g_3 r_ k) ((v_u27 k g_0 g_1 g_2 g_3 r_.2.1).2) r_.2.2.2.2.2 ((↑ (List.length r_.2.2.2.2.2) : Int)) 0 _ h
          ·rw [if_neg q] at h; cases h
       ·rw [if_neg q] at h; cases h
     ·rw [if_neg q] at h; cases h
   ·rw [if_neg q] at h; cases h
  ·rw [cond_f (show ((r_.2.1 != (0 : Int))) = false from c)] at h
   by_cases q : ((r_.2.1 != (0 : Int)) = false)
   ·rw [if_pos q] at h
    refine ⟨(conjC q conj0), ?_⟩
    refine ⟨fun c => ?_, fun c => ?_⟩
    ·cases c
    by_cases q : ((f_u27 k g_0 g_1 g_2 g_3 r_.2.1).isSome = true)
    ·rw [if_pos q] at h
     refine ⟨(conjC (cc_u27 k g_0 g_1 g_2 g_3 r_.2.1 q) conj0), ?_⟩
     refine ⟨fun c => ?_, fun c => ?_⟩
     ·rw [cond_t (show ((decide (r_.2.2.1 < (0 : Int)) || decide (r_.2.2.2.1 < (1 : Int)) || decide (r_.2.2.1 > (v_u27 k g_0 g_1 g_2 g_3 r_.2.1).1) || decide (r_.2.2.2.1 > i64.wrap ((v_u27 k g_0 g_1 g_2 g_3 r_.2.1).1 - r_.2.2.1)))) = true from c)] at h
      cases h; exact ⟨rfl, rfl⟩
     ·rw [cond_f (show ((decide (r_.2.2.1 < (0 : Int)) || decide (r_.2.2.2.1 < (1 : Int)) || decide (r_.2.2.1 > (v_u27 k g_0 g_1 g_2 g_3 r_.2.1).1) || decide (r_.2.2.2.1 > i64.wrap ((v_u27 k g_0 g_1 g_2 g_3 r_.2.1).1 - r_.2.2.1)))) = false from c)] at h
      by_cases q : ((f_u32 k r_.2.2.2.2.2).isSome = true)
      ·rw [if_pos q] at h
       refine ⟨(conjC (cc_u32 k r_.2.2.2.2.2 q) conj0), ?_⟩
       refine ⟨fun c => ?_, fun c => ?_⟩
       ·rw [cond_t (show ((v_u32 k r_.2.2.2.2.2 != (0 : Int))) = true from c)] at h
        cases h; exact ⟨rfl, rfl⟩
       ·rw [cond_f (show ((v_u32 k r_.2.2.2.2.2 != (0 : Int))) = false from c)] at h
        refine ⟨fun c => ?_, fun c => ?_⟩
        ·rw [cond_t (show (((↑ (List.length r_.2.2.2.2.2) : Int) == (0 : Int))) = true from c)] at h
         cases h; exact ⟨rfl, rfl⟩
        ·rw [cond_f (show (((↑ (List.length r_.2.2.2.2.2) : Int) == (0 : Int))) = false from c)] at h
         by_cases q : ((f_u37 k r_.2.2.2.2.2).isSome = true)
         ·rw [if_pos q] at h
          refine ⟨(conjC (cc_u37 k r_.2.2.2.2.2 q) conj0), ?_⟩
          refine ⟨fun c => ?_, fun c => ?_⟩
          ·rw [cond_t (show ((!v_u37 k r_.2.2.2.2.2)) = true from c)] at h
           cases h; exact ⟨rfl, rfl⟩
          ·rw [cond_f (show ((!v_u37 k r_.2.2.2.2.2)) = false from c)] at h
           exact (ev_u23 k g_0 g_1 g_2 g_3 r_ k) ((v_u27 k g_0 g_1 g_2 g_3 r_.2.1).2) r_.2.2.2.2.2 ((↑ (List.length r_.2.2.2.2.2) : Int)) 0 _ h
         ·rw [if_neg q] at h; cases h
      ·rw [if_neg q] at h; cases h
    ·rw [if_neg q] at h; cases h
   ·rw [if_neg q] at h; cases h
theorem cc_u23 (k : Nat) (g_0 : Int) (g_1 : Int) (g_2 : List (T2).T) (g_3 : List ((I).T × (I).T)) (r_ : T2.T) (h : (f_u23 k g_0 g_1 g_2 g_3 r_).isSome = true) : CC Tryz.prog 59 (args_u23 g_0 g_1 g_2 g_3 r_) (bin_u23 g_0 g_1 g_2 g_3 r_) (res_u23 (v_u23 k g_0 g_1 g_2 g_3 r_)) (bo_u23 g_0 g_1 g_2 g_3 r_ (v_u23 k g_0 g_1 g_2 g_3 r_)) := by
 cases e : f_u23 k g_0 g_1 g_2 g_3 r_ with
 | none => rw [e] at h; cases h
 | some r => rw [show v_u23 k g_0 g_1 g_2 g_3 r_ = r by simp [v_u23, e]]; exact of_u23 k g_0 g_1 g_2 g_3 r_ r e

end
end Go.AM
namespace Go.AM
open Go Go.Proofs Go.IntKind
set_option linter.unusedVariables false
noncomputable section
abbrev RA_u15 : Type := Int
def resA_u15 (r : RA_u15) : AV := .tup [.r (.v (Value.pointer none)), .r (.v (.int .i64 r))]
def boA_u15 (l_ : List (T2).T) (web_ : T5.T) (r : RA_u15) : List (Nat × Blk) := []
abbrev RB_u15 : Type := Int × Int × Int × List (T2).T × (List ((I).T × (I).T))
def resB_u15 (r : RB_u15) : AV := .tup [.ptr 0 0 0, .r (.v (.int .i64 r.1))]
def boB_u15 (l_ : List (T2).T) (web_ : T5.T) (r : RB_u15) : List (Nat × Blk) := [(0, .var 73 [.r (.v (.int .i64 r.2.1)), .r (.v (.int .i64 r.2.2.1)), .r (.ro T2 r.2.2.2.1), .own 1 0]), (0, .map false I I r.2.2.2.2)]
abbrev R_u15 : Type := RA_u15 ⊕ RB_u15
def res_u15 (r : R_u15) : AV := match r with
 | .inl a => resA_u15 a
 | .inr a => resB_u15 a
def bo_u15 (l_ : List (T2).T) (web_ : T5.T) (r : R_u15) : List (Nat × Blk) := match r with
 | .inl a => boA_u15 l_ web_ a
 | .inr a => boB_u15 l_ web_ a
def args_u15 (l_ : List (T2).T) (web_ : T5.T) : List AV := [.r (.ro T2 l_), .agg (rvs (enc T5 web_))]
def bin_u15 (l_ : List (T2).T) (web_ : T5.T) : List Blk := []
def st_u15_8 (y0 : List (T2).T) (y1 : Bool) (y2 : List (T2).T) (y3 : Int) (y4 : Int) (y5 : Int) (y6 : Int) (y7 : List (T2).T) (y8 : List ((I).T × (I).T)) : St := ⟨mkS 97 [(0, .r (.ro T2 y0)), (6, .ptr 1000000 0 0), (7, .r (.v (.bool y1))), (41, .r (.ro T2 y2)), (42, .r (.v (.int .i64 y3))), (43, .r (.v (.int .i64 y4)))], [(1000000, 0, .var 73 [.r (.v (.int .i64 y5)), .r (.v (.int .i64 y6)), .r (.ro T2 y7), .own 1000001 0]), (1000001, 0, .map false I I y8)]⟩
def st_u15_20 (y0 : List (T2).T) (y1 : List (T2).T) (y2 : Int) (y3 : Int) (y4 : Int) (y5 : Int) (y6 : List (T2).T) (y7 : List ((I).T × (I).T)) : St := ⟨mkS 97 [(0, .r (.ro T2 y0)), (6, .ptr 1000000 0 0), (67, .r (.ro T2 y1)), (68, .r (.v (.int .i64 y2))), (69, .r (.v (.int .i64 y3)))], [(1000000, 0, .var 73 [.r (.v (.int .i64 y4)), .r (.v (.int .i64 y5)), .r (.ro T2 y6), .own 1000001 0]), (1000001, 0, .map false I I y7)]⟩
def st_u15_23 (y0 : List (T2).T) (y1 : List (T2).T) (y2 : Int) (y3 : Int) (y4 : List (T2).T) (y5 : Int) (y6 : Int) (y7 : Int) (y8 : Int) (y9 : List (T2).T) (y10 : List ((I).T × (I).T)) (y11 : T2.T) : St := ⟨mkS 97 [(0, .r (.ro T2 y0)), (6, .ptr 1000000 0 0), (12, .ptr 1000002 0 0), (67, .r (.ro T2 y1)), (68, .r (.v (.int .i64 y2))), (69, .r (.v (.int .i64 y3))), (76, .r (.ro T2 y4)), (77, .r (.v (.int .i64 y5))), (78, .r (.v (.int .i64 y6)))], [(1000000, 0, .var 73 [.r (.v (.int .i64 y7)), .r (.v (.int .i64 y8)), .r (.ro T2 y9), .own 1000001 0]), (1000001, 0, .map false I I y10), (1000002, 0, .var 48 (rvs (enc T2 y11)))]⟩
mutual
def f_u15_8 (k : Nat) : Nat → List (T2).T → Bool → List (T2).T → Int → Int → Int → Int → List (T2).T → (List ((I).T × (I).T)) → Option R_u15
 | 0, _, _, _, _, _, _, _, _, _ => none
 | j + 1, y0, y1, y2, y3, y4, y5, y6, y7, y8 =>
 bif (decide (y4 < y3)) then
 if (0 ≤ y4) ∧ (y4 < (↑y2.length : Int)) then
 if ((f_u23 k y5 y6 y7 y8 (y2.getD y4.toNat T2.dflt)).isSome = true) then
 bif (v_u23 k y5 y6 y7 y8 (y2.getD y4.toNat T2.dflt) != (0 : Int)) then
 some ((.inl (v_u23 k y5 y6 y7 y8 (y2.getD y4.toNat T2.dflt))))
 else
 if ((f_u24 k y5 y6 y7 y8 (y2.getD y4.toNat T2.dflt).1).isSome = true) then
 bif (v_u24 k y5 y6 y7 y8 (y2.getD y4.toNat T2.dflt).1) then
 f_u15_8 k j y0 true y2 y3 ((i64.wrap (y4 + 1))) y5 y6 y7 y8
 else
 f_u15_8 k j y0 y1 y2 y3 ((i64.wrap (y4 + 1))) y5 y6 y7 ((mset I (y2.getD y4.toNat T2.dflt).1 y4 y8))
 else none
 else none
 else none
 else
 bif y1 then
 some ((.inl 6))
 else
 f_u15_20 k j y0 y0 ((↑y0.length : Int)) 0 y5 y6 y7 y8
def f_u15_20 (k : Nat) : Nat → List (T2).T → List (T2).T → Int → Int → Int → Int → List (T2).T → (List ((I).T × (I).T)) → Option R_u15
 | 0, _, _, _, _, _, _, _, _ => none
 | j + 1, y0, y1, y2, y3, y4, y5, y6, y7 =>
 bif (decide (y3 < y2)) then
 if (0 ≤ y3) ∧ (y3 < (↑y1.length : Int)) then
 if ((0 : Int) ≤ (0 : Int)) ∧ (0 ≤ y3) ∧ (y3 ≤ (↑y0.length : Int)) then
 f_u15_23 k j y0 y1 y2 y3 ((List.take (y3.toNat - Int.toNat 0) (List.drop (Int.toNat 0) y0))) ((↑ (List.take (y3.toNat - Int.toNat 0) (List.drop (Int.toNat 0) y0)).length : Int)) 0 y4 y5 y6 y7 ((y1.getD y3.toNat T2.dflt))
 else none
 else none
 else
 some ((.inr ((0, y4, y5, y6, y7))))
def f_u15_23 (k : Nat) : Nat → List (T2).T → List (T2).T → Int → Int → List (T2).T → Int → Int → Int → Int → List (T2).T → (List ((I).T × (I).T)) → T2.T → Option R_u15
 | 0, _, _, _, _, _, _, _, _, _, _, _, _ => none
 | j + 1, y0, y1, y2, y3, y4, y5, y6, y7, y8, y9, y10, y11 =>
 bif (decide (y6 < y5)) then
 if (0 ≤ y6) ∧ (y6 < (↑y4.length : Int)) then
 bif (y11.2.1 == (y4.getD y6.toNat T2.dflt).2.1) then
 if ((y11.2.1 == (y4.getD y6.toNat T2.dflt).2.1) = true) ∧ ((f_u16 k y11.2.2 (y4.getD y6.toNat T2.dflt).2.2).isSome = true) then
 bif (true && v_u16 k y11.2.2 (y4.getD y6.toNat T2.dflt).2.2) then
 some ((.inl 12))
 else
 f_u15_23 k j y0 y1 y2 y3 y4 y5 ((i64.wrap (y6 + 1))) y7 y8 y9 y10 y11
 else none
 else
 if ((y11.2.1 == (y4.getD y6.toNat T2.dflt).2.1) = false) then
 f_u15_23 k j y0 y1 y2 y3 y4 y5 ((i64.wrap (y6 + 1))) y7 y8 y9 y10 y11
 else none
 else none
 else
 f_u15_20 k j y0 y1 y2 ((i64.wrap (y3 + 1))) y7 y8 y9 y10
end
def f_u15 (k : Nat) (l_ : List (T2).T) (web_ : T5.T) : Option R_u15 :=
 bif (decide (web_.1 < (1 : Int)) || decide (web_.1 > (12000 : Int)) || decide (web_.2 < (0 : Int)) || decide (web_.2 > (17179869184 : Int))) then
 some ((.inl 1))
 else
 bif (decide ((↑l_.length : Int) > (512 : Int))) then
 some ((.inl 8))
 else
 f_u15_8 k k l_ false l_ ((↑l_.length : Int)) 0 web_.1 web_.2 l_ ([])
def v_u15 (k : Nat) (l_ : List (T2).T) (web_ : T5.T) : R_u15 := (f_u15 k l_ web_).getD (.inl 0)
def vA_u15 (k : Nat) (l_ : List (T2).T) (web_ : T5.T) : RA_u15 := lft 0 (v_u15 k l_ web_)
def vB_u15 (k : Nat) (l_ : List (T2).T) (web_ : T5.T) : RB_u15 := rgt ((0, 0, 0, [], [])) (v_u15 k l_ web_)
def K_u15 (k : Nat) : Calld := ⟨fun g xs => match g with
 | 60 => match xs with
  | [_, _] => some [false, false]
  | _ => none
 | 49 => match xs with
  | [.ptr _ _ _, _] => some [true, false]
  | _ => none
 | 59 => match xs with
  | [.ptr _ _ _, _] => some [true, false]
  | _ => none
 | _ => none, fun g xs bs => match g with
 | 60 => match xs, bs with
  | [.agg qa_, .agg qb_], [] => (decS [] T1 qa_).bind fun a_ => (decS [] T1 qb_).bind fun b_ => some (.one (res_u16 (v_u16 k a_ b_), bo_u16 a_ b_ (v_u16 k a_ b_)))
  | _, _ => none
 | 49 => match xs, bs with
  | [.ptr 0 0 0, .r (.v (.int .i64 id_))], [.var 73 [.r (.v (.int .i64 g_0)), .r (.v (.int .i64 g_1)), .r (.ro tg_2_ qg_2), .own 1 0], .map false kg_3_ tg_3_ qg_3] => (castL tg_2_ T2 qg_2).bind fun g_2 => (castM kg_3_ tg_3_ I I qg_3).bind fun g_3 => some (.one (res_u24 (v_u24 k g_0 g_1 g_2 g_3 id_), bo_u24 g_0 g_1 g_2 g_3 id_ (v_u24 k g_0 g_1 g_2 g_3 id_)))
  | _, _ => none
 | 59 => match xs, bs with
  | [.ptr 0 0 0, .agg qr_], [.var 73 [.r (.v (.int .i64 g_0)), .r (.v (.int .i64 g_1)), .r (.ro tg_2_ qg_2), .own 1 0], .map false kg_3_ tg_3_ qg_3] => (decS [] T2 qr_).bind fun r_ => (castL tg_2_ T2 qg_2).bind fun g_2 => (castM kg_3_ tg_3_ I I qg_3).bind fun g_3 => some (.one (res_u23 (v_u23 k g_0 g_1 g_2 g_3 r_), bo_u23 g_0 g_1 g_2 g_3 r_ (v_u23 k g_0 g_1 g_2 g_3 r_)))
  | _, _ => none
 | _ => none⟩
theorem ev_u15 (k : Nat) (l_ : List (T2).T) (web_ : T5.T) : ∀ j, (∀ (y0 : List (T2).T) (y1 : Bool) (y2 : List (T2).T) (y3 : Int) (y4 : Int) (y5 : Int) (y6 : Int) (y7 : List (T2).T) (y8 : List ((I).T × (I).T)) (r : R_u15), f_u15_8 k j y0 y1 y2 y3 y4 y5 y6 y7 y8 = some r → Ev Tryz.prog Tryz.f39 0 (placeAt Tryz.f39 8) (st_u15_8 y0 y1 y2 y3 y4 y5 y6 y7 y8) (res_u15 r) (bo_u15 l_ web_ r)) ∧ (∀ (y0 : List (T2).T) (y1 : List (T2).T) (y2 : Int) (y3 : Int) (y4 : Int) (y5 : Int) (y6 : List (T2).T) (y7 : List ((I).T × (I).T)) (r : R_u15), f_u15_20 k j y0 y1 y2 y3 y4 y5 y6 y7 = some r → Ev Tryz.prog Tryz.f39 0 (placeAt Tryz.f39 20) (st_u15_20 y0 y1 y2 y3 y4 y5 y6 y7) (res_u15 r) (bo_u15 l_ web_ r)) ∧ (∀ (y0 : List (T2).T) (y1 : List (T2).T) (y2 : Int) (y3 : Int) (y4 : List (T2).T) (y5 : Int) (y6 : Int) (y7 : Int) (y8 : Int) (y9 : List (T2).T) (y10 : List ((I).T × (I).T)) (y11 : T2.T) (r : R_u15), f_u15_23 k j y0 y1 y2 y3 y4 y5 y6 y7 y8 y9 y10 y11 = some r → Ev Tryz.prog Tryz.f39 0 (placeAt Tryz.f39 23) (st_u15_23 y0 y1 y2 y3 y4 y5 y6 y7 y8 y9 y10 y11) (res_u15 r) (bo_u15 l_ web_ r))
 | 0 => by
  refine ⟨?_, ?_, ?_⟩ <;> intros <;> rename_i h <;> simp [f_u15_8, f_u15_20, f_u15_23] at h
 | j + 1 => by
  have ih := ev_u15 k l_ web_ j
  refine ⟨?_, ?_, ?_⟩
  ·intro y0 y1 y2 y3 y4 y5 y6 y7 y8 r h
   rw [f_u15_8] at h
   refine Ev.tree hm (R := Rt) (K := (K_u15 k)) (l := []) (C := [(8, [.autoB [0, 6, 7, 41, 42, 43] false []]), (20, [.autoB [0, 6, 67, 68, 69] false []]), (23, [.autoB [0, 6, 12, 67, 68, 69, 76, 77, 78] false []])]) (E := [.autoB [4, 5] true []]) (n := 1000) (T := .test ((decide (y4 < y3))) (.need [0 ≤ y4, y4 < (↑y2.length : Int)] (.need [CC Tryz.prog 59 (args_u23 y5 y6 y7 y8 (y2.getD y4.toNat T2.dflt)) (bin_u23 y5 y6 y7 y8 (y2.getD y4.toNat T2.dflt)) (res_u23 (v_u23 k y5 y6 y7 y8 (y2.getD y4.toNat T2.dflt))) (bo_u23 y5 y6 y7 y8 (y2.getD y4.toNat T2.dflt) (v_u23 k y5 y6 y7 y8 (y2.getD y4.toNat T2.dflt)))] (.test ((v_u23 k y5 y6 y7 y8 (y2.getD y4.toNat T2.dflt) != (0 : Int))) (.leaf (resA_u15 (v_u23 k y5 y6 y7 y8 (y2.getD y4.toNat T2.dflt))) (boA_u15 l_ web_ (v_u23 k y5 y6 y7 y8 (y2.getD y4.toNat T2.dflt)))) (.need [CC Tryz.prog 49 (args_u24 y5 y6 y7 y8 (y2.getD y4.toNat T2.dflt).1) (bin_u24 y5 y6 y7 y8 (y2.getD y4.toNat T2.dflt).1) (res_u24 (v_u24 k y5 y6 y7 y8 (y2.getD y4.toNat T2.dflt).1)) (bo_u24 y5 y6 y7 y8 (y2.getD y4.toNat T2.dflt).1 (v_u24 k y5 y6 y7 y8 (y2.getD y4.toNat T2.dflt).1))] (.test ((v_u24 k y5 y6 y7 y8 (y2.getD y4.toNat T2.dflt).1)) (.cut 8 (placeAt Tryz.f39 8) (st_u15_8 y0 true y2 y3 ((i64.wrap (y4 + 1))) y5 y6 y7 y8)) (.cut 8 (placeAt Tryz.f39 8) (st_u15_8 y0 y1 y2 y3 ((i64.wrap (y4 + 1))) y5 y6 y7 ((mset I (y2.getD y4.toNat T2.dflt).1 y4 y8))))))))) (.test (y1) (.leaf (resA_u15 6) (boA_u15 l_ web_ 6)) (.cut 20 (placeAt Tryz.f39 20) (st_u15_20 y0 y0 ((↑y0.length : Int)) 0 y5 y6 y7 y8)))) (by kernel_rfl) ?_
   refine ⟨fun c => ?_, fun c => ?_⟩
   ·rw [cond_t (show ((decide (y4 < y3))) = true from c)] at h
    by_cases q : (0 ≤ y4) ∧ (y4 < (↑y2.length : Int))
    ·rw [if_pos q] at h
     refine ⟨(conjC q.1 (conjC q.2 conj0)), ?_⟩
     by_cases q : ((f_u23 k y5 y6 y7 y8 (y2.getD y4.toNat T2.dflt)).isSome = true)
     ·rw [if_pos q] at h
      refine ⟨(conjC (cc_u23 k y5 y6 y7 y8 (y2.getD y4.toNat T2.dflt) q) conj0), ?_⟩
      refine ⟨fun c => ?_, fun c => ?_⟩
      ·rw [cond_t (show ((v_u23 k y5 y6 y7 y8 (y2.getD y4.toNat T2.dflt) != (0 : Int))) = true from c)] at h
       cases h; exact ⟨rfl, rfl⟩
      ·rw [cond_f (show ((v_u23 k y5 y6 y7 y8 (y2.getD y4.toNat T2.dflt) != (0 : Int))) = false from c)] at h
       by_cases q : ((f_u24 k y5 y6 y7 y8 (y2.getD y4.toNat T2.dflt).1).isSome = true)
       ·rw [if_pos q] at h
        refine ⟨(conjC (cc_u24 k y5 y6 y7 y8 (y2.getD y4.toNat T2.dflt).1 q) conj0), ?_⟩
        refine ⟨fun c => ?_, fun c => ?_⟩
        ·rw [cond_t (show ((v_u24 k y5 y6 y7 y8 (y2.getD y4.toNat T2.dflt).1)) = true from c)] at h
         exact ih.1 y0 true y2 y3 ((i64.wrap (y4 + 1))) y5 y6 y7 y8 _ h
        ·rw [cond_f (show ((v_u24 k y5 y6 y7 y8 (y2.getD y4.toNat T2.dflt).1)) = false from c)] at h
         exact ih.1 y0 y1 y2 y3 ((i64.wrap (y4 + 1))) y5 y6 y7 ((mset I (y2.getD y4.toNat T2.dflt).1 y4 y8)) _ h
       ·rw [if_neg q] at h; cases h
     ·rw [if_neg q] at h; cases h
    ·rw [if_neg q] at h; cases h
   ·rw [cond_f (show ((decide (y4 < y3))) = false from c)] at h
    refine ⟨fun c => ?_, fun c => ?_⟩
    ·rw [cond_t (show y1 = true from c)] at h
     cases h; exact ⟨rfl, rfl⟩
    ·rw [cond_f (show y1 = false from c)] at h
     exact ih.2.1 y0 y0 ((↑y0.length : Int)) 0 y5 y6 y7 y8 _ h
  ·intro y0 y1 y2 y3 y4 y5 y6 y7 r h
   rw [f_u15_20] at h
   refine Ev.tree hm (R := Rt) (K := (K_u15 k)) (l := []) (C := [(8, [.autoB [0, 6, 7, 41, 42, 43] false []]), (20, [.autoB [0, 6, 67, 68, 69] false []]), (23, [.autoB [0, 6, 12, 67, 68, 69, 76, 77, 78] false []])]) (E := [.autoB [4, 5] true []]) (n := 1000) (T := .test ((decide (y3 < y2))) (.need [0 ≤ y3, y3 < (↑y1.length : Int)] (.need [(0 : Int) ≤ (0 : Int), 0 ≤ y3, y3 ≤ (↑y0.length : Int)] (.cut 23 (placeAt Tryz.f39 23) (st_u15_23 y0 y1 y2 y3 ((List.take (y3.toNat - Int.toNat 0) (List.drop (Int.toNat 0) y0))) ((↑ (List.take (y3.toNat - Int.toNat 0) (List.drop (Int.toNat 0) y0)).length : Int)) 0 y4 y5 y6 y7 ((y1.getD y3.toNat T2.dflt)))))) (.leaf (resB_u15 ((0, y4, y5, y6, y7))) (boB_u15 l_ web_ ((0, y4, y5, y6, y7))))) (by kernel_rfl) ?_
   refine ⟨fun c => ?_, fun c => ?_⟩
   ·rw [cond_t (show ((decide (y3 < y2))) = true from c)] at h
    by_cases q : (0 ≤ y3) ∧ (y3 < (↑y1.length : Int))
    ·rw [if_pos q] at h
     refine ⟨(conjC q.1 (conjC q.2 conj0)), ?_⟩
     by_cases q : ((0 : Int) ≤ (0 : Int)) ∧ (0 ≤ y3) ∧ (y3 ≤ (↑y0.length : Int))
     ·rw [if_pos q] at h
      refine ⟨(conjC q.1 (conjC q.2.1 (conjC q.2.2 conj0))), ?_⟩
      exact ih.2.2 y0 y1 y2 y3 ((List.take (y3.toNat - Int.toNat 0) (List.drop (Int.toNat 0) y0))) ((↑ (List.take (y3.toNat - Int.toNat 0) (List.drop (Int.toNat 0) y0)).length : Int)) 0 y4 y5 y6 y7 ((y1.getD y3.toNat T2.dflt)) _ h
     ·rw [if_neg q] at h; cases h
    ·rw [if_neg q] at h; cases h
   ·rw [cond_f (show ((decide (y3 < y2))) = false from c)] at h
    cases h; exact ⟨rfl, rfl⟩
  ·intro y0 y1 y2 y3 y4 y5 y6 y7 y8 y9 y10 y11 r h
   rw [f_u15_23] at h
   refine Ev.tree hm (R := Rt) (K := (K_u15 k)) (l := []) (C := [(8, [.autoB [0, 6, 7, 41, 42, 43] false []]), (20, [.autoB [0, 6, 67, 68, 69] false []]), (23, [.autoB [0, 6, 12, 67, 68, 69, 76, 77, 78] false []])]) (E := [.autoB [4, 5] true []]) (n := 1000) (T := .test ((decide (y6 < y5))) (.need [0 ≤ y6, y6 < (↑y4.length : Int)] (.test ((y11.2.1 == (y4.getD y6.toNat T2.dflt).2.1)) (.need [(y11.2.1 == (y4.getD y6.toNat T2.dflt).2.1) = true, CC Tryz.prog 60 (args_u16 y11.2.2 (y4.getD y6.toNat T2.dflt).2.2) (bin_u16 y11.2.2 (y4.getD y6.toNat T2.dflt).2.2) (res_u16 (v_u16 k y11.2.2 (y4.getD y6.toNat T2.dflt).2.2)) (bo_u16 y11.2.2 (y4.getD y6.toNat T2.dflt).2.2 (v_u16 k y11.2.2 (y4.getD y6.toNat T2.dflt).2.2))] (.test ((true && v_u16 k y11.2.2 (y4.getD y6.toNat T2.dflt).2.2)) (.leaf (resA_u15 12) (boA_u15 l_ web_ 12)) (.cut 23 (placeAt Tryz.f39 23) (st_u15_23 y0 y1 y2 y3 y4 y5 ((i64.wrap (y6 + 1))) y7 y8 y9 y10 y11)))) (.need [(y11.2.1 == (y4.getD y6.toNat T2.dflt).2.1) = false] (.test (false) (.leaf (.tup [.r (.v (Value.pointer none)), .r (.v (.int .i64 12))]) []) (.cut 23 (placeAt Tryz.f39 23) (st_u15_23 y0 y1 y2 y3 y4 y5 ((i64.wrap (y6 + 1))) y7 y8 y9 y10 y11)))))) (.cut 20 (placeAt Tryz.f39 20) (st_u15_20 y0 y1 y2 ((i64.wrap (y3 + 1))) y7 y8 y9 y10))) (by kernel_rfl) ?_
   refine ⟨fun c => ?_, fun c => ?_⟩
   ·rw [cond_t (show ((decide (y6 < y5))) = true from c)] at h
    by_cases q : (0 ≤ y6) ∧ (y6 < (↑y4.length : Int))
    ·rw [if_pos q] at h
     refine ⟨(conjC q.1 (conjC q.2 conj0)), ?_⟩
     refine ⟨fun c => ?_, fun c => ?_⟩
     ·rw [cond_t (show ((y11.2.1 == (y4.getD y6.toNat T2.dflt).2.1)) = true from c)] at h
      by_cases q : ((y11.2.1 == (y4.getD y6.toNat T2.dflt).2.1) = true) ∧ ((f_u16 k y11.2.2 (y4.getD y6.toNat T2.dflt).2.2).isSome = true)
      ·rw [if_pos q] at h
       refine ⟨(conjC q.1 (conjC (cc_u16 k y11.2.2 (y4.getD y6.toNat T2.dflt).2.2 q.2) conj0)), ?_⟩
       refine ⟨fun c => ?_, fun c => ?_⟩
       ·rw [cond_t (show ((true && v_u16 k y11.2.2 (y4.getD y6.toNat T2.dflt).2.2)) = true from c)] at h
        cases h; exact ⟨rfl, rfl⟩
       ·rw [cond_f (show ((true && v_u16 k y11.2.2 (y4.getD y6.toNat T2.dflt).2.2)) = false from c)] at h
        exact ih.2.2 y0 y1 y2 y3 y4 y5 ((i64.wrap (y6 + 1))) y7 y8 y9 y10 y11 _ h
      ·rw [if_neg q] at h; cases h
     ·rw [cond_f (show ((y11.2.1 == (y4.getD y6.toNat T2.dflt).2.1)) = false from c)] at h
      by_cases q : ((y11.2.1 == (y4.getD y6.toNat T2.dflt).2.1) = false)
      ·rw [if_pos q] at h
       refine ⟨(conjC q conj0), ?_⟩
       refine ⟨fun c => ?_, fun c => ?_⟩
       ·cases c
       exact ih.2.2 y0 y1 y2 y3 y4 y5 ((i64.wrap (y6 + 1))) y7 y8 y9 y10 y11 _ h
      ·rw [if_neg q] at h; cases h
    ·rw [if_neg q] at h; cases h
   ·rw [cond_f (show ((decide (y6 < y5))) = false from c)] at h
    exact ih.2.1 y0 y1 y2 ((i64.wrap (y3 + 1))) y7 y8 y9 y10 _ h
theorem of_u15 (k : Nat) (l_ : List (T2).T) (web_ : T5.T) (r : R_u15) (h : f_u15 k l_ web_ = some r) : CC Tryz.prog 39 (args_u15 l_ web_) (bin_u15 l_ web_) (res_u15 r) (bo_u15 l_ web_ r) := by
 refine CC.of (fn := Tryz.f39) (by kernel_rfl) (by kernel_rfl) (by kernel_rfl) (by kernel_rfl) ?_
 unfold f_u15 at h
 refine Ev.tree hm (R := Rt) (K := (K_u15 k)) (l := []) (C := [(8, [.autoB [0, 6, 7, 41, 42, 43] false []]), (20, [.autoB [0, 6, 67, 68, 69] false []]), (23, [.autoB [0, 6, 12, 67, 68, 69, 76, 77, 78] false []])]) (E := [.autoB [4, 5] true []]) (n := 1000) (T := .test ((decide (web_.1 < (1 : Int)) || decide (web_.1 > (12000 : Int)) || decide (web_.2 < (0 : Int)) || decide (web_.2 > (17179869184 : Int)))) (.leaf (resA_u15 1) (boA_u15 l_ web_ 1)) (.test ((decide ((↑l_.length : Int) > (512 : Int)))) (.leaf (resA_u15 8) (boA_u15 l_ web_ 8)) (.cut 8 (placeAt Tryz.f39 8) (st_u15_8 l_ false l_ ((↑l_.length : Int)) 0 web_.1 web_.2 l_ ([]))))) (by kernel_rfl) ?_
 refine ⟨fun c => ?_, fun c => ?_⟩
 ·rw [cond_t (show ((decide (web_.1 < (1 : Int)) || decide (web_.1 > (12000 : Int)) || decide (web_.2 < (0 : Int)) || decide (web_.2 > (17179869184 : Int)))) = true from c)] at h
  cases h; exact ⟨rfl, rfl⟩
 ·rw [cond_f (show ((decide (web_.1 < (1 : Int)) || decide (web_.1 > (12000 : Int)) || decide (web_.2 < (0 : Int)) || decide (web_.2 > (17179869184 : Int)))) = false from c)] at h
  refine ⟨fun c => ?_, fun c => ?_⟩
  ·rw [cond_t (show ((decide ((↑l_.length : Int) > (512 : Int)))) = true from c)] at h
   cases h; exact ⟨rfl, rfl⟩
  ·rw [cond_f (show ((decide ((↑l_.length : Int) > (512 : Int)))) = false from c)] at h
   exact (ev_u15 k l_ web_ k).1 l_ false l_ ((↑l_.length : Int)) 0 web_.1 web_.2 l_ ([]) _ h
theorem cc_u15 (k : Nat) (l_ : List (T2).T) (web_ : T5.T) (h : (f_u15 k l_ web_).isSome = true) : CC Tryz.prog 39 (args_u15 l_ web_) (bin_u15 l_ web_) (res_u15 (v_u15 k l_ web_)) (bo_u15 l_ web_ (v_u15 k l_ web_)) := by
 cases e : f_u15 k l_ web_ with
 | none => rw [e] at h; cases h
 | some r => rw [show v_u15 k l_ web_ = r by simp [v_u15, e]]; exact of_u15 k l_ web_ r e
theorem ccA_u15 (k : Nat) (l_ : List (T2).T) (web_ : T5.T) (h : (f_u15 k l_ web_).isSome = true) (hb : (v_u15 k l_ web_).isLeft = true) : CC Tryz.prog 39 (args_u15 l_ web_) (bin_u15 l_ web_) (resA_u15 (vA_u15 k l_ web_)) (boA_u15 l_ web_ (vA_u15 k l_ web_)) := by
 have h1 := cc_u15 k l_ web_ h
 unfold vA_u15
 cases e : v_u15 k l_ web_ with
 | inl a => rw [e] at h1 hb; exact h1
 | inr a => rw [e] at h1 hb; cases hb
theorem ccB_u15 (k : Nat) (l_ : List (T2).T) (web_ : T5.T) (h : (f_u15 k l_ web_).isSome = true) (hb : (v_u15 k l_ web_).isLeft = false) : CC Tryz.prog 39 (args_u15 l_ web_) (bin_u15 l_ web_) (resB_u15 (vB_u15 k l_ web_)) (boB_u15 l_ web_ (vB_u15 k l_ web_)) := by
 have h1 := cc_u15 k l_ web_ h
 unfold vB_u15
 cases e : v_u15 k l_ web_ with
 | inl a => rw [e] at h1 hb; cases hb
 | inr a => rw [e] at h1 hb; exact h1

end
end Go.AM
namespace Go.AM
open Go Go.Proofs Go.IntKind
set_option linter.unusedVariables false
noncomputable section
end
end Go.AM
namespace Go.AM
open Go Go.Proofs Go.IntKind

def Wl (p : List Ro) : Prop := ∀ r ∈ p, Small r.2.2
theorem Wl.size {p : List Ro} {W L : Int} (h : Wl p) (hW : 0 ≤ W ∧ W ≤ 12000) (id : Int) : 0 ≤ (sizeS p W L id).1 ∧ (sizeS p W L id).1 ≤ 12000 := by
 unfold sizeS
 by_cases h0 : id = 0
 ·rw [if_pos h0]; exact hW
 ·rw [if_neg h0]
  cases e : look p id with
  | none => exact ⟨by decide, by decide⟩
  | some q =>
   obtain ⟨a, b, c, _⟩ := h q (look_some e).1
   exact ⟨by show 0 ≤ q.2.2.2.1; omega, by show q.2.2.2.1 ≤ _; omega⟩
theorem Wl.snoc {p : List Ro} {W L : Int} {r : Ro} (h : Wl p) (hW : 0 ≤ W ∧ W ≤ 12000) (f : fitsS p W L r = 0) : Wl (p ++ [r]) := by
 obtain ⟨_, _, _, c⟩ := fitsS_zero.1 f
 obtain ⟨s1, s2⟩ := h.size (L := L) hW r.2.1
 intro q hq
 rcases List.mem_append.1 hq with hq | hq
 ·exact h q hq
 ·rw [List.mem_singleton] at hq
  subst hq
  have := c.right
  exact ⟨c.left, c.width, by omega, c.chk⟩

theorem fam_size_s (k : Nat) (hk : 2100 ≤ k) (W L : Int) (p t : List Ro) (M : List (Int × Int)) (id : Int) (hp : Wl p) (hM : RegOk M p) (h : id = 0 ∨ ∃ q, look p id = some q) : f_u27 k W L (p ++ t) M id = some (sizeS p W L id) := by
 unfold f_u27 sizeS
 by_cases h0 : id = 0
 ·rw [if_pos h0, show (id == 0) = true from beq_iff_eq.2 h0, cond_true]
 ·rw [if_neg h0, show (id == 0) = false from beq_false_of_ne h0, cond_false]
  rcases h with h | ⟨q, h⟩
  ·exact absurd h h0
  ·obtain ⟨i, e1, e2, e3⟩ := (hM id).some h
   have hl : (p ++ t).length = p.length + t.length := List.length_append
   have hs := hp q (look_some h).1
   have hi : (i : Int) < ((p ++ t).length : Int) := by omega
   rw [e1, Option.getD_some, if_pos ⟨by omega, hi⟩, Int.toNat_natCast, getD_app _ _ _ _ e2, e3, h]
   show (if (f_u36 k q.2.2.2.2.2).isSome = true then some (q.2.2.2.1, (v_u36 k q.2.2.2.2.2).1) else none) = _
   rw [iso_Length_s k hk _ hs.chk, iso_Length_v k hk _ hs.chk]
   rfl
theorem fam_size_v (k : Nat) (hk : 2100 ≤ k) (W L : Int) (p t : List Ro) (M : List (Int × Int)) (id : Int) (hp : Wl p) (hM : RegOk M p) (h : id = 0 ∨ ∃ q, look p id = some q) : v_u27 k W L (p ++ t) M id = sizeS p W L id := by
 unfold v_u27; rw [fam_size_s k hk W L p t M id hp hM h]; rfl

theorem fam_fits_17 (k : Nat) (W L : Int) (l : List Ro) (M : List (Int × Int)) (r : Ro) (n : Int) (m : List Rn) (hm : goods m) (hl : m.length ≤ 256) : ∀ (d i j : Nat), i + d = m.length → d < j →
  f_u23_17 k W L l M r j n m (m.length : Int) (i : Int) = some (if fitsIn n (m.drop i) then 0 else 21) := by
 intro d
 induction d with
 | zero =>
  intro i j hi hj
  obtain ⟨j, rfl⟩ : ∃ q, j = q + 1 := ⟨j - 1, by omega⟩
  rw [f_u23_17, decide_eq_false (by omega : ¬ (i : Int) < (m.length : Int)), cond_false, List.drop_of_length_le (by omega), if_pos (by trivial)]
 | succ d ih =>
  intro i j hi hj
  obtain ⟨j, rfl⟩ : ∃ q, j = q + 1 := ⟨j - 1, by omega⟩
  have hg : good (m.getD i T0.dflt) := hm.mem _ (getD_mem' _ _ _ (by omega))
  rw [f_u23_17, decide_eq_true (by omega : (i : Int) < (m.length : Int)), cond_true, if_pos ⟨by omega, by omega⟩, Int.toNat_natCast, fam_bounds_s k _ hg, fam_bounds_v k _ hg, Option.isSome_some, if_pos rfl, drop_cons' m i T0.dflt (by omega), wrapS i (by omega)]
  show (bif decide (Go.AM.hi (m.getD i T0.dflt) ≥ n) then _ else _) = _
  by_cases h : Go.AM.hi (m.getD i T0.dflt) ≥ n
  ·rw [decide_eq_true h, cond_true, if_neg (fun e : fitsIn n (m.getD i T0.dflt :: m.drop (i + 1)) => by have := e.1; omega)]
  ·rw [decide_eq_false h, cond_false, ih (i + 1) j (by omega) (by omega)]
   by_cases h2 : fitsIn n (m.drop (i + 1))
   ·rw [if_pos h2, if_pos (show fitsIn n (m.getD i T0.dflt :: m.drop (i + 1)) from ⟨by omega, h2⟩)]
   ·rw [if_neg h2, if_neg (fun e : fitsIn n (m.getD i T0.dflt :: m.drop (i + 1)) => h2 e.2)]
theorem cut_test (c : Ch) (w : Int) (hw : 0 ≤ w ∧ w ≤ 12000) : (decide (c.1 < (0 : Int)) || decide (c.2.1 < (1 : Int)) || decide (c.1 > w) || decide (c.2.1 > i64.wrap (w - c.1))) = decide (c.1 < 0 ∨ c.2.1 < 1 ∨ c.1 > w ∨ c.2.1 > w - c.1) := by
 by_cases h1 : c.1 < 0
 ·rw [decide_eq_true h1, Bool.true_or, Bool.true_or, Bool.true_or, decide_eq_true (Or.inl h1)]
 ·by_cases h2 : c.2.1 < 1
  ·rw [decide_eq_true h2, Bool.or_true, Bool.true_or, Bool.true_or, decide_eq_true (Or.inr (Or.inl h2))]
  ·by_cases h3 : c.1 > w
   ·rw [decide_eq_true h3, Bool.or_true, Bool.true_or, decide_eq_true (Or.inr (Or.inr (Or.inl h3)))]
   ·rw [decide_eq_false h1, decide_eq_false h2, decide_eq_false h3, wrap_id (by omega) (by omega), Bool.or_false, Bool.or_false, Bool.false_or]
    by_cases h4 : c.2.1 > w - c.1
    ·rw [decide_eq_true h4, decide_eq_true (Or.inr (Or.inr (Or.inr h4)))]
    ·rw [decide_eq_false h4, decide_eq_false (by omega)]
theorem fam_fits_tail (k : Nat) (hk : 2100 ≤ k) (W L : Int) (l : List Ro) (M : List (Int × Int)) (r : Ro) (c : Ch) (w n : Int) (hw : 0 ≤ w ∧ w ≤ 12000) :
  (bif (decide (c.1 < (0 : Int)) || decide (c.2.1 < (1 : Int)) || decide (c.1 > w) || decide (c.2.1 > i64.wrap (w - c.1))) then some 20
  else if ((f_u32 k c.2.2.2).isSome = true) then
   bif (v_u32 k c.2.2.2 != (0 : Int)) then some (v_u32 k c.2.2.2)
   else bif ((↑ (List.length c.2.2.2) : Int) == (0 : Int)) then some 10
   else if ((f_u37 k c.2.2.2).isSome = true) then
    bif (!v_u37 k c.2.2.2) then some 12
    else f_u23_17 k W L l M r k n c.2.2.2 ((↑ (List.length c.2.2.2) : Int)) 0
   else none
  else none) = some (cutE c w n) := by
 unfold cutE
 rw [cut_test c w hw, iso_Check_s k (by omega), iso_Check_v k (by omega), Option.isSome_some, if_pos rfl, iso_Single_s k hk, iso_Single_v k hk, Option.isSome_some, if_pos rfl]
 by_cases h1 : c.1 < 0 ∨ c.2.1 < 1 ∨ c.1 > w ∨ c.2.1 > w - c.1
 ·rw [decide_eq_true h1, cond_true, if_pos h1]
 ·rw [decide_eq_false h1, cond_false, if_neg h1]
  by_cases h2 : chk c.2.2.2 = 0
  ·have hc := chk_zero.1 h2
   have hl := hc.len
   rw [show (chk c.2.2.2 != 0) = false by simp [h2], cond_false, if_neg (fun h : chk c.2.2.2 ≠ 0 => h h2)]
   by_cases h3 : c.2.2.2 = []
   ·rw [h3, if_pos rfl]; rfl
   ·rw [if_neg h3, show (((List.length c.2.2.2 : Nat) : Int) == 0) = false from beq_false_of_ne (fun e => h3 (List.length_eq_zero_iff.1 (by omega))), cond_false]
    cases h4 : singleS c.2.2.2
    ·rfl
    ·rw [Bool.not_true, cond_false, if_neg (by decide)]
     refine (fam_fits_17 k W L l M r n c.2.2.2 hc.goods hl c.2.2.2.length 0 k (by omega) (by omega)).trans ?_
     rw [List.drop_zero]
  ·rw [show (chk c.2.2.2 != 0) = true by simp [h2], cond_true, if_pos h2]
theorem fam_fits_s (k : Nat) (hk : 2100 ≤ k) (W L : Int) (hW : 0 ≤ W ∧ W ≤ 12000) (p t : List Ro) (M : List (Int × Int)) (r : Ro) (hp : Wl p) (hM : RegOk M p) : f_u23 k W L (p ++ t) M r = some (fitsS p W L r) := by
 unfold f_u23 fitsS
 by_cases h1 : r.1 < 1 ∨ r.1 > 1000000
 ·rw [if_pos h1, show (decide (r.1 < 1) || decide (r.1 > 1000000)) = true by simpa using h1, cond_true]
 ·rw [if_neg h1, show (decide (r.1 < 1) || decide (r.1 > 1000000)) = false by simp; omega, cond_false]
  have hs := hp.size (L := L) hW r.2.1
  by_cases h2 : r.2.1 = 0
  ·rw [show (r.2.1 != 0) = false by simp [h2], cond_false, if_pos rfl, if_neg (fun h : r.2.1 ≠ 0 ∧ look p r.2.1 = none => h.1 h2), fam_size_s k hk W L p t M r.2.1 hp hM (.inl h2), fam_size_v k hk W L p t M r.2.1 hp hM (.inl h2), Option.isSome_some, if_pos rfl]
   exact fam_fits_tail k hk W L (p ++ t) M r r.2.2 _ _ hs
  ·have hkn : v_u24 k W L (p ++ t) M r.2.1 = (mget I r.2.1 M).isSome := by unfold v_u24 f_u24; rfl
   rw [show (r.2.1 != 0) = true by simp [h2], cond_true, if_pos ⟨rfl, rfl⟩, hkn, Bool.true_and]
   cases e : look p r.2.1 with
   | none => rw [(hM r.2.1).none e, if_pos (show r.2.1 ≠ 0 ∧ (none : Option Ro) = none from ⟨h2, rfl⟩)]; rfl
   | some q =>
    obtain ⟨i, e1, e2, e3⟩ := (hM r.2.1).some e
    rw [e1, if_neg (show ¬ (r.2.1 ≠ 0 ∧ some q = none) from fun h => nomatch h.2), Option.isSome_some, Bool.not_true, cond_false, fam_size_s k hk W L p t M r.2.1 hp hM (.inr ⟨q, e⟩), fam_size_v k hk W L p t M r.2.1 hp hM (.inr ⟨q, e⟩), Option.isSome_some, if_pos rfl]
    exact fam_fits_tail k hk W L (p ++ t) M r r.2.2 _ _ hs
theorem fam_fits_v (k : Nat) (hk : 2100 ≤ k) (W L : Int) (hW : 0 ≤ W ∧ W ≤ 12000) (p t : List Ro) (M : List (Int × Int)) (r : Ro) (hp : Wl p) (hM : RegOk M p) : v_u23 k W L (p ++ t) M r = fitsS p W L r := by
 unfold v_u23; rw [fam_fits_s k hk W L hW p t M r hp hM]; rfl

theorem fam_open_23 (k : Nat) (hk : 70000 ≤ k) (l : List Ro) (n i W L : Int) (M : List (Int × Int)) (r : Ro) (hr : Small r.2.2) (p : List Ro) (hp : Wl p) (hpl : p.length ≤ 512) : ∀ (d q m : Nat), q + d = p.length →
  f_u15_23 k (m + d + 1) l l n i p (p.length : Int) (q : Int) W L l M r = if clash (p.drop q) r = true then some (.inl 12) else f_u15_20 k m l l n (i64.wrap (i + 1)) W L l M := by
 intro d
 induction d with
 | zero =>
  intro q m hq
  rw [f_u15_23, decide_eq_false (by omega : ¬ (q : Int) < (p.length : Int)), cond_false, List.drop_of_length_le (by omega), if_neg (by unfold clash; rw [List.any_nil]; decide)]
 | succ d ih =>
  intro q m hq
  have hs : Small (p.getD q T2.dflt).2.2 := hp _ (getD_mem' _ _ _ (by omega))
  have hc : clash (p.drop q) r = ((r.2.1 == (p.getD q T2.dflt).2.1) && ovlS r.2.2 (p.getD q T2.dflt).2.2 || clash (p.drop (q + 1)) r) := by
   unfold clash; rw [drop_cons' p q T2.dflt (by omega), List.any_cons]
  rw [show m + (d + 1) + 1 = (m + d + 1) + 1 from rfl, f_u15_23, decide_eq_true (by omega : (q : Int) < (p.length : Int)), cond_true, if_pos ⟨by omega, by omega⟩, Int.toNat_natCast, wrapS q (by omega), ih (q + 1) m (by omega), hc]
  cases e : (r.2.1 == (p.getD q T2.dflt).2.1)
  ·rw [cond_false, if_pos rfl, Bool.false_and, Bool.false_or]
  ·rw [cond_true, Bool.true_and, fam_overlap_v k hk _ _ hr hs, if_pos ⟨rfl, by rw [fam_overlap_s k hk _ _ hr hs]; rfl⟩, Bool.true_and]
   cases ovlS r.2.2 (p.getD q T2.dflt).2.2
   ·rw [cond_false, Bool.false_or]
   ·rfl
set_option maxRecDepth 20000 in
theorem fam_open_20 (k : Nat) (hk : 70000 ≤ k) (l : List Ro) (W L : Int) (M : List (Int × Int)) (hl : Wl l) (hll : l.length ≤ 512) : ∀ (d i j : Nat), i + d = l.length → d * 514 < j →
  f_u15_20 k j l l (l.length : Int) (i : Int) W L l M = if clashGo (l.take i) (l.drop i) = true then some (.inl 12) else some (.inr (0, W, L, l, M)) := by
 intro d
 induction d with
 | zero =>
  intro i j hi hj
  obtain ⟨j, rfl⟩ : ∃ q, j = q + 1 := ⟨j - 1, by omega⟩
  rw [f_u15_20, decide_eq_false (by omega : ¬ (i : Int) < (l.length : Int)), cond_false, List.drop_of_length_le (by omega), clashGo, if_neg (by decide)]
 | succ d ih =>
  intro i j hi hj
  obtain ⟨j, rfl⟩ : ∃ q, j = (q + (l.take i).length + 1) + 1 := ⟨j - (l.take i).length - 2, by rw [List.length_take]; omega⟩
  rw [List.length_take] at hj
  have hs : Small (l.getD i T2.dflt).2.2 := hl _ (getD_mem' _ _ _ (by omega))
  have h23 := fam_open_23 k hk l (l.length : Int) (i : Int) W L M (l.getD i T2.dflt) hs (l.take i) (fun r hr => hl r (List.mem_of_mem_take hr)) (by rw [List.length_take]; omega) (l.take i).length 0 j (by omega)
  rw [f_u15_20, decide_eq_true (by omega : (i : Int) < (l.length : Int)), cond_true, if_pos ⟨by omega, by omega⟩, if_pos ⟨by omega, by omega, by omega⟩, Int.toNat_natCast, Int.toNat_zero, List.drop_zero, Nat.sub_zero]
  refine h23.trans ?_
  rw [List.drop_zero, wrapS i (by omega), ih (i + 1) j (by omega) (by omega), drop_cons' l i T2.dflt (by omega), clashGo, take_snoc l i T2.dflt (by omega)]
  cases clash (l.take i) (l.getD i T2.dflt)
  ·rw [if_neg (by decide), Bool.false_or]
  ·rfl
theorem fam_open_8 (k : Nat) (hk : 300000 ≤ k) (l : List Ro) (W L : Int) (hW : 0 ≤ W ∧ W ≤ 12000) (hll : l.length ≤ 512) : ∀ (d i j : Nat) (dup : Bool) (M : List (Int × Int)), i + d = l.length → d + 1 + 263168 < j → RegOk M (l.take i) → Wl (l.take i) →
  ∃ M', (errsGo W L (l.take i) (l.drop i) = 0 → RegOk M' l ∧ Wl l) ∧ f_u15_8 k j l dup l (l.length : Int) (i : Int) W L l M =
   if errsGo W L (l.take i) (l.drop i) ≠ 0 then some (.inl (errsGo W L (l.take i) (l.drop i))) else if (dup || dupGo (l.take i) (l.drop i)) = true then some (.inl 6) else if clashGo [] l = true then some (.inl 12) else some (.inr (0, W, L, l, M')) := by
 intro d
 induction d with
 | zero =>
  intro i j dup M hi hj hM hw
  obtain ⟨j, rfl⟩ : ∃ q, j = q + 1 := ⟨j - 1, by omega⟩
  have h20 := fam_open_20 k (by omega) l W L M (by rw [List.take_of_length_le (by omega)] at hw; exact hw) hll l.length 0 j (by omega) (by omega)
  rw [List.take_of_length_le (by omega : l.length ≤ i)] at hM hw
  refine ⟨M, fun _ => ⟨hM, hw⟩, ?_⟩
  rw [f_u15_8, decide_eq_false (by omega : ¬ (i : Int) < (l.length : Int)), cond_false, List.drop_of_length_le (by omega), errsGo, if_neg (fun h => h rfl), dupGo, Bool.or_false]
  cases dup
  ·rw [cond_false, if_neg (by decide)]
   exact h20
  ·rfl
 | succ d ih =>
  intro i j dup M hi hj hM hw
  obtain ⟨j, rfl⟩ : ∃ q, j = q + 1 := ⟨j - 1, by omega⟩
  have hf := fam_fits_s k (by omega) W L hW (l.take i) (l.drop i) M (l.getD i T2.dflt) hw hM
  have hv := fam_fits_v k (by omega) W L hW (l.take i) (l.drop i) M (l.getD i T2.dflt) hw hM
  rw [List.take_append_drop] at hf hv
  have hkn : v_u24 k W L l M (l.getD i T2.dflt).1 = (mget I (l.getD i T2.dflt).1 M).isSome := by unfold v_u24 f_u24; rfl
  have ht := take_snoc l i T2.dflt (by omega)
  by_cases h1 : fitsS (l.take i) W L (l.getD i T2.dflt) = 0
  ·have hw2 : Wl (l.take (i + 1)) := by rw [ht]; exact hw.snoc hW h1
   cases e : look (l.take i) (l.getD i T2.dflt).1 with
   | none =>
    have hM2 : RegOk (mset I (l.getD i T2.dflt).1 (i : Int) M) (l.take (i + 1)) := by
     have := regOk_new hM (l.getD i T2.dflt) e
     rw [ht]
     rw [List.length_take, show min i l.length = i by omega] at this
     exact this
    obtain ⟨M', m1, m2⟩ := ih (i + 1) j dup _ (by omega) (by omega) hM2 hw2
    rw [ht] at m1 m2
    rw [drop_cons' l i T2.dflt (by omega), errsGo, if_neg (fun h => h h1), dupGo, e]
    refine ⟨M', m1, ?_⟩
    rw [f_u15_8, decide_eq_true (by omega : (i : Int) < (l.length : Int)), cond_true, if_pos ⟨by omega, by omega⟩, Int.toNat_natCast, hf, hv, Option.isSome_some, if_pos rfl, h1]
    show (bif v_u24 k W L l M (l.getD i T2.dflt).1 then _ else _) = _
    rw [hkn, (hM _).none e, wrapS i (by omega)]
    exact m2
   | some q =>
    have hM2 : RegOk M (l.take (i + 1)) := by
     have := regOk_old hM (l.getD i T2.dflt) (by rw [e]; rfl)
     rw [ht]
     exact this
    obtain ⟨M', m1, m2⟩ := ih (i + 1) j true _ (by omega) (by omega) hM2 hw2
    rw [ht] at m1 m2
    rw [drop_cons' l i T2.dflt (by omega), errsGo, if_neg (fun h => h h1), dupGo, e]
    refine ⟨M', m1, ?_⟩
    obtain ⟨a, b, _, _⟩ := (hM _).some e
    rw [f_u15_8, decide_eq_true (by omega : (i : Int) < (l.length : Int)), cond_true, if_pos ⟨by omega, by omega⟩, Int.toNat_natCast, hf, hv, Option.isSome_some, if_pos rfl, h1]
    show (bif v_u24 k W L l M (l.getD i T2.dflt).1 then _ else _) = _
    rw [hkn, b, wrapS i (by omega), Option.isSome_some, Option.isSome_some, Bool.true_or, Bool.or_true]
    rw [Bool.true_or] at m2
    exact m2
  ·rw [drop_cons' l i T2.dflt (by omega), errsGo, if_pos h1]
   refine ⟨M, fun h => absurd h h1, ?_⟩
   rw [f_u15_8, decide_eq_true (by omega : (i : Int) < (l.length : Int)), cond_true, if_pos ⟨by omega, by omega⟩, Int.toNat_natCast, hf, hv, Option.isSome_some, if_pos rfl, show (fitsS (l.take i) W L (l.getD i T2.dflt) != 0) = true from bne_iff_ne.2 h1, cond_true, if_pos h1]
theorem fam_open (k : Nat) (hk : 300000 ≤ k) (l : List Ro) (web : Int × Int) : (checkS l web.1 web.2 ≠ 0 → f_u15 k l web = some (.inl (checkS l web.1 web.2))) ∧ (checkS l web.1 web.2 = 0 → ∃ M, RegOk M l ∧ Wl l ∧ f_u15 k l web = some (.inr (0, web.1, web.2, l, M))) := by
 obtain ⟨W, L⟩ := web
 show (checkS l W L ≠ 0 → f_u15 k l (W, L) = some (.inl (checkS l W L))) ∧ (checkS l W L = 0 → ∃ M, RegOk M l ∧ Wl l ∧ f_u15 k l (W, L) = some (.inr (0, W, L, l, M)))
 unfold f_u15 checkS
 show ((if _ then _ else _ : Int) ≠ 0 → (bif decide (W < (1 : Int)) || decide (W > (12000 : Int)) || decide (L < (0 : Int)) || decide (L > (17179869184 : Int)) then some (.inl 1) else bif _ then _ else f_u15_8 k k l false l (l.length : Int) 0 W L l []) = _) ∧ (_ → ∃ M, RegOk M l ∧ Wl l ∧ (bif decide (W < (1 : Int)) || decide (W > (12000 : Int)) || decide (L < (0 : Int)) || decide (L > (17179869184 : Int)) then some (.inl 1) else bif _ then _ else f_u15_8 k k l false l (l.length : Int) 0 W L l []) = _)
 by_cases h1 : W < 1 ∨ W > 12000 ∨ L < 0 ∨ L > 17179869184
 ·rw [if_pos h1, show (decide (W < (1 : Int)) || decide (W > (12000 : Int)) || decide (L < (0 : Int)) || decide (L > (17179869184 : Int))) = true by simp; omega]
  exact ⟨fun _ => rfl, fun h => absurd h (by decide)⟩
 ·rw [if_neg h1, show (decide (W < (1 : Int)) || decide (W > (12000 : Int)) || decide (L < (0 : Int)) || decide (L > (17179869184 : Int))) = false by simp; omega, cond_false]
  by_cases h2 : l.length > 512
  ·rw [if_pos h2, decide_eq_true (by omega : (l.length : Int) > 512)]
   exact ⟨fun _ => rfl, fun h => absurd h (by decide)⟩
  ·rw [if_neg h2, decide_eq_false (by omega : ¬ (l.length : Int) > 512), cond_false]
   obtain ⟨M, m1, m2⟩ := fam_open_8 k hk l W L (by omega) (by omega) l.length 0 k false [] (by omega) (by omega) (by rw [List.take_zero]; exact regOk_nil) (fun r hr => by simp at hr)
   rw [List.take_zero, List.drop_zero, Bool.false_or] at m2
   rw [List.take_zero, List.drop_zero] at m1
   rw [show f_u15_8 k k l false l (l.length : Int) 0 W L l [] = _ from m2]
   by_cases h3 : errsGo W L [] l = 0
   ·rw [if_neg (fun h : errsGo W L [] l ≠ 0 => h h3), if_neg (fun h : errsGo W L [] l ≠ 0 => h h3)]
    have ff : ¬ (false = true) := Bool.false_ne_true
    have tt : true = true := rfl
    cases dupGo [] l
    ·rw [if_neg ff, if_neg ff]
     cases clashGo [] l
     ·rw [if_neg ff, if_neg ff]
      exact ⟨fun h => absurd rfl h, fun _ => ⟨M, (m1 h3).1, (m1 h3).2, rfl⟩⟩
     ·rw [if_pos tt, if_pos tt]
      exact ⟨fun _ => rfl, fun h => absurd h (by decide)⟩
    ·rw [if_pos tt, if_pos tt]
     exact ⟨fun _ => rfl, fun h => absurd h (by decide)⟩
   ·rw [if_pos h3, if_pos h3]
    exact ⟨fun _ => rfl, fun h => absurd h h3⟩
end Go.AM
namespace Go.AM
open Go Go.Proofs Go.IntKind
set_option linter.unusedVariables false
noncomputable section
abbrev R_u94 : Type := Int
def res_u94 (r : R_u94) : AV := .r (.v (.int .i64 r))
def bo_u94 (l_ : List (T2).T) (i_ : Int) (width_ : Int) (length_ : Int) (r : R_u94) : List (Nat × Blk) := []
def args_u94 (l_ : List (T2).T) (i_ : Int) (width_ : Int) (length_ : Int) : List AV := [.r (.ro T2 l_), .r (.v (.int .i64 i_)), .r (.v (.int .i64 width_)), .r (.v (.int .i64 length_))]
def bin_u94 (l_ : List (T2).T) (i_ : Int) (width_ : Int) (length_ : Int) : List Blk := []
def st_u94_21 (y0 : Int) (y1 : Int) (y2 : T1.T) : St := ⟨mkS 109 [(3, .r (.v (.int .i64 y0))), (11, .ptr 1000000 0 0), (13, .r (.v (.int .i64 y1)))], [(1000000, 0, .var 41 (rvs (enc T1 y2)))]⟩
def f_u94_21 (k : Nat) : Nat → Int → Int → T1.T → Option R_u94
 | 0, _, _, _ => none
 | j + 1, y0, y1, y2 =>
 bif (decide (y1 < (↑ (List.length y2.2.2.2) : Int))) then
 if (0 ≤ y1) ∧ (y1 < (↑ (List.length y2.2.2.2) : Int)) ∧ ((f_u90 k (List.getD y2.2.2.2 y1.toNat T0.dflt)).isSome = true) then
 bif (decide ((v_u90 k (List.getD y2.2.2.2 y1.toNat T0.dflt)).2 ≥ y0)) then
 some 21
 else
 f_u94_21 k j y0 ((i64.wrap (y1 + 1))) y2
 else none
 else
 some 0
def f_u94 (k : Nat) (l_ : List (T2).T) (i_ : Int) (width_ : Int) (length_ : Int) : Option R_u94 :=
 if ((0 : Int) ≤ i_) ∧ (i_ < (↑l_.length : Int)) then
 bif (decide ((l_.getD i_.toNat T2.dflt).1 < (1 : Int)) || decide ((l_.getD i_.toNat T2.dflt).1 > (1000000 : Int))) then
 some 1
 else
 bif ((l_.getD i_.toNat T2.dflt).2.1 != (0 : Int)) then
 if ((f_u82 k l_ i_ (l_.getD i_.toNat T2.dflt).2.1).isSome = true) then
 bif (decide (v_u82 k l_ i_ (l_.getD i_.toNat T2.dflt).2.1 < (0 : Int))) then
 some 7
 else
 if ((0 : Int) ≤ v_u82 k l_ i_ (l_.getD i_.toNat T2.dflt).2.1) ∧ (v_u82 k l_ i_ (l_.getD i_.toNat T2.dflt).2.1 < (↑l_.length : Int)) then
 if ((0 : Int) ≤ v_u82 k l_ i_ (l_.getD i_.toNat T2.dflt).2.1) ∧ (v_u82 k l_ i_ (l_.getD i_.toNat T2.dflt).2.1 < (↑l_.length : Int)) ∧ ((f_u85 k (l_.getD (Int.toNat (v_u82 k l_ i_ (l_.getD i_.toNat T2.dflt).2.1)) T2.dflt).2.2.2.2.2).isSome = true) then
 bif (decide ((l_.getD i_.toNat T2.dflt).2.2.1 < (0 : Int)) || decide ((l_.getD i_.toNat T2.dflt).2.2.2.1 < (1 : Int)) || decide ((l_.getD i_.toNat T2.dflt).2.2.1 > (l_.getD (Int.toNat (v_u82 k l_ i_ (l_.getD i_.toNat T2.dflt).2.1)) T2.dflt).2.2.2.1) || decide ((l_.getD i_.toNat T2.dflt).2.2.2.1 > i64.wrap ((l_.getD (Int.toNat (v_u82 k l_ i_ (l_.getD i_.toNat T2.dflt).2.1)) T2.dflt).2.2.2.1 - (l_.getD i_.toNat T2.dflt).2.2.1))) then
 some 20
 else
 if ((f_u68 k (l_.getD i_.toNat T2.dflt).2.2.2.2.2).isSome = true) then
 bif (v_u68 k (l_.getD i_.toNat T2.dflt).2.2.2.2.2 != (0 : Int)) then
 some (v_u68 k (l_.getD i_.toNat T2.dflt).2.2.2.2.2)
 else
 bif ((↑ (List.length (l_.getD i_.toNat T2.dflt).2.2.2.2.2) : Int) == (0 : Int)) then
 some 10
 else
 if ((f_u71 k (l_.getD i_.toNat T2.dflt).2.2.2.2.2).isSome = true) then
 bif (!v_u71 k (l_.getD i_.toNat T2.dflt).2.2.2.2.2) then
 some 12
 else
 f_u94_21 k k ((v_u85 k (l_.getD (Int.toNat (v_u82 k l_ i_ (l_.getD i_.toNat T2.dflt).2.1)) T2.dflt).2.2.2.2.2)) 0 ((l_.getD i_.toNat T2.dflt).2.2)
 else none
 else none
 else none
 else none
 else none
 else
 bif (decide ((l_.getD i_.toNat T2.dflt).2.2.1 < (0 : Int)) || decide ((l_.getD i_.toNat T2.dflt).2.2.2.1 < (1 : Int)) || decide ((l_.getD i_.toNat T2.dflt).2.2.1 > width_) || decide ((l_.getD i_.toNat T2.dflt).2.2.2.1 > i64.wrap (width_ - (l_.getD i_.toNat T2.dflt).2.2.1))) then
 some 20
 else
 if ((f_u68 k (l_.getD i_.toNat T2.dflt).2.2.2.2.2).isSome = true) then
 bif (v_u68 k (l_.getD i_.toNat T2.dflt).2.2.2.2.2 != (0 : Int)) then
 some (v_u68 k (l_.getD i_.toNat T2.dflt).2.2.2.2.2)
 else
 bif ((↑ (List.length (l_.getD i_.toNat T2.dflt).2.2.2.2.2) : Int) == (0 : Int)) then
 some 10
 else
 if ((f_u71 k (l_.getD i_.toNat T2.dflt).2.2.2.2.2).isSome = true) then
 bif (!v_u71 k (l_.getD i_.toNat T2.dflt).2.2.2.2.2) then
 some 12
 else
 f_u94_21 k k length_ 0 ((l_.getD i_.toNat T2.dflt).2.2)
 else none
 else none
 else none
def v_u94 (k : Nat) (l_ : List (T2).T) (i_ : Int) (width_ : Int) (length_ : Int) : R_u94 := (f_u94 k l_ i_ width_ length_).getD 0
def K_u94 (k : Nat) : Calld := ⟨fun g xs => match g with
 | 35 => match xs with
  | [_, _, _] => some [false, false, false]
  | _ => none
 | 43 => match xs with
  | [_] => some [false]
  | _ => none
 | 54 => match xs with
  | [_] => some [false]
  | _ => none
 | 61 => match xs with
  | [_] => some [false]
  | _ => none
 | 62 => match xs with
  | [_] => some [false]
  | _ => none
 | _ => none, fun g xs bs => match g with
 | 35 => match xs, bs with
  | [.r (.ro tl__ ql_), .r (.v (.int .i64 n_)), .r (.v (.int .i64 id_))], [] => (castL tl__ T2 ql_).bind fun l_ => some (.one (res_u82 (v_u82 k l_ n_ id_), bo_u82 l_ n_ id_ (v_u82 k l_ n_ id_)))
  | _, _ => none
 | 43 => match xs, bs with
  | [.r (.ro tm__ qm_)], [] => (castL tm__ T0 qm_).bind fun m_ => some (.one (res_u85 (v_u85 k m_), bo_u85 m_ (v_u85 k m_)))
  | _, _ => none
 | 54 => match xs, bs with
  | [.r (.ro tm__ qm_)], [] => (castL tm__ T0 qm_).bind fun m_ => some (.one (res_u68 (v_u68 k m_), bo_u68 m_ (v_u68 k m_)))
  | _, _ => none
 | 61 => match xs, bs with
  | [.r (.ro tm__ qm_)], [] => (castL tm__ T0 qm_).bind fun m_ => some (.one (res_u71 (v_u71 k m_), bo_u71 m_ (v_u71 k m_)))
  | _, _ => none
 | 62 => match xs, bs with
  | [.agg qr_], [] => (decS [] T0 qr_).bind fun r_ => some (.one (res_u90 (v_u90 k r_), bo_u90 r_ (v_u90 k r_)))
  | _, _ => none
 | _ => none⟩
theorem ev_u94 (k : Nat) (l_ : List (T2).T) (i_ : Int) (width_ : Int) (length_ : Int) : ∀ j, (∀ (y0 : Int) (y1 : Int) (y2 : T1.T) (r : R_u94), f_u94_21 k j y0 y1 y2 = some r → Ev Tryz.prog Tryz.f40 0 (placeAt Tryz.f40 21) (st_u94_21 y0 y1 y2) (res_u94 r) (bo_u94 l_ i_ width_ length_ r))
 | 0 => by
  intros; rename_i h; simp [f_u94_21] at h
 | j + 1 => by
  have ih := ev_u94 k l_ i_ width_ length_ j
  ·intro y0 y1 y2 r h
   rw [f_u94_21] at h
   refine Ev.tree hm (R := Rt) (K := (K_u94 k)) (l := []) (C := [(21, [.autoB [3, 11, 13] false []])]) (E := [.autoB [8] true []]) (n := 1000) (T := .test ((decide (y1 < (↑ (List.length y2.2.2.2) : Int)))) (.need [0 ≤ y1, y1 < (↑ (List.length y2.2.2.2) : Int), CC Tryz.prog 62 (args_u90 (List.getD y2.2.2.2 y1.toNat T0.dflt)) (bin_u90 (List.getD y2.2.2.2 y1.toNat T0.dflt)) (res_u90 (v_u90 k (List.getD y2.2.2.2 y1.toNat T0.dflt))) (bo_u90 (List.getD y2.2.2.2 y1.toNat T0.dflt) (v_u90 k (List.getD y2.2.2.2 y1.toNat T0.dflt)))] (.test ((decide ((v_u90 k (List.getD y2.2.2.2 y1.toNat T0.dflt)).2 ≥ y0))) (.leaf (res_u94 21) (bo_u94 l_ i_ width_ length_ 21)) (.cut 21 (placeAt Tryz.f40 21) (st_u94_21 y0 ((i64.wrap (y1 + 1))) y2)))) (.leaf (res_u94 0) (bo_u94 l_ i_ width_ length_ 0))) (by kernel_rfl) ?_
   refine ⟨fun c => ?_, fun c => ?_⟩
   ·rw [cond_t (show ((decide (y1 < (↑ (List.length y2.2.2.2) : Int)))) = true from c)] at h
    by_cases q : (0 ≤ y1) ∧ (y1 < (↑ (List.length y2.2.2.2) : Int)) ∧ ((f_u90 k (List.getD y2.2.2.2 y1.toNat T0.dflt)).isSome = true)
    ·rw [if_pos q] at h
     refine ⟨(conjC q.1 (conjC q.2.1 (conjC (cc_u90 k (List.getD y2.2.2.2 y1.toNat T0.dflt) q.2.2) conj0))), ?_⟩
     refine ⟨fun c => ?_, fun c => ?_⟩
     ·rw [cond_t (show ((decide ((v_u90 k (List.getD y2.2.2.2 y1.toNat T0.dflt)).2 ≥ y0))) = true from c)] at h
      cases h; exact ⟨rfl, rfl⟩
     ·rw [cond_f (show ((decide ((v_u90 k (List.getD y2.2.2.2 y1.toNat T0.dflt)).2 ≥ y0))) = false from c)] at h
      exact ih y0 ((i64.wrap (y1 + 1))) y2 _ h
    ·rw [if_neg q] at h; cases h
   ·rw [cond_f (show ((decide (y1 < (↑ (List.length y2.2.2.2) : Int)))) = false from c)] at h
    cases h; exact ⟨rfl, rfl⟩
theorem of_u94 (k : Nat) (l_ : List (T2).T) (i_ : Int) (width_ : Int) (length_ : Int) (r : R_u94) (h : f_u94 k l_ i_ width_ length_ = some r) : CC Tryz.prog 40 (args_u94 l_ i_ width_ length_) (bin_u94 l_ i_ width_ length_) (res_u94 r) (bo_u94 l_ i_ width_ length_ r) := by
 refine CC.of (fn := Tryz.f40) (by kernel_rfl) (by kernel_rfl) (by kernel_rfl) (by kernel_rfl) ?_
 unfold f_u94 at h
 refine Ev.tree hm (R := Rt) (K := (K_u94 k)) (l := []) (C := [(21, [.autoB [3, 11, 13] false []])]) (E := [.autoB [8] true []]) (n := 1000) (T := .need [(0 : Int) ≤ i_, i_ < (↑l_.length : Int)] (.test ((decide ((l_.getD i_.toNat T2.dflt).1 < (1 : Int)) || decide ((l_.getD i_.toNat T2.dflt).1 > (1000000 : Int)))) (.leaf (res_u94 1) (bo_u94 l_ i_ width_ length_ 1)) (.test (((l_.getD i_.toNat T2.dflt).2.1 != (0 : Int))) (.need [CC Tryz.prog 35 (args_u82 l_ i_ (l_.getD i_.toNat T2.dflt).2.1) (bin_u82 l_ i_ (l_.getD i_.toNat T2.dflt).2.1) (res_u82 (v_u82 k l_ i_ (l_.getD i_.toNat T2.dflt).2.1)) (bo_u82 l_ i_ (l_.getD i_.toNat T2.dflt).2.1 (v_u82 k l_ i_ (l_.getD i_.toNat T2.dflt).2.1))] (.test ((decide (v_u82 k l_ i_ (l_.getD i_.toNat T2.dflt).2.1 < (0 : Int)))) (.leaf (res_u94 7) (bo_u94 l_ i_ width_ length_ 7)) (.need [(0 : Int) ≤ v_u82 k l_ i_ (l_.getD i_.toNat T2.dflt).2.1, v_u82 k l_ i_ (l_.getD i_.toNat T2.dflt).2.1 < (↑l_.length : Int)] (.need [(0 : Int) ≤ v_u82 k l_ i_ (l_.getD i_.toNat T2.dflt).2.1, v_u82 k l_ i_ (l_.getD i_.toNat T2.dflt).2.1 < (↑l_.length : Int), CC Tryz.prog 43 (args_u85 (l_.getD (Int.toNat (v_u82 k l_ i_ (l_.getD i_.toNat T2.dflt).2.1)) T2.dflt).2.2.2.2.2) (bin_u85 (l_.getD (Int.toNat (v_u82 k l_ i_ (l_.getD i_.toNat T2.dflt).2.1)) T2.dflt).2.2.2.2.2) (res_u85 (v_u85 k (l_.getD (Int.toNat (v_u82 k l_ i_ (l_.getD i_.toNat T2.dflt).2.1)) T2.dflt).2.2.2.2.2)) (bo_u85 (l_.getD (Int.toNat (v_u82 k l_ i_ (l_.getD i_.toNat T2.dflt).2.1)) T2.dflt).2.2.2.2.2 (v_u85 k (l_.getD (Int.toNat (v_u82 k l_ i_ (l_.getD i_.toNat T2.dflt).2.1)) T2.dflt).2.2.2.2.2))] (.test ((decide ((l_.getD i_.toNat T2.dflt).2.2.1 < (0 : Int)) || decide ((l_.getD i_.toNat T2.dflt).2.2.2.1 < (1 : Int)) || decide ((l_.getD i_.toNat T2.dflt).2.2.1 > (l_.getD (Int.toNat (v_u82 k l_ i_ (l_.getD i_.toNat T2.dflt).2.1)) T2.dflt).2.2.2.1) || decide ((l_.getD i_.toNat T2.dflt).2.2.2.1 > i64.wrap ((l_.getD (Int.toNat (v_u82 k l_ i_ (l_.getD i_.toNat T2.dflt).2.1)) T2.dflt).2.2.2.1 - (l_.getD i_.toNat T2.dflt).2.2.1)))) (.leaf (res_u94 20) (bo_u94 l_ i_ width_ length_ 20)) (.need [CC Tryz.prog 54 (args_u68 (l_.getD i_.toNat T2.dflt).2.2.2.2.2) (bin_u68 (l_.getD i_.toNat T2.dflt).2.2.2.2.2) (res_u68 (v_u68 k (l_.getD i_.toNat T2.dflt).2.2.2.2.2)) (bo_u68 (l_.getD i_.toNat T2.dflt).2.2.2.2.2 (v_u68 k (l_.getD i_.toNat T2.dflt).2.2.2.2.2))] (.test ((v_u68 k (l_.getD i_.toNat T2.dflt).2.2.2.2.2 != (0 : Int))) (.leaf (res_u94 (v_u68 k (l_.getD i_.toNat T2.dflt).2.2.2.2.2)) (bo_u94 l_ i_ width_ length_ (v_u68 k (l_.getD i_.toNat T2.dflt).2.2.2.2.2))) (.test (((↑ (List.length (l_.getD i_.toNat T2.dflt).2.2.2.2.2) : Int) == (0 : Int))) (.leaf (res_u94 10) (bo_u94 l_ i_ width_ length_ 10)) (.need [CC Tryz.prog 61 (args_u71 (l_.getD i_.toNat T2.dflt).2.2.2.2.2) (bin_u71 (l_.getD i_.toNat T2.dflt).2.2.2.2.2) (res_u71 (v_u71 k (l_.getD i_.toNat T2.dflt).2.2.2.2.2)) (bo_u71 (l_.getD i_.toNat T2.dflt).2.2.2.2.2 (v_u71 k (l_.getD i_.toNat T2.dflt).2.2.2.2.2))] (.test ((!v_u71 k (l_.getD i_.toNat T2.dflt).2.2.2.2.2)) (.leaf (res_u94 12) (bo_u94 l_ i_ width_ length_ 12)) (.cut 21 (placeAt Tryz.f40 21) (st_u94_21 ((v_u85 k (l_.getD (Int.toNat (v_u82 k l_ i_ (l_.getD i_.toNat T2.dflt).2.1)) T2.dflt).2.2.2.2.2)) 0 ((l_.getD i_.toNat T2.dflt).2.2))))))))))))) (.test ((decide ((l_.getD i_.toNat T2.dflt).2.2.1 < (0 : Int)) || decide ((l_.getD i_.toNat T2.dflt).2.2.2.1 < (1 : Int)) || decide ((l_.getD i_.toNat T2.dflt).2.2.1 > width_) || decide ((l_.getD i_.toNat T2.dflt).2.2.2.1 > i64.wrap (width_ - (l_.getD i_.toNat T2.dflt).2.2.1)))) (.leaf (res_u94 20) (bo_u94 l_ i_ width_ length_ 20)) (.need [CC Tryz.prog 54 (args_u68 (l_.getD i_.toNat T2.dflt).2.2.2.2.2) (bin_u68 (l_.getD i_.toNat T2.dflt).2.2.2.2.2) (res_u68 (v_u68 k (l_.getD i_.toNat T2.dflt).2.2.2.2.2)) (bo_u68 (l_.getD i_.toNat T2.dflt).2.2.2.2.2 (v_u68 k (l_.getD i_.toNat T2.dflt).2.2.2.2.2))] (.test ((v_u68 k (l_.getD i_.toNat T2.dflt).2.2.2.2.2 != (0 : Int))) (.leaf (res_u94 (v_u68 k (l_.getD i_.toNat T2.dflt).2.2.2.2.2)) (bo_u94 l_ i_ width_ length_ (v_u68 k (l_.getD i_.toNat T2.dflt).2.2.2.2.2))) (.test (((↑ (List.length (l_.getD i_.toNat T2.dflt).2.2.2.2.2) : Int) == (0 : Int))) (.leaf (res_u94 10) (bo_u94 l_ i_ width_ length_ 10)) (.need [CC Tryz.prog 61 (args_u71 (l_.getD i_.toNat T2.dflt).2.2.2.2.2) (bin_u71 (l_.getD i_.toNat T2.dflt).2.2.2.2.2) (res_u71 (v_u71 k (l_.getD i_.toNat T2.dflt).2.2.2.2.2)) (bo_u71 (l_.getD i_.toNat T2.dflt).2.2.2.2.2 (v_u71 k (l_.getD i_.toNat T2.dflt).2.2.2.2.2))] (.test ((!v_u71 k (l_.getD i_.toNat T2.dflt).2.2.2.2.2)) (.leaf (res_u94 12) (bo_u94 l_ i_ width_ length_ 12)) (.cut 21 (placeAt Tryz.f40 21) (st_u94_21 length_ 0 ((l_.getD i_.toNat T2.dflt).2.2)))))))))))) (by kernel_rfl) ?_
 by_cases q : ((0 : Int) ≤ i_) ∧ (i_ < (↑l_.length : Int))
 ·rw [if_pos q] at h
  refine ⟨(conjC q.1 (conjC q.2 conj0)), ?_⟩
  refine ⟨fun c => ?_, fun c => ?_⟩
  ·rw [cond_t (show ((decide ((l_.getD i_.toNat T2.dflt).1 < (1 : Int)) || decide ((l_.getD i_.toNat T2.dflt).1 > (1000000 : Int)))) = true from c)] at h
   cases h; exact ⟨rfl, rfl⟩
  ·rw [cond_f (show ((decide ((l_.getD i_.toNat T2.dflt).1 < (1 : Int)) || decide ((l_.getD i_.toNat T2.dflt).1 > (1000000 : Int)))) = false from c)] at h
   refine ⟨fun c => ?_, fun c => ?_⟩
   ·rw [cond_t (show (((l_.getD i_.toNat T2.dflt).2.1 != (0 : Int))) = true from c)] at h
    by_cases q : ((f_u82 k l_ i_ (l_.getD i_.toNat T2.dflt).2.1).isSome = true)
    ·rw [if_pos q] at h
     refine ⟨(conjC (cc_u82 k l_ i_ (l_.getD i_.toNat T2.dflt).2.1 q) conj0), ?_⟩
     refine ⟨fun c => ?_, fun c => ?_⟩
     ·rw [cond_t (show ((decide (v_u82 k l_ i_ (l_.getD i_.toNat T2.dflt).2.1 < (0 : Int)))) = true from c)] at h
      cases h; exact ⟨rfl, rfl⟩
     ·rw [cond_f (show ((decide (v_u82 k l_ i_ (l_.getD i_.toNat T2.dflt).2.1 < (0 : Int)))) = false from c)] at h
      by_cases q : ((0 : Int) ≤ v_u82 k l_ i_ (l_.getD i_.toNat T2.dflt).2.1) ∧ (v_u82 k l_ i_ (l_.getD i_.toNat T2.dflt).2.1 < (↑l_.length : Int))
      ·rw [if_pos q] at h
       refine ⟨(conjC q.1 (conjC q.2 conj0)), ?_⟩
       by_cases q : ((0 : Int) ≤ v_u82 k l_ i_ (l_.getD i_.toNat T2.dflt).2.1) ∧ (v_u82 k l_ i_ (l_.getD i_.toNat T2.dflt).2.1 < (↑l_.length : Int)) ∧ ((f_u85 k (l_.getD (Int.toNat (v_u82 k l_ i_ (l_.getD i_.toNat T2.dflt).2.1)) T2.dflt).2.2.2.2.2).isSome = true)
       ·rw [if_pos q] at h
        refine ⟨(conjC q.1 (conjC q.2.1 (conjC (cc_u85 k (l_.getD (Int.toNat (v_u82 k l_ i_ (l_.getD i_.toNat T2.dflt).2.1)) T2.dflt).2.2.2.2.2 q.2.2) conj0))), ?_⟩
        refine ⟨fun c => ?_, fun c => ?_⟩
        ·rw [cond_t (show ((decide ((l_.getD i_.toNat T2.dflt).2.2.1 < (0 : Int)) || decide ((l_.getD i_.toNat T2.dflt).2.2.2.1 < (1 : Int)) || decide ((l_.getD i_.toNat T2.dflt).2.2.1 > (l_.getD (Int.toNat (v_u82 k l_ i_ (l_.getD i_.toNat T2.dflt).2.1)) T2.dflt).2.2.2.1) || decide ((l_.getD i_.toNat T2.dflt).2.2.2.1 > i64.wrap ((l_.getD (Int.toNat (v_u82 k l_ i_ (l_.getD i_.toNat T2.dflt).2.1)) T2.dflt).2.2.2.1 - (l_.getD i_.toNat T2.dflt).2.2.1)))) = true from c)] at h
         cases h; exact ⟨rfl, rfl⟩
        ·rw [cond_f (show ((decide ((l_.getD i_.toNat T2.dflt).2.2.1 < (0 : Int)) || decide ((l_.getD i_.toNat T2.dflt).2.2.2.1 < (1 : Int)) || decide ((l_.getD i_.toNat T2.dflt).2.2.1 > (l_.getD (Int.toNat (v_u82 k l_ i_ (l_.getD i_.toNat T2.dflt).2.1)) T2.dflt).2.2.2.1) || decide ((l_.getD i_.toNat T2.dflt).2.2.2.1 > i64.wrap ((l_.getD (Int.toNat (v_u82 k l_ i_ (l_.getD i_.toNat T2.dflt).2.1)) T2.dflt).2.2.2.1 - (l_.getD i_.toNat T2.dflt).2.2.1)))) = false from c)] at h
         by_cases q : ((f_u68 k (l_.getD i_.toNat T2.dflt).2.2.2.2.2).isSome = true)
         ·rw [if_pos q] at h
          refine ⟨(conjC (cc_u68 k (l_.getD i_.toNat T2.dflt).2.2.2.2.2 q) conj0), ?_⟩
          refine ⟨fun c => ?_, fun c => ?_⟩
          ·rw [cond_t (show ((v_u68 k (l_.getD i_.toNat T2.dflt).2.2.2.2.2 != (0 : Int))) = true from c)] at h
           cases h; exact ⟨rfl, rfl⟩
          ·rw [cond_f (show ((v_u68 k (l_.getD i_.toNat T2.dflt).2.2.2.2.2 != (0 : Int))) = false from c)] at h
           refine ⟨fun c => ?_, fun c => ?_⟩
           ·rw [cond_t (show (((↑ (List.length (l_.getD i_.toNat T2.dflt).2.2.2.2.2) : Int) == (0 : Int))) = true from c)] at h
            cases h; exact ⟨rfl, rfl⟩
           ·rw [cond_f (show (((↑ (List.length (l_.getD i_.toNat T2.dflt).2.2.2.2.2) : Int) == (0 : Int))) = false from c)] at h
            by_cases q : ((f_u71 k (l_.getD i_.toNat T2.dflt).2.2.2.2.2).isSome = true)
            ·rw [if_pos q] at h
             refine ⟨(conjC (cc_u71 k (l_.getD i_.toNat T2.dflt).2.2.2.2.2 q) conj0), ?_⟩
             refine ⟨fun c => ?_, fun c => ?_⟩
             ·rw [cond_t (show ((!v_u71 k (l_.getD i_.toNat T2.dflt).2.2.2.2.2)) = true from c)] at h
              cases h; exact ⟨rfl, rfl⟩
             ·rw [cond_f (show ((!v_u71 k (l_.getD i_.toNat T2.dflt).2.2.2.2.2)) = false from c)] at h
              exact (ev_u94 k l_ i_ width_ length_ k) ((v_u85 k (l_.getD (Int.toNat (v_u82 k l_ i_ (l_.getD i_.toNat T2.dflt).2.1)) T2.dflt).2.2.2.2.2)) 0 ((l_.getD i_.toNat T2.dflt).2.2) _ h
            ·rw [if_neg q] at h; cases h
         ·rw [if_neg q] at h; cases h
       ·rw [if_neg q] at h; cases h
      ·rw [if_neg q] at h; cases h
    ·rw [if_neg q] at h; cases h
   ·rw [cond_f (show (((l_.getD i_.toNat T2.dflt).2.1 != (0 : Int))) = false from c)] at h
    refine ⟨fun c => ?_, fun c => ?_⟩
    ·rw [cond_t (show ((decide ((l_.getD i_.toNat T2.dflt).2.2.1 < (0 : Int)) || decide ((l_.getD i_.toNat T2.dflt).2.2.2.1 < (1 : Int)) || decide ((l_.getD i_.toNat T2.dflt).2.2.1 > width_) || decide ((l_.getD i_.toNat T2.dflt).2.2.2.1 > i64.wrap (width_ - (l_.getD i_.toNat T2.dflt).2.2.1)))) = true from c)] at h
     cases h; exact ⟨rfl, rfl⟩
    ·rw [cond_f (show ((decide ((l_.getD i_.toNat T2.dflt).2.2.1 < (0 : Int)) || decide ((l_.getD i_.toNat T2.dflt).2.2.2.1 < (1 : Int)) || decide ((l_.getD i_.toNat T2.dflt).2.2.1 > width_) || decide ((l_.getD i_.toNat T2.dflt).2.2.2.1 > i64.wrap (width_ - (l_.getD i_.toNat T2.dflt).2.2.1)))) = false from c)] at h
     by_cases q : ((f_u68 k (l_.getD i_.toNat T2.dflt).2.2.2.2.2).isSome = true)
     ·rw [if_pos q] at h
      refine ⟨(conjC (cc_u68 k (l_.getD i_.toNat T2.dflt).2.2.2.2.2 q) conj0), ?_⟩
      refine ⟨fun c => ?_, fun c => ?_⟩
      ·rw [cond_t (show ((v_u68 k (l_.getD i_.toNat T2.dflt).2.2.2.2.2 != (0 : Int))) = true from c)] at h
       cases h; exact ⟨rfl, rfl⟩
      ·rw [cond_f (show ((v_u68 k (l_.getD i_.toNat T2.dflt).2.2.2.2.2 != (0 : Int))) = false from c)] at h
       refine ⟨fun c => ?_, fun c => ?_⟩
       ·rw [cond_t (show (((↑ (List.length (l_.getD i_.toNat T2.dflt).2.2.2.2.2) : Int) == (0 : Int))) = true from c)] at h
        cases h; exact ⟨rfl, rfl⟩
       ·rw [cond_f (show (((↑ (List.length (l_.getD i_.toNat T2.dflt).2.2.2.2.2) : Int) == (0 : Int))) = false from c)] at h
        by_cases q : ((f_u71 k (l_.getD i_.toNat T2.dflt).2.2.2.2.2).isSome = true)
        ·rw [if_pos q] at h
         refine ⟨(conjC (cc_u71 k (l_.getD i_.toNat T2.dflt).2.2.2.2.2 q) conj0), ?_⟩
         refine ⟨fun c => ?_, fun c => ?_⟩
         ·rw [cond_t (show ((!v_u71 k (l_.getD i_.toNat T2.dflt).2.2.2.2.2)) = true from c)] at h
          cases h; exact ⟨rfl, rfl⟩
         ·rw [cond_f (show ((!v_u71 k (l_.getD i_.toNat T2.dflt).2.2.2.2.2)) = false from c)] at h
          exact (ev_u94 k l_ i_ width_ length_ k) length_ 0 ((l_.getD i_.toNat T2.dflt).2.2) _ h
        ·rw [if_neg q] at h; cases h
     ·rw [if_neg q] at h; cases h
 ·rw [if_neg q] at h; cases h
theorem cc_u94 (k : Nat) (l_ : List (T2).T) (i_ : Int) (width_ : Int) (length_ : Int) (h : (f_u94 k l_ i_ width_ length_).isSome = true) : CC Tryz.prog 40 (args_u94 l_ i_ width_ length_) (bin_u94 l_ i_ width_ length_) (res_u94 (v_u94 k l_ i_ width_ length_)) (bo_u94 l_ i_ width_ length_ (v_u94 k l_ i_ width_ length_)) := by
 cases e : f_u94 k l_ i_ width_ length_ with
 | none => rw [e] at h; cases h
 | some r => rw [show v_u94 k l_ i_ width_ length_ = r by simp [v_u94, e]]; exact of_u94 k l_ i_ width_ length_ r e

end
end Go.AM
namespace Go.AM
open Go Go.Proofs Go.IntKind
set_option linter.unusedVariables false
noncomputable section
abbrev R_u79 : Type := Int
def res_u79 (r : R_u79) : AV := .r (.v (.int .i64 r))
def bo_u79 (l_ : List (T2).T) (width_ : Int) (length_ : Int) (r : R_u79) : List (Nat × Blk) := []
def args_u79 (l_ : List (T2).T) (width_ : Int) (length_ : Int) : List AV := [.r (.ro T2 l_), .r (.v (.int .i64 width_)), .r (.v (.int .i64 length_))]
def bin_u79 (l_ : List (T2).T) (width_ : Int) (length_ : Int) : List Blk := []
def st_u79_6 (y0 : List (T2).T) (y1 : Int) (y2 : Int) (y3 : Int) : St := ⟨mkS 119 [(0, .r (.ro T2 y0)), (1, .r (.v (.int .i64 y1))), (2, .r (.v (.int .i64 y2))), (7, .r (.v (.int .i64 y3)))], []⟩
def st_u79_12 (y0 : List (T2).T) (y1 : Int) : St := ⟨mkS 119 [(0, .r (.ro T2 y0)), (9, .r (.v (.int .i64 y1)))], []⟩
def st_u79_17 (y0 : List (T2).T) (y1 : Int) : St := ⟨mkS 119 [(0, .r (.ro T2 y0)), (10, .r (.v (.int .i64 y1)))], []⟩
def st_u79_20 (y0 : List (T2).T) (y1 : Int) (y2 : Int) : St := ⟨mkS 119 [(0, .r (.ro T2 y0)), (10, .r (.v (.int .i64 y1))), (11, .r (.v (.int .i64 y2)))], []⟩
mutual
def f_u79_6 (k : Nat) : Nat → List (T2).T → Int → Int → Int → Option R_u79
 | 0, _, _, _, _ => none
 | j + 1, y0, y1, y2, y3 =>
 bif (decide (y3 < (↑y0.length : Int))) then
 if ((f_u94 k y0 y3 y1 y2).isSome = true) then
 bif (v_u94 k y0 y3 y1 y2 != (0 : Int)) then
 some (v_u94 k y0 y3 y1 y2)
 else
 f_u79_6 k j y0 y1 y2 ((i64.wrap (y3 + 1)))
 else none
 else
 f_u79_12 k j y0 0
def f_u79_12 (k : Nat) : Nat → List (T2).T → Int → Option R_u79
 | 0, _, _ => none
 | j + 1, y0, y1 =>
 bif (decide (y1 < (↑y0.length : Int))) then
 if (0 ≤ y1) ∧ (y1 < (↑y0.length : Int)) ∧ ((f_u82 k y0 y1 (y0.getD y1.toNat T2.dflt).1).isSome = true) then
 bif (decide (v_u82 k y0 y1 (y0.getD y1.toNat T2.dflt).1 ≥ (0 : Int))) then
 some 6
 else
 f_u79_12 k j y0 ((i64.wrap (y1 + 1)))
 else none
 else
 f_u79_17 k j y0 0
def f_u79_17 (k : Nat) : Nat → List (T2).T → Int → Option R_u79
 | 0, _, _ => none
 | j + 1, y0, y1 =>
 bif (decide (y1 < (↑y0.length : Int))) then
 f_u79_20 k j y0 y1 0
 else
 some 0
def f_u79_20 (k : Nat) : Nat → List (T2).T → Int → Int → Option R_u79
 | 0, _, _, _ => none
 | j + 1, y0, y1, y2 =>
 bif (decide (y2 < y1)) then
 if (0 ≤ y1) ∧ (y1 < (↑y0.length : Int)) then
 if (0 ≤ y2) ∧ (y2 < (↑y0.length : Int)) then
 bif ((y0.getD y1.toNat T2.dflt).2.1 == (y0.getD y2.toNat T2.dflt).2.1 && decide ((y0.getD y1.toNat T2.dflt).2.2.1 < i64.wrap ((y0.getD y2.toNat T2.dflt).2.2.1 + (y0.getD y2.toNat T2.dflt).2.2.2.1)) && decide ((y0.getD y2.toNat T2.dflt).2.2.1 < i64.wrap ((y0.getD y1.toNat T2.dflt).2.2.1 + (y0.getD y1.toNat T2.dflt).2.2.2.1))) then
 if (0 ≤ y1) ∧ (y1 < (↑y0.length : Int)) ∧ (0 ≤ y2) ∧ (y2 < (↑y0.length : Int)) ∧ (((y0.getD y1.toNat T2.dflt).2.1 == (y0.getD y2.toNat T2.dflt).2.1 && decide ((y0.getD y1.toNat T2.dflt).2.2.1 < i64.wrap ((y0.getD y2.toNat T2.dflt).2.2.1 + (y0.getD y2.toNat T2.dflt).2.2.2.1)) && decide ((y0.getD y2.toNat T2.dflt).2.2.1 < i64.wrap ((y0.getD y1.toNat T2.dflt).2.2.1 + (y0.getD y1.toNat T2.dflt).2.2.2.1))) = true) ∧ ((f_u92 k (y0.getD y1.toNat T2.dflt).2.2.2.2.2 (y0.getD y2.toNat T2.dflt).2.2.2.2.2).isSome = true) then
 bif (true && v_u92 k (y0.getD y1.toNat T2.dflt).2.2.2.2.2 (y0.getD y2.toNat T2.dflt).2.2.2.2.2) then
 some 12
 else
 f_u79_20 k j y0 y1 ((i64.wrap (y2 + 1)))
 else none
 else
 if (0 ≤ y1) ∧ (y1 < (↑y0.length : Int)) ∧ (0 ≤ y2) ∧ (y2 < (↑y0.length : Int)) ∧ (((y0.getD y1.toNat T2.dflt).2.1 == (y0.getD y2.toNat T2.dflt).2.1 && decide ((y0.getD y1.toNat T2.dflt).2.2.1 < i64.wrap ((y0.getD y2.toNat T2.dflt).2.2.1 + (y0.getD y2.toNat T2.dflt).2.2.2.1)) && decide ((y0.getD y2.toNat T2.dflt).2.2.1 < i64.wrap ((y0.getD y1.toNat T2.dflt).2.2.1 + (y0.getD y1.toNat T2.dflt).2.2.2.1))) = false) then
 f_u79_20 k j y0 y1 ((i64.wrap (y2 + 1)))
 else none
 else none
 else none
 else
 f_u79_17 k j y0 ((i64.wrap (y1 + 1)))
end
def f_u79 (k : Nat) (l_ : List (T2).T) (width_ : Int) (length_ : Int) : Option R_u79 :=
 bif (decide (width_ < (1 : Int)) || decide (width_ > (12000 : Int)) || decide (length_ < (0 : Int)) || decide (length_ > (17179869184 : Int))) then
 some 1
 else
 bif (decide ((↑l_.length : Int) > (512 : Int))) then
 some 8
 else
 f_u79_6 k k l_ width_ length_ 0
def v_u79 (k : Nat) (l_ : List (T2).T) (width_ : Int) (length_ : Int) : R_u79 := (f_u79 k l_ width_ length_).getD 0
def K_u79 (k : Nat) : Calld := ⟨fun g xs => match g with
 | 35 => match xs with
  | [_, _, _] => some [false, false, false]
  | _ => none
 | 40 => match xs with
  | [_, _, _, _] => some [false, false, false, false]
  | _ => none
 | 41 => match xs with
  | [_, _] => some [false, false]
  | _ => none
 | _ => none, fun g xs bs => match g with
 | 35 => match xs, bs with
  | [.r (.ro tl__ ql_), .r (.v (.int .i64 n_)), .r (.v (.int .i64 id_))], [] => (castL tl__ T2 ql_).bind fun l_ => some (.one (res_u82 (v_u82 k l_ n_ id_), bo_u82 l_ n_ id_ (v_u82 k l_ n_ id_)))
  | _, _ => none
 | 40 => match xs, bs with
  | [.r (.ro tl__ ql_), .r (.v (.int .i64 i_)), .r (.v (.int .i64 width_)), .r (.v (.int .i64 length_))], [] => (castL tl__ T2 ql_).bind fun l_ => some (.one (res_u94 (v_u94 k l_ i_ width_ length_), bo_u94 l_ i_ width_ length_ (v_u94 k l_ i_ width_ length_)))
  | _, _ => none
 | 41 => match xs, bs with
  | [.r (.ro ta__ qa_), .r (.ro tb__ qb_)], [] => (castL ta__ T0 qa_).bind fun a_ => (castL tb__ T0 qb_).bind fun b_ => some (.one (res_u92 (v_u92 k a_ b_), bo_u92 a_ b_ (v_u92 k a_ b_)))
  | _, _ => none
 | _ => none⟩
theorem ev_u79 (k : Nat) (l_ : List (T2).T) (width_ : Int) (length_ : Int) : ∀ j, (∀ (y0 : List (T2).T) (y1 : Int) (y2 : Int) (y3 : Int) (r : R_u79), f_u79_6 k j y0 y1 y2 y3 = some r → Ev Tryz.prog Tryz.f20 0 (placeAt Tryz.f20 6) (st_u79_6 y0 y1 y2 y3) (res_u79 r) (bo_u79 l_ width_ length_ r)) ∧ (∀ (y0 : List (T2).T) (y1 : Int) (r : R_u79), f_u79_12 k j y0 y1 = some r → Ev Tryz.prog Tryz.f20 0 (placeAt Tryz.f20 12) (st_u79_12 y0 y1) (res_u79 r) (bo_u79 l_ width_ length_ r)) ∧ (∀ (y0 : List (T2).T) (y1 : Int) (r : R_u79), f_u79_17 k j y0 y1 = some r → Ev Tryz.prog Tryz.f20 0 (placeAt Tryz.f20 17) (st_u79_17 y0 y1) (res_u79 r) (bo_u79 l_ width_ length_ r)) ∧ (∀ (y0 : List (T2).T) (y1 : Int) (y2 : Int) (r : R_u79), f_u79_20 k j y0 y1 y2 = some r → Ev Tryz.prog Tryz.f20 0 (placeAt Tryz.f20 20) (st_u79_20 y0 y1 y2) (res_u79 r) (bo_u79 l_ width_ length_ r))
 | 0 => by
  refine ⟨?_, ?_, ?_, ?_⟩ <;> intros <;> rename_i h <;> simp [f_u79_6, f_u79_12, f_u79_17, f_u79_20] at h
 | j + 1 => by
  have ih := ev_u79 k l_ width_ length_ j
  refine ⟨?_, ?_, ?_, ?_⟩
  ·intro y0 y1 y2 y3 r h
   rw [f_u79_6] at h
   refine Ev.tree hm (R := Rt) (K := (K_u79 k)) (l := []) (C := [(6, [.autoB [0, 1, 2, 7] false []]), (12, [.autoB [0, 9] false []]), (17, [.autoB [0, 10] false []]), (20, [.autoB [0, 10, 11] false []])]) (E := [.autoB [6] true []]) (n := 1000) (T := .test ((decide (y3 < (↑y0.length : Int)))) (.need [CC Tryz.prog 40 (args_u94 y0 y3 y1 y2) (bin_u94 y0 y3 y1 y2) (res_u94 (v_u94 k y0 y3 y1 y2)) (bo_u94 y0 y3 y1 y2 (v_u94 k y0 y3 y1 y2))] (.test ((v_u94 k y0 y3 y1 y2 != (0 : Int))) (.leaf (res_u79 (v_u94 k y0 y3 y1 y2)) (bo_u79 l_ width_ length_ (v_u94 k y0 y3 y1 y2))) (.cut 6 (placeAt Tryz.f20 6) (st_u79_6 y0 y1 y2 ((i64.wrap (y3 + 1))))))) (.cut 12 (placeAt Tryz.f20 12) (st_u79_12 y0 0))) (by kernel_rfl) ?_
   refine ⟨fun c => ?_, fun c => ?_⟩
   ·rw [cond_t (show ((decide (y3 < (↑y0.length : Int)))) = true from c)] at h
    by_cases q : ((f_u94 k y0 y3 y1 y2).isSome = true)
    ·rw [if_pos q] at h
     refine ⟨(conjC (cc_u94 k y0 y3 y1 y2 q) conj0), ?_⟩
     refine ⟨fun c => ?_, fun c => ?_⟩
     ·rw [cond_t (show ((v_u94 k y0 y3 y1 y2 != (0 : Int))) = true from c)] at h
      cases h; exact ⟨rfl, rfl⟩
     ·rw [cond_f (show ((v_u94 k y0 y3 y1 y2 != (0 : Int))) = false from c)] at h
      exact ih.1 y0 y1 y2 ((i64.wrap (y3 + 1))) _ h
    ·rw [if_neg q] at h; cases h
   ·rw [cond_f (show ((decide (y3 < (↑y0.length : Int)))) = false from c)] at h
    exact ih.2.1 y0 0 _ h
  ·intro y0 y1 r h
   rw [f_u79_12] at h
   refine Ev.tree hm (R := Rt) (K := (K_u79 k)) (l := []) (C := [(6, [.autoB [0, 1, 2, 7] false []]), (12, [.autoB [0, 9] false []]), (17, [.autoB [0, 10] false []]), (20, [.autoB [0, 10, 11] false []])]) (E := [.autoB [6] true []]) (n := 1000) (T := .test ((decide (y1 < (↑y0.length : Int)))) (.need [0 ≤ y1, y1 < (↑y0.length : Int), CC Tryz.prog 35 (args_u82 y0 y1 (y0.getD y1.toNat T2.dflt).1) (bin_u82 y0 y1 (y0.getD y1.toNat T2.dflt).1) (res_u82 (v_u82 k y0 y1 (y0.getD y1.toNat T2.dflt).1)) (bo_u82 y0 y1 (y0.getD y1.toNat T2.dflt).1 (v_u82 k y0 y1 (y0.getD y1.toNat T2.dflt).1))] (.test ((decide (v_u82 k y0 y1 (y0.getD y1.toNat T2.dflt).1 ≥ (0 : Int)))) (.leaf (res_u79 6) (bo_u79 l_ width_ length_ 6)) (.cut 12 (placeAt Tryz.f20 12) (st_u79_12 y0 ((i64.wrap (y1 + 1))))))) (.cut 17 (placeAt Tryz.f20 17) (st_u79_17 y0 0))) (by kernel_rfl) ?_
   refine ⟨fun c => ?_, fun c => ?_⟩
   ·rw [cond_t (show ((decide (y1 < (↑y0.length : Int)))) = true from c)] at h
    by_cases q : (0 ≤ y1) ∧ (y1 < (↑y0.length : Int)) ∧ ((f_u82 k y0 y1 (y0.getD y1.toNat T2.dflt).1).isSome = true)
    ·rw [if_pos q] at h
     refine ⟨(conjC q.1 (conjC q.2.1 (conjC (cc_u82 k y0 y1 (y0.getD y1.toNat T2.dflt).1 q.2.2) conj0))), ?_⟩
     refine ⟨fun c => ?_, fun c => ?_⟩
     ·rw [cond_t (show ((decide (v_u82 k y0 y1 (y0.getD y1.toNat T2.dflt).1 ≥ (0 : Int)))) = true from c)] at h
      cases h; exact ⟨rfl, rfl⟩
     ·rw [cond_f (show ((decide (v_u82 k y0 y1 (y0.getD y1.toNat T2.dflt).1 ≥ (0 : Int)))) = false from c)] at h
      exact ih.2.1 y0 ((i64.wrap (y1 + 1))) _ h
    ·rw [if_neg q] at h; cases h
   ·rw [cond_f (show ((decide (y1 < (↑y0.length : Int)))) = false from c)] at h
    exact ih.2.2.1 y0 0 _ h
  ·intro y0 y1 r h
   rw [f_u79_17] at h
   refine Ev.tree hm (R := Rt) (K := (K_u79 k)) (l := []) (C := [(6, [.autoB [0, 1, 2, 7] false []]), (12, [.autoB [0, 9] false []]), (17, [.autoB [0, 10] false []]), (20, [.autoB [0, 10, 11] false []])]) (E := [.autoB [6] true []]) (n := 1000) (T := .test ((decide (y1 < (↑y0.length : Int)))) (.cut 20 (placeAt Tryz.f20 20) (st_u79_20 y0 y1 0)) (.leaf (res_u79 0) (bo_u79 l_ width_ length_ 0))) (by kernel_rfl) ?_
   refine ⟨fun c => ?_, fun c => ?_⟩
   ·rw [cond_t (show ((decide (y1 < (↑y0.length : Int)))) = true from c)] at h
    exact ih.2.2.2 y0 y1 0 _ h
   ·rw [cond_f (show ((decide (y1 < (↑y0.length : Int)))) = false from c)] at h
    cases h; exact ⟨rfl, rfl⟩
  ·intro y0 y1 y2 r h
   rw [f_u79_20] at h
   refine Ev.tree hm (R := Rt) (K := (K_u79 k)) (l := []) (C := [(6, [.autoB [0, 1, 2, 7] false []]), (12, [.autoB [0, 9] false []]), (17, [.autoB [0, 10] false []]), (20, [.autoB [0, 10, 11] false []])]) (E := [.autoB [6] true []]) (n := 1000) (T := .test ((decide (y2 < y1))) (.need [0 ≤ y1, y1 < (↑y0.length : Int)] (.need [0 ≤ y2, y2 < (↑y0.length : Int)] (.test (((y0.getD y1.toNat T2.dflt).2.1 == (y0.getD y2.toNat T2.dflt).2.1 && decide ((y0.getD y1.toNat T2.dflt).2.2.1 < i64.wrap ((y0.getD y2.toNat T2.dflt).2.2.1 + (y0.getD y2.toNat T2.dflt).2.2.2.1)) && decide ((y0.getD y2.toNat T2.dflt).2.2.1 < i64.wrap ((y0.getD y1.toNat T2.dflt).2.2.1 + (y0.getD y1.toNat T2.dflt).2.2.2.1)))) (.need [0 ≤ y1, y1 < (↑y0.length : Int), 0 ≤ y2, y2 < (↑y0.length : Int), ((y0.getD y1.toNat T2.dflt).2.1 == (y0.getD y2.toNat T2.dflt).2.1 && decide ((y0.getD y1.toNat T2.dflt).2.2.1 < i64.wrap ((y0.getD y2.toNat T2.dflt).2.2.1 + (y0.getD y2.toNat T2.dflt).2.2.2.1)) && decide ((y0.getD y2.toNat T2.dflt).2.2.1 < i64.wrap ((y0.getD y1.toNat T2.dflt).2.2.1 + (y0.getD y1.toNat T2.dflt).2.2.2.1))) = true, CC Tryz.prog 41 (args_u92 (y0.getD y1.toNat T2.dflt).2.2.2.2.2 (y0.getD y2.toNat T2.dflt).2.2.2.2.2) (bin_u92 (y0.getD y1.toNat T2.dflt).2.2.2.2.2 (y0.getD y2.toNat T2.dflt).2.2.2.2.2) (res_u92 (v_u92 k (y0.getD y1.toNat T2.dflt).2.2.2.2.2 (y0.getD y2.toNat T2.dflt).2.2.2.2.2)) (bo_u92 (y0.getD y1.toNat T2.dflt).2.2.2.2.2 (y0.getD y2.toNat T2.dflt).2.2.2.2.2 (v_u92 k (y0.getD y1.toNat T2.dflt).2.2.2.2.2 (y0.getD y2.toNat T2.dflt).2.2.2.2.2))] (.test ((true && v_u92 k (y0.getD y1.toNat T2.dflt).2.2.2.2.2 (y0.getD y2.toNat T2.dflt).2.2.2.2.2)) (.leaf (res_u79 12) (bo_u79 l_ width_ length_ 12)) (.cut 20 (placeAt Tryz.f20 20) (st_u79_20 y0 y1 ((i64.wrap (y2 + 1))))))) (.need [0 ≤ y1, y1 < (↑y0.length : Int), 0 ≤ y2, y2 < (↑y0.length : Int), ((y0.getD y1.toNat T2.dflt).2.1 == (y0.getD y2.toNat T2.dflt).2.1 && decide ((y0.getD y1.toNat T2.dflt).2.2.1 < i64.wrap ((y0.getD y2.toNat T2.dflt).2.2.1 + (y0.getD y2.toNat T2.dflt).2.2.2.1)) && decide ((y0.getD y2.toNat T2.dflt).2.2.1 < i64.wrap ((y0.getD y1.toNat T2.dflt).2.2.1 + (y0.getD y1.toNat T2.dflt).2.2.2.1))) = false] (.test (false) (.leaf (.r (.v (.int .i64 12))) []) (.cut 20 (placeAt Tryz.f20 20) (st_u79_20 y0 y1 ((i64.wrap (y2 + 1)))))))))) (.cut 17 (placeAt Tryz.f20 17) (st_u79_17 y0 ((i64.wrap (y1 + 1)))))) (by kernel_rfl) ?_
   refine ⟨fun c => ?_, fun c => ?_⟩
   ·rw [cond_t (show ((decide (y2 < y1))) = true from c)] at h
    by_cases q : (0 ≤ y1) ∧ (y1 < (↑y0.length : Int))
    ·rw [if_pos q] at h
     refine ⟨(conjC q.1 (conjC q.2 conj0)), ?_⟩
     by_cases q : (0 ≤ y2) ∧ (y2 < (↑y0.length : Int))
     ·rw [if_pos q] at h
      refine ⟨(conjC q.1 (conjC q.2 conj0)), ?_⟩
      refine ⟨fun c => ?_, fun c => ?_⟩
      ·rw [cond_t (show (((y0.getD y1.toNat T2.dflt).2.1 == (y0.getD y2.toNat T2.dflt).2.1 && decide ((y0.getD y1.toNat T2.dflt).2.2.1 < i64.wrap ((y0.getD y2.toNat T2.dflt).2.2.1 + (y0.getD y2.toNat T2.dflt).2.2.2.1)) && decide ((y0.getD y2.toNat T2.dflt).2.2.1 < i64.wrap ((y0.getD y1.toNat T2.dflt).2.2.1 + (y0.getD y1.toNat T2.dflt).2.2.2.1)))) = true from c)] at h
       by_cases q : (0 ≤ y1) ∧ (y1 < (↑y0.length : Int)) ∧ (0 ≤ y2) ∧ (y2 < (↑y0.length : Int)) ∧ (((y0.getD y1.toNat T2.dflt).2.1 == (y0.getD y2.toNat T2.dflt).2.1 && decide ((y0.getD y1.toNat T2.dflt).2.2.1 < i64.wrap ((y0.getD y2.toNat T2.dflt).2.2.1 + (y0.getD y2.toNat T2.dflt).2.2.2.1)) && decide ((y0.getD y2.toNat T2.dflt).2.2.1 < i64.wrap ((y0.getD y1.toNat T2.dflt).2.2.1 + (y0.getD y1.toNat T2.dflt).2.2.2.1))) = true) ∧ ((f_u92 k (y0.getD y1.toNat T2.dflt).2.2.2.2.2 (y0.getD y2.toNat T2.dflt).2.2.2.2.2).isSome = true)
       ·rw [if_pos q] at h
        refine ⟨(conjC q.1 (conjC q.2.1 (conjC q.2.2.1 (conjC q.2.2.2.1 (conjC q.2.2.2.2.1 (conjC (cc_u92 k (y0.getD y1.toNat T2.dflt).2.2.2.2.2 (y0.getD y2.toNat T2.dflt).2.2.2.2.2 q.2.2.2.2.2) conj0)))))), ?_⟩
        refine ⟨fun c => ?_, fun c => ?_⟩
        ·rw [cond_t (show ((true && v_u92 k (y0.getD y1.toNat T2.dflt).2.2.2.2.2 (y0.getD y2.toNat T2.dflt).2.2.2.2.2)) = true from c)] at h
         cases h; exact ⟨rfl, rfl⟩
        ·rw [cond_f (show ((true && v_u92 k (y0.getD y1.toNat T2.dflt).2.2.2.2.2 (y0.getD y2.toNat T2.dflt).2.2.2.2.2)) = false from c)] at h
         exact ih.2.2.2 y0 y1 ((i64.wrap (y2 + 1))) _ h
       ·rw [if_neg q] at h; cases h
      ·rw [cond_f (show (((y0.getD y1.toNat T2.dflt).2.1 == (y0.getD y2.toNat T2.dflt).2.1 && decide ((y0.getD y1.toNat T2.dflt).2.2.1 < i64.wrap ((y0.getD y2.toNat T2.dflt).2.2.1 + (y0.getD y2.toNat T2.dflt).2.2.2.1)) && decide ((y0.getD y2.toNat T2.dflt).2.2.1 < i64.wrap ((y0.getD y1.toNat T2.dflt).2.2.1 + (y0.getD y1.toNat T2.dflt).2.2.2.1)))) = false from c)] at h
       by_cases q : (0 ≤ y1) ∧ (y1 < (↑y0.length : Int)) ∧ (0 ≤ y2) ∧ (y2 < (↑y0.length : Int)) ∧ (((y0.getD y1.toNat T2.dflt).2.1 == (y0.getD y2.toNat T2.dflt).2.1 && decide ((y0.getD y1.toNat T2.dflt).2.2.1 < i64.wrap ((y0.getD y2.toNat T2.dflt).2.2.1 + (y0.getD y2.toNat T2.dflt).2.2.2.1)) && decide ((y0.getD y2.toNat T2.dflt).2.2.1 < i64.wrap ((y0.getD y1.toNat T2.dflt).2.2.1 + (y0.getD y1.toNat T2.dflt).2.2.2.1))) = false)
       ·rw [if_pos q] at h
        refine ⟨(conjC q.1 (conjC q.2.1 (conjC q.2.2.1 (conjC q.2.2.2.1 (conjC q.2.2.2.2 conj0))))), ?_⟩
        refine ⟨fun c => ?_, fun c => ?_⟩
        ·cases c
        exact ih.2.2.2 y0 y1 ((i64.wrap (y2 + 1))) _ h
       ·rw [if_neg q] at h; cases h
     ·rw [if_neg q] at h; cases h
    ·rw [if_neg q] at h; cases h
   ·rw [cond_f (show ((decide (y2 < y1))) = false from c)] at h
    exact ih.2.2.1 y0 ((i64.wrap (y1 + 1))) _ h
theorem of_u79 (k : Nat) (l_ : List (T2).T) (width_ : Int) (length_ : Int) (r : R_u79) (h : f_u79 k l_ width_ length_ = some r) : CC Tryz.prog 20 (args_u79 l_ width_ length_) (bin_u79 l_ width_ length_) (res_u79 r) (bo_u79 l_ width_ length_ r) := by
 refine CC.of (fn := Tryz.f20) (by kernel_rfl) (by kernel_rfl) (by kernel_rfl) (by kernel_rfl) ?_
 unfold f_u79 at h
 refine Ev.tree hm (R := Rt) (K := (K_u79 k)) (l := []) (C := [(6, [.autoB [0, 1, 2, 7] false []]), (12, [.autoB [0, 9] false []]), (17, [.autoB [0, 10] false []]), (20, [.autoB [0, 10, 11] false []])]) (E := [.autoB [6] true []]) (n := 1000) (T := .test ((decide (width_ < (1 : Int)) || decide (width_ > (12000 : Int)) || decide (length_ < (0 : Int)) || decide (length_ > (17179869184 : Int)))) (.leaf (res_u79 1) (bo_u79 l_ width_ length_ 1)) (.test ((decide ((↑l_.length : Int) > (512 : Int)))) (.leaf (res_u79 8) (bo_u79 l_ width_ length_ 8)) (.cut 6 (placeAt Tryz.f20 6) (st_u79_6 l_ width_ length_ 0)))) (by kernel_rfl) ?_
 refine ⟨fun c => ?_, fun c => ?_⟩
 ·rw [cond_t (show ((decide (width_ < (1 : Int)) || decide (width_ > (12000 : Int)) || decide (length_ < (0 : Int)) || decide (length_ > (17179869184 : Int)))) = true from c)] at h
  cases h; exact ⟨rfl, rfl⟩
 ·rw [cond_f (show ((decide (width_ < (1 : Int)) || decide (width_ > (12000 : Int)) || decide (length_ < (0 : Int)) || decide (length_ > (17179869184 : Int)))) = false from c)] at h
  refine ⟨fun c => ?_, fun c => ?_⟩
  ·rw [cond_t (show ((decide ((↑l_.length : Int) > (512 : Int)))) = true from c)] at h
   cases h; exact ⟨rfl, rfl⟩
  ·rw [cond_f (show ((decide ((↑l_.length : Int) > (512 : Int)))) = false from c)] at h
   exact (ev_u79 k l_ width_ length_ k).1 l_ width_ length_ 0 _ h
theorem cc_u79 (k : Nat) (l_ : List (T2).T) (width_ : Int) (length_ : Int) (h : (f_u79 k l_ width_ length_).isSome = true) : CC Tryz.prog 20 (args_u79 l_ width_ length_) (bin_u79 l_ width_ length_) (res_u79 (v_u79 k l_ width_ length_)) (bo_u79 l_ width_ length_ (v_u79 k l_ width_ length_)) := by
 cases e : f_u79 k l_ width_ length_ with
 | none => rw [e] at h; cases h
 | some r => rw [show v_u79 k l_ width_ length_ = r by simp [v_u79, e]]; exact of_u79 k l_ width_ length_ r e

end
end Go.AM
namespace Go.AM
open Go Go.Proofs Go.IntKind

theorem ref42_one_21 (k : Nat) (n : Int) (c : Ch) (hm : goods c.2.2.2) (hl : c.2.2.2.length ≤ 256) : ∀ (d i j : Nat), i + d = c.2.2.2.length → d < j →
  f_u94_21 k j n (i : Int) c = some (if fitsIn n (c.2.2.2.drop i) then 0 else 21) := by
 intro d
 induction d with
 | zero =>
  intro i j hi hj
  obtain ⟨j, rfl⟩ : ∃ q, j = q + 1 := ⟨j - 1, by omega⟩
  rw [f_u94_21, decide_eq_false (by omega : ¬ (i : Int) < (c.2.2.2.length : Int)), cond_false, List.drop_of_length_le (by omega), if_pos (by trivial)]
 | succ d ih =>
  intro i j hi hj
  obtain ⟨j, rfl⟩ : ∃ q, j = q + 1 := ⟨j - 1, by omega⟩
  have hg : good (c.2.2.2.getD i T0.dflt) := hm.mem _ (getD_mem' _ _ _ (by omega))
  rw [f_u94_21, decide_eq_true (by omega : (i : Int) < (c.2.2.2.length : Int)), cond_true, Int.toNat_natCast, ref42_ends_s k _ hg, ref42_ends_v k _ hg, if_pos ⟨by omega, by omega, rfl⟩, drop_cons' c.2.2.2 i T0.dflt (by omega), wrapS i (by omega)]
  show (bif decide (Go.AM.hi (c.2.2.2.getD i T0.dflt) ≥ n) then _ else _) = _
  by_cases h : Go.AM.hi (c.2.2.2.getD i T0.dflt) ≥ n
  ·rw [decide_eq_true h, cond_true, if_neg (fun e : fitsIn n (c.2.2.2.getD i T0.dflt :: c.2.2.2.drop (i + 1)) => by have := e.1; omega)]
  ·rw [decide_eq_false h, cond_false, ih (i + 1) j (by omega) (by omega)]
   by_cases h2 : fitsIn n (c.2.2.2.drop (i + 1))
   ·rw [if_pos h2, if_pos (show fitsIn n (c.2.2.2.getD i T0.dflt :: c.2.2.2.drop (i + 1)) from ⟨by omega, h2⟩)]
   ·rw [if_neg h2, if_neg (fun e : fitsIn n (c.2.2.2.getD i T0.dflt :: c.2.2.2.drop (i + 1)) => h2 e.2)]
theorem ref42_one_tail (k : Nat) (hk : 2100 ≤ k) (c : Ch) (w n : Int) (hw : 0 ≤ w ∧ w ≤ 12000) :
  (bif (decide (c.1 < (0 : Int)) || decide (c.2.1 < (1 : Int)) || decide (c.1 > w) || decide (c.2.1 > i64.wrap (w - c.1))) then some 20
  else if ((f_u68 k c.2.2.2).isSome = true) then
   bif (v_u68 k c.2.2.2 != (0 : Int)) then some (v_u68 k c.2.2.2)
   else bif ((↑ (List.length c.2.2.2) : Int) == (0 : Int)) then some 10
   else if ((f_u71 k c.2.2.2).isSome = true) then
    bif (!v_u71 k c.2.2.2) then some 12
    else f_u94_21 k k n 0 c
   else none
  else none) = some (cutE c w n) := by
 unfold cutE
 rw [cut_test c w hw, ref13_Check_s k (by omega), ref13_Check_v k (by omega), Option.isSome_some, if_pos rfl, ref13_Single_s k hk, ref13_Single_v k hk, Option.isSome_some, if_pos rfl]
 by_cases h1 : c.1 < 0 ∨ c.2.1 < 1 ∨ c.1 > w ∨ c.2.1 > w - c.1
 ·rw [decide_eq_true h1, cond_true, if_pos h1]
 ·rw [decide_eq_false h1, cond_false, if_neg h1]
  by_cases h2 : chk c.2.2.2 = 0
  ·have hc := chk_zero.1 h2
   have hl := hc.len
   rw [show (chk c.2.2.2 != 0) = false by simp [h2], cond_false, if_neg (fun h : chk c.2.2.2 ≠ 0 => h h2)]
   by_cases h3 : c.2.2.2 = []
   ·rw [h3, if_pos rfl]; rfl
   ·rw [if_neg h3, show (((List.length c.2.2.2 : Nat) : Int) == 0) = false from beq_false_of_ne (fun e => h3 (List.length_eq_zero_iff.1 (by omega))), cond_false]
    cases h4 : singleS c.2.2.2
    ·rfl
    ·rw [Bool.not_true, cond_false, if_neg (by decide)]
     refine (ref42_one_21 k n c hc.goods hl c.2.2.2.length 0 k (by omega) (by omega)).trans ?_
     rw [List.drop_zero]
  ·rw [show (chk c.2.2.2 != 0) = true by simp [h2], cond_true, if_pos h2]
theorem ref42_one_s (k : Nat) (hk : 2100 ≤ k) (W L : Int) (hW : 0 ≤ W ∧ W ≤ 12000) (l : List Ro) (i : Nat) (hi : i < l.length) (hl : l.length ≤ 1000) (hp : Wl (l.take i)) : f_u94 k l (i : Int) W L = some (fitsS (l.take i) W L (l.getD i T2.dflt)) := by
 unfold f_u94 fitsS
 rw [if_pos ⟨by omega, by omega⟩, Int.toNat_natCast]
 have hlt : (l.take i).length = i := by rw [List.length_take]; omega
 obtain ⟨o, o1, o2, o3⟩ := ref42_Index_s k (l.take i) (l.drop i) (l.getD i T2.dflt).2.1 (by omega) (by omega)
 rw [List.take_append_drop, hlt] at o1 o2
 generalize hr : l.getD i T2.dflt = r at *
 by_cases h1 : r.1 < 1 ∨ r.1 > 1000000
 ·rw [if_pos h1, show (decide (r.1 < 1) || decide (r.1 > 1000000)) = true by simpa using h1, cond_true]
 ·rw [if_neg h1, show (decide (r.1 < 1) || decide (r.1 > 1000000)) = false by simp; omega, cond_false]
  have hs := hp.size (L := L) hW r.2.1
  by_cases h2 : r.2.1 = 0
  ·rw [show (r.2.1 != 0) = false by simp [h2], cond_false, if_neg (fun h : r.2.1 ≠ 0 ∧ look (l.take i) r.2.1 = none => h.1 h2)]
   unfold sizeS
   rw [if_pos h2]
   exact ref42_one_tail k hk r.2.2 W L hW
  ·rw [show (r.2.1 != 0) = true by simp [h2], cond_true, o1, o2, Option.isSome_some, if_pos rfl]
   cases e : look (l.take i) r.2.1 with
   | none =>
    rw [o3.none e, if_pos (show r.2.1 ≠ 0 ∧ (none : Option Ro) = none from ⟨h2, rfl⟩)]; rfl
   | some q =>
    obtain ⟨x, e1, e2, e3⟩ := o3.some e
    have hq := (hp q (look_some e).1).chk
    have e4 : l.getD x T2.dflt = q := by
     have := e3 T2.dflt
     rw [← this]
     have h5 := getD_app (l.take i) (l.drop i) x T2.dflt e2
     rw [List.take_append_drop] at h5
     exact h5
    have hx : (x : Int) < (l.length : Int) := by omega
    have hx0 : (0 : Int) ≤ (x : Int) := by omega
    rw [e1, if_neg (show ¬ (r.2.1 ≠ 0 ∧ some q = none) from fun h => nomatch h.2), Option.getD_some, decide_eq_false (by omega : ¬ (x : Int) < 0), cond_false, if_pos ⟨hx0, hx⟩, Int.toNat_natCast, e4, ref42_Long_s k hk _ hq, ref42_Long_v k hk _ hq, if_pos ⟨hx0, hx, rfl⟩]
    unfold sizeS
    rw [if_neg h2, e]
    unfold sizeS at hs
    rw [if_neg h2, e] at hs
    exact ref42_one_tail k hk r.2.2 _ _ hs
theorem ref42_one_v (k : Nat) (hk : 2100 ≤ k) (W L : Int) (hW : 0 ≤ W ∧ W ≤ 12000) (l : List Ro) (i : Nat) (hi : i < l.length) (hl : l.length ≤ 1000) (hp : Wl (l.take i)) : v_u94 k l (i : Int) W L = fitsS (l.take i) W L (l.getD i T2.dflt) := by
 unfold v_u94; rw [ref42_one_s k hk W L hW l i hi hl hp]; rfl

theorem ref42_Check_20 (k : Nat) (hk : 70000 ≤ k) (l : List Ro) (hl : Wl l) (hll : l.length ≤ 512) (i : Nat) (hi : i < l.length) : ∀ (d q m : Nat), q + d = i →
  f_u79_20 k (m + d + 1) l (i : Int) (q : Int) = if clash ((l.take i).drop q) (l.getD i T2.dflt) = true then some 12 else f_u79_17 k m l (i64.wrap ((i : Int) + 1)) := by
 intro d
 have hr : Small (l.getD i T2.dflt).2.2 := hl _ (getD_mem' _ _ _ (by omega))
 have hlt : (l.take i).length = i := by rw [List.length_take]; omega
 induction d with
 | zero =>
  intro q m hq
  rw [f_u79_20, decide_eq_false (by omega : ¬ (q : Int) < (i : Int)), cond_false, List.drop_of_length_le (by omega), if_neg (by unfold clash; rw [List.any_nil]; decide)]
 | succ d ih =>
  intro q m hq
  have hs : Small (l.getD q T2.dflt).2.2 := hl _ (getD_mem' _ _ _ (by omega))
  have hc : clash ((l.take i).drop q) (l.getD i T2.dflt) = (((l.getD i T2.dflt).2.1 == (l.getD q T2.dflt).2.1) && ovlS (l.getD i T2.dflt).2.2 (l.getD q T2.dflt).2.2 || clash ((l.take i).drop (q + 1)) (l.getD i T2.dflt)) := by
   have h5 := getD_app (l.take i) (l.drop i) q T2.dflt (by omega)
   rw [List.take_append_drop] at h5
   rw [h5]
   unfold clash
   rw [drop_cons' (l.take i) q T2.dflt (by omega), List.any_cons]
  obtain ⟨a1, a2, a3, a4⟩ := hr
  obtain ⟨b1, b2, b3, b4⟩ := hs
  rw [show m + (d + 1) + 1 = (m + d + 1) + 1 from rfl, f_u79_20, decide_eq_true (by omega : (q : Int) < (i : Int)), cond_true, if_pos ⟨by omega, by omega⟩, if_pos ⟨by omega, by omega⟩, Int.toNat_natCast, Int.toNat_natCast, hc, wrapS q (by omega), ih (q + 1) m (by omega)]
  generalize clash ((l.take i).drop (q + 1)) (l.getD i T2.dflt) = z
  generalize l.getD i T2.dflt = r at *
  generalize l.getD q T2.dflt = b at *
  rw [wrap_id (i := b.2.2.1 + b.2.2.2.1) (by omega) (by omega), wrap_id (i := r.2.2.1 + r.2.2.2.1) (by omega) (by omega)]
  unfold ovlS
  cases e : ((r.2.1 == b.2.1) && decide (r.2.2.1 < b.2.2.1 + b.2.2.2.1) && decide (b.2.2.1 < r.2.2.1 + r.2.2.2.1))
  ·rw [cond_false, if_pos ⟨by omega, by omega, by omega, by omega, rfl⟩]
   rw [show ((r.2.1 == b.2.1) && ((decide (r.2.2.1 < b.2.2.1 + b.2.2.2.1) && decide (b.2.2.1 < r.2.2.1 + r.2.2.2.1)) && meetS r.2.2.2.2.2 b.2.2.2.2.2)) = false by rw [← Bool.and_assoc, ← Bool.and_assoc, e, Bool.false_and], Bool.false_or]
  ·rw [cond_true, ref42_meet_s k hk _ _ a4 b4, ref42_meet_v k hk _ _ a4 b4, if_pos ⟨by omega, by omega, by omega, by omega, rfl, rfl⟩, Bool.true_and]
   rw [show ((r.2.1 == b.2.1) && ((decide (r.2.2.1 < b.2.2.1 + b.2.2.2.1) && decide (b.2.2.1 < r.2.2.1 + r.2.2.2.1)) && meetS r.2.2.2.2.2 b.2.2.2.2.2)) = meetS r.2.2.2.2.2 b.2.2.2.2.2 by rw [← Bool.and_assoc, ← Bool.and_assoc, e, Bool.true_and]]
   cases meetS r.2.2.2.2.2 b.2.2.2.2.2
   ·rw [cond_false, Bool.false_or]
   ·rfl
set_option maxRecDepth 20000 in
theorem ref42_Check_17 (k : Nat) (hk : 70000 ≤ k) (l : List Ro) (hl : Wl l) (hll : l.length ≤ 512) : ∀ (d i j : Nat), i + d = l.length → d * 514 < j →
  f_u79_17 k j l (i : Int) = some (if clashGo (l.take i) (l.drop i) = true then 12 else 0) := by
 intro d
 induction d with
 | zero =>
  intro i j hi hj
  obtain ⟨j, rfl⟩ : ∃ q, j = q + 1 := ⟨j - 1, by omega⟩
  rw [f_u79_17, decide_eq_false (by omega : ¬ (i : Int) < (l.length : Int)), cond_false, List.drop_of_length_le (by omega), clashGo, if_neg (by decide)]
 | succ d ih =>
  intro i j hi hj
  obtain ⟨j, rfl⟩ : ∃ q, j = (q + i + 1) + 1 := ⟨j - i - 2, by omega⟩
  have h20 := ref42_Check_20 k hk l hl hll i (by omega) i 0 j (by omega)
  rw [f_u79_17, decide_eq_true (by omega : (i : Int) < (l.length : Int)), cond_true]
  refine h20.trans ?_
  rw [List.drop_zero, wrapS i (by omega), ih (i + 1) j (by omega) (by omega), drop_cons' l i T2.dflt (by omega), clashGo, take_snoc l i T2.dflt (by omega)]
  cases clash (l.take i) (l.getD i T2.dflt)
  ·rw [if_neg (by decide), Bool.false_or]
  ·rfl
set_option maxRecDepth 20000 in
theorem ref42_Check_12 (k : Nat) (hk : 70000 ≤ k) (l : List Ro) (hl : Wl l) (hll : l.length ≤ 512) : ∀ (d i j : Nat), i + d = l.length → d + 1 + 263168 < j →
  f_u79_12 k j l (i : Int) = some (if dupGo (l.take i) (l.drop i) = true then 6 else if clashGo [] l = true then 12 else 0) := by
 intro d
 induction d with
 | zero =>
  intro i j hi hj
  obtain ⟨j, rfl⟩ : ∃ q, j = q + 1 := ⟨j - 1, by omega⟩
  have h17 := ref42_Check_17 k hk l hl hll l.length 0 j (by omega) (by omega)
  rw [f_u79_12, decide_eq_false (by omega : ¬ (i : Int) < (l.length : Int)), cond_false, List.drop_of_length_le (by omega), dupGo, if_neg (by decide)]
  exact h17
 | succ d ih =>
  intro i j hi hj
  obtain ⟨j, rfl⟩ : ∃ q, j = q + 1 := ⟨j - 1, by omega⟩
  have hlt : (l.take i).length = i := by rw [List.length_take]; omega
  obtain ⟨o, o1, o2, o3⟩ := ref42_Index_s k (l.take i) (l.drop i) (l.getD i T2.dflt).1 (by omega) (by omega)
  rw [List.take_append_drop, hlt] at o1 o2
  rw [f_u79_12, decide_eq_true (by omega : (i : Int) < (l.length : Int)), cond_true, Int.toNat_natCast, o1, o2, if_pos ⟨by omega, by omega, rfl⟩, drop_cons' l i T2.dflt (by omega), dupGo, wrapS i (by omega), ih (i + 1) j (by omega) (by omega), take_snoc l i T2.dflt (by omega)]
  cases e : look (l.take i) (l.getD i T2.dflt).1 with
  | none => rw [o3.none e]; rfl
  | some q =>
   obtain ⟨x, e1, _, _⟩ := o3.some e
   rw [e1, Option.getD_some, decide_eq_true (by omega : (x : Int) ≥ 0)]; rfl
theorem ref42_Check_6 (k : Nat) (hk : 70000 ≤ k) (l : List Ro) (W L : Int) (hW : 0 ≤ W ∧ W ≤ 12000) (hll : l.length ≤ 512) : ∀ (d i j : Nat), i + d = l.length → d + 2 + 512 + 263168 < j → Wl (l.take i) →
  f_u79_6 k j l W L (i : Int) = some (if errsGo W L (l.take i) (l.drop i) ≠ 0 then errsGo W L (l.take i) (l.drop i) else if dupGo [] l = true then 6 else if clashGo [] l = true then 12 else 0) := by
 intro d
 induction d with
 | zero =>
  intro i j hi hj hw
  obtain ⟨j, rfl⟩ : ∃ q, j = q + 1 := ⟨j - 1, by omega⟩
  rw [List.take_of_length_le (by omega : l.length ≤ i)] at hw
  have h12 := ref42_Check_12 k hk l hw hll l.length 0 j (by omega) (by omega)
  rw [f_u79_6, decide_eq_false (by omega : ¬ (i : Int) < (l.length : Int)), cond_false, List.drop_of_length_le (by omega), errsGo, if_neg (fun h => h rfl)]
  exact h12
 | succ d ih =>
  intro i j hi hj hw
  obtain ⟨j, rfl⟩ : ∃ q, j = q + 1 := ⟨j - 1, by omega⟩
  have ht := take_snoc l i T2.dflt (by omega)
  rw [f_u79_6, decide_eq_true (by omega : (i : Int) < (l.length : Int)), cond_true, ref42_one_s k (by omega) W L hW l i (by omega) (by omega) hw, ref42_one_v k (by omega) W L hW l i (by omega) (by omega) hw, Option.isSome_some, if_pos rfl, drop_cons' l i T2.dflt (by omega), errsGo, wrapS i (by omega)]
  by_cases h1 : fitsS (l.take i) W L (l.getD i T2.dflt) = 0
  ·have hw2 : Wl (l.take (i + 1)) := by rw [ht]; exact hw.snoc hW h1
   have := ih (i + 1) j (by omega) (by omega) hw2
   rw [h1]
   show f_u79_6 k j l W L ((i + 1 : Nat) : Int) = _
   rw [this, ht]
   rfl
  ·rw [show (fitsS (l.take i) W L (l.getD i T2.dflt) != 0) = true from bne_iff_ne.2 h1, cond_true, if_pos h1, if_pos h1]
theorem ref42_Check_s (k : Nat) (hk : 300000 ≤ k) (l : List Ro) (W L : Int) : f_u79 k l W L = some (checkS l W L) := by
 unfold f_u79 checkS
 by_cases h1 : W < 1 ∨ W > 12000 ∨ L < 0 ∨ L > 17179869184
 ·rw [if_pos h1, show (decide (W < (1 : Int)) || decide (W > (12000 : Int)) || decide (L < (0 : Int)) || decide (L > (17179869184 : Int))) = true by simp; omega]
  rfl
 ·rw [if_neg h1, show (decide (W < (1 : Int)) || decide (W > (12000 : Int)) || decide (L < (0 : Int)) || decide (L > (17179869184 : Int))) = false by simp; omega, cond_false]
  by_cases h2 : l.length > 512
  ·rw [if_pos h2, decide_eq_true (by omega : (l.length : Int) > 512)]
   rfl
  ·rw [if_neg h2, decide_eq_false (by omega : ¬ (l.length : Int) > 512), cond_false]
   have := ref42_Check_6 k (by omega) l W L (by omega) (by omega) l.length 0 k (by omega) (by omega) (fun r hr => by simp at hr)
   exact this
theorem ref42_Check_v (k : Nat) (hk : 300000 ≤ k) (l : List Ro) (W L : Int) : v_u79 k l W L = checkS l W L := by
 unfold v_u79; rw [ref42_Check_s k hk l W L]; rfl
end Go.AM
namespace Go.AM
open Go Go.IntKind

theorem look_left {a : List Ro} {id : Int} {q : Ro} (b : List Ro) (h : look a id = some q) : look (a ++ b) id = some q := by
 rw [look_append, h]; rfl
theorem size_left {a : List Ro} {W L id : Int} (b : List Ro) (h : id = 0 ∨ ∃ q, look a id = some q) : sizeS (a ++ b) W L id = sizeS a W L id := by
 unfold sizeS
 by_cases h0 : id = 0
 ·rw [if_pos h0, if_pos h0]
 ·rw [if_neg h0, if_neg h0]
  rcases h with h | ⟨q, h⟩
  ·exact absurd h h0
  ·rw [look_left b h, h]
structure RollOk (l : List Ro) (W L : Int) (r : Ro) : Prop where
 look : look l r.1 = some r
 pos : 1 ≤ r.1
 parent : r.2.1 = 0 ∨ ∃ q, Go.AM.look l r.2.1 = some q
 cut : CutOk r.2.2 (sizeS l W L r.2.1).1 (sizeS l W L r.2.1).2
theorem Okp.ro {W L : Int} {l : List Ro} (h : Okp W L l) : ∀ r ∈ l, RollOk l W L r := by
 induction h with
 | nil => intro r hr; simp at hr
 | snoc p r h f n c ih =>
  intro x hx
  rcases List.mem_append.1 hx with hx | hx
  ·obtain ⟨a, b, c, d⟩ := ih x hx
   refine ⟨look_left _ a, b, ?_, by rw [size_left _ c]; exact d⟩
   rcases c with c | ⟨q, c⟩
   ·exact .inl c
   ·exact .inr ⟨q, look_left _ c⟩
  ·rw [List.mem_singleton] at hx
   subst hx
   obtain ⟨a, b, c, d⟩ := f
   refine ⟨?_, a, ?_, by rw [size_left _ c]; exact d⟩
   ·rw [look_append, n, Option.none_or]; unfold Go.AM.look; simp
   ·rcases c with c | ⟨q, c⟩
    ·exact .inl c
    ·exact .inr ⟨q, look_left _ c⟩
inductive Anc (l : List Ro) : Nat → Int → Prop
 | root (n : Nat) : Anc l n 0
 | step (n : Nat) (id : Int) (r : Ro) (h0 : id ≠ 0) (h : look l id = some r) (a : Anc l n r.2.1) : Anc l (n + 1) id
theorem Anc.mono {l : List Ro} {n m : Nat} {id : Int} (h : Anc l n id) (hm : n ≤ m) : Anc l m id := by
 induction h generalizing m with
 | root n => exact .root m
 | step n id r h0 h a ih =>
  obtain ⟨m, rfl⟩ : ∃ q, m = q + 1 := ⟨m - 1, by omega⟩
  exact .step m id r h0 h (ih (by omega))
theorem Anc.left {l : List Ro} {n : Nat} {id : Int} (h : Anc l n id) (t : List Ro) : Anc (l ++ t) n id := by
 induction h with
 | root n => exact .root n
 | step n id r h0 h a ih => exact .step n id r h0 (look_left t h) ih
theorem Okp.anc {W L : Int} {l : List Ro} (h : Okp W L l) : ∀ r ∈ l, Anc l l.length r.1 := by
 induction h with
 | nil => intro r hr; simp at hr
 | snoc p r h f n c ih =>
  intro x hx
  rw [List.length_append, List.length_singleton]
  rcases List.mem_append.1 hx with hx | hx
  ·exact ((ih x hx).mono (by omega)).left _
  ·rw [List.mem_singleton] at hx
   subst hx
   obtain ⟨a, b, c, d⟩ := f
   refine .step p.length x.1 x (by omega) (by rw [look_append, n, Option.none_or]; unfold look; simp) ?_
   rcases c with c | ⟨q, c⟩
   ·rw [c]; exact .root _
   ·have := (ih q (look_some c).1).left [x]
    rw [(look_some c).2] at this
    exact this
theorem Reg.anc {W L : Int} {l : List Ro} (h : Reg l W L) {id : Int} (hi : id = 0 ∨ ∃ q, look l id = some q) : Anc l 512 id := by
 rcases hi with rfl | ⟨q, e⟩
 ·exact .root _
 ·have := h.ok.anc q (look_some e).1
  rw [(look_some e).2] at this
  exact this.mono h.num
theorem Reg.small {W L : Int} {l : List Ro} (h : Reg l W L) : ∀ (n : Nat) (id : Int), Anc l n id → 0 ≤ (sizeS l W L id).1 ∧ (sizeS l W L id).1 ≤ 12000 ∧ 0 ≤ (sizeS l W L id).2 ∧ (sizeS l W L id).2 ≤ 17179869184 := by
 intro n id ha
 have hw := h.w
 have hl := h.len
 induction ha with
 | root n => unfold sizeS; rw [if_pos rfl]; omega
 | step n id r h0 e a ih =>
  have ro := h.ok.ro r (look_some e).1
  obtain ⟨c1, c2, c3, c4, _⟩ := ro.cut
  have h1 : (sizeS l W L id) = (r.2.2.2.1, lenS r.2.2.2.2.2) := by unfold sizeS; rw [if_neg h0, e]
  rw [h1]
  have h2 := lenS_nonneg c4.goods
  have h3 := c4.tot
  refine ⟨?_, ?_, ?_, ?_⟩
  ·show 0 ≤ r.2.2.2.1; omega
  ·show r.2.2.2.1 ≤ _; omega
  ·show 0 ≤ lenS r.2.2.2.2.2; omega
  ·show lenS r.2.2.2.2.2 ≤ _; omega

def placeS (r : Ro) (p : Pt) : Pt := (r.2.1, (if r.2.2.2.2.1 = true then r.2.2.1 + r.2.2.2.1 - 1 - p.2.1 else r.2.2.1 + p.2.1), imgAt r.2.2.2.2.2 p.2.2)
def onS (l : List Ro) (W L : Int) (p : Pt) : Int :=
 if p.2.1 < 0 ∨ p.2.1 ≥ (sizeS l W L p.1).1 then 20 else if p.2.2 < 0 ∨ p.2.2 ≥ (sizeS l W L p.1).2 then 21 else 0
structure On (l : List Ro) (W L : Int) (p : Pt) : Prop where
 a0 : 0 ≤ p.2.1
 a1 : p.2.1 < (sizeS l W L p.1).1
 b0 : 0 ≤ p.2.2
 b1 : p.2.2 < (sizeS l W L p.1).2
theorem onS_zero {l : List Ro} {W L : Int} {p : Pt} : onS l W L p = 0 ↔ On l W L p := by
 unfold onS
 constructor
 ·intro h
  by_cases h1 : p.2.1 < 0 ∨ p.2.1 ≥ (sizeS l W L p.1).1
  ·rw [if_pos h1] at h; omega
  ·rw [if_neg h1] at h
   by_cases h2 : p.2.2 < 0 ∨ p.2.2 ≥ (sizeS l W L p.1).2
   ·rw [if_pos h2] at h; omega
   ·exact ⟨by omega, by omega, by omega, by omega⟩
 ·rintro ⟨h1, h2, h3, h4⟩
  rw [if_neg (by omega), if_neg (by omega)]
theorem imgAt_mem : ∀ {m : List Rn} {x : Int}, goods m → 0 ≤ x → x < lenS m → ∃ r ∈ m, lo r ≤ imgAt m x ∧ imgAt m x ≤ hi r
 | [], x, _, h0, h1 => by simp [lenS] at h1; omega
 | r :: t, x, ⟨g1, g2⟩, h0, h1 => by
  rw [lenS] at h1
  unfold imgAt
  by_cases h : x < r.2.1
  ·rw [if_pos h]
   exact ⟨r, by simp, img_mem h0 h⟩
  ·rw [if_neg h]
   obtain ⟨q, hq, a⟩ := imgAt_mem g2 (by omega : 0 ≤ x - r.2.1) (by omega)
   exact ⟨q, by simp [hq], a⟩
theorem fits_mem {n : Int} : ∀ {l : List Rn}, fitsIn n l → ∀ r ∈ l, hi r < n
 | [], _, r, h => by simp at h
 | u :: t, ⟨h1, h2⟩, r, hr => by
  rcases List.mem_cons.1 hr with rfl | hr
  ·exact h1
  ·exact fits_mem h2 r hr
theorem On.place {l : List Ro} {W L : Int} {p : Pt} {r : Ro} (hp : p.1 ≠ 0) (h : On l W L p) (e : look l p.1 = some r) (ro : RollOk l W L r) : On l W L (placeS r p) := by
 obtain ⟨a0, a1, b0, b1⟩ := h
 obtain ⟨c1, c2, c3, c4, c5, c6, c7⟩ := ro.cut
 have h1 : (sizeS l W L p.1) = (r.2.2.2.1, lenS r.2.2.2.2.2) := by unfold sizeS; rw [if_neg hp, e]
 rw [h1] at a1 b1
 have a1 : p.2.1 < r.2.2.2.1 := a1
 have b1 : p.2.2 < lenS r.2.2.2.2.2 := b1
 obtain ⟨x, hx, i1, i2⟩ := imgAt_mem c4.goods b0 b1
 have h2 := fits_mem c7 x hx
 obtain ⟨l1, l2, l3, l4⟩ := (c4.goods.mem x hx).lohi
 refine ⟨?_, ?_, ?_, ?_⟩
 ·show 0 ≤ (if r.2.2.2.2.1 = true then _ else _ : Int)
  split <;> omega
 ·show (if r.2.2.2.2.1 = true then _ else _ : Int) < (sizeS l W L r.2.1).1
  split <;> omega
 ·show 0 ≤ imgAt _ _; omega
 ·show imgAt _ _ < (sizeS l W L r.2.1).2; omega

def webS (l : List Ro) : Nat → Pt → Pt
 | 0, p => p
 | n + 1, p => if p.1 = 0 then p else match look l p.1 with
  | none => p
  | some r => webS l n (placeS r p)
end Go.AM
namespace Go.AM
open Go Go.Proofs Go.IntKind
set_option linter.unusedVariables false
noncomputable section
abbrev RA_u14 : Type := Int
def resA_u14 (r : RA_u14) : AV := .tup [.r (.v (Value.pointer none)), .r (.v (.int .i64 r))]
def boA_u14 (l_ : List (T2).T) (web_ : T5.T) (id_ : Int) (r : RA_u14) : List (Nat × Blk) := []
abbrev RB_u14 : Type := Int × Int × Int × List (T2).T × (List ((I).T × (I).T))
def resB_u14 (r : RB_u14) : AV := .tup [.ptr 0 0 0, .r (.v (.int .i64 r.1))]
def boB_u14 (l_ : List (T2).T) (web_ : T5.T) (id_ : Int) (r : RB_u14) : List (Nat × Blk) := [(0, .var 73 [.r (.v (.int .i64 r.2.1)), .r (.v (.int .i64 r.2.2.1)), .r (.ro T2 r.2.2.2.1), .own 1 0]), (0, .map false I I r.2.2.2.2)]
abbrev R_u14 : Type := RA_u14 ⊕ RB_u14
def res_u14 (r : R_u14) : AV := match r with
 | .inl a => resA_u14 a
 | .inr a => resB_u14 a
def bo_u14 (l_ : List (T2).T) (web_ : T5.T) (id_ : Int) (r : R_u14) : List (Nat × Blk) := match r with
 | .inl a => boA_u14 l_ web_ id_ a
 | .inr a => boB_u14 l_ web_ id_ a
def args_u14 (l_ : List (T2).T) (web_ : T5.T) (id_ : Int) : List AV := [.r (.ro T2 l_), .agg (rvs (enc T5 web_)), .r (.v (.int .i64 id_))]
def bin_u14 (l_ : List (T2).T) (web_ : T5.T) (id_ : Int) : List Blk := []
def f_u14 (k : Nat) (l_ : List (T2).T) (web_ : T5.T) (id_ : Int) : Option R_u14 :=
 bif (Sum.isLeft (v_u15 k l_ web_)) then
 if ((f_u15 k l_ web_).isSome = true) then
 bif (vA_u15 k l_ web_ == (0 : Int) && id_ != (0 : Int)) then
 none
 else
 if ((vA_u15 k l_ web_ == (0 : Int) && id_ != (0 : Int)) = false) then
 some ((.inl (vA_u15 k l_ web_)))
 else none
 else none
 else
 if ((f_u15 k l_ web_).isSome = true) then
 bif ((vB_u15 k l_ web_).1 == (0 : Int) && id_ != (0 : Int)) then
 if (((vB_u15 k l_ web_).1 == (0 : Int) && id_ != (0 : Int)) = true) ∧ ((f_u24 k (vB_u15 k l_ web_).2.1 (vB_u15 k l_ web_).2.2.1 (vB_u15 k l_ web_).2.2.2.1 (vB_u15 k l_ web_).2.2.2.2 id_).isSome = true) then
 bif (true && (!v_u24 k (vB_u15 k l_ web_).2.1 (vB_u15 k l_ web_).2.2.1 (vB_u15 k l_ web_).2.2.2.1 (vB_u15 k l_ web_).2.2.2.2 id_)) then
 some ((.inl 7))
 else
 some ((.inr (((vB_u15 k l_ web_).1, (vB_u15 k l_ web_).2.1, (vB_u15 k l_ web_).2.2.1, (vB_u15 k l_ web_).2.2.2.1, (vB_u15 k l_ web_).2.2.2.2))))
 else none
 else
 if (((vB_u15 k l_ web_).1 == (0 : Int) && id_ != (0 : Int)) = false) then
 some ((.inr (((vB_u15 k l_ web_).1, (vB_u15 k l_ web_).2.1, (vB_u15 k l_ web_).2.2.1, (vB_u15 k l_ web_).2.2.2.1, (vB_u15 k l_ web_).2.2.2.2))))
 else none
 else none
def v_u14 (k : Nat) (l_ : List (T2).T) (web_ : T5.T) (id_ : Int) : R_u14 := (f_u14 k l_ web_ id_).getD (.inl 0)
def vA_u14 (k : Nat) (l_ : List (T2).T) (web_ : T5.T) (id_ : Int) : RA_u14 := lft 0 (v_u14 k l_ web_ id_)
def vB_u14 (k : Nat) (l_ : List (T2).T) (web_ : T5.T) (id_ : Int) : RB_u14 := rgt ((0, 0, 0, [], [])) (v_u14 k l_ web_ id_)
def K_u14 (k : Nat) : Calld := ⟨fun g xs => match g with
 | 49 => match xs with
  | [.ptr _ _ _, _] => some [true, false]
  | _ => none
 | 39 => match xs with
  | [_, _] => some [false, false]
  | _ => none
 | _ => none, fun g xs bs => match g with
 | 49 => match xs, bs with
  | [.ptr 0 0 0, .r (.v (.int .i64 id_))], [.var 73 [.r (.v (.int .i64 g_0)), .r (.v (.int .i64 g_1)), .r (.ro tg_2_ qg_2), .own 1 0], .map false kg_3_ tg_3_ qg_3] => (castL tg_2_ T2 qg_2).bind fun g_2 => (castM kg_3_ tg_3_ I I qg_3).bind fun g_3 => some (.one (res_u24 (v_u24 k g_0 g_1 g_2 g_3 id_), bo_u24 g_0 g_1 g_2 g_3 id_ (v_u24 k g_0 g_1 g_2 g_3 id_)))
  | _, _ => none
 | 39 => match xs, bs with
  | [.r (.ro tl__ ql_), .agg qweb_], [] => (castL tl__ T2 ql_).bind fun l_ => (decS [] T5 qweb_).bind fun web_ => some (.two (v_u15 k l_ web_).isLeft (resA_u15 (vA_u15 k l_ web_), boA_u15 l_ web_ (vA_u15 k l_ web_)) (resB_u15 (vB_u15 k l_ web_), boB_u15 l_ web_ (vB_u15 k l_ web_)))
  | _, _ => none
 | _ => none⟩
theorem of_u14 (k : Nat) (l_ : List (T2).T) (web_ : T5.T) (id_ : Int) (r : R_u14) (h : f_u14 k l_ web_ id_ = some r) : CC Tryz.prog 30 (args_u14 l_ web_ id_) (bin_u14 l_ web_ id_) (res_u14 r) (bo_u14 l_ web_ id_ r) := by
 refine CC.of (fn := Tryz.f30) (by kernel_rfl) (by kernel_rfl) (by kernel_rfl) (by kernel_rfl) ?_
 unfold f_u14 at h
 refine Ev.tree hm (R := Rt) (K := (K_u14 k)) (l := []) (C := []) (E := [.autoB [6, 7] true []]) (n := 1000) (T := .test ((Sum.isLeft (v_u15 k l_ web_))) (.need [CC Tryz.prog 39 (args_u15 l_ web_) (bin_u15 l_ web_) (resA_u15 (vA_u15 k l_ web_)) (boA_u15 l_ web_ (vA_u15 k l_ web_))] (.test ((vA_u15 k l_ web_ == (0 : Int) && id_ != (0 : Int))) (.stuck 2009) (.need [(vA_u15 k l_ web_ == (0 : Int) && id_ != (0 : Int)) = false] (.test (false) (.leaf (.tup [.r (.v (Value.pointer none)), .r (.v (.int .i64 7))]) []) (.leaf (resA_u14 (vA_u15 k l_ web_)) (boA_u14 l_ web_ id_ (vA_u15 k l_ web_))))))) (.need [CC Tryz.prog 39 (args_u15 l_ web_) (bin_u15 l_ web_) (resB_u15 (vB_u15 k l_ web_)) (boB_u15 l_ web_ (vB_u15 k l_ web_))] (.test (((vB_u15 k l_ web_).1 == (0 : Int) && id_ != (0 : Int))) (.need [((vB_u15 k l_ web_).1 == (0 : Int) && id_ != (0 : Int)) = true, CC Tryz.prog 49 (args_u24 (vB_u15 k l_ web_).2.1 (vB_u15 k l_ web_).2.2.1 (vB_u15 k l_ web_).2.2.2.1 (vB_u15 k l_ web_).2.2.2.2 id_) (bin_u24 (vB_u15 k l_ web_).2.1 (vB_u15 k l_ web_).2.2.1 (vB_u15 k l_ web_).2.2.2.1 (vB_u15 k l_ web_).2.2.2.2 id_) (res_u24 (v_u24 k (vB_u15 k l_ web_).2.1 (vB_u15 k l_ web_).2.2.1 (vB_u15 k l_ web_).2.2.2.1 (vB_u15 k l_ web_).2.2.2.2 id_)) (bo_u24 (vB_u15 k l_ web_).2.1 (vB_u15 k l_ web_).2.2.1 (vB_u15 k l_ web_).2.2.2.1 (vB_u15 k l_ web_).2.2.2.2 id_ (v_u24 k (vB_u15 k l_ web_).2.1 (vB_u15 k l_ web_).2.2.1 (vB_u15 k l_ web_).2.2.2.1 (vB_u15 k l_ web_).2.2.2.2 id_))] (.test ((true && (!v_u24 k (vB_u15 k l_ web_).2.1 (vB_u15 k l_ web_).2.2.1 (vB_u15 k l_ web_).2.2.2.1 (vB_u15 k l_ web_).2.2.2.2 id_))) (.leaf (resA_u14 7) (boA_u14 l_ web_ id_ 7)) (.leaf (resB_u14 (((vB_u15 k l_ web_).1, (vB_u15 k l_ web_).2.1, (vB_u15 k l_ web_).2.2.1, (vB_u15 k l_ web_).2.2.2.1, (vB_u15 k l_ web_).2.2.2.2))) (boB_u14 l_ web_ id_ (((vB_u15 k l_ web_).1, (vB_u15 k l_ web_).2.1, (vB_u15 k l_ web_).2.2.1, (vB_u15 k l_ web_).2.2.2.1, (vB_u15 k l_ web_).2.2.2.2)))))) (.need [((vB_u15 k l_ web_).1 == (0 : Int) && id_ != (0 : Int)) = false] (.test (false) (.leaf (.tup [.r (.v (Value.pointer none)), .r (.v (.int .i64 7))]) []) (.leaf (resB_u14 (((vB_u15 k l_ web_).1, (vB_u15 k l_ web_).2.1, (vB_u15 k l_ web_).2.2.1, (vB_u15 k l_ web_).2.2.2.1, (vB_u15 k l_ web_).2.2.2.2))) (boB_u14 l_ web_ id_ (((vB_u15 k l_ web_).1, (vB_u15 k l_ web_).2.1, (vB_u15 k l_ web_).2.2.1, (vB_u15 k l_ web_).2.2.2.1, (vB_u15 k l_ web_).2.2.2.2))))))))) (by kernel_rfl) ?_
 refine ⟨fun c => ?_, fun c => ?_⟩
 ·rw [cond_t (show ((Sum.isLeft (v_u15 k l_ web_))) = true from c)] at h
  by_cases q : ((f_u15 k l_ web_).isSome = true)
  ·rw [if_pos q] at h
   refine ⟨(conjC (ccA_u15 k l_ web_ q (by assumption)) conj0), ?_⟩
   refine ⟨fun c => ?_, fun c => ?_⟩
   ·rw [cond_t (show ((vA_u15 k l_ web_ == (0 : Int) && id_ != (0 : Int))) = true from c)] at h
    cases h
   ·rw [cond_f (show ((vA_u15 k l_ web_ == (0 : Int) && id_ != (0 : Int))) = false from c)] at h
    by_cases q : ((vA_u15 k l_ web_ == (0 : Int) && id_ != (0 : Int)) = false)
    ·rw [if_pos q] at h
     refine ⟨(conjC q conj0), ?_⟩
     refine ⟨fun c => ?_, fun c => ?_⟩
     ·cases c
     cases h; exact ⟨rfl, rfl⟩
    ·rw [if_neg q] at h; cases h
  ·rw [if_neg q] at h; cases h
 ·rw [cond_f (show ((Sum.isLeft (v_u15 k l_ web_))) = false from c)] at h
  by_cases q : ((f_u15 k l_ web_).isSome = true)
  ·rw [if_pos q] at h
   refine ⟨(conjC (ccB_u15 k l_ web_ q (by assumption)) conj0), ?_⟩
   refine ⟨fun c => ?_, fun c => ?_⟩
   ·rw [cond_t (show (((vB_u15 k l_ web_).1 == (0 : Int) && id_ != (0 : Int))) = true from c)] at h
    by_cases q : (((vB_u15 k l_ web_).1 == (0 : Int) && id_ != (0 : Int)) = true) ∧ ((f_u24 k (vB_u15 k l_ web_).2.1 (vB_u15 k l_ web_).2.2.1 (vB_u15 k l_ web_).2.2.2.1 (vB_u15 k l_ web_).2.2.2.2 id_).isSome = true)
    ·rw [if_pos q] at h
     refine ⟨(conjC q.1 (conjC (cc_u24 k (vB_u15 k l_ web_).2.1 (vB_u15 k l_ web_).2.2.1 (vB_u15 k l_ web_).2.2.2.1 (vB_u15 k l_ web_).2.2.2.2 id_ q.2) conj0)), ?_⟩
     refine ⟨fun c => ?_, fun c => ?_⟩
     ·rw [cond_t (show ((true && (!v_u24 k (vB_u15 k l_ web_).2.1 (vB_u15 k l_ web_).2.2.1 (vB_u15 k l_ web_).2.2.2.1 (vB_u15 k l_ web_).2.2.2.2 id_))) = true from c)] at h
      cases h; exact ⟨rfl, rfl⟩
     ·rw [cond_f (show ((true && (!v_u24 k (vB_u15 k l_ web_).2.1 (vB_u15 k l_ web_).2.2.1 (vB_u15 k l_ web_).2.2.2.1 (vB_u15 k l_ web_).2.2.2.2 id_))) = false from c)] at h
      cases h; exact ⟨rfl, rfl⟩
    ·rw [if_neg q] at h; cases h
   ·rw [cond_f (show (((vB_u15 k l_ web_).1 == (0 : Int) && id_ != (0 : Int))) = false from c)] at h
    by_cases q : (((vB_u15 k l_ web_).1 == (0 : Int) && id_ != (0 : Int)) = false)
    ·rw [if_pos q] at h
     refine ⟨(conjC q conj0), ?_⟩
     refine ⟨fun c => ?_, fun c => ?_⟩
     ·cases c
     cases h; exact ⟨rfl, rfl⟩
    ·rw [if_neg q] at h; cases h
  ·rw [if_neg q] at h; cases h
theorem cc_u14 (k : Nat) (l_ : List (T2).T) (web_ : T5.T) (id_ : Int) (h : (f_u14 k l_ web_ id_).isSome = true) : CC Tryz.prog 30 (args_u14 l_ web_ id_) (bin_u14 l_ web_ id_) (res_u14 (v_u14 k l_ web_ id_)) (bo_u14 l_ web_ id_ (v_u14 k l_ web_ id_)) := by
 cases e : f_u14 k l_ web_ id_ with
 | none => rw [e] at h; cases h
 | some r => rw [show v_u14 k l_ web_ id_ = r by simp [v_u14, e]]; exact of_u14 k l_ web_ id_ r e
theorem ccA_u14 (k : Nat) (l_ : List (T2).T) (web_ : T5.T) (id_ : Int) (h : (f_u14 k l_ web_ id_).isSome = true) (hb : (v_u14 k l_ web_ id_).isLeft = true) : CC Tryz.prog 30 (args_u14 l_ web_ id_) (bin_u14 l_ web_ id_) (resA_u14 (vA_u14 k l_ web_ id_)) (boA_u14 l_ web_ id_ (vA_u14 k l_ web_ id_)) := by
 have h1 := cc_u14 k l_ web_ id_ h
 unfold vA_u14
 cases e : v_u14 k l_ web_ id_ with
 | inl a => rw [e] at h1 hb; exact h1
 | inr a => rw [e] at h1 hb; cases hb
theorem ccB_u14 (k : Nat) (l_ : List (T2).T) (web_ : T5.T) (id_ : Int) (h : (f_u14 k l_ web_ id_).isSome = true) (hb : (v_u14 k l_ web_ id_).isLeft = false) : CC Tryz.prog 30 (args_u14 l_ web_ id_) (bin_u14 l_ web_ id_) (resB_u14 (vB_u14 k l_ web_ id_)) (boB_u14 l_ web_ id_ (vB_u14 k l_ web_ id_)) := by
 have h1 := cc_u14 k l_ web_ id_ h
 unfold vB_u14
 cases e : v_u14 k l_ web_ id_ with
 | inl a => rw [e] at h1 hb; cases hb
 | inr a => rw [e] at h1 hb; exact h1

end
end Go.AM
namespace Go.AM
open Go Go.Proofs Go.IntKind
set_option linter.unusedVariables false
noncomputable section
end
end Go.AM
namespace Go.AM
open Go Go.Proofs Go.IntKind
set_option linter.unusedVariables false
noncomputable section
abbrev R_u26 : Type := Int
def res_u26 (r : R_u26) : AV := .r (.v (.int .i64 r))
def bo_u26 (g_0 : Int) (g_1 : Int) (g_2 : List (T2).T) (g_3 : List ((I).T × (I).T)) (p_ : T4.T) (r : R_u26) : List (Nat × Blk) := [(0, .var 73 [.r (.v (.int .i64 g_0)), .r (.v (.int .i64 g_1)), .r (.ro T2 g_2), .own 1 0]), (0, .map false I I g_3)]
def args_u26 (g_0 : Int) (g_1 : Int) (g_2 : List (T2).T) (g_3 : List ((I).T × (I).T)) (p_ : T4.T) : List AV := [.ptr 0 0 0, .agg (rvs (enc T4 p_))]
def bin_u26 (g_0 : Int) (g_1 : Int) (g_2 : List (T2).T) (g_3 : List ((I).T × (I).T)) (p_ : T4.T) : List Blk := [.var 73 [.r (.v (.int .i64 g_0)), .r (.v (.int .i64 g_1)), .r (.ro T2 g_2), .own 1 0], .map false I I g_3]
def f_u26 (k : Nat) (g_0 : Int) (g_1 : Int) (g_2 : List (T2).T) (g_3 : List ((I).T × (I).T)) (p_ : T4.T) : Option R_u26 :=
 if ((f_u27 k g_0 g_1 g_2 g_3 p_.1).isSome = true) then
 bif (decide (p_.2.1 < (0 : Int)) || decide (p_.2.1 ≥ (v_u27 k g_0 g_1 g_2 g_3 p_.1).1)) then
 some 20
 else
 bif (decide (p_.2.2 < (0 : Int)) || decide (p_.2.2 ≥ (v_u27 k g_0 g_1 g_2 g_3 p_.1).2)) then
 some 21
 else
 some 0
 else none
def v_u26 (k : Nat) (g_0 : Int) (g_1 : Int) (g_2 : List (T2).T) (g_3 : List ((I).T × (I).T)) (p_ : T4.T) : R_u26 := (f_u26 k g_0 g_1 g_2 g_3 p_).getD 0
def K_u26 (k : Nat) : Calld := ⟨fun g xs => match g with
 | 42 => match xs with
  | [.ptr _ _ _, _] => some [true, false]
  | _ => none
 | _ => none, fun g xs bs => match g with
 | 42 => match xs, bs with
  | [.ptr 0 0 0, .r (.v (.int .i64 id_))], [.var 73 [.r (.v (.int .i64 g_0)), .r (.v (.int .i64 g_1)), .r (.ro tg_2_ qg_2), .own 1 0], .map false kg_3_ tg_3_ qg_3] => (castL tg_2_ T2 qg_2).bind fun g_2 => (castM kg_3_ tg_3_ I I qg_3).bind fun g_3 => some (.one (res_u27 (v_u27 k g_0 g_1 g_2 g_3 id_), bo_u27 g_0 g_1 g_2 g_3 id_ (v_u27 k g_0 g_1 g_2 g_3 id_)))
  | _, _ => none
 | _ => none⟩
theorem of_u26 (k : Nat) (g_0 : Int) (g_1 : Int) (g_2 : List (T2).T) (g_3 : List ((I).T × (I).T)) (p_ : T4.T) (r : R_u26) (h : f_u26 k g_0 g_1 g_2 g_3 p_ = some r) : CC Tryz.prog 31 (args_u26 g_0 g_1 g_2 g_3 p_) (bin_u26 g_0 g_1 g_2 g_3 p_) (res_u26 r) (bo_u26 g_0 g_1 g_2 g_3 p_ r) := by
 refine CC.of (fn := Tryz.f31) (by kernel_rfl) (by kernel_rfl) (by kernel_rfl) (by kernel_rfl) ?_
 unfold f_u26 at h
 refine Ev.tree hm (R := Rt) (K := (K_u26 k)) (l := []) (C := []) (E := [.autoB [4] true []]) (n := 1000) (T := .need [CC Tryz.prog 42 (args_u27 g_0 g_1 g_2 g_3 p_.1) (bin_u27 g_0 g_1 g_2 g_3 p_.1) (res_u27 (v_u27 k g_0 g_1 g_2 g_3 p_.1)) (bo_u27 g_0 g_1 g_2 g_3 p_.1 (v_u27 k g_0 g_1 g_2 g_3 p_.1))] (.test ((decide (p_.2.1 < (0 : Int)) || decide (p_.2.1 ≥ (v_u27 k g_0 g_1 g_2 g_3 p_.1).1))) (.leaf (res_u26 20) (bo_u26 g_0 g_1 g_2 g_3 p_ 20)) (.test ((decide (p_.2.2 < (0 : Int)) || decide (p_.2.2 ≥ (v_u27 k g_0 g_1 g_2 g_3 p_.1).2))) (.leaf (res_u26 21) (bo_u26 g_0 g_1 g_2 g_3 p_ 21)) (.leaf (res_u26 0) (bo_u26 g_0 g_1 g_2 g_3 p_ 0))))) (by kernel_rfl) ?_
 by_cases q : ((f_u27 k g_0 g_1 g_2 g_3 p_.1).isSome = true)
 ·rw [if_pos q] at h
  refine ⟨(conjC (cc_u27 k g_0 g_1 g_2 g_3 p_.1 q) conj0), ?_⟩
  refine ⟨fun c => ?_, fun c => ?_⟩
  ·rw [cond_t (show ((decide (p_.2.1 < (0 : Int)) || decide (p_.2.1 ≥ (v_u27 k g_0 g_1 g_2 g_3 p_.1).1))) = true from c)] at h
   cases h; exact ⟨rfl, rfl⟩
  ·rw [cond_f (show ((decide (p_.2.1 < (0 : Int)) || decide (p_.2.1 ≥ (v_u27 k g_0 g_1 g_2 g_3 p_.1).1))) = false from c)] at h
   refine ⟨fun c => ?_, fun c => ?_⟩
   ·rw [cond_t (show ((decide (p_.2.2 < (0 : Int)) || decide (p_.2.2 ≥ (v_u27 k g_0 g_1 g_2 g_3 p_.1).2))) = true from c)] at h
    cases h; exact ⟨rfl, rfl⟩
   ·rw [cond_f (show ((decide (p_.2.2 < (0 : Int)) || decide (p_.2.2 ≥ (v_u27 k g_0 g_1 g_2 g_3 p_.1).2))) = false from c)] at h
    cases h; exact ⟨rfl, rfl⟩
 ·rw [if_neg q] at h; cases h
theorem cc_u26 (k : Nat) (g_0 : Int) (g_1 : Int) (g_2 : List (T2).T) (g_3 : List ((I).T × (I).T)) (p_ : T4.T) (h : (f_u26 k g_0 g_1 g_2 g_3 p_).isSome = true) : CC Tryz.prog 31 (args_u26 g_0 g_1 g_2 g_3 p_) (bin_u26 g_0 g_1 g_2 g_3 p_) (res_u26 (v_u26 k g_0 g_1 g_2 g_3 p_)) (bo_u26 g_0 g_1 g_2 g_3 p_ (v_u26 k g_0 g_1 g_2 g_3 p_)) := by
 cases e : f_u26 k g_0 g_1 g_2 g_3 p_ with
 | none => rw [e] at h; cases h
 | some r => rw [show v_u26 k g_0 g_1 g_2 g_3 p_ = r by simp [v_u26, e]]; exact of_u26 k g_0 g_1 g_2 g_3 p_ r e

end
end Go.AM
namespace Go.AM
open Go Go.Proofs Go.IntKind
set_option linter.unusedVariables false
noncomputable section
abbrev R_u104 : Type := Bool
def res_u104 (r : R_u104) : AV := .r (.v (.bool r))
def bo_u104 (s_ : T9.T) (width_ : Int) (r : R_u104) : List (Nat × Blk) := []
def args_u104 (s_ : T9.T) (width_ : Int) : List AV := [.agg (rvs (enc T9 s_)), .r (.v (.int .i64 width_))]
def bin_u104 (s_ : T9.T) (width_ : Int) : List Blk := []
def f_u104 (k : Nat) (s_ : T9.T) (width_ : Int) : Option R_u104 :=
 some (decide (s_.1 ≥ 0) && decide (s_.2 ≥ 1) && decide (s_.1 ≤ width_) && decide (s_.2 ≤ i64.wrap (width_ - s_.1)))
def v_u104 (k : Nat) (s_ : T9.T) (width_ : Int) : R_u104 := (f_u104 k s_ width_).getD false
def K_u104 (k : Nat) : Calld := ⟨fun g xs => match g with
 | _ => none, fun g xs bs => match g with
 | _ => none⟩
theorem of_u104 (k : Nat) (s_ : T9.T) (width_ : Int) (r : R_u104) (h : f_u104 k s_ width_ = some r) : CC Tryz.prog 82 (args_u104 s_ width_) (bin_u104 s_ width_) (res_u104 r) (bo_u104 s_ width_ r) := by
 refine CC.of (fn := Tryz.f82) (by kernel_rfl) (by kernel_rfl) (by kernel_rfl) (by kernel_rfl) ?_
 unfold f_u104 at h
 refine Ev.tree hm (R := Rt) (K := (K_u104 k)) (l := []) (C := []) (E := [.autoB [4] true []]) (n := 1000) (T := .leaf (res_u104 (decide (s_.1 ≥ 0) && decide (s_.2 ≥ 1) && decide (s_.1 ≤ width_) && decide (s_.2 ≤ i64.wrap (width_ - s_.1)))) (bo_u104 s_ width_ (decide (s_.1 ≥ 0) && decide (s_.2 ≥ 1) && decide (s_.1 ≤ width_) && decide (s_.2 ≤ i64.wrap (width_ - s_.1))))) (by kernel_rfl) ?_
 cases h; exact ⟨rfl, rfl⟩
theorem cc_u104 (k : Nat) (s_ : T9.T) (width_ : Int) (h : (f_u104 k s_ width_).isSome = true) : CC Tryz.prog 82 (args_u104 s_ width_) (bin_u104 s_ width_) (res_u104 (v_u104 k s_ width_)) (bo_u104 s_ width_ (v_u104 k s_ width_)) := by
 cases e : f_u104 k s_ width_ with
 | none => rw [e] at h; cases h
 | some r => rw [show v_u104 k s_ width_ = r by simp [v_u104, e]]; exact of_u104 k s_ width_ r e

end
end Go.AM
namespace Go.AM
open Go Go.Proofs Go.IntKind
set_option linter.unusedVariables false
noncomputable section
abbrev R_u96 : Type := List (T0).T
def res_u96 (r : R_u96) : AV := .own 0 0
def bo_u96 (s_ : List (T0).T) (r : R_u96) : List (Nat × Blk) := [(0, .row 65 T0 r)]
def args_u96 (s_ : List (T0).T) : List AV := [.r (.ro T0 s_)]
def bin_u96 (s_ : List (T0).T) : List Blk := []
def f_u96 (k : Nat) (s_ : List (T0).T) : Option R_u96 := if s_.length * 24 ≤ 140737488355328 then some s_ else none
def v_u96 (k : Nat) (s_ : List (T0).T) : R_u96 := (f_u96 k s_).getD []
theorem of_u96 (k : Nat) (s_ : List (T0).T) (r : R_u96) (h : f_u96 k s_ = some r) : CC Tryz.prog 83 (args_u96 s_) (bin_u96 s_) (res_u96 r) (bo_u96 s_ r) := by
 unfold f_u96 at h
 by_cases q : s_.length * 24 ≤ 140737488355328
 ·rw [if_pos q] at h
  cases h
  exact cc_clone' (τ := T0) Tryz.clone_run (by kernel_rfl) Tryz.sizeOf65 ⟨Tryz.f83, _, Tryz.func83, rfl, by kernel_rfl⟩ s_ q
 ·rw [if_neg q] at h; cases h
theorem cc_u96 (k : Nat) (s_ : List (T0).T) (h : (f_u96 k s_).isSome = true) : CC Tryz.prog 83 (args_u96 s_) (bin_u96 s_) (res_u96 (v_u96 k s_)) (bo_u96 s_ (v_u96 k s_)) := by
 cases e : f_u96 k s_ with
 | none => rw [e] at h; cases h
 | some r => rw [show v_u96 k s_ = r by simp [v_u96, e]]; exact of_u96 k s_ r e

end
end Go.AM
namespace Go.AM
open Go Go.Proofs Go.IntKind
set_option linter.unusedVariables false
noncomputable section
abbrev RA_u103 : Type := Int × Int × Bool × Int
def resA_u103 (r : RA_u103) : AV := .tup [.agg [.r (.v (.int .i64 r.1)), .r (.v (.int .i64 r.2.1)), .r (.v (.bool r.2.2.1)), .r (.v (Value.slice none 0 0))], .r (.v (.int .i64 r.2.2.2))]
def boA_u103 (c_ : T1.T) (r : RA_u103) : List (Nat × Blk) := []
abbrev RB_u103 : Type := Int × Int × Bool × Int × List (T0).T
def resB_u103 (r : RB_u103) : AV := .tup [.agg [.r (.v (.int .i64 r.1)), .r (.v (.int .i64 r.2.1)), .r (.v (.bool r.2.2.1)), .own 0 0], .r (.v (.int .i64 r.2.2.2.1))]
def boB_u103 (c_ : T1.T) (r : RB_u103) : List (Nat × Blk) := [(0, .row 65 T0 r.2.2.2.2)]
abbrev R_u103 : Type := RA_u103 ⊕ RB_u103
def res_u103 (r : R_u103) : AV := match r with
 | .inl a => resA_u103 a
 | .inr a => resB_u103 a
def bo_u103 (c_ : T1.T) (r : R_u103) : List (Nat × Blk) := match r with
 | .inl a => boA_u103 c_ a
 | .inr a => boB_u103 c_ a
def args_u103 (c_ : T1.T) : List AV := [.agg (rvs (enc T1 c_))]
def bin_u103 (c_ : T1.T) : List Blk := []
def f_u103 (k : Nat) (c_ : T1.T) : Option R_u103 :=
 if ((f_u104 k (c_.1, c_.2.1) 12000).isSome = true) then
 bif (!v_u104 k (c_.1, c_.2.1) (12000 : Int)) then
 some ((.inl ((0, 0, false, 1))))
 else
 if ((f_u32 k c_.2.2.2).isSome = true) then
 bif (v_u32 k c_.2.2.2 != (0 : Int)) then
 some ((.inl ((0, 0, false, v_u32 k c_.2.2.2))))
 else
 if ((f_u96 k c_.2.2.2).isSome = true) then
 some ((.inr ((c_.1, c_.2.1, !c_.2.2.1, 0, v_u96 k c_.2.2.2))))
 else none
 else none
 else none
def v_u103 (k : Nat) (c_ : T1.T) : R_u103 := (f_u103 k c_).getD (.inl ((0, 0, false, 0)))
def vA_u103 (k : Nat) (c_ : T1.T) : RA_u103 := lft ((0, 0, false, 0)) (v_u103 k c_)
def vB_u103 (k : Nat) (c_ : T1.T) : RB_u103 := rgt ((0, 0, false, 0, [])) (v_u103 k c_)
def K_u103 (k : Nat) : Calld := ⟨fun g xs => match g with
 | 68 => match xs with
  | [_] => some [false]
  | _ => none
 | 82 => match xs with
  | [_, _] => some [false, false]
  | _ => none
 | 83 => match xs with
  | [_] => some [false]
  | _ => none
 | _ => none, fun g xs bs => match g with
 | 68 => match xs, bs with
  | [.r (.ro tm__ qm_)], [] => (castL tm__ T0 qm_).bind fun m_ => some (.one (res_u32 (v_u32 k m_), bo_u32 m_ (v_u32 k m_)))
  | _, _ => none
 | 82 => match xs, bs with
  | [.agg qs_, .r (.v (.int .i64 width_))], [] => (decS [] T9 qs_).bind fun s_ => some (.one (res_u104 (v_u104 k s_ width_), bo_u104 s_ width_ (v_u104 k s_ width_)))
  | _, _ => none
 | 83 => match xs, bs with
  | [.r (.ro ts__ qs_)], [] => (castL ts__ T0 qs_).bind fun s_ => some (.one (res_u96 (v_u96 k s_), bo_u96 s_ (v_u96 k s_)))
  | _, _ => none
 | _ => none⟩
theorem of_u103 (k : Nat) (c_ : T1.T) (r : R_u103) (h : f_u103 k c_ = some r) : CC Tryz.prog 66 (args_u103 c_) (bin_u103 c_) (res_u103 r) (bo_u103 c_ r) := by
 refine CC.of (fn := Tryz.f66) (by kernel_rfl) (by kernel_rfl) (by kernel_rfl) (by kernel_rfl) ?_
 unfold f_u103 at h
 refine Ev.tree hm (R := Rt) (K := (K_u103 k)) (l := []) (C := []) (E := [.autoB [2, 3] true []]) (n := 1000) (T := .need [CC Tryz.prog 82 (args_u104 (c_.1, c_.2.1) 12000) (bin_u104 (c_.1, c_.2.1) 12000) (res_u104 (v_u104 k (c_.1, c_.2.1) 12000)) (bo_u104 (c_.1, c_.2.1) 12000 (v_u104 k (c_.1, c_.2.1) 12000))] (.test ((!v_u104 k (c_.1, c_.2.1) (12000 : Int))) (.leaf (resA_u103 ((0, 0, false, 1))) (boA_u103 c_ ((0, 0, false, 1)))) (.need [CC Tryz.prog 68 (args_u32 c_.2.2.2) (bin_u32 c_.2.2.2) (res_u32 (v_u32 k c_.2.2.2)) (bo_u32 c_.2.2.2 (v_u32 k c_.2.2.2))] (.test ((v_u32 k c_.2.2.2 != (0 : Int))) (.leaf (resA_u103 ((0, 0, false, v_u32 k c_.2.2.2))) (boA_u103 c_ ((0, 0, false, v_u32 k c_.2.2.2)))) (.need [CC Tryz.prog 83 (args_u96 c_.2.2.2) (bin_u96 c_.2.2.2) (res_u96 (v_u96 k c_.2.2.2)) (bo_u96 c_.2.2.2 (v_u96 k c_.2.2.2))] (.leaf (resB_u103 ((c_.1, c_.2.1, !c_.2.2.1, 0, v_u96 k c_.2.2.2))) (boB_u103 c_ ((c_.1, c_.2.1, !c_.2.2.1, 0, v_u96 k c_.2.2.2))))))))) (by kernel_rfl) ?_
 by_cases q : ((f_u104 k (c_.1, c_.2.1) 12000).isSome = true)
 ·rw [if_pos q] at h
  refine ⟨(conjC (cc_u104 k (c_.1, c_.2.1) 12000 q) conj0), ?_⟩
  refine ⟨fun c => ?_, fun c => ?_⟩
  ·rw [cond_t (show ((!v_u104 k (c_.1, c_.2.1) (12000 : Int))) = true from c)] at h
   cases h; exact ⟨rfl, rfl⟩
  ·rw [cond_f (show ((!v_u104 k (c_.1, c_.2.1) (12000 : Int))) = false from c)] at h
   by_cases q : ((f_u32 k c_.2.2.2).isSome = true)
   ·rw [if_pos q] at h
    refine ⟨(conjC (cc_u32 k c_.2.2.2 q) conj0), ?_⟩
    refine ⟨fun c => ?_, fun c => ?_⟩
    ·rw [cond_t (show ((v_u32 k c_.2.2.2 != (0 : Int))) = true from c)] at h
     cases h; exact ⟨rfl, rfl⟩
    ·rw [cond_f (show ((v_u32 k c_.2.2.2 != (0 : Int))) = false from c)] at h
     by_cases q : ((f_u96 k c_.2.2.2).isSome = true)
     ·rw [if_pos q] at h
      refine ⟨(conjC (cc_u96 k c_.2.2.2 q) conj0), ?_⟩
      cases h; exact ⟨rfl, rfl⟩
     ·rw [if_neg q] at h; cases h
   ·rw [if_neg q] at h; cases h
 ·rw [if_neg q] at h; cases h
theorem cc_u103 (k : Nat) (c_ : T1.T) (h : (f_u103 k c_).isSome = true) : CC Tryz.prog 66 (args_u103 c_) (bin_u103 c_) (res_u103 (v_u103 k c_)) (bo_u103 c_ (v_u103 k c_)) := by
 cases e : f_u103 k c_ with
 | none => rw [e] at h; cases h
 | some r => rw [show v_u103 k c_ = r by simp [v_u103, e]]; exact of_u103 k c_ r e
theorem ccA_u103 (k : Nat) (c_ : T1.T) (h : (f_u103 k c_).isSome = true) (hb : (v_u103 k c_).isLeft = true) : CC Tryz.prog 66 (args_u103 c_) (bin_u103 c_) (resA_u103 (vA_u103 k c_)) (boA_u103 c_ (vA_u103 k c_)) := by
 have h1 := cc_u103 k c_ h
 unfold vA_u103
 cases e : v_u103 k c_ with
 | inl a => rw [e] at h1 hb; exact h1
 | inr a => rw [e] at h1 hb; cases hb
theorem ccB_u103 (k : Nat) (c_ : T1.T) (h : (f_u103 k c_).isSome = true) (hb : (v_u103 k c_).isLeft = false) : CC Tryz.prog 66 (args_u103 c_) (bin_u103 c_) (resB_u103 (vB_u103 k c_)) (boB_u103 c_ (vB_u103 k c_)) := by
 have h1 := cc_u103 k c_ h
 unfold vB_u103
 cases e : v_u103 k c_ with
 | inl a => rw [e] at h1 hb; cases hb
 | inr a => rw [e] at h1 hb; exact h1

end
end Go.AM
namespace Go.AM
open Go Go.Proofs Go.IntKind
set_option linter.unusedVariables false
noncomputable section
abbrev R_u102 : Type := Int × Int × Int
def res_u102 (r : R_u102) : AV := .tup [.r (.v (.int .i64 r.1)), .r (.v (.int .i64 r.2.1)), .r (.v (.int .i64 r.2.2))]
def bo_u102 (c_ : T1.T) (x_ : Int) (y_ : Int) (r : R_u102) : List (Nat × Blk) := []
def args_u102 (c_ : T1.T) (x_ : Int) (y_ : Int) : List AV := [.agg (rvs (enc T1 c_)), .r (.v (.int .i64 x_)), .r (.v (.int .i64 y_))]
def bin_u102 (c_ : T1.T) (x_ : Int) (y_ : Int) : List Blk := []
def f_u102 (k : Nat) (c_ : T1.T) (x_ : Int) (y_ : Int) : Option R_u102 :=
 bif (Sum.isLeft (v_u103 k c_)) then
 if ((f_u103 k c_).isSome = true) then
 bif ((vA_u103 k c_).2.2.2 != (0 : Int)) then
 some ((0, 0, (vA_u103 k c_).2.2.2))
 else
 bif (decide (x_ < (0 : Int)) || decide (x_ ≥ c_.2.1)) then
 some ((0, 0, 20))
 else
 if ((f_u30 k c_.2.2.2 y_).isSome = true) then
 bif ((v_u30 k c_.2.2.2 y_).2 != (0 : Int)) then
 some ((0, 0, (v_u30 k c_.2.2.2 y_).2))
 else
 bif c_.2.2.1 then
 some ((i64.wrap (c_.1 + i64.wrap (i64.wrap (c_.2.1 - 1) - x_)), (v_u30 k c_.2.2.2 y_).1, 0))
 else
 some ((i64.wrap (c_.1 + x_), (v_u30 k c_.2.2.2 y_).1, 0))
 else none
 else none
 else
 if ((f_u103 k c_).isSome = true) then
 bif ((vB_u103 k c_).2.2.2.1 != (0 : Int)) then
 some ((0, 0, (vB_u103 k c_).2.2.2.1))
 else
 bif (decide (x_ < (0 : Int)) || decide (x_ ≥ c_.2.1)) then
 some ((0, 0, 20))
 else
 if ((f_u30 k c_.2.2.2 y_).isSome = true) then
 bif ((v_u30 k c_.2.2.2 y_).2 != (0 : Int)) then
 some ((0, 0, (v_u30 k c_.2.2.2 y_).2))
 else
 bif c_.2.2.1 then
 some ((i64.wrap (c_.1 + i64.wrap (i64.wrap (c_.2.1 - 1) - x_)), (v_u30 k c_.2.2.2 y_).1, 0))
 else
 some ((i64.wrap (c_.1 + x_), (v_u30 k c_.2.2.2 y_).1, 0))
 else none
 else none
def v_u102 (k : Nat) (c_ : T1.T) (x_ : Int) (y_ : Int) : R_u102 := (f_u102 k c_ x_ y_).getD (0, 0, 0)
def K_u102 (k : Nat) : Calld := ⟨fun g xs => match g with
 | 67 => match xs with
  | [_, _] => some [false, false]
  | _ => none
 | 66 => match xs with
  | [_] => some [false]
  | _ => none
 | _ => none, fun g xs bs => match g with
 | 67 => match xs, bs with
  | [.r (.ro tm__ qm_), .r (.v (.int .i64 x_))], [] => (castL tm__ T0 qm_).bind fun m_ => some (.one (res_u30 (v_u30 k m_ x_), bo_u30 m_ x_ (v_u30 k m_ x_)))
  | _, _ => none
 | 66 => match xs, bs with
  | [.agg qc_], [] => (decS [] T1 qc_).bind fun c_ => some (.two (v_u103 k c_).isLeft (resA_u103 (vA_u103 k c_), boA_u103 c_ (vA_u103 k c_)) (resB_u103 (vB_u103 k c_), boB_u103 c_ (vB_u103 k c_)))
  | _, _ => none
 | _ => none⟩
theorem of_u102 (k : Nat) (c_ : T1.T) (x_ : Int) (y_ : Int) (r : R_u102) (h : f_u102 k c_ x_ y_ = some r) : CC Tryz.prog 50 (args_u102 c_ x_ y_) (bin_u102 c_ x_ y_) (res_u102 r) (bo_u102 c_ x_ y_ r) := by
 refine CC.of (fn := Tryz.f50) (by kernel_rfl) (by kernel_rfl) (by kernel_rfl) (by kernel_rfl) ?_
 unfold f_u102 at h
 refine Ev.tree hm (R := Rt) (K := (K_u102 k)) (l := []) (C := []) (E := [.autoB [6, 7, 8] true []]) (n := 1000) (T := .test ((Sum.isLeft (v_u103 k c_))) (.need [CC Tryz.prog 66 (args_u103 c_) (bin_u103 c_) (resA_u103 (vA_u103 k c_)) (boA_u103 c_ (vA_u103 k c_))] (.test (((vA_u103 k c_).2.2.2 != (0 : Int))) (.leaf (res_u102 ((0, 0, (vA_u103 k c_).2.2.2))) (bo_u102 c_ x_ y_ ((0, 0, (vA_u103 k c_).2.2.2)))) (.test ((decide (x_ < (0 : Int)) || decide (x_ ≥ c_.2.1))) (.leaf (res_u102 ((0, 0, 20))) (bo_u102 c_ x_ y_ ((0, 0, 20)))) (.need [CC Tryz.prog 67 (args_u30 c_.2.2.2 y_) (bin_u30 c_.2.2.2 y_) (res_u30 (v_u30 k c_.2.2.2 y_)) (bo_u30 c_.2.2.2 y_ (v_u30 k c_.2.2.2 y_))] (.test (((v_u30 k c_.2.2.2 y_).2 != (0 : Int))) (.leaf (res_u102 ((0, 0, (v_u30 k c_.2.2.2 y_).2))) (bo_u102 c_ x_ y_ ((0, 0, (v_u30 k c_.2.2.2 y_).2)))) (.test (c_.2.2.1) (.leaf (res_u102 ((i64.wrap (c_.1 + i64.wrap (i64.wrap (c_.2.1 - 1) - x_)), (v_u30 k c_.2.2.2 y_).1, 0))) (bo_u102 c_ x_ y_ ((i64.wrap (c_.1 + i64.wrap (i64.wrap (c_.2.1 - 1) - x_)), (v_u30 k c_.2.2.2 y_).1, 0)))) (.leaf (res_u102 ((i64.wrap (c_.1 + x_), (v_u30 k c_.2.2.2 y_).1, 0))) (bo_u102 c_ x_ y_ ((i64.wrap (c_.1 + x_), (v_u30 k c_.2.2.2 y_).1, 0)))))))))) (.need [CC Tryz.prog 66 (args_u103 c_) (bin_u103 c_) (resB_u103 (vB_u103 k c_)) (boB_u103 c_ (vB_u103 k c_))] (.test (((vB_u103 k c_).2.2.2.1 != (0 : Int))) (.leaf (res_u102 ((0, 0, (vB_u103 k c_).2.2.2.1))) (bo_u102 c_ x_ y_ ((0, 0, (vB_u103 k c_).2.2.2.1)))) (.test ((decide (x_ < (0 : Int)) || decide (x_ ≥ c_.2.1))) (.leaf (res_u102 ((0, 0, 20))) (bo_u102 c_ x_ y_ ((0, 0, 20)))) (.need [CC Tryz.prog 67 (args_u30 c_.2.2.2 y_) (bin_u30 c_.2.2.2 y_) (res_u30 (v_u30 k c_.2.2.2 y_)) (bo_u30 c_.2.2.2 y_ (v_u30 k c_.2.2.2 y_))] (.test (((v_u30 k c_.2.2.2 y_).2 != (0 : Int))) (.leaf (res_u102 ((0, 0, (v_u30 k c_.2.2.2 y_).2))) (bo_u102 c_ x_ y_ ((0, 0, (v_u30 k c_.2.2.2 y_).2)))) (.test (c_.2.2.1) (.leaf (res_u102 ((i64.wrap (c_.1 + i64.wrap (i64.wrap (c_.2.1 - 1) - x_)), (v_u30 k c_.2.2.2 y_).1, 0))) (bo_u102 c_ x_ y_ ((i64.wrap (c_.1 + i64.wrap (i64.wrap (c_.2.1 - 1) - x_)), (v_u30 k c_.2.2.2 y_).1, 0)))) (.leaf (res_u102 ((i64.wrap (c_.1 + x_), (v_u30 k c_.2.2.2 y_).1, 0))) (bo_u102 c_ x_ y_ ((i64.wrap (c_.1 + x_), (v_u30 k c_.2.2.2 y_).1, 0))))))))))) (by kernel_rfl) ?_
 refine ⟨fun c => ?_, fun c => ?_⟩
 ·rw [cond_t (show ((Sum.isLeft (v_u103 k c_))) = true from c)] at h
  by_cases q : ((f_u103 k c_).isSome = true)
  ·rw [if_pos q] at h
   refine ⟨(conjC (ccA_u103 k c_ q (by assumption)) conj0), ?_⟩
   refine ⟨fun c => ?_, fun c => ?_⟩
   ·rw [cond_t (show (((vA_u103 k c_).2.2.2 != (0 : Int))) = true from c)] at h
    cases h; exact ⟨rfl, rfl⟩
   ·rw [cond_f (show (((vA_u103 k c_).2.2.2 != (0 : Int))) = false from c)] at h
    refine ⟨fun c => ?_, fun c => ?_⟩
    ·rw [cond_t (show ((decide (x_ < (0 : Int)) || decide (x_ ≥ c_.2.1))) = true from c)] at h
     cases h; exact ⟨rfl, rfl⟩
    ·rw [cond_f (show ((decide (x_ < (0 : Int)) || decide (x_ ≥ c_.2.1))) = false from c)] at h
     by_cases q : ((f_u30 k c_.2.2.2 y_).isSome = true)
     ·rw [if_pos q] at h
      refine ⟨(conjC (cc_u30 k c_.2.2.2 y_ q) conj0), ?_⟩
      refine ⟨fun c => ?_, fun c => ?_⟩
      ·rw [cond_t (show (((v_u30 k c_.2.2.2 y_).2 != (0 : Int))) = true from c)] at h
       cases h; exact ⟨rfl, rfl⟩
      ·rw [cond_f (show (((v_u30 k c_.2.2.2 y_).2 != (0 : Int))) = false from c)] at h
       refine ⟨fun c => ?_, fun c => ?_⟩
       ·rw [cond_t (show c_.2.2.1 = true from c)] at h
        cases h; exact ⟨rfl, rfl⟩
       ·rw [cond_f (show c_.2.2.1 = false from c)] at h
        cases h; exact ⟨rfl, rfl⟩
     ·rw [if_neg q] at h; cases h
  ·rw [if_neg q] at h; cases h
 ·rw [cond_f (show ((Sum.isLeft (v_u103 k c_))) = false from c)] at h
  by_cases q : ((f_u103 k c_).isSome = true)
  ·rw [if_pos q] at h
   refine ⟨(conjC (ccB_u103 k c_ q (by assumption)) conj0), ?_⟩
   refine ⟨fun c => ?_, fun c => ?_⟩
   ·rw [cond_t (show (((vB_u103 k c_).2.2.2.1 != (0 : Int))) = true from c)] at h
    cases h; exact ⟨rfl, rfl⟩
   ·rw [cond_f (show (((vB_u103 k c_).2.2.2.1 != (0 : Int))) = false from c)] at h
    refine ⟨fun c => ?_, fun c => ?_⟩
    ·rw [cond_t (show ((decide (x_ < (0 : Int)) || decide (x_ ≥ c_.2.1))) = true from c)] at h
     cases h; exact ⟨rfl, rfl⟩
    ·rw [cond_f (show ((decide (x_ < (0 : Int)) || decide (x_ ≥ c_.2.1))) = false from c)] at h
     by_cases q : ((f_u30 k c_.2.2.2 y_).isSome = true)
     ·rw [if_pos q] at h
      refine ⟨(conjC (cc_u30 k c_.2.2.2 y_ q) conj0), ?_⟩
      refine ⟨fun c => ?_, fun c => ?_⟩
      ·rw [cond_t (show (((v_u30 k c_.2.2.2 y_).2 != (0 : Int))) = true from c)] at h
       cases h; exact ⟨rfl, rfl⟩
      ·rw [cond_f (show (((v_u30 k c_.2.2.2 y_).2 != (0 : Int))) = false from c)] at h
       refine ⟨fun c => ?_, fun c => ?_⟩
       ·rw [cond_t (show c_.2.2.1 = true from c)] at h
        cases h; exact ⟨rfl, rfl⟩
       ·rw [cond_f (show c_.2.2.1 = false from c)] at h
        cases h; exact ⟨rfl, rfl⟩
     ·rw [if_neg q] at h; cases h
  ·rw [if_neg q] at h; cases h
theorem cc_u102 (k : Nat) (c_ : T1.T) (x_ : Int) (y_ : Int) (h : (f_u102 k c_ x_ y_).isSome = true) : CC Tryz.prog 50 (args_u102 c_ x_ y_) (bin_u102 c_ x_ y_) (res_u102 (v_u102 k c_ x_ y_)) (bo_u102 c_ x_ y_ (v_u102 k c_ x_ y_)) := by
 cases e : f_u102 k c_ x_ y_ with
 | none => rw [e] at h; cases h
 | some r => rw [show v_u102 k c_ x_ y_ = r by simp [v_u102, e]]; exact of_u102 k c_ x_ y_ r e

end
end Go.AM
namespace Go.AM
open Go Go.Proofs Go.IntKind
set_option linter.unusedVariables false
noncomputable section
abbrev R_u17 : Type := T4.T
def res_u17 (r : R_u17) : AV := .agg (rvs (enc T4 r))
def bo_u17 (r_ : T2.T) (p_ : T4.T) (r : R_u17) : List (Nat × Blk) := []
def args_u17 (r_ : T2.T) (p_ : T4.T) : List AV := [.agg (rvs (enc T2 r_)), .agg (rvs (enc T4 p_))]
def bin_u17 (r_ : T2.T) (p_ : T4.T) : List Blk := []
def f_u17 (k : Nat) (r_ : T2.T) (p_ : T4.T) : Option R_u17 :=
 if ((f_u102 k r_.2.2 p_.2.1 p_.2.2).isSome = true) then
 some ((r_.2.1, ((v_u102 k r_.2.2 p_.2.1 p_.2.2).1, (v_u102 k r_.2.2 p_.2.1 p_.2.2).2.1)))
 else none
def v_u17 (k : Nat) (r_ : T2.T) (p_ : T4.T) : R_u17 := (f_u17 k r_ p_).getD (T4).dflt
def K_u17 (k : Nat) : Calld := ⟨fun g xs => match g with
 | 50 => match xs with
  | [_, _, _] => some [false, false, false]
  | _ => none
 | _ => none, fun g xs bs => match g with
 | 50 => match xs, bs with
  | [.agg qc_, .r (.v (.int .i64 x_)), .r (.v (.int .i64 y_))], [] => (decS [] T1 qc_).bind fun c_ => some (.one (res_u102 (v_u102 k c_ x_ y_), bo_u102 c_ x_ y_ (v_u102 k c_ x_ y_)))
  | _, _ => none
 | _ => none⟩
theorem of_u17 (k : Nat) (r_ : T2.T) (p_ : T4.T) (r : R_u17) (h : f_u17 k r_ p_ = some r) : CC Tryz.prog 32 (args_u17 r_ p_) (bin_u17 r_ p_) (res_u17 r) (bo_u17 r_ p_ r) := by
 refine CC.of (fn := Tryz.f32) (by kernel_rfl) (by kernel_rfl) (by kernel_rfl) (by kernel_rfl) ?_
 unfold f_u17 at h
 refine Ev.tree hm (R := Rt) (K := (K_u17 k)) (l := []) (C := []) (E := [.autoB [4] true []]) (n := 1000) (T := .need [CC Tryz.prog 50 (args_u102 r_.2.2 p_.2.1 p_.2.2) (bin_u102 r_.2.2 p_.2.1 p_.2.2) (res_u102 (v_u102 k r_.2.2 p_.2.1 p_.2.2)) (bo_u102 r_.2.2 p_.2.1 p_.2.2 (v_u102 k r_.2.2 p_.2.1 p_.2.2))] (.leaf (res_u17 ((r_.2.1, ((v_u102 k r_.2.2 p_.2.1 p_.2.2).1, (v_u102 k r_.2.2 p_.2.1 p_.2.2).2.1)))) (bo_u17 r_ p_ ((r_.2.1, ((v_u102 k r_.2.2 p_.2.1 p_.2.2).1, (v_u102 k r_.2.2 p_.2.1 p_.2.2).2.1)))))) (by kernel_rfl) ?_
 by_cases q : ((f_u102 k r_.2.2 p_.2.1 p_.2.2).isSome = true)
 ·rw [if_pos q] at h
  refine ⟨(conjC (cc_u102 k r_.2.2 p_.2.1 p_.2.2 q) conj0), ?_⟩
  cases h; exact ⟨rfl, rfl⟩
 ·rw [if_neg q] at h; cases h
theorem cc_u17 (k : Nat) (r_ : T2.T) (p_ : T4.T) (h : (f_u17 k r_ p_).isSome = true) : CC Tryz.prog 32 (args_u17 r_ p_) (bin_u17 r_ p_) (res_u17 (v_u17 k r_ p_)) (bo_u17 r_ p_ (v_u17 k r_ p_)) := by
 cases e : f_u17 k r_ p_ with
 | none => rw [e] at h; cases h
 | some r => rw [show v_u17 k r_ p_ = r by simp [v_u17, e]]; exact of_u17 k r_ p_ r e

end
end Go.AM
namespace Go.AM
open Go Go.Proofs Go.IntKind
set_option linter.unusedVariables false
noncomputable section
abbrev R_u10 : Type := T4.T × Int
def res_u10 (r : R_u10) : AV := .tup [.agg (rvs (enc T4 r.1)), .r (.v (.int .i64 r.2))]
def bo_u10 (l_ : List (T2).T) (web_ : T5.T) (p_ : T4.T) (r : R_u10) : List (Nat × Blk) := []
def args_u10 (l_ : List (T2).T) (web_ : T5.T) (p_ : T4.T) : List AV := [.r (.ro T2 l_), .agg (rvs (enc T5 web_)), .agg (rvs (enc T4 p_))]
def bin_u10 (l_ : List (T2).T) (web_ : T5.T) (p_ : T4.T) : List Blk := []
def f_u10 (k : Nat) (l_ : List (T2).T) (web_ : T5.T) (p_ : T4.T) : Option R_u10 :=
 bif (Sum.isLeft (v_u14 k l_ web_ p_.1)) then
 if ((f_u14 k l_ web_ p_.1).isSome = true) then
 bif (vA_u14 k l_ web_ p_.1 != (0 : Int)) then
 some (((0, (0, 0)), vA_u14 k l_ web_ p_.1))
 else
 bif (p_.1 == (0 : Int)) then
 some (((0, (0, 0)), 7))
 else
 none
 else none
 else
 if ((f_u14 k l_ web_ p_.1).isSome = true) then
 bif ((vB_u14 k l_ web_ p_.1).1 != (0 : Int)) then
 some (((0, (0, 0)), (vB_u14 k l_ web_ p_.1).1))
 else
 bif (p_.1 == (0 : Int)) then
 some (((0, (0, 0)), 7))
 else
 if ((f_u26 k (vB_u14 k l_ web_ p_.1).2.1 (vB_u14 k l_ web_ p_.1).2.2.1 (vB_u14 k l_ web_ p_.1).2.2.2.1 (vB_u14 k l_ web_ p_.1).2.2.2.2 p_).isSome = true) then
 bif (v_u26 k (vB_u14 k l_ web_ p_.1).2.1 (vB_u14 k l_ web_ p_.1).2.2.1 (vB_u14 k l_ web_ p_.1).2.2.2.1 (vB_u14 k l_ web_ p_.1).2.2.2.2 p_ != (0 : Int)) then
 some (((0, (0, 0)), v_u26 k (vB_u14 k l_ web_ p_.1).2.1 (vB_u14 k l_ web_ p_.1).2.2.1 (vB_u14 k l_ web_ p_.1).2.2.2.1 (vB_u14 k l_ web_ p_.1).2.2.2.2 p_))
 else
 if ((0 : Int) ≤ (mget I p_.1 (vB_u14 k l_ web_ p_.1).2.2.2.2).getD (0 : Int)) ∧ ((mget I p_.1 (vB_u14 k l_ web_ p_.1).2.2.2.2).getD (0 : Int) < (↑ (vB_u14 k l_ web_ p_.1).2.2.2.1.length : Int)) ∧ ((f_u17 k ((vB_u14 k l_ web_ p_.1).2.2.2.1.getD (Int.toNat ((mget I p_.1 (vB_u14 k l_ web_ p_.1).2.2.2.2).getD 0)) T2.dflt) p_).isSome = true) then
 some ((v_u17 k ((vB_u14 k l_ web_ p_.1).2.2.2.1.getD (Int.toNat ((mget I p_.1 (vB_u14 k l_ web_ p_.1).2.2.2.2).getD 0)) T2.dflt) p_, 0))
 else none
 else none
 else none
def v_u10 (k : Nat) (l_ : List (T2).T) (web_ : T5.T) (p_ : T4.T) : R_u10 := (f_u10 k l_ web_ p_).getD ((T4).dflt, 0)
def K_u10 (k : Nat) : Calld := ⟨fun g xs => match g with
 | 30 => match xs with
  | [_, _, _] => some [false, false, false]
  | _ => none
 | 31 => match xs with
  | [.ptr _ _ _, _] => some [true, false]
  | _ => none
 | 32 => match xs with
  | [_, _] => some [false, false]
  | _ => none
 | _ => none, fun g xs bs => match g with
 | 30 => match xs, bs with
  | [.r (.ro tl__ ql_), .agg qweb_, .r (.v (.int .i64 id_))], [] => (castL tl__ T2 ql_).bind fun l_ => (decS [] T5 qweb_).bind fun web_ => some (.two (v_u14 k l_ web_ id_).isLeft (resA_u14 (vA_u14 k l_ web_ id_), boA_u14 l_ web_ id_ (vA_u14 k l_ web_ id_)) (resB_u14 (vB_u14 k l_ web_ id_), boB_u14 l_ web_ id_ (vB_u14 k l_ web_ id_)))
  | _, _ => none
 | 31 => match xs, bs with
  | [.ptr 0 0 0, .agg qp_], [.var 73 [.r (.v (.int .i64 g_0)), .r (.v (.int .i64 g_1)), .r (.ro tg_2_ qg_2), .own 1 0], .map false kg_3_ tg_3_ qg_3] => (decS [] T4 qp_).bind fun p_ => (castL tg_2_ T2 qg_2).bind fun g_2 => (castM kg_3_ tg_3_ I I qg_3).bind fun g_3 => some (.one (res_u26 (v_u26 k g_0 g_1 g_2 g_3 p_), bo_u26 g_0 g_1 g_2 g_3 p_ (v_u26 k g_0 g_1 g_2 g_3 p_)))
  | _, _ => none
 | 32 => match xs, bs with
  | [.agg qr_, .agg qp_], [] => (decS [] T2 qr_).bind fun r_ => (decS [] T4 qp_).bind fun p_ => some (.one (res_u17 (v_u17 k r_ p_), bo_u17 r_ p_ (v_u17 k r_ p_)))
  | _, _ => none
 | _ => none⟩
theorem of_u10 (k : Nat) (l_ : List (T2).T) (web_ : T5.T) (p_ : T4.T) (r : R_u10) (h : f_u10 k l_ web_ p_ = some r) : CC Tryz.prog 10 (args_u10 l_ web_ p_) (bin_u10 l_ web_ p_) (res_u10 r) (bo_u10 l_ web_ p_ r) := by
 refine CC.of (fn := Tryz.f10) (by kernel_rfl) (by kernel_rfl) (by kernel_rfl) (by kernel_rfl) ?_
 unfold f_u10 at h
 refine Ev.tree hm (R := Rt) (K := (K_u10 k)) (l := []) (C := []) (E := [.autoB [6, 7] true []]) (n := 1000) (T := .test ((Sum.isLeft (v_u14 k l_ web_ p_.1))) (.need [CC Tryz.prog 30 (args_u14 l_ web_ p_.1) (bin_u14 l_ web_ p_.1) (resA_u14 (vA_u14 k l_ web_ p_.1)) (boA_u14 l_ web_ p_.1 (vA_u14 k l_ web_ p_.1))] (.test ((vA_u14 k l_ web_ p_.1 != (0 : Int))) (.leaf (res_u10 (((0, (0, 0)), vA_u14 k l_ web_ p_.1))) (bo_u10 l_ web_ p_ (((0, (0, 0)), vA_u14 k l_ web_ p_.1)))) (.test ((p_.1 == (0 : Int))) (.leaf (res_u10 (((0, (0, 0)), 7))) (bo_u10 l_ web_ p_ (((0, (0, 0)), 7)))) (.stuck 2002)))) (.need [CC Tryz.prog 30 (args_u14 l_ web_ p_.1) (bin_u14 l_ web_ p_.1) (resB_u14 (vB_u14 k l_ web_ p_.1)) (boB_u14 l_ web_ p_.1 (vB_u14 k l_ web_ p_.1))] (.test (((vB_u14 k l_ web_ p_.1).1 != (0 : Int))) (.leaf (res_u10 (((0, (0, 0)), (vB_u14 k l_ web_ p_.1).1))) (bo_u10 l_ web_ p_ (((0, (0, 0)), (vB_u14 k l_ web_ p_.1).1)))) (.test ((p_.1 == (0 : Int))) (.leaf (res_u10 (((0, (0, 0)), 7))) (bo_u10 l_ web_ p_ (((0, (0, 0)), 7)))) (.need [CC Tryz.prog 31 (args_u26 (vB_u14 k l_ web_ p_.1).2.1 (vB_u14 k l_ web_ p_.1).2.2.1 (vB_u14 k l_ web_ p_.1).2.2.2.1 (vB_u14 k l_ web_ p_.1).2.2.2.2 p_) (bin_u26 (vB_u14 k l_ web_ p_.1).2.1 (vB_u14 k l_ web_ p_.1).2.2.1 (vB_u14 k l_ web_ p_.1).2.2.2.1 (vB_u14 k l_ web_ p_.1).2.2.2.2 p_) (res_u26 (v_u26 k (vB_u14 k l_ web_ p_.1).2.1 (vB_u14 k l_ web_ p_.1).2.2.1 (vB_u14 k l_ web_ p_.1).2.2.2.1 (vB_u14 k l_ web_ p_.1).2.2.2.2 p_)) (bo_u26 (vB_u14 k l_ web_ p_.1).2.1 (vB_u14 k l_ web_ p_.1).2.2.1 (vB_u14 k l_ web_ p_.1).2.2.2.1 (vB_u14 k l_ web_ p_.1).2.2.2.2 p_ (v_u26 k (vB_u14 k l_ web_ p_.1).2.1 (vB_u14 k l_ web_ p_.1).2.2.1 (vB_u14 k l_ web_ p_.1).2.2.2.1 (vB_u14 k l_ web_ p_.1).2.2.2.2 p_))] (.test ((v_u26 k (vB_u14 k l_ web_ p_.1).2.1 (vB_u14 k l_ web_ p_.1).2.2.1 (vB_u14 k l_ web_ p_.1).2.2.2.1 (vB_u14 k l_ web_ p_.1).2.2.2.2 p_ != (0 : Int))) (.leaf (res_u10 (((0, (0, 0)), v_u26 k (vB_u14 k l_ web_ p_.1).2.1 (vB_u14 k l_ web_ p_.1).2.2.1 (vB_u14 k l_ web_ p_.1).2.2.2.1 (vB_u14 k l_ web_ p_.1).2.2.2.2 p_))) (bo_u10 l_ web_ p_ (((0, (0, 0)), v_u26 k (vB_u14 k l_ web_ p_.1).2.1 (vB_u14 k l_ web_ p_.1).2.2.1 (vB_u14 k l_ web_ p_.1).2.2.2.1 (vB_u14 k l_ web_ p_.1).2.2.2.2 p_)))) (.need [(0 : Int) ≤ (mget I p_.1 (vB_u14 k l_ web_ p_.1).2.2.2.2).getD (0 : Int), (mget I p_.1 (vB_u14 k l_ web_ p_.1).2.2.2.2).getD (0 : Int) < (↑ (vB_u14 k l_ web_ p_.1).2.2.2.1.length : Int), CC Tryz.prog 32 (args_u17 ((vB_u14 k l_ web_ p_.1).2.2.2.1.getD (Int.toNat ((mget I p_.1 (vB_u14 k l_ web_ p_.1).2.2.2.2).getD 0)) T2.dflt) p_) (bin_u17 ((vB_u14 k l_ web_ p_.1).2.2.2.1.getD (Int.toNat ((mget I p_.1 (vB_u14 k l_ web_ p_.1).2.2.2.2).getD 0)) T2.dflt) p_) (res_u17 (v_u17 k ((vB_u14 k l_ web_ p_.1).2.2.2.1.getD (Int.toNat ((mget I p_.1 (vB_u14 k l_ web_ p_.1).2.2.2.2).getD 0)) T2.dflt) p_)) (bo_u17 ((vB_u14 k l_ web_ p_.1).2.2.2.1.getD (Int.toNat ((mget I p_.1 (vB_u14 k l_ web_ p_.1).2.2.2.2).getD 0)) T2.dflt) p_ (v_u17 k ((vB_u14 k l_ web_ p_.1).2.2.2.1.getD (Int.toNat ((mget I p_.1 (vB_u14 k l_ web_ p_.1).2.2.2.2).getD 0)) T2.dflt) p_))] (.leaf (res_u10 ((v_u17 k ((vB_u14 k l_ web_ p_.1).2.2.2.1.getD (Int.toNat ((mget I p_.1 (vB_u14 k l_ web_ p_.1).2.2.2.2).getD 0)) T2.dflt) p_, 0))) (bo_u10 l_ web_ p_ ((v_u17 k ((vB_u14 k l_ web_ p_.1).2.2.2.1.getD (Int.toNat ((mget I p_.1 (vB_u14 k l_ web_ p_.1).2.2.2.2).getD 0)) T2.dflt) p_, 0))))))))))) (by kernel_rfl) ?_
 refine ⟨fun c => ?_, fun c => ?_⟩
 ·rw [cond_t (show ((Sum.isLeft (v_u14 k l_ web_ p_.1))) = true from c)] at h
  by_cases q : ((f_u14 k l_ web_ p_.1).isSome = true)
  ·rw [if_pos q] at h
   refine ⟨(conjC (ccA_u14 k l_ web_ p_.1 q (by assumption)) conj0), ?_⟩
   refine ⟨fun c => ?_, fun c => ?_⟩
   ·rw [cond_t (show ((vA_u14 k l_ web_ p_.1 != (0 : Int))) = true from c)] at h
    cases h; exact ⟨rfl, rfl⟩
   ·rw [cond_f (show ((vA_u14 k l_ web_ p_.1 != (0 : Int))) = false from c)] at h
    refine ⟨fun c => ?_, fun c => ?_⟩
    ·rw [cond_t (show ((p_.1 == (0 : Int))) = true from c)] at h
     cases h; exact ⟨rfl, rfl⟩
    ·rw [cond_f (show ((p_.1 == (0 : Int))) = false from c)] at h
     cases h
  ·rw [if_neg q] at h; cases h
 ·rw [cond_f (show ((Sum.isLeft (v_u14 k l_ web_ p_.1))) = false from c)] at h
  by_cases q : ((f_u14 k l_ web_ p_.1).isSome = true)
  ·rw [if_pos q] at h
   refine ⟨(conjC (ccB_u14 k l_ web_ p_.1 q (by assumption)) conj0), ?_⟩
   refine ⟨fun c => ?_, fun c => ?_⟩
   ·rw [cond_t (show (((vB_u14 k l_ web_ p_.1).1 != (0 : Int))) = true from c)] at h
    cases h; exact ⟨rfl, rfl⟩
   ·rw [cond_f (show (((vB_u14 k l_ web_ p_.1).1 != (0 : Int))) = false from c)] at h
    refine ⟨fun c => ?_, fun c => ?_⟩
    ·rw [cond_t (show ((p_.1 == (0 : Int))) = true from c)] at h
     cases h; exact ⟨rfl, rfl⟩
    ·rw [cond_f (show ((p_.1 == (0 : Int))) = false from c)] at h
     by_cases q : ((f_u26 k (vB_u14 k l_ web_ p_.1).2.1 (vB_u14 k l_ web_ p_.1).2.2.1 (vB_u14 k l_ web_ p_.1).2.2.2.1 (vB_u14 k l_ web_ p_.1).2.2.2.2 p_).isSome = true)
     ·rw [if_pos q] at h
      refine ⟨(conjC (cc_u26 k (vB_u14 k l_ web_ p_.1).2.1 (vB_u14 k l_ web_ p_.1).2.2.1 (vB_u14 k l_ web_ p_.1).2.2.2.1 (vB_u14 k l_ web_ p_.1).2.2.2.2 p_ q) conj0), ?_⟩
      refine ⟨fun c => ?_, fun c => ?_⟩
      ·rw [cond_t (show ((v_u26 k (vB_u14 k l_ web_ p_.1).2.1 (vB_u14 k l_ web_ p_.1).2.2.1 (vB_u14 k l_ web_ p_.1).2.2.2.1 (vB_u14 k l_ web_ p_.1).2.2.2.2 p_ != (0 : Int))) = true from c)] at h
       cases h; exact ⟨rfl, rfl⟩
      ·rw [cond_f (show ((v_u26 k (vB_u14 k l_ web_ p_.1).2.1 (vB_u14 k l_ web_ p_.1).2.2.1 (vB_u14 k l_ web_ p_.1).2.2.2.1 (vB_u14 k l_ web_ p_.1).2.2.2.2 p_ != (0 : Int))) = false from c)] at h
       by_cases q : ((0 : Int) ≤ (mget I p_.1 (vB_u14 k l_ web_ p_.1).2.2.2.2).getD (0 : Int)) ∧ ((mget I p_.1 (vB_u14 k l_ web_ p_.1).2.2.2.2).getD (0 : Int) < (↑ (vB_u14 k l_ web_ p_.1).2.2.2.1.length : Int)) ∧ ((f_u17 k ((vB_u14 k l_ web_ p_.1).2.2.2.1.getD (Int.toNat ((mget I p_.1 (vB_u14 k l_ web_ p_.1).2.2.2.2).getD 0)) T2.dflt) p_).isSome = true)
       ·rw [if_pos q] at h
        refine ⟨(conjC q.1 (conjC q.2.1 (conjC (cc_u17 k ((vB_u14 k l_ web_ p_.1).2.2.2.1.getD (Int.toNat ((mget I p_.1 (vB_u14 k l_ web_ p_.1).2.2.2.2).getD 0)) T2.dflt) p_ q.2.2) conj0))), ?_⟩
        cases h; exact ⟨rfl, rfl⟩
       ·rw [if_neg q] at h; cases h
     ·rw [if_neg q] at h; cases h
  ·rw [if_neg q] at h; cases h
theorem cc_u10 (k : Nat) (l_ : List (T2).T) (web_ : T5.T) (p_ : T4.T) (h : (f_u10 k l_ web_ p_).isSome = true) : CC Tryz.prog 10 (args_u10 l_ web_ p_) (bin_u10 l_ web_ p_) (res_u10 (v_u10 k l_ web_ p_)) (bo_u10 l_ web_ p_ (v_u10 k l_ web_ p_)) := by
 cases e : f_u10 k l_ web_ p_ with
 | none => rw [e] at h; cases h
 | some r => rw [show v_u10 k l_ web_ p_ = r by simp [v_u10, e]]; exact of_u10 k l_ web_ p_ r e

end
end Go.AM
namespace Go.AM
open Go Go.Proofs Go.IntKind
set_option linter.unusedVariables false
noncomputable section
abbrev R_u28 : Type := Int
def res_u28 (r : R_u28) : AV := .fn ((Fn.func 52)) [] [.ptr 2 0 0, .ptr 3 0 0]
def bo_u28 (g_0 : Int) (g_1 : Int) (g_2 : List (T2).T) (g_3 : List ((I).T × (I).T)) (id_ : Int) (r : R_u28) : List (Nat × Blk) := [(0, .var 73 [.r (.v (.int .i64 g_0)), .r (.v (.int .i64 g_1)), .r (.ro T2 g_2), .own 1 0]), (0, .map false I I g_3), (0, .var 3 [.r (.v (.int .i64 r))]), (0, .var 66 [.ptr 0 0 0])]
def args_u28 (g_0 : Int) (g_1 : Int) (g_2 : List (T2).T) (g_3 : List ((I).T × (I).T)) (id_ : Int) : List AV := [.ptr 0 0 0, .r (.v (.int .i64 id_))]
def bin_u28 (g_0 : Int) (g_1 : Int) (g_2 : List (T2).T) (g_3 : List ((I).T × (I).T)) (id_ : Int) : List Blk := [.var 73 [.r (.v (.int .i64 g_0)), .r (.v (.int .i64 g_1)), .r (.ro T2 g_2), .own 1 0], .map false I I g_3]
def f_u28 (k : Nat) (g_0 : Int) (g_1 : Int) (g_2 : List (T2).T) (g_3 : List ((I).T × (I).T)) (id_ : Int) : Option R_u28 :=
 some id_
def v_u28 (k : Nat) (g_0 : Int) (g_1 : Int) (g_2 : List (T2).T) (g_3 : List ((I).T × (I).T)) (id_ : Int) : R_u28 := (f_u28 k g_0 g_1 g_2 g_3 id_).getD 0
def K_u28 (k : Nat) : Calld := ⟨fun g xs => match g with
 | _ => none, fun g xs bs => match g with
 | _ => none⟩
theorem of_u28 (k : Nat) (g_0 : Int) (g_1 : Int) (g_2 : List (T2).T) (g_3 : List ((I).T × (I).T)) (id_ : Int) (r : R_u28) (h : f_u28 k g_0 g_1 g_2 g_3 id_ = some r) : CC Tryz.prog 36 (args_u28 g_0 g_1 g_2 g_3 id_) (bin_u28 g_0 g_1 g_2 g_3 id_) (res_u28 r) (bo_u28 g_0 g_1 g_2 g_3 id_ r) := by
 refine CC.of (fn := Tryz.f36) (by kernel_rfl) (by kernel_rfl) (by kernel_rfl) (by kernel_rfl) ?_
 unfold f_u28 at h
 refine Ev.tree hm (R := Rt) (K := (K_u28 k)) (l := []) (C := []) (E := [.autoB [4] true []]) (n := 1000) (T := .leaf (res_u28 id_) (bo_u28 g_0 g_1 g_2 g_3 id_ id_)) (by kernel_rfl) ?_
 cases h; exact ⟨rfl, rfl⟩
theorem cc_u28 (k : Nat) (g_0 : Int) (g_1 : Int) (g_2 : List (T2).T) (g_3 : List ((I).T × (I).T)) (id_ : Int) (h : (f_u28 k g_0 g_1 g_2 g_3 id_).isSome = true) : CC Tryz.prog 36 (args_u28 g_0 g_1 g_2 g_3 id_) (bin_u28 g_0 g_1 g_2 g_3 id_) (res_u28 (v_u28 k g_0 g_1 g_2 g_3 id_)) (bo_u28 g_0 g_1 g_2 g_3 id_ (v_u28 k g_0 g_1 g_2 g_3 id_)) := by
 cases e : f_u28 k g_0 g_1 g_2 g_3 id_ with
 | none => rw [e] at h; cases h
 | some r => rw [show v_u28 k g_0 g_1 g_2 g_3 id_ = r by simp [v_u28, e]]; exact of_u28 k g_0 g_1 g_2 g_3 id_ r e

end
end Go.AM
namespace Go.AM
open Go Go.Proofs Go.IntKind
set_option linter.unusedVariables false
noncomputable section
abbrev R_u2 : Type := T4.T
def res_u2 (r : R_u2) : AV := .r (.v (.bool true))
def bo_u2 (s5 : T4.T) (x0 : T2.T) (r : R_u2) : List (Nat × Blk) := [(0, .loop .ready none (rcAt Tryz.f14 8 [48]) (mkS 40 [(5, .ptr 1 0 0)])), (0, .var 26 (rvs (enc T4 r)))]
def args_u2 (s5 : T4.T) (x0 : T2.T) : List AV := [.agg (rvs (enc T2 x0))]
def bin_u2 (s5 : T4.T) (x0 : T2.T) : List Blk := [.loop .ready none (rcAt Tryz.f14 8 [48]) (mkS 40 [(5, .ptr 1 0 0)]), .var 26 (rvs (enc T4 s5))]
def f_u2 (k : Nat) (s5 : T4.T) (x0 : T2.T) : Option R_u2 :=
 if ((f_u17 k x0 s5).isSome = true) then
 some (v_u17 k x0 s5)
 else none
def v_u2 (k : Nat) (s5 : T4.T) (x0 : T2.T) : R_u2 := (f_u2 k s5 x0).getD (T4).dflt
def K_u2 (k : Nat) : Calld := ⟨fun g xs => match g with
 | 32 => match xs with
  | [_, _] => some [false, false]
  | _ => none
 | _ => none, fun g xs bs => match g with
 | 32 => match xs, bs with
  | [.agg qr_, .agg qp_], [] => (decS [] T2 qr_).bind fun r_ => (decS [] T4 qp_).bind fun p_ => some (.one (res_u17 (v_u17 k r_ p_), bo_u17 r_ p_ (v_u17 k r_ p_)))
  | _, _ => none
 | _ => none⟩
theorem of_u2 (k : Nat) (s5 : T4.T) (x0 : T2.T) (r : R_u2) (h : f_u2 k s5 x0 = some r) : YC Tryz.prog (args_u2 s5 x0) (bin_u2 s5 x0) (res_u2 r) (bo_u2 s5 x0 r) := by
 refine YC.of (by rw [show bin_u2 s5 x0 = _ from rfl]; exact List.cons_ne_nil _ _) (by kernel_rfl) ?_
 unfold f_u2 at h
 refine Ev.tree hm (R := Rt) (K := (K_u2 k)) (l := []) (C := []) (E := [.autoB [0] true []]) (n := 1000) (T := .need [CC Tryz.prog 32 (args_u17 x0 s5) (bin_u17 x0 s5) (res_u17 (v_u17 k x0 s5)) (bo_u17 x0 s5 (v_u17 k x0 s5))] (.leaf (res_u2 (v_u17 k x0 s5)) (bo_u2 s5 x0 (v_u17 k x0 s5)))) (by kernel_rfl) ?_
 by_cases q : ((f_u17 k x0 s5).isSome = true)
 ·rw [if_pos q] at h
  refine ⟨(conjC (cc_u17 k x0 s5 q) conj0), ?_⟩
  cases h; exact ⟨rfl, rfl⟩
 ·rw [if_neg q] at h; cases h
theorem cc_u2 (k : Nat) (s5 : T4.T) (x0 : T2.T) (h : (f_u2 k s5 x0).isSome = true) : YC Tryz.prog (args_u2 s5 x0) (bin_u2 s5 x0) (res_u2 (v_u2 k s5 x0)) (bo_u2 s5 x0 (v_u2 k s5 x0)) := by
 cases e : f_u2 k s5 x0 with
 | none => rw [e] at h; cases h
 | some r => rw [show v_u2 k s5 x0 = r by simp [v_u2, e]]; exact of_u2 k s5 x0 r e

end
end Go.AM
namespace Go.AM
open Go Go.Proofs Go.IntKind
set_option linter.unusedVariables false
noncomputable section
abbrev R_u29 : Type := T4.T × Int
def res_u29 (r : R_u29) : AV := .tup []
def bo_u29 (yield_5 : T4.T) (z00 : Int) (z100 : Int) (z101 : Int) (z102 : List (T2).T) (z103 : List ((I).T × (I).T)) (r : R_u29) : List (Nat × Blk) := [(0, .loop .ready none (rcAt Tryz.f14 8 [48]) (mkS 40 [(5, .ptr 1 0 0)])), (0, .var 26 (rvs (enc T4 r.1))), (0, .var 3 [.r (.v (.int .i64 r.2))]), (0, .var 66 [.ptr 4 0 0]), (0, .var 73 [.r (.v (.int .i64 z100)), .r (.v (.int .i64 z101)), .r (.ro T2 z102), .own 5 0]), (0, .map false I I z103)]
def args_u29 (yield_5 : T4.T) (z00 : Int) (z100 : Int) (z101 : Int) (z102 : List (T2).T) (z103 : List ((I).T × (I).T)) : List AV := [.own 0 0, .ptr 2 0 0, .ptr 3 0 0]
def bin_u29 (yield_5 : T4.T) (z00 : Int) (z100 : Int) (z101 : Int) (z102 : List (T2).T) (z103 : List ((I).T × (I).T)) : List Blk := [.loop .ready none (rcAt Tryz.f14 8 [48]) (mkS 40 [(5, .ptr 1 0 0)]), .var 26 (rvs (enc T4 yield_5)), .var 3 [.r (.v (.int .i64 z00))], .var 66 [.ptr 4 0 0], .var 73 [.r (.v (.int .i64 z100)), .r (.v (.int .i64 z101)), .r (.ro T2 z102), .own 5 0], .map false I I z103]
def st_u29_0 (yield_5 : T4.T) (z00 : Int) (z100 : Int) (z101 : Int) (z102 : List (T2).T) (z103 : List ((I).T × (I).T)) (y0 : T4.T) (y1 : Int) : St := ⟨mkS 25 [(0, .own 0 0), (1, .ptr 2 0 0), (2, .ptr 3 0 0)], [(0, 0, .loop .ready none (rcAt Tryz.f14 8 [48]) (mkS 40 [(5, .ptr 1 0 0)])), (1, 0, .var 26 (rvs (enc T4 y0))), (2, 0, .var 3 [.r (.v (.int .i64 y1))]), (3, 0, .var 66 [.ptr 4 0 0]), (4, 0, .var 73 [.r (.v (.int .i64 z100)), .r (.v (.int .i64 z101)), .r (.ro T2 z102), .own 5 0]), (5, 0, .map false I I z103)]⟩
def f_u29_0 (k : Nat) (yield_5 : T4.T) (z00 : Int) (z100 : Int) (z101 : Int) (z102 : List (T2).T) (z103 : List ((I).T × (I).T)) : Nat → T4.T → Int → Option R_u29
 | 0, _, _ => none
 | j + 1, y0, y1 =>
 bif (y1 != (0 : Int)) then
 if ((0 : Int) ≤ (mget I y1 z103).getD (0 : Int)) ∧ ((mget I y1 z103).getD (0 : Int) < (↑z102.length : Int)) then
 if ((f_u2 k y0 (z102.getD (Int.toNat ((mget I y1 z103).getD 0)) T2.dflt)).isSome = true) then
 f_u29_0 k yield_5 z00 z100 z101 z102 z103 j ((v_u2 k y0 (z102.getD (Int.toNat ((mget I y1 z103).getD 0)) T2.dflt))) ((z102.getD (Int.toNat ((mget I y1 z103).getD 0)) T2.dflt).2.1)
 else none
 else none
 else
 some ((y0, y1))
def f_u29 (k : Nat) (yield_5 : T4.T) (z00 : Int) (z100 : Int) (z101 : Int) (z102 : List (T2).T) (z103 : List ((I).T × (I).T)) : Option R_u29 :=
 f_u29_0 k yield_5 z00 z100 z101 z102 z103 k yield_5 z00
def v_u29 (k : Nat) (yield_5 : T4.T) (z00 : Int) (z100 : Int) (z101 : Int) (z102 : List (T2).T) (z103 : List ((I).T × (I).T)) : R_u29 := (f_u29 k yield_5 z00 z100 z101 z102 z103).getD ((T4).dflt, 0)
def K_u29 (k : Nat) : Calld := ⟨fun g xs => match g with
 | 1000000 => match xs with
  | [_] => some [false]
  | _ => none
 | _ => none, fun g xs bs => match g with
 | 1000000 => match xs, bs with
  | [.agg qx0], [.loop _ _ _ qs, .var 26 qs5] => (decS [] T2 qx0).bind fun x0 => (decS [] T4 qs5).bind fun s5 => some (.one (res_u2 (v_u2 k s5 x0), bo_u2 s5 x0 (v_u2 k s5 x0)))
  | _, _ => none
 | _ => none⟩
theorem ev_u29 (k : Nat) (yield_5 : T4.T) (z00 : Int) (z100 : Int) (z101 : Int) (z102 : List (T2).T) (z103 : List ((I).T × (I).T)) : ∀ j, (∀ (y0 : T4.T) (y1 : Int) (r : R_u29), f_u29_0 k yield_5 z00 z100 z101 z102 z103 j y0 y1 = some r → Ev Tryz.prog Tryz.f52 6 (placeAt Tryz.f52 0) (st_u29_0 yield_5 z00 z100 z101 z102 z103 y0 y1) (res_u29 r) (bo_u29 yield_5 z00 z100 z101 z102 z103 r))
 | 0 => by
  intros; rename_i h; simp [f_u29_0] at h
 | j + 1 => by
  have ih := ev_u29 k yield_5 z00 z100 z101 z102 z103 j
  ·intro y0 y1 r h
   rw [f_u29_0] at h
   refine Ev.tree hm (R := Rt) (K := (K_u29 k)) (l := []) (C := [(0, [.autoB [0, 1, 2] false []])]) (E := [.autoB [] true []]) (n := 1000) (T := .test ((y1 != (0 : Int))) (.need [(0 : Int) ≤ (mget I y1 z103).getD (0 : Int), (mget I y1 z103).getD (0 : Int) < (↑z102.length : Int)] (.need [YC Tryz.prog (args_u2 y0 (z102.getD (Int.toNat ((mget I y1 z103).getD 0)) T2.dflt)) (bin_u2 y0 (z102.getD (Int.toNat ((mget I y1 z103).getD 0)) T2.dflt)) (res_u2 (v_u2 k y0 (z102.getD (Int.toNat ((mget I y1 z103).getD 0)) T2.dflt))) (bo_u2 y0 (z102.getD (Int.toNat ((mget I y1 z103).getD 0)) T2.dflt) (v_u2 k y0 (z102.getD (Int.toNat ((mget I y1 z103).getD 0)) T2.dflt)))] (.test (false) (.leaf (.tup []) [(0, .loop .ready none (rcAt Tryz.f14 8 [48]) (mkS 40 [(5, .ptr 1 0 0)])), (0, .var 26 (rvs (enc T4 ((v_u2 k y0 (z102.getD (Int.toNat ((mget I y1 z103).getD 0)) T2.dflt)))))), (0, .var 3 [.r (.v (.int .i64 y1))]), (0, .var 66 [.ptr 4 0 0]), (0, .var 73 [.r (.v (.int .i64 z100)), .r (.v (.int .i64 z101)), .r (.ro T2 z102), .own 5 0]), (0, .map false I I z103)]) (.cut 0 (placeAt Tryz.f52 0) (st_u29_0 yield_5 z00 z100 z101 z102 z103 ((v_u2 k y0 (z102.getD (Int.toNat ((mget I y1 z103).getD 0)) T2.dflt))) ((z102.getD (Int.toNat ((mget I y1 z103).getD 0)) T2.dflt).2.1)))))) (.leaf (res_u29 ((y0, y1))) (bo_u29 yield_5 z00 z100 z101 z102 z103 ((y0, y1))))) (by kernel_rfl) ?_
   refine ⟨fun c => ?_, fun c => ?_⟩
   ·rw [cond_t (show ((y1 != (0 : Int))) = true from c)] at h
    by_cases q : ((0 : Int) ≤ (mget I y1 z103).getD (0 : Int)) ∧ ((mget I y1 z103).getD (0 : Int) < (↑z102.length : Int))
    ·rw [if_pos q] at h
     refine ⟨(conjC q.1 (conjC q.2 conj0)), ?_⟩
     by_cases q : ((f_u2 k y0 (z102.getD (Int.toNat ((mget I y1 z103).getD 0)) T2.dflt)).isSome = true)
     ·rw [if_pos q] at h
      refine ⟨(conjC (cc_u2 k y0 (z102.getD (Int.toNat ((mget I y1 z103).getD 0)) T2.dflt) q) conj0), ?_⟩
      refine ⟨fun c => ?_, fun c => ?_⟩
      ·cases c
      exact ih ((v_u2 k y0 (z102.getD (Int.toNat ((mget I y1 z103).getD 0)) T2.dflt))) ((z102.getD (Int.toNat ((mget I y1 z103).getD 0)) T2.dflt).2.1) _ h
     ·rw [if_neg q] at h; cases h
    ·rw [if_neg q] at h; cases h
   ·rw [cond_f (show ((y1 != (0 : Int))) = false from c)] at h
    cases h; exact ⟨rfl, rfl⟩
theorem of_u29 (k : Nat) (yield_5 : T4.T) (z00 : Int) (z100 : Int) (z101 : Int) (z102 : List (T2).T) (z103 : List ((I).T × (I).T)) (r : R_u29) (h : f_u29 k yield_5 z00 z100 z101 z102 z103 = some r) : CC Tryz.prog 52 (args_u29 yield_5 z00 z100 z101 z102 z103) (bin_u29 yield_5 z00 z100 z101 z102 z103) (res_u29 r) (bo_u29 yield_5 z00 z100 z101 z102 z103 r) := by
 refine CC.of (fn := Tryz.f52) (by kernel_rfl) (by kernel_rfl) (by kernel_rfl) (by kernel_rfl) ?_
 unfold f_u29 at h
 refine Ev.tree hm (R := Rt) (K := (K_u29 k)) (l := []) (C := [(0, [.autoB [0, 1, 2] false []])]) (E := [.autoB [] true []]) (n := 1000) (T := .cut 0 (placeAt Tryz.f52 0) (st_u29_0 yield_5 z00 z100 z101 z102 z103 yield_5 z00)) (by kernel_rfl) ?_
 exact (ev_u29 k yield_5 z00 z100 z101 z102 z103 k) yield_5 z00 _ h
theorem cc_u29 (k : Nat) (yield_5 : T4.T) (z00 : Int) (z100 : Int) (z101 : Int) (z102 : List (T2).T) (z103 : List ((I).T × (I).T)) (h : (f_u29 k yield_5 z00 z100 z101 z102 z103).isSome = true) : CC Tryz.prog 52 (args_u29 yield_5 z00 z100 z101 z102 z103) (bin_u29 yield_5 z00 z100 z101 z102 z103) (res_u29 (v_u29 k yield_5 z00 z100 z101 z102 z103)) (bo_u29 yield_5 z00 z100 z101 z102 z103 (v_u29 k yield_5 z00 z100 z101 z102 z103)) := by
 cases e : f_u29 k yield_5 z00 z100 z101 z102 z103 with
 | none => rw [e] at h; cases h
 | some r => rw [show v_u29 k yield_5 z00 z100 z101 z102 z103 = r by simp [v_u29, e]]; exact of_u29 k yield_5 z00 z100 z101 z102 z103 r e

end
end Go.AM
namespace Go.AM
open Go Go.Proofs Go.IntKind
set_option linter.unusedVariables false
noncomputable section
abbrev R_u11 : Type := T4.T × Int
def res_u11 (r : R_u11) : AV := .tup [.agg (rvs (enc T4 r.1)), .r (.v (.int .i64 r.2))]
def bo_u11 (l_ : List (T2).T) (web_ : T5.T) (p_ : T4.T) (r : R_u11) : List (Nat × Blk) := []
def args_u11 (l_ : List (T2).T) (web_ : T5.T) (p_ : T4.T) : List AV := [.r (.ro T2 l_), .agg (rvs (enc T5 web_)), .agg (rvs (enc T4 p_))]
def bin_u11 (l_ : List (T2).T) (web_ : T5.T) (p_ : T4.T) : List Blk := []
def f_u11 (k : Nat) (l_ : List (T2).T) (web_ : T5.T) (p_ : T4.T) : Option R_u11 :=
 bif (Sum.isLeft (v_u14 k l_ web_ p_.1)) then
 if ((f_u14 k l_ web_ p_.1).isSome = true) then
 bif (vA_u14 k l_ web_ p_.1 != (0 : Int)) then
 some (((0, (0, 0)), vA_u14 k l_ web_ p_.1))
 else
 none
 else none
 else
 if ((f_u14 k l_ web_ p_.1).isSome = true) then
 bif ((vB_u14 k l_ web_ p_.1).1 != (0 : Int)) then
 some (((0, (0, 0)), (vB_u14 k l_ web_ p_.1).1))
 else
 if ((f_u26 k (vB_u14 k l_ web_ p_.1).2.1 (vB_u14 k l_ web_ p_.1).2.2.1 (vB_u14 k l_ web_ p_.1).2.2.2.1 (vB_u14 k l_ web_ p_.1).2.2.2.2 p_).isSome = true) then
 bif (v_u26 k (vB_u14 k l_ web_ p_.1).2.1 (vB_u14 k l_ web_ p_.1).2.2.1 (vB_u14 k l_ web_ p_.1).2.2.2.1 (vB_u14 k l_ web_ p_.1).2.2.2.2 p_ != (0 : Int)) then
 some (((0, (0, 0)), v_u26 k (vB_u14 k l_ web_ p_.1).2.1 (vB_u14 k l_ web_ p_.1).2.2.1 (vB_u14 k l_ web_ p_.1).2.2.2.1 (vB_u14 k l_ web_ p_.1).2.2.2.2 p_))
 else
 if ((f_u28 k (vB_u14 k l_ web_ p_.1).2.1 (vB_u14 k l_ web_ p_.1).2.2.1 (vB_u14 k l_ web_ p_.1).2.2.2.1 (vB_u14 k l_ web_ p_.1).2.2.2.2 p_.1).isSome = true) then
 if ((f_u29 k p_ (v_u28 k (vB_u14 k l_ web_ p_.1).2.1 (vB_u14 k l_ web_ p_.1).2.2.1 (vB_u14 k l_ web_ p_.1).2.2.2.1 (vB_u14 k l_ web_ p_.1).2.2.2.2 p_.1) (vB_u14 k l_ web_ p_.1).2.1 (vB_u14 k l_ web_ p_.1).2.2.1 (vB_u14 k l_ web_ p_.1).2.2.2.1 (vB_u14 k l_ web_ p_.1).2.2.2.2).isSome = true) then
 some (((v_u29 k p_ (v_u28 k (vB_u14 k l_ web_ p_.1).2.1 (vB_u14 k l_ web_ p_.1).2.2.1 (vB_u14 k l_ web_ p_.1).2.2.2.1 (vB_u14 k l_ web_ p_.1).2.2.2.2 p_.1) (vB_u14 k l_ web_ p_.1).2.1 (vB_u14 k l_ web_ p_.1).2.2.1 (vB_u14 k l_ web_ p_.1).2.2.2.1 (vB_u14 k l_ web_ p_.1).2.2.2.2).1, 0))
 else none
 else none
 else none
 else none
def v_u11 (k : Nat) (l_ : List (T2).T) (web_ : T5.T) (p_ : T4.T) : R_u11 := (f_u11 k l_ web_ p_).getD ((T4).dflt, 0)
def K_u11 (k : Nat) : Calld := ⟨fun g xs => match g with
 | 30 => match xs with
  | [_, _, _] => some [false, false, false]
  | _ => none
 | 31 => match xs with
  | [.ptr _ _ _, _] => some [true, false]
  | _ => none
 | 32 => match xs with
  | [_, _] => some [false, false]
  | _ => none
 | 36 => match xs with
  | [.ptr _ _ _, _] => some [true, false]
  | _ => none
 | 52 => match xs with
  | [.own _ _, .ptr _ _ _, .ptr _ _ _] => some [true, true, true]
  | _ => none
 | _ => none, fun g xs bs => match g with
 | 30 => match xs, bs with
  | [.r (.ro tl__ ql_), .agg qweb_, .r (.v (.int .i64 id_))], [] => (castL tl__ T2 ql_).bind fun l_ => (decS [] T5 qweb_).bind fun web_ => some (.two (v_u14 k l_ web_ id_).isLeft (resA_u14 (vA_u14 k l_ web_ id_), boA_u14 l_ web_ id_ (vA_u14 k l_ web_ id_)) (resB_u14 (vB_u14 k l_ web_ id_), boB_u14 l_ web_ id_ (vB_u14 k l_ web_ id_)))
  | _, _ => none
 | 31 => match xs, bs with
  | [.ptr 0 0 0, .agg qp_], [.var 73 [.r (.v (.int .i64 g_0)), .r (.v (.int .i64 g_1)), .r (.ro tg_2_ qg_2), .own 1 0], .map false kg_3_ tg_3_ qg_3] => (decS [] T4 qp_).bind fun p_ => (castL tg_2_ T2 qg_2).bind fun g_2 => (castM kg_3_ tg_3_ I I qg_3).bind fun g_3 => some (.one (res_u26 (v_u26 k g_0 g_1 g_2 g_3 p_), bo_u26 g_0 g_1 g_2 g_3 p_ (v_u26 k g_0 g_1 g_2 g_3 p_)))
  | _, _ => none
 | 32 => match xs, bs with
  | [.agg qr_, .agg qp_], [] => (decS [] T2 qr_).bind fun r_ => (decS [] T4 qp_).bind fun p_ => some (.one (res_u17 (v_u17 k r_ p_), bo_u17 r_ p_ (v_u17 k r_ p_)))
  | _, _ => none
 | 36 => match xs, bs with
  | [.ptr 0 0 0, .r (.v (.int .i64 id_))], [.var 73 [.r (.v (.int .i64 g_0)), .r (.v (.int .i64 g_1)), .r (.ro tg_2_ qg_2), .own 1 0], .map false kg_3_ tg_3_ qg_3] => (castL tg_2_ T2 qg_2).bind fun g_2 => (castM kg_3_ tg_3_ I I qg_3).bind fun g_3 => some (.one (res_u28 (v_u28 k g_0 g_1 g_2 g_3 id_), bo_u28 g_0 g_1 g_2 g_3 id_ (v_u28 k g_0 g_1 g_2 g_3 id_)))
  | _, _ => none
 | 52 => match xs, bs with
  | [.own 0 0, .ptr 2 0 0, .ptr 3 0 0], [.loop _ _ _ qyield_, .var 26 qyield_5, .var 3 [.r (.v (.int .i64 z00))], .var 66 [.ptr 4 0 0], .var 73 [.r (.v (.int .i64 z100)), .r (.v (.int .i64 z101)), .r (.ro tz102_ qz102), .own 5 0], .map false kz103_ tz103_ qz103] => (decS [] T4 qyield_5).bind fun yield_5 => (castL tz102_ T2 qz102).bind fun z102 => (castM kz103_ tz103_ I I qz103).bind fun z103 => some (.one (res_u29 (v_u29 k yield_5 z00 z100 z101 z102 z103), bo_u29 yield_5 z00 z100 z101 z102 z103 (v_u29 k yield_5 z00 z100 z101 z102 z103)))
  | _, _ => none
 | _ => none⟩
theorem of_u11 (k : Nat) (l_ : List (T2).T) (web_ : T5.T) (p_ : T4.T) (r : R_u11) (h : f_u11 k l_ web_ p_ = some r) : CC Tryz.prog 14 (args_u11 l_ web_ p_) (bin_u11 l_ web_ p_) (res_u11 r) (bo_u11 l_ web_ p_ r) := by
 refine CC.of (fn := Tryz.f14) (by kernel_rfl) (by kernel_rfl) (by kernel_rfl) (by kernel_rfl) ?_
 unfold f_u11 at h
 refine Ev.tree hm (R := Rt) (K := (K_u11 k)) (l := []) (C := []) (E := [.autoB [6, 7] true []]) (n := 1000) (T := .test ((Sum.isLeft (v_u14 k l_ web_ p_.1))) (.need [CC Tryz.prog 30 (args_u14 l_ web_ p_.1) (bin_u14 l_ web_ p_.1) (resA_u14 (vA_u14 k l_ web_ p_.1)) (boA_u14 l_ web_ p_.1 (vA_u14 k l_ web_ p_.1))] (.test ((vA_u14 k l_ web_ p_.1 != (0 : Int))) (.leaf (res_u11 (((0, (0, 0)), vA_u14 k l_ web_ p_.1))) (bo_u11 l_ web_ p_ (((0, (0, 0)), vA_u14 k l_ web_ p_.1)))) (.stuck 2002))) (.need [CC Tryz.prog 30 (args_u14 l_ web_ p_.1) (bin_u14 l_ web_ p_.1) (resB_u14 (vB_u14 k l_ web_ p_.1)) (boB_u14 l_ web_ p_.1 (vB_u14 k l_ web_ p_.1))] (.test (((vB_u14 k l_ web_ p_.1).1 != (0 : Int))) (.leaf (res_u11 (((0, (0, 0)), (vB_u14 k l_ web_ p_.1).1))) (bo_u11 l_ web_ p_ (((0, (0, 0)), (vB_u14 k l_ web_ p_.1).1)))) (.need [CC Tryz.prog 31 (args_u26 (vB_u14 k l_ web_ p_.1).2.1 (vB_u14 k l_ web_ p_.1).2.2.1 (vB_u14 k l_ web_ p_.1).2.2.2.1 (vB_u14 k l_ web_ p_.1).2.2.2.2 p_) (bin_u26 (vB_u14 k l_ web_ p_.1).2.1 (vB_u14 k l_ web_ p_.1).2.2.1 (vB_u14 k l_ web_ p_.1).2.2.2.1 (vB_u14 k l_ web_ p_.1).2.2.2.2 p_) (res_u26 (v_u26 k (vB_u14 k l_ web_ p_.1).2.1 (vB_u14 k l_ web_ p_.1).2.2.1 (vB_u14 k l_ web_ p_.1).2.2.2.1 (vB_u14 k l_ web_ p_.1).2.2.2.2 p_)) (bo_u26 (vB_u14 k l_ web_ p_.1).2.1 (vB_u14 k l_ web_ p_.1).2.2.1 (vB_u14 k l_ web_ p_.1).2.2.2.1 (vB_u14 k l_ web_ p_.1).2.2.2.2 p_ (v_u26 k (vB_u14 k l_ web_ p_.1).2.1 (vB_u14 k l_ web_ p_.1).2.2.1 (vB_u14 k l_ web_ p_.1).2.2.2.1 (vB_u14 k l_ web_ p_.1).2.2.2.2 p_))] (.test ((v_u26 k (vB_u14 k l_ web_ p_.1).2.1 (vB_u14 k l_ web_ p_.1).2.2.1 (vB_u14 k l_ web_ p_.1).2.2.2.1 (vB_u14 k l_ web_ p_.1).2.2.2.2 p_ != (0 : Int))) (.leaf (res_u11 (((0, (0, 0)), v_u26 k (vB_u14 k l_ web_ p_.1).2.1 (vB_u14 k l_ web_ p_.1).2.2.1 (vB_u14 k l_ web_ p_.1).2.2.2.1 (vB_u14 k l_ web_ p_.1).2.2.2.2 p_))) (bo_u11 l_ web_ p_ (((0, (0, 0)), v_u26 k (vB_u14 k l_ web_ p_.1).2.1 (vB_u14 k l_ web_ p_.1).2.2.1 (vB_u14 k l_ web_ p_.1).2.2.2.1 (vB_u14 k l_ web_ p_.1).2.2.2.2 p_)))) (.need [CC Tryz.prog 36 (args_u28 (vB_u14 k l_ web_ p_.1).2.1 (vB_u14 k l_ web_ p_.1).2.2.1 (vB_u14 k l_ web_ p_.1).2.2.2.1 (vB_u14 k l_ web_ p_.1).2.2.2.2 p_.1) (bin_u28 (vB_u14 k l_ web_ p_.1).2.1 (vB_u14 k l_ web_ p_.1).2.2.1 (vB_u14 k l_ web_ p_.1).2.2.2.1 (vB_u14 k l_ web_ p_.1).2.2.2.2 p_.1) (res_u28 (v_u28 k (vB_u14 k l_ web_ p_.1).2.1 (vB_u14 k l_ web_ p_.1).2.2.1 (vB_u14 k l_ web_ p_.1).2.2.2.1 (vB_u14 k l_ web_ p_.1).2.2.2.2 p_.1)) (bo_u28 (vB_u14 k l_ web_ p_.1).2.1 (vB_u14 k l_ web_ p_.1).2.2.1 (vB_u14 k l_ web_ p_.1).2.2.2.1 (vB_u14 k l_ web_ p_.1).2.2.2.2 p_.1 (v_u28 k (vB_u14 k l_ web_ p_.1).2.1 (vB_u14 k l_ web_ p_.1).2.2.1 (vB_u14 k l_ web_ p_.1).2.2.2.1 (vB_u14 k l_ web_ p_.1).2.2.2.2 p_.1))] (.need [CC Tryz.prog 52 (args_u29 p_ (v_u28 k (vB_u14 k l_ web_ p_.1).2.1 (vB_u14 k l_ web_ p_.1).2.2.1 (vB_u14 k l_ web_ p_.1).2.2.2.1 (vB_u14 k l_ web_ p_.1).2.2.2.2 p_.1) (vB_u14 k l_ web_ p_.1).2.1 (vB_u14 k l_ web_ p_.1).2.2.1 (vB_u14 k l_ web_ p_.1).2.2.2.1 (vB_u14 k l_ web_ p_.1).2.2.2.2) (bin_u29 p_ (v_u28 k (vB_u14 k l_ web_ p_.1).2.1 (vB_u14 k l_ web_ p_.1).2.2.1 (vB_u14 k l_ web_ p_.1).2.2.2.1 (vB_u14 k l_ web_ p_.1).2.2.2.2 p_.1) (vB_u14 k l_ web_ p_.1).2.1 (vB_u14 k l_ web_ p_.1).2.2.1 (vB_u14 k l_ web_ p_.1).2.2.2.1 (vB_u14 k l_ web_ p_.1).2.2.2.2) (res_u29 (v_u29 k p_ (v_u28 k (vB_u14 k l_ web_ p_.1).2.1 (vB_u14 k l_ web_ p_.1).2.2.1 (vB_u14 k l_ web_ p_.1).2.2.2.1 (vB_u14 k l_ web_ p_.1).2.2.2.2 p_.1) (vB_u14 k l_ web_ p_.1).2.1 (vB_u14 k l_ web_ p_.1).2.2.1 (vB_u14 k l_ web_ p_.1).2.2.2.1 (vB_u14 k l_ web_ p_.1).2.2.2.2)) (bo_u29 p_ (v_u28 k (vB_u14 k l_ web_ p_.1).2.1 (vB_u14 k l_ web_ p_.1).2.2.1 (vB_u14 k l_ web_ p_.1).2.2.2.1 (vB_u14 k l_ web_ p_.1).2.2.2.2 p_.1) (vB_u14 k l_ web_ p_.1).2.1 (vB_u14 k l_ web_ p_.1).2.2.1 (vB_u14 k l_ web_ p_.1).2.2.2.1 (vB_u14 k l_ web_ p_.1).2.2.2.2 (v_u29 k p_ (v_u28 k (vB_u14 k l_ web_ p_.1).2.1 (vB_u14 k l_ web_ p_.1).2.2.1 (vB_u14 k l_ web_ p_.1).2.2.2.1 (vB_u14 k l_ web_ p_.1).2.2.2.2 p_.1) (vB_u14 k l_ web_ p_.1).2.1 (vB_u14 k l_ web_ p_.1).2.2.1 (vB_u14 k l_ web_ p_.1).2.2.2.1 (vB_u14 k l_ web_ p_.1).2.2.2.2))] (.leaf (res_u11 (((v_u29 k p_ (v_u28 k (vB_u14 k l_ web_ p_.1).2.1 (vB_u14 k l_ web_ p_.1).2.2.1 (vB_u14 k l_ web_ p_.1).2.2.2.1 (vB_u14 k l_ web_ p_.1).2.2.2.2 p_.1) (vB_u14 k l_ web_ p_.1).2.1 (vB_u14 k l_ web_ p_.1).2.2.1 (vB_u14 k l_ web_ p_.1).2.2.2.1 (vB_u14 k l_ web_ p_.1).2.2.2.2).1, 0))) (bo_u11 l_ web_ p_ (((v_u29 k p_ (v_u28 k (vB_u14 k l_ web_ p_.1).2.1 (vB_u14 k l_ web_ p_.1).2.2.1 (vB_u14 k l_ web_ p_.1).2.2.2.1 (vB_u14 k l_ web_ p_.1).2.2.2.2 p_.1) (vB_u14 k l_ web_ p_.1).2.1 (vB_u14 k l_ web_ p_.1).2.2.1 (vB_u14 k l_ web_ p_.1).2.2.2.1 (vB_u14 k l_ web_ p_.1).2.2.2.2).1, 0))))))))))) (by kernel_rfl) ?_
 refine ⟨fun c => ?_, fun c => ?_⟩
 ·rw [cond_t (show ((Sum.isLeft (v_u14 k l_ web_ p_.1))) = true from c)] at h
  by_cases q : ((f_u14 k l_ web_ p_.1).isSome = true)
  ·rw [if_pos q] at h
   refine ⟨(conjC (ccA_u14 k l_ web_ p_.1 q (by assumption)) conj0), ?_⟩
   refine ⟨fun c => ?_, fun c => ?_⟩
   ·rw [cond_t (show ((vA_u14 k l_ web_ p_.1 != (0 : Int))) = true from c)] at h
    cases h; exact ⟨rfl, rfl⟩
   ·rw [cond_f (show ((vA_u14 k l_ web_ p_.1 != (0 : Int))) = false from c)] at h
    cases h
  ·rw [if_neg q] at h; cases h
 ·rw [cond_f (show ((Sum.isLeft (v_u14 k l_ web_ p_.1))) = false from c)] at h
  by_cases q : ((f_u14 k l_ web_ p_.1).isSome = true)
  ·rw [if_pos q] at h
   refine ⟨(conjC (ccB_u14 k l_ web_ p_.1 q (by assumption)) conj0), ?_⟩
   refine ⟨fun c => ?_, fun c => ?_⟩
   ·rw [cond_t (show (((vB_u14 k l_ web_ p_.1).1 != (0 : Int))) = true from c)] at h
    cases h; exact ⟨rfl, rfl⟩
   ·rw [cond_f (show (((vB_u14 k l_ web_ p_.1).1 != (0 : Int))) = false from c)] at h
    by_cases q : ((f_u26 k (vB_u14 k l_ web_ p_.1).2.1 (vB_u14 k l_ web_ p_.1).2.2.1 (vB_u14 k l_ web_ p_.1).2.2.2.1 (vB_u14 k l_ web_ p_.1).2.2.2.2 p_).isSome = true)
    ·rw [if_pos q] at h
     refine ⟨(conjC (cc_u26 k (vB_u14 k l_ web_ p_.1).2.1 (vB_u14 k l_ web_ p_.1).2.2.1 (vB_u14 k l_ web_ p_.1).2.2.2.1 (vB_u14 k l_ web_ p_.1).2.2.2.2 p_ q) conj0), ?_⟩
     refine ⟨fun c => ?_, fun c => ?_⟩
     ·rw [cond_t (show ((v_u26 k (vB_u14 k l_ web_ p_.1).2.1 (vB_u14 k l_ web_ p_.1).2.2.1 (vB_u14 k l_ web_ p_.1).2.2.2.1 (vB_u14 k l_ web_ p_.1).2.2.2.2 p_ != (0 : Int))) = true from c)] at h
      cases h; exact ⟨rfl, rfl⟩
     ·rw [cond_f (show ((v_u26 k (vB_u14 k l_ web_ p_.1).2.1 (vB_u14 k l_ web_ p_.1).2.2.1 (vB_u14 k l_ web_ p_.1).2.2.2.1 (vB_u14 k l_ web_ p_.1).2.2.2.2 p_ != (0 : Int))) = false from c)] at h
      by_cases q : ((f_u28 k (vB_u14 k l_ web_ p_.1).2.1 (vB_u14 k l_ web_ p_.1).2.2.1 (vB_u14 k l_ web_ p_.1).2.2.2.1 (vB_u14 k l_ web_ p_.1).2.2.2.2 p_.1).isSome = true)
      ·rw [if_pos q] at h
       refine ⟨(conjC (cc_u28 k (vB_u14 k l_ web_ p_.1).2.1 (vB_u14 k l_ web_ p_.1).2.2.1 (vB_u14 k l_ web_ p_.1).2.2.2.1 (vB_u14 k l_ web_ p_.1).2.2.2.2 p_.1 q) conj0), ?_⟩
       by_cases q : ((f_u29 k p_ (v_u28 k (vB_u14 k l_ web_ p_.1).2.1 (vB_u14 k l_ web_ p_.1).2.2.1 (vB_u14 k l_ web_ p_.1).2.2.2.1 (vB_u14 k l_ web_ p_.1).2.2.2.2 p_.1) (vB_u14 k l_ web_ p_.1).2.1 (vB_u14 k l_ web_ p_.1).2.2.1 (vB_u14 k l_ web_ p_.1).2.2.2.1 (vB_u14 k l_ web_ p_.1).2.2.2.2).isSome = true)
       ·rw [if_pos q] at h
        refine ⟨(conjC (cc_u29 k p_ (v_u28 k (vB_u14 k l_ web_ p_.1).2.1 (vB_u14 k l_ web_ p_.1).2.2.1 (vB_u14 k l_ web_ p_.1).2.2.2.1 (vB_u14 k l_ web_ p_.1).2.2.2.2 p_.1) (vB_u14 k l_ web_ p_.1).2.1 (vB_u14 k l_ web_ p_.1).2.2.1 (vB_u14 k l_ web_ p_.1).2.2.2.1 (vB_u14 k l_ web_ p_.1).2.2.2.2 q) conj0), ?_⟩
        cases h; exact ⟨rfl, rfl⟩
       ·rw [if_neg q] at h; cases h
      ·rw [if_neg q] at h; cases h
    ·rw [if_neg q] at h; cases h
  ·rw [if_neg q] at h; cases h
theorem cc_u11 (k : Nat) (l_ : List (T2).T) (web_ : T5.T) (p_ : T4.T) (h : (f_u11 k l_ web_ p_).isSome = true) : CC Tryz.prog 14 (args_u11 l_ web_ p_) (bin_u11 l_ web_ p_) (res_u11 (v_u11 k l_ web_ p_)) (bo_u11 l_ web_ p_ (v_u11 k l_ web_ p_)) := by
 cases e : f_u11 k l_ web_ p_ with
 | none => rw [e] at h; cases h
 | some r => rw [show v_u11 k l_ web_ p_ = r by simp [v_u11, e]]; exact of_u11 k l_ web_ p_ r e

end
end Go.AM
namespace Go.AM
open Go Go.Proofs Go.IntKind
set_option linter.unusedVariables false
noncomputable section
abbrev R_u87 : Type := Int × Int × Int
def res_u87 (r : R_u87) : AV := .tup [.r (.v (.int .i64 r.1)), .r (.v (.int .i64 r.2.1)), .r (.v (.int .i64 r.2.2))]
def bo_u87 (l_ : List (T2).T) (web_ : T6.T) (id_ : Int) (r : R_u87) : List (Nat × Blk) := []
def args_u87 (l_ : List (T2).T) (web_ : T6.T) (id_ : Int) : List AV := [.r (.ro T2 l_), .agg (rvs (enc T6 web_)), .r (.v (.int .i64 id_))]
def bin_u87 (l_ : List (T2).T) (web_ : T6.T) (id_ : Int) : List Blk := []
def f_u87 (k : Nat) (l_ : List (T2).T) (web_ : T6.T) (id_ : Int) : Option R_u87 :=
 if ((f_u79 k l_ web_.1 web_.2).isSome = true) then
 bif (v_u79 k l_ web_.1 web_.2 != (0 : Int)) then
 some ((0, 0, v_u79 k l_ web_.1 web_.2))
 else
 bif (id_ == (0 : Int)) then
 some ((web_.1, web_.2, 0))
 else
 if ((f_u82 k l_ (↑l_.length : Int) id_).isSome = true) then
 bif (decide (v_u82 k l_ (↑l_.length : Int) id_ < (0 : Int))) then
 some ((0, 0, 7))
 else
 if ((0 : Int) ≤ v_u82 k l_ (↑l_.length : Int) id_) ∧ (v_u82 k l_ (↑l_.length : Int) id_ < (↑l_.length : Int)) ∧ ((0 : Int) ≤ v_u82 k l_ (↑l_.length : Int) id_) ∧ (v_u82 k l_ (↑l_.length : Int) id_ < (↑l_.length : Int)) ∧ ((f_u85 k (l_.getD (Int.toNat (v_u82 k l_ (↑l_.length : Int) id_)) T2.dflt).2.2.2.2.2).isSome = true) then
 some (((l_.getD (Int.toNat (v_u82 k l_ (↑l_.length : Int) id_)) T2.dflt).2.2.2.1, v_u85 k (l_.getD (Int.toNat (v_u82 k l_ (↑l_.length : Int) id_)) T2.dflt).2.2.2.2.2, 0))
 else none
 else none
 else none
def v_u87 (k : Nat) (l_ : List (T2).T) (web_ : T6.T) (id_ : Int) : R_u87 := (f_u87 k l_ web_ id_).getD (0, 0, 0)
def K_u87 (k : Nat) : Calld := ⟨fun g xs => match g with
 | 35 => match xs with
  | [_, _, _] => some [false, false, false]
  | _ => none
 | 43 => match xs with
  | [_] => some [false]
  | _ => none
 | 20 => match xs with
  | [_, _, _] => some [false, false, false]
  | _ => none
 | _ => none, fun g xs bs => match g with
 | 35 => match xs, bs with
  | [.r (.ro tl__ ql_), .r (.v (.int .i64 n_)), .r (.v (.int .i64 id_))], [] => (castL tl__ T2 ql_).bind fun l_ => some (.one (res_u82 (v_u82 k l_ n_ id_), bo_u82 l_ n_ id_ (v_u82 k l_ n_ id_)))
  | _, _ => none
 | 43 => match xs, bs with
  | [.r (.ro tm__ qm_)], [] => (castL tm__ T0 qm_).bind fun m_ => some (.one (res_u85 (v_u85 k m_), bo_u85 m_ (v_u85 k m_)))
  | _, _ => none
 | 20 => match xs, bs with
  | [.r (.ro tl__ ql_), .r (.v (.int .i64 width_)), .r (.v (.int .i64 length_))], [] => (castL tl__ T2 ql_).bind fun l_ => some (.one (res_u79 (v_u79 k l_ width_ length_), bo_u79 l_ width_ length_ (v_u79 k l_ width_ length_)))
  | _, _ => none
 | _ => none⟩
theorem of_u87 (k : Nat) (l_ : List (T2).T) (web_ : T6.T) (id_ : Int) (r : R_u87) (h : f_u87 k l_ web_ id_ = some r) : CC Tryz.prog 22 (args_u87 l_ web_ id_) (bin_u87 l_ web_ id_) (res_u87 r) (bo_u87 l_ web_ id_ r) := by
 refine CC.of (fn := Tryz.f22) (by kernel_rfl) (by kernel_rfl) (by kernel_rfl) (by kernel_rfl) ?_
 unfold f_u87 at h
 refine Ev.tree hm (R := Rt) (K := (K_u87 k)) (l := []) (C := []) (E := [.autoB [6, 7, 8] true []]) (n := 1000) (T := .need [CC Tryz.prog 20 (args_u79 l_ web_.1 web_.2) (bin_u79 l_ web_.1 web_.2) (res_u79 (v_u79 k l_ web_.1 web_.2)) (bo_u79 l_ web_.1 web_.2 (v_u79 k l_ web_.1 web_.2))] (.test ((v_u79 k l_ web_.1 web_.2 != (0 : Int))) (.leaf (res_u87 ((0, 0, v_u79 k l_ web_.1 web_.2))) (bo_u87 l_ web_ id_ ((0, 0, v_u79 k l_ web_.1 web_.2)))) (.test ((id_ == (0 : Int))) (.leaf (res_u87 ((web_.1, web_.2, 0))) (bo_u87 l_ web_ id_ ((web_.1, web_.2, 0)))) (.need [CC Tryz.prog 35 (args_u82 l_ (↑l_.length : Int) id_) (bin_u82 l_ (↑l_.length : Int) id_) (res_u82 (v_u82 k l_ (↑l_.length : Int) id_)) (bo_u82 l_ (↑l_.length : Int) id_ (v_u82 k l_ (↑l_.length : Int) id_))] (.test ((decide (v_u82 k l_ (↑l_.length : Int) id_ < (0 : Int)))) (.leaf (res_u87 ((0, 0, 7))) (bo_u87 l_ web_ id_ ((0, 0, 7)))) (.need [(0 : Int) ≤ v_u82 k l_ (↑l_.length : Int) id_, v_u82 k l_ (↑l_.length : Int) id_ < (↑l_.length : Int), (0 : Int) ≤ v_u82 k l_ (↑l_.length : Int) id_, v_u82 k l_ (↑l_.length : Int) id_ < (↑l_.length : Int), CC Tryz.prog 43 (args_u85 (l_.getD (Int.toNat (v_u82 k l_ (↑l_.length : Int) id_)) T2.dflt).2.2.2.2.2) (bin_u85 (l_.getD (Int.toNat (v_u82 k l_ (↑l_.length : Int) id_)) T2.dflt).2.2.2.2.2) (res_u85 (v_u85 k (l_.getD (Int.toNat (v_u82 k l_ (↑l_.length : Int) id_)) T2.dflt).2.2.2.2.2)) (bo_u85 (l_.getD (Int.toNat (v_u82 k l_ (↑l_.length : Int) id_)) T2.dflt).2.2.2.2.2 (v_u85 k (l_.getD (Int.toNat (v_u82 k l_ (↑l_.length : Int) id_)) T2.dflt).2.2.2.2.2))] (.leaf (res_u87 (((l_.getD (Int.toNat (v_u82 k l_ (↑l_.length : Int) id_)) T2.dflt).2.2.2.1, v_u85 k (l_.getD (Int.toNat (v_u82 k l_ (↑l_.length : Int) id_)) T2.dflt).2.2.2.2.2, 0))) (bo_u87 l_ web_ id_ (((l_.getD (Int.toNat (v_u82 k l_ (↑l_.length : Int) id_)) T2.dflt).2.2.2.1, v_u85 k (l_.getD (Int.toNat (v_u82 k l_ (↑l_.length : Int) id_)) T2.dflt).2.2.2.2.2, 0)))))))))) (by kernel_rfl) ?_
 by_cases q : ((f_u79 k l_ web_.1 web_.2).isSome = true)
 ·rw [if_pos q] at h
  refine ⟨(conjC (cc_u79 k l_ web_.1 web_.2 q) conj0), ?_⟩
  refine ⟨fun c => ?_, fun c => ?_⟩
  ·rw [cond_t (show ((v_u79 k l_ web_.1 web_.2 != (0 : Int))) = true from c)] at h
   cases h; exact ⟨rfl, rfl⟩
  ·rw [cond_f (show ((v_u79 k l_ web_.1 web_.2 != (0 : Int))) = false from c)] at h
   refine ⟨fun c => ?_, fun c => ?_⟩
   ·rw [cond_t (show ((id_ == (0 : Int))) = true from c)] at h
    cases h; exact ⟨rfl, rfl⟩
   ·rw [cond_f (show ((id_ == (0 : Int))) = false from c)] at h
    by_cases q : ((f_u82 k l_ (↑l_.length : Int) id_).isSome = true)
    ·rw [if_pos q] at h
     refine ⟨(conjC (cc_u82 k l_ (↑l_.length : Int) id_ q) conj0), ?_⟩
     refine ⟨fun c => ?_, fun c => ?_⟩
     ·rw [cond_t (show ((decide (v_u82 k l_ (↑l_.length : Int) id_ < (0 : Int)))) = true from c)] at h
      cases h; exact ⟨rfl, rfl⟩
     ·rw [cond_f (show ((decide (v_u82 k l_ (↑l_.length : Int) id_ < (0 : Int)))) = false from c)] at h
      by_cases q : ((0 : Int) ≤ v_u82 k l_ (↑l_.length : Int) id_) ∧ (v_u82 k l_ (↑l_.length : Int) id_ < (↑l_.length : Int)) ∧ ((0 : Int) ≤ v_u82 k l_ (↑l_.length : Int) id_) ∧ (v_u82 k l_ (↑l_.length : Int) id_ < (↑l_.length : Int)) ∧ ((f_u85 k (l_.getD (Int.toNat (v_u82 k l_ (↑l_.length : Int) id_)) T2.dflt).2.2.2.2.2).isSome = true)
      ·rw [if_pos q] at h
       refine ⟨(conjC q.1 (conjC q.2.1 (conjC q.2.2.1 (conjC q.2.2.2.1 (conjC (cc_u85 k (l_.getD (Int.toNat (v_u82 k l_ (↑l_.length : Int) id_)) T2.dflt).2.2.2.2.2 q.2.2.2.2) conj0))))), ?_⟩
       cases h; exact ⟨rfl, rfl⟩
      ·rw [if_neg q] at h; cases h
    ·rw [if_neg q] at h; cases h
 ·rw [if_neg q] at h; cases h
theorem cc_u87 (k : Nat) (l_ : List (T2).T) (web_ : T6.T) (id_ : Int) (h : (f_u87 k l_ web_ id_).isSome = true) : CC Tryz.prog 22 (args_u87 l_ web_ id_) (bin_u87 l_ web_ id_) (res_u87 (v_u87 k l_ web_ id_)) (bo_u87 l_ web_ id_ (v_u87 k l_ web_ id_)) := by
 cases e : f_u87 k l_ web_ id_ with
 | none => rw [e] at h; cases h
 | some r => rw [show v_u87 k l_ web_ id_ = r by simp [v_u87, e]]; exact of_u87 k l_ web_ id_ r e

end
end Go.AM
namespace Go.AM
open Go Go.Proofs Go.IntKind
set_option linter.unusedVariables false
noncomputable section
end
end Go.AM
namespace Go.AM
open Go Go.Proofs Go.IntKind
set_option linter.unusedVariables false
noncomputable section
end
end Go.AM
namespace Go.AM
open Go Go.Proofs Go.IntKind
set_option linter.unusedVariables false
noncomputable section
end
end Go.AM
namespace Go.AM
open Go Go.Proofs Go.IntKind
set_option linter.unusedVariables false
noncomputable section
end
end Go.AM
