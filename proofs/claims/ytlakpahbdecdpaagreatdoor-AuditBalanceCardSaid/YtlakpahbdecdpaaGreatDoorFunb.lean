/- Contracts of the functions that the law reaches, and the plain law. -/
import Derived.Test.YtlakpahbdecdpaaGreatDoorFuna
set_option linter.unusedVariables false
set_option linter.unusedSimpArgs false
set_option linter.unusedSectionVars false
namespace Go.AM
open Go

/-! ### registers of rolls -/
abbrev Ch := Int × Int × Bool × List Rn   -- Left, Width, Turn, Runs
abbrev Ro := Int × Int × Ch               -- ID, Parent, Cut
abbrev Pt := Int × Int × Int              -- Roll, Across, Along

def look (l : List Ro) (id : Int) : Option Ro := l.find? fun r => r.1 == id

def imageS (m : List Rn) : List Sp × Int := if chk m ≠ 0 then ([], chk m) else (nf (m.map spn), 0)
def singleS (m : List Rn) : Bool := decide (chk m = 0) && (tot (nf (m.map spn)) == lenS m)

/-- the size of a roll, or of the web -/
def sizeS (l : List Ro) (W L id : Int) : Int × Int := if id = 0 then (W, L) else match look l id with
  | some r => (r.2.2.2.1, lenS r.2.2.2.2.2)
  | none => (0, 0)

/-- the error of a cut of a roll of a size -/
def cutE (c : Ch) (w n : Int) : Int :=
  if c.1 < 0 ∨ c.2.1 < 1 ∨ c.1 > w ∨ c.2.1 > w - c.1 then 20 else if chk c.2.2.2 ≠ 0 then chk c.2.2.2 else if c.2.2.2 = [] then 10
  else if singleS c.2.2.2 = false then 12 else if fitsIn n c.2.2.2 then 0 else 21
/-- the error of a roll behind others -/
def fitsS (p : List Ro) (W L : Int) (r : Ro) : Int :=
  if r.1 < 1 ∨ r.1 > 1000000 then 1 else if r.2.1 ≠ 0 ∧ look p r.2.1 = none then 7 else cutE r.2.2 (sizeS p W L r.2.1).1 (sizeS p W L r.2.1).2

def meetS (a b : List Rn) : Bool := a.any fun x => b.any fun y => decide (lo x ≤ hi y) && decide (lo y ≤ hi x)
def ovlS (a b : Ch) : Bool := (decide (a.1 < b.1 + b.2.1) && decide (b.1 < a.1 + a.2.1)) && meetS a.2.2.2 b.2.2.2
def clash (p : List Ro) (r : Ro) : Bool := p.any fun b => (r.2.1 == b.2.1) && ovlS r.2.2 b.2.2

def errsGo (W L : Int) : List Ro → List Ro → Int
  | _, [] => 0
  | p, r :: t => if fitsS p W L r ≠ 0 then fitsS p W L r else errsGo W L (p ++ [r]) t
def dupGo : List Ro → List Ro → Bool
  | _, [] => false
  | p, r :: t => (look p r.1).isSome || dupGo (p ++ [r]) t
def clashGo : List Ro → List Ro → Bool
  | _, [] => false
  | p, r :: t => clash p r || clashGo (p ++ [r]) t

/-- the error of a register -/
def checkS (l : List Ro) (W L : Int) : Int :=
  if W < 1 ∨ W > 12000 ∨ L < 0 ∨ L > 17179869184 then 1 else if l.length > 512 then 8 else if errsGo W L [] l ≠ 0 then errsGo W L [] l
  else if dupGo [] l = true then 6 else if clashGo [] l = true then 12 else 0

theorem look_append (a b : List Ro) (id : Int) : look (a ++ b) id = (look a id).or (look b id) := by
  unfold look; exact List.find?_append
theorem look_some {l : List Ro} {id : Int} {r : Ro} (h : look l id = some r) : r ∈ l ∧ r.1 = id := by
  unfold look at h
  exact ⟨List.mem_of_find?_eq_some h, by have := List.find?_some h; simpa using this⟩
structure CutOk (c : Ch) (w n : Int) : Prop where
  left : 0 ≤ c.1
  width : 1 ≤ c.2.1
  right : c.1 + c.2.1 ≤ w
  chk : Chk c.2.2.2
  ne : c.2.2.2 ≠ []
  single : singleS c.2.2.2 = true
  fits : fitsIn n c.2.2.2
theorem cutE_zero {c : Ch} {w n : Int} : cutE c w n = 0 ↔ CutOk c w n := by
  unfold cutE
  constructor
  · intro h
    by_cases h1 : c.1 < 0 ∨ c.2.1 < 1 ∨ c.1 > w ∨ c.2.1 > w - c.1
    · rw [if_pos h1] at h; omega
    · rw [if_neg h1] at h
      by_cases h2 : chk c.2.2.2 ≠ 0
      · rw [if_pos h2] at h; exact absurd h h2
      · rw [if_neg h2] at h
        by_cases h3 : c.2.2.2 = []
        · rw [if_pos h3] at h; omega
        · rw [if_neg h3] at h
          by_cases h4 : singleS c.2.2.2 = false
          · rw [if_pos h4] at h; omega
          · rw [if_neg h4] at h
            by_cases h5 : fitsIn n c.2.2.2
            · exact ⟨by omega, by omega, by omega, chk_zero.1 (Classical.not_not.1 h2), h3, by simpa using h4, h5⟩
            · rw [if_neg h5] at h; omega
  · rintro ⟨h1, h2, h3, h4, h5, h6, h7⟩
    rw [if_neg (by omega), if_neg (fun h => h (chk_zero.2 h4)), if_neg h5, if_neg (by simp [h6]), if_pos h7]
structure FitOk (p : List Ro) (W L : Int) (r : Ro) : Prop where
  id0 : 1 ≤ r.1
  id1 : r.1 ≤ 1000000
  parent : r.2.1 = 0 ∨ ∃ q, look p r.2.1 = some q
  cut : CutOk r.2.2 (sizeS p W L r.2.1).1 (sizeS p W L r.2.1).2
theorem fitsS_zero {p : List Ro} {W L : Int} {r : Ro} : fitsS p W L r = 0 ↔ FitOk p W L r := by
  unfold fitsS
  constructor
  · intro h
    by_cases h1 : r.1 < 1 ∨ r.1 > 1000000
    · rw [if_pos h1] at h; omega
    · rw [if_neg h1] at h
      by_cases h2 : r.2.1 ≠ 0 ∧ look p r.2.1 = none
      · rw [if_pos h2] at h; omega
      · rw [if_neg h2] at h
        refine ⟨by omega, by omega, ?_, cutE_zero.1 h⟩
        by_cases h3 : r.2.1 = 0
        · exact .inl h3
        · right
          cases h4 : look p r.2.1 with
          | none => exact absurd ⟨h3, h4⟩ h2
          | some q => exact ⟨q, rfl⟩
  · rintro ⟨h1, h2, h3, h4⟩
    rw [if_neg (by omega), if_neg (fun h => by
      rcases h3 with h3 | ⟨q, h3⟩
      · exact h.1 h3
      · rw [h3] at h; cases h.2), cutE_zero.2 h4]

/-- a valid register: each roll fits behind those before it, is of a new number, and clashes with none -/
inductive Okp (W L : Int) : List Ro → Prop
  | nil : Okp W L []
  | snoc (p : List Ro) (r : Ro) (h : Okp W L p) (f : FitOk p W L r) (n : look p r.1 = none) (c : clash p r = false) : Okp W L (p ++ [r])
structure Reg (l : List Ro) (W L : Int) : Prop where
  w : 1 ≤ W ∧ W ≤ 12000
  len : 0 ≤ L ∧ L ≤ 17179869184
  num : l.length ≤ 512
  ok : Okp W L l
theorem okp_go {W L : Int} : ∀ (t p : List Ro), Okp W L p → errsGo W L p t = 0 → dupGo p t = false → clashGo p t = false → Okp W L (p ++ t)
  | [], p, h, _, _, _ => by simpa using h
  | r :: t, p, h, he, hd, hc => by
    rw [errsGo] at he
    rw [dupGo, Bool.or_eq_false_iff] at hd
    rw [clashGo, Bool.or_eq_false_iff] at hc
    have hf : fitsS p W L r = 0 := by
      by_cases q : fitsS p W L r = 0
      · exact q
      · rw [if_pos q] at he; exact absurd he q
    rw [if_neg (fun h => h hf)] at he
    have := okp_go t (p ++ [r]) (.snoc p r h (fitsS_zero.1 hf) (by cases e : look p r.1 <;> simp_all) hc.1) he hd.2 hc.2
    simpa using this
theorem go_okp {W L : Int} {l : List Ro} (h : Okp W L l) : ∀ (t p : List Ro), l = p ++ t → errsGo W L p t = 0 ∧ dupGo p t = false ∧ clashGo p t = false := by
  induction h with
  | nil =>
    intro t p e
    have : t = [] ∧ p = [] := by
      have := e.symm
      simp at this
      exact ⟨this.2, this.1⟩
    obtain ⟨rfl, rfl⟩ := this
    exact ⟨rfl, rfl, rfl⟩
  | snoc q r h f n c ih =>
    intro t p e
    rcases List.eq_nil_or_concat t with rfl | ⟨t', r', rfl⟩
    · exact ⟨rfl, rfl, rfl⟩
    · rw [List.concat_eq_append] at *
      rw [← List.append_assoc] at e
      obtain ⟨e1, e2⟩ := List.append_inj' e rfl
      simp only [List.cons.injEq, and_true] at e2
      subst e2
      obtain ⟨i1, i2, i3⟩ := ih t' p e1
      have key : ∀ (t' p : List Ro), errsGo W L p t' = 0 → dupGo p t' = false → clashGo p t' = false → fitsS (p ++ t') W L r = 0 → look (p ++ t') r.1 = none → clash (p ++ t') r = false → errsGo W L p (t' ++ [r]) = 0 ∧ dupGo p (t' ++ [r]) = false ∧ clashGo p (t' ++ [r]) = false := fun t' => by
        induction t' with
        | nil =>
          intro p _ _ _ a b c
          rw [List.append_nil] at a b c
          rw [List.nil_append, errsGo, dupGo, clashGo, if_neg (fun h => h a), b, c]
          exact ⟨rfl, rfl, rfl⟩
        | cons u v ih =>
          intro p a1 a2 a3 a4 a5 a6
          rw [errsGo] at a1
          rw [dupGo, Bool.or_eq_false_iff] at a2
          rw [clashGo, Bool.or_eq_false_iff] at a3
          have hf : fitsS p W L u = 0 := by
            by_cases q : fitsS p W L u = 0
            · exact q
            · rw [if_pos q] at a1; exact absurd a1 q
          rw [if_neg (fun h => h hf)] at a1
          have e3 : p ++ u :: v = p ++ [u] ++ v := by simp
          rw [e3] at a4 a5 a6
          obtain ⟨b1, b2, b3⟩ := ih (p ++ [u]) a1 a2.2 a3.2 a4 a5 a6
          rw [List.cons_append, errsGo, dupGo, clashGo, if_neg (fun h => h hf), a2.1, a3.1]
          exact ⟨b1, b2, b3⟩
      rw [e1] at f n c
      exact key t' p i1 i2 i3 (fitsS_zero.2 f) n c
theorem checkS_zero {l : List Ro} {W L : Int} : checkS l W L = 0 ↔ Reg l W L := by
  unfold checkS
  constructor
  · intro h
    by_cases h1 : W < 1 ∨ W > 12000 ∨ L < 0 ∨ L > 17179869184
    · rw [if_pos h1] at h; omega
    · rw [if_neg h1] at h
      by_cases h2 : l.length > 512
      · rw [if_pos h2] at h; omega
      · rw [if_neg h2] at h
        by_cases h3 : errsGo W L [] l ≠ 0
        · rw [if_pos h3] at h; exact absurd h h3
        · rw [if_neg h3] at h
          by_cases h4 : dupGo [] l = true
          · rw [if_pos h4] at h; omega
          · rw [if_neg h4] at h
            by_cases h5 : clashGo [] l = true
            · rw [if_pos h5] at h; omega
            · have := okp_go l [] (W := W) (L := L) .nil (Classical.not_not.1 h3) (by simpa using h4) (by simpa using h5)
              exact ⟨by omega, by omega, by omega, by simpa using this⟩
  · rintro ⟨h1, h2, h3, h4⟩
    obtain ⟨a, b, c⟩ := go_okp h4 l [] rfl
    rw [if_neg (by omega), if_neg (by omega), if_neg (fun h => h a), if_neg (by rw [b]; decide), if_neg (by rw [c]; decide)]
/-! ### images, and whether they are single -/
theorem spn_in {m : List Rn} (h : goods m) : In 0 17179869184 (m.map spn) := In.of fun s hs => by
  obtain ⟨r, hr, rfl⟩ := List.mem_map.1 hs
  obtain ⟨a, b, c, d⟩ := (h.mem r hr).lohi
  exact ⟨a, by show lo r ≤ hi r + 1; omega, by show hi r + 1 ≤ _; omega⟩
theorem normS_spn {m : List Rn} (h : Chk m) : normS (m.map spn) = (nf (m.map spn), 0) := by
  unfold normS
  rw [if_neg (fun e => e (chkS_zero.2 ⟨by rw [List.length_map]; exact h.len, spn_in h.goods⟩))]
theorem totalS_nf {m : List Rn} (h : Chk m) : totalS (nf (m.map spn)) = (tot (nf (m.map spn)), 0) := by
  have hi := spn_in h.goods
  have hl := nf_len hi
  have hm := h.len
  rw [List.length_map] at hl
  unfold totalS
  rw [if_neg (fun e => e (chkS_zero.2 ⟨by omega, nf_in hi⟩)), nf_self (nf_in hi) (nf_nr hi)]

theorem iso_images_s (k : Nat) (r : Rn) (h : good r) : f_u39 k r = some (spn r) := by
  have h' := h
  obtain ⟨g1, g2, g3, g4, _⟩ := h'
  obtain ⟨l1, l2, l3, l4⟩ := h.lohi
  unfold f_u39
  rw [wrap_id (i := r.snd.fst - 1) (by omega) (by omega), iso_image_s k r _ (by omega) (by omega) (by omega) (by omega), iso_image_v k r _ (by omega) (by omega) (by omega) (by omega), max_ends h, min_ends h, wrap_id (by omega) (by omega)]
  rfl
theorem iso_images_v (k : Nat) (r : Rn) (h : good r) : v_u39 k r = spn r := by
  unfold v_u39; rw [iso_images_s k r h]; rfl

theorem iso_Image_l (k : Nat) (hk : 2100 ≤ k) (m : List Rn) (hc : Chk m) : ∀ (j i : Nat), i ≤ m.length → m.length - i + 1 < j →
    f_u35_6 k j m (m.length : Int) (i : Int) ((m.take i).map spn) = some (nf (m.map spn), 0) := by
  have hml := hc.len
  intro j
  induction j with
  | zero => intros; omega
  | succ j ih =>
    intro i hi hj
    rw [f_u35_6]
    by_cases h : i < m.length
    · have hgr : good (m.getD i T3.dflt) := hc.goods.mem _ (by simp [h])
      have ht := take_snoc m i T3.dflt h
      have := ih (i + 1) (by omega) (by omega)
      rw [ht, List.map_append] at this
      rw [decide_eq_true (by omega : (i : Int) < (m.length : Int)), cond_true, if_pos ⟨by omega, by omega⟩, Int.toNat_natCast, iso_images_s k _ hgr, iso_images_v k _ hgr, if_pos ⟨rfl, by rw [List.length_map, List.length_take, List.length_singleton]; omega⟩, wrapS i (by omega)]
      exact this
    · obtain ⟨j, rfl⟩ : ∃ q, j = q + 1 := ⟨j - 1, by omega⟩
      rw [decide_eq_false (by omega : ¬ (i : Int) < (m.length : Int)), cond_false, List.take_of_length_le (by omega), f_u35_10, span_Norm_s k hk, span_Norm_v k hk, normS_spn hc]
      rfl
theorem iso_Image_s (k : Nat) (hk : 2100 ≤ k) (m : List Rn) : f_u35 k m = some (imageS m) := by
  unfold f_u35 imageS
  rw [iso_Check_s k (by omega), iso_Check_v k (by omega), Option.isSome_some, if_pos rfl]
  by_cases h1 : chk m = 0
  · have hc := chk_zero.1 h1
    have hml := hc.len
    rw [show (chk m != 0) = false by simp [h1], cond_false, if_neg (fun h : chk m ≠ 0 => h h1)]
    exact iso_Image_l k hk m hc k 0 (by omega) (by omega)
  · rw [show (chk m != 0) = true by simp [h1], cond_true, if_pos h1]
theorem iso_Image_v (k : Nat) (hk : 2100 ≤ k) (m : List Rn) : v_u35 k m = imageS m := by
  unfold v_u35; rw [iso_Image_s k hk]; rfl

theorem iso_Single_s (k : Nat) (hk : 2100 ≤ k) (m : List Rn) : f_u37 k m = some (singleS m) := by
  unfold f_u37 singleS
  rw [iso_Image_s k hk, iso_Image_v k hk, Option.isSome_some, if_pos rfl]
  unfold imageS
  by_cases h1 : chk m = 0
  · have hc := chk_zero.1 h1
    have hml := hc.len
    rw [if_neg (fun h : chk m ≠ 0 => h h1), decide_eq_true h1, Bool.true_and]
    show (bif (0 : Int) != 0 then _ else _) = _
    rw [show ((0 : Int) != 0) = false from rfl, cond_false]
    show (if (f_u93 k (nf (m.map spn))).isSome = true then _ else none) = _
    rw [span_Total_s k (by omega)]
    show (bif ((v_u93 k (nf (m.map spn))).snd == 0) then _ else _) = _
    rw [span_Total_v k (by omega), totalS_nf hc, iso_length_s k m hc.goods (by omega) (by omega), iso_length_v k m hc.goods (by omega) (by omega)]
    rfl
  · rw [if_pos h1, decide_eq_false h1, Bool.false_and]
    show (bif chk m != 0 then some false else _) = _
    rw [show (chk m != 0) = true by simp [h1], cond_true]
theorem iso_Single_v (k : Nat) (hk : 2100 ≤ k) (m : List Rn) : v_u37 k m = singleS m := by
  unfold v_u37; rw [iso_Single_s k hk]; rfl

end Go.AM
namespace Go.AM
open Go Go.Proofs
noncomputable section
abbrev R_u25 : Type := Int × Int
def res_u25 (r : R_u25) : AV := .tup [.r (.v (.int .i64 r.1)), .r (.v (.int .i64 r.2))]
def bo_u25 (x_ : T3.T) (r : R_u25) : List (Nat × Blk) := []
def args_u25 (x_ : T3.T) : List AV := [.agg (rvs (enc T3 x_))]
def bin_u25 (x_ : T3.T) : List Blk := []
abbrev C_u25 (x_ : T3.T) (r : R_u25) : Prop := CC Tryz.prog 121 (args_u25 x_) (bin_u25 x_) (res_u25 r) (bo_u25 x_ r)
def f_u25 (k : Nat) (x_ : T3.T) : Option R_u25 :=
  bif x_.2.2 then
  some ((IntKind.i64.wrap (IntKind.i64.wrap (x_.1 - x_.2.1) + 1), x_.1))
  else
  some ((x_.1, IntKind.i64.wrap (IntKind.i64.wrap (x_.1 + x_.2.1) - 1)))
def v_u25 (k : Nat) (x_ : T3.T) : R_u25 := (f_u25 k x_).getD (0, 0)
def ke_u25 (k : Nat) : Ke := (121, fun xs => match xs with
  | [_] => some [false]
  | _ => none, fun xs bs => match xs, bs with
  | [.agg qx_], [] => (decS [] T3 qx_).bind fun x_ => some (.one (res_u25 (v_u25 k x_), bo_u25 x_ (v_u25 k x_)))
  | _, _ => none)
theorem of_u25 (k : Nat) (x_ : T3.T) (r : R_u25) (h : f_u25 k x_ = some r) : C_u25 x_ r := by
  refine CC.of (fn := Tryz.f121) (by kernel_rfl) (by kernel_rfl) (by kernel_rfl) (by kernel_rfl) ?_
  unfold f_u25 at h
  exact go (mkK []) [] [] [.autoB [2, 3] true []] (gT h (fun c h => gL h) fun c h => gL h) (by kernel_rfl)
theorem cc_u25 {k : Nat} {x_ : T3.T} (h : (f_u25 k x_).isSome = true) : C_u25 x_ (v_u25 k x_) := ccG (Φ := C_u25 x_) h (of_u25 k x_)
abbrev R_u27 : Type := Bool
def res_u27 (r : R_u27) : AV := .r (.v (.bool r))
def bo_u27 (a_ : T4.T) (b_ : T4.T) (r : R_u27) : List (Nat × Blk) := []
def args_u27 (a_ : T4.T) (b_ : T4.T) : List AV := [.agg (rvs (enc T4 a_)), .agg (rvs (enc T4 b_))]
def bin_u27 (a_ : T4.T) (b_ : T4.T) : List Blk := []
abbrev C_u27 (a_ : T4.T) (b_ : T4.T) (r : R_u27) : Prop := CC Tryz.prog 73 (args_u27 a_ b_) (bin_u27 a_ b_) (res_u27 r) (bo_u27 a_ b_ r)
def st_u27_4 (y0 : List (T3).T) (y1 : Int) (y2 : Int) (y3 : T4.T) : St := ⟨mkS 65 [(3, .ptr 1000000 0 0), (32, .r (.ro T3 y0)), (33, .r (.v (.int .i64 y1))), (34, .r (.v (.int .i64 y2)))], [(1000000, 0, .var 45 (rvs (enc T4 y3)))]⟩
def st_u27_8 (y0 : Int) (y1 : Int) (y2 : List (T3).T) (y3 : Int) (y4 : Int) (y5 : List (T3).T) (y6 : Int) (y7 : Int) (y8 : T4.T) : St := ⟨mkS 65 [(3, .ptr 1000000 0 0), (7, .r (.v (.int .i64 y0))), (8, .r (.v (.int .i64 y1))), (32, .r (.ro T3 y2)), (33, .r (.v (.int .i64 y3))), (34, .r (.v (.int .i64 y4))), (44, .r (.ro T3 y5)), (45, .r (.v (.int .i64 y6))), (46, .r (.v (.int .i64 y7)))], [(1000000, 0, .var 45 (rvs (enc T4 y8)))]⟩
mutual
def f_u27_4 (k : Nat) : Nat → List (T3).T → Int → Int → T4.T → Option R_u27
  | 0, _, _, _, _ => none
  | j + 1, y0, y1, y2, y3 =>
  bif (decide (y2 < y1)) then
  if (0 ≤ y2) ∧ (y2 < (↑y0.length : Int)) then
  if ((f_u25 k (y0.getD y2.toNat T3.dflt)).isSome = true) then
  f_u27_8 k j ((v_u25 k (y0.getD y2.toNat T3.dflt)).1) ((v_u25 k (y0.getD y2.toNat T3.dflt)).2) y0 y1 y2 y3.2.2.2 ((↑ (List.length y3.2.2.2) : Int)) 0 y3
  else none
  else none
  else
  some false
def f_u27_8 (k : Nat) : Nat → Int → Int → List (T3).T → Int → Int → List (T3).T → Int → Int → T4.T → Option R_u27
  | 0, _, _, _, _, _, _, _, _, _ => none
  | j + 1, y0, y1, y2, y3, y4, y5, y6, y7, y8 =>
  bif (decide (y7 < y6)) then
  if (0 ≤ y7) ∧ (y7 < (↑y5.length : Int)) then
  if ((f_u25 k (y5.getD y7.toNat T3.dflt)).isSome = true) then
  bif (decide (y0 ≤ (v_u25 k (y5.getD y7.toNat T3.dflt)).2) && decide ((v_u25 k (y5.getD y7.toNat T3.dflt)).1 ≤ y1)) then
  some true
  else
  f_u27_8 k j y0 y1 y2 y3 y4 y5 y6 ((IntKind.i64.wrap (y7 + 1))) y8
  else none
  else none
  else
  f_u27_4 k j y2 y3 ((IntKind.i64.wrap (y4 + 1))) y8
end
def f_u27 (k : Nat) (a_ : T4.T) (b_ : T4.T) : Option R_u27 :=
  bif (decide (IntKind.i64.wrap (a_.1 + a_.2.1) ≤ b_.1) || decide (IntKind.i64.wrap (b_.1 + b_.2.1) ≤ a_.1)) then
  some false
  else
  f_u27_4 k k a_.2.2.2 ((↑ (List.length a_.2.2.2) : Int)) 0 b_
def v_u27 (k : Nat) (a_ : T4.T) (b_ : T4.T) : R_u27 := (f_u27 k a_ b_).getD false
def ke_u27 (k : Nat) : Ke := (73, fun xs => match xs with
  | [_, _] => some [false, false]
  | _ => none, fun xs bs => match xs, bs with
  | [.agg qa_, .agg qb_], [] => (decS [] T4 qa_).bind fun a_ => (decS [] T4 qb_).bind fun b_ => some (.one (res_u27 (v_u27 k a_ b_), bo_u27 a_ b_ (v_u27 k a_ b_)))
  | _, _ => none)
def cs_u27 : List (Nat × List Cmd) := [(4, [.autoB [3, 32, 33, 34] false []]), (8, [.autoB [3, 7, 8, 32, 33, 34, 44, 45, 46] false []])]
abbrev E_u27 (a_ : T4.T) (b_ : T4.T) (todo : List Item) (st : St) (o : Option R_u27) : Prop := ∀ r, o = some r → Ev Tryz.prog Tryz.f73 0 todo st (res_u27 r) (bo_u27 a_ b_ r)
theorem ev_u27 (k : Nat) (a_ : T4.T) (b_ : T4.T) : ∀ j, (∀ (y0 : List (T3).T) (y1 : Int) (y2 : Int) (y3 : T4.T), E_u27 a_ b_ (placeAt Tryz.f73 4) (st_u27_4 y0 y1 y2 y3) (f_u27_4 k j y0 y1 y2 y3)) ∧ (∀ (y0 : Int) (y1 : Int) (y2 : List (T3).T) (y3 : Int) (y4 : Int) (y5 : List (T3).T) (y6 : Int) (y7 : Int) (y8 : T4.T), E_u27 a_ b_ (placeAt Tryz.f73 8) (st_u27_8 y0 y1 y2 y3 y4 y5 y6 y7 y8) (f_u27_8 k j y0 y1 y2 y3 y4 y5 y6 y7 y8))
  | 0 => ⟨fun _ _ _ _ _ h => (nomatch h), fun _ _ _ _ _ _ _ _ _ _ h => (nomatch h)⟩
  | j + 1 => by
    have ih := @ev_u27 k a_ b_ j
    refine ⟨?_, ?_⟩
    · intro y0 y1 y2 y3 r h
      rw [f_u27_4] at h
      exact go (mkK [ke_u25 k]) [] cs_u27 [.autoB [4] true []] (gT h (fun c h => gN2 h fun h => gN1 h (fun q => cc_u25 q) fun h => gC h 8 (ih.2 _ _ _ _ _ _ _ _ _ _)) fun c h => gL h) (by kernel_rfl)
    · intro y0 y1 y2 y3 y4 y5 y6 y7 y8 r h
      rw [f_u27_8] at h
      exact go (mkK [ke_u25 k]) [] cs_u27 [.autoB [4] true []] (gT h (fun c h => gN2 h fun h => gN1 h (fun q => cc_u25 q) fun h => gT h (fun c h => gL h) fun c h => gC h 8 (ih.2 _ _ _ _ _ _ _ _ _ _)) fun c h => gC h 4 (ih.1 _ _ _ _ _)) (by kernel_rfl)
theorem of_u27 (k : Nat) (a_ : T4.T) (b_ : T4.T) (r : R_u27) (h : f_u27 k a_ b_ = some r) : C_u27 a_ b_ r := by
  refine CC.of (fn := Tryz.f73) (by kernel_rfl) (by kernel_rfl) (by kernel_rfl) (by kernel_rfl) ?_
  unfold f_u27 at h
  exact go (mkK [ke_u25 k]) [] cs_u27 [.autoB [4] true []] (gT h (fun c h => gL h) fun c h => gC h 4 ((ev_u27 k a_ b_ k).1 _ _ _ _ _)) (by kernel_rfl)
theorem cc_u27 {k : Nat} {a_ : T4.T} {b_ : T4.T} (h : (f_u27 k a_ b_).isSome = true) : C_u27 a_ b_ (v_u27 k a_ b_) := ccG (Φ := C_u27 a_ b_) h (of_u27 k a_ b_)
end
end Go.AM
namespace Go.AM
open Go Go.Proofs
noncomputable section
end
end Go.AM
namespace Go.AM
open Go Go.Proofs
noncomputable section
end
end Go.AM
namespace Go.AM
open Go Go.Proofs
noncomputable section
end
end Go.AM
namespace Go.AM
open Go Go.Proofs
noncomputable section
abbrev R_u36 : Type := Int × Int
def res_u36 (r : R_u36) : AV := .tup [.r (.v (.int .i64 r.1)), .r (.v (.int .i64 r.2))]
def bo_u36 (m_ : List (T3).T) (r : R_u36) : List (Nat × Blk) := []
def args_u36 (m_ : List (T3).T) : List AV := [.r (.ro T3 m_)]
def bin_u36 (m_ : List (T3).T) : List Blk := []
abbrev C_u36 (m_ : List (T3).T) (r : R_u36) : Prop := CC Tryz.prog 122 (args_u36 m_) (bin_u36 m_) (res_u36 r) (bo_u36 m_ r)
def f_u36 (k : Nat) (m_ : List (T3).T) : Option R_u36 :=
  if ((f_u34 k m_).isSome = true) then
  bif (v_u34 k m_ != (0 : Int)) then
  some ((0, v_u34 k m_))
  else
  if ((f_u40 k m_).isSome = true) then
  some ((v_u40 k m_, 0))
  else none
  else none
def v_u36 (k : Nat) (m_ : List (T3).T) : R_u36 := (f_u36 k m_).getD (0, 0)
def ke_u36 (k : Nat) : Ke := (122, fun xs => match xs with
  | [_] => some [false]
  | _ => none, fun xs bs => match xs, bs with
  | [.r (.ro tm__ qm_)], [] => (castL tm__ T3 qm_).bind fun m_ => some (.one (res_u36 (v_u36 k m_), bo_u36 m_ (v_u36 k m_)))
  | _, _ => none)
theorem of_u36 (k : Nat) (m_ : List (T3).T) (r : R_u36) (h : f_u36 k m_ = some r) : C_u36 m_ r := by
  refine CC.of (fn := Tryz.f122) (by kernel_rfl) (by kernel_rfl) (by kernel_rfl) (by kernel_rfl) ?_
  unfold f_u36 at h
  exact go (mkK [ke_u34 k, ke_u40 k]) [] [] [.autoB [2, 3] true []] (gN1 h (fun q => cc_u34 q) fun h => gT h (fun c h => gL h) fun c h => gN1 h (fun q => cc_u40 q) fun h => gL h) (by kernel_rfl)
theorem cc_u36 {k : Nat} {m_ : List (T3).T} (h : (f_u36 k m_).isSome = true) : C_u36 m_ (v_u36 k m_) := ccG (Φ := C_u36 m_) h (of_u36 k m_)

end
theorem getD_mem' {α : Type} (l : List α) (i : Nat) (d : α) (h : i < l.length) : l.getD i d ∈ l := by simp [h]
theorem getD_app {α : Type} (p t : List α) (i : Nat) (d : α) (h : i < p.length) : (p ++ t).getD i d = p.getD i d := by simp [List.getElem?_append_left h]
/-! ### the ends of runs, and whether cuts meet -/
theorem fam_bounds_s (k : Nat) (r : Rn) (h : good r) : f_u25 k r = some (lo r, Go.AM.hi r) := by
  obtain ⟨h1, h2, h3, h4, h5, h6⟩ := h
  unfold f_u25 lo Go.AM.hi
  cases hb : r.2.2
  · have := h6 hb
    rw [cond_false, wrap_id (i := r.1 + r.2.1) (by omega) (by omega), wrap_id (by omega) (by omega)]; rfl
  · have := h5 hb
    rw [cond_true, wrap_id (i := r.1 - r.2.1) (by omega) (by omega), wrap_id (by omega) (by omega)]; rfl
theorem fam_bounds_v (k : Nat) (r : Rn) (h : good r) : v_u25 k r = (lo r, Go.AM.hi r) := by
  unfold v_u25; rw [fam_bounds_s k r h]; rfl
def touch (x y : Rn) : Bool := decide (lo x ≤ Go.AM.hi y) && decide (lo y ≤ Go.AM.hi x)
theorem meetS_eq (a b : List Rn) : meetS a b = a.any fun x => b.any fun y => touch x y := rfl

theorem fam_overlap_8 (k : Nat) (x : Rn) (a : List Rn) (la i : Int) (c : Ch) (m : List Rn) (hm : goods m) (hl : m.length ≤ 256) : ∀ (d q n : Nat), q + d = m.length →
    f_u27_8 k (n + d + 1) (lo x) (Go.AM.hi x) a la i m (m.length : Int) (q : Int) c = if (m.drop q).any (touch x) = true then some true else f_u27_4 k n a la (IntKind.i64.wrap (i + 1)) c := by
  intro d
  induction d with
  | zero =>
    intro q n hq
    rw [f_u27_8, decide_eq_false (by omega : ¬ (q : Int) < (m.length : Int)), cond_false, List.drop_of_length_le (by omega), List.any_nil, if_neg (by decide)]
  | succ d ih =>
    intro q n hq
    have hg : good (m.getD q T3.dflt) := hm.mem _ (getD_mem' _ _ _ (by omega))
    rw [show n + (d + 1) + 1 = (n + d + 1) + 1 from rfl, f_u27_8, decide_eq_true (by omega : (q : Int) < (m.length : Int)), cond_true, if_pos ⟨by omega, by omega⟩, Int.toNat_natCast, fam_bounds_s k _ hg, fam_bounds_v k _ hg, Option.isSome_some, if_pos rfl, drop_cons' m q T3.dflt (by omega), List.any_cons, wrapS q (by omega), ih (q + 1) n (by omega)]
    show (bif touch x (m.getD q T3.dflt) then _ else _) = _
    cases touch x (m.getD q T3.dflt)
    · rw [cond_false, Bool.false_or]
    · rw [cond_true, Bool.true_or, if_pos rfl]
set_option maxRecDepth 20000 in
theorem fam_overlap_4 (k : Nat) (a : List Rn) (ha : goods a) (hl : a.length ≤ 256) (c : Ch) (hc : goods c.2.2.2) (hcl : c.2.2.2.length ≤ 256) : ∀ (d i j : Nat), i + d = a.length → d * 258 < j →
    f_u27_4 k j a (a.length : Int) (i : Int) c = some (meetS (a.drop i) c.2.2.2) := by
  intro d
  induction d with
  | zero =>
    intro i j hi hj
    obtain ⟨j, rfl⟩ : ∃ q, j = q + 1 := ⟨j - 1, by omega⟩
    rw [f_u27_4, decide_eq_false (by omega : ¬ (i : Int) < (a.length : Int)), cond_false, List.drop_of_length_le (by omega)]
    rfl
  | succ d ih =>
    intro i j hi hj
    obtain ⟨j, rfl⟩ : ∃ q, j = (q + c.2.2.2.length + 1) + 1 := ⟨j - c.2.2.2.length - 2, by omega⟩
    have hg : good (a.getD i T3.dflt) := ha.mem _ (getD_mem' _ _ _ (by omega))
    have h8 := fam_overlap_8 k (a.getD i T3.dflt) a (a.length : Int) (i : Int) c c.2.2.2 hc hcl c.2.2.2.length 0 j (by omega)
    rw [f_u27_4, decide_eq_true (by omega : (i : Int) < (a.length : Int)), cond_true, if_pos ⟨by omega, by omega⟩, Int.toNat_natCast, fam_bounds_s k _ hg, fam_bounds_v k _ hg, Option.isSome_some, if_pos rfl, drop_cons' a i T3.dflt (by omega), meetS_eq, List.any_cons]
    refine (h8.trans ?_)
    rw [List.drop_zero, wrapS i (by omega), ih (i + 1) j (by omega) (by omega), meetS_eq]
    by_cases h : (c.2.2.2.any (touch (a.getD i T3.dflt))) = true
    · rw [if_pos h, show (c.2.2.2.any fun y => touch (a.getD i T3.dflt) y) = true from h, Bool.true_or]
    · rw [if_neg h, show (c.2.2.2.any fun y => touch (a.getD i T3.dflt) y) = false from by simpa using h, Bool.false_or]
/-- a cut whose numbers do not overflow -/
structure Small (c : Ch) : Prop where
  l0 : 0 ≤ c.1
  w0 : 1 ≤ c.2.1
  r0 : c.1 + c.2.1 ≤ 12000
  chk : Chk c.2.2.2
theorem fam_overlap_s (k : Nat) (hk : 70000 ≤ k) (a b : Ch) (ha : Small a) (hb : Small b) : f_u27 k a b = some (ovlS a b) := by
  obtain ⟨a1, a2, a3, a4⟩ := ha
  obtain ⟨b1, b2, b3, b4⟩ := hb
  unfold f_u27 ovlS
  rw [wrap_id (i := a.1 + a.2.1) (by omega) (by omega), wrap_id (i := b.1 + b.2.1) (by omega) (by omega)]
  by_cases h1 : a.1 + a.2.1 ≤ b.1
  · rw [decide_eq_true h1, Bool.true_or, cond_true, decide_eq_false (by omega : ¬ b.1 < a.1 + a.2.1), Bool.and_false, Bool.false_and]
  · by_cases h2 : b.1 + b.2.1 ≤ a.1
    · rw [decide_eq_true h2, Bool.or_true, cond_true, decide_eq_false (by omega : ¬ a.1 < b.1 + b.2.1), Bool.false_and, Bool.false_and]
    · rw [decide_eq_false h1, decide_eq_false h2, Bool.or_false, cond_false, decide_eq_true (by omega : b.1 < a.1 + a.2.1), decide_eq_true (by omega : a.1 < b.1 + b.2.1), Bool.and_true, Bool.true_and]
      have h1 := a4.len
      exact fam_overlap_4 k a.2.2.2 a4.goods h1 b b4.goods b4.len a.2.2.2.length 0 k (by omega) (by omega)
theorem fam_overlap_v (k : Nat) (hk : 70000 ≤ k) (a b : Ch) (ha : Small a) (hb : Small b) : v_u27 k a b = ovlS a b := by
  unfold v_u27; rw [fam_overlap_s k hk a b ha hb]; rfl

/-! ### lengths -/
theorem iso_Length_s (k : Nat) (hk : 2100 ≤ k) (m : List Rn) (h : Chk m) : f_u36 k m = some (lenS m, 0) := by
  have h1 := h.len
  unfold f_u36
  rw [iso_Check_s k (by omega), iso_Check_v k (by omega), Option.isSome_some, if_pos rfl, chk_zero.2 h]
  show (if _ then _ else _) = _
  rw [iso_length_s k m h.goods (by omega) (by omega), iso_length_v k m h.goods (by omega) (by omega)]
  rfl
theorem iso_Length_v (k : Nat) (hk : 2100 ≤ k) (m : List Rn) (h : Chk m) : v_u36 k m = (lenS m, 0) := by
  unfold v_u36; rw [iso_Length_s k hk m h]; rfl

/-! ### numbers of rolls -/
/-- the place of a number among rolls -/
def At (p : List Ro) (id : Int) (i : Option Int) : Prop := match look p id with
  | none => i = none
  | some r => ∃ q : Nat, i = some (q : Int) ∧ q < p.length ∧ ∀ d, p.getD q d = r
theorem At.none {p : List Ro} {id : Int} {i : Option Int} (h : At p id i) (e : look p id = .none) : i = .none := by
  unfold At at h; rw [e] at h; exact h
theorem At.some {p : List Ro} {id : Int} {i : Option Int} {r : Ro} (h : At p id i) (e : look p id = .some r) : ∃ q : Nat, i = .some (q : Int) ∧ q < p.length ∧ ∀ d, p.getD q d = r := by
  unfold At at h; rw [e] at h; exact h

theorem mget_mset (id v : Int) (x : Int) : ∀ M : List (Int × Int), mget I x (mset I id v M) = if x = id then some v else mget I x M
  | [] => by
    show (bif (x == id) then some v else none) = _
    by_cases h : x = id
    · rw [show (x == id) = true by simp [h], if_pos h]; rfl
    · rw [show (x == id) = false by simp [h], if_neg h]; rfl
  | p :: t => by
    unfold mset
    by_cases h : id = p.1
    · rw [show eqK I id p.1 = true from by show (id == p.1) = true; simp [h], cond_true]
      show (bif (x == id) then some v else mget I x t) = _
      by_cases h2 : x = id
      · simp [h2]
      · rw [if_neg h2, show (x == id) = false by simp [h2], cond_false, mget, show eqK I x p.1 = false from by show (x == p.1) = false; rw [← h]; simp [h2], cond_false]
    · rw [show eqK I id p.1 = false from by show (id == p.1) = false; simp [h], cond_false, mget, mget_mset id v x t]
      show (bif (x == p.1) then some p.2 else _) = if _ then _ else (bif (x == p.1) then some p.2 else _)
      by_cases h2 : x = id
      · rw [if_pos h2, if_pos h2, show (x == p.1) = false by rw [h2]; simp [h], cond_false]
      · rw [if_neg h2, if_neg h2]
/-- a register's map of numbers -/
def RegOk (M : List (Int × Int)) (p : List Ro) : Prop := ∀ id, At p id (mget I id M)
theorem regOk_nil : RegOk [] [] := fun id => by unfold At look; rfl
theorem regOk_old {M : List (Int × Int)} {p : List Ro} (h : RegOk M p) (r : Ro) (hr : (look p r.1).isSome = true) : RegOk M (p ++ [r]) := fun id => by
  have h1 := h id
  unfold At at *
  rw [look_append]
  cases e : look p id with
  | some q =>
    rw [e] at h1
    obtain ⟨i, h2, h3, h4⟩ := h1
    exact ⟨i, h2, by rw [List.length_append]; omega, fun d => by rw [getD_app _ _ _ _ h3]; exact h4 d⟩
  | none =>
    rw [e] at h1
    have : r.1 ≠ id := fun e2 => by rw [e2, e] at hr; cases hr
    rw [Option.none_or, show look [r] id = none by unfold look; simp [this]]
    exact h1
theorem regOk_new {M : List (Int × Int)} {p : List Ro} (h : RegOk M p) (r : Ro) (hr : look p r.1 = none) : RegOk (mset I r.1 (p.length : Int) M) (p ++ [r]) := fun id => by
  have h1 := h id
  rw [mget_mset]
  unfold At at *
  rw [look_append]
  by_cases hi : id = r.1
  · rw [if_pos hi, hi, hr, Option.none_or, show look [r] r.1 = some r by unfold look; simp]
    exact ⟨p.length, rfl, by simp, fun d => by simp⟩
  · rw [if_neg hi]
    cases e : look p id with
    | some q =>
      rw [e] at h1
      obtain ⟨i, h2, h3, h4⟩ := h1
      exact ⟨i, h2, by rw [List.length_append]; omega, fun d => by rw [getD_app _ _ _ _ h3]; exact h4 d⟩
    | none =>
      rw [e] at h1
      rw [Option.none_or, show look [r] id = none by unfold look; simp [Ne.symm hi]]
      exact h1

end Go.AM
namespace Go.AM
open Go Go.Proofs
noncomputable section
abbrev R_u29 : Type := Bool
def res_u29 (r : R_u29) : AV := .r (.v (.bool r))
def bo_u29 (g_0 : Int) (g_1 : Int) (g_2 : List (T5).T) (g_3 : List ((I).T × (I).T)) (id_ : Int) (r : R_u29) : List (Nat × Blk) := [(0, .var 135 [.r (.v (.int .i64 g_0)), .r (.v (.int .i64 g_1)), .r (.ro T5 g_2), .own 1 0]), (0, .map false I I g_3)]
def args_u29 (g_0 : Int) (g_1 : Int) (g_2 : List (T5).T) (g_3 : List ((I).T × (I).T)) (id_ : Int) : List AV := [.ptr 0 0 0, .r (.v (.int .i64 id_))]
def bin_u29 (g_0 : Int) (g_1 : Int) (g_2 : List (T5).T) (g_3 : List ((I).T × (I).T)) (id_ : Int) : List Blk := [.var 135 [.r (.v (.int .i64 g_0)), .r (.v (.int .i64 g_1)), .r (.ro T5 g_2), .own 1 0], .map false I I g_3]
abbrev C_u29 (g_0 : Int) (g_1 : Int) (g_2 : List (T5).T) (g_3 : List ((I).T × (I).T)) (id_ : Int) (r : R_u29) : Prop := CC Tryz.prog 72 (args_u29 g_0 g_1 g_2 g_3 id_) (bin_u29 g_0 g_1 g_2 g_3 id_) (res_u29 r) (bo_u29 g_0 g_1 g_2 g_3 id_ r)
def f_u29 (k : Nat) (g_0 : Int) (g_1 : Int) (g_2 : List (T5).T) (g_3 : List ((I).T × (I).T)) (id_ : Int) : Option R_u29 :=
  some ((mget I id_ g_3).isSome)
def v_u29 (k : Nat) (g_0 : Int) (g_1 : Int) (g_2 : List (T5).T) (g_3 : List ((I).T × (I).T)) (id_ : Int) : R_u29 := (f_u29 k g_0 g_1 g_2 g_3 id_).getD false
def ke_u29 (k : Nat) : Ke := (72, fun xs => match xs with
  | [.ptr _ _ _, _] => some [true, false]
  | _ => none, fun xs bs => match xs, bs with
  | [.ptr 0 0 0, .r (.v (.int .i64 id_))], [.var 135 [.r (.v (.int .i64 g_0)), .r (.v (.int .i64 g_1)), .r (.ro tg_2_ qg_2), .own 1 0], .map false kg_3_ tg_3_ qg_3] => (castL tg_2_ T5 qg_2).bind fun g_2 => (castM kg_3_ tg_3_ I I qg_3).bind fun g_3 => some (.one (res_u29 (v_u29 k g_0 g_1 g_2 g_3 id_), bo_u29 g_0 g_1 g_2 g_3 id_ (v_u29 k g_0 g_1 g_2 g_3 id_)))
  | _, _ => none)
theorem of_u29 (k : Nat) (g_0 : Int) (g_1 : Int) (g_2 : List (T5).T) (g_3 : List ((I).T × (I).T)) (id_ : Int) (r : R_u29) (h : f_u29 k g_0 g_1 g_2 g_3 id_ = some r) : C_u29 g_0 g_1 g_2 g_3 id_ r := by
  refine CC.of (fn := Tryz.f72) (by kernel_rfl) (by kernel_rfl) (by kernel_rfl) (by kernel_rfl) ?_
  unfold f_u29 at h
  exact go (mkK []) [] [] [.autoB [4] true []] (gL h) (by kernel_rfl)
theorem cc_u29 {k : Nat} {g_0 : Int} {g_1 : Int} {g_2 : List (T5).T} {g_3 : List ((I).T × (I).T)} {id_ : Int} (h : (f_u29 k g_0 g_1 g_2 g_3 id_).isSome = true) : C_u29 g_0 g_1 g_2 g_3 id_ (v_u29 k g_0 g_1 g_2 g_3 id_) := ccG (Φ := C_u29 g_0 g_1 g_2 g_3 id_) h (of_u29 k g_0 g_1 g_2 g_3 id_)
abbrev R_u30 : Type := Int × Int
def res_u30 (r : R_u30) : AV := .tup [.r (.v (.int .i64 r.1)), .r (.v (.int .i64 r.2))]
def bo_u30 (g_0 : Int) (g_1 : Int) (g_2 : List (T5).T) (g_3 : List ((I).T × (I).T)) (id_ : Int) (r : R_u30) : List (Nat × Blk) := [(0, .var 135 [.r (.v (.int .i64 g_0)), .r (.v (.int .i64 g_1)), .r (.ro T5 g_2), .own 1 0]), (0, .map false I I g_3)]
def args_u30 (g_0 : Int) (g_1 : Int) (g_2 : List (T5).T) (g_3 : List ((I).T × (I).T)) (id_ : Int) : List AV := [.ptr 0 0 0, .r (.v (.int .i64 id_))]
def bin_u30 (g_0 : Int) (g_1 : Int) (g_2 : List (T5).T) (g_3 : List ((I).T × (I).T)) (id_ : Int) : List Blk := [.var 135 [.r (.v (.int .i64 g_0)), .r (.v (.int .i64 g_1)), .r (.ro T5 g_2), .own 1 0], .map false I I g_3]
abbrev C_u30 (g_0 : Int) (g_1 : Int) (g_2 : List (T5).T) (g_3 : List ((I).T × (I).T)) (id_ : Int) (r : R_u30) : Prop := CC Tryz.prog 118 (args_u30 g_0 g_1 g_2 g_3 id_) (bin_u30 g_0 g_1 g_2 g_3 id_) (res_u30 r) (bo_u30 g_0 g_1 g_2 g_3 id_ r)
def f_u30 (k : Nat) (g_0 : Int) (g_1 : Int) (g_2 : List (T5).T) (g_3 : List ((I).T × (I).T)) (id_ : Int) : Option R_u30 :=
  bif (id_ == (0 : Int)) then
  some ((g_0, g_1))
  else
  if ((0 : Int) ≤ (mget I id_ g_3).getD (0 : Int)) ∧ ((mget I id_ g_3).getD (0 : Int) < (↑g_2.length : Int)) then
  if ((f_u36 k (g_2.getD (Int.toNat ((mget I id_ g_3).getD 0)) T5.dflt).2.2.2.2.2).isSome = true) then
  some (((g_2.getD (Int.toNat ((mget I id_ g_3).getD 0)) T5.dflt).2.2.2.1, (v_u36 k (g_2.getD (Int.toNat ((mget I id_ g_3).getD 0)) T5.dflt).2.2.2.2.2).1))
  else none
  else none
def v_u30 (k : Nat) (g_0 : Int) (g_1 : Int) (g_2 : List (T5).T) (g_3 : List ((I).T × (I).T)) (id_ : Int) : R_u30 := (f_u30 k g_0 g_1 g_2 g_3 id_).getD (0, 0)
def ke_u30 (k : Nat) : Ke := (118, fun xs => match xs with
  | [.ptr _ _ _, _] => some [true, false]
  | _ => none, fun xs bs => match xs, bs with
  | [.ptr 0 0 0, .r (.v (.int .i64 id_))], [.var 135 [.r (.v (.int .i64 g_0)), .r (.v (.int .i64 g_1)), .r (.ro tg_2_ qg_2), .own 1 0], .map false kg_3_ tg_3_ qg_3] => (castL tg_2_ T5 qg_2).bind fun g_2 => (castM kg_3_ tg_3_ I I qg_3).bind fun g_3 => some (.one (res_u30 (v_u30 k g_0 g_1 g_2 g_3 id_), bo_u30 g_0 g_1 g_2 g_3 id_ (v_u30 k g_0 g_1 g_2 g_3 id_)))
  | _, _ => none)
theorem of_u30 (k : Nat) (g_0 : Int) (g_1 : Int) (g_2 : List (T5).T) (g_3 : List ((I).T × (I).T)) (id_ : Int) (r : R_u30) (h : f_u30 k g_0 g_1 g_2 g_3 id_ = some r) : C_u30 g_0 g_1 g_2 g_3 id_ r := by
  refine CC.of (fn := Tryz.f118) (by kernel_rfl) (by kernel_rfl) (by kernel_rfl) (by kernel_rfl) ?_
  unfold f_u30 at h
  exact go (mkK [ke_u36 k]) [] [] [.autoB [4, 5] true []] (gT h (fun c h => gL h) fun c h => gN2 h fun h => gN1 h (fun q => cc_u36 q) fun h => gL h) (by kernel_rfl)
theorem cc_u30 {k : Nat} {g_0 : Int} {g_1 : Int} {g_2 : List (T5).T} {g_3 : List ((I).T × (I).T)} {id_ : Int} (h : (f_u30 k g_0 g_1 g_2 g_3 id_).isSome = true) : C_u30 g_0 g_1 g_2 g_3 id_ (v_u30 k g_0 g_1 g_2 g_3 id_) := ccG (Φ := C_u30 g_0 g_1 g_2 g_3 id_) h (of_u30 k g_0 g_1 g_2 g_3 id_)
abbrev R_u28 : Type := Int
def res_u28 (r : R_u28) : AV := .r (.v (.int .i64 r))
def bo_u28 (g_0 : Int) (g_1 : Int) (g_2 : List (T5).T) (g_3 : List ((I).T × (I).T)) (r_ : T5.T) (r : R_u28) : List (Nat × Blk) := [(0, .var 135 [.r (.v (.int .i64 g_0)), .r (.v (.int .i64 g_1)), .r (.ro T5 g_2), .own 1 0]), (0, .map false I I g_3)]
def args_u28 (g_0 : Int) (g_1 : Int) (g_2 : List (T5).T) (g_3 : List ((I).T × (I).T)) (r_ : T5.T) : List AV := [.ptr 0 0 0, .agg (rvs (enc T5 r_))]
def bin_u28 (g_0 : Int) (g_1 : Int) (g_2 : List (T5).T) (g_3 : List ((I).T × (I).T)) (r_ : T5.T) : List Blk := [.var 135 [.r (.v (.int .i64 g_0)), .r (.v (.int .i64 g_1)), .r (.ro T5 g_2), .own 1 0], .map false I I g_3]
abbrev C_u28 (g_0 : Int) (g_1 : Int) (g_2 : List (T5).T) (g_3 : List ((I).T × (I).T)) (r_ : T5.T) (r : R_u28) : Prop := CC Tryz.prog 71 (args_u28 g_0 g_1 g_2 g_3 r_) (bin_u28 g_0 g_1 g_2 g_3 r_) (res_u28 r) (bo_u28 g_0 g_1 g_2 g_3 r_ r)
def st_u28_17 (g_0 : Int) (g_1 : Int) (g_2 : List (T5).T) (g_3 : List ((I).T × (I).T)) (r_ : T5.T) (y0 : Int) (y1 : List (T3).T) (y2 : Int) (y3 : Int) : St := ⟨mkS 93 [(6, .r (.v (.int .i64 y0))), (78, .r (.ro T3 y1)), (79, .r (.v (.int .i64 y2))), (80, .r (.v (.int .i64 y3)))], [(0, 0, .var 135 [.r (.v (.int .i64 g_0)), .r (.v (.int .i64 g_1)), .r (.ro T5 g_2), .own 1 0]), (1, 0, .map false I I g_3)]⟩
def f_u28_17 (k : Nat) (g_0 : Int) (g_1 : Int) (g_2 : List (T5).T) (g_3 : List ((I).T × (I).T)) (r_ : T5.T) : Nat → Int → List (T3).T → Int → Int → Option R_u28
  | 0, _, _, _, _ => none
  | j + 1, y0, y1, y2, y3 =>
  bif (decide (y3 < y2)) then
  if (0 ≤ y3) ∧ (y3 < (↑y1.length : Int)) then
  if ((f_u25 k (y1.getD y3.toNat T3.dflt)).isSome = true) then
  bif (decide ((v_u25 k (y1.getD y3.toNat T3.dflt)).2 ≥ y0)) then
  some 21
  else
  f_u28_17 k g_0 g_1 g_2 g_3 r_ j y0 y1 y2 ((IntKind.i64.wrap (y3 + 1)))
  else none
  else none
  else
  some 0
def f_u28 (k : Nat) (g_0 : Int) (g_1 : Int) (g_2 : List (T5).T) (g_3 : List ((I).T × (I).T)) (r_ : T5.T) : Option R_u28 :=
  bif (decide (r_.1 < (1 : Int)) || decide (r_.1 > (1000000 : Int))) then
  some 1
  else
  bif (r_.2.1 != (0 : Int)) then
  if ((r_.2.1 != (0 : Int)) = true) ∧ ((f_u29 k g_0 g_1 g_2 g_3 r_.2.1).isSome = true) then
  bif (true && (!v_u29 k g_0 g_1 g_2 g_3 r_.2.1)) then
  some 7
  else
  if ((f_u30 k g_0 g_1 g_2 g_3 r_.2.1).isSome = true) then
  bif (decide (r_.2.2.1 < (0 : Int)) || decide (r_.2.2.2.1 < (1 : Int)) || decide (r_.2.2.1 > (v_u30 k g_0 g_1 g_2 g_3 r_.2.1).1) || decide (r_.2.2.2.1 > IntKind.i64.wrap ((v_u30 k g_0 g_1 g_2 g_3 r_.2.1).1 - r_.2.2.1))) then
  some 20
  else
  if ((f_u34 k r_.2.2.2.2.2).isSome = true) then
  bif (v_u34 k r_.2.2.2.2.2 != (0 : Int)) then
  some (v_u34 k r_.2.2.2.2.2)
  else
  bif ((↑ (List.length r_.2.2.2.2.2) : Int) == (0 : Int)) then
  some 10
  else
  if ((f_u37 k r_.2.2.2.2.2).isSome = true) then
  bif (!v_u37 k r_.2.2.2.2.2) then
  some 12
  else
  f_u28_17 k g_0 g_1 g_2 g_3 r_ k ((v_u30 k g_0 g_1 g_2 g_3 r_.2.1).2) r_.2.2.2.2.2 ((↑ (List.length r_.2.2.2.2.2) : Int)) 0
  else none
  else none
  else none
  else none
  else
  if ((r_.2.1 != (0 : Int)) = false) then
  if ((f_u30 k g_0 g_1 g_2 g_3 r_.2.1).isSome = true) then
  bif (decide (r_.2.2.1 < (0 : Int)) || decide (r_.2.2.2.1 < (1 : Int)) || decide (r_.2.2.1 > (v_u30 k g_0 g_1 g_2 g_3 r_.2.1).1) || decide (r_.2.2.2.1 > IntKind.i64.wrap ((v_u30 k g_0 g_1 g_2 g_3 r_.2.1).1 - r_.2.2.1))) then
  some 20
  else
  if ((f_u34 k r_.2.2.2.2.2).isSome = true) then
  bif (v_u34 k r_.2.2.2.2.2 != (0 : Int)) then
  some (v_u34 k r_.2.2.2.2.2)
  else
  bif ((↑ (List.length r_.2.2.2.2.2) : Int) == (0 : Int)) then
  some 10
  else
  if ((f_u37 k r_.2.2.2.2.2).isSome = true) then
  bif (!v_u37 k r_.2.2.2.2.2) then
  some 12
  else
  f_u28_17 k g_0 g_1 g_2 g_3 r_ k ((v_u30 k g_0 g_1 g_2 g_3 r_.2.1).2) r_.2.2.2.2.2 ((↑ (List.length r_.2.2.2.2.2) : Int)) 0
  else none
  else none
  else none
  else none
def v_u28 (k : Nat) (g_0 : Int) (g_1 : Int) (g_2 : List (T5).T) (g_3 : List ((I).T × (I).T)) (r_ : T5.T) : R_u28 := (f_u28 k g_0 g_1 g_2 g_3 r_).getD 0
def ke_u28 (k : Nat) : Ke := (71, fun xs => match xs with
  | [.ptr _ _ _, _] => some [true, false]
  | _ => none, fun xs bs => match xs, bs with
  | [.ptr 0 0 0, .agg qr_], [.var 135 [.r (.v (.int .i64 g_0)), .r (.v (.int .i64 g_1)), .r (.ro tg_2_ qg_2), .own 1 0], .map false kg_3_ tg_3_ qg_3] => (decS [] T5 qr_).bind fun r_ => (castL tg_2_ T5 qg_2).bind fun g_2 => (castM kg_3_ tg_3_ I I qg_3).bind fun g_3 => some (.one (res_u28 (v_u28 k g_0 g_1 g_2 g_3 r_), bo_u28 g_0 g_1 g_2 g_3 r_ (v_u28 k g_0 g_1 g_2 g_3 r_)))
  | _, _ => none)
def K_u28 (k : Nat) : Calld := mkK [ke_u29 k, ke_u34 k, ke_u30 k, ke_u37 k, ke_u25 k]
def cs_u28 : List (Nat × List Cmd) := [(17, [.autoB [6, 78, 79, 80] false []])]
abbrev E_u28 (g_0 : Int) (g_1 : Int) (g_2 : List (T5).T) (g_3 : List ((I).T × (I).T)) (r_ : T5.T) (todo : List Item) (st : St) (o : Option R_u28) : Prop := ∀ r, o = some r → Ev Tryz.prog Tryz.f71 2 todo st (res_u28 r) (bo_u28 g_0 g_1 g_2 g_3 r_ r)
theorem ev_u28 (k : Nat) (g_0 : Int) (g_1 : Int) (g_2 : List (T5).T) (g_3 : List ((I).T × (I).T)) (r_ : T5.T) : ∀ j, (∀ (y0 : Int) (y1 : List (T3).T) (y2 : Int) (y3 : Int), E_u28 g_0 g_1 g_2 g_3 r_ (placeAt Tryz.f71 17) (st_u28_17 g_0 g_1 g_2 g_3 r_ y0 y1 y2 y3) (f_u28_17 k g_0 g_1 g_2 g_3 r_ j y0 y1 y2 y3))
  | 0 => fun _ _ _ _ _ h => (nomatch h)
  | j + 1 => by
    have ih := @ev_u28 k g_0 g_1 g_2 g_3 r_ j
    · intro y0 y1 y2 y3 r h
      rw [f_u28_17] at h
      exact go (K_u28 k) [] cs_u28 [.autoB [4] true []] (gT h (fun c h => gN2 h fun h => gN1 h (fun q => cc_u25 q) fun h => gT h (fun c h => gL h) fun c h => gC h 17 (ih _ _ _ _ _)) fun c h => gL h) (by kernel_rfl)
theorem of_u28 (k : Nat) (g_0 : Int) (g_1 : Int) (g_2 : List (T5).T) (g_3 : List ((I).T × (I).T)) (r_ : T5.T) (r : R_u28) (h : f_u28 k g_0 g_1 g_2 g_3 r_ = some r) : C_u28 g_0 g_1 g_2 g_3 r_ r := by
  refine CC.of (fn := Tryz.f71) (by kernel_rfl) (by kernel_rfl) (by kernel_rfl) (by kernel_rfl) ?_
  unfold f_u28 at h
  exact go (K_u28 k) [] cs_u28 [.autoB [4] true []] (gT h (fun c h => gL h) fun c h => gT h (fun c h => gN h (fun q => conjC q.1 (conjC (cc_u29 q.2) conj0)) fun h => gT h (fun c h => gL h) fun c h => gN1 h (fun q => cc_u30 q) fun h => gT h (fun c h => gL h) fun c h => gN1 h (fun q => cc_u34 q) fun h => gT h (fun c h => gL h) fun c h => gT h (fun c h => gL h) fun c h => gN1 h (fun q => cc_u37 q) fun h => gT h (fun c h => gL h) fun c h => gC h 17 ((ev_u28 k g_0 g_1 g_2 g_3 r_ k) _ _ _ _ _)) fun c h => gN1 h id fun h => gU2 h (.leaf (.r (.v (.int .i64 7))) [(0, .var 135 [.r (.v (.int .i64 g_0)), .r (.v (.int .i64 g_1)), .r (.ro T5 g_2), .own 1 0]), (0, .map false I I g_3)]) fun h => gN1 h (fun q => cc_u30 q) fun h => gT h (fun c h => gL h) fun c h => gN1 h (fun q => cc_u34 q) fun h => gT h (fun c h => gL h) fun c h => gT h (fun c h => gL h) fun c h => gN1 h (fun q => cc_u37 q) fun h => gT h (fun c h => gL h) fun c h => gC h 17 ((ev_u28 k g_0 g_1 g_2 g_3 r_ k) _ _ _ _ _)) (by kernel_rfl)
theorem cc_u28 {k : Nat} {g_0 : Int} {g_1 : Int} {g_2 : List (T5).T} {g_3 : List ((I).T × (I).T)} {r_ : T5.T} (h : (f_u28 k g_0 g_1 g_2 g_3 r_).isSome = true) : C_u28 g_0 g_1 g_2 g_3 r_ (v_u28 k g_0 g_1 g_2 g_3 r_) := ccG (Φ := C_u28 g_0 g_1 g_2 g_3 r_) h (of_u28 k g_0 g_1 g_2 g_3 r_)
abbrev RA_u26 : Type := Int
def resA_u26 (r : RA_u26) : AV := .tup [.r (.v (Value.pointer none)), .r (.v (.int .i64 r))]
def boA_u26 (l_ : List (T5).T) (web_ : T19.T) (r : RA_u26) : List (Nat × Blk) := []
abbrev RB_u26 : Type := Int × Int × Int × List (T5).T × (List ((I).T × (I).T))
def resB_u26 (r : RB_u26) : AV := .tup [.ptr 0 0 0, .r (.v (.int .i64 r.1))]
def boB_u26 (l_ : List (T5).T) (web_ : T19.T) (r : RB_u26) : List (Nat × Blk) := [(0, .var 135 [.r (.v (.int .i64 r.2.1)), .r (.v (.int .i64 r.2.2.1)), .r (.ro T5 r.2.2.2.1), .own 1 0]), (0, .map false I I r.2.2.2.2)]
abbrev R_u26 : Type := RA_u26 ⊕ RB_u26
def res_u26 (r : R_u26) : AV := match r with
  | .inl a => resA_u26 a
  | .inr a => resB_u26 a
def bo_u26 (l_ : List (T5).T) (web_ : T19.T) (r : R_u26) : List (Nat × Blk) := match r with
  | .inl a => boA_u26 l_ web_ a
  | .inr a => boB_u26 l_ web_ a
def args_u26 (l_ : List (T5).T) (web_ : T19.T) : List AV := [.r (.ro T5 l_), .agg (rvs (enc T19 web_))]
def bin_u26 (l_ : List (T5).T) (web_ : T19.T) : List Blk := []
abbrev C_u26 (l_ : List (T5).T) (web_ : T19.T) (r : R_u26) : Prop := CC Tryz.prog 31 (args_u26 l_ web_) (bin_u26 l_ web_) (res_u26 r) (bo_u26 l_ web_ r)
abbrev CA_u26 (l_ : List (T5).T) (web_ : T19.T) (r : RA_u26) : Prop := CC Tryz.prog 31 (args_u26 l_ web_) (bin_u26 l_ web_) (resA_u26 r) (boA_u26 l_ web_ r)
abbrev CB_u26 (l_ : List (T5).T) (web_ : T19.T) (r : RB_u26) : Prop := CC Tryz.prog 31 (args_u26 l_ web_) (bin_u26 l_ web_) (resB_u26 r) (boB_u26 l_ web_ r)
def st_u26_8 (y0 : List (T5).T) (y1 : Bool) (y2 : List (T5).T) (y3 : Int) (y4 : Int) (y5 : Int) (y6 : Int) (y7 : List (T5).T) (y8 : List ((I).T × (I).T)) : St := ⟨mkS 97 [(0, .r (.ro T5 y0)), (6, .ptr 1000000 0 0), (7, .r (.v (.bool y1))), (41, .r (.ro T5 y2)), (42, .r (.v (.int .i64 y3))), (43, .r (.v (.int .i64 y4)))], [(1000000, 0, .var 135 [.r (.v (.int .i64 y5)), .r (.v (.int .i64 y6)), .r (.ro T5 y7), .own 1000001 0]), (1000001, 0, .map false I I y8)]⟩
def st_u26_20 (y0 : List (T5).T) (y1 : List (T5).T) (y2 : Int) (y3 : Int) (y4 : Int) (y5 : Int) (y6 : List (T5).T) (y7 : List ((I).T × (I).T)) : St := ⟨mkS 97 [(0, .r (.ro T5 y0)), (6, .ptr 1000000 0 0), (67, .r (.ro T5 y1)), (68, .r (.v (.int .i64 y2))), (69, .r (.v (.int .i64 y3)))], [(1000000, 0, .var 135 [.r (.v (.int .i64 y4)), .r (.v (.int .i64 y5)), .r (.ro T5 y6), .own 1000001 0]), (1000001, 0, .map false I I y7)]⟩
def st_u26_23 (y0 : List (T5).T) (y1 : List (T5).T) (y2 : Int) (y3 : Int) (y4 : List (T5).T) (y5 : Int) (y6 : Int) (y7 : Int) (y8 : Int) (y9 : List (T5).T) (y10 : List ((I).T × (I).T)) (y11 : T5.T) : St := ⟨mkS 97 [(0, .r (.ro T5 y0)), (6, .ptr 1000000 0 0), (12, .ptr 1000002 0 0), (67, .r (.ro T5 y1)), (68, .r (.v (.int .i64 y2))), (69, .r (.v (.int .i64 y3))), (76, .r (.ro T5 y4)), (77, .r (.v (.int .i64 y5))), (78, .r (.v (.int .i64 y6)))], [(1000000, 0, .var 135 [.r (.v (.int .i64 y7)), .r (.v (.int .i64 y8)), .r (.ro T5 y9), .own 1000001 0]), (1000001, 0, .map false I I y10), (1000002, 0, .var 47 (rvs (enc T5 y11)))]⟩
mutual
def f_u26_8 (k : Nat) : Nat → List (T5).T → Bool → List (T5).T → Int → Int → Int → Int → List (T5).T → (List ((I).T × (I).T)) → Option R_u26
  | 0, _, _, _, _, _, _, _, _, _ => none
  | j + 1, y0, y1, y2, y3, y4, y5, y6, y7, y8 =>
  bif (decide (y4 < y3)) then
  if (0 ≤ y4) ∧ (y4 < (↑y2.length : Int)) then
  if ((f_u28 k y5 y6 y7 y8 (y2.getD y4.toNat T5.dflt)).isSome = true) then
  bif (v_u28 k y5 y6 y7 y8 (y2.getD y4.toNat T5.dflt) != (0 : Int)) then
  some ((.inl (v_u28 k y5 y6 y7 y8 (y2.getD y4.toNat T5.dflt))))
  else
  if ((f_u29 k y5 y6 y7 y8 (y2.getD y4.toNat T5.dflt).1).isSome = true) then
  bif (v_u29 k y5 y6 y7 y8 (y2.getD y4.toNat T5.dflt).1) then
  f_u26_8 k j y0 true y2 y3 ((IntKind.i64.wrap (y4 + 1))) y5 y6 y7 y8
  else
  f_u26_8 k j y0 y1 y2 y3 ((IntKind.i64.wrap (y4 + 1))) y5 y6 y7 ((mset I (y2.getD y4.toNat T5.dflt).1 y4 y8))
  else none
  else none
  else none
  else
  bif y1 then
  some ((.inl 6))
  else
  f_u26_20 k j y0 y0 ((↑y0.length : Int)) 0 y5 y6 y7 y8
def f_u26_20 (k : Nat) : Nat → List (T5).T → List (T5).T → Int → Int → Int → Int → List (T5).T → (List ((I).T × (I).T)) → Option R_u26
  | 0, _, _, _, _, _, _, _, _ => none
  | j + 1, y0, y1, y2, y3, y4, y5, y6, y7 =>
  bif (decide (y3 < y2)) then
  if (0 ≤ y3) ∧ (y3 < (↑y1.length : Int)) then
  if ((0 : Int) ≤ (0 : Int)) ∧ (0 ≤ y3) ∧ (y3 ≤ (↑y0.length : Int)) then
  f_u26_23 k j y0 y1 y2 y3 ((List.take (y3.toNat - Int.toNat 0) (List.drop (Int.toNat 0) y0))) ((↑ (List.take (y3.toNat - Int.toNat 0) (List.drop (Int.toNat 0) y0)).length : Int)) 0 y4 y5 y6 y7 ((y1.getD y3.toNat T5.dflt))
  else none
  else none
  else
  some ((.inr ((0, y4, y5, y6, y7))))
def f_u26_23 (k : Nat) : Nat → List (T5).T → List (T5).T → Int → Int → List (T5).T → Int → Int → Int → Int → List (T5).T → (List ((I).T × (I).T)) → T5.T → Option R_u26
  | 0, _, _, _, _, _, _, _, _, _, _, _, _ => none
  | j + 1, y0, y1, y2, y3, y4, y5, y6, y7, y8, y9, y10, y11 =>
  bif (decide (y6 < y5)) then
  if (0 ≤ y6) ∧ (y6 < (↑y4.length : Int)) then
  bif (y11.2.1 == (y4.getD y6.toNat T5.dflt).2.1) then
  if ((y11.2.1 == (y4.getD y6.toNat T5.dflt).2.1) = true) ∧ ((f_u27 k y11.2.2 (y4.getD y6.toNat T5.dflt).2.2).isSome = true) then
  bif (true && v_u27 k y11.2.2 (y4.getD y6.toNat T5.dflt).2.2) then
  some ((.inl 12))
  else
  f_u26_23 k j y0 y1 y2 y3 y4 y5 ((IntKind.i64.wrap (y6 + 1))) y7 y8 y9 y10 y11
  else none
  else
  if ((y11.2.1 == (y4.getD y6.toNat T5.dflt).2.1) = false) then
  f_u26_23 k j y0 y1 y2 y3 y4 y5 ((IntKind.i64.wrap (y6 + 1))) y7 y8 y9 y10 y11
  else none
  else none
  else
  f_u26_20 k j y0 y1 y2 ((IntKind.i64.wrap (y3 + 1))) y7 y8 y9 y10
end
def f_u26 (k : Nat) (l_ : List (T5).T) (web_ : T19.T) : Option R_u26 :=
  bif (decide (web_.1 < (1 : Int)) || decide (web_.1 > (12000 : Int)) || decide (web_.2 < (0 : Int)) || decide (web_.2 > (17179869184 : Int))) then
  some ((.inl 1))
  else
  bif (decide ((↑l_.length : Int) > (512 : Int))) then
  some ((.inl 8))
  else
  f_u26_8 k k l_ false l_ ((↑l_.length : Int)) 0 web_.1 web_.2 l_ ([])
def v_u26 (k : Nat) (l_ : List (T5).T) (web_ : T19.T) : R_u26 := (f_u26 k l_ web_).getD (.inl 0)
def vA_u26 (k : Nat) (l_ : List (T5).T) (web_ : T19.T) : RA_u26 := lft 0 (v_u26 k l_ web_)
def vB_u26 (k : Nat) (l_ : List (T5).T) (web_ : T19.T) : RB_u26 := rgt ((0, 0, 0, [], [])) (v_u26 k l_ web_)
def ke_u26 (k : Nat) : Ke := (31, fun xs => match xs with
  | [_, _] => some [false, false]
  | _ => none, fun xs bs => match xs, bs with
  | [.r (.ro tl__ ql_), .agg qweb_], [] => (castL tl__ T5 ql_).bind fun l_ => (decS [] T19 qweb_).bind fun web_ => some (.two (v_u26 k l_ web_).isLeft (resA_u26 (vA_u26 k l_ web_), boA_u26 l_ web_ (vA_u26 k l_ web_)) (resB_u26 (vB_u26 k l_ web_), boB_u26 l_ web_ (vB_u26 k l_ web_)))
  | _, _ => none)
def K_u26 (k : Nat) : Calld := mkK [ke_u29 k, ke_u28 k, ke_u27 k]
def cs_u26 : List (Nat × List Cmd) := [(8, [.autoB [0, 6, 7, 41, 42, 43] false []]), (20, [.autoB [0, 6, 67, 68, 69] false []]), (23, [.autoB [0, 6, 12, 67, 68, 69, 76, 77, 78] false []])]
abbrev E_u26 (l_ : List (T5).T) (web_ : T19.T) (todo : List Item) (st : St) (o : Option R_u26) : Prop := ∀ r, o = some r → Ev Tryz.prog Tryz.f31 0 todo st (res_u26 r) (bo_u26 l_ web_ r)
theorem ev_u26 (k : Nat) (l_ : List (T5).T) (web_ : T19.T) : ∀ j, (∀ (y0 : List (T5).T) (y1 : Bool) (y2 : List (T5).T) (y3 : Int) (y4 : Int) (y5 : Int) (y6 : Int) (y7 : List (T5).T) (y8 : List ((I).T × (I).T)), E_u26 l_ web_ (placeAt Tryz.f31 8) (st_u26_8 y0 y1 y2 y3 y4 y5 y6 y7 y8) (f_u26_8 k j y0 y1 y2 y3 y4 y5 y6 y7 y8)) ∧ (∀ (y0 : List (T5).T) (y1 : List (T5).T) (y2 : Int) (y3 : Int) (y4 : Int) (y5 : Int) (y6 : List (T5).T) (y7 : List ((I).T × (I).T)), E_u26 l_ web_ (placeAt Tryz.f31 20) (st_u26_20 y0 y1 y2 y3 y4 y5 y6 y7) (f_u26_20 k j y0 y1 y2 y3 y4 y5 y6 y7)) ∧ (∀ (y0 : List (T5).T) (y1 : List (T5).T) (y2 : Int) (y3 : Int) (y4 : List (T5).T) (y5 : Int) (y6 : Int) (y7 : Int) (y8 : Int) (y9 : List (T5).T) (y10 : List ((I).T × (I).T)) (y11 : T5.T), E_u26 l_ web_ (placeAt Tryz.f31 23) (st_u26_23 y0 y1 y2 y3 y4 y5 y6 y7 y8 y9 y10 y11) (f_u26_23 k j y0 y1 y2 y3 y4 y5 y6 y7 y8 y9 y10 y11))
  | 0 => ⟨fun _ _ _ _ _ _ _ _ _ _ h => (nomatch h), fun _ _ _ _ _ _ _ _ _ h => (nomatch h), fun _ _ _ _ _ _ _ _ _ _ _ _ _ h => (nomatch h)⟩
  | j + 1 => by
    have ih := @ev_u26 k l_ web_ j
    refine ⟨?_, ?_, ?_⟩
    · intro y0 y1 y2 y3 y4 y5 y6 y7 y8 r h
      rw [f_u26_8] at h
      exact go (K_u26 k) [] cs_u26 [.autoB [4, 5] true []] (gT h (fun c h => gN2 h fun h => gN1 h (fun q => cc_u28 q) fun h => gT h (fun c h => gL h) fun c h => gN1 h (fun q => cc_u29 q) fun h => gT h (fun c h => gC h 8 (ih.1 _ _ _ _ _ _ _ _ _ _)) fun c h => gC h 8 (ih.1 _ _ _ _ _ _ _ _ _ _)) fun c h => gT h (fun c h => gL h) fun c h => gC h 20 (ih.2.1 _ _ _ _ _ _ _ _ _)) (by kernel_rfl)
    · intro y0 y1 y2 y3 y4 y5 y6 y7 r h
      rw [f_u26_20] at h
      exact go (K_u26 k) [] cs_u26 [.autoB [4, 5] true []] (gT h (fun c h => gN2 h fun h => gN h (fun q => conjC q.1 (conjC q.2.1 (conjC q.2.2 conj0))) fun h => gC h 23 (ih.2.2 _ _ _ _ _ _ _ _ _ _ _ _ _)) fun c h => gL h) (by kernel_rfl)
    · intro y0 y1 y2 y3 y4 y5 y6 y7 y8 y9 y10 y11 r h
      rw [f_u26_23] at h
      exact go (K_u26 k) [] cs_u26 [.autoB [4, 5] true []] (gT h (fun c h => gN2 h fun h => gT h (fun c h => gN h (fun q => conjC q.1 (conjC (cc_u27 q.2) conj0)) fun h => gT h (fun c h => gL h) fun c h => gC h 23 (ih.2.2 _ _ _ _ _ _ _ _ _ _ _ _ _)) fun c h => gN1 h id fun h => gU2 h (.leaf (.tup [.r (.v (Value.pointer none)), .r (.v (.int .i64 12))]) []) fun h => gC h 23 (ih.2.2 _ _ _ _ _ _ _ _ _ _ _ _ _)) fun c h => gC h 20 (ih.2.1 _ _ _ _ _ _ _ _ _)) (by kernel_rfl)
theorem of_u26 (k : Nat) (l_ : List (T5).T) (web_ : T19.T) (r : R_u26) (h : f_u26 k l_ web_ = some r) : C_u26 l_ web_ r := by
  refine CC.of (fn := Tryz.f31) (by kernel_rfl) (by kernel_rfl) (by kernel_rfl) (by kernel_rfl) ?_
  unfold f_u26 at h
  exact go (K_u26 k) [] cs_u26 [.autoB [4, 5] true []] (gT h (fun c h => gL h) fun c h => gT h (fun c h => gL h) fun c h => gC h 8 ((ev_u26 k l_ web_ k).1 _ _ _ _ _ _ _ _ _ _)) (by kernel_rfl)
theorem cc_u26 {k : Nat} {l_ : List (T5).T} {web_ : T19.T} (h : (f_u26 k l_ web_).isSome = true) : C_u26 l_ web_ (v_u26 k l_ web_) := ccG (Φ := C_u26 l_ web_) h (of_u26 k l_ web_)
theorem ccA_u26 {k : Nat} {l_ : List (T5).T} {web_ : T19.T} (h : (f_u26 k l_ web_).isSome = true) (hb : (v_u26 k l_ web_).isLeft = true) : CA_u26 l_ web_ (vA_u26 k l_ web_) := ccAG (Φ := C_u26 l_ web_) (cc_u26 h) hb
theorem ccB_u26 {k : Nat} {l_ : List (T5).T} {web_ : T19.T} (h : (f_u26 k l_ web_).isSome = true) (hb : (v_u26 k l_ web_).isLeft = false) : CB_u26 l_ web_ (vB_u26 k l_ web_) := ccBG (Φ := C_u26 l_ web_) (cc_u26 h) hb
abbrev R_u24 : Type := Int
def res_u24 (r : R_u24) : AV := .r (.v (.int .i64 r))
def bo_u24 (l_ : List (T5).T) (width_ : Int) (length_ : Int) (r : R_u24) : List (Nat × Blk) := []
def args_u24 (l_ : List (T5).T) (width_ : Int) (length_ : Int) : List AV := [.r (.ro T5 l_), .r (.v (.int .i64 width_)), .r (.v (.int .i64 length_))]
def bin_u24 (l_ : List (T5).T) (width_ : Int) (length_ : Int) : List Blk := []
abbrev C_u24 (l_ : List (T5).T) (width_ : Int) (length_ : Int) (r : R_u24) : Prop := CC Tryz.prog 12 (args_u24 l_ width_ length_) (bin_u24 l_ width_ length_) (res_u24 r) (bo_u24 l_ width_ length_ r)
def f_u24 (k : Nat) (l_ : List (T5).T) (width_ : Int) (length_ : Int) : Option R_u24 :=
  bif (Sum.isLeft (v_u26 k l_ (width_, length_))) then
  if ((f_u26 k l_ (width_, length_)).isSome = true) then
  some (vA_u26 k l_ (width_, length_))
  else none
  else
  if ((f_u26 k l_ (width_, length_)).isSome = true) then
  some ((vB_u26 k l_ (width_, length_)).1)
  else none
def v_u24 (k : Nat) (l_ : List (T5).T) (width_ : Int) (length_ : Int) : R_u24 := (f_u24 k l_ width_ length_).getD 0
def ke_u24 (k : Nat) : Ke := (12, fun xs => match xs with
  | [_, _, _] => some [false, false, false]
  | _ => none, fun xs bs => match xs, bs with
  | [.r (.ro tl__ ql_), .r (.v (.int .i64 width_)), .r (.v (.int .i64 length_))], [] => (castL tl__ T5 ql_).bind fun l_ => some (.one (res_u24 (v_u24 k l_ width_ length_), bo_u24 l_ width_ length_ (v_u24 k l_ width_ length_)))
  | _, _ => none)
theorem of_u24 (k : Nat) (l_ : List (T5).T) (width_ : Int) (length_ : Int) (r : R_u24) (h : f_u24 k l_ width_ length_ = some r) : C_u24 l_ width_ length_ r := by
  refine CC.of (fn := Tryz.f12) (by kernel_rfl) (by kernel_rfl) (by kernel_rfl) (by kernel_rfl) ?_
  unfold f_u24 at h
  exact go (mkK [ke_u26 k]) [] [] [.autoB [6] true []] (gT h (fun c h => gN1 h (fun q => ccA_u26 q (by assumption)) fun h => gL h) fun c h => gN1 h (fun q => ccB_u26 q (by assumption)) fun h => gL h) (by kernel_rfl)
theorem cc_u24 {k : Nat} {l_ : List (T5).T} {width_ : Int} {length_ : Int} (h : (f_u24 k l_ width_ length_).isSome = true) : C_u24 l_ width_ length_ (v_u24 k l_ width_ length_) := ccG (Φ := C_u24 l_ width_ length_) h (of_u24 k l_ width_ length_)

end
def Wl (p : List Ro) : Prop := ∀ r ∈ p, Small r.2.2
theorem Wl.size {p : List Ro} {W L : Int} (h : Wl p) (hW : 0 ≤ W ∧ W ≤ 12000) (id : Int) : 0 ≤ (sizeS p W L id).1 ∧ (sizeS p W L id).1 ≤ 12000 := by
  unfold sizeS
  by_cases h0 : id = 0
  · rw [if_pos h0]; exact hW
  · rw [if_neg h0]
    cases e : look p id with
    | none => exact ⟨by decide, by decide⟩
    | some q =>
      obtain ⟨a, b, c, _⟩ := h q (look_some e).1
      exact ⟨by show 0 ≤ q.2.2.2.1; omega, by show q.2.2.2.1 ≤ _; omega⟩
theorem Wl.snoc {p : List Ro} {W L : Int} {r : Ro} (h : Wl p) (hW : 0 ≤ W ∧ W ≤ 12000) (f : fitsS p W L r = 0) : Wl (p ++ [r]) := by
  obtain ⟨_, _, _, c⟩ := fitsS_zero.1 f
  obtain ⟨s1, s2⟩ := h.size (L := L) hW r.2.1
  intro q hq
  rcases List.mem_append.1 hq with hq | hq
  · exact h q hq
  · rw [List.mem_singleton] at hq
    subst hq
    have := c.right
    exact ⟨c.left, c.width, by omega, c.chk⟩

theorem fam_size_s (k : Nat) (hk : 2100 ≤ k) (W L : Int) (p t : List Ro) (M : List (Int × Int)) (id : Int) (hp : Wl p) (hM : RegOk M p) (h : id = 0 ∨ ∃ q, look p id = some q) : f_u30 k W L (p ++ t) M id = some (sizeS p W L id) := by
  unfold f_u30 sizeS
  by_cases h0 : id = 0
  · rw [if_pos h0, show (id == 0) = true from beq_iff_eq.2 h0, cond_true]
  · rw [if_neg h0, show (id == 0) = false from beq_false_of_ne h0, cond_false]
    rcases h with h | ⟨q, h⟩
    · exact absurd h h0
    · obtain ⟨i, e1, e2, e3⟩ := (hM id).some h
      have hl : (p ++ t).length = p.length + t.length := List.length_append
      have hs := hp q (look_some h).1
      have hi : (i : Int) < ((p ++ t).length : Int) := by omega
      rw [e1, Option.getD_some, if_pos ⟨by omega, hi⟩, Int.toNat_natCast, getD_app _ _ _ _ e2, e3, h]
      show (if (f_u36 k q.2.2.2.2.2).isSome = true then some (q.2.2.2.1, (v_u36 k q.2.2.2.2.2).1) else none) = _
      rw [iso_Length_s k hk _ hs.chk, iso_Length_v k hk _ hs.chk]
      rfl
theorem fam_size_v (k : Nat) (hk : 2100 ≤ k) (W L : Int) (p t : List Ro) (M : List (Int × Int)) (id : Int) (hp : Wl p) (hM : RegOk M p) (h : id = 0 ∨ ∃ q, look p id = some q) : v_u30 k W L (p ++ t) M id = sizeS p W L id := by
  unfold v_u30; rw [fam_size_s k hk W L p t M id hp hM h]; rfl

theorem fam_fits_17 (k : Nat) (W L : Int) (l : List Ro) (M : List (Int × Int)) (r : Ro) (n : Int) (m : List Rn) (hm : goods m) (hl : m.length ≤ 256) : ∀ (d i j : Nat), i + d = m.length → d < j →
    f_u28_17 k W L l M r j n m (m.length : Int) (i : Int) = some (if fitsIn n (m.drop i) then 0 else 21) := by
  intro d
  induction d with
  | zero =>
    intro i j hi hj
    obtain ⟨j, rfl⟩ : ∃ q, j = q + 1 := ⟨j - 1, by omega⟩
    rw [f_u28_17, decide_eq_false (by omega : ¬ (i : Int) < (m.length : Int)), cond_false, List.drop_of_length_le (by omega), if_pos (by trivial)]
  | succ d ih =>
    intro i j hi hj
    obtain ⟨j, rfl⟩ : ∃ q, j = q + 1 := ⟨j - 1, by omega⟩
    have hg : good (m.getD i T3.dflt) := hm.mem _ (getD_mem' _ _ _ (by omega))
    rw [f_u28_17, decide_eq_true (by omega : (i : Int) < (m.length : Int)), cond_true, if_pos ⟨by omega, by omega⟩, Int.toNat_natCast, fam_bounds_s k _ hg, fam_bounds_v k _ hg, Option.isSome_some, if_pos rfl, drop_cons' m i T3.dflt (by omega), wrapS i (by omega)]
    show (bif decide (Go.AM.hi (m.getD i T3.dflt) ≥ n) then _ else _) = _
    by_cases h : Go.AM.hi (m.getD i T3.dflt) ≥ n
    · rw [decide_eq_true h, cond_true, if_neg (fun e : fitsIn n (m.getD i T3.dflt :: m.drop (i + 1)) => by have := e.1; omega)]
    · rw [decide_eq_false h, cond_false, ih (i + 1) j (by omega) (by omega)]
      by_cases h2 : fitsIn n (m.drop (i + 1))
      · rw [if_pos h2, if_pos (show fitsIn n (m.getD i T3.dflt :: m.drop (i + 1)) from ⟨by omega, h2⟩)]
      · rw [if_neg h2, if_neg (fun e : fitsIn n (m.getD i T3.dflt :: m.drop (i + 1)) => h2 e.2)]
theorem cut_test (c : Ch) (w : Int) (hw : 0 ≤ w ∧ w ≤ 12000) : (decide (c.1 < (0 : Int)) || decide (c.2.1 < (1 : Int)) || decide (c.1 > w) || decide (c.2.1 > IntKind.i64.wrap (w - c.1))) = decide (c.1 < 0 ∨ c.2.1 < 1 ∨ c.1 > w ∨ c.2.1 > w - c.1) := by
  by_cases h1 : c.1 < 0
  · rw [decide_eq_true h1, Bool.true_or, Bool.true_or, Bool.true_or, decide_eq_true (Or.inl h1)]
  · by_cases h2 : c.2.1 < 1
    · rw [decide_eq_true h2, Bool.or_true, Bool.true_or, Bool.true_or, decide_eq_true (Or.inr (Or.inl h2))]
    · by_cases h3 : c.1 > w
      · rw [decide_eq_true h3, Bool.or_true, Bool.true_or, decide_eq_true (Or.inr (Or.inr (Or.inl h3)))]
      · rw [decide_eq_false h1, decide_eq_false h2, decide_eq_false h3, wrap_id (by omega) (by omega), Bool.or_false, Bool.or_false, Bool.false_or]
        by_cases h4 : c.2.1 > w - c.1
        · rw [decide_eq_true h4, decide_eq_true (Or.inr (Or.inr (Or.inr h4)))]
        · rw [decide_eq_false h4, decide_eq_false (by omega)]
theorem fam_fits_tail (k : Nat) (hk : 2100 ≤ k) (W L : Int) (l : List Ro) (M : List (Int × Int)) (r : Ro) (c : Ch) (w n : Int) (hw : 0 ≤ w ∧ w ≤ 12000) :
    (bif (decide (c.1 < (0 : Int)) || decide (c.2.1 < (1 : Int)) || decide (c.1 > w) || decide (c.2.1 > IntKind.i64.wrap (w - c.1))) then some 20
     else if ((f_u34 k c.2.2.2).isSome = true) then
       bif (v_u34 k c.2.2.2 != (0 : Int)) then some (v_u34 k c.2.2.2)
       else bif ((↑ (List.length c.2.2.2) : Int) == (0 : Int)) then some 10
       else if ((f_u37 k c.2.2.2).isSome = true) then
         bif (!v_u37 k c.2.2.2) then some 12
         else f_u28_17 k W L l M r k n c.2.2.2 ((↑ (List.length c.2.2.2) : Int)) 0
       else none
     else none) = some (cutE c w n) := by
  unfold cutE
  rw [cut_test c w hw, iso_Check_s k (by omega), iso_Check_v k (by omega), Option.isSome_some, if_pos rfl, iso_Single_s k hk, iso_Single_v k hk, Option.isSome_some, if_pos rfl]
  by_cases h1 : c.1 < 0 ∨ c.2.1 < 1 ∨ c.1 > w ∨ c.2.1 > w - c.1
  · rw [decide_eq_true h1, cond_true, if_pos h1]
  · rw [decide_eq_false h1, cond_false, if_neg h1]
    by_cases h2 : chk c.2.2.2 = 0
    · have hc := chk_zero.1 h2
      have hl := hc.len
      rw [show (chk c.2.2.2 != 0) = false by simp [h2], cond_false, if_neg (fun h : chk c.2.2.2 ≠ 0 => h h2)]
      by_cases h3 : c.2.2.2 = []
      · rw [h3, if_pos rfl]; rfl
      · rw [if_neg h3, show (((List.length c.2.2.2 : Nat) : Int) == 0) = false from beq_false_of_ne (fun e => h3 (List.length_eq_zero_iff.1 (by omega))), cond_false]
        cases h4 : singleS c.2.2.2
        · rfl
        · rw [Bool.not_true, cond_false, if_neg (by decide)]
          refine (fam_fits_17 k W L l M r n c.2.2.2 hc.goods hl c.2.2.2.length 0 k (by omega) (by omega)).trans ?_
          rw [List.drop_zero]
    · rw [show (chk c.2.2.2 != 0) = true by simp [h2], cond_true, if_pos h2]
theorem fam_fits_s (k : Nat) (hk : 2100 ≤ k) (W L : Int) (hW : 0 ≤ W ∧ W ≤ 12000) (p t : List Ro) (M : List (Int × Int)) (r : Ro) (hp : Wl p) (hM : RegOk M p) : f_u28 k W L (p ++ t) M r = some (fitsS p W L r) := by
  unfold f_u28 fitsS
  by_cases h1 : r.1 < 1 ∨ r.1 > 1000000
  · rw [if_pos h1, show (decide (r.1 < 1) || decide (r.1 > 1000000)) = true by simpa using h1, cond_true]
  · rw [if_neg h1, show (decide (r.1 < 1) || decide (r.1 > 1000000)) = false by simp; omega, cond_false]
    have hs := hp.size (L := L) hW r.2.1
    by_cases h2 : r.2.1 = 0
    · rw [show (r.2.1 != 0) = false by simp [h2], cond_false, if_pos rfl, if_neg (fun h : r.2.1 ≠ 0 ∧ look p r.2.1 = none => h.1 h2), fam_size_s k hk W L p t M r.2.1 hp hM (.inl h2), fam_size_v k hk W L p t M r.2.1 hp hM (.inl h2), Option.isSome_some, if_pos rfl]
      exact fam_fits_tail k hk W L (p ++ t) M r r.2.2 _ _ hs
    · have hkn : v_u29 k W L (p ++ t) M r.2.1 = (mget I r.2.1 M).isSome := by unfold v_u29 f_u29; rfl
      rw [show (r.2.1 != 0) = true by simp [h2], cond_true, if_pos ⟨rfl, rfl⟩, hkn, Bool.true_and]
      cases e : look p r.2.1 with
      | none => rw [(hM r.2.1).none e, if_pos (show r.2.1 ≠ 0 ∧ (none : Option Ro) = none from ⟨h2, rfl⟩)]; rfl
      | some q =>
        obtain ⟨i, e1, e2, e3⟩ := (hM r.2.1).some e
        rw [e1, if_neg (show ¬ (r.2.1 ≠ 0 ∧ some q = none) from fun h => nomatch h.2), Option.isSome_some, Bool.not_true, cond_false, fam_size_s k hk W L p t M r.2.1 hp hM (.inr ⟨q, e⟩), fam_size_v k hk W L p t M r.2.1 hp hM (.inr ⟨q, e⟩), Option.isSome_some, if_pos rfl]
        exact fam_fits_tail k hk W L (p ++ t) M r r.2.2 _ _ hs
theorem fam_fits_v (k : Nat) (hk : 2100 ≤ k) (W L : Int) (hW : 0 ≤ W ∧ W ≤ 12000) (p t : List Ro) (M : List (Int × Int)) (r : Ro) (hp : Wl p) (hM : RegOk M p) : v_u28 k W L (p ++ t) M r = fitsS p W L r := by
  unfold v_u28; rw [fam_fits_s k hk W L hW p t M r hp hM]; rfl

theorem fam_open_23 (k : Nat) (hk : 70000 ≤ k) (l : List Ro) (n i W L : Int) (M : List (Int × Int)) (r : Ro) (hr : Small r.2.2) (p : List Ro) (hp : Wl p) (hpl : p.length ≤ 512) : ∀ (d q m : Nat), q + d = p.length →
    f_u26_23 k (m + d + 1) l l n i p (p.length : Int) (q : Int) W L l M r = if clash (p.drop q) r = true then some (.inl 12) else f_u26_20 k m l l n (IntKind.i64.wrap (i + 1)) W L l M := by
  intro d
  induction d with
  | zero =>
    intro q m hq
    rw [f_u26_23, decide_eq_false (by omega : ¬ (q : Int) < (p.length : Int)), cond_false, List.drop_of_length_le (by omega), if_neg (by unfold clash; rw [List.any_nil]; decide)]
  | succ d ih =>
    intro q m hq
    have hs : Small (p.getD q T5.dflt).2.2 := hp _ (getD_mem' _ _ _ (by omega))
    have hc : clash (p.drop q) r = ((r.2.1 == (p.getD q T5.dflt).2.1) && ovlS r.2.2 (p.getD q T5.dflt).2.2 || clash (p.drop (q + 1)) r) := by
      unfold clash; rw [drop_cons' p q T5.dflt (by omega), List.any_cons]
    rw [show m + (d + 1) + 1 = (m + d + 1) + 1 from rfl, f_u26_23, decide_eq_true (by omega : (q : Int) < (p.length : Int)), cond_true, if_pos ⟨by omega, by omega⟩, Int.toNat_natCast, wrapS q (by omega), ih (q + 1) m (by omega), hc]
    cases e : (r.2.1 == (p.getD q T5.dflt).2.1)
    · rw [cond_false, if_pos rfl, Bool.false_and, Bool.false_or]
    · rw [cond_true, Bool.true_and, fam_overlap_v k hk _ _ hr hs, if_pos ⟨rfl, by rw [fam_overlap_s k hk _ _ hr hs]; rfl⟩, Bool.true_and]
      cases ovlS r.2.2 (p.getD q T5.dflt).2.2
      · rw [cond_false, Bool.false_or]
      · rfl
set_option maxRecDepth 20000 in
theorem fam_open_20 (k : Nat) (hk : 70000 ≤ k) (l : List Ro) (W L : Int) (M : List (Int × Int)) (hl : Wl l) (hll : l.length ≤ 512) : ∀ (d i j : Nat), i + d = l.length → d * 514 < j →
    f_u26_20 k j l l (l.length : Int) (i : Int) W L l M = if clashGo (l.take i) (l.drop i) = true then some (.inl 12) else some (.inr (0, W, L, l, M)) := by
  intro d
  induction d with
  | zero =>
    intro i j hi hj
    obtain ⟨j, rfl⟩ : ∃ q, j = q + 1 := ⟨j - 1, by omega⟩
    rw [f_u26_20, decide_eq_false (by omega : ¬ (i : Int) < (l.length : Int)), cond_false, List.drop_of_length_le (by omega), clashGo, if_neg (by decide)]
  | succ d ih =>
    intro i j hi hj
    obtain ⟨j, rfl⟩ : ∃ q, j = (q + (l.take i).length + 1) + 1 := ⟨j - (l.take i).length - 2, by rw [List.length_take]; omega⟩
    rw [List.length_take] at hj
    have hs : Small (l.getD i T5.dflt).2.2 := hl _ (getD_mem' _ _ _ (by omega))
    have h23 := fam_open_23 k hk l (l.length : Int) (i : Int) W L M (l.getD i T5.dflt) hs (l.take i) (fun r hr => hl r (List.mem_of_mem_take hr)) (by rw [List.length_take]; omega) (l.take i).length 0 j (by omega)
    rw [f_u26_20, decide_eq_true (by omega : (i : Int) < (l.length : Int)), cond_true, if_pos ⟨by omega, by omega⟩, if_pos ⟨by omega, by omega, by omega⟩, Int.toNat_natCast, Int.toNat_zero, List.drop_zero, Nat.sub_zero]
    refine h23.trans ?_
    rw [List.drop_zero, wrapS i (by omega), ih (i + 1) j (by omega) (by omega), drop_cons' l i T5.dflt (by omega), clashGo, take_snoc l i T5.dflt (by omega)]
    cases clash (l.take i) (l.getD i T5.dflt)
    · rw [if_neg (by decide), Bool.false_or]
    · rfl
theorem fam_open_8 (k : Nat) (hk : 300000 ≤ k) (l : List Ro) (W L : Int) (hW : 0 ≤ W ∧ W ≤ 12000) (hll : l.length ≤ 512) : ∀ (d i j : Nat) (dup : Bool) (M : List (Int × Int)), i + d = l.length → d + 1 + 263168 < j → RegOk M (l.take i) → Wl (l.take i) →
    ∃ M', (errsGo W L (l.take i) (l.drop i) = 0 → RegOk M' l ∧ Wl l) ∧ f_u26_8 k j l dup l (l.length : Int) (i : Int) W L l M =
      if errsGo W L (l.take i) (l.drop i) ≠ 0 then some (.inl (errsGo W L (l.take i) (l.drop i))) else if (dup || dupGo (l.take i) (l.drop i)) = true then some (.inl 6) else if clashGo [] l = true then some (.inl 12) else some (.inr (0, W, L, l, M')) := by
  intro d
  induction d with
  | zero =>
    intro i j dup M hi hj hM hw
    obtain ⟨j, rfl⟩ : ∃ q, j = q + 1 := ⟨j - 1, by omega⟩
    have h20 := fam_open_20 k (by omega) l W L M (by rw [List.take_of_length_le (by omega)] at hw; exact hw) hll l.length 0 j (by omega) (by omega)
    rw [List.take_of_length_le (by omega : l.length ≤ i)] at hM hw
    refine ⟨M, fun _ => ⟨hM, hw⟩, ?_⟩
    rw [f_u26_8, decide_eq_false (by omega : ¬ (i : Int) < (l.length : Int)), cond_false, List.drop_of_length_le (by omega), errsGo, if_neg (fun h => h rfl), dupGo, Bool.or_false]
    cases dup
    · rw [cond_false, if_neg (by decide)]
      exact h20
    · rfl
  | succ d ih =>
    intro i j dup M hi hj hM hw
    obtain ⟨j, rfl⟩ : ∃ q, j = q + 1 := ⟨j - 1, by omega⟩
    have hf := fam_fits_s k (by omega) W L hW (l.take i) (l.drop i) M (l.getD i T5.dflt) hw hM
    have hv := fam_fits_v k (by omega) W L hW (l.take i) (l.drop i) M (l.getD i T5.dflt) hw hM
    rw [List.take_append_drop] at hf hv
    have hkn : v_u29 k W L l M (l.getD i T5.dflt).1 = (mget I (l.getD i T5.dflt).1 M).isSome := by unfold v_u29 f_u29; rfl
    have ht := take_snoc l i T5.dflt (by omega)
    by_cases h1 : fitsS (l.take i) W L (l.getD i T5.dflt) = 0
    · have hw2 : Wl (l.take (i + 1)) := by rw [ht]; exact hw.snoc hW h1
      cases e : look (l.take i) (l.getD i T5.dflt).1 with
      | none =>
        have hM2 : RegOk (mset I (l.getD i T5.dflt).1 (i : Int) M) (l.take (i + 1)) := by
          have := regOk_new hM (l.getD i T5.dflt) e
          rw [ht]
          rw [List.length_take, show min i l.length = i by omega] at this
          exact this
        obtain ⟨M', m1, m2⟩ := ih (i + 1) j dup _ (by omega) (by omega) hM2 hw2
        rw [ht] at m1 m2
        rw [drop_cons' l i T5.dflt (by omega), errsGo, if_neg (fun h => h h1), dupGo, e]
        refine ⟨M', m1, ?_⟩
        rw [f_u26_8, decide_eq_true (by omega : (i : Int) < (l.length : Int)), cond_true, if_pos ⟨by omega, by omega⟩, Int.toNat_natCast, hf, hv, Option.isSome_some, if_pos rfl, h1]
        show (bif v_u29 k W L l M (l.getD i T5.dflt).1 then _ else _) = _
        rw [hkn, (hM _).none e, wrapS i (by omega)]
        exact m2
      | some q =>
        have hM2 : RegOk M (l.take (i + 1)) := by
          have := regOk_old hM (l.getD i T5.dflt) (by rw [e]; rfl)
          rw [ht]
          exact this
        obtain ⟨M', m1, m2⟩ := ih (i + 1) j true _ (by omega) (by omega) hM2 hw2
        rw [ht] at m1 m2
        rw [drop_cons' l i T5.dflt (by omega), errsGo, if_neg (fun h => h h1), dupGo, e]
        refine ⟨M', m1, ?_⟩
        obtain ⟨a, b, _, _⟩ := (hM _).some e
        rw [f_u26_8, decide_eq_true (by omega : (i : Int) < (l.length : Int)), cond_true, if_pos ⟨by omega, by omega⟩, Int.toNat_natCast, hf, hv, Option.isSome_some, if_pos rfl, h1]
        show (bif v_u29 k W L l M (l.getD i T5.dflt).1 then _ else _) = _
        rw [hkn, b, wrapS i (by omega), Option.isSome_some, Option.isSome_some, Bool.true_or, Bool.or_true]
        rw [Bool.true_or] at m2
        exact m2
    · rw [drop_cons' l i T5.dflt (by omega), errsGo, if_pos h1]
      refine ⟨M, fun h => absurd h h1, ?_⟩
      rw [f_u26_8, decide_eq_true (by omega : (i : Int) < (l.length : Int)), cond_true, if_pos ⟨by omega, by omega⟩, Int.toNat_natCast, hf, hv, Option.isSome_some, if_pos rfl, show (fitsS (l.take i) W L (l.getD i T5.dflt) != 0) = true from bne_iff_ne.2 h1, cond_true, if_pos h1]
/-- the opening of a register -/
theorem fam_open (k : Nat) (hk : 300000 ≤ k) (l : List Ro) (web : Int × Int) : (checkS l web.1 web.2 ≠ 0 → f_u26 k l web = some (.inl (checkS l web.1 web.2))) ∧ (checkS l web.1 web.2 = 0 → ∃ M, RegOk M l ∧ Wl l ∧ f_u26 k l web = some (.inr (0, web.1, web.2, l, M))) := by
  obtain ⟨W, L⟩ := web
  show (checkS l W L ≠ 0 → f_u26 k l (W, L) = some (.inl (checkS l W L))) ∧ (checkS l W L = 0 → ∃ M, RegOk M l ∧ Wl l ∧ f_u26 k l (W, L) = some (.inr (0, W, L, l, M)))
  unfold f_u26 checkS
  show ((if _ then _ else _ : Int) ≠ 0 → (bif decide (W < (1 : Int)) || decide (W > (12000 : Int)) || decide (L < (0 : Int)) || decide (L > (17179869184 : Int)) then some (.inl 1) else bif _ then _ else f_u26_8 k k l false l (l.length : Int) 0 W L l []) = _) ∧ (_ → ∃ M, RegOk M l ∧ Wl l ∧ (bif decide (W < (1 : Int)) || decide (W > (12000 : Int)) || decide (L < (0 : Int)) || decide (L > (17179869184 : Int)) then some (.inl 1) else bif _ then _ else f_u26_8 k k l false l (l.length : Int) 0 W L l []) = _)
  by_cases h1 : W < 1 ∨ W > 12000 ∨ L < 0 ∨ L > 17179869184
  · rw [if_pos h1, show (decide (W < (1 : Int)) || decide (W > (12000 : Int)) || decide (L < (0 : Int)) || decide (L > (17179869184 : Int))) = true by simp; omega]
    exact ⟨fun _ => rfl, fun h => absurd h (by decide)⟩
  · rw [if_neg h1, show (decide (W < (1 : Int)) || decide (W > (12000 : Int)) || decide (L < (0 : Int)) || decide (L > (17179869184 : Int))) = false by simp; omega, cond_false]
    by_cases h2 : l.length > 512
    · rw [if_pos h2, decide_eq_true (by omega : (l.length : Int) > 512)]
      exact ⟨fun _ => rfl, fun h => absurd h (by decide)⟩
    · rw [if_neg h2, decide_eq_false (by omega : ¬ (l.length : Int) > 512), cond_false]
      obtain ⟨M, m1, m2⟩ := fam_open_8 k hk l W L (by omega) (by omega) l.length 0 k false [] (by omega) (by omega) (by rw [List.take_zero]; exact regOk_nil) (fun r hr => by simp at hr)
      rw [List.take_zero, List.drop_zero, Bool.false_or] at m2
      rw [List.take_zero, List.drop_zero] at m1
      rw [show f_u26_8 k k l false l (l.length : Int) 0 W L l [] = _ from m2]
      by_cases h3 : errsGo W L [] l = 0
      · rw [if_neg (fun h : errsGo W L [] l ≠ 0 => h h3), if_neg (fun h : errsGo W L [] l ≠ 0 => h h3)]
        have ff : ¬ (false = true) := Bool.false_ne_true
        have tt : true = true := rfl
        cases dupGo [] l
        · rw [if_neg ff, if_neg ff]
          cases clashGo [] l
          · rw [if_neg ff, if_neg ff]
            exact ⟨fun h => absurd rfl h, fun _ => ⟨M, (m1 h3).1, (m1 h3).2, rfl⟩⟩
          · rw [if_pos tt, if_pos tt]
            exact ⟨fun _ => rfl, fun h => absurd h (by decide)⟩
        · rw [if_pos tt, if_pos tt]
          exact ⟨fun _ => rfl, fun h => absurd h (by decide)⟩
      · rw [if_pos h3, if_pos h3]
        exact ⟨fun _ => rfl, fun h => absurd h h3⟩
theorem fam_Check_s (k : Nat) (hk : 300000 ≤ k) (l : List Ro) (W L : Int) : f_u24 k l W L = some (checkS l W L) := by
  obtain ⟨h1, h2⟩ := fam_open k hk l (W, L)
  unfold f_u24 vA_u26 vB_u26 v_u26
  by_cases h : checkS l W L = 0
  · obtain ⟨M, _, _, e⟩ := h2 h
    rw [e, h]; rfl
  · have e := h1 h
    rw [e]; rfl
end Go.AM
namespace Go.AM
open Go Go.Proofs
noncomputable section
end
end Go.AM
namespace Go.AM
open Go Go.Proofs
noncomputable section
end
end Go.AM
namespace Go.AM
open Go

/-! ### what a valid register says of its rolls -/
theorem look_left {a : List Ro} {id : Int} {q : Ro} (b : List Ro) (h : look a id = some q) : look (a ++ b) id = some q := by
  rw [look_append, h]; rfl
theorem size_left {a : List Ro} {W L id : Int} (b : List Ro) (h : id = 0 ∨ ∃ q, look a id = some q) : sizeS (a ++ b) W L id = sizeS a W L id := by
  unfold sizeS
  by_cases h0 : id = 0
  · rw [if_pos h0, if_pos h0]
  · rw [if_neg h0, if_neg h0]
    rcases h with h | ⟨q, h⟩
    · exact absurd h h0
    · rw [look_left b h, h]
structure RollOk (l : List Ro) (W L : Int) (r : Ro) : Prop where
  look : look l r.1 = some r
  pos : 1 ≤ r.1
  parent : r.2.1 = 0 ∨ ∃ q, Go.AM.look l r.2.1 = some q
  cut : CutOk r.2.2 (sizeS l W L r.2.1).1 (sizeS l W L r.2.1).2
theorem Okp.ro {W L : Int} {l : List Ro} (h : Okp W L l) : ∀ r ∈ l, RollOk l W L r := by
  induction h with
  | nil => intro r hr; simp at hr
  | snoc p r h f n c ih =>
    intro x hx
    rcases List.mem_append.1 hx with hx | hx
    · obtain ⟨a, b, c, d⟩ := ih x hx
      refine ⟨look_left _ a, b, ?_, by rw [size_left _ c]; exact d⟩
      rcases c with c | ⟨q, c⟩
      · exact .inl c
      · exact .inr ⟨q, look_left _ c⟩
    · rw [List.mem_singleton] at hx
      subst hx
      obtain ⟨a, b, c, d⟩ := f
      refine ⟨?_, a, ?_, by rw [size_left _ c]; exact d⟩
      · rw [look_append, n, Option.none_or]; unfold Go.AM.look; simp
      · rcases c with c | ⟨q, c⟩
        · exact .inl c
        · exact .inr ⟨q, look_left _ c⟩
/-- a roll that is cut from the web in n cuts at the most -/
inductive Anc (l : List Ro) : Nat → Int → Prop
  | root (n : Nat) : Anc l n 0
  | step (n : Nat) (id : Int) (r : Ro) (h0 : id ≠ 0) (h : look l id = some r) (a : Anc l n r.2.1) : Anc l (n + 1) id
theorem Anc.mono {l : List Ro} {n m : Nat} {id : Int} (h : Anc l n id) (hm : n ≤ m) : Anc l m id := by
  induction h generalizing m with
  | root n => exact .root m
  | step n id r h0 h a ih =>
    obtain ⟨m, rfl⟩ : ∃ q, m = q + 1 := ⟨m - 1, by omega⟩
    exact .step m id r h0 h (ih (by omega))
theorem Anc.left {l : List Ro} {n : Nat} {id : Int} (h : Anc l n id) (t : List Ro) : Anc (l ++ t) n id := by
  induction h with
  | root n => exact .root n
  | step n id r h0 h a ih => exact .step n id r h0 (look_left t h) ih
theorem Okp.anc {W L : Int} {l : List Ro} (h : Okp W L l) : ∀ r ∈ l, Anc l l.length r.1 := by
  induction h with
  | nil => intro r hr; simp at hr
  | snoc p r h f n c ih =>
    intro x hx
    rw [List.length_append, List.length_singleton]
    rcases List.mem_append.1 hx with hx | hx
    · exact ((ih x hx).mono (by omega)).left _
    · rw [List.mem_singleton] at hx
      subst hx
      obtain ⟨a, b, c, d⟩ := f
      refine .step p.length x.1 x (by omega) (by rw [look_append, n, Option.none_or]; unfold look; simp) ?_
      rcases c with c | ⟨q, c⟩
      · rw [c]; exact .root _
      · have := (ih q (look_some c).1).left [x]
        rw [(look_some c).2] at this
        exact this
theorem Reg.anc {W L : Int} {l : List Ro} (h : Reg l W L) {id : Int} (hi : id = 0 ∨ ∃ q, look l id = some q) : Anc l 512 id := by
  rcases hi with rfl | ⟨q, e⟩
  · exact .root _
  · have := h.ok.anc q (look_some e).1
    rw [(look_some e).2] at this
    exact this.mono h.num
theorem Reg.small {W L : Int} {l : List Ro} (h : Reg l W L) : ∀ (n : Nat) (id : Int), Anc l n id → 0 ≤ (sizeS l W L id).1 ∧ (sizeS l W L id).1 ≤ 12000 ∧ 0 ≤ (sizeS l W L id).2 ∧ (sizeS l W L id).2 ≤ 17179869184 := by
  intro n id ha
  have hw := h.w
  have hl := h.len
  induction ha with
  | root n => unfold sizeS; rw [if_pos rfl]; omega
  | step n id r h0 e a ih =>
    have ro := h.ok.ro r (look_some e).1
    obtain ⟨c1, c2, c3, c4, _⟩ := ro.cut
    have h1 : (sizeS l W L id) = (r.2.2.2.1, lenS r.2.2.2.2.2) := by unfold sizeS; rw [if_neg h0, e]
    rw [h1]
    have h2 := lenS_nonneg c4.goods
    have h3 := c4.tot
    refine ⟨?_, ?_, ?_, ?_⟩
    · show 0 ≤ r.2.2.2.1; omega
    · show r.2.2.2.1 ≤ _; omega
    · show 0 ≤ lenS r.2.2.2.2.2; omega
    · show lenS r.2.2.2.2.2 ≤ _; omega

/-! ### points -/
def placeS (r : Ro) (p : Pt) : Pt := (r.2.1, (if r.2.2.2.2.1 = true then r.2.2.1 + r.2.2.2.1 - 1 - p.2.1 else r.2.2.1 + p.2.1), imgAt r.2.2.2.2.2 p.2.2)
structure On (l : List Ro) (W L : Int) (p : Pt) : Prop where
  a0 : 0 ≤ p.2.1
  a1 : p.2.1 < (sizeS l W L p.1).1
  b0 : 0 ≤ p.2.2
  b1 : p.2.2 < (sizeS l W L p.1).2
theorem imgAt_mem : ∀ {m : List Rn} {x : Int}, goods m → 0 ≤ x → x < lenS m → ∃ r ∈ m, lo r ≤ imgAt m x ∧ imgAt m x ≤ hi r
  | [], x, _, h0, h1 => by simp [lenS] at h1; omega
  | r :: t, x, ⟨g1, g2⟩, h0, h1 => by
    rw [lenS] at h1
    unfold imgAt
    by_cases h : x < r.2.1
    · rw [if_pos h]
      exact ⟨r, by simp, img_mem h0 h⟩
    · rw [if_neg h]
      obtain ⟨q, hq, a⟩ := imgAt_mem g2 (by omega : 0 ≤ x - r.2.1) (by omega)
      exact ⟨q, by simp [hq], a⟩
theorem fits_mem {n : Int} : ∀ {l : List Rn}, fitsIn n l → ∀ r ∈ l, hi r < n
  | [], _, r, h => by simp at h
  | u :: t, ⟨h1, h2⟩, r, hr => by
    rcases List.mem_cons.1 hr with rfl | hr
    · exact h1
    · exact fits_mem h2 r hr
theorem On.place {l : List Ro} {W L : Int} {p : Pt} {r : Ro} (hp : p.1 ≠ 0) (h : On l W L p) (e : look l p.1 = some r) (ro : RollOk l W L r) : On l W L (placeS r p) := by
  obtain ⟨a0, a1, b0, b1⟩ := h
  obtain ⟨c1, c2, c3, c4, c5, c6, c7⟩ := ro.cut
  have h1 : (sizeS l W L p.1) = (r.2.2.2.1, lenS r.2.2.2.2.2) := by unfold sizeS; rw [if_neg hp, e]
  rw [h1] at a1 b1
  have a1 : p.2.1 < r.2.2.2.1 := a1
  have b1 : p.2.2 < lenS r.2.2.2.2.2 := b1
  obtain ⟨x, hx, i1, i2⟩ := imgAt_mem c4.goods b0 b1
  have h2 := fits_mem c7 x hx
  obtain ⟨l1, l2, l3, l4⟩ := (c4.goods.mem x hx).lohi
  refine ⟨?_, ?_, ?_, ?_⟩
  · show 0 ≤ (if r.2.2.2.2.1 = true then _ else _ : Int)
    split <;> omega
  · show (if r.2.2.2.2.1 = true then _ else _ : Int) < (sizeS l W L r.2.1).1
    split <;> omega
  · show 0 ≤ imgAt _ _; omega
  · show imgAt _ _ < (sizeS l W L r.2.1).2; omega

structure Kno (l : List Ro) (W L id : Int) : Prop where
  reg : Reg l W L
  kn : id = 0 ∨ ∃ q, look l id = some q
theorem Reg.wl {l : List Ro} {W L : Int} (h : Reg l W L) : Wl l := fun r hr => by
  have ro := h.ok.ro r hr
  obtain ⟨c1, c2, c3, c4, _⟩ := ro.cut
  have := h.small 512 r.2.1 (h.anc ro.parent)
  exact ⟨c1, c2, by omega, c4⟩

end Go.AM
namespace Go.AM
open Go Go.Proofs
noncomputable section
abbrev R_u18 : Type := Int
def res_u18 (r : R_u18) : AV := .r (.v (.int .i64 r))
def bo_u18 (r_ : T5.T) (r : R_u18) : List (Nat × Blk) := []
def args_u18 (r_ : T5.T) : List AV := [.agg (rvs (enc T5 r_))]
def bin_u18 (r_ : T5.T) : List Blk := []
abbrev C_u18 (r_ : T5.T) (r : R_u18) : Prop := CC Tryz.prog 76 (args_u18 r_) (bin_u18 r_) (res_u18 r) (bo_u18 r_ r)
def f_u18 (k : Nat) (r_ : T5.T) : Option R_u18 :=
  if ((f_u36 k r_.2.2.2.2.2).isSome = true) then
  some ((v_u36 k r_.2.2.2.2.2).1)
  else none
def v_u18 (k : Nat) (r_ : T5.T) : R_u18 := (f_u18 k r_).getD 0
def ke_u18 (k : Nat) : Ke := (76, fun xs => match xs with
  | [_] => some [false]
  | _ => none, fun xs bs => match xs, bs with
  | [.agg qr_], [] => (decS [] T5 qr_).bind fun r_ => some (.one (res_u18 (v_u18 k r_), bo_u18 r_ (v_u18 k r_)))
  | _, _ => none)
theorem of_u18 (k : Nat) (r_ : T5.T) (r : R_u18) (h : f_u18 k r_ = some r) : C_u18 r_ r := by
  refine CC.of (fn := Tryz.f76) (by kernel_rfl) (by kernel_rfl) (by kernel_rfl) (by kernel_rfl) ?_
  unfold f_u18 at h
  exact go (mkK [ke_u36 k]) [] [] [.autoB [2] true []] (gN1 h (fun q => cc_u36 q) fun h => gL h) (by kernel_rfl)
theorem cc_u18 {k : Nat} {r_ : T5.T} (h : (f_u18 k r_).isSome = true) : C_u18 r_ (v_u18 k r_) := ccG (Φ := C_u18 r_) h (of_u18 k r_)
abbrev R_u19 : Type := Int
def res_u19 (r : R_u19) : AV := .r (.v (.int .i64 r))
def bo_u19 (r_ : T5.T) (r : R_u19) : List (Nat × Blk) := []
def args_u19 (r_ : T5.T) : List AV := [.agg (rvs (enc T5 r_))]
def bin_u19 (r_ : T5.T) : List Blk := []
abbrev C_u19 (r_ : T5.T) (r : R_u19) : Prop := CC Tryz.prog 77 (args_u19 r_) (bin_u19 r_) (res_u19 r) (bo_u19 r_ r)
def st_u19_3 (y0 : Int) (y1 : List (T3).T) (y2 : Int) (y3 : Int) : St := ⟨mkS 30 [(3, .r (.v (.int .i64 y0))), (8, .r (.ro T3 y1)), (9, .r (.v (.int .i64 y2))), (10, .r (.v (.int .i64 y3)))], []⟩
def f_u19_3 (k : Nat) : Nat → Int → List (T3).T → Int → Int → Option R_u19
  | 0, _, _, _, _ => none
  | j + 1, y0, y1, y2, y3 =>
  bif (decide (y3 < y2)) then
  if (0 ≤ y3) ∧ (y3 < (↑y1.length : Int)) then
  bif (y1.getD y3.toNat T3.dflt).2.2 then
  f_u19_3 k j ((if IntKind.i64.wrap (IntKind.i64.wrap ((y1.getD y3.toNat T3.dflt).1 - (y1.getD y3.toNat T3.dflt).2.1) + 1) < if (y1.getD y3.toNat T3.dflt).1 < y0 then (y1.getD y3.toNat T3.dflt).1 else y0 then IntKind.i64.wrap (IntKind.i64.wrap ((y1.getD y3.toNat T3.dflt).1 - (y1.getD y3.toNat T3.dflt).2.1) + 1) else if (y1.getD y3.toNat T3.dflt).1 < y0 then (y1.getD y3.toNat T3.dflt).1 else y0)) y1 y2 ((IntKind.i64.wrap (y3 + 1)))
  else
  f_u19_3 k j ((if (y1.getD y3.toNat T3.dflt).1 < y0 then (y1.getD y3.toNat T3.dflt).1 else y0)) y1 y2 ((IntKind.i64.wrap (y3 + 1)))
  else none
  else
  some y0
def f_u19 (k : Nat) (r_ : T5.T) : Option R_u19 :=
  f_u19_3 k k 17179869184 r_.2.2.2.2.2 ((↑ (List.length r_.2.2.2.2.2) : Int)) 0
def v_u19 (k : Nat) (r_ : T5.T) : R_u19 := (f_u19 k r_).getD 0
def ke_u19 (k : Nat) : Ke := (77, fun xs => match xs with
  | [_] => some [false]
  | _ => none, fun xs bs => match xs, bs with
  | [.agg qr_], [] => (decS [] T5 qr_).bind fun r_ => some (.one (res_u19 (v_u19 k r_), bo_u19 r_ (v_u19 k r_)))
  | _, _ => none)
def cs_u19 : List (Nat × List Cmd) := [(3, [.autoB [3, 8, 9, 10] false []])]
abbrev E_u19 (r_ : T5.T) (todo : List Item) (st : St) (o : Option R_u19) : Prop := ∀ r, o = some r → Ev Tryz.prog Tryz.f77 0 todo st (res_u19 r) (bo_u19 r_ r)
theorem ev_u19 (k : Nat) (r_ : T5.T) : ∀ j, (∀ (y0 : Int) (y1 : List (T3).T) (y2 : Int) (y3 : Int), E_u19 r_ (placeAt Tryz.f77 3) (st_u19_3 y0 y1 y2 y3) (f_u19_3 k j y0 y1 y2 y3))
  | 0 => fun _ _ _ _ _ h => (nomatch h)
  | j + 1 => by
    have ih := @ev_u19 k r_ j
    · intro y0 y1 y2 y3 r h
      rw [f_u19_3] at h
      exact go (mkK []) [] cs_u19 [.autoB [2] true []] (gT h (fun c h => gN2 h fun h => gT h (fun c h => gC h 3 (ih _ _ _ _ _)) fun c h => gC h 3 (ih _ _ _ _ _)) fun c h => gL h) (by kernel_rfl)
theorem of_u19 (k : Nat) (r_ : T5.T) (r : R_u19) (h : f_u19 k r_ = some r) : C_u19 r_ r := by
  refine CC.of (fn := Tryz.f77) (by kernel_rfl) (by kernel_rfl) (by kernel_rfl) (by kernel_rfl) ?_
  unfold f_u19 at h
  exact go (mkK []) [] cs_u19 [.autoB [2] true []] (gC h 3 ((ev_u19 k r_ k) _ _ _ _ _)) (by kernel_rfl)
theorem cc_u19 {k : Nat} {r_ : T5.T} (h : (f_u19 k r_).isSome = true) : C_u19 r_ (v_u19 k r_) := ccG (Φ := C_u19 r_) h (of_u19 k r_)
abbrev R_u10 : Type := Int
def res_u10 (r : R_u10) : AV := .r (.v (.int .i64 r))
def bo_u10 (b_ : T17.T) (b_22 : List (T18).T) (scrapped_ : List ((I).T × (RTy.bool).T)) (r : R_u10) : List (Nat × Blk) := [(0, .var 140 (rvs (enc T17 b_) ++ [.own 1 0])), (0, .row 54 T18 b_22), (0, .map false I RTy.bool scrapped_)]
def args_u10 (b_ : T17.T) (b_22 : List (T18).T) (scrapped_ : List ((I).T × (RTy.bool).T)) : List AV := [.ptr 0 0 0, .own 2 0]
def bin_u10 (b_ : T17.T) (b_22 : List (T18).T) (scrapped_ : List ((I).T × (RTy.bool).T)) : List Blk := [.var 140 (rvs (enc T17 b_) ++ [.own 1 0]), .row 54 T18 b_22, .map false I RTy.bool scrapped_]
abbrev C_u10 (b_ : T17.T) (b_22 : List (T18).T) (scrapped_ : List ((I).T × (RTy.bool).T)) (r : R_u10) : Prop := CC Tryz.prog 78 (args_u10 b_ b_22 scrapped_) (bin_u10 b_ b_22 scrapped_) (res_u10 r) (bo_u10 b_ b_22 scrapped_ r)
def st_u10_3 (b_ : T17.T) (b_22 : List (T18).T) (scrapped_ : List ((I).T × (RTy.bool).T)) (y0 : Int) (y1 : List (T5).T) (y2 : Int) (y3 : Int) : St := ⟨mkS 67 [(0, .ptr 0 0 0), (1, .own 2 0), (5, .r (.v (.int .i64 y0))), (15, .r (.ro T5 y1)), (16, .r (.v (.int .i64 y2))), (17, .r (.v (.int .i64 y3)))], [(0, 0, .var 140 (rvs (enc T17 b_) ++ [.own 1 0])), (1, 0, .row 54 T18 b_22), (2, 0, .map false I RTy.bool scrapped_)]⟩
def st_u10_10 (b_ : T17.T) (b_22 : List (T18).T) (scrapped_ : List ((I).T × (RTy.bool).T)) (y0 : Int) (y1 : List (T14).T) (y2 : Int) (y3 : Int) : St := ⟨mkS 67 [(5, .r (.v (.int .i64 y0))), (53, .r (.ro T14 y1)), (54, .r (.v (.int .i64 y2))), (55, .r (.v (.int .i64 y3)))], [(0, 0, .var 140 (rvs (enc T17 b_) ++ [.own 1 0])), (1, 0, .row 54 T18 b_22), (2, 0, .map false I RTy.bool scrapped_)]⟩
mutual
def f_u10_3 (k : Nat) (b_ : T17.T) (b_22 : List (T18).T) (scrapped_ : List ((I).T × (RTy.bool).T)) : Nat → Int → List (T5).T → Int → Int → Option R_u10
  | 0, _, _, _, _ => none
  | j + 1, y0, y1, y2, y3 =>
  bif (decide (y3 < y2)) then
  if (0 ≤ y3) ∧ (y3 < (↑y1.length : Int)) then
  if ((f_u18 k (y1.getD y3.toNat T5.dflt)).isSome = true) then
  bif (! (mget I (y1.getD y3.toNat T5.dflt).1 scrapped_).getD false) then
  if (0 ≤ y3) ∧ (y3 < (↑ (List.length b_.2.2.2.2.2.2.2.2.2.2.2.2.1) : Int)) then
  f_u10_3 k b_ b_22 scrapped_ j ((IntKind.i64.wrap (y0 + IntKind.i64.wrap ((y1.getD y3.toNat T5.dflt).2.2.2.1 * IntKind.i64.wrap (v_u18 k (y1.getD y3.toNat T5.dflt) - if (if v_u18 k (y1.getD y3.toNat T5.dflt) < List.getD b_.2.2.2.2.2.2.2.2.2.2.2.2.1 y3.toNat I.dflt then v_u18 k (y1.getD y3.toNat T5.dflt) else List.getD b_.2.2.2.2.2.2.2.2.2.2.2.2.1 y3.toNat I.dflt) > 0 then if v_u18 k (y1.getD y3.toNat T5.dflt) < List.getD b_.2.2.2.2.2.2.2.2.2.2.2.2.1 y3.toNat I.dflt then v_u18 k (y1.getD y3.toNat T5.dflt) else List.getD b_.2.2.2.2.2.2.2.2.2.2.2.2.1 y3.toNat I.dflt else 0))))) y1 y2 ((IntKind.i64.wrap (y3 + 1)))
  else none
  else
  f_u10_3 k b_ b_22 scrapped_ j y0 y1 y2 ((IntKind.i64.wrap (y3 + 1)))
  else none
  else none
  else
  f_u10_10 k b_ b_22 scrapped_ j y0 b_.2.2.2.2.2.2.2.2.2.2.2.2.2.2.2.2.2.2.2.2.1 ((↑ (List.length b_.2.2.2.2.2.2.2.2.2.2.2.2.2.2.2.2.2.2.2.2.1) : Int)) 0
def f_u10_10 (k : Nat) (b_ : T17.T) (b_22 : List (T18).T) (scrapped_ : List ((I).T × (RTy.bool).T)) : Nat → Int → List (T14).T → Int → Int → Option R_u10
  | 0, _, _, _, _ => none
  | j + 1, y0, y1, y2, y3 =>
  bif (decide (y3 < y2)) then
  if (0 ≤ y3) ∧ (y3 < (↑y1.length : Int)) then
  f_u10_10 k b_ b_22 scrapped_ j ((IntKind.i64.wrap (y0 + if (if 206158430208000 < (y1.getD y3.toNat T14.dflt).2.2.2 then 206158430208000 else (y1.getD y3.toNat T14.dflt).2.2.2) > 0 then if 206158430208000 < (y1.getD y3.toNat T14.dflt).2.2.2 then 206158430208000 else (y1.getD y3.toNat T14.dflt).2.2.2 else 0))) y1 y2 ((IntKind.i64.wrap (y3 + 1)))
  else none
  else
  some y0
end
def f_u10 (k : Nat) (b_ : T17.T) (b_22 : List (T18).T) (scrapped_ : List ((I).T × (RTy.bool).T)) : Option R_u10 :=
  f_u10_3 k b_ b_22 scrapped_ k 0 b_.2.2.2.2.2.2.2.2.2.2.2.1 ((↑ (List.length b_.2.2.2.2.2.2.2.2.2.2.2.1) : Int)) 0
def v_u10 (k : Nat) (b_ : T17.T) (b_22 : List (T18).T) (scrapped_ : List ((I).T × (RTy.bool).T)) : R_u10 := (f_u10 k b_ b_22 scrapped_).getD 0
def ke_u10 (k : Nat) : Ke := (78, fun xs => match xs with
  | [.ptr _ _ _, .own _ _] => some [true, true, true, true, true]
  | _ => none, fun xs bs => match xs, bs with
  | [.ptr 0 0 0, .own 2 0], [.var 140 qb_, .row 54 tb_22_ qb_22, .map false kscrapped__ tscrapped__ qscrapped_] => (decS [] T17 (qb_.take 22)).bind fun b_ => (castL tb_22_ T18 qb_22).bind fun b_22 => (castM kscrapped__ tscrapped__ I RTy.bool qscrapped_).bind fun scrapped_ => some (.one (res_u10 (v_u10 k b_ b_22 scrapped_), bo_u10 b_ b_22 scrapped_ (v_u10 k b_ b_22 scrapped_)))
  | _, _ => none)
def cs_u10 : List (Nat × List Cmd) := [(3, [.autoB [0, 1, 5, 15, 16, 17] false []]), (10, [.autoB [5, 53, 54, 55] false []])]
abbrev E_u10 (b_ : T17.T) (b_22 : List (T18).T) (scrapped_ : List ((I).T × (RTy.bool).T)) (todo : List Item) (st : St) (o : Option R_u10) : Prop := ∀ r, o = some r → Ev Tryz.prog Tryz.f78 3 todo st (res_u10 r) (bo_u10 b_ b_22 scrapped_ r)
theorem ev_u10 (k : Nat) (b_ : T17.T) (b_22 : List (T18).T) (scrapped_ : List ((I).T × (RTy.bool).T)) : ∀ j, (∀ (y0 : Int) (y1 : List (T5).T) (y2 : Int) (y3 : Int), E_u10 b_ b_22 scrapped_ (placeAt Tryz.f78 3) (st_u10_3 b_ b_22 scrapped_ y0 y1 y2 y3) (f_u10_3 k b_ b_22 scrapped_ j y0 y1 y2 y3)) ∧ (∀ (y0 : Int) (y1 : List (T14).T) (y2 : Int) (y3 : Int), E_u10 b_ b_22 scrapped_ (placeAt Tryz.f78 10) (st_u10_10 b_ b_22 scrapped_ y0 y1 y2 y3) (f_u10_10 k b_ b_22 scrapped_ j y0 y1 y2 y3))
  | 0 => ⟨fun _ _ _ _ _ h => (nomatch h), fun _ _ _ _ _ h => (nomatch h)⟩
  | j + 1 => by
    have ih := @ev_u10 k b_ b_22 scrapped_ j
    refine ⟨?_, ?_⟩
    · intro y0 y1 y2 y3 r h
      rw [f_u10_3] at h
      exact go (mkK [ke_u18 k]) [] cs_u10 [.autoB [4] true []] (gT h (fun c h => gN2 h fun h => gN1 h (fun q => cc_u18 q) fun h => gT h (fun c h => gN2 h fun h => gC h 3 (ih.1 _ _ _ _ _)) fun c h => gC h 3 (ih.1 _ _ _ _ _)) fun c h => gC h 10 (ih.2 _ _ _ _ _)) (by kernel_rfl)
    · intro y0 y1 y2 y3 r h
      rw [f_u10_10] at h
      exact go (mkK [ke_u18 k]) [] cs_u10 [.autoB [4] true []] (gT h (fun c h => gN2 h fun h => gC h 10 (ih.2 _ _ _ _ _)) fun c h => gL h) (by kernel_rfl)
theorem of_u10 (k : Nat) (b_ : T17.T) (b_22 : List (T18).T) (scrapped_ : List ((I).T × (RTy.bool).T)) (r : R_u10) (h : f_u10 k b_ b_22 scrapped_ = some r) : C_u10 b_ b_22 scrapped_ r := by
  refine CC.of (fn := Tryz.f78) (by kernel_rfl) (by kernel_rfl) (by kernel_rfl) (by kernel_rfl) ?_
  unfold f_u10 at h
  exact go (mkK [ke_u18 k]) [] cs_u10 [.autoB [4] true []] (gC h 3 ((ev_u10 k b_ b_22 scrapped_ k).1 _ _ _ _ _)) (by kernel_rfl)
theorem cc_u10 {k : Nat} {b_ : T17.T} {b_22 : List (T18).T} {scrapped_ : List ((I).T × (RTy.bool).T)} (h : (f_u10 k b_ b_22 scrapped_).isSome = true) : C_u10 b_ b_22 scrapped_ (v_u10 k b_ b_22 scrapped_) := ccG (Φ := C_u10 b_ b_22 scrapped_) h (of_u10 k b_ b_22 scrapped_)
abbrev R_u14 : Type := T17.T × List (T18).T
def res_u14 (r : R_u14) : AV := .tup []
def bo_u14 (t_ : T17.T) (t_22 : List (T18).T) (r : R_u14) : List (Nat × Blk) := [(0, .var 140 ((rvs (enc T17 r.1)) ++ [.own 1 1])), (1, .row 54 T18 r.2)]
def args_u14 (t_ : T17.T) (t_22 : List (T18).T) : List AV := [.ptr 0 0 0]
def bin_u14 (t_ : T17.T) (t_22 : List (T18).T) : List Blk := [.var 140 (rvs (enc T17 t_) ++ [.own 1 0]), .row 54 T18 t_22]
abbrev C_u14 (t_ : T17.T) (t_22 : List (T18).T) (r : R_u14) : Prop := CC Tryz.prog 35 (args_u14 t_ t_22) (bin_u14 t_ t_22) (res_u14 r) (bo_u14 t_ t_22 r)
def st_u14_6 (t_ : T17.T) (t_22 : List (T18).T) (y0 : List (T5).T) (y1 : Int) (y2 : Int) (y3 : T17.T) (y4 : List (T18).T) : St := ⟨mkS 209 [(0, .ptr 0 0 0), (56, .r (.ro T5 y0)), (57, .r (.v (.int .i64 y1))), (58, .r (.v (.int .i64 y2)))], [(0, 0, .var 140 ((rvs (enc T17 y3)) ++ [.own 1 1])), (1, 1, .row 54 T18 y4)]⟩
def st_u14_11 (t_ : T17.T) (t_22 : List (T18).T) (y0 : Int) (y1 : Int) (y2 : Bool) (y3 : List (T5).T) (y4 : Int) (y5 : Int) (y6 : List (T5).T) (y7 : Int) (y8 : Int) (y9 : T17.T) (y10 : List (T18).T) (y11 : T5.T) : St := ⟨mkS 209 [(0, .ptr 0 0 0), (3, .r (.v (.int .i64 y0))), (4, .ptr 1000000 0 0), (5, .r (.v (.int .i64 y1))), (6, .r (.v (.bool y2))), (56, .r (.ro T5 y3)), (57, .r (.v (.int .i64 y4))), (58, .r (.v (.int .i64 y5))), (90, .r (.ro T5 y6)), (91, .r (.v (.int .i64 y7))), (92, .r (.v (.int .i64 y8)))], [(0, 0, .var 140 ((rvs (enc T17 y9)) ++ [.own 1 1])), (1, 1, .row 54 T18 y10), (1000000, 0, .var 47 (rvs (enc T5 y11)))]⟩
def st_u14_20 (t_ : T17.T) (t_22 : List (T18).T) (y0 : List (T5).T) (y1 : Int) (y2 : Int) (y3 : T17.T) (y4 : List (T18).T) (y5 : List ((I).T × (RTy.bool).T)) : St := ⟨mkS 209 [(0, .ptr 0 0 0), (9, .own 1000000 0), (132, .r (.ro T5 y0)), (133, .r (.v (.int .i64 y1))), (134, .r (.v (.int .i64 y2)))], [(0, 0, .var 140 ((rvs (enc T17 y3)) ++ [.own 1 1])), (1, 1, .row 54 T18 y4), (1000000, 0, .map false I RTy.bool y5)]⟩
def st_u14_26 (t_ : T17.T) (t_22 : List (T18).T) (y0 : List (I).T) (y1 : Int) (y2 : Int) (y3 : T17.T) (y4 : List (T18).T) (y5 : List ((I).T × (RTy.bool).T)) (y6 : List ((I).T × (RTy.bool).T)) : St := ⟨mkS 209 [(0, .ptr 0 0 0), (9, .own 1000000 0), (12, .own 1000001 0), (147, .r (.ro I y0)), (148, .r (.v (.int .i64 y1))), (149, .r (.v (.int .i64 y2)))], [(0, 0, .var 140 ((rvs (enc T17 y3)) ++ [.own 1 1])), (1, 1, .row 54 T18 y4), (1000000, 0, .map false I RTy.bool y5), (1000001, 0, .map false I RTy.bool y6)]⟩
mutual
def f_u14_6 (k : Nat) (t_ : T17.T) (t_22 : List (T18).T) : Nat → List (T5).T → Int → Int → T17.T → List (T18).T → Option R_u14
  | 0, _, _, _, _, _ => none
  | j + 1, y0, y1, y2, y3, y4 =>
  bif (decide (y2 < y1)) then
  if (0 ≤ y2) ∧ (y2 < (↑y0.length : Int)) then
  if ((f_u18 k (y0.getD y2.toNat T5.dflt)).isSome = true) then
  if (0 ≤ y2) ∧ (y2 < (↑ (List.length y3.2.2.2.2.2.2.2.2.2.2.2.2.1) : Int)) ∧ (decide (List.getD y3.2.2.2.2.2.2.2.2.2.2.2.2.1 y2.toNat I.dflt ≥ (0 : Int)) = true → 0 ≤ y2) ∧ (decide (List.getD y3.2.2.2.2.2.2.2.2.2.2.2.2.1 y2.toNat I.dflt ≥ (0 : Int)) = true → y2 < (↑ (List.length y3.2.2.2.2.2.2.2.2.2.2.2.2.1) : Int)) then
  f_u14_11 k t_ t_22 j y2 ((v_u18 k (y0.getD y2.toNat T5.dflt))) ((decide (List.getD y3.2.2.2.2.2.2.2.2.2.2.2.2.1 y2.toNat I.dflt ≥ 0) && decide (List.getD y3.2.2.2.2.2.2.2.2.2.2.2.2.1 y2.toNat I.dflt ≤ v_u18 k (y0.getD y2.toNat T5.dflt)))) y0 y1 y2 y3.2.2.2.2.2.2.2.2.2.2.2.1 ((↑ (List.length y3.2.2.2.2.2.2.2.2.2.2.2.1) : Int)) 0 y3 y4 ((y0.getD y2.toNat T5.dflt))
  else none
  else none
  else none
  else
  f_u14_20 k t_ t_22 j y3.2.2.2.2.2.2.2.2.2.2.2.1 ((↑ (List.length y3.2.2.2.2.2.2.2.2.2.2.2.1) : Int)) 0 y3 y4 ([])
def f_u14_11 (k : Nat) (t_ : T17.T) (t_22 : List (T18).T) : Nat → Int → Int → Bool → List (T5).T → Int → Int → List (T5).T → Int → Int → T17.T → List (T18).T → T5.T → Option R_u14
  | 0, _, _, _, _, _, _, _, _, _, _, _, _ => none
  | j + 1, y0, y1, y2, y3, y4, y5, y6, y7, y8, y9, y10, y11 =>
  bif (decide (y8 < y7)) then
  if (0 ≤ y8) ∧ (y8 < (↑y6.length : Int)) then
  bif y2 then
  bif ((y6.getD y8.toNat T5.dflt).2.1 != y11.1) then
  if (y2 = true) ∧ (((y6.getD y8.toNat T5.dflt).2.1 != y11.1) = true) then
  f_u14_11 k t_ t_22 j y0 y1 ((true && true)) y3 y4 y5 y6 y7 ((IntKind.i64.wrap (y8 + 1))) y9 y10 y11
  else none
  else
  if (y2 = true) ∧ (((y6.getD y8.toNat T5.dflt).2.1 != y11.1) = false) ∧ ((f_u19 k (y6.getD y8.toNat T5.dflt)).isSome = true) ∧ (0 ≤ y0) ∧ (y0 < (↑ (List.length y9.2.2.2.2.2.2.2.2.2.2.2.2.1) : Int)) then
  f_u14_11 k t_ t_22 j y0 y1 ((true && (false || decide (v_u19 k (y6.getD y8.toNat T5.dflt) ≥ IntKind.i64.wrap (y1 - List.getD y9.2.2.2.2.2.2.2.2.2.2.2.2.1 y0.toNat I.dflt))))) y3 y4 y5 y6 y7 ((IntKind.i64.wrap (y8 + 1))) y9 y10 y11
  else none
  else
  if (y2 = false) then
  f_u14_11 k t_ t_22 j y0 y1 false y3 y4 y5 y6 y7 ((IntKind.i64.wrap (y8 + 1))) y9 y10 y11
  else none
  else none
  else
  bif (!y2) then
  if ((f_u11 k y9 y10 3 y11.1 1).isSome = true) then
  f_u14_6 k t_ t_22 j y3 y4 ((IntKind.i64.wrap (y5 + 1))) ((v_u11 k y9 y10 3 y11.1 1).1) ((v_u11 k y9 y10 3 y11.1 1).2)
  else none
  else
  f_u14_6 k t_ t_22 j y3 y4 ((IntKind.i64.wrap (y5 + 1))) y9 y10
def f_u14_20 (k : Nat) (t_ : T17.T) (t_22 : List (T18).T) : Nat → List (T5).T → Int → Int → T17.T → List (T18).T → (List ((I).T × (RTy.bool).T)) → Option R_u14
  | 0, _, _, _, _, _, _ => none
  | j + 1, y0, y1, y2, y3, y4, y5 =>
  bif (decide (y2 < y1)) then
  if (0 ≤ y2) ∧ (y2 < (↑y0.length : Int)) then
  f_u14_20 k t_ t_22 j y0 y1 ((IntKind.i64.wrap (y2 + 1))) y3 y4 ((mset I (y0.getD y2.toNat T5.dflt).1 true y5))
  else none
  else
  f_u14_26 k t_ t_22 j y3.2.2.2.2.2.2.2.2.2.2.2.2.2.1 ((↑ (List.length y3.2.2.2.2.2.2.2.2.2.2.2.2.2.1) : Int)) 0 y3 y4 y5 ([])
def f_u14_26 (k : Nat) (t_ : T17.T) (t_22 : List (T18).T) : Nat → List (I).T → Int → Int → T17.T → List (T18).T → (List ((I).T × (RTy.bool).T)) → (List ((I).T × (RTy.bool).T)) → Option R_u14
  | 0, _, _, _, _, _, _, _ => none
  | j + 1, y0, y1, y2, y3, y4, y5, y6 =>
  bif (decide (y2 < y1)) then
  if (0 ≤ y2) ∧ (y2 < (↑y0.length : Int)) then
  bif (! (mget I (y0.getD y2.toNat I.dflt) y5).getD false || (mget I (y0.getD y2.toNat I.dflt) y6).getD false) then
  if ((f_u11 k y3 y4 3 (y0.getD y2.toNat I.dflt) 2).isSome = true) then
  f_u14_26 k t_ t_22 j y0 y1 ((IntKind.i64.wrap (y2 + 1))) ((v_u11 k y3 y4 3 (y0.getD y2.toNat I.dflt) 2).1) ((v_u11 k y3 y4 3 (y0.getD y2.toNat I.dflt) 2).2) y5 ((mset I (y0.getD y2.toNat I.dflt) true y6))
  else none
  else
  f_u14_26 k t_ t_22 j y0 y1 ((IntKind.i64.wrap (y2 + 1))) y3 y4 y5 ((mset I (y0.getD y2.toNat I.dflt) true y6))
  else none
  else
  bif (decide (y3.2.2.2.1 < (0 : Int)) || decide (y3.2.2.2.1 > y3.2.2.1)) then
  if ((f_u11 k y3 y4 3 0 3).isSome = true) then
  some (((v_u11 k y3 y4 3 0 3).1, (v_u11 k y3 y4 3 0 3).2))
  else none
  else
  if ((f_u10 k y3 y4 y6).isSome = true) then
  bif (IntKind.i64.wrap (v_u10 k y3 y4 y6 - IntKind.i64.wrap (y3.2.1 * y3.2.2.2.1)) != (0 : Int)) then
  if ((f_u11 k y3 y4 4 (IntKind.i64.wrap (v_u10 k y3 y4 y6 - IntKind.i64.wrap (y3.2.1 * y3.2.2.2.1))) 0).isSome = true) then
  some (((v_u11 k y3 y4 4 (IntKind.i64.wrap (v_u10 k y3 y4 y6 - IntKind.i64.wrap (y3.2.1 * y3.2.2.2.1))) 0).1, (v_u11 k y3 y4 4 (IntKind.i64.wrap (v_u10 k y3 y4 y6 - IntKind.i64.wrap (y3.2.1 * y3.2.2.2.1))) 0).2))
  else none
  else
  some ((y3, y4))
  else none
end
def f_u14 (k : Nat) (t_ : T17.T) (t_22 : List (T18).T) : Option R_u14 :=
  if ((f_u24 k t_.2.2.2.2.2.2.2.2.2.2.2.1 t_.2.1 t_.2.2.1).isSome = true) then
  bif (v_u24 k t_.2.2.2.2.2.2.2.2.2.2.2.1 t_.2.1 t_.2.2.1 != (0 : Int)) then
  if ((f_u11 k t_ t_22 3 0 (v_u24 k t_.2.2.2.2.2.2.2.2.2.2.2.1 t_.2.1 t_.2.2.1)).isSome = true) then
  some (((v_u11 k t_ t_22 3 0 (v_u24 k t_.2.2.2.2.2.2.2.2.2.2.2.1 t_.2.1 t_.2.2.1)).1, (v_u11 k t_ t_22 3 0 (v_u24 k t_.2.2.2.2.2.2.2.2.2.2.2.1 t_.2.1 t_.2.2.1)).2))
  else none
  else
  bif ((↑ (List.length t_.2.2.2.2.2.2.2.2.2.2.2.2.1) : Int) != (↑ (List.length t_.2.2.2.2.2.2.2.2.2.2.2.1) : Int)) then
  if ((f_u11 k t_ t_22 3 0 0).isSome = true) then
  some (((v_u11 k t_ t_22 3 0 0).1, (v_u11 k t_ t_22 3 0 0).2))
  else none
  else
  f_u14_6 k t_ t_22 k t_.2.2.2.2.2.2.2.2.2.2.2.1 ((↑ (List.length t_.2.2.2.2.2.2.2.2.2.2.2.1) : Int)) 0 t_ t_22
  else none
def v_u14 (k : Nat) (t_ : T17.T) (t_22 : List (T18).T) : R_u14 := (f_u14 k t_ t_22).getD ((T17).dflt, [])
def ke_u14 (k : Nat) : Ke := (35, fun xs => match xs with
  | [.ptr _ _ _] => some [true]
  | _ => none, fun xs bs => match xs, bs with
  | [.ptr 0 0 0], [.var 140 qt_, .row 54 tt_22_ qt_22] => (decS [] T17 (qt_.take 22)).bind fun t_ => (castL tt_22_ T18 qt_22).bind fun t_22 => some (.one (res_u14 (v_u14 k t_ t_22), bo_u14 t_ t_22 (v_u14 k t_ t_22)))
  | _, _ => none)
def K_u14 (k : Nat) : Calld := mkK [ke_u24 k, ke_u11 k, ke_u18 k, ke_u19 k, ke_u10 k]
def cs_u14 : List (Nat × List Cmd) := [(6, [.autoB [0, 56, 57, 58] false [1]]), (11, [.autoB [0, 3, 4, 5, 6, 56, 57, 58, 90, 91, 92] false [1]]), (20, [.autoB [0, 9, 132, 133, 134] false [1]]), (26, [.autoB [0, 9, 12, 147, 148, 149] false [1]])]
abbrev E_u14 (t_ : T17.T) (t_22 : List (T18).T) (todo : List Item) (st : St) (o : Option R_u14) : Prop := ∀ r, o = some r → Ev Tryz.prog Tryz.f35 2 todo st (res_u14 r) (bo_u14 t_ t_22 r)
theorem ev_u14 (k : Nat) (t_ : T17.T) (t_22 : List (T18).T) : ∀ j, (∀ (y0 : List (T5).T) (y1 : Int) (y2 : Int) (y3 : T17.T) (y4 : List (T18).T), E_u14 t_ t_22 (placeAt Tryz.f35 6) (st_u14_6 t_ t_22 y0 y1 y2 y3 y4) (f_u14_6 k t_ t_22 j y0 y1 y2 y3 y4)) ∧ (∀ (y0 : Int) (y1 : Int) (y2 : Bool) (y3 : List (T5).T) (y4 : Int) (y5 : Int) (y6 : List (T5).T) (y7 : Int) (y8 : Int) (y9 : T17.T) (y10 : List (T18).T) (y11 : T5.T), E_u14 t_ t_22 (placeAt Tryz.f35 11) (st_u14_11 t_ t_22 y0 y1 y2 y3 y4 y5 y6 y7 y8 y9 y10 y11) (f_u14_11 k t_ t_22 j y0 y1 y2 y3 y4 y5 y6 y7 y8 y9 y10 y11)) ∧ (∀ (y0 : List (T5).T) (y1 : Int) (y2 : Int) (y3 : T17.T) (y4 : List (T18).T) (y5 : List ((I).T × (RTy.bool).T)), E_u14 t_ t_22 (placeAt Tryz.f35 20) (st_u14_20 t_ t_22 y0 y1 y2 y3 y4 y5) (f_u14_20 k t_ t_22 j y0 y1 y2 y3 y4 y5)) ∧ (∀ (y0 : List (I).T) (y1 : Int) (y2 : Int) (y3 : T17.T) (y4 : List (T18).T) (y5 : List ((I).T × (RTy.bool).T)) (y6 : List ((I).T × (RTy.bool).T)), E_u14 t_ t_22 (placeAt Tryz.f35 26) (st_u14_26 t_ t_22 y0 y1 y2 y3 y4 y5 y6) (f_u14_26 k t_ t_22 j y0 y1 y2 y3 y4 y5 y6))
  | 0 => ⟨fun _ _ _ _ _ _ h => (nomatch h), fun _ _ _ _ _ _ _ _ _ _ _ _ _ h => (nomatch h), fun _ _ _ _ _ _ _ h => (nomatch h), fun _ _ _ _ _ _ _ _ h => (nomatch h)⟩
  | j + 1 => by
    have ih := @ev_u14 k t_ t_22 j
    refine ⟨?_, ?_, ?_, ?_⟩
    · intro y0 y1 y2 y3 y4 r h
      rw [f_u14_6] at h
      exact go (K_u14 k) [] cs_u14 [.autoB [] true [1]] (gT h (fun c h => gN2 h fun h => gN1 h (fun q => cc_u18 q) fun h => gN h (fun q => conjC q.1 (conjC q.2.1 (conjC q.2.2.1 (conjC q.2.2.2 conj0)))) fun h => gC h 11 (ih.2.1 _ _ _ _ _ _ _ _ _ _ _ _ _)) fun c h => gC h 20 (ih.2.2.1 _ _ _ _ _ _ _)) (by kernel_rfl)
    · intro y0 y1 y2 y3 y4 y5 y6 y7 y8 y9 y10 y11 r h
      rw [f_u14_11] at h
      exact go (K_u14 k) [] cs_u14 [.autoB [] true [1]] (gT h (fun c h => gN2 h fun h => gT h (fun c h => gT h (fun c h => gN2 h fun h => gC h 11 (ih.2.1 _ _ _ _ _ _ _ _ _ _ _ _ _)) fun c h => gN h (fun q => conjC q.1 (conjC q.2.1 (conjC (cc_u19 q.2.2.1) (conjC q.2.2.2.1 (conjC q.2.2.2.2 conj0))))) fun h => gC h 11 (ih.2.1 _ _ _ _ _ _ _ _ _ _ _ _ _)) fun c h => gN1 h id fun h => gC h 11 (ih.2.1 _ _ _ _ _ _ _ _ _ _ _ _ _)) fun c h => gT h (fun c h => gN1 h (fun q => cc_u11 q) fun h => gC h 6 (ih.1 _ _ _ _ _ _)) fun c h => gC h 6 (ih.1 _ _ _ _ _ _)) (by kernel_rfl)
    · intro y0 y1 y2 y3 y4 y5 r h
      rw [f_u14_20] at h
      exact go (K_u14 k) [] cs_u14 [.autoB [] true [1]] (gT h (fun c h => gN2 h fun h => gC h 20 (ih.2.2.1 _ _ _ _ _ _ _)) fun c h => gC h 26 (ih.2.2.2 _ _ _ _ _ _ _ _)) (by kernel_rfl)
    · intro y0 y1 y2 y3 y4 y5 y6 r h
      rw [f_u14_26] at h
      exact go (K_u14 k) [] cs_u14 [.autoB [] true [1]] (gT h (fun c h => gN2 h fun h => gT h (fun c h => gN1 h (fun q => cc_u11 q) fun h => gC h 26 (ih.2.2.2 _ _ _ _ _ _ _ _)) fun c h => gC h 26 (ih.2.2.2 _ _ _ _ _ _ _ _)) fun c h => gT h (fun c h => gN1 h (fun q => cc_u11 q) fun h => gL h) fun c h => gN h (fun q => conjC (⟨rfl, ⟨rfl, ⟨rfl, trivial⟩⟩⟩ : selfS (0, .var 140 ((rvs (enc T17 y3)) ++ [.own 1 1])) ∧ selfS (1, .row 54 T18 y4) ∧ selfS (0, .map false I RTy.bool y6) ∧ True) (conjC (cc_u10 q) conj0)) fun h => gT h (fun c h => gN1 h (fun q => cc_u11 q) fun h => gL h) fun c h => gL h) (by kernel_rfl)
theorem of_u14 (k : Nat) (t_ : T17.T) (t_22 : List (T18).T) (r : R_u14) (h : f_u14 k t_ t_22 = some r) : C_u14 t_ t_22 r := by
  refine CC.of (fn := Tryz.f35) (by kernel_rfl) (by kernel_rfl) (by kernel_rfl) (by kernel_rfl) ?_
  unfold f_u14 at h
  exact go (K_u14 k) [] cs_u14 [.autoB [] true [1]] (gN1 h (fun q => cc_u24 q) fun h => gT h (fun c h => gN1 h (fun q => cc_u11 q) fun h => gL h) fun c h => gT h (fun c h => gN1 h (fun q => cc_u11 q) fun h => gL h) fun c h => gC h 6 ((ev_u14 k t_ t_22 k).1 _ _ _ _ _ _)) (by kernel_rfl)
theorem cc_u14 {k : Nat} {t_ : T17.T} {t_22 : List (T18).T} (h : (f_u14 k t_ t_22).isSome = true) : C_u14 t_ t_22 (v_u14 k t_ t_22) := ccG (Φ := C_u14 t_ t_22) h (of_u14 k t_ t_22)

end
/-! ### Rolls: what it returns -/
/-- the least point of a run -/
def loR (r : Rn) : Int := bif r.2.2 then r.1 - r.2.1 + 1 else r.1
def lowF : Int → List Rn → Int
  | a, [] => a
  | a, r :: t => lowF (min a (loR r)) t
def lowS (m : List Rn) : Int := lowF 17179869184 m
/-- is what is used of a roll right -/
def kidOk (r : Ro) (u : Int) (c : Ro) : Bool := c.2.1 != r.1 || decide (lowS c.2.2.2.2.2 ≥ lenS r.2.2.2.2.2 - u)
def rightS (l : List Ro) (r : Ro) (u : Int) : Bool := (decide (u ≥ 0) && decide (u ≤ lenS r.2.2.2.2.2)) && l.all (kidOk r u)
def one1 (l : List Ro) (r : Ro) (u : Int) : List Fnd := bif rightS l r u then [] else [(3, r.1, 1)]
def partA (l : List Ro) : List Ro → List Int → List Fnd
  | r :: rs, u :: us => one1 l r u ++ partA l rs us
  | _, _ => []
def isIn (x : Int) (l : List Int) : Bool := l.any (fun y => y == x)
def idIn (x : Int) (l : List Ro) : Bool := l.any (fun r => r.1 == x)
def partB (l : List Ro) : List Int → List Int → List Fnd
  | _, [] => []
  | bef, n :: t => (bif (!idIn n l || isIn n bef) then [(3, n, 2)] else []) ++ partB l (bef ++ [n]) t
def leftS (n u : Int) : Int := n - max 0 (min u n)
def covL (scr : List Int) : List Ro → List Int → Int
  | r :: rs, u :: us => (bif isIn r.1 scr then 0 else r.2.2.2.1 * leftS (lenS r.2.2.2.2.2) u) + covL scr rs us
  | _, _ => 0
def brkL : List T14.T → Int
  | [] => 0
  | m :: t => max 0 (min m.2.2.2 206158430208000) + brkL t
def covS (b : T17.T) : Int := covL (b.2.2.2.2.2.2.2.2.2.2.2.2.2.1) (b.2.2.2.2.2.2.2.2.2.2.2.1) (b.2.2.2.2.2.2.2.2.2.2.2.2.1) + brkL (b.2.2.2.2.2.2.2.2.2.2.2.2.2.2.2.2.2.2.2.2.1)
def finI (beg made cov w : Int) : List Fnd := if beg < 0 ∨ beg > made then [(3, 0, 3)] else if cov - w * beg ≠ 0 then [(4, cov - w * beg, 0)] else []
def finS (b : T17.T) : List Fnd := finI (b.2.2.2.1) (b.2.2.1) (covS b) (b.2.1)
theorem finI_b {beg made cov w : Int} (h : beg < 0 ∨ beg > made) : finI beg made cov w = [(3, 0, 3)] := by unfold finI; rw [if_pos h]
theorem finI_d {beg made cov w : Int} (h : ¬ (beg < 0 ∨ beg > made)) (h2 : cov - w * beg ≠ 0) : finI beg made cov w = [(4, cov - w * beg, 0)] := by unfold finI; rw [if_neg h, if_pos h2]
theorem finI_0 {beg made cov w : Int} (h : ¬ (beg < 0 ∨ beg > made)) (h2 : cov - w * beg = 0) : finI beg made cov w = [] := by unfold finI; rw [if_neg h, if_neg (fun x => x h2)]
def inR (u n : Int) : Prop := 0 ≤ u ∧ u ≤ n
def wOk (w : Int) : Prop := 1 ≤ w ∧ w ≤ 12000
def mOk (m : Int) : Prop := 0 ≤ m ∧ m ≤ 17179869184
def rollsS (b : T17.T) : List Fnd :=
  if checkS (b.2.2.2.2.2.2.2.2.2.2.2.1) (b.2.1) (b.2.2.1) ≠ 0 then [(3, 0, checkS (b.2.2.2.2.2.2.2.2.2.2.2.1) (b.2.1) (b.2.2.1))]
  else if b.2.2.2.2.2.2.2.2.2.2.2.2.1.length ≠ b.2.2.2.2.2.2.2.2.2.2.2.1.length then [(3, 0, 0)]
  else partA (b.2.2.2.2.2.2.2.2.2.2.2.1) (b.2.2.2.2.2.2.2.2.2.2.2.1) (b.2.2.2.2.2.2.2.2.2.2.2.2.1) ++ (partB (b.2.2.2.2.2.2.2.2.2.2.2.1) [] (b.2.2.2.2.2.2.2.2.2.2.2.2.2.1) ++ finS b)

/-! ### its parts -/
theorem loR_in {r : Rn} (h : good r) : 0 ≤ loR r ∧ loR r ≤ r.1 ∧ r.1 ≤ 17179869184 := by
  obtain ⟨h1, h2, h3, h4, h5, h6⟩ := h
  unfold loR
  cases e : r.2.2
  · rw [cond_false]; omega
  · have := h5 e
    rw [cond_true]; omega
theorem lowest_3 (k : Nat) (m : List Rn) (hg : goods m) (hl : m.length ≤ 1000) : ∀ (d i j : Nat) (a : Int), i + d = m.length → d < j → 0 ≤ a → a ≤ 17179869184 →
    f_u19_3 k j a m (m.length : Int) (i : Int) = some (lowF a (m.drop i)) ∧ 0 ≤ lowF a (m.drop i) ∧ lowF a (m.drop i) ≤ 17179869184 := by
  intro d
  induction d with
  | zero =>
    intro i j a hi hj h0 h1
    obtain ⟨j, rfl⟩ : ∃ q, j = q + 1 := ⟨j - 1, by omega⟩
    rw [f_u19_3, decide_eq_false (by omega : ¬ (i : Int) < (m.length : Int)), cond_false, List.drop_of_length_le (by omega), lowF]
    exact ⟨rfl, h0, h1⟩
  | succ d ih =>
    intro i j a hi hj h0 h1
    obtain ⟨j, rfl⟩ : ∃ q, j = q + 1 := ⟨j - 1, by omega⟩
    have hm := goods.mem hg _ (gdm m i T3.dflt (by omega))
    have hlo := loR_in hm
    obtain ⟨g1, g2, g3, g4, g5, g6⟩ := hm
    rw [f_u19_3, decide_eq_true (by omega : (i : Int) < (m.length : Int)), cond_true, if_pos ⟨by omega, by omega⟩, Int.toNat_natCast, wrapS i (by omega), drop_cons' m i T3.dflt (by omega), lowF]
    have hw1 : IntKind.i64.wrap ((m.getD i T3.dflt).1 - (m.getD i T3.dflt).2.1) = (m.getD i T3.dflt).1 - (m.getD i T3.dflt).2.1 := wrap_id (by omega) (by omega)
    have hw2 : IntKind.i64.wrap ((m.getD i T3.dflt).1 - (m.getD i T3.dflt).2.1 + 1) = (m.getD i T3.dflt).1 - (m.getD i T3.dflt).2.1 + 1 := wrap_id (by omega) (by omega)
    rw [hw1, hw2]
    have hx : (bif (m.getD i T3.dflt).2.2 then (if (m.getD i T3.dflt).1 - (m.getD i T3.dflt).2.1 + 1 < (if (m.getD i T3.dflt).1 < a then (m.getD i T3.dflt).1 else a) then (m.getD i T3.dflt).1 - (m.getD i T3.dflt).2.1 + 1 else (if (m.getD i T3.dflt).1 < a then (m.getD i T3.dflt).1 else a)) else (if (m.getD i T3.dflt).1 < a then (m.getD i T3.dflt).1 else a)) = min a (loR (m.getD i T3.dflt)) := by
      unfold loR
      cases e : (m.getD i T3.dflt).2.2
      · rw [cond_false, cond_false]; split <;> omega
      · rw [cond_true, cond_true]; split <;> split <;> omega
    have := ih (i + 1) j (min a (loR (m.getD i T3.dflt))) (by omega) (by omega) (by omega) (by omega)
    refine ⟨?_, this.2⟩
    rw [← this.1, ← hx]
    cases (m.getD i T3.dflt).2.2 <;> rfl
theorem lowest_s (k : Nat) (hk : 1100 ≤ k) (r : Ro) (h : Chk r.2.2.2.2.2) : f_u19 k r = some (lowS r.2.2.2.2.2) ∧ 0 ≤ lowS r.2.2.2.2.2 ∧ lowS r.2.2.2.2.2 ≤ 17179869184 := by
  have := h.len
  exact lowest_3 k r.2.2.2.2.2 h.goods (by omega) r.2.2.2.2.2.length 0 k 17179869184 (by omega) (by omega) (by omega) (by omega)
theorem lowest_v (k : Nat) (hk : 1100 ≤ k) (r : Ro) (h : Chk r.2.2.2.2.2) : v_u19 k r = lowS r.2.2.2.2.2 := by
  unfold v_u19; rw [(lowest_s k hk r h).1]; rfl
theorem length_s (k : Nat) (hk : 2100 ≤ k) (r : Ro) (h : Chk r.2.2.2.2.2) : f_u18 k r = some (lenS r.2.2.2.2.2) := by
  unfold f_u18
  have := iso_Length_s k hk r.2.2.2.2.2 h
  rw [show v_u36 k r.2.2.2.2.2 = (lenS r.2.2.2.2.2, 0) by unfold v_u36; rw [this]; rfl, this, Option.isSome_some, if_pos rfl]
theorem length_v (k : Nat) (hk : 2100 ≤ k) (r : Ro) (h : Chk r.2.2.2.2.2) : v_u18 k r = lenS r.2.2.2.2.2 := by
  unfold v_u18; rw [length_s k hk r h]; rfl
theorem len_in {m : List Rn} (h : Chk m) : 0 ≤ lenS m ∧ lenS m ≤ 17179869184 := by
  have := lenS_nonneg h.goods
  have := h.tot
  omega
/-- a valid register's rolls -/
abbrev Smalls (l : List Ro) : Prop := ∀ r ∈ l, Small r.2.2

/-! ### covered -/
theorem left_in {n u : Int} (h : 0 ≤ n) (h1 : n ≤ 17179869184) : 0 ≤ leftS n u ∧ leftS n u ≤ 17179869184 := by unfold leftS; omega
theorem area_in {w n : Int} (w0 : 1 ≤ w) (w1 : w ≤ 12000) (n0 : 0 ≤ n) (n1 : n ≤ 17179869184) : 0 ≤ w * n ∧ w * n ≤ 206158430208000 := by
  constructor
  · exact Int.mul_nonneg (by omega) n0
  · calc w * n ≤ 12000 * n := Int.mul_le_mul_of_nonneg_right w1 n0
      _ ≤ 206158430208000 := by omega
theorem clamp_if (a m : Int) : (if (if m < a then m else a) > 0 then (if m < a then m else a) else 0) = max 0 (min a m) := by
  by_cases h : m < a
  · rw [if_pos h]; split <;> omega
  · rw [if_neg h]; split <;> omega
theorem covered_10 (k : Nat) (b : T17.T) (fnd : List Fnd) (N : List (Int × Bool)) (l : List T14.T) (hl : l.length ≤ 40) : ∀ (d i j : Nat) (a : Int), i + d = l.length → d < j → 0 ≤ a → a + (d : Int) * 206158430208000 ≤ 100000000000000000 →
    f_u10_10 k b fnd N j a l (l.length : Int) (i : Int) = some (a + brkL (l.drop i)) := by
  intro d
  induction d with
  | zero =>
    intro i j a hi hj h0 h1
    obtain ⟨j, rfl⟩ : ∃ q, j = q + 1 := ⟨j - 1, by omega⟩
    rw [f_u10_10, decide_eq_false (by omega : ¬ (i : Int) < (l.length : Int)), cond_false, List.drop_of_length_le (by omega), brkL, Int.add_zero]
  | succ d ih =>
    intro i j a hi hj h0 h1
    obtain ⟨j, rfl⟩ : ∃ q, j = q + 1 := ⟨j - 1, by omega⟩
    rw [f_u10_10, decide_eq_true (by omega : (i : Int) < (l.length : Int)), cond_true, if_pos ⟨by omega, by omega⟩, Int.toNat_natCast, wrapS i (by omega), drop_cons' l i T14.dflt (by omega), brkL]
    have hx : (if (if (206158430208000 : Int) < (l.getD i T14.dflt).2.2.2 then 206158430208000 else (l.getD i T14.dflt).2.2.2) > 0 then (if (206158430208000 : Int) < (l.getD i T14.dflt).2.2.2 then 206158430208000 else (l.getD i T14.dflt).2.2.2) else 0) = max 0 (min (l.getD i T14.dflt).2.2.2 206158430208000) := clamp_if _ _
    rw [hx, wrap_id (by omega) (by omega), ih (i + 1) j _ (by omega) (by omega) (by omega) (by omega), Int.add_assoc]
theorem covered_3 (k : Nat) (hk : 2100 ≤ k) (b : T17.T) (fnd : List Fnd) (N : List (Int × Bool)) (scr : List Int) (hN : ∀ x, (mget I x N).getD false = isIn x scr) (hb : b.2.2.2.2.2.2.2.2.2.2.2.2.2.2.2.2.2.2.2.2.1.length ≤ 40) (l : List Ro) (hl : l.length ≤ 40) (hu : b.2.2.2.2.2.2.2.2.2.2.2.2.1.length = l.length) (hs : Smalls l) :
    ∀ (d i j : Nat) (a : Int), i + d = l.length → d + 50 < j → 0 ≤ a → a + (d : Int) * 206158430208000 ≤ 50000000000000000 →
    f_u10_3 k b fnd N j a l (l.length : Int) (i : Int) = some (a + (covL scr (l.drop i) (b.2.2.2.2.2.2.2.2.2.2.2.2.1.drop i) + brkL (b.2.2.2.2.2.2.2.2.2.2.2.2.2.2.2.2.2.2.2.2.1))) := by
  intro d
  induction d with
  | zero =>
    intro i j a hi hj h0 h1
    obtain ⟨j, rfl⟩ : ∃ q, j = q + 1 := ⟨j - 1, by omega⟩
    rw [f_u10_3, decide_eq_false (by omega : ¬ (i : Int) < (l.length : Int)), cond_false, List.drop_of_length_le (by omega), covL, Int.zero_add]
    · have := covered_10 k b fnd N (b.2.2.2.2.2.2.2.2.2.2.2.2.2.2.2.2.2.2.2.2.1) hb (b.2.2.2.2.2.2.2.2.2.2.2.2.2.2.2.2.2.2.2.2.1.length) 0 j a (by omega) (by omega) h0 (by omega)
      exact this
    · intro r rs u us h; cases h
  | succ d ih =>
    intro i j a hi hj h0 h1
    obtain ⟨j, rfl⟩ : ∃ q, j = q + 1 := ⟨j - 1, by omega⟩
    have hm := hs _ (gdm l i T5.dflt (by omega))
    have hc := hm.chk
    have hn := len_in hc
    have hle := left_in (u := b.2.2.2.2.2.2.2.2.2.2.2.2.1.getD i I.dflt) hn.1 hn.2
    have w0 := hm.w0
    have wl := hm.l0
    have wr := hm.r0
    have har := area_in w0 (by omega) hle.1 hle.2
    have hrw : l.drop i = l.getD i T5.dflt :: l.drop (i + 1) := drop_cons' l i T5.dflt (by omega)
    have huw : b.2.2.2.2.2.2.2.2.2.2.2.2.1.drop i = b.2.2.2.2.2.2.2.2.2.2.2.2.1.getD i I.dflt :: b.2.2.2.2.2.2.2.2.2.2.2.2.1.drop (i + 1) := drop_cons' (b.2.2.2.2.2.2.2.2.2.2.2.2.1) i I.dflt (by omega)
    rw [f_u10_3, decide_eq_true (by omega : (i : Int) < (l.length : Int)), cond_true, if_pos ⟨by omega, by omega⟩, Int.toNat_natCast, length_s k hk _ hc, length_v k hk _ hc, Option.isSome_some, if_pos rfl, wrapS i (by omega), hrw, huw, covL]
    have hN' := hN (l.getD i T5.dflt).1
    cases hq : isIn (l.getD i T5.dflt).1 scr
    · rw [hq] at hN'
      show (bif !(mget I (l.getD i T5.dflt).1 N).getD false then _ else _) = _
      rw [hN', Bool.not_false, cond_true, if_pos ⟨by omega, by omega⟩]
      have hx : (if (if lenS (l.getD i T5.dflt).2.2.2.2.2 < b.2.2.2.2.2.2.2.2.2.2.2.2.1.getD i I.dflt then lenS (l.getD i T5.dflt).2.2.2.2.2 else b.2.2.2.2.2.2.2.2.2.2.2.2.1.getD i I.dflt) > 0 then (if lenS (l.getD i T5.dflt).2.2.2.2.2 < b.2.2.2.2.2.2.2.2.2.2.2.2.1.getD i I.dflt then lenS (l.getD i T5.dflt).2.2.2.2.2 else b.2.2.2.2.2.2.2.2.2.2.2.2.1.getD i I.dflt) else 0) = max 0 (min (b.2.2.2.2.2.2.2.2.2.2.2.2.1.getD i I.dflt) (lenS (l.getD i T5.dflt).2.2.2.2.2)) := clamp_if _ _
      rw [hx]
      have e1 : IntKind.i64.wrap (lenS (l.getD i T5.dflt).2.2.2.2.2 - max 0 (min (b.2.2.2.2.2.2.2.2.2.2.2.2.1.getD i I.dflt) (lenS (l.getD i T5.dflt).2.2.2.2.2))) = leftS (lenS (l.getD i T5.dflt).2.2.2.2.2) (b.2.2.2.2.2.2.2.2.2.2.2.2.1.getD i I.dflt) := wrap_id (by omega) (by omega)
      have e2 : IntKind.i64.wrap ((l.getD i T5.dflt).2.2.2.1 * leftS (lenS (l.getD i T5.dflt).2.2.2.2.2) (b.2.2.2.2.2.2.2.2.2.2.2.2.1.getD i I.dflt)) = (l.getD i T5.dflt).2.2.2.1 * leftS (lenS (l.getD i T5.dflt).2.2.2.2.2) (b.2.2.2.2.2.2.2.2.2.2.2.2.1.getD i I.dflt) := wrap_id (by omega) (by omega)
      rw [e1, e2, wrap_id (by omega) (by omega), cond_false, ih (i + 1) j _ (by omega) (by omega) (by omega) (by omega)]
      congr 1; omega
    · rw [hq] at hN'
      show (bif !(mget I (l.getD i T5.dflt).1 N).getD false then _ else _) = _
      rw [hN', Bool.not_true, cond_false, cond_true, ih (i + 1) j a (by omega) (by omega) h0 (by omega)]
      congr 1; omega
theorem covered_s (k : Nat) (hk : 2100 ≤ k) (b : T17.T) (g : GB b) (fnd : List Fnd) (N : List (Int × Bool)) (hN : ∀ x, (mget I x N).getD false = isIn x (b.2.2.2.2.2.2.2.2.2.2.2.2.2.1)) (hu : b.2.2.2.2.2.2.2.2.2.2.2.2.1.length = b.2.2.2.2.2.2.2.2.2.2.2.1.length) (hs : Smalls (b.2.2.2.2.2.2.2.2.2.2.2.1)) :
    f_u10 k b fnd N = some (covS b) := by
  have hr := g.bRolls
  unfold f_u10 covS
  have := covered_3 k hk b fnd N (b.2.2.2.2.2.2.2.2.2.2.2.2.2.1) hN g.bBroke (b.2.2.2.2.2.2.2.2.2.2.2.1) hr hu hs (b.2.2.2.2.2.2.2.2.2.2.2.1.length) 0 k 0 (by omega) (by omega) (by omega) (by omega)
  rw [Int.zero_add, List.drop_zero, List.drop_zero] at this
  exact this
theorem covL_in (scr : List Int) : ∀ (l : List Ro) (us : List Int), Smalls l → 0 ≤ covL scr l us ∧ covL scr l us ≤ (l.length : Int) * 206158430208000
  | [], _, _ => by simp [covL]
  | r :: rs, [], _ => by simp [covL]; omega
  | r :: rs, u :: us, h => by
    have ih := covL_in scr rs us (fun x hx => h x (by simp [hx]))
    have hm := h r (by simp)
    have hle := left_in (u := u) (len_in hm.chk).1 (len_in hm.chk).2
    have w0 := hm.w0
    have wl := hm.l0
    have wr := hm.r0
    have har := area_in w0 (by omega) hle.1 hle.2
    rw [covL, List.length_cons]
    cases isIn r.1 scr
    · rw [cond_false]; omega
    · rw [cond_true]; omega
theorem brkL_in : ∀ l : List T14.T, 0 ≤ brkL l ∧ brkL l ≤ (l.length : Int) * 206158430208000
  | [] => by simp [brkL]
  | m :: t => by
    have ih := brkL_in t
    rw [brkL, List.length_cons]; omega
theorem covS_in (b : T17.T) (g : GB b) (hs : Smalls (b.2.2.2.2.2.2.2.2.2.2.2.1)) : 0 ≤ covS b ∧ covS b ≤ 16492674416640000 := by
  have h1 := covL_in (b.2.2.2.2.2.2.2.2.2.2.2.2.2.1) (b.2.2.2.2.2.2.2.2.2.2.2.1) (b.2.2.2.2.2.2.2.2.2.2.2.2.1) hs
  have h2 := brkL_in (b.2.2.2.2.2.2.2.2.2.2.2.2.2.2.2.2.2.2.2.2.1)
  have := g.bRolls
  have := g.bBroke
  unfold covS
  omega
end Go.AM
namespace Go.AM
open Go Go.Proofs
noncomputable section
abbrev R_u4 : Type := T17.T
def res_u4 (r : R_u4) : AV := .sub 2 0 1 0 1
def bo_u4 (x_ : T17.T) (x_22 : List (T18).T) (r : R_u4) : List (Nat × Blk) := [(0, .var 140 ((rvs (enc T17 r)) ++ [.own 1 0])), (0, .row 54 T18 x_22), (0, .var 1 [.fn ((Fn.func 35)) [.ptr 0 0 0] []])]
def args_u4 (x_ : T17.T) (x_22 : List (T18).T) : List AV := [.ptr 0 0 0]
def bin_u4 (x_ : T17.T) (x_22 : List (T18).T) : List Blk := [.var 140 (rvs (enc T17 x_) ++ [.own 1 0]), .row 54 T18 x_22]
abbrev C_u4 (x_ : T17.T) (x_22 : List (T18).T) (r : R_u4) : Prop := CC Tryz.prog 34 (args_u4 x_ x_22) (bin_u4 x_ x_22) (res_u4 r) (bo_u4 x_ x_22 r)
def f_u4 (k : Nat) (x_ : T17.T) (x_22 : List (T18).T) : Option R_u4 :=
  some x_
def v_u4 (k : Nat) (x_ : T17.T) (x_22 : List (T18).T) : R_u4 := (f_u4 k x_ x_22).getD (T17).dflt
def ke_u4 (k : Nat) : Ke := (34, fun xs => match xs with
  | [.ptr _ _ _] => some [true]
  | _ => none, fun xs bs => match xs, bs with
  | [.ptr 0 0 0], [.var 140 qx_, .row 54 tx_22_ qx_22] => (decS [] T17 (qx_.take 22)).bind fun x_ => (castL tx_22_ T18 qx_22).bind fun x_22 => some (.one (res_u4 (v_u4 k x_ x_22), bo_u4 x_ x_22 (v_u4 k x_ x_22)))
  | _, _ => none)
theorem of_u4 (k : Nat) (x_ : T17.T) (x_22 : List (T18).T) (r : R_u4) (h : f_u4 k x_ x_22 = some r) : C_u4 x_ x_22 r := by
  refine CC.of (fn := Tryz.f34) (by kernel_rfl) (by kernel_rfl) (by kernel_rfl) (by kernel_rfl) ?_
  unfold f_u4 at h
  exact go (mkK [ke_u14 k]) [] [] [.autoB [2] true []] (gL h) (by kernel_rfl)
theorem cc_u4 {k : Nat} {x_ : T17.T} {x_22 : List (T18).T} (h : (f_u4 k x_ x_22).isSome = true) : C_u4 x_ x_22 (v_u4 k x_ x_22) := ccG (Φ := C_u4 x_ x_22) h (of_u4 k x_ x_22)
abbrev R_u21 : Type := List (T18).T × Int
def res_u21 (r : R_u21) : AV := .tup [.r (.ro T18 r.1), .r (.v (.int .i64 r.2))]
def bo_u21 (b_ : T17.T) (r : R_u21) : List (Nat × Blk) := []
def args_u21 (b_ : T17.T) : List AV := [.agg (rvs (enc T17 b_)), .r (.v (.func (.func 34) #[] #[]))]
def bin_u21 (b_ : T17.T) : List Blk := []
abbrev C_u21 (b_ : T17.T) (r : R_u21) : Prop := CC Tryz.prog 33 (args_u21 b_) (bin_u21 b_) (res_u21 r) (bo_u21 b_ r)
def st_u21_10005 (y0 : T17.T) (y1 : List (T18).T) : St := ⟨mkS 29 [(6, .ptr 1000000 0 0), (16, .sub 1000002 0 1 0 1), (17, .r (.v (.int .i64 1))), (18, .r (.v (.int .i64 0)))], [(1000000, 0, .var 140 ((rvs (enc T17 y0)) ++ [.own 1000001 0])), (1000001, 0, .row 54 T18 y1), (1000002, 0, .var 1 [.fn ((Fn.func 35)) [.ptr 1000000 0 0] []])]⟩
def st_u21_20005 (y0 : T17.T) (y1 : List (T18).T) : St := ⟨mkS 29 [(6, .ptr 1000000 0 0), (16, .sub 1000002 0 1 0 1), (17, .r (.v (.int .i64 1))), (18, .r (.v (.int .i64 1)))], [(1000000, 0, .var 140 ((rvs (enc T17 y0)) ++ [.own 1000001 0])), (1000001, 0, .row 54 T18 y1), (1000002, 0, .var 1 [.fn ((Fn.func 35)) [.ptr 1000000 0 0] []])]⟩
mutual
def f_u21_10005 (k : Nat) : Nat → T17.T → List (T18).T → Option R_u21
  | 0, _, _ => none
  | j + 1, y0, y1 =>
  if ((0 : Int) ≤ (0 : Int)) ∧ ((0 : Int) < (↑ (1 : Nat) : Int)) then
  if ((f_u14 k y0 y1).isSome = true) then
  f_u21_20005 k j ((v_u14 k y0 y1).1) ((v_u14 k y0 y1).2)
  else none
  else none
def f_u21_20005 (k : Nat) : Nat → T17.T → List (T18).T → Option R_u21
  | 0, _, _ => none
  | j + 1, y0, y1 =>
  some ((y1, 0))
end
def f_u21 (k : Nat) (b_ : T17.T) : Option R_u21 :=
  if ((f_u17 k b_).isSome = true) then
  bif (v_u17 k b_) then
  some (([], 8))
  else
  if ((f_u4 k b_ []).isSome = true) then
  f_u21_10005 k k ((v_u4 k b_ [])) ([])
  else none
  else none
def v_u21 (k : Nat) (b_ : T17.T) : R_u21 := (f_u21 k b_).getD ([], 0)
def ke_u21 (k : Nat) : Ke := (33, fun xs => match xs with
  | [_, .r (.v (.func (.func 34) _ _))] => some [false, false]
  | _ => none, fun xs bs => match xs, bs with
  | [.agg qb_, .r (.v (.func (.func 34) _ _))], [] => (decS [] T17 qb_).bind fun b_ => some (.one (res_u21 (v_u21 k b_), bo_u21 b_ (v_u21 k b_)))
  | _, _ => none)
def K_u21 (k : Nat) : Calld := mkK [ke_u17 k, ke_u14 k, ke_u4 k]
def cs_u21 : List (Nat × List Cmd) := [(5, [.key 18, .autoB [6, 16, 17, 18] false []])]
abbrev E_u21 (b_ : T17.T) (todo : List Item) (st : St) (o : Option R_u21) : Prop := ∀ r, o = some r → Ev Tryz.prog Tryz.f33 0 todo st (res_u21 r) (bo_u21 b_ r)
theorem ev_u21 (k : Nat) (b_ : T17.T) : ∀ j, (∀ (y0 : T17.T) (y1 : List (T18).T), E_u21 b_ (placeAt Tryz.f33 5) (st_u21_10005 y0 y1) (f_u21_10005 k j y0 y1)) ∧ (∀ (y0 : T17.T) (y1 : List (T18).T), E_u21 b_ (placeAt Tryz.f33 5) (st_u21_20005 y0 y1) (f_u21_20005 k j y0 y1))
  | 0 => ⟨fun _ _ _ h => (nomatch h), fun _ _ _ h => (nomatch h)⟩
  | j + 1 => by
    have ih := @ev_u21 k b_ j
    refine ⟨?_, ?_⟩
    · intro y0 y1 r h
      rw [f_u21_10005] at h
      exact go (K_u21 k) [] cs_u21 [.frz 4 false (RTy.list T18), .autoB [4, 5] true []] (gU1 h (.leaf (.tup [.r (.ro T18 y1), .r (.v (.int .i64 0))]) []) fun h => gN2 h fun h => gN1 h (fun q => cc_u14 q) fun h => gC h 20005 (ih.2 _ _ _)) (by kernel_rfl)
    · intro y0 y1 r h
      rw [f_u21_20005] at h
      exact go (K_u21 k) [] cs_u21 [.frz 4 false (RTy.list T18), .autoB [4, 5] true []] (gU2 h (.stuck 5001) fun h => gL h) (by kernel_rfl)
theorem of_u21 (k : Nat) (b_ : T17.T) (r : R_u21) (h : f_u21 k b_ = some r) : C_u21 b_ r := by
  refine CC.of (fn := Tryz.f33) (by kernel_rfl) (by kernel_rfl) (by kernel_rfl) (by kernel_rfl) ?_
  unfold f_u21 at h
  exact go (K_u21 k) [] cs_u21 [.frz 4 false (RTy.list T18), .autoB [4, 5] true []] (gN1 h (fun q => cc_u17 q) fun h => gT h (fun c h => gL h) fun c h => gN1 h (fun q => cc_u4 q) fun h => gC h 10005 ((ev_u21 k b_ k).1 _ _ _)) (by kernel_rfl)
theorem cc_u21 {k : Nat} {b_ : T17.T} (h : (f_u21 k b_).isSome = true) : C_u21 b_ (v_u21 k b_) := ccG (Φ := C_u21 b_) h (of_u21 k b_)
abbrev R_u3 : Type := List (T18).T × Int
def res_u3 (r : R_u3) : AV := .tup [.r (.ro T18 r.1), .r (.v (.int .i64 r.2))]
def bo_u3 (b_ : T17.T) (r : R_u3) : List (Nat × Blk) := []
def args_u3 (b_ : T17.T) : List AV := [.agg (rvs (enc T17 b_))]
def bin_u3 (b_ : T17.T) : List Blk := []
abbrev C_u3 (b_ : T17.T) (r : R_u3) : Prop := CC Tryz.prog 14 (args_u3 b_) (bin_u3 b_) (res_u3 r) (bo_u3 b_ r)
def f_u3 (k : Nat) (b_ : T17.T) : Option R_u3 :=
  if ((f_u21 k b_).isSome = true) then
  some (((v_u21 k b_).1, (v_u21 k b_).2))
  else none
def v_u3 (k : Nat) (b_ : T17.T) : R_u3 := (f_u3 k b_).getD ([], 0)
def ke_u3 (k : Nat) : Ke := (14, fun xs => match xs with
  | [_] => some [false]
  | _ => none, fun xs bs => match xs, bs with
  | [.agg qb_], [] => (decS [] T17 qb_).bind fun b_ => some (.one (res_u3 (v_u3 k b_), bo_u3 b_ (v_u3 k b_)))
  | _, _ => none)
theorem of_u3 (k : Nat) (b_ : T17.T) (r : R_u3) (h : f_u3 k b_ = some r) : C_u3 b_ r := by
  refine CC.of (fn := Tryz.f14) (by kernel_rfl) (by kernel_rfl) (by kernel_rfl) (by kernel_rfl) ?_
  unfold f_u3 at h
  exact go (mkK [ke_u4 k, ke_u21 k]) [] [] [.frz 2 false (RTy.list T18), .autoB [2, 3] true []] (gN1 h (fun q => cc_u21 q) fun h => gL h) (by kernel_rfl)
theorem cc_u3 {k : Nat} {b_ : T17.T} (h : (f_u3 k b_).isSome = true) : C_u3 b_ (v_u3 k b_) := ccG (Φ := C_u3 b_) h (of_u3 k b_)

end
/-! ### Rolls: the program -/
def bs (b : T17.T) (f : List Fnd) : R_u14 := (b, f)
theorem rolls_11 (k : Nat) (hk : 2100 ≤ k) (q b : T17.T) (q2 fnd : List Fnd) (hf : fnd.length ≤ 100000) (L l : List Ro) (n : Int) (i0 i : Nat) (hl : l.length ≤ 40) (hs : Smalls l) (hi : i < b.2.2.2.2.2.2.2.2.2.2.2.2.1.length) (hu : b.2.2.2.2.2.2.2.2.2.2.2.2.1.length ≤ 40) (r : Ro) (hr : Small r.2.2) (hn : n = lenS r.2.2.2.2.2) :
    ∀ (d c j : Nat) (y : Bool), c + d = l.length → (y = true → inR (b.2.2.2.2.2.2.2.2.2.2.2.2.1.getD i I.dflt) n) →
      f_u14_11 k q q2 (d + 1 + j) (i : Int) n y L (i0 : Int) (i : Int) l (l.length : Int) (c : Int) b fnd r = f_u14_6 k q q2 j L (i0 : Int) ((i + 1 : Nat) : Int) b (fnd ++ (bif (y && (l.drop c).all (kidOk r (b.2.2.2.2.2.2.2.2.2.2.2.2.1.getD i I.dflt))) then [] else [(3, r.1, 1)])) := by
  have hl2 := len_in hr.chk
  intro d
  induction d with
  | zero =>
    intro c j y hc hy
    rw [show 0 + 1 + j = j + 1 by omega, f_u14_11, decide_eq_false (by omega : ¬ (c : Int) < (l.length : Int)), cond_false, List.drop_of_length_le (by omega), List.all_nil, Bool.and_true, wrapS i (by omega), find_s k b fnd _ _ _ (by omega), find_v k b fnd _ _ _ (by omega), Option.isSome_some, if_pos rfl]
    cases y
    · rfl
    · rw [Bool.not_true, cond_false, cond_true, List.append_nil]
  | succ d ih =>
    intro c j y hc hy
    have hm := hs _ (gdm l c T5.dflt (by omega))
    have hlo := lowest_s k (by omega) _ hm.chk
    have hrw : l.drop c = l.getD c T5.dflt :: l.drop (c + 1) := drop_cons' l c T5.dflt (by omega)
    rw [show d + 1 + 1 + j = (d + 1 + j) + 1 by omega, f_u14_11, decide_eq_true (by omega : (c : Int) < (l.length : Int)), cond_true, if_pos ⟨by omega, by omega⟩, Int.toNat_natCast, Int.toNat_natCast, wrapS c (by omega), hrw, List.all_cons]
    cases y with
    | false =>
      rw [cond_false, if_pos rfl, ih (c + 1) j false (by omega) (fun h => by cases h), Bool.false_and, Bool.false_and]
    | true =>
      have hu2 := hy rfl
      have hu3 := hu2
      unfold inR at hu3
      rw [cond_true, Bool.true_and]
      unfold kidOk
      cases hq : ((l.getD c T5.dflt).2.1 != r.1)
      · have hw : IntKind.i64.wrap (n - b.2.2.2.2.2.2.2.2.2.2.2.2.1.getD i I.dflt) = n - b.2.2.2.2.2.2.2.2.2.2.2.2.1.getD i I.dflt := wrap_id (by omega) (by omega)
        rw [cond_false, hlo.1, lowest_v k (by omega) _ hm.chk, if_pos ⟨rfl, rfl, rfl, by omega, by omega⟩, hw, Bool.true_and, Bool.false_or, ih (c + 1) j _ (by omega) (fun _ => hu2), hn]
        rfl
      · rw [cond_true, if_pos ⟨rfl, rfl⟩, Bool.true_or, Bool.true_and, ih (c + 1) j _ (by omega) (fun _ => hu2)]
        rfl
theorem one1_len (l : List Ro) (r : Ro) (u : Int) : (one1 l r u).length ≤ 1 := by
  unfold one1; cases rightS l r u <;> simp
theorem rolls_6 (k : Nat) (hk : 2100 ≤ k) (q b : T17.T) (q2 : List Fnd) (hl : b.2.2.2.2.2.2.2.2.2.2.2.1.length ≤ 40) (hs : Smalls (b.2.2.2.2.2.2.2.2.2.2.2.1)) (hu : b.2.2.2.2.2.2.2.2.2.2.2.2.1.length = b.2.2.2.2.2.2.2.2.2.2.2.1.length) :
    ∀ (d i j : Nat) (fnd : List Fnd), i + d = b.2.2.2.2.2.2.2.2.2.2.2.1.length → fnd.length + d ≤ 10000 →
      f_u14_6 k q q2 (d * (b.2.2.2.2.2.2.2.2.2.2.2.1.length + 2) + 1 + j) (b.2.2.2.2.2.2.2.2.2.2.2.1) (b.2.2.2.2.2.2.2.2.2.2.2.1.length : Int) (i : Int) b fnd = f_u14_20 k q q2 j (b.2.2.2.2.2.2.2.2.2.2.2.1) (b.2.2.2.2.2.2.2.2.2.2.2.1.length : Int) 0 b (fnd ++ partA (b.2.2.2.2.2.2.2.2.2.2.2.1) (b.2.2.2.2.2.2.2.2.2.2.2.1.drop i) (b.2.2.2.2.2.2.2.2.2.2.2.2.1.drop i)) [] := by
  intro d
  induction d with
  | zero =>
    intro i j fnd hi hf
    rw [show 0 * (b.2.2.2.2.2.2.2.2.2.2.2.1.length + 2) + 1 + j = j + 1 by omega, f_u14_6, decide_eq_false (by omega : ¬ (i : Int) < (b.2.2.2.2.2.2.2.2.2.2.2.1.length : Int)), cond_false, List.drop_of_length_le (by omega : b.2.2.2.2.2.2.2.2.2.2.2.1.length ≤ i), partA, List.append_nil]
    intro r rs u us h; cases h
  | succ d ih =>
    intro i j fnd hi hf
    have hm := hs _ (gdm (b.2.2.2.2.2.2.2.2.2.2.2.1) i T5.dflt (by omega))
    have hln := len_in hm.chk
    have hrw : b.2.2.2.2.2.2.2.2.2.2.2.1.drop i = b.2.2.2.2.2.2.2.2.2.2.2.1.getD i T5.dflt :: b.2.2.2.2.2.2.2.2.2.2.2.1.drop (i + 1) := drop_cons' (b.2.2.2.2.2.2.2.2.2.2.2.1) i T5.dflt (by omega)
    have huw : b.2.2.2.2.2.2.2.2.2.2.2.2.1.drop i = b.2.2.2.2.2.2.2.2.2.2.2.2.1.getD i I.dflt :: b.2.2.2.2.2.2.2.2.2.2.2.2.1.drop (i + 1) := drop_cons' (b.2.2.2.2.2.2.2.2.2.2.2.2.1) i I.dflt (by omega)
    have hfu : (d + 1) * (b.2.2.2.2.2.2.2.2.2.2.2.1.length + 2) + 1 + j = (b.2.2.2.2.2.2.2.2.2.2.2.1.length + 1 + (d * (b.2.2.2.2.2.2.2.2.2.2.2.1.length + 2) + 1 + j)) + 1 := by rw [Nat.succ_mul]; omega
    have h3 : (0 : Int) ≤ (i : Int) := by omega
    have h4 : (i : Int) < (b.2.2.2.2.2.2.2.2.2.2.2.2.1.length : Int) := by omega
    rw [hfu, f_u14_6, decide_eq_true (by omega : (i : Int) < (b.2.2.2.2.2.2.2.2.2.2.2.1.length : Int)), cond_true, if_pos ⟨by omega, by omega⟩, Int.toNat_natCast, length_s k hk _ hm.chk, length_v k hk _ hm.chk, Option.isSome_some, if_pos rfl, if_pos ⟨h3, h4, fun _ => h3, fun _ => h4⟩]
    have h11 := rolls_11 k hk q b q2 fnd (by omega) (b.2.2.2.2.2.2.2.2.2.2.2.1) (b.2.2.2.2.2.2.2.2.2.2.2.1) (lenS (b.2.2.2.2.2.2.2.2.2.2.2.1.getD i T5.dflt).2.2.2.2.2) (b.2.2.2.2.2.2.2.2.2.2.2.1.length) i hl hs (by omega) (by omega) (b.2.2.2.2.2.2.2.2.2.2.2.1.getD i T5.dflt) hm rfl (b.2.2.2.2.2.2.2.2.2.2.2.1.length) 0 (d * (b.2.2.2.2.2.2.2.2.2.2.2.1.length + 2) + 1 + j) (decide (b.2.2.2.2.2.2.2.2.2.2.2.2.1.getD i I.dflt ≥ 0) && decide (b.2.2.2.2.2.2.2.2.2.2.2.2.1.getD i I.dflt ≤ lenS (b.2.2.2.2.2.2.2.2.2.2.2.1.getD i T5.dflt).2.2.2.2.2)) (by omega) (fun h => by
      have := Bool.and_eq_true_iff.1 h
      exact ⟨of_decide_eq_true this.1, of_decide_eq_true this.2⟩)
    rw [List.drop_zero] at h11
    rw [show ((0 : Nat) : Int) = 0 from rfl] at h11
    rw [h11]
    have ho := one1_len (b.2.2.2.2.2.2.2.2.2.2.2.1) (b.2.2.2.2.2.2.2.2.2.2.2.1.getD i T5.dflt) (b.2.2.2.2.2.2.2.2.2.2.2.2.1.getD i I.dflt)
    show f_u14_6 k q q2 (d * (b.2.2.2.2.2.2.2.2.2.2.2.1.length + 2) + 1 + j) (b.2.2.2.2.2.2.2.2.2.2.2.1) _ _ b (fnd ++ one1 (b.2.2.2.2.2.2.2.2.2.2.2.1) (b.2.2.2.2.2.2.2.2.2.2.2.1.getD i T5.dflt) (b.2.2.2.2.2.2.2.2.2.2.2.2.1.getD i I.dflt)) = _
    rw [ih (i + 1) j _ (by omega) (by rw [List.length_append]; omega), hrw, huw, partA, List.append_assoc]
theorem mset_get (M : List (Int × Bool)) (a x : Int) : (mget I (β := Bool) x (mset I (β := Bool) a true M)).getD false = (a == x || (mget I (β := Bool) x M).getD false) := by
  rw [mget_mset_int]
  by_cases h : x = a
  · rw [if_pos h, h, beq_self_eq_true, Bool.true_or]; rfl
  · rw [if_neg h, show (a == x) = false from beq_eq_false_iff_ne.2 (fun e => h e.symm), Bool.false_or]
theorem rolls_20 (k : Nat) (q b : T17.T) (q2 fnd : List Fnd) (l : List Ro) (hl : l.length ≤ 40) :
    ∀ (d i j : Nat) (M : List (Int × Bool)), i + d = l.length →
      ∃ M' : List (Int × Bool), f_u14_20 k q q2 (d + 1 + j) l (l.length : Int) (i : Int) b fnd M = f_u14_26 k q q2 j (b.2.2.2.2.2.2.2.2.2.2.2.2.2.1) (b.2.2.2.2.2.2.2.2.2.2.2.2.2.1.length : Int) 0 b fnd M' [] ∧ ∀ x, (mget I (β := Bool) x M').getD false = (idIn x (l.drop i) || (mget I (β := Bool) x M).getD false) := by
  intro d
  induction d with
  | zero =>
    intro i j M hi
    refine ⟨M, ?_, fun x => ?_⟩
    · rw [show 0 + 1 + j = j + 1 by omega, f_u14_20, decide_eq_false (by omega : ¬ (i : Int) < (l.length : Int)), cond_false]
    · rw [List.drop_of_length_le (by omega)]; rfl
  | succ d ih =>
    intro i j M hi
    obtain ⟨M', h1, h2⟩ := ih (i + 1) j (mset I (l.getD i T5.dflt).1 true M) (by omega)
    refine ⟨M', ?_, fun x => ?_⟩
    · rw [show d + 1 + 1 + j = (d + 1 + j) + 1 by omega, f_u14_20, decide_eq_true (by omega : (i : Int) < (l.length : Int)), cond_true, if_pos ⟨by omega, by omega⟩, Int.toNat_natCast, wrapS i (by omega)]
      exact h1
    · have hrw : l.drop i = l.getD i T5.dflt :: l.drop (i + 1) := drop_cons' l i T5.dflt (by omega)
      rw [h2 x, mset_get, hrw]
      show (idIn x (l.drop (i + 1)) || ((l.getD i T5.dflt).1 == x || _)) = (((l.getD i T5.dflt).1 == x || idIn x (l.drop (i + 1))) || _)
      cases idIn x (l.drop (i + 1)) <;> cases ((l.getD i T5.dflt).1 == x) <;> rfl
theorem isIn_snoc (x a : Int) (l : List Int) : isIn x (l ++ [a]) = (a == x || isIn x l) := by
  unfold isIn
  rw [List.any_append, List.any_cons, List.any_nil, Bool.or_false, Bool.or_comm]
theorem wmul_in {w n : Int} (w0 : 0 ≤ w) (w1 : w ≤ 12000) (n0 : 0 ≤ n) (n1 : n ≤ 17179869184) : 0 ≤ w * n ∧ w * n ≤ 206158430208000 := by
  constructor
  · exact Int.mul_nonneg w0 n0
  · calc w * n ≤ 12000 * n := Int.mul_le_mul_of_nonneg_right w1 n0
      _ ≤ 206158430208000 := by omega
theorem rolls_26 (k : Nat) (hk : 2100 ≤ k) (q b : T17.T) (g : GB b) (q2 : List Fnd) (hs : Smalls (b.2.2.2.2.2.2.2.2.2.2.2.1)) (hu : b.2.2.2.2.2.2.2.2.2.2.2.2.1.length = b.2.2.2.2.2.2.2.2.2.2.2.1.length) (hw : wOk (b.2.1)) (hm : mOk (b.2.2.1)) (M : List (Int × Bool)) (hM : ∀ x, (mget I (β := Bool) x M).getD false = idIn x (b.2.2.2.2.2.2.2.2.2.2.2.1)) :
    ∀ (d i j : Nat) (fnd : List Fnd) (N : List (Int × Bool)), i + d = b.2.2.2.2.2.2.2.2.2.2.2.2.2.1.length → d < j → fnd.length + d ≤ 20000 → (∀ x, (mget I (β := Bool) x N).getD false = isIn x (b.2.2.2.2.2.2.2.2.2.2.2.2.2.1.take i)) →
      f_u14_26 k q q2 j (b.2.2.2.2.2.2.2.2.2.2.2.2.2.1) (b.2.2.2.2.2.2.2.2.2.2.2.2.2.1.length : Int) (i : Int) b fnd M N = some (bs b (fnd ++ (partB (b.2.2.2.2.2.2.2.2.2.2.2.1) (b.2.2.2.2.2.2.2.2.2.2.2.2.2.1.take i) (b.2.2.2.2.2.2.2.2.2.2.2.2.2.1.drop i) ++ finS b))) := by
  have hsl := g.bScrapped
  have hci := covS_in b g hs
  intro d
  induction d with
  | zero =>
    intro i j fnd N hi hj hf hN
    obtain ⟨j, rfl⟩ : ∃ q, j = q + 1 := ⟨j - 1, by omega⟩
    rw [List.take_of_length_le (by omega)] at hN
    have hc := covered_s k hk b g fnd N hN hu hs
    have hcv : v_u10 k b fnd N = covS b := by unfold v_u10; rw [hc]; rfl
    rw [f_u14_26, decide_eq_false (by omega : ¬ (i : Int) < (b.2.2.2.2.2.2.2.2.2.2.2.2.2.1.length : Int)), cond_false, List.drop_of_length_le (by omega), partB, List.nil_append]
    unfold bs finS
    unfold wOk at hw
    unfold mOk at hm
    generalize hW : (b.2.1 : Int) = W at *
    generalize hB : (b.2.2.2.1 : Int) = B at *
    generalize hD : (b.2.2.1 : Int) = D at *
    by_cases hb : B < 0 ∨ B > D
    · have : (decide (B < (0 : Int)) || decide (B > D)) = true := by
        rcases hb with h | h
        · rw [decide_eq_true h, Bool.true_or]
        · rw [decide_eq_true h, Bool.or_true]
      rw [this, cond_true, find_s k b fnd _ _ _ (by omega), find_v k b fnd _ _ _ (by omega), Option.isSome_some, finI_b hb, if_pos rfl]
    · have : (decide (B < (0 : Int)) || decide (B > D)) = false := by
        rw [decide_eq_false (fun h => hb (.inl h)), decide_eq_false (fun h => hb (.inr h))]; rfl
      have hb1 : (0 : Int) ≤ B := Int.not_lt.1 (fun h => hb (.inl h))
      have hb2 : B ≤ D := Int.not_lt.1 (fun h => hb (.inr h))
      have hb3 : B ≤ 17179869184 := Int.le_trans hb2 hm.2
      have hmu := wmul_in (w := W) (n := B) (Int.le_trans (by decide) hw.1) hw.2 hb1 hb3
      have e1 : IntKind.i64.wrap (W * B) = W * B := wrap_id (by omega) (by omega)
      have e2 : IntKind.i64.wrap (covS b - W * B) = covS b - W * B := wrap_id (by omega) (by omega)
      rw [this, cond_false, hc, hcv, e1, e2, Option.isSome_some, if_pos rfl]
      by_cases hd : covS b - W * B = 0
      · rw [finI_0 hb hd, show (covS b - W * B != (0 : Int)) = false by rw [hd]; rfl, cond_false, List.append_nil]
      · rw [finI_d hb hd, bne_iff_ne.2 hd, cond_true, find_s k b fnd _ _ _ (by omega), find_v k b fnd _ _ _ (by omega), Option.isSome_some, if_pos rfl]
  | succ d ih =>
    intro i j fnd N hi hj hf hN
    obtain ⟨j, rfl⟩ : ∃ q, j = q + 1 := ⟨j - 1, by omega⟩
    have hrw : b.2.2.2.2.2.2.2.2.2.2.2.2.2.1.drop i = b.2.2.2.2.2.2.2.2.2.2.2.2.2.1.getD i I.dflt :: b.2.2.2.2.2.2.2.2.2.2.2.2.2.1.drop (i + 1) := drop_cons' (b.2.2.2.2.2.2.2.2.2.2.2.2.2.1) i I.dflt (by omega)
    have htk : b.2.2.2.2.2.2.2.2.2.2.2.2.2.1.take (i + 1) = b.2.2.2.2.2.2.2.2.2.2.2.2.2.1.take i ++ [b.2.2.2.2.2.2.2.2.2.2.2.2.2.1.getD i I.dflt] := take_snoc (b.2.2.2.2.2.2.2.2.2.2.2.2.2.1) i I.dflt (by omega)
    have hN' : ∀ x, (mget I (β := Bool) x (mset I (β := Bool) (b.2.2.2.2.2.2.2.2.2.2.2.2.2.1.getD i I.dflt) true N)).getD false = isIn x (b.2.2.2.2.2.2.2.2.2.2.2.2.2.1.take (i + 1)) := fun x => by rw [mset_get, hN x, htk, isIn_snoc]
    have hx : (!(mget I (β := Bool) (b.2.2.2.2.2.2.2.2.2.2.2.2.2.1.getD i I.dflt) M).getD false || (mget I (β := Bool) (b.2.2.2.2.2.2.2.2.2.2.2.2.2.1.getD i I.dflt) N).getD false) = (!idIn (b.2.2.2.2.2.2.2.2.2.2.2.2.2.1.getD i I.dflt) (b.2.2.2.2.2.2.2.2.2.2.2.1) || isIn (b.2.2.2.2.2.2.2.2.2.2.2.2.2.1.getD i I.dflt) (b.2.2.2.2.2.2.2.2.2.2.2.2.2.1.take i)) := by rw [hM, hN]
    rw [f_u14_26, decide_eq_true (by omega : (i : Int) < (b.2.2.2.2.2.2.2.2.2.2.2.2.2.1.length : Int)), cond_true, if_pos ⟨by omega, by omega⟩, Int.toNat_natCast, wrapS i (by omega), hrw, partB, ← htk]
    show (bif (!(mget I (β := Bool) (b.2.2.2.2.2.2.2.2.2.2.2.2.2.1.getD i I.dflt) M).getD false || (mget I (β := Bool) (b.2.2.2.2.2.2.2.2.2.2.2.2.2.1.getD i I.dflt) N).getD false) then _ else _) = _
    rw [hx]
    cases (!idIn (b.2.2.2.2.2.2.2.2.2.2.2.2.2.1.getD i I.dflt) (b.2.2.2.2.2.2.2.2.2.2.2.1) || isIn (b.2.2.2.2.2.2.2.2.2.2.2.2.2.1.getD i I.dflt) (b.2.2.2.2.2.2.2.2.2.2.2.2.2.1.take i))
    · rw [cond_false, cond_false, List.nil_append]
      exact ih (i + 1) j fnd _ (by omega) (by omega) (by omega) hN'
    · rw [cond_true, cond_true, find_s k b fnd _ _ _ (by omega), find_v k b fnd _ _ _ (by omega), Option.isSome_some, if_pos rfl]
      have := ih (i + 1) j (fnd ++ [(3, b.2.2.2.2.2.2.2.2.2.2.2.2.2.1.getD i I.dflt, 2)]) _ (by omega) (by omega) (by rw [List.length_append, List.length_singleton]; omega) hN'
      rw [List.append_assoc] at this
      rw [List.append_assoc]
      exact this
theorem partA_len (l : List Ro) : ∀ (a : List Ro) (u : List Int), (partA l a u).length ≤ a.length
  | [], _ => by simp [partA]
  | r :: rs, [] => by simp [partA]
  | r :: rs, u :: us => by
    have := partA_len l rs us
    have := one1_len l r u
    rw [partA, List.length_append, List.length_cons]; omega
theorem partB_len (l : List Ro) : ∀ (t b : List Int), (partB l b t).length ≤ t.length
  | [], _ => by simp [partB]
  | n :: t, b => by
    have := partB_len l t (b ++ [n])
    rw [partB, List.length_append, List.length_cons]
    cases (!idIn n l || isIn n b)
    · rw [cond_false, List.length_nil]; omega
    · rw [cond_true, List.length_singleton]; omega
theorem finS_len (b : T17.T) : (finS b).length ≤ 1 := by
  unfold finS finI; split
  · simp
  · split <;> simp
theorem rollsS_c {b : T17.T} (h : checkS (b.2.2.2.2.2.2.2.2.2.2.2.1) (b.2.1) (b.2.2.1) ≠ 0) : rollsS b = [(3, 0, checkS (b.2.2.2.2.2.2.2.2.2.2.2.1) (b.2.1) (b.2.2.1))] := by unfold rollsS; rw [if_pos h]
theorem rollsS_u {b : T17.T} (h : checkS (b.2.2.2.2.2.2.2.2.2.2.2.1) (b.2.1) (b.2.2.1) = 0) (h2 : b.2.2.2.2.2.2.2.2.2.2.2.2.1.length ≠ b.2.2.2.2.2.2.2.2.2.2.2.1.length) : rollsS b = [(3, 0, 0)] := by unfold rollsS; rw [if_neg (fun x => x h), if_pos h2]
theorem rollsS_g {b : T17.T} (h : checkS (b.2.2.2.2.2.2.2.2.2.2.2.1) (b.2.1) (b.2.2.1) = 0) (h2 : b.2.2.2.2.2.2.2.2.2.2.2.2.1.length = b.2.2.2.2.2.2.2.2.2.2.2.1.length) : rollsS b = partA (b.2.2.2.2.2.2.2.2.2.2.2.1) (b.2.2.2.2.2.2.2.2.2.2.2.1) (b.2.2.2.2.2.2.2.2.2.2.2.2.1) ++ (partB (b.2.2.2.2.2.2.2.2.2.2.2.1) [] (b.2.2.2.2.2.2.2.2.2.2.2.2.2.1) ++ finS b) := by unfold rollsS; rw [if_neg (fun x => x h), if_neg (fun x => x h2)]
theorem rollsS_len (b : T17.T) (g : GB b) : (rollsS b).length ≤ 100 := by
  have h1 := partA_len (b.2.2.2.2.2.2.2.2.2.2.2.1) (b.2.2.2.2.2.2.2.2.2.2.2.1) (b.2.2.2.2.2.2.2.2.2.2.2.2.1)
  have h2 := partB_len (b.2.2.2.2.2.2.2.2.2.2.2.1) (b.2.2.2.2.2.2.2.2.2.2.2.2.2.1) []
  have h3 := finS_len b
  have := g.bRolls
  have := g.bScrapped
  unfold rollsS
  split
  · simp
  · split
    · simp
    · rw [List.length_append, List.length_append]; omega
theorem rolls_s (k : Nat) (hk : 300000 ≤ k) (b : T17.T) (g : GB b) (fnd : List Fnd) (hf : fnd.length ≤ 1000) : f_u14 k b fnd = some (b, fnd ++ rollsS b) := by
  have hr := g.bRolls
  have hc := fam_Check_s k hk (b.2.2.2.2.2.2.2.2.2.2.2.1) (b.2.1) (b.2.2.1)
  have hcv : v_u24 k (b.2.2.2.2.2.2.2.2.2.2.2.1) (b.2.1) (b.2.2.1) = checkS (b.2.2.2.2.2.2.2.2.2.2.2.1) (b.2.1) (b.2.2.1) := by unfold v_u24; rw [hc]; rfl
  unfold f_u14
  rw [hc, hcv, Option.isSome_some, if_pos rfl]
  by_cases h1 : checkS (b.2.2.2.2.2.2.2.2.2.2.2.1) (b.2.1) (b.2.2.1) = 0
  · rw [show (checkS (b.2.2.2.2.2.2.2.2.2.2.2.1) (b.2.1) (b.2.2.1) != (0 : Int)) = false by rw [h1]; rfl, cond_false]
    by_cases h2 : b.2.2.2.2.2.2.2.2.2.2.2.2.1.length = b.2.2.2.2.2.2.2.2.2.2.2.1.length
    · obtain ⟨MM, _, hs, _⟩ := (fam_open k hk (b.2.2.2.2.2.2.2.2.2.2.2.1) (b.2.1, b.2.2.1)).2 h1
      have hreg := checkS_zero.1 h1
      rw [rollsS_g h1 h2, show ((b.2.2.2.2.2.2.2.2.2.2.2.2.1.length : Int) != (b.2.2.2.2.2.2.2.2.2.2.2.1.length : Int)) = false by rw [h2]; exact bne_self_eq_false _, cond_false]
      have e6 := rolls_6 k (by omega) b b fnd hr hs h2 (b.2.2.2.2.2.2.2.2.2.2.2.1.length) 0 (k - (b.2.2.2.2.2.2.2.2.2.2.2.1.length * (b.2.2.2.2.2.2.2.2.2.2.2.1.length + 2) + 1)) fnd (by omega) (by omega)
      have hmul : b.2.2.2.2.2.2.2.2.2.2.2.1.length * (b.2.2.2.2.2.2.2.2.2.2.2.1.length + 2) ≤ 40 * 42 := Nat.mul_le_mul hr (by omega)
      rw [show b.2.2.2.2.2.2.2.2.2.2.2.1.length * (b.2.2.2.2.2.2.2.2.2.2.2.1.length + 2) + 1 + (k - (b.2.2.2.2.2.2.2.2.2.2.2.1.length * (b.2.2.2.2.2.2.2.2.2.2.2.1.length + 2) + 1)) = k by omega, List.drop_zero, List.drop_zero] at e6
      have hpa := partA_len (b.2.2.2.2.2.2.2.2.2.2.2.1) (b.2.2.2.2.2.2.2.2.2.2.2.1) (b.2.2.2.2.2.2.2.2.2.2.2.2.1)
      obtain ⟨M', e20, hM⟩ := rolls_20 k b b fnd (fnd ++ partA (b.2.2.2.2.2.2.2.2.2.2.2.1) (b.2.2.2.2.2.2.2.2.2.2.2.1) (b.2.2.2.2.2.2.2.2.2.2.2.2.1)) (b.2.2.2.2.2.2.2.2.2.2.2.1) hr (b.2.2.2.2.2.2.2.2.2.2.2.1.length) 0 (k - (b.2.2.2.2.2.2.2.2.2.2.2.1.length * (b.2.2.2.2.2.2.2.2.2.2.2.1.length + 2) + 1) - (b.2.2.2.2.2.2.2.2.2.2.2.1.length + 1)) [] (by omega)
      rw [show b.2.2.2.2.2.2.2.2.2.2.2.1.length + 1 + (k - (b.2.2.2.2.2.2.2.2.2.2.2.1.length * (b.2.2.2.2.2.2.2.2.2.2.2.1.length + 2) + 1) - (b.2.2.2.2.2.2.2.2.2.2.2.1.length + 1)) = k - (b.2.2.2.2.2.2.2.2.2.2.2.1.length * (b.2.2.2.2.2.2.2.2.2.2.2.1.length + 2) + 1) by omega] at e20
      rw [show ((0 : Nat) : Int) = 0 from rfl] at e6 e20
      rw [e6, e20]
      have hsl := g.bScrapped
      have e26 := rolls_26 k (by omega) b b g fnd hs h2 hreg.w hreg.len M' (fun x => by rw [hM x, List.drop_zero]; exact Bool.or_false _) (b.2.2.2.2.2.2.2.2.2.2.2.2.2.1.length) 0 (k - (b.2.2.2.2.2.2.2.2.2.2.2.1.length * (b.2.2.2.2.2.2.2.2.2.2.2.1.length + 2) + 1) - (b.2.2.2.2.2.2.2.2.2.2.2.1.length + 1)) (fnd ++ partA (b.2.2.2.2.2.2.2.2.2.2.2.1) (b.2.2.2.2.2.2.2.2.2.2.2.1) (b.2.2.2.2.2.2.2.2.2.2.2.2.1)) [] (by omega) (by omega) (by rw [List.length_append]; omega) (fun x => rfl)
      rw [show ((0 : Nat) : Int) = 0 from rfl, List.take_zero, List.drop_zero, List.append_assoc] at e26
      exact e26
    · rw [rollsS_u h1 h2, bne_iff_ne.2 (show (b.2.2.2.2.2.2.2.2.2.2.2.2.1.length : Int) ≠ (b.2.2.2.2.2.2.2.2.2.2.2.1.length : Int) from fun h => h2 (by omega)), cond_true, find_s k b fnd _ _ _ (by omega), find_v k b fnd _ _ _ (by omega), Option.isSome_some, if_pos rfl]
  · rw [rollsS_c h1, bne_iff_ne.2 h1, cond_true, find_s k b fnd _ _ _ (by omega), find_v k b fnd _ _ _ (by omega), Option.isSome_some, if_pos rfl]
theorem rolls_v (k : Nat) (hk : 300000 ≤ k) (b : T17.T) (g : GB b) (fnd : List Fnd) (hf : fnd.length ≤ 1000) : v_u14 k b fnd = (b, fnd ++ rollsS b) := by
  unfold v_u14; rw [rolls_s k hk b g fnd hf]; rfl
theorem Rolls_s (k : Nat) (hk : 300000 ≤ k) (b : T17.T) (g : GB b) : f_u3 k b = some (rollsS b, 0) := by
  have h1 : f_u21 k b = some (rollsS b, 0) := by
    unfold f_u21
    have e1 : f_u4 k b [] = some b := rfl
    have e2 : v_u4 k b [] = b := rfl
    obtain ⟨k', rfl⟩ : ∃ q, k = q + 2 := ⟨k - 2, by omega⟩
    rw [full_s _ (by omega) b g, full_v _ (by omega) b g, e1, e2, Option.isSome_some, if_pos rfl, cond_false, Option.isSome_some, if_pos rfl]
    rw [f_u21_10005, if_pos ⟨by omega, by decide⟩, rolls_s _ hk b g [] (by simp), rolls_v _ hk b g [] (by simp), Option.isSome_some, if_pos rfl, f_u21_20005]
    rfl
  unfold f_u3
  rw [show v_u21 k b = (rollsS b, 0) by unfold v_u21; rw [h1]; rfl, h1, Option.isSome_some, if_pos rfl]
theorem Rolls_v (k : Nat) (hk : 300000 ≤ k) (b : T17.T) (g : GB b) : v_u3 k b = (rollsS b, 0) := by
  unfold v_u3; rw [Rolls_s k hk b g]; rfl
end Go.AM
namespace Go.AM
open Go Go.Proofs
noncomputable section
def bs_H62_u33_0 : ByteArray := ByteArray.mk #[(48 : UInt8), (49 : UInt8), (50 : UInt8), (51 : UInt8), (52 : UInt8), (53 : UInt8), (54 : UInt8), (55 : UInt8), (56 : UInt8), (57 : UInt8), (97 : UInt8), (98 : UInt8), (99 : UInt8), (100 : UInt8), (101 : UInt8), (102 : UInt8), (103 : UInt8), (104 : UInt8), (105 : UInt8), (106 : UInt8), (107 : UInt8), (108 : UInt8), (109 : UInt8), (110 : UInt8), (111 : UInt8), (112 : UInt8), (113 : UInt8), (114 : UInt8), (115 : UInt8), (116 : UInt8), (117 : UInt8), (118 : UInt8), (119 : UInt8), (120 : UInt8), (121 : UInt8), (122 : UInt8)]
def bs_H62_u33_1 : ByteArray := ByteArray.mk #[48, 49, 50, 51, 52, 53, 54, 55, 56, 57, 97, 98, 99, 100, 101, 102, 103, 104, 105, 106, 107, 108, 109, 110, 111, 112, 113, 114, 115, 116, 117, 118, 119, 120, 121, 122]
abbrev R_u33 : Type := ByteArray
def res_u33 (r : R_u33) : AV := .r (.v (.string r))
def bo_u33 (i_ : Int) (r : R_u33) : List (Nat × Blk) := []
def args_u33 (i_ : Int) : List AV := [.r (.v (.int .i64 i_))]
def bin_u33 (i_ : Int) : List Blk := []
abbrev C_u33 (i_ : Int) (r : R_u33) : Prop := CC Tryz.prog 204 (args_u33 i_) (bin_u33 i_) (res_u33 r) (bo_u33 i_ r)
def f_u33 (k : Nat) (i_ : Int) : Option R_u33 :=
  bif (decide (i_ < (10 : Int))) then
  if ((0 : Int) ≤ i_) ∧ (i_ ≤ IntKind.i64.wrap (i_ + (1 : Int))) ∧ (IntKind.i64.wrap (i_ + (1 : Int)) ≤ (↑ bs_H62_u33_0.size : Int)) then
  some (bs_H62_u33_1.extract i_.toNat (IntKind.i64.wrap (i_ + 1)).toNat)
  else none
  else
  if ((0 : Int) ≤ IntKind.i64.wrap (i_ * (2 : Int))) ∧ (IntKind.i64.wrap (i_ * (2 : Int)) ≤ IntKind.i64.wrap (IntKind.i64.wrap (i_ * (2 : Int)) + (2 : Int))) ∧ (IntKind.i64.wrap (IntKind.i64.wrap (i_ * (2 : Int)) + (2 : Int)) ≤ (↑ (ByteArray.mk (([(48 : UInt8), (48 : UInt8), (48 : UInt8), (49 : UInt8), (48 : UInt8), (50 : UInt8), (48 : UInt8), (51 : UInt8), (48 : UInt8), (52 : UInt8), (48 : UInt8), (53 : UInt8), (48 : UInt8), (54 : UInt8), (48 : UInt8), (55 : UInt8), (48 : UInt8), (56 : UInt8), (48 : UInt8), (57 : UInt8), (49 : UInt8), (48 : UInt8), (49 : UInt8), (49 : UInt8), (49 : UInt8), (50 : UInt8), (49 : UInt8), (51 : UInt8), (49 : UInt8), (52 : UInt8), (49 : UInt8), (53 : UInt8), (49 : UInt8), (54 : UInt8), (49 : UInt8), (55 : UInt8), (49 : UInt8), (56 : UInt8), (49 : UInt8), (57 : UInt8), (50 : UInt8), (48 : UInt8), (50 : UInt8), (49 : UInt8), (50 : UInt8), (50 : UInt8), (50 : UInt8), (51 : UInt8), (50 : UInt8), (52 : UInt8)].append [(50 : UInt8), (53 : UInt8), (50 : UInt8), (54 : UInt8), (50 : UInt8), (55 : UInt8), (50 : UInt8), (56 : UInt8), (50 : UInt8), (57 : UInt8), (51 : UInt8), (48 : UInt8), (51 : UInt8), (49 : UInt8), (51 : UInt8), (50 : UInt8), (51 : UInt8), (51 : UInt8), (51 : UInt8), (52 : UInt8), (51 : UInt8), (53 : UInt8), (51 : UInt8), (54 : UInt8), (51 : UInt8), (55 : UInt8), (51 : UInt8), (56 : UInt8), (51 : UInt8), (57 : UInt8), (52 : UInt8), (48 : UInt8), (52 : UInt8), (49 : UInt8), (52 : UInt8), (50 : UInt8), (52 : UInt8), (51 : UInt8), (52 : UInt8), (52 : UInt8), (52 : UInt8), (53 : UInt8), (52 : UInt8), (54 : UInt8), (52 : UInt8), (55 : UInt8), (52 : UInt8), (56 : UInt8), (52 : UInt8), (57 : UInt8)]).append ([(53 : UInt8), (48 : UInt8), (53 : UInt8), (49 : UInt8), (53 : UInt8), (50 : UInt8), (53 : UInt8), (51 : UInt8), (53 : UInt8), (52 : UInt8), (53 : UInt8), (53 : UInt8), (53 : UInt8), (54 : UInt8), (53 : UInt8), (55 : UInt8), (53 : UInt8), (56 : UInt8), (53 : UInt8), (57 : UInt8), (54 : UInt8), (48 : UInt8), (54 : UInt8), (49 : UInt8), (54 : UInt8), (50 : UInt8), (54 : UInt8), (51 : UInt8), (54 : UInt8), (52 : UInt8), (54 : UInt8), (53 : UInt8), (54 : UInt8), (54 : UInt8), (54 : UInt8), (55 : UInt8), (54 : UInt8), (56 : UInt8), (54 : UInt8), (57 : UInt8), (55 : UInt8), (48 : UInt8), (55 : UInt8), (49 : UInt8), (55 : UInt8), (50 : UInt8), (55 : UInt8), (51 : UInt8), (55 : UInt8), (52 : UInt8)].append [(55 : UInt8), (53 : UInt8), (55 : UInt8), (54 : UInt8), (55 : UInt8), (55 : UInt8), (55 : UInt8), (56 : UInt8), (55 : UInt8), (57 : UInt8), (56 : UInt8), (48 : UInt8), (56 : UInt8), (49 : UInt8), (56 : UInt8), (50 : UInt8), (56 : UInt8), (51 : UInt8), (56 : UInt8), (52 : UInt8), (56 : UInt8), (53 : UInt8), (56 : UInt8), (54 : UInt8), (56 : UInt8), (55 : UInt8), (56 : UInt8), (56 : UInt8), (56 : UInt8), (57 : UInt8), (57 : UInt8), (48 : UInt8), (57 : UInt8), (49 : UInt8), (57 : UInt8), (50 : UInt8), (57 : UInt8), (51 : UInt8), (57 : UInt8), (52 : UInt8), (57 : UInt8), (53 : UInt8), (57 : UInt8), (54 : UInt8), (57 : UInt8), (55 : UInt8), (57 : UInt8), (56 : UInt8), (57 : UInt8), (57 : UInt8)])).toArray).size : Int)) then
  some ((ByteArray.mk (([48, 48, 48, 49, 48, 50, 48, 51, 48, 52, 48, 53, 48, 54, 48, 55, 48, 56, 48, 57, 49, 48, 49, 49, 49, 50, 49, 51, 49, 52, 49, 53, 49, 54, 49, 55, 49, 56, 49, 57, 50, 48, 50, 49, 50, 50, 50, 51, 50, 52].append [50, 53, 50, 54, 50, 55, 50, 56, 50, 57, 51, 48, 51, 49, 51, 50, 51, 51, 51, 52, 51, 53, 51, 54, 51, 55, 51, 56, 51, 57, 52, 48, 52, 49, 52, 50, 52, 51, 52, 52, 52, 53, 52, 54, 52, 55, 52, 56, 52, 57]).append ([53, 48, 53, 49, 53, 50, 53, 51, 53, 52, 53, 53, 53, 54, 53, 55, 53, 56, 53, 57, 54, 48, 54, 49, 54, 50, 54, 51, 54, 52, 54, 53, 54, 54, 54, 55, 54, 56, 54, 57, 55, 48, 55, 49, 55, 50, 55, 51, 55, 52].append [55, 53, 55, 54, 55, 55, 55, 56, 55, 57, 56, 48, 56, 49, 56, 50, 56, 51, 56, 52, 56, 53, 56, 54, 56, 55, 56, 56, 56, 57, 57, 48, 57, 49, 57, 50, 57, 51, 57, 52, 57, 53, 57, 54, 57, 55, 57, 56, 57, 57])).toArray).extract (IntKind.i64.wrap (i_ * 2)).toNat (IntKind.i64.wrap (IntKind.i64.wrap (i_ * 2) + 2)).toNat)
  else none
def v_u33 (k : Nat) (i_ : Int) : R_u33 := (f_u33 k i_).getD ByteArray.empty
def ke_u33 (k : Nat) : Ke := (204, fun xs => match xs with
  | [_] => some [false]
  | _ => none, fun xs bs => match xs, bs with
  | [.r (.v (.int .i64 i_))], [] => some (.one (res_u33 (v_u33 k i_), bo_u33 i_ (v_u33 k i_)))
  | _, _ => none)
theorem of_u33 (k : Nat) (i_ : Int) (r : R_u33) (h : f_u33 k i_ = some r) : C_u33 i_ r := by
  refine CC.of (fn := Tryz.f204) (by kernel_rfl) (by kernel_rfl) (by kernel_rfl) (by kernel_rfl) ?_
  unfold f_u33 at h
  exact go (mkK []) [] [] [.autoB [2] true []] (gT h (fun c h => gN h (fun q => conjC q.1 (conjC q.2.1 (conjC q.2.2 conj0))) fun h => gL h) fun c h => gN h (fun q => conjC q.1 (conjC q.2.1 (conjC q.2.2 conj0))) fun h => gL h) (by kernel_rfl)
theorem cc_u33 {k : Nat} {i_ : Int} (h : (f_u33 k i_).isSome = true) : C_u33 i_ (v_u33 k i_) := ccG (Φ := C_u33 i_) h (of_u33 k i_)
abbrev R_u31 : Type := ByteArray
def res_u31 (r : R_u31) : AV := .r (.v (.string r))
def bo_u31 (i_ : Int) (base_ : Int) (r : R_u31) : List (Nat × Blk) := []
def args_u31 (i_ : Int) (base_ : Int) : List AV := [.r (.v (.int .i64 i_)), .r (.v (.int .i64 base_))]
def bin_u31 (i_ : Int) (base_ : Int) : List Blk := []
abbrev C_u31 (i_ : Int) (base_ : Int) (r : R_u31) : Prop := CC Tryz.prog 161 (args_u31 i_ base_) (bin_u31 i_ base_) (res_u31 r) (bo_u31 i_ base_ r)
def f_u31 (k : Nat) (i_ : Int) (base_ : Int) : Option R_u31 :=
  bif (base_ == (10 : Int)) then
  bif (decide ((0 : Int) ≤ i_) && decide (i_ < (100 : Int))) then
  if ((f_u33 k i_).isSome = true) then
  some (v_u33 k i_)
  else none
  else
  bif (decide (i_ < (0 : Int))) then
  none
  else
  none
  else
  none
def v_u31 (k : Nat) (i_ : Int) (base_ : Int) : R_u31 := (f_u31 k i_ base_).getD ByteArray.empty
def ke_u31 (k : Nat) : Ke := (161, fun xs => match xs with
  | [_, _] => some [false, false]
  | _ => none, fun xs bs => match xs, bs with
  | [.r (.v (.int .i64 i_)), .r (.v (.int .i64 base_))], [] => some (.one (res_u31 (v_u31 k i_ base_), bo_u31 i_ base_ (v_u31 k i_ base_)))
  | _, _ => none)
theorem of_u31 (k : Nat) (i_ : Int) (base_ : Int) (r : R_u31) (h : f_u31 k i_ base_ = some r) : C_u31 i_ base_ r := by
  refine CC.of (fn := Tryz.f161) (by kernel_rfl) (by kernel_rfl) (by kernel_rfl) (by kernel_rfl) ?_
  unfold f_u31 at h
  exact go (mkK [ke_u33 k]) [] [] [.autoB [4] true []] (gT h (fun c h => gT h (fun c h => gN1 h (fun q => cc_u33 q) fun h => gL h) fun c h => gT h (fun c h => gZ h (.stuck 2001)) fun c h => gZ h (.stuck 2001)) fun c h => gZ h (.stuck 2005)) (by kernel_rfl)
theorem cc_u31 {k : Nat} {i_ : Int} {base_ : Int} (h : (f_u31 k i_ base_).isSome = true) : C_u31 i_ base_ (v_u31 k i_ base_) := ccG (Φ := C_u31 i_ base_) h (of_u31 k i_ base_)
abbrev R_u32 : Type := ByteArray
def res_u32 (r : R_u32) : AV := .r (.v (.string r))
def bo_u32 (i_ : Int) (r : R_u32) : List (Nat × Blk) := []
def args_u32 (i_ : Int) : List AV := [.r (.v (.int .i64 i_))]
def bin_u32 (i_ : Int) : List Blk := []
abbrev C_u32 (i_ : Int) (r : R_u32) : Prop := CC Tryz.prog 111 (args_u32 i_) (bin_u32 i_) (res_u32 r) (bo_u32 i_ r)
def f_u32 (k : Nat) (i_ : Int) : Option R_u32 :=
  if ((f_u31 k i_ 10).isSome = true) then
  some (v_u31 k i_ 10)
  else none
def v_u32 (k : Nat) (i_ : Int) : R_u32 := (f_u32 k i_).getD ByteArray.empty
def ke_u32 (k : Nat) : Ke := (111, fun xs => match xs with
  | [_] => some [false]
  | _ => none, fun xs bs => match xs, bs with
  | [.r (.v (.int .i64 i_))], [] => some (.one (res_u32 (v_u32 k i_), bo_u32 i_ (v_u32 k i_)))
  | _, _ => none)
theorem of_u32 (k : Nat) (i_ : Int) (r : R_u32) (h : f_u32 k i_ = some r) : C_u32 i_ r := by
  refine CC.of (fn := Tryz.f111) (by kernel_rfl) (by kernel_rfl) (by kernel_rfl) (by kernel_rfl) ?_
  unfold f_u32 at h
  exact go (mkK [ke_u31 k]) [] [] [.autoB [2] true []] (gN1 h (fun q => cc_u31 q) fun h => gL h) (by kernel_rfl)
theorem cc_u32 {k : Nat} {i_ : Int} (h : (f_u32 k i_).isSome = true) : C_u32 i_ (v_u32 k i_) := ccG (Φ := C_u32 i_) h (of_u32 k i_)
abbrev R_u97 : Type := ByteArray
def res_u97 (r : R_u97) : AV := .r (.v (.string r))
def bo_u97 (i_ : Int) (r : R_u97) : List (Nat × Blk) := []
def args_u97 (i_ : Int) : List AV := [.r (.v (.int .i64 i_))]
def bin_u97 (i_ : Int) : List Blk := []
abbrev C_u97 (i_ : Int) (r : R_u97) : Prop := CC Tryz.prog 64 (args_u97 i_) (bin_u97 i_) (res_u97 r) (bo_u97 i_ r)
def f_u97 (k : Nat) (i_ : Int) : Option R_u97 :=
  if ((f_u32 k i_).isSome = true) then
  some (v_u32 k i_)
  else none
def v_u97 (k : Nat) (i_ : Int) : R_u97 := (f_u97 k i_).getD ByteArray.empty
def ke_u97 (k : Nat) : Ke := (64, fun xs => match xs with
  | [_] => some [false]
  | _ => none, fun xs bs => match xs, bs with
  | [.r (.v (.int .i64 i_))], [] => some (.one (res_u97 (v_u97 k i_), bo_u97 i_ (v_u97 k i_)))
  | _, _ => none)
theorem of_u97 (k : Nat) (i_ : Int) (r : R_u97) (h : f_u97 k i_ = some r) : C_u97 i_ r := by
  refine CC.of (fn := Tryz.f64) (by kernel_rfl) (by kernel_rfl) (by kernel_rfl) (by kernel_rfl) ?_
  unfold f_u97 at h
  exact go (mkK [ke_u32 k]) [] [] [.autoB [2] true []] (gN1 h (fun q => cc_u32 q) fun h => gL h) (by kernel_rfl)
theorem cc_u97 {k : Nat} {i_ : Int} (h : (f_u97 k i_).isSome = true) : C_u97 i_ (v_u97 k i_) := ccG (Φ := C_u97 i_) h (of_u97 k i_)
def bs_H62_u5_0 : ByteArray := ByteArray.mk #[(115 : UInt8), (101 : UInt8), (99 : UInt8), (116 : UInt8), (105 : UInt8), (111 : UInt8), (110 : UInt8), (115 : UInt8), (58 : UInt8), (32 : UInt8), (101 : UInt8), (114 : UInt8), (114 : UInt8), (111 : UInt8), (114 : UInt8), (32 : UInt8)]
def bs_H62_u5_1 : ByteArray := ByteArray.mk #[115, 101, 99, 116, 105, 111, 110, 115, 58, 32, 101, 114, 114, 111, 114, 32]
def bs_H62_u5_2 : ByteArray := ByteArray.mk #[(32 : UInt8), (100 : UInt8), (111 : UInt8), (101 : UInt8), (115 : UInt8), (32 : UInt8), (110 : UInt8), (111 : UInt8), (116 : UInt8), (32 : UInt8), (109 : UInt8), (97 : UInt8), (116 : UInt8), (99 : UInt8), (104 : UInt8), (58 : UInt8), (32 : UInt8), (101 : UInt8), (114 : UInt8), (114 : UInt8), (111 : UInt8), (114 : UInt8), (32 : UInt8)]
def bs_H62_u5_3 : ByteArray := ByteArray.mk #[32, 100, 111, 101, 115, 32, 110, 111, 116, 32, 109, 97, 116, 99, 104, 58, 32, 101, 114, 114, 111, 114, 32]
def bs_H62_u5_4 : ByteArray := ByteArray.mk #[(116 : UInt8), (104 : UInt8), (101 : UInt8), (32 : UInt8), (97 : UInt8), (114 : UInt8), (101 : UInt8), (97 : UInt8), (32 : UInt8), (111 : UInt8), (102 : UInt8), (32 : UInt8), (116 : UInt8), (104 : UInt8), (101 : UInt8), (32 : UInt8), (119 : UInt8), (101 : UInt8), (98 : UInt8), (32 : UInt8), (105 : UInt8), (115 : UInt8), (32 : UInt8), (110 : UInt8), (111 : UInt8), (116 : UInt8), (32 : UInt8), (98 : UInt8), (97 : UInt8), (108 : UInt8), (97 : UInt8), (110 : UInt8), (99 : UInt8), (101 : UInt8), (100 : UInt8), (58 : UInt8), (32 : UInt8)]
def bs_H62_u5_5 : ByteArray := ByteArray.mk #[116, 104, 101, 32, 97, 114, 101, 97, 32, 111, 102, 32, 116, 104, 101, 32, 119, 101, 98, 32, 105, 115, 32, 110, 111, 116, 32, 98, 97, 108, 97, 110, 99, 101, 100, 58, 32]
def bs_H62_u5_6 : ByteArray := ByteArray.mk #[(115 : UInt8), (104 : UInt8), (105 : UInt8), (112 : UInt8), (112 : UInt8), (101 : UInt8), (100 : UInt8), (32 : UInt8), (114 : UInt8), (111 : UInt8), (108 : UInt8), (108 : UInt8), (32 : UInt8)]
def bs_H62_u5_7 : ByteArray := ByteArray.mk #[115, 104, 105, 112, 112, 101, 100, 32, 114, 111, 108, 108, 32]
def bs_H62_u5_8 : ByteArray := ByteArray.mk #[(32 : UInt8), (119 : UInt8), (97 : UInt8), (115 : UInt8), (32 : UInt8), (110 : UInt8), (111 : UInt8), (116 : UInt8), (32 : UInt8), (114 : UInt8), (101 : UInt8), (108 : UInt8), (101 : UInt8), (97 : UInt8), (115 : UInt8), (101 : UInt8), (100 : UInt8), (58 : UInt8), (32 : UInt8), (101 : UInt8), (114 : UInt8), (114 : UInt8), (111 : UInt8), (114 : UInt8), (32 : UInt8)]
def bs_H62_u5_9 : ByteArray := ByteArray.mk #[32, 119, 97, 115, 32, 110, 111, 116, 32, 114, 101, 108, 101, 97, 115, 101, 100, 58, 32, 101, 114, 114, 111, 114, 32]
def bs_H62_u5_10 : ByteArray := ByteArray.mk #[(116 : UInt8), (104 : UInt8), (101 : UInt8), (32 : UInt8), (99 : UInt8), (114 : UInt8), (101 : UInt8), (100 : UInt8), (105 : UInt8), (116 : UInt8), (32 : UInt8), (111 : UInt8), (102 : UInt8), (32 : UInt8), (99 : UInt8), (108 : UInt8), (97 : UInt8), (105 : UInt8), (109 : UInt8), (32 : UInt8)]
def bs_H62_u5_11 : ByteArray := ByteArray.mk #[(32 : UInt8), (115 : UInt8), (104 : UInt8), (111 : UInt8), (117 : UInt8), (108 : UInt8), (100 : UInt8), (32 : UInt8), (98 : UInt8), (101 : UInt8), (32 : UInt8)]
def bs_H62_u5_12 : ByteArray := ByteArray.mk #[116, 104, 101, 32, 99, 114, 101, 100, 105, 116, 32, 111, 102, 32, 99, 108, 97, 105, 109, 32]
def bs_H62_u5_13 : ByteArray := ByteArray.mk #[32, 115, 104, 111, 117, 108, 100, 32, 98, 101, 32]
def bs_H62_u5_14 : ByteArray := ByteArray.mk #[(32 : UInt8), (99 : UInt8), (97 : UInt8), (110 : UInt8), (110 : UInt8), (111 : UInt8), (116 : UInt8), (32 : UInt8), (98 : UInt8), (101 : UInt8), (32 : UInt8), (115 : UInt8), (101 : UInt8), (116 : UInt8), (116 : UInt8), (108 : UInt8), (101 : UInt8), (100 : UInt8), (58 : UInt8), (32 : UInt8), (101 : UInt8), (114 : UInt8), (114 : UInt8), (111 : UInt8), (114 : UInt8), (32 : UInt8)]
def bs_H62_u5_15 : ByteArray := ByteArray.mk #[32, 99, 97, 110, 110, 111, 116, 32, 98, 101, 32, 115, 101, 116, 116, 108, 101, 100, 58, 32, 101, 114, 114, 111, 114, 32]
def bs_H62_u5_16 : ByteArray := ByteArray.mk #[(98 : UInt8), (114 : UInt8), (111 : UInt8), (107 : UInt8), (101 : UInt8), (58 : UInt8), (32 : UInt8), (101 : UInt8), (114 : UInt8), (114 : UInt8), (111 : UInt8), (114 : UInt8), (32 : UInt8)]
def bs_H62_u5_17 : ByteArray := ByteArray.mk #[98, 114, 111, 107, 101, 58, 32, 101, 114, 114, 111, 114, 32]
def bs_H62_u5_18 : ByteArray := ByteArray.mk #[(32 : UInt8), (105 : UInt8), (115 : UInt8), (32 : UInt8), (114 : UInt8), (101 : UInt8), (112 : UInt8), (101 : UInt8), (97 : UInt8), (116 : UInt8), (101 : UInt8), (100 : UInt8)]
def bs_H62_u5_19 : ByteArray := ByteArray.mk #[32, 105, 115, 32, 114, 101, 112, 101, 97, 116, 101, 100]
abbrev R_u5 : Type := ByteArray × Int
def res_u5 (r : R_u5) : AV := .tup [.r (.v (.string r.1)), .r (.v (.int .i64 r.2))]
def bo_u5 (f_ : T18.T) (r : R_u5) : List (Nat × Blk) := []
def args_u5 (f_ : T18.T) : List AV := [.agg (rvs (enc T18 f_))]
def bin_u5 (f_ : T18.T) : List Blk := []
abbrev C_u5 (f_ : T18.T) (r : R_u5) : Prop := CC Tryz.prog 25 (args_u5 f_) (bin_u5 f_) (res_u5 r) (bo_u5 f_ r)
def f_u5 (k : Nat) (f_ : T18.T) : Option R_u5 :=
  if ((f_u97 k f_.2.1).isSome = true) ∧ ((f_u97 k f_.2.2).isSome = true) then
  bif (f_.1 == (1 : Int)) then
  if ((↑ (bs_H62_u5_0.size + ByteArray.size (v_u97 k f_.2.1)) : Int) ≤ IntKind.i64.max) ∧ ((↑ ((bs_H62_u5_0 ++ v_u97 k f_.2.1).size + (ByteArray.mk #[(44 : UInt8), (32 : UInt8), (101 : UInt8), (110 : UInt8), (100 : UInt8), (32 : UInt8)]).size) : Int) ≤ IntKind.i64.max) ∧ ((↑ ((bs_H62_u5_0 ++ v_u97 k f_.2.1 ++ (ByteArray.mk #[(44 : UInt8), (32 : UInt8), (101 : UInt8), (110 : UInt8), (100 : UInt8), (32 : UInt8)])).size + ByteArray.size (v_u97 k f_.2.2)) : Int) ≤ IntKind.i64.max) then
  some ((bs_H62_u5_1 ++ v_u97 k f_.2.1 ++ (ByteArray.mk #[44, 32, 101, 110, 100, 32]) ++ v_u97 k f_.2.2, 0))
  else none
  else
  bif (f_.1 == (2 : Int)) then
  if ((↑ ((ByteArray.mk #[(114 : UInt8), (101 : UInt8), (101 : UInt8), (108 : UInt8), (32 : UInt8)]).size + ByteArray.size (v_u97 k f_.2.1)) : Int) ≤ IntKind.i64.max) ∧ ((↑ (((ByteArray.mk #[(114 : UInt8), (101 : UInt8), (101 : UInt8), (108 : UInt8), (32 : UInt8)]) ++ v_u97 k f_.2.1).size + bs_H62_u5_2.size) : Int) ≤ IntKind.i64.max) ∧ ((↑ (((ByteArray.mk #[(114 : UInt8), (101 : UInt8), (101 : UInt8), (108 : UInt8), (32 : UInt8)]) ++ v_u97 k f_.2.1 ++ bs_H62_u5_2).size + ByteArray.size (v_u97 k f_.2.2)) : Int) ≤ IntKind.i64.max) then
  some (((ByteArray.mk #[114, 101, 101, 108, 32]) ++ v_u97 k f_.2.1 ++ bs_H62_u5_3 ++ v_u97 k f_.2.2, 0))
  else none
  else
  bif (f_.1 == (3 : Int)) then
  if ((↑ ((ByteArray.mk #[(114 : UInt8), (111 : UInt8), (108 : UInt8), (108 : UInt8), (32 : UInt8)]).size + ByteArray.size (v_u97 k f_.2.1)) : Int) ≤ IntKind.i64.max) ∧ ((↑ (((ByteArray.mk #[(114 : UInt8), (111 : UInt8), (108 : UInt8), (108 : UInt8), (32 : UInt8)]) ++ v_u97 k f_.2.1).size + (ByteArray.mk #[(58 : UInt8), (32 : UInt8), (101 : UInt8), (114 : UInt8), (114 : UInt8), (111 : UInt8), (114 : UInt8), (32 : UInt8)]).size) : Int) ≤ IntKind.i64.max) ∧ ((↑ (((ByteArray.mk #[(114 : UInt8), (111 : UInt8), (108 : UInt8), (108 : UInt8), (32 : UInt8)]) ++ v_u97 k f_.2.1 ++ (ByteArray.mk #[(58 : UInt8), (32 : UInt8), (101 : UInt8), (114 : UInt8), (114 : UInt8), (111 : UInt8), (114 : UInt8), (32 : UInt8)])).size + ByteArray.size (v_u97 k f_.2.2)) : Int) ≤ IntKind.i64.max) then
  some (((ByteArray.mk #[114, 111, 108, 108, 32]) ++ v_u97 k f_.2.1 ++ (ByteArray.mk #[58, 32, 101, 114, 114, 111, 114, 32]) ++ v_u97 k f_.2.2, 0))
  else none
  else
  bif (f_.1 == (4 : Int)) then
  if ((↑ (bs_H62_u5_4.size + ByteArray.size (v_u97 k f_.2.1)) : Int) ≤ IntKind.i64.max) then
  some ((bs_H62_u5_5 ++ v_u97 k f_.2.1, 0))
  else none
  else
  bif (f_.1 == (5 : Int)) then
  if ((↑ ((ByteArray.mk #[(111 : UInt8), (114 : UInt8), (100 : UInt8), (101 : UInt8), (114 : UInt8), (32 : UInt8)]).size + ByteArray.size (v_u97 k f_.2.1)) : Int) ≤ IntKind.i64.max) ∧ ((↑ (((ByteArray.mk #[(111 : UInt8), (114 : UInt8), (100 : UInt8), (101 : UInt8), (114 : UInt8), (32 : UInt8)]) ++ v_u97 k f_.2.1).size + (ByteArray.mk #[(58 : UInt8), (32 : UInt8), (101 : UInt8), (114 : UInt8), (114 : UInt8), (111 : UInt8), (114 : UInt8), (32 : UInt8)]).size) : Int) ≤ IntKind.i64.max) ∧ ((↑ (((ByteArray.mk #[(111 : UInt8), (114 : UInt8), (100 : UInt8), (101 : UInt8), (114 : UInt8), (32 : UInt8)]) ++ v_u97 k f_.2.1 ++ (ByteArray.mk #[(58 : UInt8), (32 : UInt8), (101 : UInt8), (114 : UInt8), (114 : UInt8), (111 : UInt8), (114 : UInt8), (32 : UInt8)])).size + ByteArray.size (v_u97 k f_.2.2)) : Int) ≤ IntKind.i64.max) then
  some (((ByteArray.mk #[111, 114, 100, 101, 114, 32]) ++ v_u97 k f_.2.1 ++ (ByteArray.mk #[58, 32, 101, 114, 114, 111, 114, 32]) ++ v_u97 k f_.2.2, 0))
  else none
  else
  bif (f_.1 == (6 : Int)) then
  if ((↑ (bs_H62_u5_6.size + ByteArray.size (v_u97 k f_.2.1)) : Int) ≤ IntKind.i64.max) ∧ ((↑ ((bs_H62_u5_6 ++ v_u97 k f_.2.1).size + (ByteArray.mk #[(58 : UInt8), (32 : UInt8), (101 : UInt8), (114 : UInt8), (114 : UInt8), (111 : UInt8), (114 : UInt8), (32 : UInt8)]).size) : Int) ≤ IntKind.i64.max) ∧ ((↑ ((bs_H62_u5_6 ++ v_u97 k f_.2.1 ++ (ByteArray.mk #[(58 : UInt8), (32 : UInt8), (101 : UInt8), (114 : UInt8), (114 : UInt8), (111 : UInt8), (114 : UInt8), (32 : UInt8)])).size + ByteArray.size (v_u97 k f_.2.2)) : Int) ≤ IntKind.i64.max) then
  some ((bs_H62_u5_7 ++ v_u97 k f_.2.1 ++ (ByteArray.mk #[58, 32, 101, 114, 114, 111, 114, 32]) ++ v_u97 k f_.2.2, 0))
  else none
  else
  bif (f_.1 == (7 : Int)) then
  if ((↑ ((ByteArray.mk #[(114 : UInt8), (111 : UInt8), (108 : UInt8), (108 : UInt8), (32 : UInt8)]).size + ByteArray.size (v_u97 k f_.2.1)) : Int) ≤ IntKind.i64.max) ∧ ((↑ (((ByteArray.mk #[(114 : UInt8), (111 : UInt8), (108 : UInt8), (108 : UInt8), (32 : UInt8)]) ++ v_u97 k f_.2.1).size + bs_H62_u5_8.size) : Int) ≤ IntKind.i64.max) ∧ ((↑ (((ByteArray.mk #[(114 : UInt8), (111 : UInt8), (108 : UInt8), (108 : UInt8), (32 : UInt8)]) ++ v_u97 k f_.2.1 ++ bs_H62_u5_8).size + ByteArray.size (v_u97 k f_.2.2)) : Int) ≤ IntKind.i64.max) then
  some (((ByteArray.mk #[114, 111, 108, 108, 32]) ++ v_u97 k f_.2.1 ++ bs_H62_u5_9 ++ v_u97 k f_.2.2, 0))
  else none
  else
  bif (f_.1 == (8 : Int)) then
  if ((↑ (bs_H62_u5_10.size + ByteArray.size (v_u97 k f_.2.1)) : Int) ≤ IntKind.i64.max) ∧ ((↑ ((bs_H62_u5_10 ++ v_u97 k f_.2.1).size + bs_H62_u5_11.size) : Int) ≤ IntKind.i64.max) ∧ ((↑ ((bs_H62_u5_10 ++ v_u97 k f_.2.1 ++ bs_H62_u5_11).size + ByteArray.size (v_u97 k f_.2.2)) : Int) ≤ IntKind.i64.max) then
  some ((bs_H62_u5_12 ++ v_u97 k f_.2.1 ++ bs_H62_u5_13 ++ v_u97 k f_.2.2, 0))
  else none
  else
  bif (f_.1 == (9 : Int)) then
  if ((↑ ((ByteArray.mk #[(99 : UInt8), (108 : UInt8), (97 : UInt8), (105 : UInt8), (109 : UInt8), (32 : UInt8)]).size + ByteArray.size (v_u97 k f_.2.1)) : Int) ≤ IntKind.i64.max) ∧ ((↑ (((ByteArray.mk #[(99 : UInt8), (108 : UInt8), (97 : UInt8), (105 : UInt8), (109 : UInt8), (32 : UInt8)]) ++ v_u97 k f_.2.1).size + bs_H62_u5_14.size) : Int) ≤ IntKind.i64.max) ∧ ((↑ (((ByteArray.mk #[(99 : UInt8), (108 : UInt8), (97 : UInt8), (105 : UInt8), (109 : UInt8), (32 : UInt8)]) ++ v_u97 k f_.2.1 ++ bs_H62_u5_14).size + ByteArray.size (v_u97 k f_.2.2)) : Int) ≤ IntKind.i64.max) then
  some (((ByteArray.mk #[99, 108, 97, 105, 109, 32]) ++ v_u97 k f_.2.1 ++ bs_H62_u5_15 ++ v_u97 k f_.2.2, 0))
  else none
  else
  bif (f_.1 == (10 : Int)) then
  if ((↑ (bs_H62_u5_16.size + ByteArray.size (v_u97 k f_.2.1)) : Int) ≤ IntKind.i64.max) then
  some ((bs_H62_u5_17 ++ v_u97 k f_.2.1, 0))
  else none
  else
  bif (f_.1 == (11 : Int)) then
  if ((↑ ((ByteArray.mk #[(112 : UInt8), (111 : UInt8), (115 : UInt8), (116 : UInt8), (105 : UInt8), (110 : UInt8), (103 : UInt8), (32 : UInt8)]).size + ByteArray.size (v_u97 k f_.2.1)) : Int) ≤ IntKind.i64.max) ∧ ((↑ (((ByteArray.mk #[(112 : UInt8), (111 : UInt8), (115 : UInt8), (116 : UInt8), (105 : UInt8), (110 : UInt8), (103 : UInt8), (32 : UInt8)]) ++ v_u97 k f_.2.1).size + (ByteArray.mk #[(58 : UInt8), (32 : UInt8), (101 : UInt8), (114 : UInt8), (114 : UInt8), (111 : UInt8), (114 : UInt8), (32 : UInt8)]).size) : Int) ≤ IntKind.i64.max) ∧ ((↑ (((ByteArray.mk #[(112 : UInt8), (111 : UInt8), (115 : UInt8), (116 : UInt8), (105 : UInt8), (110 : UInt8), (103 : UInt8), (32 : UInt8)]) ++ v_u97 k f_.2.1 ++ (ByteArray.mk #[(58 : UInt8), (32 : UInt8), (101 : UInt8), (114 : UInt8), (114 : UInt8), (111 : UInt8), (114 : UInt8), (32 : UInt8)])).size + ByteArray.size (v_u97 k f_.2.2)) : Int) ≤ IntKind.i64.max) then
  some (((ByteArray.mk #[112, 111, 115, 116, 105, 110, 103, 32]) ++ v_u97 k f_.2.1 ++ (ByteArray.mk #[58, 32, 101, 114, 114, 111, 114, 32]) ++ v_u97 k f_.2.2, 0))
  else none
  else
  bif (f_.1 == (12 : Int)) then
  if ((↑ ((ByteArray.mk #[(112 : UInt8), (111 : UInt8), (115 : UInt8), (116 : UInt8), (105 : UInt8), (110 : UInt8), (103 : UInt8), (32 : UInt8)]).size + ByteArray.size (v_u97 k f_.2.1)) : Int) ≤ IntKind.i64.max) ∧ ((↑ (((ByteArray.mk #[(112 : UInt8), (111 : UInt8), (115 : UInt8), (116 : UInt8), (105 : UInt8), (110 : UInt8), (103 : UInt8), (32 : UInt8)]) ++ v_u97 k f_.2.1).size + bs_H62_u5_18.size) : Int) ≤ IntKind.i64.max) then
  some (((ByteArray.mk #[112, 111, 115, 116, 105, 110, 103, 32]) ++ v_u97 k f_.2.1 ++ bs_H62_u5_19, 0))
  else none
  else
  some ((ByteArray.mk #[], 17))
  else none
def v_u5 (k : Nat) (f_ : T18.T) : R_u5 := (f_u5 k f_).getD (ByteArray.empty, 0)
def ke_u5 (k : Nat) : Ke := (25, fun xs => match xs with
  | [_] => some [false]
  | _ => none, fun xs bs => match xs, bs with
  | [.agg qf_], [] => (decS [] T18 qf_).bind fun f_ => some (.one (res_u5 (v_u5 k f_), bo_u5 f_ (v_u5 k f_)))
  | _, _ => none)
theorem of_u5 (k : Nat) (f_ : T18.T) (r : R_u5) (h : f_u5 k f_ = some r) : C_u5 f_ r := by
  refine CC.of (fn := Tryz.f25) (by kernel_rfl) (by kernel_rfl) (by kernel_rfl) (by kernel_rfl) ?_
  unfold f_u5 at h
  exact go (mkK [ke_u97 k]) [] [] [.autoB [2, 3] true []] (gN h (fun q => conjC (cc_u97 q.1) (conjC (cc_u97 q.2) conj0)) fun h => gT h (fun c h => gN h (fun q => conjC q.1 (conjC q.2.1 (conjC q.2.2 conj0))) fun h => gL h) fun c h => gT h (fun c h => gN h (fun q => conjC q.1 (conjC q.2.1 (conjC q.2.2 conj0))) fun h => gL h) fun c h => gT h (fun c h => gN h (fun q => conjC q.1 (conjC q.2.1 (conjC q.2.2 conj0))) fun h => gL h) fun c h => gT h (fun c h => gN1 h id fun h => gL h) fun c h => gT h (fun c h => gN h (fun q => conjC q.1 (conjC q.2.1 (conjC q.2.2 conj0))) fun h => gL h) fun c h => gT h (fun c h => gN h (fun q => conjC q.1 (conjC q.2.1 (conjC q.2.2 conj0))) fun h => gL h) fun c h => gT h (fun c h => gN h (fun q => conjC q.1 (conjC q.2.1 (conjC q.2.2 conj0))) fun h => gL h) fun c h => gT h (fun c h => gN h (fun q => conjC q.1 (conjC q.2.1 (conjC q.2.2 conj0))) fun h => gL h) fun c h => gT h (fun c h => gN h (fun q => conjC q.1 (conjC q.2.1 (conjC q.2.2 conj0))) fun h => gL h) fun c h => gT h (fun c h => gN1 h id fun h => gL h) fun c h => gT h (fun c h => gN h (fun q => conjC q.1 (conjC q.2.1 (conjC q.2.2 conj0))) fun h => gL h) fun c h => gT h (fun c h => gN2 h fun h => gL h) fun c h => gL h) (by kernel_rfl)
theorem cc_u5 {k : Nat} {f_ : T18.T} (h : (f_u5 k f_).isSome = true) : C_u5 f_ (v_u5 k f_) := ccG (Φ := C_u5 f_) h (of_u5 k f_)
abbrev R_u84 : Type := Int
def res_u84 (r : R_u84) : AV := .r (.v (.int .i64 r))
def bo_u84 (l_ : List (T11).T) (r : R_u84) : List (Nat × Blk) := []
def args_u84 (l_ : List (T11).T) : List AV := [.r (.ro T11 l_)]
def bin_u84 (l_ : List (T11).T) : List Blk := []
abbrev C_u84 (l_ : List (T11).T) (r : R_u84) : Prop := CC Tryz.prog 130 (args_u84 l_) (bin_u84 l_) (res_u84 r) (bo_u84 l_ r)
def st_u84_4 (y0 : List (T11).T) (y1 : List (T11).T) (y2 : Int) (y3 : Int) : St := ⟨mkS 84 [(0, .r (.ro T11 y0)), (18, .r (.ro T11 y1)), (19, .r (.v (.int .i64 y2))), (20, .r (.v (.int .i64 y3)))], []⟩
def st_u84_12 (y0 : List (T11).T) (y1 : List (T11).T) (y2 : Int) (y3 : Int) (y4 : List ((I).T × (RTy.bool).T)) (y5 : List ((I).T × (RTy.bool).T)) : St := ⟨mkS 84 [(0, .r (.ro T11 y0)), (6, .own 1000000 0), (7, .own 1000001 0), (32, .r (.ro T11 y1)), (33, .r (.v (.int .i64 y2))), (34, .r (.v (.int .i64 y3)))], [(1000000, 0, .map false I RTy.bool y4), (1000001, 0, .map false I RTy.bool y5)]⟩
def st_u84_19 (y0 : List (T11).T) (y1 : Int) (y2 : List ((I).T × (RTy.bool).T)) : St := ⟨mkS 84 [(0, .r (.ro T11 y0)), (7, .own 1000000 0), (10, .r (.v (.int .i64 y1)))], [(1000000, 0, .map false I RTy.bool y2)]⟩
def st_u84_24 (y0 : List (T11).T) (y1 : Int) (y2 : Int) (y3 : List ((I).T × (RTy.bool).T)) : St := ⟨mkS 84 [(7, .own 1000000 0), (64, .r (.ro T11 y0)), (65, .r (.v (.int .i64 y1))), (66, .r (.v (.int .i64 y2)))], [(1000000, 0, .map false I RTy.bool y3)]⟩
def st_u84_27 (y0 : List (T11).T) (y1 : Int) (y2 : Int) (y3 : List (I).T) (y4 : Int) (y5 : Int) (y6 : List ((I).T × (RTy.bool).T)) : St := ⟨mkS 84 [(7, .own 1000000 0), (64, .r (.ro T11 y0)), (65, .r (.v (.int .i64 y1))), (66, .r (.v (.int .i64 y2))), (71, .r (.ro I y3)), (72, .r (.v (.int .i64 y4))), (73, .r (.v (.int .i64 y5)))], [(1000000, 0, .map false I RTy.bool y6)]⟩
mutual
def f_u84_4 (k : Nat) : Nat → List (T11).T → List (T11).T → Int → Int → Option R_u84
  | 0, _, _, _, _ => none
  | j + 1, y0, y1, y2, y3 =>
  bif (decide (y3 < y2)) then
  if (0 ≤ y3) ∧ (y3 < (↑y1.length : Int)) then
  none
  else none
  else
  f_u84_12 k j y0 y0 ((↑y0.length : Int)) 0 ([]) ([])
def f_u84_12 (k : Nat) : Nat → List (T11).T → List (T11).T → Int → Int → (List ((I).T × (RTy.bool).T)) → (List ((I).T × (RTy.bool).T)) → Option R_u84
  | 0, _, _, _, _, _, _ => none
  | j + 1, y0, y1, y2, y3, y4, y5 =>
  bif (decide (y3 < y2)) then
  if (0 ≤ y3) ∧ (y3 < (↑y1.length : Int)) then
  bif ((mget I (y1.getD y3.toNat T11.dflt).1 y4).getD false) then
  some 6
  else
  f_u84_12 k j y0 y1 y2 ((IntKind.i64.wrap (y3 + 1))) ((mset I (y1.getD y3.toNat T11.dflt).1 true y4)) y5
  else none
  else
  f_u84_19 k j y0 1 y5
def f_u84_19 (k : Nat) : Nat → List (T11).T → Int → (List ((I).T × (RTy.bool).T)) → Option R_u84
  | 0, _, _, _ => none
  | j + 1, y0, y1, y2 =>
  bif (decide (y1 < (↑y0.length : Int))) then
  if (0 ≤ y1) ∧ (y1 < (↑y0.length : Int)) ∧ ((0 : Int) ≤ IntKind.i64.wrap (y1 - (1 : Int))) ∧ (IntKind.i64.wrap (y1 - (1 : Int)) < (↑y0.length : Int)) then
  bif (decide ((y0.getD y1.toNat T11.dflt).2.1 < (y0.getD (IntKind.i64.wrap (y1 - (1 : Int))).toNat T11.dflt).2.1)) then
  some 9
  else
  f_u84_19 k j y0 ((IntKind.i64.wrap (y1 + 1))) y2
  else none
  else
  f_u84_24 k j y0 ((↑y0.length : Int)) 0 y2
def f_u84_24 (k : Nat) : Nat → List (T11).T → Int → Int → (List ((I).T × (RTy.bool).T)) → Option R_u84
  | 0, _, _, _, _ => none
  | j + 1, y0, y1, y2, y3 =>
  bif (decide (y2 < y1)) then
  if (0 ≤ y2) ∧ (y2 < (↑y0.length : Int)) then
  f_u84_27 k j y0 y1 y2 ((y0.getD y2.toNat T11.dflt).2.2) ((↑ (List.length (y0.getD y2.toNat T11.dflt).2.2) : Int)) 0 y3
  else none
  else
  some 0
def f_u84_27 (k : Nat) : Nat → List (T11).T → Int → Int → List (I).T → Int → Int → (List ((I).T × (RTy.bool).T)) → Option R_u84
  | 0, _, _, _, _, _, _, _ => none
  | j + 1, y0, y1, y2, y3, y4, y5, y6 =>
  bif (decide (y5 < y4)) then
  if (0 ≤ y5) ∧ (y5 < (↑y3.length : Int)) then
  bif ((mget I (y3.getD y5.toNat I.dflt) y6).getD false) then
  some 34
  else
  f_u84_27 k j y0 y1 y2 y3 y4 ((IntKind.i64.wrap (y5 + 1))) ((mset I (y3.getD y5.toNat I.dflt) true y6))
  else none
  else
  f_u84_24 k j y0 y1 ((IntKind.i64.wrap (y2 + 1))) y6
end
def f_u84 (k : Nat) (l_ : List (T11).T) : Option R_u84 :=
  bif (decide ((↑l_.length : Int) > (512 : Int))) then
  some 8
  else
  f_u84_4 k k l_ l_ ((↑l_.length : Int)) 0
def v_u84 (k : Nat) (l_ : List (T11).T) : R_u84 := (f_u84 k l_).getD 0
def ke_u84 (k : Nat) : Ke := (130, fun xs => match xs with
  | [_] => some [false]
  | _ => none, fun xs bs => match xs, bs with
  | [.r (.ro tl__ ql_)], [] => (castL tl__ T11 ql_).bind fun l_ => some (.one (res_u84 (v_u84 k l_), bo_u84 l_ (v_u84 k l_)))
  | _, _ => none)
def cs_u84 : List (Nat × List Cmd) := [(4, [.autoB [0, 18, 19, 20] false []]), (12, [.autoB [0, 6, 7, 32, 33, 34] false []]), (19, [.autoB [0, 7, 10] false []]), (24, [.autoB [7, 64, 65, 66] false []]), (27, [.autoB [7, 64, 65, 66, 71, 72, 73] false []])]
abbrev E_u84 (l_ : List (T11).T) (todo : List Item) (st : St) (o : Option R_u84) : Prop := ∀ r, o = some r → Ev Tryz.prog Tryz.f130 0 todo st (res_u84 r) (bo_u84 l_ r)
theorem ev_u84 (k : Nat) (l_ : List (T11).T) : ∀ j, (∀ (y0 : List (T11).T) (y1 : List (T11).T) (y2 : Int) (y3 : Int), E_u84 l_ (placeAt Tryz.f130 4) (st_u84_4 y0 y1 y2 y3) (f_u84_4 k j y0 y1 y2 y3)) ∧ (∀ (y0 : List (T11).T) (y1 : List (T11).T) (y2 : Int) (y3 : Int) (y4 : List ((I).T × (RTy.bool).T)) (y5 : List ((I).T × (RTy.bool).T)), E_u84 l_ (placeAt Tryz.f130 12) (st_u84_12 y0 y1 y2 y3 y4 y5) (f_u84_12 k j y0 y1 y2 y3 y4 y5)) ∧ (∀ (y0 : List (T11).T) (y1 : Int) (y2 : List ((I).T × (RTy.bool).T)), E_u84 l_ (placeAt Tryz.f130 19) (st_u84_19 y0 y1 y2) (f_u84_19 k j y0 y1 y2)) ∧ (∀ (y0 : List (T11).T) (y1 : Int) (y2 : Int) (y3 : List ((I).T × (RTy.bool).T)), E_u84 l_ (placeAt Tryz.f130 24) (st_u84_24 y0 y1 y2 y3) (f_u84_24 k j y0 y1 y2 y3)) ∧ (∀ (y0 : List (T11).T) (y1 : Int) (y2 : Int) (y3 : List (I).T) (y4 : Int) (y5 : Int) (y6 : List ((I).T × (RTy.bool).T)), E_u84 l_ (placeAt Tryz.f130 27) (st_u84_27 y0 y1 y2 y3 y4 y5 y6) (f_u84_27 k j y0 y1 y2 y3 y4 y5 y6))
  | 0 => ⟨fun _ _ _ _ _ h => (nomatch h), fun _ _ _ _ _ _ _ h => (nomatch h), fun _ _ _ _ h => (nomatch h), fun _ _ _ _ _ h => (nomatch h), fun _ _ _ _ _ _ _ _ h => (nomatch h)⟩
  | j + 1 => by
    have ih := @ev_u84 k l_ j
    refine ⟨?_, ?_, ?_, ?_, ?_⟩
    · intro y0 y1 y2 y3 r h
      rw [f_u84_4] at h
      exact go (mkK []) [] cs_u84 [.autoB [2] true []] (gT h (fun c h => gN2 h fun h => gZ h (.stuck 2001)) fun c h => gC h 12 (ih.2.1 _ _ _ _ _ _ _)) (by kernel_rfl)
    · intro y0 y1 y2 y3 y4 y5 r h
      rw [f_u84_12] at h
      exact go (mkK []) [] cs_u84 [.autoB [2] true []] (gT h (fun c h => gN2 h fun h => gT h (fun c h => gL h) fun c h => gC h 12 (ih.2.1 _ _ _ _ _ _ _)) fun c h => gC h 19 (ih.2.2.1 _ _ _ _)) (by kernel_rfl)
    · intro y0 y1 y2 r h
      rw [f_u84_19] at h
      exact go (mkK []) [] cs_u84 [.autoB [2] true []] (gT h (fun c h => gN h (fun q => conjC q.1 (conjC q.2.1 (conjC q.2.2.1 (conjC q.2.2.2 conj0)))) fun h => gT h (fun c h => gL h) fun c h => gC h 19 (ih.2.2.1 _ _ _ _)) fun c h => gC h 24 (ih.2.2.2.1 _ _ _ _ _)) (by kernel_rfl)
    · intro y0 y1 y2 y3 r h
      rw [f_u84_24] at h
      exact go (mkK []) [] cs_u84 [.autoB [2] true []] (gT h (fun c h => gN2 h fun h => gC h 27 (ih.2.2.2.2 _ _ _ _ _ _ _ _)) fun c h => gL h) (by kernel_rfl)
    · intro y0 y1 y2 y3 y4 y5 y6 r h
      rw [f_u84_27] at h
      exact go (mkK []) [] cs_u84 [.autoB [2] true []] (gT h (fun c h => gN2 h fun h => gT h (fun c h => gL h) fun c h => gC h 27 (ih.2.2.2.2 _ _ _ _ _ _ _ _)) fun c h => gC h 24 (ih.2.2.2.1 _ _ _ _ _)) (by kernel_rfl)
theorem of_u84 (k : Nat) (l_ : List (T11).T) (r : R_u84) (h : f_u84 k l_ = some r) : C_u84 l_ r := by
  refine CC.of (fn := Tryz.f130) (by kernel_rfl) (by kernel_rfl) (by kernel_rfl) (by kernel_rfl) ?_
  unfold f_u84 at h
  exact go (mkK []) [] cs_u84 [.autoB [2] true []] (gT h (fun c h => gL h) fun c h => gC h 4 ((ev_u84 k l_ k).1 _ _ _ _ _)) (by kernel_rfl)
theorem cc_u84 {k : Nat} {l_ : List (T11).T} (h : (f_u84 k l_).isSome = true) : C_u84 l_ (v_u84 k l_) := ccG (Φ := C_u84 l_) h (of_u84 k l_)
abbrev R_u15 : Type := T17.T × List (T18).T
def res_u15 (r : R_u15) : AV := .tup []
def bo_u15 (b_ : T17.T) (b_22 : List (T18).T) (r : R_u15) : List (Nat × Blk) := [(0, .var 140 ((rvs (enc T17 r.1)) ++ [.own 1 1])), (1, .row 54 T18 r.2)]
def args_u15 (b_ : T17.T) (b_22 : List (T18).T) : List AV := [.ptr 0 0 0]
def bin_u15 (b_ : T17.T) (b_22 : List (T18).T) : List Blk := [.var 140 (rvs (enc T17 b_) ++ [.own 1 0]), .row 54 T18 b_22]
abbrev C_u15 (b_ : T17.T) (b_22 : List (T18).T) (r : R_u15) : Prop := CC Tryz.prog 90 (args_u15 b_ b_22) (bin_u15 b_ b_22) (res_u15 r) (bo_u15 b_ b_22 r)
def st_u15_5 (b_ : T17.T) (b_22 : List (T18).T) (y0 : List (T11).T) (y1 : Int) (y2 : Int) (y3 : T17.T) (y4 : List (T18).T) : St := ⟨mkS 111 [(0, .ptr 0 0 0), (3, .r (.v (Value.slice none 0 0))), (31, .r (.ro T11 y0)), (32, .r (.v (.int .i64 y1))), (33, .r (.v (.int .i64 y2)))], [(0, 0, .var 140 ((rvs (enc T17 y3)) ++ [.own 1 1])), (1, 1, .row 54 T18 y4)]⟩
def st_u15_8 (b_ : T17.T) (b_22 : List (T18).T) (y0 : List (T11).T) (y1 : Int) (y2 : Int) (y3 : List (I).T) (y4 : Int) (y5 : Int) (y6 : T17.T) (y7 : List (T18).T) : St := ⟨mkS 111 [(0, .ptr 0 0 0), (3, .r (.v (Value.slice none 0 0))), (31, .r (.ro T11 y0)), (32, .r (.v (.int .i64 y1))), (33, .r (.v (.int .i64 y2))), (38, .r (.ro I y3)), (39, .r (.v (.int .i64 y4))), (40, .r (.v (.int .i64 y5)))], [(0, 0, .var 140 ((rvs (enc T17 y6)) ++ [.own 1 1])), (1, 1, .row 54 T18 y7)]⟩
def st_u15_22 (b_ : T17.T) (b_22 : List (T18).T) (y0 : List (T9).T) (y1 : Int) (y2 : Int) (y3 : T17.T) (y4 : List (T18).T) : St := ⟨mkS 111 [(0, .ptr 0 0 0), (3, .r (.v (Value.slice none 0 0))), (89, .r (.ro T9 y0)), (90, .r (.v (.int .i64 y1))), (91, .r (.v (.int .i64 y2)))], [(0, 0, .var 140 ((rvs (enc T17 y3)) ++ [.own 1 1])), (1, 1, .row 54 T18 y4)]⟩
def st_u15_25 (b_ : T17.T) (b_22 : List (T18).T) (y0 : List (T9).T) (y1 : Int) (y2 : Int) (y3 : List (I).T) (y4 : Int) (y5 : Int) (y6 : T17.T) (y7 : List (T18).T) : St := ⟨mkS 111 [(0, .ptr 0 0 0), (3, .r (.v (Value.slice none 0 0))), (89, .r (.ro T9 y0)), (90, .r (.v (.int .i64 y1))), (91, .r (.v (.int .i64 y2))), (96, .r (.ro I y3)), (97, .r (.v (.int .i64 y4))), (98, .r (.v (.int .i64 y5)))], [(0, 0, .var 140 ((rvs (enc T17 y6)) ++ [.own 1 1])), (1, 1, .row 54 T18 y7)]⟩
mutual
def f_u15_5 (k : Nat) (b_ : T17.T) (b_22 : List (T18).T) : Nat → List (T11).T → Int → Int → T17.T → List (T18).T → Option R_u15
  | 0, _, _, _, _, _ => none
  | j + 1, y0, y1, y2, y3, y4 =>
  bif (decide (y2 < y1)) then
  if (0 ≤ y2) ∧ (y2 < (↑y0.length : Int)) then
  f_u15_8 k b_ b_22 j y0 y1 y2 ((y0.getD y2.toNat T11.dflt).2.2) ((↑ (List.length (y0.getD y2.toNat T11.dflt).2.2) : Int)) 0 y3 y4
  else none
  else
  f_u15_22 k b_ b_22 j y3.2.2.2.2.2.2.2.2.2.2.2.2.2.2.2.1 ((↑ (List.length y3.2.2.2.2.2.2.2.2.2.2.2.2.2.2.2.1) : Int)) 0 y3 y4
def f_u15_8 (k : Nat) (b_ : T17.T) (b_22 : List (T18).T) : Nat → List (T11).T → Int → Int → List (I).T → Int → Int → T17.T → List (T18).T → Option R_u15
  | 0, _, _, _, _, _, _, _, _ => none
  | j + 1, y0, y1, y2, y3, y4, y5, y6, y7 =>
  bif (decide (y5 < y4)) then
  if (0 ≤ y5) ∧ (y5 < (↑y3.length : Int)) then
  if ([y3.getD y5.toNat I.dflt].length * (8 : Nat) ≤ (140737488355328 : Nat)) then
  none
  else none
  else none
  else
  f_u15_5 k b_ b_22 j y0 y1 ((IntKind.i64.wrap (y2 + 1))) y6 y7
def f_u15_22 (k : Nat) (b_ : T17.T) (b_22 : List (T18).T) : Nat → List (T9).T → Int → Int → T17.T → List (T18).T → Option R_u15
  | 0, _, _, _, _, _ => none
  | j + 1, y0, y1, y2, y3, y4 =>
  bif (decide (y2 < y1)) then
  if (0 ≤ y2) ∧ (y2 < (↑y0.length : Int)) then
  f_u15_25 k b_ b_22 j y0 y1 y2 ((y0.getD y2.toNat T9.dflt).2.2.1) ((↑ (List.length (y0.getD y2.toNat T9.dflt).2.2.1) : Int)) 0 y3 y4
  else none
  else
  some ((y3, y4))
def f_u15_25 (k : Nat) (b_ : T17.T) (b_22 : List (T18).T) : Nat → List (T9).T → Int → Int → List (I).T → Int → Int → T17.T → List (T18).T → Option R_u15
  | 0, _, _, _, _, _, _, _, _ => none
  | j + 1, y0, y1, y2, y3, y4, y5, y6, y7 =>
  bif (decide (y5 < y4)) then
  if (0 ≤ y5) ∧ (y5 < (↑y3.length : Int)) then
  none
  else none
  else
  f_u15_22 k b_ b_22 j y0 y1 ((IntKind.i64.wrap (y2 + 1))) y6 y7
end
def f_u15 (k : Nat) (b_ : T17.T) (b_22 : List (T18).T) : Option R_u15 :=
  if ((f_u84 k b_.2.2.2.2.2.2.2.2.2.2.2.2.2.2.2.2.2.1).isSome = true) then
  bif (v_u84 k b_.2.2.2.2.2.2.2.2.2.2.2.2.2.2.2.2.2.1 != (0 : Int)) then
  if ((f_u11 k b_ b_22 6 0 (v_u84 k b_.2.2.2.2.2.2.2.2.2.2.2.2.2.2.2.2.2.1)).isSome = true) then
  some (((v_u11 k b_ b_22 6 0 (v_u84 k b_.2.2.2.2.2.2.2.2.2.2.2.2.2.2.2.2.2.1)).1, (v_u11 k b_ b_22 6 0 (v_u84 k b_.2.2.2.2.2.2.2.2.2.2.2.2.2.2.2.2.2.1)).2))
  else none
  else
  f_u15_5 k b_ b_22 k b_.2.2.2.2.2.2.2.2.2.2.2.2.2.2.2.2.2.1 ((↑ (List.length b_.2.2.2.2.2.2.2.2.2.2.2.2.2.2.2.2.2.1) : Int)) 0 b_ b_22
  else none
def v_u15 (k : Nat) (b_ : T17.T) (b_22 : List (T18).T) : R_u15 := (f_u15 k b_ b_22).getD ((T17).dflt, [])
def ke_u15 (k : Nat) : Ke := (90, fun xs => match xs with
  | [.ptr _ _ _] => some [true]
  | _ => none, fun xs bs => match xs, bs with
  | [.ptr 0 0 0], [.var 140 qb_, .row 54 tb_22_ qb_22] => (decS [] T17 (qb_.take 22)).bind fun b_ => (castL tb_22_ T18 qb_22).bind fun b_22 => some (.one (res_u15 (v_u15 k b_ b_22), bo_u15 b_ b_22 (v_u15 k b_ b_22)))
  | _, _ => none)
def cs_u15 : List (Nat × List Cmd) := [(5, [.autoB [0, 3, 31, 32, 33] false [1]]), (8, [.autoB [0, 3, 31, 32, 33, 38, 39, 40] false [1]]), (22, [.autoB [0, 3, 89, 90, 91] false [1]]), (25, [.autoB [0, 3, 89, 90, 91, 96, 97, 98] false [1]])]
abbrev E_u15 (b_ : T17.T) (b_22 : List (T18).T) (todo : List Item) (st : St) (o : Option R_u15) : Prop := ∀ r, o = some r → Ev Tryz.prog Tryz.f90 2 todo st (res_u15 r) (bo_u15 b_ b_22 r)
theorem ev_u15 (k : Nat) (b_ : T17.T) (b_22 : List (T18).T) : ∀ j, (∀ (y0 : List (T11).T) (y1 : Int) (y2 : Int) (y3 : T17.T) (y4 : List (T18).T), E_u15 b_ b_22 (placeAt Tryz.f90 5) (st_u15_5 b_ b_22 y0 y1 y2 y3 y4) (f_u15_5 k b_ b_22 j y0 y1 y2 y3 y4)) ∧ (∀ (y0 : List (T11).T) (y1 : Int) (y2 : Int) (y3 : List (I).T) (y4 : Int) (y5 : Int) (y6 : T17.T) (y7 : List (T18).T), E_u15 b_ b_22 (placeAt Tryz.f90 8) (st_u15_8 b_ b_22 y0 y1 y2 y3 y4 y5 y6 y7) (f_u15_8 k b_ b_22 j y0 y1 y2 y3 y4 y5 y6 y7)) ∧ (∀ (y0 : List (T9).T) (y1 : Int) (y2 : Int) (y3 : T17.T) (y4 : List (T18).T), E_u15 b_ b_22 (placeAt Tryz.f90 22) (st_u15_22 b_ b_22 y0 y1 y2 y3 y4) (f_u15_22 k b_ b_22 j y0 y1 y2 y3 y4)) ∧ (∀ (y0 : List (T9).T) (y1 : Int) (y2 : Int) (y3 : List (I).T) (y4 : Int) (y5 : Int) (y6 : T17.T) (y7 : List (T18).T), E_u15 b_ b_22 (placeAt Tryz.f90 25) (st_u15_25 b_ b_22 y0 y1 y2 y3 y4 y5 y6 y7) (f_u15_25 k b_ b_22 j y0 y1 y2 y3 y4 y5 y6 y7))
  | 0 => ⟨fun _ _ _ _ _ _ h => (nomatch h), fun _ _ _ _ _ _ _ _ _ h => (nomatch h), fun _ _ _ _ _ _ h => (nomatch h), fun _ _ _ _ _ _ _ _ _ h => (nomatch h)⟩
  | j + 1 => by
    have ih := @ev_u15 k b_ b_22 j
    refine ⟨?_, ?_, ?_, ?_⟩
    · intro y0 y1 y2 y3 y4 r h
      rw [f_u15_5] at h
      exact go (mkK [ke_u11 k, ke_u84 k]) [] cs_u15 [.autoB [] true [1]] (gT h (fun c h => gN2 h fun h => gC h 8 (ih.2.1 _ _ _ _ _ _ _ _ _)) fun c h => gC h 22 (ih.2.2.1 _ _ _ _ _ _)) (by kernel_rfl)
    · intro y0 y1 y2 y3 y4 y5 y6 y7 r h
      rw [f_u15_8] at h
      exact go (mkK [ke_u11 k, ke_u84 k]) [] cs_u15 [.autoB [] true [1]] (gT h (fun c h => gN2 h fun h => gN1 h id fun h => gZ h (.stuck 2002)) fun c h => gC h 5 (ih.1 _ _ _ _ _ _)) (by kernel_rfl)
    · intro y0 y1 y2 y3 y4 r h
      rw [f_u15_22] at h
      exact go (mkK [ke_u11 k, ke_u84 k]) [] cs_u15 [.autoB [] true [1]] (gT h (fun c h => gN2 h fun h => gC h 25 (ih.2.2.2 _ _ _ _ _ _ _ _ _)) fun c h => gL h) (by kernel_rfl)
    · intro y0 y1 y2 y3 y4 y5 y6 y7 r h
      rw [f_u15_25] at h
      exact go (mkK [ke_u11 k, ke_u84 k]) [] cs_u15 [.autoB [] true [1]] (gT h (fun c h => gN2 h fun h => gZ h (.stuck 2002)) fun c h => gC h 22 (ih.2.2.1 _ _ _ _ _ _)) (by kernel_rfl)
theorem of_u15 (k : Nat) (b_ : T17.T) (b_22 : List (T18).T) (r : R_u15) (h : f_u15 k b_ b_22 = some r) : C_u15 b_ b_22 r := by
  refine CC.of (fn := Tryz.f90) (by kernel_rfl) (by kernel_rfl) (by kernel_rfl) (by kernel_rfl) ?_
  unfold f_u15 at h
  exact go (mkK [ke_u11 k, ke_u84 k]) [] cs_u15 [.autoB [] true [1]] (gN1 h (fun q => cc_u84 q) fun h => gT h (fun c h => gN1 h (fun q => cc_u11 q) fun h => gL h) fun c h => gC h 5 ((ev_u15 k b_ b_22 k).1 _ _ _ _ _ _)) (by kernel_rfl)
theorem cc_u15 {k : Nat} {b_ : T17.T} {b_22 : List (T18).T} (h : (f_u15 k b_ b_22).isSome = true) : C_u15 b_ b_22 (v_u15 k b_ b_22) := ccG (Φ := C_u15 b_ b_22) h (of_u15 k b_ b_22)
abbrev R_u13 : Type := T17.T × List (T18).T
def res_u13 (r : R_u13) : AV := .tup []
def bo_u13 (b_ : T17.T) (b_22 : List (T18).T) (r : R_u13) : List (Nat × Blk) := [(0, .var 140 ((rvs (enc T17 r.1)) ++ [.own 1 1])), (1, .row 54 T18 r.2)]
def args_u13 (b_ : T17.T) (b_22 : List (T18).T) : List AV := [.ptr 0 0 0]
def bin_u13 (b_ : T17.T) (b_22 : List (T18).T) : List Blk := [.var 140 (rvs (enc T17 b_) ++ [.own 1 0]), .row 54 T18 b_22]
abbrev C_u13 (b_ : T17.T) (b_22 : List (T18).T) (r : R_u13) : Prop := CC Tryz.prog 48 (args_u13 b_ b_22) (bin_u13 b_ b_22) (res_u13 r) (bo_u13 b_ b_22 r)
def st_u13_2 (b_ : T17.T) (b_22 : List (T18).T) (y0 : List (T9).T) (y1 : Int) (y2 : Int) (y3 : T17.T) (y4 : List (T18).T) : St := ⟨mkS 121 [(0, .ptr 0 0 0), (2, .r (.v (Value.slice none 0 0))), (15, .r (.ro T9 y0)), (16, .r (.v (.int .i64 y1))), (17, .r (.v (.int .i64 y2)))], [(0, 0, .var 140 ((rvs (enc T17 y3)) ++ [.own 1 1])), (1, 1, .row 54 T18 y4)]⟩
def f_u13_2 (k : Nat) (b_ : T17.T) (b_22 : List (T18).T) : Nat → List (T9).T → Int → Int → T17.T → List (T18).T → Option R_u13
  | 0, _, _, _, _, _ => none
  | j + 1, y0, y1, y2, y3, y4 =>
  bif (decide (y2 < y1)) then
  if (0 ≤ y2) ∧ (y2 < (↑y0.length : Int)) then
  none
  else none
  else
  if ((f_u15 k y3 y4).isSome = true) then
  some (((v_u15 k y3 y4).1, (v_u15 k y3 y4).2))
  else none
def f_u13 (k : Nat) (b_ : T17.T) (b_22 : List (T18).T) : Option R_u13 :=
  f_u13_2 k b_ b_22 k b_.2.2.2.2.2.2.2.2.2.2.2.2.2.2.2.1 ((↑ (List.length b_.2.2.2.2.2.2.2.2.2.2.2.2.2.2.2.1) : Int)) 0 b_ b_22
def v_u13 (k : Nat) (b_ : T17.T) (b_22 : List (T18).T) : R_u13 := (f_u13 k b_ b_22).getD ((T17).dflt, [])
def ke_u13 (k : Nat) : Ke := (48, fun xs => match xs with
  | [.ptr _ _ _] => some [true]
  | _ => none, fun xs bs => match xs, bs with
  | [.ptr 0 0 0], [.var 140 qb_, .row 54 tb_22_ qb_22] => (decS [] T17 (qb_.take 22)).bind fun b_ => (castL tb_22_ T18 qb_22).bind fun b_22 => some (.one (res_u13 (v_u13 k b_ b_22), bo_u13 b_ b_22 (v_u13 k b_ b_22)))
  | _, _ => none)
def cs_u13 : List (Nat × List Cmd) := [(2, [.autoB [0, 2, 15, 16, 17] false [1]]), (13, [.autoB [0, 2, 4, 5, 15, 16, 17, 66, 67, 68] false [1]]), (19, [.autoB [0, 2, 4, 5, 15, 16, 17, 89, 90, 91] false [1]])]
abbrev E_u13 (b_ : T17.T) (b_22 : List (T18).T) (todo : List Item) (st : St) (o : Option R_u13) : Prop := ∀ r, o = some r → Ev Tryz.prog Tryz.f48 2 todo st (res_u13 r) (bo_u13 b_ b_22 r)
theorem ev_u13 (k : Nat) (b_ : T17.T) (b_22 : List (T18).T) : ∀ j, (∀ (y0 : List (T9).T) (y1 : Int) (y2 : Int) (y3 : T17.T) (y4 : List (T18).T), E_u13 b_ b_22 (placeAt Tryz.f48 2) (st_u13_2 b_ b_22 y0 y1 y2 y3 y4) (f_u13_2 k b_ b_22 j y0 y1 y2 y3 y4))
  | 0 => fun _ _ _ _ _ _ h => (nomatch h)
  | j + 1 => by
    have ih := @ev_u13 k b_ b_22 j
    · intro y0 y1 y2 y3 y4 r h
      rw [f_u13_2] at h
      exact go (mkK [ke_u11 k, ke_u15 k]) [] cs_u13 [.autoB [] true [1]] (gT h (fun c h => gN2 h fun h => gZ h (.stuck 2002)) fun c h => gN1 h (fun q => cc_u15 q) fun h => gL h) (by kernel_rfl)
theorem of_u13 (k : Nat) (b_ : T17.T) (b_22 : List (T18).T) (r : R_u13) (h : f_u13 k b_ b_22 = some r) : C_u13 b_ b_22 r := by
  refine CC.of (fn := Tryz.f48) (by kernel_rfl) (by kernel_rfl) (by kernel_rfl) (by kernel_rfl) ?_
  unfold f_u13 at h
  exact go (mkK [ke_u11 k, ke_u15 k]) [] cs_u13 [.autoB [] true [1]] (gC h 2 ((ev_u13 k b_ b_22 k) _ _ _ _ _ _)) (by kernel_rfl)
theorem cc_u13 {k : Nat} {b_ : T17.T} {b_22 : List (T18).T} (h : (f_u13 k b_ b_22).isSome = true) : C_u13 b_ b_22 (v_u13 k b_ b_22) := ccG (Φ := C_u13 b_ b_22) h (of_u13 k b_ b_22)
abbrev R_u9 : Type := T17.T × List (T18).T
def res_u9 (r : R_u9) : AV := .tup []
def bo_u9 (b_ : T17.T) (b_22 : List (T18).T) (r : R_u9) : List (Nat × Blk) := [(0, .var 140 ((rvs (enc T17 r.1)) ++ [.own 1 1])), (1, .row 54 T18 r.2)]
def args_u9 (b_ : T17.T) (b_22 : List (T18).T) : List AV := [.ptr 0 0 0]
def bin_u9 (b_ : T17.T) (b_22 : List (T18).T) : List Blk := [.var 140 (rvs (enc T17 b_) ++ [.own 1 0]), .row 54 T18 b_22]
abbrev C_u9 (b_ : T17.T) (b_22 : List (T18).T) (r : R_u9) : Prop := CC Tryz.prog 57 (args_u9 b_ b_22) (bin_u9 b_ b_22) (res_u9 r) (bo_u9 b_ b_22 r)
def st_u9_3 (b_ : T17.T) (b_22 : List (T18).T) (y0 : List (T12).T) (y1 : Int) (y2 : Int) (y3 : T17.T) (y4 : List (T18).T) : St := ⟨mkS 74 [(0, .ptr 0 0 0), (37, .r (.ro T12 y0)), (38, .r (.v (.int .i64 y1))), (39, .r (.v (.int .i64 y2)))], [(0, 0, .var 140 ((rvs (enc T17 y3)) ++ [.own 1 1])), (1, 1, .row 54 T18 y4)]⟩
def f_u9_3 (k : Nat) (b_ : T17.T) (b_22 : List (T18).T) : Nat → List (T12).T → Int → Int → T17.T → List (T18).T → Option R_u9
  | 0, _, _, _, _, _ => none
  | j + 1, y0, y1, y2, y3, y4 =>
  bif (decide (y2 < y1)) then
  if (0 ≤ y2) ∧ (y2 < (↑y0.length : Int)) then
  none
  else none
  else
  some ((y3, y4))
def f_u9 (k : Nat) (b_ : T17.T) (b_22 : List (T18).T) : Option R_u9 :=
  bif ((↑ (List.length b_.2.2.2.2.2.2.2.2.2.2.2.2.2.2.2.2.2.2.1) : Int) != (↑ (List.length b_.2.2.2.2.2.2.2.2.2.2.2.2.2.2.2.2.2.2.2.1) : Int)) then
  if ((f_u11 k b_ b_22 8 (↑ (List.length b_.2.2.2.2.2.2.2.2.2.2.2.2.2.2.2.2.2.2.1) : Int) (↑ (List.length b_.2.2.2.2.2.2.2.2.2.2.2.2.2.2.2.2.2.2.2.1) : Int)).isSome = true) then
  some (((v_u11 k b_ b_22 8 (↑ (List.length b_.2.2.2.2.2.2.2.2.2.2.2.2.2.2.2.2.2.2.1) : Int) (↑ (List.length b_.2.2.2.2.2.2.2.2.2.2.2.2.2.2.2.2.2.2.2.1) : Int)).1, (v_u11 k b_ b_22 8 (↑ (List.length b_.2.2.2.2.2.2.2.2.2.2.2.2.2.2.2.2.2.2.1) : Int) (↑ (List.length b_.2.2.2.2.2.2.2.2.2.2.2.2.2.2.2.2.2.2.2.1) : Int)).2))
  else none
  else
  f_u9_3 k b_ b_22 k b_.2.2.2.2.2.2.2.2.2.2.2.2.2.2.2.2.2.2.1 ((↑ (List.length b_.2.2.2.2.2.2.2.2.2.2.2.2.2.2.2.2.2.2.1) : Int)) 0 b_ b_22
def v_u9 (k : Nat) (b_ : T17.T) (b_22 : List (T18).T) : R_u9 := (f_u9 k b_ b_22).getD ((T17).dflt, [])
def ke_u9 (k : Nat) : Ke := (57, fun xs => match xs with
  | [.ptr _ _ _] => some [true]
  | _ => none, fun xs bs => match xs, bs with
  | [.ptr 0 0 0], [.var 140 qb_, .row 54 tb_22_ qb_22] => (decS [] T17 (qb_.take 22)).bind fun b_ => (castL tb_22_ T18 qb_22).bind fun b_22 => some (.one (res_u9 (v_u9 k b_ b_22), bo_u9 b_ b_22 (v_u9 k b_ b_22)))
  | _, _ => none)
def cs_u9 : List (Nat × List Cmd) := [(3, [.autoB [0, 37, 38, 39] false [1]])]
abbrev E_u9 (b_ : T17.T) (b_22 : List (T18).T) (todo : List Item) (st : St) (o : Option R_u9) : Prop := ∀ r, o = some r → Ev Tryz.prog Tryz.f57 2 todo st (res_u9 r) (bo_u9 b_ b_22 r)
theorem ev_u9 (k : Nat) (b_ : T17.T) (b_22 : List (T18).T) : ∀ j, (∀ (y0 : List (T12).T) (y1 : Int) (y2 : Int) (y3 : T17.T) (y4 : List (T18).T), E_u9 b_ b_22 (placeAt Tryz.f57 3) (st_u9_3 b_ b_22 y0 y1 y2 y3 y4) (f_u9_3 k b_ b_22 j y0 y1 y2 y3 y4))
  | 0 => fun _ _ _ _ _ _ h => (nomatch h)
  | j + 1 => by
    have ih := @ev_u9 k b_ b_22 j
    · intro y0 y1 y2 y3 y4 r h
      rw [f_u9_3] at h
      exact go (mkK [ke_u11 k]) [] cs_u9 [.autoB [] true [1]] (gT h (fun c h => gN2 h fun h => gZ h (.stuck 2002)) fun c h => gL h) (by kernel_rfl)
theorem of_u9 (k : Nat) (b_ : T17.T) (b_22 : List (T18).T) (r : R_u9) (h : f_u9 k b_ b_22 = some r) : C_u9 b_ b_22 r := by
  refine CC.of (fn := Tryz.f57) (by kernel_rfl) (by kernel_rfl) (by kernel_rfl) (by kernel_rfl) ?_
  unfold f_u9 at h
  exact go (mkK [ke_u11 k]) [] cs_u9 [.autoB [] true [1]] (gT h (fun c h => gN1 h (fun q => cc_u11 q) fun h => gL h) fun c h => gC h 3 ((ev_u9 k b_ b_22 k) _ _ _ _ _ _)) (by kernel_rfl)
theorem cc_u9 {k : Nat} {b_ : T17.T} {b_22 : List (T18).T} (h : (f_u9 k b_ b_22).isSome = true) : C_u9 b_ b_22 (v_u9 k b_ b_22) := ccG (Φ := C_u9 b_ b_22) h (of_u9 k b_ b_22)
abbrev R_u23 : Type := Int
def res_u23 (r : R_u23) : AV := .r (.v (.int .i64 r))
def bo_u23 (l_ : List (T14).T) (capacity_ : Int) (r : R_u23) : List (Nat × Blk) := []
def args_u23 (l_ : List (T14).T) (capacity_ : Int) : List AV := [.r (.ro T14 l_), .r (.v (.int .i64 capacity_))]
def bin_u23 (l_ : List (T14).T) (capacity_ : Int) : List Blk := []
abbrev C_u23 (l_ : List (T14).T) (capacity_ : Int) (r : R_u23) : Prop := CC Tryz.prog 105 (args_u23 l_ capacity_) (bin_u23 l_ capacity_) (res_u23 r) (bo_u23 l_ capacity_ r)
def st_u23_6 (y0 : List (T14).T) (y1 : Int) (y2 : Int) (y3 : Int) : St := ⟨mkS 72 [(0, .r (.ro T14 y0)), (1, .r (.v (.int .i64 y1))), (20, .r (.v (.int .i64 y2))), (21, .r (.v (.int .i64 y3)))], []⟩
def st_u23_14 (y0 : List (T14).T) (y1 : Int) (y2 : Int) (y3 : Int) (y4 : Int) : St := ⟨mkS 72 [(0, .r (.ro T14 y0)), (1, .r (.v (.int .i64 y1))), (7, .r (.v (.int .i64 y2))), (34, .r (.v (.int .i64 y3))), (35, .r (.v (.int .i64 y4)))], []⟩
mutual
def f_u23_6 (k : Nat) : Nat → List (T14).T → Int → Int → Int → Option R_u23
  | 0, _, _, _, _ => none
  | j + 1, y0, y1, y2, y3 =>
  bif (decide (y3 < y2)) then
  none
  else
  f_u23_14 k j y0 y1 0 ((↑y0.length : Int)) 0
def f_u23_14 (k : Nat) : Nat → List (T14).T → Int → Int → Int → Int → Option R_u23
  | 0, _, _, _, _, _ => none
  | j + 1, y0, y1, y2, y3, y4 =>
  bif (decide (y4 < y3)) then
  if (0 ≤ y4) ∧ (y4 < (↑y0.length : Int)) then
  if (decide (y4 > (0 : Int)) = true → (0 : Int) ≤ IntKind.i64.wrap (y4 - (1 : Int))) ∧ (decide (y4 > (0 : Int)) = true → IntKind.i64.wrap (y4 - (1 : Int)) < (↑y0.length : Int)) then
  bif (decide (y4 > (0 : Int)) && decide ((y0.getD y4.toNat T14.dflt).1 < (y0.getD (IntKind.i64.wrap (y4 - (1 : Int))).toNat T14.dflt).1)) then
  some 9
  else
  bif ((y0.getD y4.toNat T14.dflt).2.1 == (6 : Int) && decide ((y0.getD y4.toNat T14.dflt).2.2.1 > y2)) then
  some 19
  else
  none
  else none
  else none
  else
  some 0
end
def f_u23 (k : Nat) (l_ : List (T14).T) (capacity_ : Int) : Option R_u23 :=
  bif (decide (capacity_ < (0 : Int)) || decide (capacity_ > (1099511627776 : Int))) then
  some 1
  else
  bif (decide ((↑l_.length : Int) > (512 : Int))) then
  some 8
  else
  f_u23_6 k k l_ capacity_ ((↑l_.length : Int)) 0
def v_u23 (k : Nat) (l_ : List (T14).T) (capacity_ : Int) : R_u23 := (f_u23 k l_ capacity_).getD 0
def ke_u23 (k : Nat) : Ke := (105, fun xs => match xs with
  | [_, _] => some [false, false]
  | _ => none, fun xs bs => match xs, bs with
  | [.r (.ro tl__ ql_), .r (.v (.int .i64 capacity_))], [] => (castL tl__ T14 ql_).bind fun l_ => some (.one (res_u23 (v_u23 k l_ capacity_), bo_u23 l_ capacity_ (v_u23 k l_ capacity_)))
  | _, _ => none)
def cs_u23 : List (Nat × List Cmd) := [(6, [.autoB [0, 1, 20, 21] false []]), (14, [.autoB [0, 1, 7, 34, 35] false []])]
abbrev E_u23 (l_ : List (T14).T) (capacity_ : Int) (todo : List Item) (st : St) (o : Option R_u23) : Prop := ∀ r, o = some r → Ev Tryz.prog Tryz.f105 0 todo st (res_u23 r) (bo_u23 l_ capacity_ r)
theorem ev_u23 (k : Nat) (l_ : List (T14).T) (capacity_ : Int) : ∀ j, (∀ (y0 : List (T14).T) (y1 : Int) (y2 : Int) (y3 : Int), E_u23 l_ capacity_ (placeAt Tryz.f105 6) (st_u23_6 y0 y1 y2 y3) (f_u23_6 k j y0 y1 y2 y3)) ∧ (∀ (y0 : List (T14).T) (y1 : Int) (y2 : Int) (y3 : Int) (y4 : Int), E_u23 l_ capacity_ (placeAt Tryz.f105 14) (st_u23_14 y0 y1 y2 y3 y4) (f_u23_14 k j y0 y1 y2 y3 y4))
  | 0 => ⟨fun _ _ _ _ _ h => (nomatch h), fun _ _ _ _ _ _ h => (nomatch h)⟩
  | j + 1 => by
    have ih := @ev_u23 k l_ capacity_ j
    refine ⟨?_, ?_⟩
    · intro y0 y1 y2 y3 r h
      rw [f_u23_6] at h
      exact go (mkK []) [] cs_u23 [.autoB [4] true []] (gT h (fun c h => gZ h (.stuck 2004)) fun c h => gC h 14 (ih.2 _ _ _ _ _ _)) (by kernel_rfl)
    · intro y0 y1 y2 y3 y4 r h
      rw [f_u23_14] at h
      exact go (mkK []) [] cs_u23 [.autoB [4] true []] (gT h (fun c h => gN2 h fun h => gN2 h fun h => gT h (fun c h => gL h) fun c h => gT h (fun c h => gL h) fun c h => gZ h (.stuck 2002)) fun c h => gL h) (by kernel_rfl)
theorem of_u23 (k : Nat) (l_ : List (T14).T) (capacity_ : Int) (r : R_u23) (h : f_u23 k l_ capacity_ = some r) : C_u23 l_ capacity_ r := by
  refine CC.of (fn := Tryz.f105) (by kernel_rfl) (by kernel_rfl) (by kernel_rfl) (by kernel_rfl) ?_
  unfold f_u23 at h
  exact go (mkK []) [] cs_u23 [.autoB [4] true []] (gT h (fun c h => gL h) fun c h => gT h (fun c h => gL h) fun c h => gC h 6 ((ev_u23 k l_ capacity_ k).1 _ _ _ _ _)) (by kernel_rfl)
theorem cc_u23 {k : Nat} {l_ : List (T14).T} {capacity_ : Int} (h : (f_u23 k l_ capacity_).isSome = true) : C_u23 l_ capacity_ (v_u23 k l_ capacity_) := ccG (Φ := C_u23 l_ capacity_) h (of_u23 k l_ capacity_)
abbrev R_u12 : Type := T17.T × List (T18).T
def res_u12 (r : R_u12) : AV := .tup []
def bo_u12 (b_ : T17.T) (b_22 : List (T18).T) (r : R_u12) : List (Nat × Blk) := [(0, .var 140 ((rvs (enc T17 r.1)) ++ [.own 1 1])), (1, .row 54 T18 r.2)]
def args_u12 (b_ : T17.T) (b_22 : List (T18).T) : List AV := [.ptr 0 0 0]
def bin_u12 (b_ : T17.T) (b_22 : List (T18).T) : List Blk := [.var 140 (rvs (enc T17 b_) ++ [.own 1 0]), .row 54 T18 b_22]
abbrev C_u12 (b_ : T17.T) (b_22 : List (T18).T) (r : R_u12) : Prop := CC Tryz.prog 60 (args_u12 b_ b_22) (bin_u12 b_ b_22) (res_u12 r) (bo_u12 b_ b_22 r)
def st_u12_6 (b_ : T17.T) (b_22 : List (T18).T) (y0 : Int) (y1 : List (T16).T) (y2 : Int) (y3 : Int) (y4 : T17.T) (y5 : List (T18).T) (y6 : List ((I).T × (RTy.bool).T)) : St := ⟨mkS 120 [(0, .ptr 0 0 0), (3, .r (.v (.int .i64 y0))), (4, .own 1000000 0), (32, .r (.ro T16 y1)), (33, .r (.v (.int .i64 y2))), (34, .r (.v (.int .i64 y3)))], [(0, 0, .var 140 ((rvs (enc T17 y4)) ++ [.own 1 1])), (1, 1, .row 54 T18 y5), (1000000, 0, .map false I RTy.bool y6)]⟩
def st_u12_22 (b_ : T17.T) (b_22 : List (T18).T) (y0 : Int) (y1 : List (T11).T) (y2 : Int) (y3 : Int) (y4 : T17.T) (y5 : List (T18).T) : St := ⟨mkS 120 [(0, .ptr 0 0 0), (3, .r (.v (.int .i64 y0))), (78, .r (.ro T11 y1)), (79, .r (.v (.int .i64 y2))), (80, .r (.v (.int .i64 y3)))], [(0, 0, .var 140 ((rvs (enc T17 y4)) ++ [.own 1 1])), (1, 1, .row 54 T18 y5)]⟩
def st_u12_25 (b_ : T17.T) (b_22 : List (T18).T) (y0 : Int) (y1 : List (T11).T) (y2 : Int) (y3 : Int) (y4 : List (I).T) (y5 : Int) (y6 : Int) (y7 : T17.T) (y8 : List (T18).T) : St := ⟨mkS 120 [(0, .ptr 0 0 0), (3, .r (.v (.int .i64 y0))), (78, .r (.ro T11 y1)), (79, .r (.v (.int .i64 y2))), (80, .r (.v (.int .i64 y3))), (85, .r (.ro I y4)), (86, .r (.v (.int .i64 y5))), (87, .r (.v (.int .i64 y6)))], [(0, 0, .var 140 ((rvs (enc T17 y7)) ++ [.own 1 1])), (1, 1, .row 54 T18 y8)]⟩
def st_u12_31 (b_ : T17.T) (b_22 : List (T18).T) (y0 : Int) (y1 : List (T13).T) (y2 : Int) (y3 : Int) (y4 : T17.T) (y5 : List (T18).T) : St := ⟨mkS 120 [(0, .ptr 0 0 0), (3, .r (.v (.int .i64 y0))), (102, .r (.ro T13 y1)), (103, .r (.v (.int .i64 y2))), (104, .r (.v (.int .i64 y3)))], [(0, 0, .var 140 ((rvs (enc T17 y4)) ++ [.own 1 1])), (1, 1, .row 54 T18 y5)]⟩
mutual
def f_u12_6 (k : Nat) (b_ : T17.T) (b_22 : List (T18).T) : Nat → Int → List (T16).T → Int → Int → T17.T → List (T18).T → (List ((I).T × (RTy.bool).T)) → Option R_u12
  | 0, _, _, _, _, _, _, _ => none
  | j + 1, y0, y1, y2, y3, y4, y5, y6 =>
  bif (decide (y3 < y2)) then
  if (0 ≤ y3) ∧ (y3 < (↑y1.length : Int)) then
  none
  else none
  else
  f_u12_22 k b_ b_22 j y0 y4.2.2.2.2.2.2.2.2.2.2.2.2.2.2.2.2.2.1 ((↑ (List.length y4.2.2.2.2.2.2.2.2.2.2.2.2.2.2.2.2.2.1) : Int)) 0 y4 y5
def f_u12_22 (k : Nat) (b_ : T17.T) (b_22 : List (T18).T) : Nat → Int → List (T11).T → Int → Int → T17.T → List (T18).T → Option R_u12
  | 0, _, _, _, _, _, _ => none
  | j + 1, y0, y1, y2, y3, y4, y5 =>
  bif (decide (y3 < y2)) then
  if (0 ≤ y3) ∧ (y3 < (↑y1.length : Int)) then
  f_u12_25 k b_ b_22 j y0 y1 y2 y3 ((y1.getD y3.toNat T11.dflt).2.2) ((↑ (List.length (y1.getD y3.toNat T11.dflt).2.2) : Int)) 0 y4 y5
  else none
  else
  f_u12_31 k b_ b_22 j y0 y4.2.2.2.2.2.2.2.2.2.2.2.2.2.2.2.2.2.2.2.1 ((↑ (List.length y4.2.2.2.2.2.2.2.2.2.2.2.2.2.2.2.2.2.2.2.1) : Int)) 0 y4 y5
def f_u12_25 (k : Nat) (b_ : T17.T) (b_22 : List (T18).T) : Nat → Int → List (T11).T → Int → Int → List (I).T → Int → Int → T17.T → List (T18).T → Option R_u12
  | 0, _, _, _, _, _, _, _, _, _ => none
  | j + 1, y0, y1, y2, y3, y4, y5, y6, y7, y8 =>
  bif (decide (y6 < y5)) then
  if (0 ≤ y6) ∧ (y6 < (↑y4.length : Int)) then
  none
  else none
  else
  f_u12_22 k b_ b_22 j y0 y1 y2 ((IntKind.i64.wrap (y3 + 1))) y7 y8
def f_u12_31 (k : Nat) (b_ : T17.T) (b_22 : List (T18).T) : Nat → Int → List (T13).T → Int → Int → T17.T → List (T18).T → Option R_u12
  | 0, _, _, _, _, _, _ => none
  | j + 1, y0, y1, y2, y3, y4, y5 =>
  bif (decide (y3 < y2)) then
  if (0 ≤ y3) ∧ (y3 < (↑y1.length : Int)) then
  f_u12_31 k b_ b_22 j ((IntKind.i64.wrap (y0 + if (if 1000000000000 < (y1.getD y3.toNat T13.dflt).2.2.2 then 1000000000000 else (y1.getD y3.toNat T13.dflt).2.2.2) > 0 then if 1000000000000 < (y1.getD y3.toNat T13.dflt).2.2.2 then 1000000000000 else (y1.getD y3.toNat T13.dflt).2.2.2 else 0))) y1 y2 ((IntKind.i64.wrap (y3 + 1))) y4 y5
  else none
  else
  bif (y0 != (0 : Int)) then
  if ((f_u11 k y4 y5 11 0 y0).isSome = true) then
  some (((v_u11 k y4 y5 11 0 y0).1, (v_u11 k y4 y5 11 0 y0).2))
  else none
  else
  some ((y4, y5))
end
def f_u12 (k : Nat) (b_ : T17.T) (b_22 : List (T18).T) : Option R_u12 :=
  if ((f_u23 k b_.2.2.2.2.2.2.2.2.2.2.2.2.2.2.2.2.2.2.2.2.1 1099511627776).isSome = true) then
  bif (v_u23 k b_.2.2.2.2.2.2.2.2.2.2.2.2.2.2.2.2.2.2.2.2.1 (1099511627776 : Int) != (0 : Int)) then
  if ((f_u11 k b_ b_22 10 (v_u23 k b_.2.2.2.2.2.2.2.2.2.2.2.2.2.2.2.2.2.2.2.2.1 1099511627776) 0).isSome = true) then
  f_u12_6 k b_ b_22 k 0 ((v_u11 k b_ b_22 10 (v_u23 k b_.2.2.2.2.2.2.2.2.2.2.2.2.2.2.2.2.2.2.2.2.1 1099511627776) 0).1.2.2.2.2.2.2.2.2.2.2.2.2.2.2.2.2.2.2.2.2.2) ((↑ (List.length (v_u11 k b_ b_22 10 (v_u23 k b_.2.2.2.2.2.2.2.2.2.2.2.2.2.2.2.2.2.2.2.2.1 1099511627776) 0).1.2.2.2.2.2.2.2.2.2.2.2.2.2.2.2.2.2.2.2.2.2) : Int)) 0 ((v_u11 k b_ b_22 10 (v_u23 k b_.2.2.2.2.2.2.2.2.2.2.2.2.2.2.2.2.2.2.2.2.1 1099511627776) 0).1) ((v_u11 k b_ b_22 10 (v_u23 k b_.2.2.2.2.2.2.2.2.2.2.2.2.2.2.2.2.2.2.2.2.1 1099511627776) 0).2) ([])
  else none
  else
  f_u12_6 k b_ b_22 k 0 b_.2.2.2.2.2.2.2.2.2.2.2.2.2.2.2.2.2.2.2.2.2 ((↑ (List.length b_.2.2.2.2.2.2.2.2.2.2.2.2.2.2.2.2.2.2.2.2.2) : Int)) 0 b_ b_22 ([])
  else none
def v_u12 (k : Nat) (b_ : T17.T) (b_22 : List (T18).T) : R_u12 := (f_u12 k b_ b_22).getD ((T17).dflt, [])
def ke_u12 (k : Nat) : Ke := (60, fun xs => match xs with
  | [.ptr _ _ _] => some [true]
  | _ => none, fun xs bs => match xs, bs with
  | [.ptr 0 0 0], [.var 140 qb_, .row 54 tb_22_ qb_22] => (decS [] T17 (qb_.take 22)).bind fun b_ => (castL tb_22_ T18 qb_22).bind fun b_22 => some (.one (res_u12 (v_u12 k b_ b_22), bo_u12 b_ b_22 (v_u12 k b_ b_22)))
  | _, _ => none)
def cs_u12 : List (Nat × List Cmd) := [(6, [.autoB [0, 3, 4, 32, 33, 34] false [1]]), (14, [.autoB [0, 3, 4, 6, 32, 33, 34, 56, 57, 58] false [1]]), (22, [.autoB [0, 3, 78, 79, 80] false [1]]), (25, [.autoB [0, 3, 78, 79, 80, 85, 86, 87] false [1]]), (31, [.autoB [0, 3, 102, 103, 104] false [1]])]
abbrev E_u12 (b_ : T17.T) (b_22 : List (T18).T) (todo : List Item) (st : St) (o : Option R_u12) : Prop := ∀ r, o = some r → Ev Tryz.prog Tryz.f60 2 todo st (res_u12 r) (bo_u12 b_ b_22 r)
theorem ev_u12 (k : Nat) (b_ : T17.T) (b_22 : List (T18).T) : ∀ j, (∀ (y0 : Int) (y1 : List (T16).T) (y2 : Int) (y3 : Int) (y4 : T17.T) (y5 : List (T18).T) (y6 : List ((I).T × (RTy.bool).T)), E_u12 b_ b_22 (placeAt Tryz.f60 6) (st_u12_6 b_ b_22 y0 y1 y2 y3 y4 y5 y6) (f_u12_6 k b_ b_22 j y0 y1 y2 y3 y4 y5 y6)) ∧ (∀ (y0 : Int) (y1 : List (T11).T) (y2 : Int) (y3 : Int) (y4 : T17.T) (y5 : List (T18).T), E_u12 b_ b_22 (placeAt Tryz.f60 22) (st_u12_22 b_ b_22 y0 y1 y2 y3 y4 y5) (f_u12_22 k b_ b_22 j y0 y1 y2 y3 y4 y5)) ∧ (∀ (y0 : Int) (y1 : List (T11).T) (y2 : Int) (y3 : Int) (y4 : List (I).T) (y5 : Int) (y6 : Int) (y7 : T17.T) (y8 : List (T18).T), E_u12 b_ b_22 (placeAt Tryz.f60 25) (st_u12_25 b_ b_22 y0 y1 y2 y3 y4 y5 y6 y7 y8) (f_u12_25 k b_ b_22 j y0 y1 y2 y3 y4 y5 y6 y7 y8)) ∧ (∀ (y0 : Int) (y1 : List (T13).T) (y2 : Int) (y3 : Int) (y4 : T17.T) (y5 : List (T18).T), E_u12 b_ b_22 (placeAt Tryz.f60 31) (st_u12_31 b_ b_22 y0 y1 y2 y3 y4 y5) (f_u12_31 k b_ b_22 j y0 y1 y2 y3 y4 y5))
  | 0 => ⟨fun _ _ _ _ _ _ _ _ h => (nomatch h), fun _ _ _ _ _ _ _ h => (nomatch h), fun _ _ _ _ _ _ _ _ _ _ h => (nomatch h), fun _ _ _ _ _ _ _ h => (nomatch h)⟩
  | j + 1 => by
    have ih := @ev_u12 k b_ b_22 j
    refine ⟨?_, ?_, ?_, ?_⟩
    · intro y0 y1 y2 y3 y4 y5 y6 r h
      rw [f_u12_6] at h
      exact go (mkK [ke_u11 k, ke_u23 k]) [] cs_u12 [.autoB [] true [1]] (gT h (fun c h => gN2 h fun h => gZ h (.stuck 2001)) fun c h => gC h 22 (ih.2.1 _ _ _ _ _ _ _)) (by kernel_rfl)
    · intro y0 y1 y2 y3 y4 y5 r h
      rw [f_u12_22] at h
      exact go (mkK [ke_u11 k, ke_u23 k]) [] cs_u12 [.autoB [] true [1]] (gT h (fun c h => gN2 h fun h => gC h 25 (ih.2.2.1 _ _ _ _ _ _ _ _ _ _)) fun c h => gC h 31 (ih.2.2.2 _ _ _ _ _ _ _)) (by kernel_rfl)
    · intro y0 y1 y2 y3 y4 y5 y6 y7 y8 r h
      rw [f_u12_25] at h
      exact go (mkK [ke_u11 k, ke_u23 k]) [] cs_u12 [.autoB [] true [1]] (gT h (fun c h => gN2 h fun h => gZ h (.stuck 2003)) fun c h => gC h 22 (ih.2.1 _ _ _ _ _ _ _)) (by kernel_rfl)
    · intro y0 y1 y2 y3 y4 y5 r h
      rw [f_u12_31] at h
      exact go (mkK [ke_u11 k, ke_u23 k]) [] cs_u12 [.autoB [] true [1]] (gT h (fun c h => gN2 h fun h => gC h 31 (ih.2.2.2 _ _ _ _ _ _ _)) fun c h => gT h (fun c h => gN1 h (fun q => cc_u11 q) fun h => gL h) fun c h => gL h) (by kernel_rfl)
theorem of_u12 (k : Nat) (b_ : T17.T) (b_22 : List (T18).T) (r : R_u12) (h : f_u12 k b_ b_22 = some r) : C_u12 b_ b_22 r := by
  refine CC.of (fn := Tryz.f60) (by kernel_rfl) (by kernel_rfl) (by kernel_rfl) (by kernel_rfl) ?_
  unfold f_u12 at h
  exact go (mkK [ke_u11 k, ke_u23 k]) [] cs_u12 [.autoB [] true [1]] (gN1 h (fun q => cc_u23 q) fun h => gT h (fun c h => gN1 h (fun q => cc_u11 q) fun h => gC h 6 ((ev_u12 k b_ b_22 k).1 _ _ _ _ _ _ _ _)) fun c h => gC h 6 ((ev_u12 k b_ b_22 k).1 _ _ _ _ _ _ _ _)) (by kernel_rfl)
theorem cc_u12 {k : Nat} {b_ : T17.T} {b_22 : List (T18).T} (h : (f_u12 k b_ b_22).isSome = true) : C_u12 b_ b_22 (v_u12 k b_ b_22) := ccG (Φ := C_u12 b_ b_22) h (of_u12 k b_ b_22)
abbrev R_u2 : Type := T17.T
def res_u2 (r : R_u2) : AV := .sub 2 0 1 0 5
def bo_u2 (x_ : T17.T) (x_22 : List (T18).T) (r : R_u2) : List (Nat × Blk) := [(0, .var 140 ((rvs (enc T17 r)) ++ [.own 1 0])), (0, .row 54 T18 x_22), (0, .var 1 [.fn ((Fn.func 37)) [.ptr 0 0 0] [], .fn ((Fn.func 35)) [.ptr 0 0 0] [], .fn ((Fn.func 48)) [.ptr 0 0 0] [], .fn ((Fn.func 57)) [.ptr 0 0 0] [], .fn ((Fn.func 60)) [.ptr 0 0 0] []])]
def args_u2 (x_ : T17.T) (x_22 : List (T18).T) : List AV := [.ptr 0 0 0]
def bin_u2 (x_ : T17.T) (x_22 : List (T18).T) : List Blk := [.var 140 (rvs (enc T17 x_) ++ [.own 1 0]), .row 54 T18 x_22]
abbrev C_u2 (x_ : T17.T) (x_22 : List (T18).T) (r : R_u2) : Prop := CC Tryz.prog 66 (args_u2 x_ x_22) (bin_u2 x_ x_22) (res_u2 r) (bo_u2 x_ x_22 r)
def f_u2 (k : Nat) (x_ : T17.T) (x_22 : List (T18).T) : Option R_u2 :=
  some x_
def v_u2 (k : Nat) (x_ : T17.T) (x_22 : List (T18).T) : R_u2 := (f_u2 k x_ x_22).getD (T17).dflt
def ke_u2 (k : Nat) : Ke := (66, fun xs => match xs with
  | [.ptr _ _ _] => some [true]
  | _ => none, fun xs bs => match xs, bs with
  | [.ptr 0 0 0], [.var 140 qx_, .row 54 tx_22_ qx_22] => (decS [] T17 (qx_.take 22)).bind fun x_ => (castL tx_22_ T18 qx_22).bind fun x_22 => some (.one (res_u2 (v_u2 k x_ x_22), bo_u2 x_ x_22 (v_u2 k x_ x_22)))
  | _, _ => none)
theorem of_u2 (k : Nat) (x_ : T17.T) (x_22 : List (T18).T) (r : R_u2) (h : f_u2 k x_ x_22 = some r) : C_u2 x_ x_22 r := by
  refine CC.of (fn := Tryz.f66) (by kernel_rfl) (by kernel_rfl) (by kernel_rfl) (by kernel_rfl) ?_
  unfold f_u2 at h
  exact go (mkK [ke_u14 k, ke_u16 k, ke_u13 k, ke_u9 k, ke_u12 k]) [] [] [.autoB [2] true []] (gL h) (by kernel_rfl)
theorem cc_u2 {k : Nat} {x_ : T17.T} {x_22 : List (T18).T} (h : (f_u2 k x_ x_22).isSome = true) : C_u2 x_ x_22 (v_u2 k x_ x_22) := ccG (Φ := C_u2 x_ x_22) h (of_u2 k x_ x_22)
abbrev R_u20 : Type := List (T18).T × Int
def res_u20 (r : R_u20) : AV := .tup [.r (.ro T18 r.1), .r (.v (.int .i64 r.2))]
def bo_u20 (b_ : T17.T) (r : R_u20) : List (Nat × Blk) := []
def args_u20 (b_ : T17.T) : List AV := [.agg (rvs (enc T17 b_)), .r (.v (.func (.func 66) #[] #[]))]
def bin_u20 (b_ : T17.T) : List Blk := []
abbrev C_u20 (b_ : T17.T) (r : R_u20) : Prop := CC Tryz.prog 33 (args_u20 b_) (bin_u20 b_) (res_u20 r) (bo_u20 b_ r)
def st_u20_10005 (y0 : T17.T) (y1 : List (T18).T) : St := ⟨mkS 29 [(6, .ptr 1000000 0 0), (16, .sub 1000002 0 1 0 5), (17, .r (.v (.int .i64 5))), (18, .r (.v (.int .i64 0)))], [(1000000, 0, .var 140 ((rvs (enc T17 y0)) ++ [.own 1000001 0])), (1000001, 0, .row 54 T18 y1), (1000002, 0, .var 1 [.fn ((Fn.func 37)) [.ptr 1000000 0 0] [], .fn ((Fn.func 35)) [.ptr 1000000 0 0] [], .fn ((Fn.func 48)) [.ptr 1000000 0 0] [], .fn ((Fn.func 57)) [.ptr 1000000 0 0] [], .fn ((Fn.func 60)) [.ptr 1000000 0 0] []])]⟩
def st_u20_20005 (y0 : T17.T) (y1 : List (T18).T) : St := ⟨mkS 29 [(6, .ptr 1000000 0 0), (16, .sub 1000002 0 1 0 5), (17, .r (.v (.int .i64 5))), (18, .r (.v (.int .i64 1)))], [(1000000, 0, .var 140 ((rvs (enc T17 y0)) ++ [.own 1000001 0])), (1000001, 0, .row 54 T18 y1), (1000002, 0, .var 1 [.fn ((Fn.func 37)) [.ptr 1000000 0 0] [], .fn ((Fn.func 35)) [.ptr 1000000 0 0] [], .fn ((Fn.func 48)) [.ptr 1000000 0 0] [], .fn ((Fn.func 57)) [.ptr 1000000 0 0] [], .fn ((Fn.func 60)) [.ptr 1000000 0 0] []])]⟩
def st_u20_30005 (y0 : T17.T) (y1 : List (T18).T) : St := ⟨mkS 29 [(6, .ptr 1000000 0 0), (16, .sub 1000002 0 1 0 5), (17, .r (.v (.int .i64 5))), (18, .r (.v (.int .i64 2)))], [(1000000, 0, .var 140 ((rvs (enc T17 y0)) ++ [.own 1000001 0])), (1000001, 0, .row 54 T18 y1), (1000002, 0, .var 1 [.fn ((Fn.func 37)) [.ptr 1000000 0 0] [], .fn ((Fn.func 35)) [.ptr 1000000 0 0] [], .fn ((Fn.func 48)) [.ptr 1000000 0 0] [], .fn ((Fn.func 57)) [.ptr 1000000 0 0] [], .fn ((Fn.func 60)) [.ptr 1000000 0 0] []])]⟩
def st_u20_40005 (y0 : T17.T) (y1 : List (T18).T) : St := ⟨mkS 29 [(6, .ptr 1000000 0 0), (16, .sub 1000002 0 1 0 5), (17, .r (.v (.int .i64 5))), (18, .r (.v (.int .i64 3)))], [(1000000, 0, .var 140 ((rvs (enc T17 y0)) ++ [.own 1000001 0])), (1000001, 0, .row 54 T18 y1), (1000002, 0, .var 1 [.fn ((Fn.func 37)) [.ptr 1000000 0 0] [], .fn ((Fn.func 35)) [.ptr 1000000 0 0] [], .fn ((Fn.func 48)) [.ptr 1000000 0 0] [], .fn ((Fn.func 57)) [.ptr 1000000 0 0] [], .fn ((Fn.func 60)) [.ptr 1000000 0 0] []])]⟩
def st_u20_50005 (y0 : T17.T) (y1 : List (T18).T) : St := ⟨mkS 29 [(6, .ptr 1000000 0 0), (16, .sub 1000002 0 1 0 5), (17, .r (.v (.int .i64 5))), (18, .r (.v (.int .i64 4)))], [(1000000, 0, .var 140 ((rvs (enc T17 y0)) ++ [.own 1000001 0])), (1000001, 0, .row 54 T18 y1), (1000002, 0, .var 1 [.fn ((Fn.func 37)) [.ptr 1000000 0 0] [], .fn ((Fn.func 35)) [.ptr 1000000 0 0] [], .fn ((Fn.func 48)) [.ptr 1000000 0 0] [], .fn ((Fn.func 57)) [.ptr 1000000 0 0] [], .fn ((Fn.func 60)) [.ptr 1000000 0 0] []])]⟩
def st_u20_60005 (y0 : T17.T) (y1 : List (T18).T) : St := ⟨mkS 29 [(6, .ptr 1000000 0 0), (16, .sub 1000002 0 1 0 5), (17, .r (.v (.int .i64 5))), (18, .r (.v (.int .i64 5)))], [(1000000, 0, .var 140 ((rvs (enc T17 y0)) ++ [.own 1000001 0])), (1000001, 0, .row 54 T18 y1), (1000002, 0, .var 1 [.fn ((Fn.func 37)) [.ptr 1000000 0 0] [], .fn ((Fn.func 35)) [.ptr 1000000 0 0] [], .fn ((Fn.func 48)) [.ptr 1000000 0 0] [], .fn ((Fn.func 57)) [.ptr 1000000 0 0] [], .fn ((Fn.func 60)) [.ptr 1000000 0 0] []])]⟩
mutual
def f_u20_10005 (k : Nat) : Nat → T17.T → List (T18).T → Option R_u20
  | 0, _, _ => none
  | j + 1, y0, y1 =>
  if ((0 : Int) ≤ (0 : Int)) ∧ ((0 : Int) < (↑ (5 : Nat) : Int)) then
  if ((f_u16 k y0 y1).isSome = true) then
  f_u20_20005 k j ((v_u16 k y0 y1).1) ((v_u16 k y0 y1).2)
  else none
  else none
def f_u20_20005 (k : Nat) : Nat → T17.T → List (T18).T → Option R_u20
  | 0, _, _ => none
  | j + 1, y0, y1 =>
  if ((0 : Int) ≤ (1 : Int)) ∧ ((1 : Int) < (↑ (5 : Nat) : Int)) then
  if ((f_u14 k y0 y1).isSome = true) then
  f_u20_30005 k j ((v_u14 k y0 y1).1) ((v_u14 k y0 y1).2)
  else none
  else none
def f_u20_30005 (k : Nat) : Nat → T17.T → List (T18).T → Option R_u20
  | 0, _, _ => none
  | j + 1, y0, y1 =>
  if ((0 : Int) ≤ (2 : Int)) ∧ ((2 : Int) < (↑ (5 : Nat) : Int)) then
  if ((f_u13 k y0 y1).isSome = true) then
  f_u20_40005 k j ((v_u13 k y0 y1).1) ((v_u13 k y0 y1).2)
  else none
  else none
def f_u20_40005 (k : Nat) : Nat → T17.T → List (T18).T → Option R_u20
  | 0, _, _ => none
  | j + 1, y0, y1 =>
  if ((0 : Int) ≤ (3 : Int)) ∧ ((3 : Int) < (↑ (5 : Nat) : Int)) then
  if ((f_u9 k y0 y1).isSome = true) then
  f_u20_50005 k j ((v_u9 k y0 y1).1) ((v_u9 k y0 y1).2)
  else none
  else none
def f_u20_50005 (k : Nat) : Nat → T17.T → List (T18).T → Option R_u20
  | 0, _, _ => none
  | j + 1, y0, y1 =>
  if ((0 : Int) ≤ (4 : Int)) ∧ ((4 : Int) < (↑ (5 : Nat) : Int)) then
  if ((f_u12 k y0 y1).isSome = true) then
  f_u20_60005 k j ((v_u12 k y0 y1).1) ((v_u12 k y0 y1).2)
  else none
  else none
def f_u20_60005 (k : Nat) : Nat → T17.T → List (T18).T → Option R_u20
  | 0, _, _ => none
  | j + 1, y0, y1 =>
  some ((y1, 0))
end
def f_u20 (k : Nat) (b_ : T17.T) : Option R_u20 :=
  if ((f_u17 k b_).isSome = true) then
  bif (v_u17 k b_) then
  some (([], 8))
  else
  if ((f_u2 k b_ []).isSome = true) then
  f_u20_10005 k k ((v_u2 k b_ [])) ([])
  else none
  else none
def v_u20 (k : Nat) (b_ : T17.T) : R_u20 := (f_u20 k b_).getD ([], 0)
def ke_u20 (k : Nat) : Ke := (33, fun xs => match xs with
  | [_, .r (.v (.func (.func 66) _ _))] => some [false, false]
  | _ => none, fun xs bs => match xs, bs with
  | [.agg qb_, .r (.v (.func (.func 66) _ _))], [] => (decS [] T17 qb_).bind fun b_ => some (.one (res_u20 (v_u20 k b_), bo_u20 b_ (v_u20 k b_)))
  | _, _ => none)
def K_u20 (k : Nat) : Calld := mkK [ke_u17 k, ke_u14 k, ke_u16 k, ke_u13 k, ke_u9 k, ke_u12 k, ke_u2 k]
def cs_u20 : List (Nat × List Cmd) := [(5, [.key 18, .autoB [6, 16, 17, 18] false []])]
abbrev E_u20 (b_ : T17.T) (todo : List Item) (st : St) (o : Option R_u20) : Prop := ∀ r, o = some r → Ev Tryz.prog Tryz.f33 0 todo st (res_u20 r) (bo_u20 b_ r)
theorem ev_u20 (k : Nat) (b_ : T17.T) : ∀ j, (∀ (y0 : T17.T) (y1 : List (T18).T), E_u20 b_ (placeAt Tryz.f33 5) (st_u20_10005 y0 y1) (f_u20_10005 k j y0 y1)) ∧ (∀ (y0 : T17.T) (y1 : List (T18).T), E_u20 b_ (placeAt Tryz.f33 5) (st_u20_20005 y0 y1) (f_u20_20005 k j y0 y1)) ∧ (∀ (y0 : T17.T) (y1 : List (T18).T), E_u20 b_ (placeAt Tryz.f33 5) (st_u20_30005 y0 y1) (f_u20_30005 k j y0 y1)) ∧ (∀ (y0 : T17.T) (y1 : List (T18).T), E_u20 b_ (placeAt Tryz.f33 5) (st_u20_40005 y0 y1) (f_u20_40005 k j y0 y1)) ∧ (∀ (y0 : T17.T) (y1 : List (T18).T), E_u20 b_ (placeAt Tryz.f33 5) (st_u20_50005 y0 y1) (f_u20_50005 k j y0 y1)) ∧ (∀ (y0 : T17.T) (y1 : List (T18).T), E_u20 b_ (placeAt Tryz.f33 5) (st_u20_60005 y0 y1) (f_u20_60005 k j y0 y1))
  | 0 => ⟨fun _ _ _ h => (nomatch h), fun _ _ _ h => (nomatch h), fun _ _ _ h => (nomatch h), fun _ _ _ h => (nomatch h), fun _ _ _ h => (nomatch h), fun _ _ _ h => (nomatch h)⟩
  | j + 1 => by
    have ih := @ev_u20 k b_ j
    refine ⟨?_, ?_, ?_, ?_, ?_, ?_⟩
    · intro y0 y1 r h
      rw [f_u20_10005] at h
      exact go (K_u20 k) [] cs_u20 [.frz 4 false (RTy.list T18), .autoB [4, 5] true []] (gU1 h (.leaf (.tup [.r (.ro T18 y1), .r (.v (.int .i64 0))]) []) fun h => gN2 h fun h => gN1 h (fun q => cc_u16 q) fun h => gC h 20005 (ih.2.1 _ _ _)) (by kernel_rfl)
    · intro y0 y1 r h
      rw [f_u20_20005] at h
      exact go (K_u20 k) [] cs_u20 [.frz 4 false (RTy.list T18), .autoB [4, 5] true []] (gU1 h (.leaf (.tup [.r (.ro T18 y1), .r (.v (.int .i64 0))]) []) fun h => gN2 h fun h => gN1 h (fun q => cc_u14 q) fun h => gC h 30005 (ih.2.2.1 _ _ _)) (by kernel_rfl)
    · intro y0 y1 r h
      rw [f_u20_30005] at h
      exact go (K_u20 k) [] cs_u20 [.frz 4 false (RTy.list T18), .autoB [4, 5] true []] (gU1 h (.leaf (.tup [.r (.ro T18 y1), .r (.v (.int .i64 0))]) []) fun h => gN2 h fun h => gN1 h (fun q => cc_u13 q) fun h => gC h 40005 (ih.2.2.2.1 _ _ _)) (by kernel_rfl)
    · intro y0 y1 r h
      rw [f_u20_40005] at h
      exact go (K_u20 k) [] cs_u20 [.frz 4 false (RTy.list T18), .autoB [4, 5] true []] (gU1 h (.leaf (.tup [.r (.ro T18 y1), .r (.v (.int .i64 0))]) []) fun h => gN2 h fun h => gN1 h (fun q => cc_u9 q) fun h => gC h 50005 (ih.2.2.2.2.1 _ _ _)) (by kernel_rfl)
    · intro y0 y1 r h
      rw [f_u20_50005] at h
      exact go (K_u20 k) [] cs_u20 [.frz 4 false (RTy.list T18), .autoB [4, 5] true []] (gU1 h (.leaf (.tup [.r (.ro T18 y1), .r (.v (.int .i64 0))]) []) fun h => gN2 h fun h => gN1 h (fun q => cc_u12 q) fun h => gC h 60005 (ih.2.2.2.2.2 _ _ _)) (by kernel_rfl)
    · intro y0 y1 r h
      rw [f_u20_60005] at h
      exact go (K_u20 k) [] cs_u20 [.frz 4 false (RTy.list T18), .autoB [4, 5] true []] (gU2 h (.stuck 5001) fun h => gL h) (by kernel_rfl)
theorem of_u20 (k : Nat) (b_ : T17.T) (r : R_u20) (h : f_u20 k b_ = some r) : C_u20 b_ r := by
  refine CC.of (fn := Tryz.f33) (by kernel_rfl) (by kernel_rfl) (by kernel_rfl) (by kernel_rfl) ?_
  unfold f_u20 at h
  exact go (K_u20 k) [] cs_u20 [.frz 4 false (RTy.list T18), .autoB [4, 5] true []] (gN1 h (fun q => cc_u17 q) fun h => gT h (fun c h => gL h) fun c h => gN1 h (fun q => cc_u2 q) fun h => gC h 10005 ((ev_u20 k b_ k).1 _ _ _)) (by kernel_rfl)
theorem cc_u20 {k : Nat} {b_ : T17.T} (h : (f_u20 k b_).isSome = true) : C_u20 b_ (v_u20 k b_) := ccG (Φ := C_u20 b_) h (of_u20 k b_)
abbrev R_u1 : Type := List (T18).T × Int
def res_u1 (r : R_u1) : AV := .tup [.r (.ro T18 r.1), .r (.v (.int .i64 r.2))]
def bo_u1 (b_ : T17.T) (r : R_u1) : List (Nat × Blk) := []
def args_u1 (b_ : T17.T) : List AV := [.agg (rvs (enc T17 b_))]
def bin_u1 (b_ : T17.T) : List Blk := []
abbrev C_u1 (b_ : T17.T) (r : R_u1) : Prop := CC Tryz.prog 28 (args_u1 b_) (bin_u1 b_) (res_u1 r) (bo_u1 b_ r)
def f_u1 (k : Nat) (b_ : T17.T) : Option R_u1 :=
  if ((f_u20 k b_).isSome = true) then
  some (((v_u20 k b_).1, (v_u20 k b_).2))
  else none
def v_u1 (k : Nat) (b_ : T17.T) : R_u1 := (f_u1 k b_).getD ([], 0)
def ke_u1 (k : Nat) : Ke := (28, fun xs => match xs with
  | [_] => some [false]
  | _ => none, fun xs bs => match xs, bs with
  | [.agg qb_], [] => (decS [] T17 qb_).bind fun b_ => some (.one (res_u1 (v_u1 k b_), bo_u1 b_ (v_u1 k b_)))
  | _, _ => none)
theorem of_u1 (k : Nat) (b_ : T17.T) (r : R_u1) (h : f_u1 k b_ = some r) : C_u1 b_ r := by
  refine CC.of (fn := Tryz.f28) (by kernel_rfl) (by kernel_rfl) (by kernel_rfl) (by kernel_rfl) ?_
  unfold f_u1 at h
  exact go (mkK [ke_u2 k, ke_u20 k]) [] [] [.frz 2 false (RTy.list T18), .autoB [2, 3] true []] (gN1 h (fun q => cc_u20 q) fun h => gL h) (by kernel_rfl)
theorem cc_u1 {k : Nat} {b_ : T17.T} (h : (f_u1 k b_).isSome = true) : C_u1 b_ (v_u1 k b_) := ccG (Φ := C_u1 b_) h (of_u1 k b_)
abbrev R_u46 : Type := T17.T
def res_u46 (r : R_u46) : AV := .agg (rvs (enc T17 r))
def bo_u46 (used_ : Int) (r : R_u46) : List (Nat × Blk) := []
def args_u46 (used_ : Int) : List AV := [.r (.v (.int .i64 used_))]
def bin_u46 (used_ : Int) : List Blk := []
abbrev C_u46 (used_ : Int) (r : R_u46) : Prop := CC Tryz.prog 32 (args_u46 used_) (bin_u46 used_) (res_u46 r) (bo_u46 used_ r)
def f_u46 (k : Nat) (used_ : Int) : Option R_u46 :=
  some ((0, (10, (100, (100, (10, (0, (0, ([], ([], ([(0, 100, 1, 0, 0)], ([], ([(1, 0, 0, 10, false, [(0, 100, false)])], ([used_], ([], ([], ([], ([], ([], ([], ([], ([], []))))))))))))))))))))))
def v_u46 (k : Nat) (used_ : Int) : R_u46 := (f_u46 k used_).getD (T17).dflt
def ke_u46 (k : Nat) : Ke := (32, fun xs => match xs with
  | [_] => some [false]
  | _ => none, fun xs bs => match xs, bs with
  | [.r (.v (.int .i64 used_))], [] => some (.one (res_u46 (v_u46 k used_), bo_u46 used_ (v_u46 k used_)))
  | _, _ => none)
theorem of_u46 (k : Nat) (used_ : Int) (r : R_u46) (h : f_u46 k used_ = some r) : C_u46 used_ r := by
  refine CC.of (fn := Tryz.f32) (by kernel_rfl) (by kernel_rfl) (by kernel_rfl) (by kernel_rfl) ?_
  unfold f_u46 at h
  exact go (mkK []) [] [] [.frz 2 true T17, .autoB [2] true []] (gL h) (by kernel_rfl)
theorem cc_u46 {k : Nat} {used_ : Int} (h : (f_u46 k used_).isSome = true) : C_u46 used_ (v_u46 k used_) := ccG (Φ := C_u46 used_) h (of_u46 k used_)
def bs_H62_u43_0 : ByteArray := ByteArray.mk #[114, 111, 108, 108, 32, 55, 58, 32, 101, 114, 114, 111, 114, 32, 49]
abbrev R_u43 : Type := Bool
def res_u43 (r : R_u43) : AV := .r (.v (.bool r))
def bo_u43  (r : R_u43) : List (Nat × Blk) := []
def args_u43  : List AV := []
def bin_u43  : List Blk := []
abbrev C_u43  (r : R_u43) : Prop := CC Tryz.prog 13 (args_u43 ) (bin_u43 ) (res_u43 r) (bo_u43  r)
def f_u43 (k : Nat)  : Option R_u43 :=
  if ((f_u46 k 0).isSome = true) ∧ ((f_u1 k (v_u46 k 0)).isSome = true) then
  if ((f_u46 k 30).isSome = true) ∧ ((f_u3 k (v_u46 k 30)).isSome = true) then
  if ((f_u46 k 0).isSome = true) then
  if ((f_u6 k ((v_u46 k 0).1, (v_u46 k 0).2.1, (v_u46 k 0).2.2.1, (v_u46 k 0).2.2.2.1, (v_u46 k 0).2.2.2.2.1, (v_u46 k 0).2.2.2.2.2.1, (v_u46 k 0).2.2.2.2.2.2.1, (v_u46 k 0).2.2.2.2.2.2.2.1, (v_u46 k 0).2.2.2.2.2.2.2.2.1, (v_u46 k 0).2.2.2.2.2.2.2.2.2.1, (v_u46 k 0).2.2.2.2.2.2.2.2.2.2.1, [], [], (v_u46 k 0).2.2.2.2.2.2.2.2.2.2.2.2.2)).isSome = true) then
  if ((f_u5 k (3, 7, 1)).isSome = true) then
  bif ((v_u1 k (v_u46 k (0 : Int))).2 != (0 : Int) || (v_u3 k (v_u46 k (30 : Int))).2 != (0 : Int) || (v_u6 k ((v_u46 k (0 : Int)).1, (v_u46 k (0 : Int)).2.1, (v_u46 k (0 : Int)).2.2.1, (v_u46 k (0 : Int)).2.2.2.1, (v_u46 k (0 : Int)).2.2.2.2.1, (v_u46 k (0 : Int)).2.2.2.2.2.1, (v_u46 k (0 : Int)).2.2.2.2.2.2.1, (v_u46 k (0 : Int)).2.2.2.2.2.2.2.1, (v_u46 k (0 : Int)).2.2.2.2.2.2.2.2.1, (v_u46 k (0 : Int)).2.2.2.2.2.2.2.2.2.1, (v_u46 k (0 : Int)).2.2.2.2.2.2.2.2.2.2.1, [], [], (v_u46 k (0 : Int)).2.2.2.2.2.2.2.2.2.2.2.2.2)).2 != (0 : Int) || (v_u5 k ((3 : Int), (7 : Int), (1 : Int))).2 != (0 : Int) || (↑ (v_u1 k (v_u46 k (0 : Int))).1.length : Int) != (0 : Int) || (↑ (v_u3 k (v_u46 k (30 : Int))).1.length : Int) != (1 : Int) || (↑ (v_u6 k ((v_u46 k (0 : Int)).1, (v_u46 k (0 : Int)).2.1, (v_u46 k (0 : Int)).2.2.1, (v_u46 k (0 : Int)).2.2.2.1, (v_u46 k (0 : Int)).2.2.2.2.1, (v_u46 k (0 : Int)).2.2.2.2.2.1, (v_u46 k (0 : Int)).2.2.2.2.2.2.1, (v_u46 k (0 : Int)).2.2.2.2.2.2.2.1, (v_u46 k (0 : Int)).2.2.2.2.2.2.2.2.1, (v_u46 k (0 : Int)).2.2.2.2.2.2.2.2.2.1, (v_u46 k (0 : Int)).2.2.2.2.2.2.2.2.2.2.1, [], [], (v_u46 k (0 : Int)).2.2.2.2.2.2.2.2.2.2.2.2.2)).1.length : Int) != (1 : Int)) then
  some false
  else
  if ((0 : Int) ≤ (0 : Int)) ∧ ((0 : Int) < (↑ (v_u3 k (v_u46 k (30 : Int))).1.length : Int)) ∧ (eqT T18 ((v_u3 k (v_u46 k (30 : Int))).1.getD (Int.toNat (0 : Int)) T18.dflt) ((4 : Int), (-300 : Int), (0 : Int)) = true → (0 : Int) ≤ (0 : Int)) ∧ (eqT T18 ((v_u3 k (v_u46 k (30 : Int))).1.getD (Int.toNat (0 : Int)) T18.dflt) ((4 : Int), (-300 : Int), (0 : Int)) = true → (0 : Int) < (↑ (v_u6 k ((v_u46 k (0 : Int)).1, (v_u46 k (0 : Int)).2.1, (v_u46 k (0 : Int)).2.2.1, (v_u46 k (0 : Int)).2.2.2.1, (v_u46 k (0 : Int)).2.2.2.2.1, (v_u46 k (0 : Int)).2.2.2.2.2.1, (v_u46 k (0 : Int)).2.2.2.2.2.2.1, (v_u46 k (0 : Int)).2.2.2.2.2.2.2.1, (v_u46 k (0 : Int)).2.2.2.2.2.2.2.2.1, (v_u46 k (0 : Int)).2.2.2.2.2.2.2.2.2.1, (v_u46 k (0 : Int)).2.2.2.2.2.2.2.2.2.2.1, [], [], (v_u46 k (0 : Int)).2.2.2.2.2.2.2.2.2.2.2.2.2)).1.length : Int)) then
  some (eqT T18 ((v_u3 k (v_u46 k 30)).1.getD (Int.toNat 0) T18.dflt) (4, (-300), 0) && eqT T18 ((v_u6 k ((v_u46 k 0).1, (v_u46 k 0).2.1, (v_u46 k 0).2.2.1, (v_u46 k 0).2.2.2.1, (v_u46 k 0).2.2.2.2.1, (v_u46 k 0).2.2.2.2.2.1, (v_u46 k 0).2.2.2.2.2.2.1, (v_u46 k 0).2.2.2.2.2.2.2.1, (v_u46 k 0).2.2.2.2.2.2.2.2.1, (v_u46 k 0).2.2.2.2.2.2.2.2.2.1, (v_u46 k 0).2.2.2.2.2.2.2.2.2.2.1, [], [], (v_u46 k 0).2.2.2.2.2.2.2.2.2.2.2.2.2)).1.getD (Int.toNat 0) T18.dflt) (2, 0, 0) && (v_u5 k (3, 7, 1)).1.toList == bs_H62_u43_0.toList)
  else none
  else none
  else none
  else none
  else none
  else none
def v_u43 (k : Nat)  : R_u43 := (f_u43 k ).getD false
def ke_u43 (k : Nat) : Ke := (13, fun xs => match xs with
  | [] => some []
  | _ => none, fun xs bs => match xs, bs with
  | [], [] => some (.one (res_u43 (v_u43 k ), bo_u43  (v_u43 k )))
  | _, _ => none)
theorem of_u43 (k : Nat)  (r : R_u43) (h : f_u43 k  = some r) : C_u43  r := by
  refine CC.of (fn := Tryz.f13) (by kernel_rfl) (by kernel_rfl) (by kernel_rfl) (by kernel_rfl) ?_
  unfold f_u43 at h
  exact go (mkK [ke_u3 k, ke_u6 k, ke_u5 k, ke_u1 k, ke_u46 k]) [] [] [.autoB [0] true []] (gN h (fun q => conjC (cc_u46 q.1) (conjC (cc_u1 q.2) conj0)) fun h => gN h (fun q => conjC (cc_u46 q.1) (conjC (cc_u3 q.2) conj0)) fun h => gN1 h (fun q => cc_u46 q) fun h => gN1 h (fun q => cc_u6 q) fun h => gN1 h (fun q => cc_u5 q) fun h => gT h (fun c h => gL h) fun c h => gN h (fun q => conjC q.1 (conjC q.2.1 (conjC q.2.2.1 (conjC q.2.2.2 conj0)))) fun h => gL h) (by kernel_rfl)
theorem cc_u43 {k : Nat}  (h : (f_u43 k ).isSome = true) : C_u43  (v_u43 k ) := ccG (Φ := C_u43 ) h (of_u43 k )
end
end Go.AM
namespace Go.AM
open Go Go.Proofs
noncomputable section
end
theorem great_w (k : Nat) (hk : 100 ≤ k) (b : T17.T) (hw : Wf T17 b) : ∃ r : Bool, f_u45 k b = some r ∧ (r = false → GB b) :=
  great_s k hk b (hw.2.2.2.2.2.2.2.2.2.2.2.2.2.2.2.1).1 (hw.2.2.2.2.2.2.2.2.2.2.2.2.2.2.2.2.2.1).1 (hw.2.2.2.2.2.2.2.2.2.2.2.1).1 (hw.2.2.2.2.2.2.2.2.1).1
theorem awake_t : f_u43 400000 = some true := by kernel_rfl
end Go.AM
namespace Go.AM
open Go Go.Proofs
noncomputable section
abbrev R_u41 : Type := Bool
def res_u41 (r : R_u41) : AV := .r (.v (.bool r))
def bo_u41 (t_ : T17.T) (r : R_u41) : List (Nat × Blk) := []
def args_u41 (t_ : T17.T) : List AV := [.agg (rvs (enc T17 t_))]
def bin_u41 (t_ : T17.T) : List Blk := []
abbrev C_u41 (t_ : T17.T) (r : R_u41) : Prop := CC Tryz.prog 3 (args_u41 t_) (bin_u41 t_) (res_u41 r) (bo_u41 t_ r)
def st_u41_5 (y0 : Int) (y1 : List (T14).T) (y2 : Int) (y3 : Int) (y4 : T17.T) : St := ⟨mkS 182 [(1, .ptr 1000000 0 0), (3, .r (.v (.int .i64 y0))), (62, .r (.ro T14 y1)), (63, .r (.v (.int .i64 y2))), (64, .r (.v (.int .i64 y3)))], [(1000000, 0, .var 36 (rvs (enc T17 y4)))]⟩
def st_u41_12 (y0 : Int) (y1 : List (T5).T) (y2 : Int) (y3 : Int) (y4 : T17.T) : St := ⟨mkS 182 [(1, .ptr 1000000 0 0), (3, .r (.v (.int .i64 y0))), (83, .r (.ro T5 y1)), (84, .r (.v (.int .i64 y2))), (85, .r (.v (.int .i64 y3)))], [(1000000, 0, .var 36 (rvs (enc T17 y4)))]⟩
def st_u41_16 (y0 : Int) (y1 : Int) (y2 : Int) (y3 : List (T5).T) (y4 : Int) (y5 : Int) (y6 : List (T3).T) (y7 : Int) (y8 : Int) (y9 : T17.T) (y10 : T5.T) : St := ⟨mkS 182 [(1, .ptr 1000000 0 0), (3, .r (.v (.int .i64 y0))), (6, .r (.v (.int .i64 y1))), (7, .ptr 1000001 0 0), (8, .r (.v (.int .i64 y2))), (83, .r (.ro T5 y3)), (84, .r (.v (.int .i64 y4))), (85, .r (.v (.int .i64 y5))), (92, .r (.ro T3 y6)), (93, .r (.v (.int .i64 y7))), (94, .r (.v (.int .i64 y8)))], [(1000000, 0, .var 36 (rvs (enc T17 y9))), (1000001, 0, .var 47 (rvs (enc T5 y10)))]⟩
def st_u41_24 (y0 : Int) (y1 : Int) (y2 : Int) (y3 : Bool) (y4 : List (T5).T) (y5 : Int) (y6 : Int) (y7 : List (I).T) (y8 : Int) (y9 : Int) (y10 : T17.T) (y11 : T5.T) : St := ⟨mkS 182 [(1, .ptr 1000000 0 0), (3, .r (.v (.int .i64 y0))), (6, .r (.v (.int .i64 y1))), (7, .ptr 1000001 0 0), (8, .r (.v (.int .i64 y2))), (11, .r (.v (.bool y3))), (83, .r (.ro T5 y4)), (84, .r (.v (.int .i64 y5))), (85, .r (.v (.int .i64 y6))), (120, .r (.ro I y7)), (121, .r (.v (.int .i64 y8))), (122, .r (.v (.int .i64 y9)))], [(1000000, 0, .var 36 (rvs (enc T17 y10))), (1000001, 0, .var 47 (rvs (enc T5 y11)))]⟩
def st_u41_36 (y0 : Int) (y1 : Bool) (y2 : List (T18).T) (y3 : Int) (y4 : Int) (y5 : T17.T) : St := ⟨mkS 182 [(1, .ptr 1000000 0 0), (3, .r (.v (.int .i64 y0))), (16, .r (.v (.bool y1))), (157, .r (.ro T18 y2)), (158, .r (.v (.int .i64 y3))), (159, .r (.v (.int .i64 y4)))], [(1000000, 0, .var 36 (rvs (enc T17 y5)))]⟩
mutual
def f_u41_5 (k : Nat) : Nat → Int → List (T14).T → Int → Int → T17.T → Option R_u41
  | 0, _, _, _, _, _ => none
  | j + 1, y0, y1, y2, y3, y4 =>
  bif (decide (y3 < y2)) then
  if (0 ≤ y3) ∧ (y3 < (↑y1.length : Int)) then
  bif (decide ((y1.getD y3.toNat T14.dflt).2.2.2 < (0 : Int)) || decide ((y1.getD y3.toNat T14.dflt).2.2.2 > (206158430208000 : Int))) then
  if ((f_u43 k ).isSome = true) then
  some (v_u43 k)
  else none
  else
  f_u41_5 k j ((IntKind.i64.wrap (y0 + (y1.getD y3.toNat T14.dflt).2.2.2))) y1 y2 ((IntKind.i64.wrap (y3 + 1))) y4
  else none
  else
  f_u41_12 k j y0 y4.2.2.2.2.2.2.2.2.2.2.2.1 ((↑ (List.length y4.2.2.2.2.2.2.2.2.2.2.2.1) : Int)) 0 y4
def f_u41_12 (k : Nat) : Nat → Int → List (T5).T → Int → Int → T17.T → Option R_u41
  | 0, _, _, _, _, _ => none
  | j + 1, y0, y1, y2, y3, y4 =>
  bif (decide (y3 < y2)) then
  if (0 ≤ y3) ∧ (y3 < (↑y1.length : Int)) then
  f_u41_16 k j y0 y3 0 y1 y2 y3 ((y1.getD y3.toNat T5.dflt).2.2.2.2.2) ((↑ (List.length (y1.getD y3.toNat T5.dflt).2.2.2.2.2) : Int)) 0 y4 ((y1.getD y3.toNat T5.dflt))
  else none
  else
  if ((f_u3 k y4).isSome = true) then
  bif ((v_u3 k y4).2 != (0 : Int)) then
  some false
  else
  f_u41_36 k j y0 false ((v_u3 k y4).1) ((↑ (v_u3 k y4).1.length : Int)) 0 y4
  else none
def f_u41_16 (k : Nat) : Nat → Int → Int → Int → List (T5).T → Int → Int → List (T3).T → Int → Int → T17.T → T5.T → Option R_u41
  | 0, _, _, _, _, _, _, _, _, _, _, _ => none
  | j + 1, y0, y1, y2, y3, y4, y5, y6, y7, y8, y9, y10 =>
  bif (decide (y8 < y7)) then
  if (0 ≤ y8) ∧ (y8 < (↑y6.length : Int)) then
  f_u41_16 k j y0 y1 ((IntKind.i64.wrap (y2 + (y6.getD y8.toNat T3.dflt).2.1))) y3 y4 y5 y6 y7 ((IntKind.i64.wrap (y8 + 1))) y9 y10
  else none
  else
  if (0 ≤ y1) ∧ (y1 < (↑ (List.length y9.2.2.2.2.2.2.2.2.2.2.2.2.1) : Int)) ∧ (decide (List.getD y9.2.2.2.2.2.2.2.2.2.2.2.2.1 y1.toNat I.dflt < (0 : Int)) = false → 0 ≤ y1) ∧ (decide (List.getD y9.2.2.2.2.2.2.2.2.2.2.2.2.1 y1.toNat I.dflt < (0 : Int)) = false → y1 < (↑ (List.length y9.2.2.2.2.2.2.2.2.2.2.2.2.1) : Int)) then
  bif (decide (List.getD y9.2.2.2.2.2.2.2.2.2.2.2.2.1 y1.toNat I.dflt < (0 : Int)) || decide (List.getD y9.2.2.2.2.2.2.2.2.2.2.2.2.1 y1.toNat I.dflt > y2)) then
  if ((f_u43 k ).isSome = true) then
  some (v_u43 k)
  else none
  else
  f_u41_24 k j y0 y1 y2 false y3 y4 y5 y9.2.2.2.2.2.2.2.2.2.2.2.2.2.1 ((↑ (List.length y9.2.2.2.2.2.2.2.2.2.2.2.2.2.1) : Int)) 0 y9 y10
  else none
def f_u41_24 (k : Nat) : Nat → Int → Int → Int → Bool → List (T5).T → Int → Int → List (I).T → Int → Int → T17.T → T5.T → Option R_u41
  | 0, _, _, _, _, _, _, _, _, _, _, _, _ => none
  | j + 1, y0, y1, y2, y3, y4, y5, y6, y7, y8, y9, y10, y11 =>
  bif (decide (y9 < y8)) then
  if (0 ≤ y9) ∧ (y9 < (↑y7.length : Int)) then
  f_u41_24 k j y0 y1 y2 ((y3 || y7.getD y9.toNat I.dflt == y11.1)) y4 y5 y6 y7 y8 ((IntKind.i64.wrap (y9 + 1))) y10 y11
  else none
  else
  bif (!y3) then
  if (0 ≤ y1) ∧ (y1 < (↑ (List.length y10.2.2.2.2.2.2.2.2.2.2.2.2.1) : Int)) then
  f_u41_12 k j ((IntKind.i64.wrap (y0 + IntKind.i64.wrap (y11.2.2.2.1 * IntKind.i64.wrap (y2 - List.getD y10.2.2.2.2.2.2.2.2.2.2.2.2.1 y1.toNat I.dflt))))) y4 y5 ((IntKind.i64.wrap (y6 + 1))) y10
  else none
  else
  f_u41_12 k j y0 y4 y5 ((IntKind.i64.wrap (y6 + 1))) y10
def f_u41_36 (k : Nat) : Nat → Int → Bool → List (T18).T → Int → Int → T17.T → Option R_u41
  | 0, _, _, _, _, _, _ => none
  | j + 1, y0, y1, y2, y3, y4, y5 =>
  bif (decide (y4 < y3)) then
  if (0 ≤ y4) ∧ (y4 < (↑y2.length : Int)) then
  f_u41_36 k j y0 ((y1 || (y2.getD y4.toNat T18.dflt).1 == 4)) y2 y3 ((IntKind.i64.wrap (y4 + 1))) y5
  else none
  else
  bif (y1 == (y0 != IntKind.i64.wrap (y5.2.1 * y5.2.2.1))) then
  if ((y1 == (y0 != IntKind.i64.wrap (y5.2.1 * y5.2.2.1))) = true) ∧ ((f_u43 k ).isSome = true) then
  some (true && v_u43 k)
  else none
  else
  if ((y1 == (y0 != IntKind.i64.wrap (y5.2.1 * y5.2.2.1))) = false) then
  some false
  else none
end
def f_u41 (k : Nat) (t_ : T17.T) : Option R_u41 :=
  bif (v_u45 k t_) then
  if ((f_u45 k t_).isSome = true) ∧ (v_u45 k t_ = true) then
  bif (true || (↑ (List.length t_.2.2.2.2.2.2.2.2.2.2.2.2.1) : Int) != (↑ (List.length t_.2.2.2.2.2.2.2.2.2.2.2.1) : Int) || decide (t_.2.2.2.1 < (0 : Int)) || decide (t_.2.2.2.1 > t_.2.2.1)) then
  if ((f_u43 k ).isSome = true) then
  some (v_u43 k)
  else none
  else
  f_u41_5 k k ((IntKind.i64.wrap (t_.2.1 * IntKind.i64.wrap (t_.2.2.1 - t_.2.2.2.1)))) t_.2.2.2.2.2.2.2.2.2.2.2.2.2.2.2.2.2.2.2.2.1 ((↑ (List.length t_.2.2.2.2.2.2.2.2.2.2.2.2.2.2.2.2.2.2.2.2.1) : Int)) 0 t_
  else none
  else
  if ((f_u45 k t_).isSome = true) ∧ (v_u45 k t_ = false) ∧ ((f_u24 k t_.2.2.2.2.2.2.2.2.2.2.2.1 t_.2.1 t_.2.2.1).isSome = true) then
  bif (false || v_u24 k t_.2.2.2.2.2.2.2.2.2.2.2.1 t_.2.1 t_.2.2.1 != (0 : Int) || (↑ (List.length t_.2.2.2.2.2.2.2.2.2.2.2.2.1) : Int) != (↑ (List.length t_.2.2.2.2.2.2.2.2.2.2.2.1) : Int) || decide (t_.2.2.2.1 < (0 : Int)) || decide (t_.2.2.2.1 > t_.2.2.1)) then
  if ((f_u43 k ).isSome = true) then
  some (v_u43 k)
  else none
  else
  f_u41_5 k k ((IntKind.i64.wrap (t_.2.1 * IntKind.i64.wrap (t_.2.2.1 - t_.2.2.2.1)))) t_.2.2.2.2.2.2.2.2.2.2.2.2.2.2.2.2.2.2.2.2.1 ((↑ (List.length t_.2.2.2.2.2.2.2.2.2.2.2.2.2.2.2.2.2.2.2.2.1) : Int)) 0 t_
  else none
def K_u41 (k : Nat) : Calld := mkK [ke_u45 k, ke_u24 k, ke_u3 k, ke_u43 k]
def cs_u41 : List (Nat × List Cmd) := [(5, [.autoB [1, 3, 62, 63, 64] false []]), (12, [.autoB [1, 3, 83, 84, 85] false []]), (16, [.autoB [1, 3, 6, 7, 8, 83, 84, 85, 92, 93, 94] false []]), (24, [.autoB [1, 3, 6, 7, 8, 11, 83, 84, 85, 120, 121, 122] false []]), (36, [.autoB [1, 3, 16, 157, 158, 159] false []])]
abbrev E_u41 (t_ : T17.T) (todo : List Item) (st : St) (o : Option R_u41) : Prop := ∀ r, o = some r → Ev Tryz.prog Tryz.f3 0 todo st (res_u41 r) (bo_u41 t_ r)
theorem ev_u41 (k : Nat) (t_ : T17.T) : ∀ j, (∀ (y0 : Int) (y1 : List (T14).T) (y2 : Int) (y3 : Int) (y4 : T17.T), E_u41 t_ (placeAt Tryz.f3 5) (st_u41_5 y0 y1 y2 y3 y4) (f_u41_5 k j y0 y1 y2 y3 y4)) ∧ (∀ (y0 : Int) (y1 : List (T5).T) (y2 : Int) (y3 : Int) (y4 : T17.T), E_u41 t_ (placeAt Tryz.f3 12) (st_u41_12 y0 y1 y2 y3 y4) (f_u41_12 k j y0 y1 y2 y3 y4)) ∧ (∀ (y0 : Int) (y1 : Int) (y2 : Int) (y3 : List (T5).T) (y4 : Int) (y5 : Int) (y6 : List (T3).T) (y7 : Int) (y8 : Int) (y9 : T17.T) (y10 : T5.T), E_u41 t_ (placeAt Tryz.f3 16) (st_u41_16 y0 y1 y2 y3 y4 y5 y6 y7 y8 y9 y10) (f_u41_16 k j y0 y1 y2 y3 y4 y5 y6 y7 y8 y9 y10)) ∧ (∀ (y0 : Int) (y1 : Int) (y2 : Int) (y3 : Bool) (y4 : List (T5).T) (y5 : Int) (y6 : Int) (y7 : List (I).T) (y8 : Int) (y9 : Int) (y10 : T17.T) (y11 : T5.T), E_u41 t_ (placeAt Tryz.f3 24) (st_u41_24 y0 y1 y2 y3 y4 y5 y6 y7 y8 y9 y10 y11) (f_u41_24 k j y0 y1 y2 y3 y4 y5 y6 y7 y8 y9 y10 y11)) ∧ (∀ (y0 : Int) (y1 : Bool) (y2 : List (T18).T) (y3 : Int) (y4 : Int) (y5 : T17.T), E_u41 t_ (placeAt Tryz.f3 36) (st_u41_36 y0 y1 y2 y3 y4 y5) (f_u41_36 k j y0 y1 y2 y3 y4 y5))
  | 0 => ⟨fun _ _ _ _ _ _ h => (nomatch h), fun _ _ _ _ _ _ h => (nomatch h), fun _ _ _ _ _ _ _ _ _ _ _ _ h => (nomatch h), fun _ _ _ _ _ _ _ _ _ _ _ _ _ h => (nomatch h), fun _ _ _ _ _ _ _ h => (nomatch h)⟩
  | j + 1 => by
    have ih := @ev_u41 k t_ j
    refine ⟨?_, ?_, ?_, ?_, ?_⟩
    · intro y0 y1 y2 y3 y4 r h
      rw [f_u41_5] at h
      exact go (K_u41 k) [] cs_u41 [.autoB [2] true []] (gT h (fun c h => gN2 h fun h => gT h (fun c h => gN1 h (fun q => cc_u43 q) fun h => gL h) fun c h => gC h 5 (ih.1 _ _ _ _ _ _)) fun c h => gC h 12 (ih.2.1 _ _ _ _ _ _)) (by kernel_rfl)
    · intro y0 y1 y2 y3 y4 r h
      rw [f_u41_12] at h
      exact go (K_u41 k) [] cs_u41 [.autoB [2] true []] (gT h (fun c h => gN2 h fun h => gC h 16 (ih.2.2.1 _ _ _ _ _ _ _ _ _ _ _ _)) fun c h => gN1 h (fun q => cc_u3 q) fun h => gT h (fun c h => gL h) fun c h => gC h 36 (ih.2.2.2.2 _ _ _ _ _ _ _)) (by kernel_rfl)
    · intro y0 y1 y2 y3 y4 y5 y6 y7 y8 y9 y10 r h
      rw [f_u41_16] at h
      exact go (K_u41 k) [] cs_u41 [.autoB [2] true []] (gT h (fun c h => gN2 h fun h => gC h 16 (ih.2.2.1 _ _ _ _ _ _ _ _ _ _ _ _)) fun c h => gN h (fun q => conjC q.1 (conjC q.2.1 (conjC q.2.2.1 (conjC q.2.2.2 conj0)))) fun h => gT h (fun c h => gN1 h (fun q => cc_u43 q) fun h => gL h) fun c h => gC h 24 (ih.2.2.2.1 _ _ _ _ _ _ _ _ _ _ _ _ _)) (by kernel_rfl)
    · intro y0 y1 y2 y3 y4 y5 y6 y7 y8 y9 y10 y11 r h
      rw [f_u41_24] at h
      exact go (K_u41 k) [] cs_u41 [.autoB [2] true []] (gT h (fun c h => gN2 h fun h => gC h 24 (ih.2.2.2.1 _ _ _ _ _ _ _ _ _ _ _ _ _)) fun c h => gT h (fun c h => gN2 h fun h => gC h 12 (ih.2.1 _ _ _ _ _ _)) fun c h => gC h 12 (ih.2.1 _ _ _ _ _ _)) (by kernel_rfl)
    · intro y0 y1 y2 y3 y4 y5 r h
      rw [f_u41_36] at h
      exact go (K_u41 k) [] cs_u41 [.autoB [2] true []] (gT h (fun c h => gN2 h fun h => gC h 36 (ih.2.2.2.2 _ _ _ _ _ _ _)) fun c h => gT h (fun c h => gN h (fun q => conjC q.1 (conjC (cc_u43 q.2) conj0)) fun h => gL h) fun c h => gN1 h id fun h => gL h) (by kernel_rfl)
theorem of_u41 (k : Nat) (t_ : T17.T) (r : R_u41) (h : f_u41 k t_ = some r) : C_u41 t_ r := by
  refine CC.of (fn := Tryz.f3) (by kernel_rfl) (by kernel_rfl) (by kernel_rfl) (by kernel_rfl) ?_
  unfold f_u41 at h
  exact go (K_u41 k) [] cs_u41 [.autoB [2] true []] (gT h (fun c h => gN h (fun q => conjC (cc_u45 q.1) (conjC q.2 conj0)) fun h => gT h (fun c h => gN1 h (fun q => cc_u43 q) fun h => gL h) fun c h => gC h 5 ((ev_u41 k t_ k).1 _ _ _ _ _ _)) fun c h => gN h (fun q => conjC (cc_u45 q.1) (conjC q.2.1 (conjC (cc_u24 q.2.2) conj0))) fun h => gT h (fun c h => gN1 h (fun q => cc_u43 q) fun h => gL h) fun c h => gC h 5 ((ev_u41 k t_ k).1 _ _ _ _ _ _)) (by kernel_rfl)
end
/-! ### the law of the balance -/
/-- the area that the law adds up, in all -/
def totS (W M B cov : Int) : Int := W * (M - B) + cov
def has4 (l : List Fnd) : Bool := l.any (fun f => f.1 == 4)
theorem has4_append (a b : List Fnd) : has4 (a ++ b) = (has4 a || has4 b) := by unfold has4; rw [List.any_append]
theorem has4_A (l : List Ro) : ∀ (a : List Ro) (u : List Int), has4 (partA l a u) = false
  | [], _ => by simp [partA, has4]
  | r :: rs, [] => by simp [partA, has4]
  | r :: rs, u :: us => by
    rw [partA, has4_append, has4_A l rs us]
    unfold one1
    cases rightS l r u <;> rfl
theorem has4_B (l : List Ro) : ∀ (t b : List Int), has4 (partB l b t) = false
  | [], _ => by simp [partB, has4]
  | n :: t, b => by
    rw [partB, has4_append, has4_B l t]
    cases (!idIn n l || isIn n b) <;> rfl
theorem has4_fin {B M cov W : Int} (h : ¬ (B < 0 ∨ B > M)) : has4 (finI B M cov W) = (totS W M B cov != W * M) := by
  have e : totS W M B cov - W * M = cov - W * B := by unfold totS; rw [Int.mul_sub]; omega
  by_cases hd : cov - W * B = 0
  · rw [finI_0 h hd, show (totS W M B cov != W * M) = false by
      have : totS W M B cov = W * M := by omega
      rw [this]; exact bne_self_eq_false _]
    rfl
  · rw [finI_d h hd, bne_iff_ne.2 (show totS W M B cov ≠ W * M by omega)]
    rfl
theorem bal_36 (k : Nat) (aw : f_u43 k = some true) (b : T17.T) (W M : Int) (eW : b.2.1 = W) (eM : b.2.2.1 = M) (hW : 1 ≤ W ∧ W ≤ 12000) (hM : 0 ≤ M ∧ M ≤ 17179869184) (a : Int) (l : List Fnd) (hl : l.length ≤ 10000) :
    ∀ (d c j : Nat) (y : Bool), c + d = l.length → d < j → (y || has4 (l.drop c)) = (a != W * M) → f_u41_36 k j a y l (l.length : Int) (c : Int) b = some true := by
  have av : v_u43 k = true := by unfold v_u43; rw [aw]; rfl
  have hmu := wmul_in (w := W) (n := M) (by omega) hW.2 hM.1 hM.2
  have e1 : IntKind.i64.wrap (W * M) = W * M := wrap_id (by omega) (by omega)
  intro d
  induction d with
  | zero =>
    intro c j y hc hj hy
    obtain ⟨j, rfl⟩ : ∃ q, j = q + 1 := ⟨j - 1, by omega⟩
    rw [List.drop_of_length_le (by omega)] at hy
    have hy' : y = (a != W * M) := by rw [← hy]; exact (Bool.or_false y).symm
    have hb : (y == (a != W * M)) = true := by rw [← hy']; exact beq_self_eq_true y
    rw [f_u41_36, decide_eq_false (by omega : ¬ (c : Int) < (l.length : Int)), cond_false, eW, eM, e1, hb, cond_true, aw, av, if_pos ⟨rfl, rfl⟩]
    rfl
  | succ d ih =>
    intro c j y hc hj hy
    obtain ⟨j, rfl⟩ : ∃ q, j = q + 1 := ⟨j - 1, by omega⟩
    have hrw : l.drop c = l.getD c T18.dflt :: l.drop (c + 1) := drop_cons' l c T18.dflt (by omega)
    rw [f_u41_36, decide_eq_true (by omega : (c : Int) < (l.length : Int)), cond_true, if_pos ⟨by omega, by omega⟩, Int.toNat_natCast, wrapS c (by omega)]
    refine ih (c + 1) j _ (by omega) (by omega) ?_
    rw [← hy, hrw, Bool.or_assoc]
    rfl
theorem bal_24 (k : Nat) (b : T17.T) (L : List Ro) (len a n w : Int) (i0 i : Nat) (hi0 : i0 ≤ 40) (hi : i < b.2.2.2.2.2.2.2.2.2.2.2.2.1.length) (hS : b.2.2.2.2.2.2.2.2.2.2.2.2.2.1.length ≤ 40) (r : Ro) (u : Int) (eu : b.2.2.2.2.2.2.2.2.2.2.2.2.1.getD i I.dflt = u) (ew : r.2.2.2.1 = w) (hu : 0 ≤ u ∧ u ≤ n) (hn : n ≤ 17179869184) (hw : 1 ≤ w ∧ w ≤ 12000) (ha : 0 ≤ a ∧ a ≤ 100000000000000000) :
    ∀ (d c j : Nat) (y : Bool), c + d = b.2.2.2.2.2.2.2.2.2.2.2.2.2.1.length → f_u41_24 k (d + 1 + j) a (i : Int) n y L len (i0 : Int) (b.2.2.2.2.2.2.2.2.2.2.2.2.2.1) (b.2.2.2.2.2.2.2.2.2.2.2.2.2.1.length : Int) (c : Int) b r = f_u41_12 k j (a + (bif (y || isIn r.1 (b.2.2.2.2.2.2.2.2.2.2.2.2.2.1.drop c)) then 0 else w * (n - u))) L len ((i0 + 1 : Nat) : Int) b := by
  have har := area_in (w := w) (n := n - u) hw.1 hw.2 (by omega) (by omega)
  have e1 : IntKind.i64.wrap (n - u) = n - u := wrap_id (by omega) (by omega)
  have e2 : IntKind.i64.wrap (w * (n - u)) = w * (n - u) := wrap_id (by omega) (by omega)
  have e3 : IntKind.i64.wrap (a + w * (n - u)) = a + w * (n - u) := wrap_id (by omega) (by omega)
  intro d
  induction d with
  | zero =>
    intro c j y hc
    rw [show 0 + 1 + j = j + 1 by omega, f_u41_24, decide_eq_false (by omega : ¬ (c : Int) < (b.2.2.2.2.2.2.2.2.2.2.2.2.2.1.length : Int)), cond_false, List.drop_of_length_le (by omega : b.2.2.2.2.2.2.2.2.2.2.2.2.2.1.length ≤ c), Int.toNat_natCast, eu, ew, e1, e2, e3, wrapS i0 (by omega), if_pos ⟨by omega, by omega⟩]
    cases y
    · rfl
    · rw [Bool.not_true, cond_false, Bool.true_or, cond_true, Int.add_zero]
  | succ d ih =>
    intro c j y hc
    have hrw : b.2.2.2.2.2.2.2.2.2.2.2.2.2.1.drop c = b.2.2.2.2.2.2.2.2.2.2.2.2.2.1.getD c I.dflt :: b.2.2.2.2.2.2.2.2.2.2.2.2.2.1.drop (c + 1) := drop_cons' (b.2.2.2.2.2.2.2.2.2.2.2.2.2.1) c I.dflt (by omega)
    rw [show d + 1 + 1 + j = (d + 1 + j) + 1 by omega, f_u41_24, decide_eq_true (by omega : (c : Int) < (b.2.2.2.2.2.2.2.2.2.2.2.2.2.1.length : Int)), cond_true, if_pos ⟨by omega, by omega⟩, Int.toNat_natCast, wrapS c (by omega), ih (c + 1) j _ (by omega), hrw]
    have : (y || (b.2.2.2.2.2.2.2.2.2.2.2.2.2.1.getD c I.dflt == r.1) || isIn r.1 (b.2.2.2.2.2.2.2.2.2.2.2.2.2.1.drop (c + 1))) = (y || isIn r.1 (b.2.2.2.2.2.2.2.2.2.2.2.2.2.1.getD c I.dflt :: b.2.2.2.2.2.2.2.2.2.2.2.2.2.1.drop (c + 1))) := by rw [Bool.or_assoc]; rfl
    rw [this]
theorem bal_16 (k : Nat) (b : T17.T) (L : List Ro) (len a : Int) (i0 i : Int) (m : List Rn) (hm : Chk m) (r : Ro) : ∀ (d c j : Nat) (n : Int), c + d = m.length → 0 ≤ n → n + lenS (m.drop c) ≤ 17179869184 →
    f_u41_16 k (d + 1 + j) a i n L len i0 m (m.length : Int) (c : Int) b r = f_u41_16 k (j + 1) a i (n + lenS (m.drop c)) L len i0 m (m.length : Int) (m.length : Int) b r := by
  have hlen := hm.len
  intro d
  induction d with
  | zero =>
    intro c j n hc h0 h1
    rw [List.drop_of_length_le (by omega), lenS, Int.add_zero, show c = m.length by omega, show 0 + 1 + j = j + 1 by omega]
  | succ d ih =>
    intro c j n hc h0 h1
    have hg := goods.mem hm.goods _ (gdm m c T3.dflt (by omega))
    have g1 := hg.1
    have hrw : m.drop c = m.getD c T3.dflt :: m.drop (c + 1) := drop_cons' m c T3.dflt (by omega)
    have hgd : goods (m.drop (c + 1)) := goods.of fun x hx => goods.mem hm.goods x (List.mem_of_mem_drop hx)
    have hp := lenS_nonneg hgd
    rw [hrw, lenS] at h1
    rw [show d + 1 + 1 + j = (d + 1 + j) + 1 by omega, f_u41_16, decide_eq_true (by omega : (c : Int) < (m.length : Int)), cond_true, if_pos ⟨by omega, by omega⟩, Int.toNat_natCast, wrapS c (by omega), wrap_id (by omega) (by omega), ih (c + 1) j _ (by omega) (by omega) (by omega), hrw, lenS, Int.add_assoc]
theorem bal_12 (k : Nat) (hk : 300000 ≤ k) (aw : f_u43 k = some true) (b : T17.T) (g : GB b) (W M B : Int) (eW : b.2.1 = W) (eM : b.2.2.1 = M) (eB : b.2.2.2.1 = B) (hW : 1 ≤ W ∧ W ≤ 12000) (hM : 0 ≤ M ∧ M ≤ 17179869184) (hB : ¬ (B < 0 ∨ B > M)) (hc : checkS (b.2.2.2.2.2.2.2.2.2.2.2.1) (b.2.1) (b.2.2.1) = 0) (hs : Smalls (b.2.2.2.2.2.2.2.2.2.2.2.1)) (hu : b.2.2.2.2.2.2.2.2.2.2.2.2.1.length = b.2.2.2.2.2.2.2.2.2.2.2.1.length) :
    ∀ (d i j : Nat) (a : Int), i + d = b.2.2.2.2.2.2.2.2.2.2.2.1.length → d * 400 + 3000 < j → 0 ≤ a → a + (d : Int) * 206158430208000 ≤ 50000000000000000 → a + covL (b.2.2.2.2.2.2.2.2.2.2.2.2.2.1) (b.2.2.2.2.2.2.2.2.2.2.2.1.drop i) (b.2.2.2.2.2.2.2.2.2.2.2.2.1.drop i) = totS W M B (covS b) →
      f_u41_12 k j a (b.2.2.2.2.2.2.2.2.2.2.2.1) (b.2.2.2.2.2.2.2.2.2.2.2.1.length : Int) (i : Int) b = some true := by
  have av : v_u43 k = true := by unfold v_u43; rw [aw]; rfl
  have hrl := g.bRolls
  have hsl := g.bScrapped
  intro d
  induction d with
  | zero =>
    intro i j a hi hj h0 h1 he
    obtain ⟨j, rfl⟩ : ∃ q, j = q + 1 := ⟨j - 1, by omega⟩
    have hl := rollsS_len b g
    rw [List.drop_of_length_le (by omega : b.2.2.2.2.2.2.2.2.2.2.2.1.length ≤ i), covL, Int.add_zero] at he
    · have h36 := bal_36 k aw b W M eW eM hW hM a (rollsS b) (by omega) (rollsS b).length 0 j false (by omega) (by omega) (by
        rw [List.drop_zero, Bool.false_or, rollsS_g hc hu, has4_append, has4_append, has4_A, has4_B, Bool.false_or, Bool.false_or]
        unfold finS
        rw [eW, eM, eB, has4_fin hB, he])
      rw [f_u41_12, decide_eq_false (by omega : ¬ (i : Int) < (b.2.2.2.2.2.2.2.2.2.2.2.1.length : Int)), cond_false, Rolls_s k hk b g, Rolls_v k hk b g, Option.isSome_some, if_pos rfl]
      exact h36
    · intro r rs u us h; cases h
  | succ d ih =>
    intro i j a hi hj h0 h1 he
    have hm := hs _ (gdm (b.2.2.2.2.2.2.2.2.2.2.2.1) i T5.dflt (by omega))
    have hln := len_in hm.chk
    have hrw : b.2.2.2.2.2.2.2.2.2.2.2.1.drop i = b.2.2.2.2.2.2.2.2.2.2.2.1.getD i T5.dflt :: b.2.2.2.2.2.2.2.2.2.2.2.1.drop (i + 1) := drop_cons' (b.2.2.2.2.2.2.2.2.2.2.2.1) i T5.dflt (by omega)
    have huw : b.2.2.2.2.2.2.2.2.2.2.2.2.1.drop i = b.2.2.2.2.2.2.2.2.2.2.2.2.1.getD i I.dflt :: b.2.2.2.2.2.2.2.2.2.2.2.2.1.drop (i + 1) := drop_cons' (b.2.2.2.2.2.2.2.2.2.2.2.2.1) i I.dflt (by omega)
    have hml := hm.chk.len
    have w0 := hm.w0
    have wl := hm.l0
    have wr := hm.r0
    rw [hrw, huw, covL] at he
    obtain ⟨j, rfl⟩ : ∃ q, j = ((b.2.2.2.2.2.2.2.2.2.2.2.1.getD i T5.dflt).2.2.2.2.2.length + 1 + (b.2.2.2.2.2.2.2.2.2.2.2.2.2.1.length + 1 + q)) + 1 := ⟨j - (b.2.2.2.2.2.2.2.2.2.2.2.1.getD i T5.dflt).2.2.2.2.2.length - b.2.2.2.2.2.2.2.2.2.2.2.2.2.1.length - 3, by omega⟩
    have hj2 : d * 400 + 3000 < j := by
      clear he ih
      rw [Nat.succ_mul d 400] at hj
      generalize d * 400 = z at *
      omega
    have h16 := bal_16 k b (b.2.2.2.2.2.2.2.2.2.2.2.1) (b.2.2.2.2.2.2.2.2.2.2.2.1.length : Int) a (i : Int) (i : Int) (m := (b.2.2.2.2.2.2.2.2.2.2.2.1.getD i T5.dflt).2.2.2.2.2) hm.chk (b.2.2.2.2.2.2.2.2.2.2.2.1.getD i T5.dflt) (b.2.2.2.2.2.2.2.2.2.2.2.1.getD i T5.dflt).2.2.2.2.2.length 0 (b.2.2.2.2.2.2.2.2.2.2.2.2.2.1.length + 1 + j) 0 (by omega) (by omega) (by rw [List.drop_zero]; omega)
    rw [List.drop_zero, Int.zero_add] at h16
    rw [show ((0 : Nat) : Int) = 0 from rfl] at h16
    rw [f_u41_12, decide_eq_true (by omega : (i : Int) < (b.2.2.2.2.2.2.2.2.2.2.2.1.length : Int)), cond_true, if_pos ⟨by omega, by omega⟩, Int.toNat_natCast, h16]
    have h3 : (0 : Int) ≤ (i : Int) := by omega
    have h4 : (i : Int) < (b.2.2.2.2.2.2.2.2.2.2.2.2.1.length : Int) := by omega
    rw [f_u41_16, decide_eq_false (by omega : ¬ ((b.2.2.2.2.2.2.2.2.2.2.2.1.getD i T5.dflt).2.2.2.2.2.length : Int) < ((b.2.2.2.2.2.2.2.2.2.2.2.1.getD i T5.dflt).2.2.2.2.2.length : Int)), cond_false, if_pos ⟨h3, h4, fun _ => h3, fun _ => h4⟩, Int.toNat_natCast, aw, av, Option.isSome_some, if_pos rfl]
    obtain ⟨u, hU⟩ : ∃ u : Int, b.2.2.2.2.2.2.2.2.2.2.2.2.1.getD i I.dflt = u := ⟨_, rfl⟩
    rw [hU] at he
    rw [hU]
    generalize hN : lenS (b.2.2.2.2.2.2.2.2.2.2.2.1.getD i T5.dflt).2.2.2.2.2 = n at *
    by_cases hb : 0 ≤ u ∧ u ≤ n
    · have hb1 : (decide (u < (0 : Int)) || decide (u > n)) = false := by rw [decide_eq_false (by omega : ¬ u < 0), decide_eq_false (by omega : ¬ u > n)]; rfl
      have h24 := bal_24 k b (b.2.2.2.2.2.2.2.2.2.2.2.1) (b.2.2.2.2.2.2.2.2.2.2.2.1.length : Int) a n (b.2.2.2.2.2.2.2.2.2.2.2.1.getD i T5.dflt).2.2.2.1 i i (by omega) (by omega) hsl (b.2.2.2.2.2.2.2.2.2.2.2.1.getD i T5.dflt) u hU rfl hb hln.2 ⟨w0, by omega⟩ ⟨h0, by omega⟩ (b.2.2.2.2.2.2.2.2.2.2.2.2.2.1.length) 0 j false (by omega)
      rw [show ((0 : Nat) : Int) = 0 from rfl, List.drop_zero, Bool.false_or] at h24
      have hlf : leftS n u = n - u := by unfold leftS; omega
      have har := area_in (w := (b.2.2.2.2.2.2.2.2.2.2.2.1.getD i T5.dflt).2.2.2.1) (n := n - u) w0 (by omega) (by omega) (by omega)
      rw [hb1, cond_false, h24]
      rw [hlf] at he
      refine ih (i + 1) j _ (by omega) hj2 ?_ ?_ (by rw [Int.add_assoc]; exact he)
      · cases isIn (b.2.2.2.2.2.2.2.2.2.2.2.1.getD i T5.dflt).1 (b.2.2.2.2.2.2.2.2.2.2.2.2.2.1) <;> simp only [cond_true, cond_false] <;> omega
      · cases isIn (b.2.2.2.2.2.2.2.2.2.2.2.1.getD i T5.dflt).1 (b.2.2.2.2.2.2.2.2.2.2.2.2.2.1) <;> simp only [cond_true, cond_false] <;> omega
    · have hb1 : (decide (u < (0 : Int)) || decide (u > n)) = true := by
        by_cases h : u < 0
        · rw [decide_eq_true h, Bool.true_or]
        · rw [decide_eq_true (by omega : u > n), Bool.or_true]
      rw [hb1, cond_true]
theorem bal_5 (k : Nat) (hk : 300000 ≤ k) (aw : f_u43 k = some true) (b : T17.T) (g : GB b) (W M B : Int) (eW : b.2.1 = W) (eM : b.2.2.1 = M) (eB : b.2.2.2.1 = B) (hW : 1 ≤ W ∧ W ≤ 12000) (hM : 0 ≤ M ∧ M ≤ 17179869184) (hB : ¬ (B < 0 ∨ B > M)) (hc : checkS (b.2.2.2.2.2.2.2.2.2.2.2.1) (b.2.1) (b.2.2.1) = 0) (hs : Smalls (b.2.2.2.2.2.2.2.2.2.2.2.1)) (hu : b.2.2.2.2.2.2.2.2.2.2.2.2.1.length = b.2.2.2.2.2.2.2.2.2.2.2.1.length) :
    ∀ (d i j : Nat) (a : Int), i + d = b.2.2.2.2.2.2.2.2.2.2.2.2.2.2.2.2.2.2.2.2.1.length → d + 20000 < j → 0 ≤ a → a + (d : Int) * 206158430208000 ≤ 20000000000000000 → a + brkL (b.2.2.2.2.2.2.2.2.2.2.2.2.2.2.2.2.2.2.2.2.1.drop i) + covL (b.2.2.2.2.2.2.2.2.2.2.2.2.2.1) (b.2.2.2.2.2.2.2.2.2.2.2.1) (b.2.2.2.2.2.2.2.2.2.2.2.2.1) = totS W M B (covS b) →
      f_u41_5 k j a (b.2.2.2.2.2.2.2.2.2.2.2.2.2.2.2.2.2.2.2.2.1) (b.2.2.2.2.2.2.2.2.2.2.2.2.2.2.2.2.2.2.2.2.1.length : Int) (i : Int) b = some true := by
  have av : v_u43 k = true := by unfold v_u43; rw [aw]; rfl
  have hbl := g.bBroke
  have hrl := g.bRolls
  intro d
  induction d with
  | zero =>
    intro i j a hi hj h0 h1 he
    obtain ⟨j, rfl⟩ : ∃ q, j = q + 1 := ⟨j - 1, by omega⟩
    rw [List.drop_of_length_le (by omega : b.2.2.2.2.2.2.2.2.2.2.2.2.2.2.2.2.2.2.2.2.1.length ≤ i), brkL, Int.add_zero] at he
    rw [f_u41_5, decide_eq_false (by omega : ¬ (i : Int) < (b.2.2.2.2.2.2.2.2.2.2.2.2.2.2.2.2.2.2.2.2.1.length : Int)), cond_false]
    exact bal_12 k hk aw b g W M B eW eM eB hW hM hB hc hs hu (b.2.2.2.2.2.2.2.2.2.2.2.1.length) 0 j a (by omega) (by omega) h0 (by omega) (by rw [List.drop_zero, List.drop_zero]; exact he)
  | succ d ih =>
    intro i j a hi hj h0 h1 he
    obtain ⟨j, rfl⟩ : ∃ q, j = q + 1 := ⟨j - 1, by omega⟩
    have hrw : b.2.2.2.2.2.2.2.2.2.2.2.2.2.2.2.2.2.2.2.2.1.drop i = b.2.2.2.2.2.2.2.2.2.2.2.2.2.2.2.2.2.2.2.2.1.getD i T14.dflt :: b.2.2.2.2.2.2.2.2.2.2.2.2.2.2.2.2.2.2.2.2.1.drop (i + 1) := drop_cons' (b.2.2.2.2.2.2.2.2.2.2.2.2.2.2.2.2.2.2.2.2.1) i T14.dflt (by omega)
    rw [hrw, brkL] at he
    rw [f_u41_5, decide_eq_true (by omega : (i : Int) < (b.2.2.2.2.2.2.2.2.2.2.2.2.2.2.2.2.2.2.2.2.1.length : Int)), cond_true, if_pos ⟨by omega, by omega⟩, Int.toNat_natCast, wrapS i (by omega), aw, av, Option.isSome_some, if_pos rfl]
    obtain ⟨x, hX⟩ : ∃ x : Int, (b.2.2.2.2.2.2.2.2.2.2.2.2.2.2.2.2.2.2.2.2.1.getD i T14.dflt).2.2.2 = x := ⟨_, rfl⟩
    rw [hX] at he
    rw [hX]
    by_cases hb : 0 ≤ x ∧ x ≤ 206158430208000
    · have hb1 : (decide (x < (0 : Int)) || decide (x > (206158430208000 : Int))) = false := by rw [decide_eq_false (by omega : ¬ x < 0), decide_eq_false (by omega : ¬ x > 206158430208000)]; rfl
      have hmx : max 0 (min x 206158430208000) = x := by omega
      rw [hmx] at he
      rw [hb1, cond_false, wrap_id (by omega) (by omega)]
      exact ih (i + 1) j _ (by omega) (by omega) (by omega) (by omega) (by rw [← he]; omega)
    · have hb1 : (decide (x < (0 : Int)) || decide (x > (206158430208000 : Int))) = true := by
        by_cases h : x < 0
        · rw [decide_eq_true h, Bool.true_or]
        · rw [decide_eq_true (by omega : x > 206158430208000), Bool.or_true]
      rw [hb1, cond_true]
theorem q_AuditBalance (k : Nat) (hk : 300000 ≤ k) (aw : f_u43 k = some true) (b : T17.T) (hw : Wf T17 b) : f_u41 k b = some true := by
  obtain ⟨r, h1, h2⟩ := great_w k (by omega) b hw
  have av : v_u43 k = true := by unfold v_u43; rw [aw]; rfl
  have gv : v_u45 k b = r := by unfold v_u45; rw [h1]; rfl
  unfold f_u41
  rw [h1, gv, aw, av]
  cases r with
  | true => rfl
  | false =>
    have g := h2 rfl
    have hc := fam_Check_s k hk (b.2.2.2.2.2.2.2.2.2.2.2.1) (b.2.1) (b.2.2.1)
    have hcv : v_u24 k (b.2.2.2.2.2.2.2.2.2.2.2.1) (b.2.1) (b.2.2.1) = checkS (b.2.2.2.2.2.2.2.2.2.2.2.1) (b.2.1) (b.2.2.1) := by unfold v_u24; rw [hc]; rfl
    rw [cond_false, hc, hcv, if_pos ⟨rfl, rfl, rfl⟩, Bool.false_or]
    cases hg : (checkS (b.2.2.2.2.2.2.2.2.2.2.2.1) (b.2.1) (b.2.2.1) != (0 : Int) || (b.2.2.2.2.2.2.2.2.2.2.2.2.1.length : Int) != (b.2.2.2.2.2.2.2.2.2.2.2.1.length : Int) || decide (b.2.2.2.1 < (0 : Int)) || decide (b.2.2.2.1 > b.2.2.1))
    · simp only [Bool.or_eq_false_iff] at hg
      obtain ⟨⟨⟨g1, g2⟩, g3⟩, g4⟩ := hg
      have hz : checkS (b.2.2.2.2.2.2.2.2.2.2.2.1) (b.2.1) (b.2.2.1) = 0 := by simpa using g1
      have hu : b.2.2.2.2.2.2.2.2.2.2.2.2.1.length = b.2.2.2.2.2.2.2.2.2.2.2.1.length := by
        have : (b.2.2.2.2.2.2.2.2.2.2.2.2.1.length : Int) = (b.2.2.2.2.2.2.2.2.2.2.2.1.length : Int) := by simpa using g2
        omega
      obtain ⟨MM, _, hs, _⟩ := (fam_open k hk (b.2.2.2.2.2.2.2.2.2.2.2.1) (b.2.1, b.2.2.1)).2 hz
      have hreg := checkS_zero.1 hz
      have hB : ¬ ((b.2.2.2.1 : Int) < 0 ∨ (b.2.2.2.1 : Int) > b.2.2.1) := fun h => by
        rcases h with h | h
        · exact (of_decide_eq_false g3) h
        · exact (of_decide_eq_false g4) h
      have hcl := covL_in (b.2.2.2.2.2.2.2.2.2.2.2.2.2.1) (b.2.2.2.2.2.2.2.2.2.2.2.1) (b.2.2.2.2.2.2.2.2.2.2.2.2.1) hs
      have hbr := brkL_in (b.2.2.2.2.2.2.2.2.2.2.2.2.2.2.2.2.2.2.2.2.1)
      have hbl := g.bBroke
      rw [cond_false]
      have h5 := fun W M B (eW : b.2.1 = W) (eM : b.2.2.1 = M) (eB : b.2.2.2.1 = B) hW hM hB => bal_5 k hk aw b g W M B eW eM eB hW hM hB hz hs hu (b.2.2.2.2.2.2.2.2.2.2.2.2.2.2.2.2.2.2.2.2.1.length) 0 k (W * (M - B)) (by omega) (by omega)
      have hB0 : (0 : Int) ≤ b.2.2.2.1 := Int.not_lt.1 (fun h => hB (.inl h))
      have hB1 : (b.2.2.2.1 : Int) ≤ b.2.2.1 := Int.not_lt.1 (fun h => hB (.inr h))
      have hW := hreg.w
      have hM := hreg.len
      have h6 := h5 (b.2.1) (b.2.2.1) (b.2.2.2.1) rfl rfl rfl hW hM hB
      generalize hWv : (b.2.1 : Int) = W at *
      generalize hMv : (b.2.2.1 : Int) = M at *
      generalize hBv : (b.2.2.2.1 : Int) = B at *
      have hmu := wmul_in (w := W) (n := M - B) (Int.le_trans (by decide) hW.1) hW.2 (Int.sub_nonneg_of_le hB1) (Int.le_trans (Int.sub_le_self M hB0) hM.2)
      have e1 : IntKind.i64.wrap (M - B) = M - B := wrap_id (Int.le_trans (by decide) (Int.sub_nonneg_of_le hB1)) (Int.lt_of_le_of_lt (Int.le_trans (Int.sub_le_self M hB0) hM.2) (by decide))
      have e2 : IntKind.i64.wrap (W * (M - B)) = W * (M - B) := wrap_id (Int.le_trans (by decide) hmu.1) (Int.lt_of_le_of_lt hmu.2 (by decide))
      rw [e1, e2]
      refine h6 hmu.1 ?_ ?_
      · have := hmu.2
        generalize W * (M - B) = z at *
        omega
      · rw [List.drop_zero]
        unfold totS covS
        rw [Int.add_assoc, Int.add_comm (brkL _)]
    · rfl
end Go.AM
