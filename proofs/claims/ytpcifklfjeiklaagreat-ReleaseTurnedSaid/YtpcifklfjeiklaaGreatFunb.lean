/- Contracts of the functions that the law reaches, and the plain law. -/
import Derived.Test.YtpcifklfjeiklaaGreatFuna
set_option linter.unusedVariables false
set_option linter.unusedSimpArgs false
set_option linter.unusedSectionVars false
namespace Go.AM
open Go Go.Proofs

/-! ### images, and whether they are single -/
theorem spn_in {m : List Rn} (h : goods m) : In 0 17179869184 (m.map spn) := In.of fun s hs => by
  obtain ⟨r, hr, rfl⟩ := List.mem_map.1 hs
  obtain ⟨a, b, c, d⟩ := (h.mem r hr).lohi
  exact ⟨a, by show lo r ≤ hi r + 1; omega, by show hi r + 1 ≤ _; omega⟩
theorem normS_spn {m : List Rn} (h : Chk m) : normS (m.map spn) = (nf (m.map spn), 0) := by
  unfold normS
  rw [if_neg (fun e => e (chkS_zero.2 ⟨by rw [List.length_map]; exact h.len, spn_in h.goods⟩))]
theorem totalS_nf {m : List Rn} (h : Chk m) : totalS (nf (m.map spn)) = (tot (nf (m.map spn)), 0) := by
  have hi := spn_in h.goods
  have hl := nf_len hi
  have hm := h.len
  rw [List.length_map] at hl
  unfold totalS
  rw [if_neg (fun e => e (chkS_zero.2 ⟨by omega, nf_in hi⟩)), nf_self (nf_in hi) (nf_nr hi)]

theorem iso_images_s (k : Nat) (r : Rn) (h : good r) : f_u30 k r = some (spn r) := by
  have h' := h
  obtain ⟨g1, g2, g3, g4, _⟩ := h'
  obtain ⟨l1, l2, l3, l4⟩ := h.lohi
  unfold f_u30
  rw [wrap_id (i := r.snd.fst - 1) (by omega) (by omega), iso_image_s k r _ (by omega) (by omega) (by omega) (by omega), iso_image_v k r _ (by omega) (by omega) (by omega) (by omega), max_ends h, min_ends h, wrap_id (by omega) (by omega)]
  rfl
theorem iso_images_v (k : Nat) (r : Rn) (h : good r) : v_u30 k r = spn r := by
  unfold v_u30; rw [iso_images_s k r h]; rfl

theorem iso_Image_l (k : Nat) (hk : 2100 ≤ k) (m : List Rn) (hc : Chk m) : ∀ (j i : Nat), i ≤ m.length → m.length - i + 1 < j →
    f_u22_6 k j m (m.length : Int) (i : Int) ((m.take i).map spn) = some (nf (m.map spn), 0) := by
  have hml := hc.len
  intro j
  induction j with
  | zero => intros; omega
  | succ j ih =>
    intro i hi hj
    rw [f_u22_6]
    by_cases h : i < m.length
    · have hgr : good (m.getD i T0.dflt) := hc.goods.mem _ (by simp [h])
      have ht := take_snoc m i T0.dflt h
      have := ih (i + 1) (by omega) (by omega)
      rw [ht, List.map_append] at this
      rw [decide_eq_true (by omega : (i : Int) < (m.length : Int)), cond_true, if_pos ⟨by omega, by omega⟩, Int.toNat_natCast, iso_images_s k _ hgr, iso_images_v k _ hgr, if_pos ⟨rfl, by rw [List.length_map, List.length_take, List.length_singleton]; omega⟩, wrapS i (by omega)]
      exact this
    · obtain ⟨j, rfl⟩ : ∃ q, j = q + 1 := ⟨j - 1, by omega⟩
      rw [decide_eq_false (by omega : ¬ (i : Int) < (m.length : Int)), cond_false, List.take_of_length_le (by omega), f_u22_10, span_Norm_s k hk, span_Norm_v k hk, normS_spn hc]
      rfl
theorem iso_Image_s (k : Nat) (hk : 2100 ≤ k) (m : List Rn) : f_u22 k m = some (imageS m) := by
  unfold f_u22 imageS
  rw [iso_Check_s k (by omega), iso_Check_v k (by omega), Option.isSome_some, if_pos rfl]
  by_cases h1 : chk m = 0
  · have hc := chk_zero.1 h1
    have hml := hc.len
    rw [show (chk m != 0) = false by simp [h1], cond_false, if_neg (fun h : chk m ≠ 0 => h h1)]
    exact iso_Image_l k hk m hc k 0 (by omega) (by omega)
  · rw [show (chk m != 0) = true by simp [h1], cond_true, if_pos h1]
theorem iso_Image_v (k : Nat) (hk : 2100 ≤ k) (m : List Rn) : v_u22 k m = imageS m := by
  unfold v_u22; rw [iso_Image_s k hk]; rfl

theorem iso_Single_s (k : Nat) (hk : 2100 ≤ k) (m : List Rn) : f_u24 k m = some (singleS m) := by
  unfold f_u24 singleS
  rw [iso_Image_s k hk, iso_Image_v k hk, Option.isSome_some, if_pos rfl]
  unfold imageS
  by_cases h1 : chk m = 0
  · have hc := chk_zero.1 h1
    have hml := hc.len
    rw [if_neg (fun h : chk m ≠ 0 => h h1), decide_eq_true h1, Bool.true_and]
    show (bif (0 : Int) != 0 then _ else _) = _
    rw [show ((0 : Int) != 0) = false from rfl, cond_false]
    show (if (f_u110 k (nf (m.map spn))).isSome = true then _ else none) = _
    rw [span_Total_s k (by omega)]
    show (bif ((v_u110 k (nf (m.map spn))).snd == 0) then _ else _) = _
    rw [span_Total_v k (by omega), totalS_nf hc, iso_length_s k m hc.goods (by omega) (by omega), iso_length_v k m hc.goods (by omega) (by omega)]
    rfl
  · rw [if_pos h1, decide_eq_false h1, Bool.false_and]
    show (bif chk m != 0 then some false else _) = _
    rw [show (chk m != 0) = true by simp [h1], cond_true]
theorem iso_Single_v (k : Nat) (hk : 2100 ≤ k) (m : List Rn) : v_u24 k m = singleS m := by
  unfold v_u24; rw [iso_Single_s k hk]; rfl

end Go.AM
namespace Go.AM
open Go Go.Proofs
noncomputable section
abbrev R_u7 : Type := Int × Int
def res_u7 (r : R_u7) : AV := .tup [.r (.v (.int .i64 r.1)), .r (.v (.int .i64 r.2))]
def bo_u7 (x_ : T0.T) (r : R_u7) : List (Nat × Blk) := []
def args_u7 (x_ : T0.T) : List AV := [.agg (rvs (enc T0 x_))]
def bin_u7 (x_ : T0.T) : List Blk := []
abbrev C_u7 (x_ : T0.T) (r : R_u7) : Prop := CC Tryz.prog 103 (args_u7 x_) (bin_u7 x_) (res_u7 r) (bo_u7 x_ r)
def f_u7 (k : Nat) (x_ : T0.T) : Option R_u7 :=
  bif x_.2.2 then
  some ((IntKind.i64.wrap (IntKind.i64.wrap (x_.1 - x_.2.1) + 1), x_.1))
  else
  some ((x_.1, IntKind.i64.wrap (IntKind.i64.wrap (x_.1 + x_.2.1) - 1)))
def v_u7 (k : Nat) (x_ : T0.T) : R_u7 := (f_u7 k x_).getD (0, 0)
def ke_u7 (k : Nat) : Ke := (103, fun xs => match xs with
  | [_] => some [false]
  | _ => none, fun xs bs => match xs, bs with
  | [.agg qx_], [] => (decS [] T0 qx_).bind fun x_ => some (.one (res_u7 (v_u7 k x_), bo_u7 x_ (v_u7 k x_)))
  | _, _ => none)
theorem of_u7 (k : Nat) (x_ : T0.T) (r : R_u7) (h : f_u7 k x_ = some r) : C_u7 x_ r := by
  refine CC.of (fn := Tryz.f103) (by kernel_rfl) (by kernel_rfl) (by kernel_rfl) (by kernel_rfl) ?_
  unfold f_u7 at h
  exact go (mkK []) [] [] [.autoB [2, 3] true []] (gT h (fun c h => gL h) fun c h => gL h) (by kernel_rfl)
theorem cc_u7 {k : Nat} {x_ : T0.T} (h : (f_u7 k x_).isSome = true) : C_u7 x_ (v_u7 k x_) := ccG (Φ := C_u7 x_) h (of_u7 k x_)
abbrev R_u10 : Type := Bool
def res_u10 (r : R_u10) : AV := .r (.v (.bool r))
def bo_u10 (a_ : T1.T) (b_ : T1.T) (r : R_u10) : List (Nat × Blk) := []
def args_u10 (a_ : T1.T) (b_ : T1.T) : List AV := [.agg (rvs (enc T1 a_)), .agg (rvs (enc T1 b_))]
def bin_u10 (a_ : T1.T) (b_ : T1.T) : List Blk := []
abbrev C_u10 (a_ : T1.T) (b_ : T1.T) (r : R_u10) : Prop := CC Tryz.prog 85 (args_u10 a_ b_) (bin_u10 a_ b_) (res_u10 r) (bo_u10 a_ b_ r)
def st_u10_4 (y0 : List (T0).T) (y1 : Int) (y2 : Int) (y3 : T1.T) : St := ⟨mkS 65 [(3, .ptr 1000000 0 0), (32, .r (.ro T0 y0)), (33, .r (.v (.int .i64 y1))), (34, .r (.v (.int .i64 y2)))], [(1000000, 0, .var 50 (rvs (enc T1 y3)))]⟩
def st_u10_8 (y0 : Int) (y1 : Int) (y2 : List (T0).T) (y3 : Int) (y4 : Int) (y5 : List (T0).T) (y6 : Int) (y7 : Int) (y8 : T1.T) : St := ⟨mkS 65 [(3, .ptr 1000000 0 0), (7, .r (.v (.int .i64 y0))), (8, .r (.v (.int .i64 y1))), (32, .r (.ro T0 y2)), (33, .r (.v (.int .i64 y3))), (34, .r (.v (.int .i64 y4))), (44, .r (.ro T0 y5)), (45, .r (.v (.int .i64 y6))), (46, .r (.v (.int .i64 y7)))], [(1000000, 0, .var 50 (rvs (enc T1 y8)))]⟩
mutual
def f_u10_4 (k : Nat) : Nat → List (T0).T → Int → Int → T1.T → Option R_u10
  | 0, _, _, _, _ => none
  | j + 1, y0, y1, y2, y3 =>
  bif (decide (y2 < y1)) then
  if (0 ≤ y2) ∧ (y2 < (↑y0.length : Int)) then
  if ((f_u7 k (y0.getD y2.toNat T0.dflt)).isSome = true) then
  f_u10_8 k j ((v_u7 k (y0.getD y2.toNat T0.dflt)).1) ((v_u7 k (y0.getD y2.toNat T0.dflt)).2) y0 y1 y2 y3.2.2.2 ((↑ (List.length y3.2.2.2) : Int)) 0 y3
  else none
  else none
  else
  some false
def f_u10_8 (k : Nat) : Nat → Int → Int → List (T0).T → Int → Int → List (T0).T → Int → Int → T1.T → Option R_u10
  | 0, _, _, _, _, _, _, _, _, _ => none
  | j + 1, y0, y1, y2, y3, y4, y5, y6, y7, y8 =>
  bif (decide (y7 < y6)) then
  if (0 ≤ y7) ∧ (y7 < (↑y5.length : Int)) then
  if ((f_u7 k (y5.getD y7.toNat T0.dflt)).isSome = true) then
  bif (decide (y0 ≤ (v_u7 k (y5.getD y7.toNat T0.dflt)).2) && decide ((v_u7 k (y5.getD y7.toNat T0.dflt)).1 ≤ y1)) then
  some true
  else
  f_u10_8 k j y0 y1 y2 y3 y4 y5 y6 ((IntKind.i64.wrap (y7 + 1))) y8
  else none
  else none
  else
  f_u10_4 k j y2 y3 ((IntKind.i64.wrap (y4 + 1))) y8
end
def f_u10 (k : Nat) (a_ : T1.T) (b_ : T1.T) : Option R_u10 :=
  bif (decide (IntKind.i64.wrap (a_.1 + a_.2.1) ≤ b_.1) || decide (IntKind.i64.wrap (b_.1 + b_.2.1) ≤ a_.1)) then
  some false
  else
  f_u10_4 k k a_.2.2.2 ((↑ (List.length a_.2.2.2) : Int)) 0 b_
def v_u10 (k : Nat) (a_ : T1.T) (b_ : T1.T) : R_u10 := (f_u10 k a_ b_).getD false
def ke_u10 (k : Nat) : Ke := (85, fun xs => match xs with
  | [_, _] => some [false, false]
  | _ => none, fun xs bs => match xs, bs with
  | [.agg qa_, .agg qb_], [] => (decS [] T1 qa_).bind fun a_ => (decS [] T1 qb_).bind fun b_ => some (.one (res_u10 (v_u10 k a_ b_), bo_u10 a_ b_ (v_u10 k a_ b_)))
  | _, _ => none)
def cs_u10 : List (Nat × List Cmd) := [(4, [.autoB [3, 32, 33, 34] false []]), (8, [.autoB [3, 7, 8, 32, 33, 34, 44, 45, 46] false []])]
abbrev E_u10 (a_ : T1.T) (b_ : T1.T) (todo : List Item) (st : St) (o : Option R_u10) : Prop := ∀ r, o = some r → Ev Tryz.prog Tryz.f85 0 todo st (res_u10 r) (bo_u10 a_ b_ r)
theorem ev_u10 (k : Nat) (a_ : T1.T) (b_ : T1.T) : ∀ j, (∀ (y0 : List (T0).T) (y1 : Int) (y2 : Int) (y3 : T1.T), E_u10 a_ b_ (placeAt Tryz.f85 4) (st_u10_4 y0 y1 y2 y3) (f_u10_4 k j y0 y1 y2 y3)) ∧ (∀ (y0 : Int) (y1 : Int) (y2 : List (T0).T) (y3 : Int) (y4 : Int) (y5 : List (T0).T) (y6 : Int) (y7 : Int) (y8 : T1.T), E_u10 a_ b_ (placeAt Tryz.f85 8) (st_u10_8 y0 y1 y2 y3 y4 y5 y6 y7 y8) (f_u10_8 k j y0 y1 y2 y3 y4 y5 y6 y7 y8))
  | 0 => ⟨fun _ _ _ _ _ h => (nomatch h), fun _ _ _ _ _ _ _ _ _ _ h => (nomatch h)⟩
  | j + 1 => by
    have ih := @ev_u10 k a_ b_ j
    refine ⟨?_, ?_⟩
    · intro y0 y1 y2 y3 r h
      rw [f_u10_4] at h
      exact go (mkK [ke_u7 k]) [] cs_u10 [.autoB [4] true []] (gT h (fun c h => gN2 h fun h => gN1 h (fun q => cc_u7 q) fun h => gC h 8 (ih.2 _ _ _ _ _ _ _ _ _ _)) fun c h => gL h) (by kernel_rfl)
    · intro y0 y1 y2 y3 y4 y5 y6 y7 y8 r h
      rw [f_u10_8] at h
      exact go (mkK [ke_u7 k]) [] cs_u10 [.autoB [4] true []] (gT h (fun c h => gN2 h fun h => gN1 h (fun q => cc_u7 q) fun h => gT h (fun c h => gL h) fun c h => gC h 8 (ih.2 _ _ _ _ _ _ _ _ _ _)) fun c h => gC h 4 (ih.1 _ _ _ _ _)) (by kernel_rfl)
theorem of_u10 (k : Nat) (a_ : T1.T) (b_ : T1.T) (r : R_u10) (h : f_u10 k a_ b_ = some r) : C_u10 a_ b_ r := by
  refine CC.of (fn := Tryz.f85) (by kernel_rfl) (by kernel_rfl) (by kernel_rfl) (by kernel_rfl) ?_
  unfold f_u10 at h
  exact go (mkK [ke_u7 k]) [] cs_u10 [.autoB [4] true []] (gT h (fun c h => gL h) fun c h => gC h 4 ((ev_u10 k a_ b_ k).1 _ _ _ _ _)) (by kernel_rfl)
theorem cc_u10 {k : Nat} {a_ : T1.T} {b_ : T1.T} (h : (f_u10 k a_ b_).isSome = true) : C_u10 a_ b_ (v_u10 k a_ b_) := ccG (Φ := C_u10 a_ b_) h (of_u10 k a_ b_)
end
end Go.AM
namespace Go.AM
open Go Go.Proofs
noncomputable section
end
end Go.AM
namespace Go.AM
open Go Go.Proofs
noncomputable section
end
end Go.AM
namespace Go.AM
open Go Go.Proofs
noncomputable section
end
end Go.AM
namespace Go.AM
open Go Go.Proofs
noncomputable section
abbrev R_u23 : Type := Int × Int
def res_u23 (r : R_u23) : AV := .tup [.r (.v (.int .i64 r.1)), .r (.v (.int .i64 r.2))]
def bo_u23 (m_ : List (T0).T) (r : R_u23) : List (Nat × Blk) := []
def args_u23 (m_ : List (T0).T) : List AV := [.r (.ro T0 m_)]
def bin_u23 (m_ : List (T0).T) : List Blk := []
abbrev C_u23 (m_ : List (T0).T) (r : R_u23) : Prop := CC Tryz.prog 21 (args_u23 m_) (bin_u23 m_) (res_u23 r) (bo_u23 m_ r)
def f_u23 (k : Nat) (m_ : List (T0).T) : Option R_u23 :=
  if ((f_u18 k m_).isSome = true) then
  bif (v_u18 k m_ != (0 : Int)) then
  some ((0, v_u18 k m_))
  else
  if ((f_u31 k m_).isSome = true) then
  some ((v_u31 k m_, 0))
  else none
  else none
def v_u23 (k : Nat) (m_ : List (T0).T) : R_u23 := (f_u23 k m_).getD (0, 0)
def ke_u23 (k : Nat) : Ke := (21, fun xs => match xs with
  | [_] => some [false]
  | _ => none, fun xs bs => match xs, bs with
  | [.r (.ro tm__ qm_)], [] => (castL tm__ T0 qm_).bind fun m_ => some (.one (res_u23 (v_u23 k m_), bo_u23 m_ (v_u23 k m_)))
  | _, _ => none)
theorem of_u23 (k : Nat) (m_ : List (T0).T) (r : R_u23) (h : f_u23 k m_ = some r) : C_u23 m_ r := by
  refine CC.of (fn := Tryz.f21) (by kernel_rfl) (by kernel_rfl) (by kernel_rfl) (by kernel_rfl) ?_
  unfold f_u23 at h
  exact go (mkK [ke_u18 k, ke_u31 k]) [] [] [.autoB [2, 3] true []] (gN1 h (fun q => cc_u18 q) fun h => gT h (fun c h => gL h) fun c h => gN1 h (fun q => cc_u31 q) fun h => gL h) (by kernel_rfl)
theorem cc_u23 {k : Nat} {m_ : List (T0).T} (h : (f_u23 k m_).isSome = true) : C_u23 m_ (v_u23 k m_) := ccG (Φ := C_u23 m_) h (of_u23 k m_)

end
theorem getD_mem' {α : Type} (l : List α) (i : Nat) (d : α) (h : i < l.length) : l.getD i d ∈ l := by simp [h]
theorem getD_app {α : Type} (p t : List α) (i : Nat) (d : α) (h : i < p.length) : (p ++ t).getD i d = p.getD i d := by simp [List.getElem?_append_left h]
/-! ### the ends of runs, and whether cuts meet -/
theorem fam_bounds_s (k : Nat) (r : Rn) (h : good r) : f_u7 k r = some (lo r, Go.AM.hi r) := by
  obtain ⟨h1, h2, h3, h4, h5, h6⟩ := h
  unfold f_u7 lo Go.AM.hi
  cases hb : r.2.2
  · have := h6 hb
    rw [cond_false, wrap_id (i := r.1 + r.2.1) (by omega) (by omega), wrap_id (by omega) (by omega)]; rfl
  · have := h5 hb
    rw [cond_true, wrap_id (i := r.1 - r.2.1) (by omega) (by omega), wrap_id (by omega) (by omega)]; rfl
theorem fam_bounds_v (k : Nat) (r : Rn) (h : good r) : v_u7 k r = (lo r, Go.AM.hi r) := by
  unfold v_u7; rw [fam_bounds_s k r h]; rfl
def touch (x y : Rn) : Bool := decide (lo x ≤ Go.AM.hi y) && decide (lo y ≤ Go.AM.hi x)
theorem meetS_eq (a b : List Rn) : meetS a b = a.any fun x => b.any fun y => touch x y := rfl

theorem fam_overlap_8 (k : Nat) (x : Rn) (a : List Rn) (la i : Int) (c : Ch) (m : List Rn) (hm : goods m) (hl : m.length ≤ 256) : ∀ (d q n : Nat), q + d = m.length →
    f_u10_8 k (n + d + 1) (lo x) (Go.AM.hi x) a la i m (m.length : Int) (q : Int) c = if (m.drop q).any (touch x) = true then some true else f_u10_4 k n a la (IntKind.i64.wrap (i + 1)) c := by
  intro d
  induction d with
  | zero =>
    intro q n hq
    rw [f_u10_8, decide_eq_false (by omega : ¬ (q : Int) < (m.length : Int)), cond_false, List.drop_of_length_le (by omega), List.any_nil, if_neg (by decide)]
  | succ d ih =>
    intro q n hq
    have hg : good (m.getD q T0.dflt) := hm.mem _ (getD_mem' _ _ _ (by omega))
    rw [show n + (d + 1) + 1 = (n + d + 1) + 1 from rfl, f_u10_8, decide_eq_true (by omega : (q : Int) < (m.length : Int)), cond_true, if_pos ⟨by omega, by omega⟩, Int.toNat_natCast, fam_bounds_s k _ hg, fam_bounds_v k _ hg, Option.isSome_some, if_pos rfl, drop_cons' m q T0.dflt (by omega), List.any_cons, wrapS q (by omega), ih (q + 1) n (by omega)]
    show (bif touch x (m.getD q T0.dflt) then _ else _) = _
    cases touch x (m.getD q T0.dflt)
    · rw [cond_false, Bool.false_or]
    · rw [cond_true, Bool.true_or, if_pos rfl]
set_option maxRecDepth 20000 in
theorem fam_overlap_4 (k : Nat) (a : List Rn) (ha : goods a) (hl : a.length ≤ 256) (c : Ch) (hc : goods c.2.2.2) (hcl : c.2.2.2.length ≤ 256) : ∀ (d i j : Nat), i + d = a.length → d * 258 < j →
    f_u10_4 k j a (a.length : Int) (i : Int) c = some (meetS (a.drop i) c.2.2.2) := by
  intro d
  induction d with
  | zero =>
    intro i j hi hj
    obtain ⟨j, rfl⟩ : ∃ q, j = q + 1 := ⟨j - 1, by omega⟩
    rw [f_u10_4, decide_eq_false (by omega : ¬ (i : Int) < (a.length : Int)), cond_false, List.drop_of_length_le (by omega)]
    rfl
  | succ d ih =>
    intro i j hi hj
    obtain ⟨j, rfl⟩ : ∃ q, j = (q + c.2.2.2.length + 1) + 1 := ⟨j - c.2.2.2.length - 2, by omega⟩
    have hg : good (a.getD i T0.dflt) := ha.mem _ (getD_mem' _ _ _ (by omega))
    have h8 := fam_overlap_8 k (a.getD i T0.dflt) a (a.length : Int) (i : Int) c c.2.2.2 hc hcl c.2.2.2.length 0 j (by omega)
    rw [f_u10_4, decide_eq_true (by omega : (i : Int) < (a.length : Int)), cond_true, if_pos ⟨by omega, by omega⟩, Int.toNat_natCast, fam_bounds_s k _ hg, fam_bounds_v k _ hg, Option.isSome_some, if_pos rfl, drop_cons' a i T0.dflt (by omega), meetS_eq, List.any_cons]
    refine (h8.trans ?_)
    rw [List.drop_zero, wrapS i (by omega), ih (i + 1) j (by omega) (by omega), meetS_eq]
    by_cases h : (c.2.2.2.any (touch (a.getD i T0.dflt))) = true
    · rw [if_pos h, show (c.2.2.2.any fun y => touch (a.getD i T0.dflt) y) = true from h, Bool.true_or]
    · rw [if_neg h, show (c.2.2.2.any fun y => touch (a.getD i T0.dflt) y) = false from by simpa using h, Bool.false_or]
/-- a cut whose numbers do not overflow -/
structure Small (c : Ch) : Prop where
  l0 : 0 ≤ c.1
  w0 : 1 ≤ c.2.1
  r0 : c.1 + c.2.1 ≤ 12000
  chk : Chk c.2.2.2
theorem fam_overlap_s (k : Nat) (hk : 70000 ≤ k) (a b : Ch) (ha : Small a) (hb : Small b) : f_u10 k a b = some (ovlS a b) := by
  obtain ⟨a1, a2, a3, a4⟩ := ha
  obtain ⟨b1, b2, b3, b4⟩ := hb
  unfold f_u10 ovlS
  rw [wrap_id (i := a.1 + a.2.1) (by omega) (by omega), wrap_id (i := b.1 + b.2.1) (by omega) (by omega)]
  by_cases h1 : a.1 + a.2.1 ≤ b.1
  · rw [decide_eq_true h1, Bool.true_or, cond_true, decide_eq_false (by omega : ¬ b.1 < a.1 + a.2.1), Bool.and_false, Bool.false_and]
  · by_cases h2 : b.1 + b.2.1 ≤ a.1
    · rw [decide_eq_true h2, Bool.or_true, cond_true, decide_eq_false (by omega : ¬ a.1 < b.1 + b.2.1), Bool.false_and, Bool.false_and]
    · rw [decide_eq_false h1, decide_eq_false h2, Bool.or_false, cond_false, decide_eq_true (by omega : b.1 < a.1 + a.2.1), decide_eq_true (by omega : a.1 < b.1 + b.2.1), Bool.and_true, Bool.true_and]
      have h1 := a4.len
      exact fam_overlap_4 k a.2.2.2 a4.goods h1 b b4.goods b4.len a.2.2.2.length 0 k (by omega) (by omega)
theorem fam_overlap_v (k : Nat) (hk : 70000 ≤ k) (a b : Ch) (ha : Small a) (hb : Small b) : v_u10 k a b = ovlS a b := by
  unfold v_u10; rw [fam_overlap_s k hk a b ha hb]; rfl

/-! ### lengths -/
theorem iso_Length_s (k : Nat) (hk : 2100 ≤ k) (m : List Rn) (h : Chk m) : f_u23 k m = some (lenS m, 0) := by
  have h1 := h.len
  unfold f_u23
  rw [iso_Check_s k (by omega), iso_Check_v k (by omega), Option.isSome_some, if_pos rfl, chk_zero.2 h]
  show (if _ then _ else _) = _
  rw [iso_length_s k m h.goods (by omega) (by omega), iso_length_v k m h.goods (by omega) (by omega)]
  rfl
theorem iso_Length_v (k : Nat) (hk : 2100 ≤ k) (m : List Rn) (h : Chk m) : v_u23 k m = (lenS m, 0) := by
  unfold v_u23; rw [iso_Length_s k hk m h]; rfl

/-! ### numbers of rolls -/
/-- the place of a number among rolls -/
def At (p : List Ro) (id : Int) (i : Option Int) : Prop := match look p id with
  | none => i = none
  | some r => ∃ q : Nat, i = some (q : Int) ∧ q < p.length ∧ ∀ d, p.getD q d = r
theorem At.none {p : List Ro} {id : Int} {i : Option Int} (h : At p id i) (e : look p id = .none) : i = .none := by
  unfold At at h; rw [e] at h; exact h
theorem At.some {p : List Ro} {id : Int} {i : Option Int} {r : Ro} (h : At p id i) (e : look p id = .some r) : ∃ q : Nat, i = .some (q : Int) ∧ q < p.length ∧ ∀ d, p.getD q d = r := by
  unfold At at h; rw [e] at h; exact h

theorem mget_mset (id v : Int) (x : Int) : ∀ M : List (Int × Int), mget I x (mset I id v M) = if x = id then some v else mget I x M
  | [] => by
    show (bif (x == id) then some v else none) = _
    by_cases h : x = id
    · rw [show (x == id) = true by simp [h], if_pos h]; rfl
    · rw [show (x == id) = false by simp [h], if_neg h]; rfl
  | p :: t => by
    unfold mset
    by_cases h : id = p.1
    · rw [show eqK I id p.1 = true from by show (id == p.1) = true; simp [h], cond_true]
      show (bif (x == id) then some v else mget I x t) = _
      by_cases h2 : x = id
      · simp [h2]
      · rw [if_neg h2, show (x == id) = false by simp [h2], cond_false, mget, show eqK I x p.1 = false from by show (x == p.1) = false; rw [← h]; simp [h2], cond_false]
    · rw [show eqK I id p.1 = false from by show (id == p.1) = false; simp [h], cond_false, mget, mget_mset id v x t]
      show (bif (x == p.1) then some p.2 else _) = if _ then _ else (bif (x == p.1) then some p.2 else _)
      by_cases h2 : x = id
      · rw [if_pos h2, if_pos h2, show (x == p.1) = false by rw [h2]; simp [h], cond_false]
      · rw [if_neg h2, if_neg h2]
/-- a register's map of numbers -/
def RegOk (M : List (Int × Int)) (p : List Ro) : Prop := ∀ id, At p id (mget I id M)
theorem regOk_nil : RegOk [] [] := fun id => by unfold At look; rfl
theorem regOk_old {M : List (Int × Int)} {p : List Ro} (h : RegOk M p) (r : Ro) (hr : (look p r.1).isSome = true) : RegOk M (p ++ [r]) := fun id => by
  have h1 := h id
  unfold At at *
  rw [look_append]
  cases e : look p id with
  | some q =>
    rw [e] at h1
    obtain ⟨i, h2, h3, h4⟩ := h1
    exact ⟨i, h2, by rw [List.length_append]; omega, fun d => by rw [getD_app _ _ _ _ h3]; exact h4 d⟩
  | none =>
    rw [e] at h1
    have : r.1 ≠ id := fun e2 => by rw [e2, e] at hr; cases hr
    rw [Option.none_or, show look [r] id = none by unfold look; simp [this]]
    exact h1
theorem regOk_new {M : List (Int × Int)} {p : List Ro} (h : RegOk M p) (r : Ro) (hr : look p r.1 = none) : RegOk (mset I r.1 (p.length : Int) M) (p ++ [r]) := fun id => by
  have h1 := h id
  rw [mget_mset]
  unfold At at *
  rw [look_append]
  by_cases hi : id = r.1
  · rw [if_pos hi, hi, hr, Option.none_or, show look [r] r.1 = some r by unfold look; simp]
    exact ⟨p.length, rfl, by simp, fun d => by simp⟩
  · rw [if_neg hi]
    cases e : look p id with
    | some q =>
      rw [e] at h1
      obtain ⟨i, h2, h3, h4⟩ := h1
      exact ⟨i, h2, by rw [List.length_append]; omega, fun d => by rw [getD_app _ _ _ _ h3]; exact h4 d⟩
    | none =>
      rw [e] at h1
      rw [Option.none_or, show look [r] id = none by unfold look; simp [Ne.symm hi]]
      exact h1

end Go.AM
namespace Go.AM
open Go Go.Proofs
noncomputable section
abbrev R_u87 : Type := Int
def res_u87 (r : R_u87) : AV := .r (.v (.int .i64 r))
def bo_u87 (s_ : T3.T) (r : R_u87) : List (Nat × Blk) := []
def args_u87 (s_ : T3.T) : List AV := [.agg (rvs (enc T3 s_))]
def bin_u87 (s_ : T3.T) : List Blk := []
abbrev C_u87 (s_ : T3.T) (r : R_u87) : Prop := CC Tryz.prog 42 (args_u87 s_) (bin_u87 s_) (res_u87 r) (bo_u87 s_ r)
def f_u87 (k : Nat) (s_ : T3.T) : Option R_u87 :=
  bif (decide (s_.1 < (0 : Int)) || decide (s_.1 ≥ s_.2.1) || decide (s_.2.1 > (17179869184 : Int))) then
  some 1
  else
  bif (decide (s_.2.2.1 < (1 : Int)) || decide (s_.2.2.1 > (3 : Int))) then
  some 17
  else
  bif (decide (s_.2.2.2.1 < (-1 : Int)) || decide (s_.2.2.2.1 ≥ (16 : Int))) then
  some 22
  else
  bif (decide (s_.2.2.2.2 < (0 : Int)) || decide (s_.2.2.2.2 > (2048 : Int))) then
  some 1
  else
  some 0
def v_u87 (k : Nat) (s_ : T3.T) : R_u87 := (f_u87 k s_).getD 0
def ke_u87 (k : Nat) : Ke := (42, fun xs => match xs with
  | [_] => some [false]
  | _ => none, fun xs bs => match xs, bs with
  | [.agg qs_], [] => (decS [] T3 qs_).bind fun s_ => some (.one (res_u87 (v_u87 k s_), bo_u87 s_ (v_u87 k s_)))
  | _, _ => none)
theorem of_u87 (k : Nat) (s_ : T3.T) (r : R_u87) (h : f_u87 k s_ = some r) : C_u87 s_ r := by
  refine CC.of (fn := Tryz.f42) (by kernel_rfl) (by kernel_rfl) (by kernel_rfl) (by kernel_rfl) ?_
  unfold f_u87 at h
  exact go (mkK []) [] [] [.autoB [2] true []] (gT h (fun c h => gL h) fun c h => gT h (fun c h => gL h) fun c h => gT h (fun c h => gL h) fun c h => gT h (fun c h => gL h) fun c h => gL h) (by kernel_rfl)
theorem cc_u87 {k : Nat} {s_ : T3.T} (h : (f_u87 k s_).isSome = true) : C_u87 s_ (v_u87 k s_) := ccG (Φ := C_u87 s_) h (of_u87 k s_)
abbrev R_u85 : Type := Int
def res_u85 (r : R_u85) : AV := .r (.v (.int .i64 r))
def bo_u85 (l_ : List (T3).T) (r : R_u85) : List (Nat × Blk) := []
def args_u85 (l_ : List (T3).T) : List AV := [.r (.ro T3 l_)]
def bin_u85 (l_ : List (T3).T) : List Blk := []
abbrev C_u85 (l_ : List (T3).T) (r : R_u85) : Prop := CC Tryz.prog 17 (args_u85 l_) (bin_u85 l_) (res_u85 r) (bo_u85 l_ r)
def st_u85_4 (y0 : List (T3).T) (y1 : List (T3).T) (y2 : Int) (y3 : Int) : St := ⟨mkS 46 [(0, .r (.ro T3 y0)), (13, .r (.ro T3 y1)), (14, .r (.v (.int .i64 y2))), (15, .r (.v (.int .i64 y3)))], []⟩
def st_u85_12 (y0 : Int) (y1 : Int) (y2 : List (T3).T) (y3 : Int) (y4 : Int) : St := ⟨mkS 46 [(6, .r (.v (.int .i64 y0))), (7, .r (.v (.int .i64 y1))), (25, .r (.ro T3 y2)), (26, .r (.v (.int .i64 y3))), (27, .r (.v (.int .i64 y4)))], []⟩
mutual
def f_u85_4 (k : Nat) : Nat → List (T3).T → List (T3).T → Int → Int → Option R_u85
  | 0, _, _, _, _ => none
  | j + 1, y0, y1, y2, y3 =>
  bif (decide (y3 < y2)) then
  if (0 ≤ y3) ∧ (y3 < (↑y1.length : Int)) then
  if ((f_u87 k (y1.getD y3.toNat T3.dflt)).isSome = true) then
  bif (v_u87 k (y1.getD y3.toNat T3.dflt) != (0 : Int)) then
  some (v_u87 k (y1.getD y3.toNat T3.dflt))
  else
  f_u85_4 k j y0 y1 y2 ((IntKind.i64.wrap (y3 + 1)))
  else none
  else none
  else
  f_u85_12 k j 0 0 y0 ((↑y0.length : Int)) 0
def f_u85_12 (k : Nat) : Nat → Int → Int → List (T3).T → Int → Int → Option R_u85
  | 0, _, _, _, _, _ => none
  | j + 1, y0, y1, y2, y3, y4 =>
  bif (decide (y4 < y3)) then
  if (0 ≤ y4) ∧ (y4 < (↑y2.length : Int)) then
  bif ((y2.getD y4.toNat T3.dflt).1 != y0 || decide ((y2.getD y4.toNat T3.dflt).2.2.2.2 < y1)) then
  some 9
  else
  f_u85_12 k j ((y2.getD y4.toNat T3.dflt).2.1) ((y2.getD y4.toNat T3.dflt).2.2.2.2) y2 y3 ((IntKind.i64.wrap (y4 + 1)))
  else none
  else
  some 0
end
def f_u85 (k : Nat) (l_ : List (T3).T) : Option R_u85 :=
  bif (decide ((↑l_.length : Int) > (512 : Int))) then
  some 8
  else
  f_u85_4 k k l_ l_ ((↑l_.length : Int)) 0
def v_u85 (k : Nat) (l_ : List (T3).T) : R_u85 := (f_u85 k l_).getD 0
def ke_u85 (k : Nat) : Ke := (17, fun xs => match xs with
  | [_] => some [false]
  | _ => none, fun xs bs => match xs, bs with
  | [.r (.ro tl__ ql_)], [] => (castL tl__ T3 ql_).bind fun l_ => some (.one (res_u85 (v_u85 k l_), bo_u85 l_ (v_u85 k l_)))
  | _, _ => none)
def cs_u85 : List (Nat × List Cmd) := [(4, [.autoB [0, 13, 14, 15] false []]), (12, [.autoB [6, 7, 25, 26, 27] false []])]
abbrev E_u85 (l_ : List (T3).T) (todo : List Item) (st : St) (o : Option R_u85) : Prop := ∀ r, o = some r → Ev Tryz.prog Tryz.f17 0 todo st (res_u85 r) (bo_u85 l_ r)
theorem ev_u85 (k : Nat) (l_ : List (T3).T) : ∀ j, (∀ (y0 : List (T3).T) (y1 : List (T3).T) (y2 : Int) (y3 : Int), E_u85 l_ (placeAt Tryz.f17 4) (st_u85_4 y0 y1 y2 y3) (f_u85_4 k j y0 y1 y2 y3)) ∧ (∀ (y0 : Int) (y1 : Int) (y2 : List (T3).T) (y3 : Int) (y4 : Int), E_u85 l_ (placeAt Tryz.f17 12) (st_u85_12 y0 y1 y2 y3 y4) (f_u85_12 k j y0 y1 y2 y3 y4))
  | 0 => ⟨fun _ _ _ _ _ h => (nomatch h), fun _ _ _ _ _ _ h => (nomatch h)⟩
  | j + 1 => by
    have ih := @ev_u85 k l_ j
    refine ⟨?_, ?_⟩
    · intro y0 y1 y2 y3 r h
      rw [f_u85_4] at h
      exact go (mkK [ke_u87 k]) [] cs_u85 [.autoB [2] true []] (gT h (fun c h => gN2 h fun h => gN1 h (fun q => cc_u87 q) fun h => gT h (fun c h => gL h) fun c h => gC h 4 (ih.1 _ _ _ _ _)) fun c h => gC h 12 (ih.2 _ _ _ _ _ _)) (by kernel_rfl)
    · intro y0 y1 y2 y3 y4 r h
      rw [f_u85_12] at h
      exact go (mkK [ke_u87 k]) [] cs_u85 [.autoB [2] true []] (gT h (fun c h => gN2 h fun h => gT h (fun c h => gL h) fun c h => gC h 12 (ih.2 _ _ _ _ _ _)) fun c h => gL h) (by kernel_rfl)
theorem of_u85 (k : Nat) (l_ : List (T3).T) (r : R_u85) (h : f_u85 k l_ = some r) : C_u85 l_ r := by
  refine CC.of (fn := Tryz.f17) (by kernel_rfl) (by kernel_rfl) (by kernel_rfl) (by kernel_rfl) ?_
  unfold f_u85 at h
  exact go (mkK [ke_u87 k]) [] cs_u85 [.autoB [2] true []] (gT h (fun c h => gL h) fun c h => gC h 4 ((ev_u85 k l_ k).1 _ _ _ _ _)) (by kernel_rfl)
theorem cc_u85 {k : Nat} {l_ : List (T3).T} (h : (f_u85 k l_).isSome = true) : C_u85 l_ (v_u85 k l_) := ccG (Φ := C_u85 l_) h (of_u85 k l_)
abbrev R_u86 : Type := List (T3).T × Int
def res_u86 (r : R_u86) : AV := .tup [.r (.ro T3 r.1), .r (.v (.int .i64 r.2))]
def bo_u86 (l_ : List (T3).T) (s_ : T15.T) (r : R_u86) : List (Nat × Blk) := []
def args_u86 (l_ : List (T3).T) (s_ : T15.T) : List AV := [.r (.ro T3 l_), .agg (rvs (enc T15 s_))]
def bin_u86 (l_ : List (T3).T) (s_ : T15.T) : List Blk := []
abbrev C_u86 (l_ : List (T3).T) (s_ : T15.T) (r : R_u86) : Prop := CC Tryz.prog 46 (args_u86 l_ s_) (bin_u86 l_ s_) (res_u86 r) (bo_u86 l_ s_ r)
def st_u86_11 (y0 : List (T3).T) (y1 : Int) (y2 : Int) (y3 : T15.T) (y4 : List (T3).T) : St := ⟨mkS 77 [(3, .ptr 1000000 0 0), (8, .own 1000001 0), (42, .r (.ro T3 y0)), (43, .r (.v (.int .i64 y1))), (44, .r (.v (.int .i64 y2)))], [(1000000, 0, .var 86 (rvs (enc T15 y3))), (1000001, 0, .row 82 T3 y4)]⟩
def f_u86_11 (k : Nat) : Nat → List (T3).T → Int → Int → T15.T → List (T3).T → Option R_u86
  | 0, _, _, _, _, _ => none
  | j + 1, y0, y1, y2, y3, y4 =>
  bif (decide (y2 < y1)) then
  if (0 ≤ y2) ∧ (y2 < (↑y0.length : Int)) then
  bif (decide (IntKind.i64.wrap ((if y3.1 > (y0.getD y2.toNat T3.dflt).1 then y3.1 else (y0.getD y2.toNat T3.dflt).1) - y3.1) < IntKind.i64.wrap ((if y3.2 < (y0.getD y2.toNat T3.dflt).2.1 then y3.2 else (y0.getD y2.toNat T3.dflt).2.1) - y3.1))) then
  if ((y4.length + [(IntKind.i64.wrap ((if y3.1 > (y0.getD y2.toNat T3.dflt).1 then y3.1 else (y0.getD y2.toNat T3.dflt).1) - y3.1), IntKind.i64.wrap ((if y3.2 < (y0.getD y2.toNat T3.dflt).2.1 then y3.2 else (y0.getD y2.toNat T3.dflt).2.1) - y3.1), (y0.getD y2.toNat T3.dflt).2.2)].length) * (40 : Nat) ≤ (140737488355328 : Nat)) then
  f_u86_11 k j y0 y1 ((IntKind.i64.wrap (y2 + 1))) y3 ((y4 ++ [(IntKind.i64.wrap ((if y3.1 > (y0.getD y2.toNat T3.dflt).1 then y3.1 else (y0.getD y2.toNat T3.dflt).1) - y3.1), IntKind.i64.wrap ((if y3.2 < (y0.getD y2.toNat T3.dflt).2.1 then y3.2 else (y0.getD y2.toNat T3.dflt).2.1) - y3.1), (y0.getD y2.toNat T3.dflt).2.2)]))
  else none
  else
  f_u86_11 k j y0 y1 ((IntKind.i64.wrap (y2 + 1))) y3 y4
  else none
  else
  some ((y4, 0))
def f_u86 (k : Nat) (l_ : List (T3).T) (s_ : T15.T) : Option R_u86 :=
  if ((f_u85 k l_).isSome = true) then
  bif (v_u85 k l_ != (0 : Int)) then
  some (([], v_u85 k l_))
  else
  bif (decide ((↑l_.length : Int) > (0 : Int))) then
  if ((0 : Int) ≤ IntKind.i64.wrap ((↑l_.length : Int) - (1 : Int))) ∧ (IntKind.i64.wrap ((↑l_.length : Int) - (1 : Int)) < (↑l_.length : Int)) then
  bif (decide (s_.1 < (0 : Int)) || decide (s_.1 > s_.2) || decide (s_.2 > (l_.getD (IntKind.i64.wrap ((↑l_.length : Int) - (1 : Int))).toNat T3.dflt).2.1)) then
  some (([], 1))
  else
  f_u86_11 k k l_ ((↑l_.length : Int)) 0 s_ ([])
  else none
  else
  bif (decide (s_.1 < (0 : Int)) || decide (s_.1 > s_.2) || decide (s_.2 > (0 : Int))) then
  some (([], 1))
  else
  f_u86_11 k k l_ ((↑l_.length : Int)) 0 s_ ([])
  else none
def v_u86 (k : Nat) (l_ : List (T3).T) (s_ : T15.T) : R_u86 := (f_u86 k l_ s_).getD ([], 0)
def ke_u86 (k : Nat) : Ke := (46, fun xs => match xs with
  | [_, _] => some [false, false]
  | _ => none, fun xs bs => match xs, bs with
  | [.r (.ro tl__ ql_), .agg qs_], [] => (castL tl__ T3 ql_).bind fun l_ => (decS [] T15 qs_).bind fun s_ => some (.one (res_u86 (v_u86 k l_ s_), bo_u86 l_ s_ (v_u86 k l_ s_)))
  | _, _ => none)
def cs_u86 : List (Nat × List Cmd) := [(11, [.row 8 82 T3, .autoB [3, 8, 42, 43, 44] false []])]
abbrev E_u86 (l_ : List (T3).T) (s_ : T15.T) (todo : List Item) (st : St) (o : Option R_u86) : Prop := ∀ r, o = some r → Ev Tryz.prog Tryz.f46 0 todo st (res_u86 r) (bo_u86 l_ s_ r)
theorem ev_u86 (k : Nat) (l_ : List (T3).T) (s_ : T15.T) : ∀ j, (∀ (y0 : List (T3).T) (y1 : Int) (y2 : Int) (y3 : T15.T) (y4 : List (T3).T), E_u86 l_ s_ (placeAt Tryz.f46 11) (st_u86_11 y0 y1 y2 y3 y4) (f_u86_11 k j y0 y1 y2 y3 y4))
  | 0 => fun _ _ _ _ _ _ h => (nomatch h)
  | j + 1 => by
    have ih := @ev_u86 k l_ s_ j
    · intro y0 y1 y2 y3 y4 r h
      rw [f_u86_11] at h
      exact go (mkK [ke_u85 k]) [] cs_u86 [.frz 4 false (RTy.list T3), .autoB [4, 5] true []] (gT h (fun c h => gN2 h fun h => gT h (fun c h => gN1 h id fun h => gC h 11 (ih _ _ _ _ _ _)) fun c h => gC h 11 (ih _ _ _ _ _ _)) fun c h => gL h) (by kernel_rfl)
theorem of_u86 (k : Nat) (l_ : List (T3).T) (s_ : T15.T) (r : R_u86) (h : f_u86 k l_ s_ = some r) : C_u86 l_ s_ r := by
  refine CC.of (fn := Tryz.f46) (by kernel_rfl) (by kernel_rfl) (by kernel_rfl) (by kernel_rfl) ?_
  unfold f_u86 at h
  exact go (mkK [ke_u85 k]) [] cs_u86 [.frz 4 false (RTy.list T3), .autoB [4, 5] true []] (gN1 h (fun q => cc_u85 q) fun h => gT h (fun c h => gL h) fun c h => gT h (fun c h => gN2 h fun h => gT h (fun c h => gL h) fun c h => gC h 11 ((ev_u86 k l_ s_ k) _ _ _ _ _ _)) fun c h => gT h (fun c h => gL h) fun c h => gC h 11 ((ev_u86 k l_ s_ k) _ _ _ _ _ _)) (by kernel_rfl)
theorem cc_u86 {k : Nat} {l_ : List (T3).T} {s_ : T15.T} (h : (f_u86 k l_ s_).isSome = true) : C_u86 l_ s_ (v_u86 k l_ s_) := ccG (Φ := C_u86 l_ s_) h (of_u86 k l_ s_)
end
end Go.AM
namespace Go.AM
open Go Go.Proofs
noncomputable section
end
end Go.AM
namespace Go.AM
open Go Go.Proofs
noncomputable section
end
end Go.AM
namespace Go.AM
open Go Go.Proofs
noncomputable section
end
/-! ### sections -/
abbrev Sec := Int × Int × Int × Int × Int   -- From, To, Kind, Grade, Phase
def secOne (s : Sec) : Int :=
  bif (decide (s.1 < (0 : Int)) || decide (s.1 ≥ s.2.1) || decide (s.2.1 > (17179869184 : Int))) then 1
  else bif (decide (s.2.2.1 < (1 : Int)) || decide (s.2.2.1 > (3 : Int))) then 17
  else bif (decide (s.2.2.2.1 < (-1 : Int)) || decide (s.2.2.2.1 ≥ (16 : Int))) then 22
  else bif (decide (s.2.2.2.2 < (0 : Int)) || decide (s.2.2.2.2 > (2048 : Int))) then 1 else 0
def secGo : List Sec → Int
  | [] => 0
  | x :: t => bif secOne x != 0 then secOne x else secGo t
def secOrd (e p : Int) : List Sec → Int
  | [] => 0
  | x :: t => bif (x.1 != e || decide (x.2.2.2.2 < p)) then 9 else secOrd x.2.1 x.2.2.2.2 t
def secE (l : List Sec) : Int := if l.length > 512 then 8 else if secGo l ≠ 0 then secGo l else secOrd 0 0 l
theorem checkOne_s (k : Nat) (s : Sec) : f_u87 k s = some (secOne s) := by
  unfold f_u87 secOne
  cases (decide (s.1 < (0 : Int)) || decide (s.1 ≥ s.2.1) || decide (s.2.1 > (17179869184 : Int)))
  · cases (decide (s.2.2.1 < (1 : Int)) || decide (s.2.2.1 > (3 : Int)))
    · cases (decide (s.2.2.2.1 < (-1 : Int)) || decide (s.2.2.2.1 ≥ (16 : Int)))
      · cases (decide (s.2.2.2.2 < (0 : Int)) || decide (s.2.2.2.2 > (2048 : Int))) <;> rfl
      · rfl
    · rfl
  · rfl
theorem checkOne_v (k : Nat) (s : Sec) : v_u87 k s = secOne s := by unfold v_u87; rw [checkOne_s]; rfl
structure SecOk (s : Sec) : Prop where
  f : 0 ≤ s.1
  ft : s.1 < s.2.1
  t : s.2.1 ≤ 17179869184
  p : 0 ≤ s.2.2.2.2
theorem secOne_zero {s : Sec} (h : secOne s = 0) : SecOk s := by
  unfold secOne at h
  cases h1 : (decide (s.1 < (0 : Int)) || decide (s.1 ≥ s.2.1) || decide (s.2.1 > (17179869184 : Int)))
  · rw [h1, cond_false] at h
    cases h2 : (decide (s.2.2.1 < (1 : Int)) || decide (s.2.2.1 > (3 : Int)))
    · rw [h2, cond_false] at h
      cases h3 : (decide (s.2.2.2.1 < (-1 : Int)) || decide (s.2.2.2.1 ≥ (16 : Int)))
      · rw [h3, cond_false] at h
        cases h4 : (decide (s.2.2.2.2 < (0 : Int)) || decide (s.2.2.2.2 > (2048 : Int)))
        · simp only [Bool.or_eq_false_iff, decide_eq_false_iff_not] at h1 h4
          exact ⟨by omega, by omega, by omega, by omega⟩
        · rw [h4] at h; cases h
      · rw [h3] at h; cases h
    · rw [h2] at h; cases h
  · rw [h1] at h; cases h
theorem secGo_zero : ∀ {l : List Sec}, secGo l = 0 → ∀ x ∈ l, SecOk x
  | [], _, x, hx => by simp at hx
  | y :: t, h, x, hx => by
    unfold secGo at h
    by_cases h1 : secOne y = 0
    · rw [show (secOne y != 0) = false by simp [h1], cond_false] at h
      rcases List.mem_cons.1 hx with e | hx'
      · rw [e]; exact secOne_zero h1
      · exact secGo_zero h x hx'
    · rw [bne_iff_ne.2 h1, cond_true] at h; exact absurd h h1
theorem reel_12 (k : Nat) (l : List Sec) (hl : l.length ≤ 512) : ∀ (d i j : Nat) (e p : Int), i + d = l.length → d < j → f_u85_12 k j e p l (l.length : Int) (i : Int) = some (secOrd e p (l.drop i)) := by
  intro d
  induction d with
  | zero =>
    intro i j e p hi hj
    obtain ⟨j, rfl⟩ : ∃ q, j = q + 1 := ⟨j - 1, by omega⟩
    rw [f_u85_12, decide_eq_false (by omega : ¬ (i : Int) < (l.length : Int)), cond_false, List.drop_of_length_le (by omega)]; rfl
  | succ d ih =>
    intro i j e p hi hj
    obtain ⟨j, rfl⟩ : ∃ q, j = q + 1 := ⟨j - 1, by omega⟩
    rw [f_u85_12, decide_eq_true (by omega : (i : Int) < (l.length : Int)), cond_true, if_pos ⟨by omega, by omega⟩, Int.toNat_natCast, wrapS i (by omega), drop_cons' l i T3.dflt (by omega), secOrd, ih (i + 1) j _ _ (by omega) (by omega)]
    cases ((l.getD i T3.dflt).1 != e || decide ((l.getD i T3.dflt).2.2.2.2 < p)) <;> rfl
theorem reel_4 (k : Nat) (l : List Sec) (hl : l.length ≤ 512) : ∀ (d i j : Nat), i + d = l.length → d + 600 < j → f_u85_4 k j l l (l.length : Int) (i : Int) = some (if secGo (l.drop i) ≠ 0 then secGo (l.drop i) else secOrd 0 0 l) := by
  intro d
  induction d with
  | zero =>
    intro i j hi hj
    obtain ⟨j, rfl⟩ : ∃ q, j = q + 1 := ⟨j - 1, by omega⟩
    rw [f_u85_4, decide_eq_false (by omega : ¬ (i : Int) < (l.length : Int)), cond_false, List.drop_of_length_le (by omega), secGo, if_neg (fun h => h rfl)]
    exact reel_12 k l hl l.length 0 j 0 0 (by omega) (by omega)
  | succ d ih =>
    intro i j hi hj
    obtain ⟨j, rfl⟩ : ∃ q, j = q + 1 := ⟨j - 1, by omega⟩
    rw [f_u85_4, decide_eq_true (by omega : (i : Int) < (l.length : Int)), cond_true, if_pos ⟨by omega, by omega⟩, Int.toNat_natCast, checkOne_s, checkOne_v, Option.isSome_some, if_pos rfl, wrapS i (by omega), drop_cons' l i T3.dflt (by omega), secGo, ih (i + 1) j (by omega) (by omega)]
    by_cases h : secOne (l.getD i T3.dflt) = 0
    · rw [show (secOne (l.getD i T3.dflt) != 0) = false by rw [h]; rfl, cond_false, cond_false]
    · rw [bne_iff_ne.2 h, cond_true, cond_true, if_pos h]
theorem reel_Check_s (k : Nat) (hk : 1200 ≤ k) (l : List Sec) : f_u85 k l = some (secE l) := by
  unfold f_u85 secE
  by_cases h : l.length > 512
  · rw [if_pos h, decide_eq_true (by omega : (l.length : Int) > 512)]; rfl
  · rw [if_neg h, decide_eq_false (by omega : ¬ (l.length : Int) > 512), cond_false]
    exact reel_4 k l (by omega) l.length 0 k (by omega) (by omega)
theorem reel_Check_v (k : Nat) (hk : 1200 ≤ k) (l : List Sec) : v_u85 k l = secE l := by
  unfold v_u85; rw [reel_Check_s k hk]; rfl
theorem secE_zero {l : List Sec} (h : secE l = 0) : l.length ≤ 512 ∧ (∀ x ∈ l, SecOk x) ∧ secOrd 0 0 l = 0 := by
  unfold secE at h
  by_cases h1 : l.length > 512
  · rw [if_pos h1] at h; omega
  · rw [if_neg h1] at h
    by_cases h2 : secGo l = 0
    · rw [if_neg (fun h => h h2)] at h
      exact ⟨by omega, secGo_zero h2, h⟩
    · rw [if_pos h2] at h; exact absurd h h2
/-- where the sections end -/
def endS (l : List Sec) : Int := if l.length = 0 then 0 else (l.getD (l.length - 1) T3.dflt).2.1
/-- the parts of a span -/
def prt1 (s : Sp) (x : Sec) : List Sec := if max x.1 s.1 - s.1 < min x.2.1 s.2 - s.1 then [(max x.1 s.1 - s.1, min x.2.1 s.2 - s.1, x.2.2)] else []
def prtL (s : Sp) : List Sec → List Sec
  | [] => []
  | x :: t => prt1 s x ++ prtL s t
theorem prtL_len (s : Sp) : ∀ l : List Sec, (prtL s l).length ≤ l.length
  | [] => Nat.le_refl _
  | x :: t => by
    have := prtL_len s t
    unfold prtL prt1
    rw [List.length_append, List.length_cons]
    split <;> simp <;> omega
end Go.AM
namespace Go.AM
open Go Go.Proofs
noncomputable section
abbrev R_u13 : Type := Bool
def res_u13 (r : R_u13) : AV := .r (.v (.bool r))
def bo_u13 (g_0 : Int) (g_1 : Int) (g_2 : List (T2).T) (g_3 : List ((I).T × (I).T)) (id_ : Int) (r : R_u13) : List (Nat × Blk) := [(0, .var 127 [.r (.v (.int .i64 g_0)), .r (.v (.int .i64 g_1)), .r (.ro T2 g_2), .own 1 0]), (0, .map false I I g_3)]
def args_u13 (g_0 : Int) (g_1 : Int) (g_2 : List (T2).T) (g_3 : List ((I).T × (I).T)) (id_ : Int) : List AV := [.ptr 0 0 0, .r (.v (.int .i64 id_))]
def bin_u13 (g_0 : Int) (g_1 : Int) (g_2 : List (T2).T) (g_3 : List ((I).T × (I).T)) (id_ : Int) : List Blk := [.var 127 [.r (.v (.int .i64 g_0)), .r (.v (.int .i64 g_1)), .r (.ro T2 g_2), .own 1 0], .map false I I g_3]
abbrev C_u13 (g_0 : Int) (g_1 : Int) (g_2 : List (T2).T) (g_3 : List ((I).T × (I).T)) (id_ : Int) (r : R_u13) : Prop := CC Tryz.prog 64 (args_u13 g_0 g_1 g_2 g_3 id_) (bin_u13 g_0 g_1 g_2 g_3 id_) (res_u13 r) (bo_u13 g_0 g_1 g_2 g_3 id_ r)
def f_u13 (k : Nat) (g_0 : Int) (g_1 : Int) (g_2 : List (T2).T) (g_3 : List ((I).T × (I).T)) (id_ : Int) : Option R_u13 :=
  some ((mget I id_ g_3).isSome)
def v_u13 (k : Nat) (g_0 : Int) (g_1 : Int) (g_2 : List (T2).T) (g_3 : List ((I).T × (I).T)) (id_ : Int) : R_u13 := (f_u13 k g_0 g_1 g_2 g_3 id_).getD false
def ke_u13 (k : Nat) : Ke := (64, fun xs => match xs with
  | [.ptr _ _ _, _] => some [true, false]
  | _ => none, fun xs bs => match xs, bs with
  | [.ptr 0 0 0, .r (.v (.int .i64 id_))], [.var 127 [.r (.v (.int .i64 g_0)), .r (.v (.int .i64 g_1)), .r (.ro tg_2_ qg_2), .own 1 0], .map false kg_3_ tg_3_ qg_3] => (castL tg_2_ T2 qg_2).bind fun g_2 => (castM kg_3_ tg_3_ I I qg_3).bind fun g_3 => some (.one (res_u13 (v_u13 k g_0 g_1 g_2 g_3 id_), bo_u13 g_0 g_1 g_2 g_3 id_ (v_u13 k g_0 g_1 g_2 g_3 id_)))
  | _, _ => none)
theorem of_u13 (k : Nat) (g_0 : Int) (g_1 : Int) (g_2 : List (T2).T) (g_3 : List ((I).T × (I).T)) (id_ : Int) (r : R_u13) (h : f_u13 k g_0 g_1 g_2 g_3 id_ = some r) : C_u13 g_0 g_1 g_2 g_3 id_ r := by
  refine CC.of (fn := Tryz.f64) (by kernel_rfl) (by kernel_rfl) (by kernel_rfl) (by kernel_rfl) ?_
  unfold f_u13 at h
  exact go (mkK []) [] [] [.autoB [4] true []] (gL h) (by kernel_rfl)
theorem cc_u13 {k : Nat} {g_0 : Int} {g_1 : Int} {g_2 : List (T2).T} {g_3 : List ((I).T × (I).T)} {id_ : Int} (h : (f_u13 k g_0 g_1 g_2 g_3 id_).isSome = true) : C_u13 g_0 g_1 g_2 g_3 id_ (v_u13 k g_0 g_1 g_2 g_3 id_) := ccG (Φ := C_u13 g_0 g_1 g_2 g_3 id_) h (of_u13 k g_0 g_1 g_2 g_3 id_)
abbrev R_u14 : Type := Int × Int
def res_u14 (r : R_u14) : AV := .tup [.r (.v (.int .i64 r.1)), .r (.v (.int .i64 r.2))]
def bo_u14 (g_0 : Int) (g_1 : Int) (g_2 : List (T2).T) (g_3 : List ((I).T × (I).T)) (id_ : Int) (r : R_u14) : List (Nat × Blk) := [(0, .var 127 [.r (.v (.int .i64 g_0)), .r (.v (.int .i64 g_1)), .r (.ro T2 g_2), .own 1 0]), (0, .map false I I g_3)]
def args_u14 (g_0 : Int) (g_1 : Int) (g_2 : List (T2).T) (g_3 : List ((I).T × (I).T)) (id_ : Int) : List AV := [.ptr 0 0 0, .r (.v (.int .i64 id_))]
def bin_u14 (g_0 : Int) (g_1 : Int) (g_2 : List (T2).T) (g_3 : List ((I).T × (I).T)) (id_ : Int) : List Blk := [.var 127 [.r (.v (.int .i64 g_0)), .r (.v (.int .i64 g_1)), .r (.ro T2 g_2), .own 1 0], .map false I I g_3]
abbrev C_u14 (g_0 : Int) (g_1 : Int) (g_2 : List (T2).T) (g_3 : List ((I).T × (I).T)) (id_ : Int) (r : R_u14) : Prop := CC Tryz.prog 32 (args_u14 g_0 g_1 g_2 g_3 id_) (bin_u14 g_0 g_1 g_2 g_3 id_) (res_u14 r) (bo_u14 g_0 g_1 g_2 g_3 id_ r)
def f_u14 (k : Nat) (g_0 : Int) (g_1 : Int) (g_2 : List (T2).T) (g_3 : List ((I).T × (I).T)) (id_ : Int) : Option R_u14 :=
  bif (id_ == (0 : Int)) then
  some ((g_0, g_1))
  else
  if ((0 : Int) ≤ (mget I id_ g_3).getD (0 : Int)) ∧ ((mget I id_ g_3).getD (0 : Int) < (↑g_2.length : Int)) then
  if ((f_u23 k (g_2.getD (Int.toNat ((mget I id_ g_3).getD 0)) T2.dflt).2.2.2.2.2).isSome = true) then
  some (((g_2.getD (Int.toNat ((mget I id_ g_3).getD 0)) T2.dflt).2.2.2.1, (v_u23 k (g_2.getD (Int.toNat ((mget I id_ g_3).getD 0)) T2.dflt).2.2.2.2.2).1))
  else none
  else none
def v_u14 (k : Nat) (g_0 : Int) (g_1 : Int) (g_2 : List (T2).T) (g_3 : List ((I).T × (I).T)) (id_ : Int) : R_u14 := (f_u14 k g_0 g_1 g_2 g_3 id_).getD (0, 0)
def ke_u14 (k : Nat) : Ke := (32, fun xs => match xs with
  | [.ptr _ _ _, _] => some [true, false]
  | _ => none, fun xs bs => match xs, bs with
  | [.ptr 0 0 0, .r (.v (.int .i64 id_))], [.var 127 [.r (.v (.int .i64 g_0)), .r (.v (.int .i64 g_1)), .r (.ro tg_2_ qg_2), .own 1 0], .map false kg_3_ tg_3_ qg_3] => (castL tg_2_ T2 qg_2).bind fun g_2 => (castM kg_3_ tg_3_ I I qg_3).bind fun g_3 => some (.one (res_u14 (v_u14 k g_0 g_1 g_2 g_3 id_), bo_u14 g_0 g_1 g_2 g_3 id_ (v_u14 k g_0 g_1 g_2 g_3 id_)))
  | _, _ => none)
theorem of_u14 (k : Nat) (g_0 : Int) (g_1 : Int) (g_2 : List (T2).T) (g_3 : List ((I).T × (I).T)) (id_ : Int) (r : R_u14) (h : f_u14 k g_0 g_1 g_2 g_3 id_ = some r) : C_u14 g_0 g_1 g_2 g_3 id_ r := by
  refine CC.of (fn := Tryz.f32) (by kernel_rfl) (by kernel_rfl) (by kernel_rfl) (by kernel_rfl) ?_
  unfold f_u14 at h
  exact go (mkK [ke_u23 k]) [] [] [.autoB [4, 5] true []] (gT h (fun c h => gL h) fun c h => gN2 h fun h => gN1 h (fun q => cc_u23 q) fun h => gL h) (by kernel_rfl)
theorem cc_u14 {k : Nat} {g_0 : Int} {g_1 : Int} {g_2 : List (T2).T} {g_3 : List ((I).T × (I).T)} {id_ : Int} (h : (f_u14 k g_0 g_1 g_2 g_3 id_).isSome = true) : C_u14 g_0 g_1 g_2 g_3 id_ (v_u14 k g_0 g_1 g_2 g_3 id_) := ccG (Φ := C_u14 g_0 g_1 g_2 g_3 id_) h (of_u14 k g_0 g_1 g_2 g_3 id_)
abbrev R_u12 : Type := Int
def res_u12 (r : R_u12) : AV := .r (.v (.int .i64 r))
def bo_u12 (g_0 : Int) (g_1 : Int) (g_2 : List (T2).T) (g_3 : List ((I).T × (I).T)) (r_ : T2.T) (r : R_u12) : List (Nat × Blk) := [(0, .var 127 [.r (.v (.int .i64 g_0)), .r (.v (.int .i64 g_1)), .r (.ro T2 g_2), .own 1 0]), (0, .map false I I g_3)]
def args_u12 (g_0 : Int) (g_1 : Int) (g_2 : List (T2).T) (g_3 : List ((I).T × (I).T)) (r_ : T2.T) : List AV := [.ptr 0 0 0, .agg (rvs (enc T2 r_))]
def bin_u12 (g_0 : Int) (g_1 : Int) (g_2 : List (T2).T) (g_3 : List ((I).T × (I).T)) (r_ : T2.T) : List Blk := [.var 127 [.r (.v (.int .i64 g_0)), .r (.v (.int .i64 g_1)), .r (.ro T2 g_2), .own 1 0], .map false I I g_3]
abbrev C_u12 (g_0 : Int) (g_1 : Int) (g_2 : List (T2).T) (g_3 : List ((I).T × (I).T)) (r_ : T2.T) (r : R_u12) : Prop := CC Tryz.prog 84 (args_u12 g_0 g_1 g_2 g_3 r_) (bin_u12 g_0 g_1 g_2 g_3 r_) (res_u12 r) (bo_u12 g_0 g_1 g_2 g_3 r_ r)
def st_u12_17 (g_0 : Int) (g_1 : Int) (g_2 : List (T2).T) (g_3 : List ((I).T × (I).T)) (r_ : T2.T) (y0 : Int) (y1 : List (T0).T) (y2 : Int) (y3 : Int) : St := ⟨mkS 93 [(6, .r (.v (.int .i64 y0))), (78, .r (.ro T0 y1)), (79, .r (.v (.int .i64 y2))), (80, .r (.v (.int .i64 y3)))], [(0, 0, .var 127 [.r (.v (.int .i64 g_0)), .r (.v (.int .i64 g_1)), .r (.ro T2 g_2), .own 1 0]), (1, 0, .map false I I g_3)]⟩
def f_u12_17 (k : Nat) (g_0 : Int) (g_1 : Int) (g_2 : List (T2).T) (g_3 : List ((I).T × (I).T)) (r_ : T2.T) : Nat → Int → List (T0).T → Int → Int → Option R_u12
  | 0, _, _, _, _ => none
  | j + 1, y0, y1, y2, y3 =>
  bif (decide (y3 < y2)) then
  if (0 ≤ y3) ∧ (y3 < (↑y1.length : Int)) then
  if ((f_u7 k (y1.getD y3.toNat T0.dflt)).isSome = true) then
  bif (decide ((v_u7 k (y1.getD y3.toNat T0.dflt)).2 ≥ y0)) then
  some 21
  else
  f_u12_17 k g_0 g_1 g_2 g_3 r_ j y0 y1 y2 ((IntKind.i64.wrap (y3 + 1)))
  else none
  else none
  else
  some 0
def f_u12 (k : Nat) (g_0 : Int) (g_1 : Int) (g_2 : List (T2).T) (g_3 : List ((I).T × (I).T)) (r_ : T2.T) : Option R_u12 :=
  bif (decide (r_.1 < (1 : Int)) || decide (r_.1 > (1000000 : Int))) then
  some 1
  else
  bif (r_.2.1 != (0 : Int)) then
  if ((r_.2.1 != (0 : Int)) = true) ∧ ((f_u13 k g_0 g_1 g_2 g_3 r_.2.1).isSome = true) then
  bif (true && (!v_u13 k g_0 g_1 g_2 g_3 r_.2.1)) then
  some 7
  else
  if ((f_u14 k g_0 g_1 g_2 g_3 r_.2.1).isSome = true) then
  bif (decide (r_.2.2.1 < (0 : Int)) || decide (r_.2.2.2.1 < (1 : Int)) || decide (r_.2.2.1 > (v_u14 k g_0 g_1 g_2 g_3 r_.2.1).1) || decide (r_.2.2.2.1 > IntKind.i64.wrap ((v_u14 k g_0 g_1 g_2 g_3 r_.2.1).1 - r_.2.2.1))) then
  some 20
  else
  if ((f_u18 k r_.2.2.2.2.2).isSome = true) then
  bif (v_u18 k r_.2.2.2.2.2 != (0 : Int)) then
  some (v_u18 k r_.2.2.2.2.2)
  else
  bif ((↑ (List.length r_.2.2.2.2.2) : Int) == (0 : Int)) then
  some 10
  else
  if ((f_u24 k r_.2.2.2.2.2).isSome = true) then
  bif (!v_u24 k r_.2.2.2.2.2) then
  some 12
  else
  f_u12_17 k g_0 g_1 g_2 g_3 r_ k ((v_u14 k g_0 g_1 g_2 g_3 r_.2.1).2) r_.2.2.2.2.2 ((↑ (List.length r_.2.2.2.2.2) : Int)) 0
  else none
  else none
  else none
  else none
  else
  if ((r_.2.1 != (0 : Int)) = false) then
  if ((f_u14 k g_0 g_1 g_2 g_3 r_.2.1).isSome = true) then
  bif (decide (r_.2.2.1 < (0 : Int)) || decide (r_.2.2.2.1 < (1 : Int)) || decide (r_.2.2.1 > (v_u14 k g_0 g_1 g_2 g_3 r_.2.1).1) || decide (r_.2.2.2.1 > IntKind.i64.wrap ((v_u14 k g_0 g_1 g_2 g_3 r_.2.1).1 - r_.2.2.1))) then
  some 20
  else
  if ((f_u18 k r_.2.2.2.2.2).isSome = true) then
  bif (v_u18 k r_.2.2.2.2.2 != (0 : Int)) then
  some (v_u18 k r_.2.2.2.2.2)
  else
  bif ((↑ (List.length r_.2.2.2.2.2) : Int) == (0 : Int)) then
  some 10
  else
  if ((f_u24 k r_.2.2.2.2.2).isSome = true) then
  bif (!v_u24 k r_.2.2.2.2.2) then
  some 12
  else
  f_u12_17 k g_0 g_1 g_2 g_3 r_ k ((v_u14 k g_0 g_1 g_2 g_3 r_.2.1).2) r_.2.2.2.2.2 ((↑ (List.length r_.2.2.2.2.2) : Int)) 0
  else none
  else none
  else none
  else none
def v_u12 (k : Nat) (g_0 : Int) (g_1 : Int) (g_2 : List (T2).T) (g_3 : List ((I).T × (I).T)) (r_ : T2.T) : R_u12 := (f_u12 k g_0 g_1 g_2 g_3 r_).getD 0
def ke_u12 (k : Nat) : Ke := (84, fun xs => match xs with
  | [.ptr _ _ _, _] => some [true, false]
  | _ => none, fun xs bs => match xs, bs with
  | [.ptr 0 0 0, .agg qr_], [.var 127 [.r (.v (.int .i64 g_0)), .r (.v (.int .i64 g_1)), .r (.ro tg_2_ qg_2), .own 1 0], .map false kg_3_ tg_3_ qg_3] => (decS [] T2 qr_).bind fun r_ => (castL tg_2_ T2 qg_2).bind fun g_2 => (castM kg_3_ tg_3_ I I qg_3).bind fun g_3 => some (.one (res_u12 (v_u12 k g_0 g_1 g_2 g_3 r_), bo_u12 g_0 g_1 g_2 g_3 r_ (v_u12 k g_0 g_1 g_2 g_3 r_)))
  | _, _ => none)
def K_u12 (k : Nat) : Calld := mkK [ke_u13 k, ke_u18 k, ke_u14 k, ke_u24 k, ke_u7 k]
def cs_u12 : List (Nat × List Cmd) := [(17, [.autoB [6, 78, 79, 80] false []])]
abbrev E_u12 (g_0 : Int) (g_1 : Int) (g_2 : List (T2).T) (g_3 : List ((I).T × (I).T)) (r_ : T2.T) (todo : List Item) (st : St) (o : Option R_u12) : Prop := ∀ r, o = some r → Ev Tryz.prog Tryz.f84 2 todo st (res_u12 r) (bo_u12 g_0 g_1 g_2 g_3 r_ r)
theorem ev_u12 (k : Nat) (g_0 : Int) (g_1 : Int) (g_2 : List (T2).T) (g_3 : List ((I).T × (I).T)) (r_ : T2.T) : ∀ j, (∀ (y0 : Int) (y1 : List (T0).T) (y2 : Int) (y3 : Int), E_u12 g_0 g_1 g_2 g_3 r_ (placeAt Tryz.f84 17) (st_u12_17 g_0 g_1 g_2 g_3 r_ y0 y1 y2 y3) (f_u12_17 k g_0 g_1 g_2 g_3 r_ j y0 y1 y2 y3))
  | 0 => fun _ _ _ _ _ h => (nomatch h)
  | j + 1 => by
    have ih := @ev_u12 k g_0 g_1 g_2 g_3 r_ j
    · intro y0 y1 y2 y3 r h
      rw [f_u12_17] at h
      exact go (K_u12 k) [] cs_u12 [.autoB [4] true []] (gT h (fun c h => gN2 h fun h => gN1 h (fun q => cc_u7 q) fun h => gT h (fun c h => gL h) fun c h => gC h 17 (ih _ _ _ _ _)) fun c h => gL h) (by kernel_rfl)
theorem of_u12 (k : Nat) (g_0 : Int) (g_1 : Int) (g_2 : List (T2).T) (g_3 : List ((I).T × (I).T)) (r_ : T2.T) (r : R_u12) (h : f_u12 k g_0 g_1 g_2 g_3 r_ = some r) : C_u12 g_0 g_1 g_2 g_3 r_ r := by
  refine CC.of (fn := Tryz.f84) (by kernel_rfl) (by kernel_rfl) (by kernel_rfl) (by kernel_rfl) ?_
  unfold f_u12 at h
  exact go (K_u12 k) [] cs_u12 [.autoB [4] true []] (gT h (fun c h => gL h) fun c h => gT h (fun c h => gN h (fun q => conjC q.1 (conjC (cc_u13 q.2) conj0)) fun h => gT h (fun c h => gL h) fun c h => gN1 h (fun q => cc_u14 q) fun h => gT h (fun c h => gL h) fun c h => gN1 h (fun q => cc_u18 q) fun h => gT h (fun c h => gL h) fun c h => gT h (fun c h => gL h) fun c h => gN1 h (fun q => cc_u24 q) fun h => gT h (fun c h => gL h) fun c h => gC h 17 ((ev_u12 k g_0 g_1 g_2 g_3 r_ k) _ _ _ _ _)) fun c h => gN1 h id fun h => gU2 h (.leaf (.r (.v (.int .i64 7))) [(0, .var 127 [.r (.v (.int .i64 g_0)), .r (.v (.int .i64 g_1)), .r (.ro T2 g_2), .own 1 0]), (0, .map false I I g_3)]) fun h => gN1 h (fun q => cc_u14 q) fun h => gT h (fun c h => gL h) fun c h => gN1 h (fun q => cc_u18 q) fun h => gT h (fun c h => gL h) fun c h => gT h (fun c h => gL h) fun c h => gN1 h (fun q => cc_u24 q) fun h => gT h (fun c h => gL h) fun c h => gC h 17 ((ev_u12 k g_0 g_1 g_2 g_3 r_ k) _ _ _ _ _)) (by kernel_rfl)
theorem cc_u12 {k : Nat} {g_0 : Int} {g_1 : Int} {g_2 : List (T2).T} {g_3 : List ((I).T × (I).T)} {r_ : T2.T} (h : (f_u12 k g_0 g_1 g_2 g_3 r_).isSome = true) : C_u12 g_0 g_1 g_2 g_3 r_ (v_u12 k g_0 g_1 g_2 g_3 r_) := ccG (Φ := C_u12 g_0 g_1 g_2 g_3 r_) h (of_u12 k g_0 g_1 g_2 g_3 r_)
abbrev RA_u9 : Type := Int
def resA_u9 (r : RA_u9) : AV := .tup [.r (.v (Value.pointer none)), .r (.v (.int .i64 r))]
def boA_u9 (l_ : List (T2).T) (web_ : T9.T) (r : RA_u9) : List (Nat × Blk) := []
abbrev RB_u9 : Type := Int × Int × Int × List (T2).T × (List ((I).T × (I).T))
def resB_u9 (r : RB_u9) : AV := .tup [.ptr 0 0 0, .r (.v (.int .i64 r.1))]
def boB_u9 (l_ : List (T2).T) (web_ : T9.T) (r : RB_u9) : List (Nat × Blk) := [(0, .var 127 [.r (.v (.int .i64 r.2.1)), .r (.v (.int .i64 r.2.2.1)), .r (.ro T2 r.2.2.2.1), .own 1 0]), (0, .map false I I r.2.2.2.2)]
abbrev R_u9 : Type := RA_u9 ⊕ RB_u9
def res_u9 (r : R_u9) : AV := match r with
  | .inl a => resA_u9 a
  | .inr a => resB_u9 a
def bo_u9 (l_ : List (T2).T) (web_ : T9.T) (r : R_u9) : List (Nat × Blk) := match r with
  | .inl a => boA_u9 l_ web_ a
  | .inr a => boB_u9 l_ web_ a
def args_u9 (l_ : List (T2).T) (web_ : T9.T) : List AV := [.r (.ro T2 l_), .agg (rvs (enc T9 web_))]
def bin_u9 (l_ : List (T2).T) (web_ : T9.T) : List Blk := []
abbrev C_u9 (l_ : List (T2).T) (web_ : T9.T) (r : R_u9) : Prop := CC Tryz.prog 63 (args_u9 l_ web_) (bin_u9 l_ web_) (res_u9 r) (bo_u9 l_ web_ r)
abbrev CA_u9 (l_ : List (T2).T) (web_ : T9.T) (r : RA_u9) : Prop := CC Tryz.prog 63 (args_u9 l_ web_) (bin_u9 l_ web_) (resA_u9 r) (boA_u9 l_ web_ r)
abbrev CB_u9 (l_ : List (T2).T) (web_ : T9.T) (r : RB_u9) : Prop := CC Tryz.prog 63 (args_u9 l_ web_) (bin_u9 l_ web_) (resB_u9 r) (boB_u9 l_ web_ r)
def st_u9_8 (y0 : List (T2).T) (y1 : Bool) (y2 : List (T2).T) (y3 : Int) (y4 : Int) (y5 : Int) (y6 : Int) (y7 : List (T2).T) (y8 : List ((I).T × (I).T)) : St := ⟨mkS 97 [(0, .r (.ro T2 y0)), (6, .ptr 1000000 0 0), (7, .r (.v (.bool y1))), (41, .r (.ro T2 y2)), (42, .r (.v (.int .i64 y3))), (43, .r (.v (.int .i64 y4)))], [(1000000, 0, .var 127 [.r (.v (.int .i64 y5)), .r (.v (.int .i64 y6)), .r (.ro T2 y7), .own 1000001 0]), (1000001, 0, .map false I I y8)]⟩
def st_u9_20 (y0 : List (T2).T) (y1 : List (T2).T) (y2 : Int) (y3 : Int) (y4 : Int) (y5 : Int) (y6 : List (T2).T) (y7 : List ((I).T × (I).T)) : St := ⟨mkS 97 [(0, .r (.ro T2 y0)), (6, .ptr 1000000 0 0), (67, .r (.ro T2 y1)), (68, .r (.v (.int .i64 y2))), (69, .r (.v (.int .i64 y3)))], [(1000000, 0, .var 127 [.r (.v (.int .i64 y4)), .r (.v (.int .i64 y5)), .r (.ro T2 y6), .own 1000001 0]), (1000001, 0, .map false I I y7)]⟩
def st_u9_23 (y0 : List (T2).T) (y1 : List (T2).T) (y2 : Int) (y3 : Int) (y4 : List (T2).T) (y5 : Int) (y6 : Int) (y7 : Int) (y8 : Int) (y9 : List (T2).T) (y10 : List ((I).T × (I).T)) (y11 : T2.T) : St := ⟨mkS 97 [(0, .r (.ro T2 y0)), (6, .ptr 1000000 0 0), (12, .ptr 1000002 0 0), (67, .r (.ro T2 y1)), (68, .r (.v (.int .i64 y2))), (69, .r (.v (.int .i64 y3))), (76, .r (.ro T2 y4)), (77, .r (.v (.int .i64 y5))), (78, .r (.v (.int .i64 y6)))], [(1000000, 0, .var 127 [.r (.v (.int .i64 y7)), .r (.v (.int .i64 y8)), .r (.ro T2 y9), .own 1000001 0]), (1000001, 0, .map false I I y10), (1000002, 0, .var 52 (rvs (enc T2 y11)))]⟩
mutual
def f_u9_8 (k : Nat) : Nat → List (T2).T → Bool → List (T2).T → Int → Int → Int → Int → List (T2).T → (List ((I).T × (I).T)) → Option R_u9
  | 0, _, _, _, _, _, _, _, _, _ => none
  | j + 1, y0, y1, y2, y3, y4, y5, y6, y7, y8 =>
  bif (decide (y4 < y3)) then
  if (0 ≤ y4) ∧ (y4 < (↑y2.length : Int)) then
  if ((f_u12 k y5 y6 y7 y8 (y2.getD y4.toNat T2.dflt)).isSome = true) then
  bif (v_u12 k y5 y6 y7 y8 (y2.getD y4.toNat T2.dflt) != (0 : Int)) then
  some ((.inl (v_u12 k y5 y6 y7 y8 (y2.getD y4.toNat T2.dflt))))
  else
  if ((f_u13 k y5 y6 y7 y8 (y2.getD y4.toNat T2.dflt).1).isSome = true) then
  bif (v_u13 k y5 y6 y7 y8 (y2.getD y4.toNat T2.dflt).1) then
  f_u9_8 k j y0 true y2 y3 ((IntKind.i64.wrap (y4 + 1))) y5 y6 y7 y8
  else
  f_u9_8 k j y0 y1 y2 y3 ((IntKind.i64.wrap (y4 + 1))) y5 y6 y7 ((mset I (y2.getD y4.toNat T2.dflt).1 y4 y8))
  else none
  else none
  else none
  else
  bif y1 then
  some ((.inl 6))
  else
  f_u9_20 k j y0 y0 ((↑y0.length : Int)) 0 y5 y6 y7 y8
def f_u9_20 (k : Nat) : Nat → List (T2).T → List (T2).T → Int → Int → Int → Int → List (T2).T → (List ((I).T × (I).T)) → Option R_u9
  | 0, _, _, _, _, _, _, _, _ => none
  | j + 1, y0, y1, y2, y3, y4, y5, y6, y7 =>
  bif (decide (y3 < y2)) then
  if (0 ≤ y3) ∧ (y3 < (↑y1.length : Int)) then
  if ((0 : Int) ≤ (0 : Int)) ∧ (0 ≤ y3) ∧ (y3 ≤ (↑y0.length : Int)) then
  f_u9_23 k j y0 y1 y2 y3 ((List.take (y3.toNat - Int.toNat 0) (List.drop (Int.toNat 0) y0))) ((↑ (List.take (y3.toNat - Int.toNat 0) (List.drop (Int.toNat 0) y0)).length : Int)) 0 y4 y5 y6 y7 ((y1.getD y3.toNat T2.dflt))
  else none
  else none
  else
  some ((.inr ((0, y4, y5, y6, y7))))
def f_u9_23 (k : Nat) : Nat → List (T2).T → List (T2).T → Int → Int → List (T2).T → Int → Int → Int → Int → List (T2).T → (List ((I).T × (I).T)) → T2.T → Option R_u9
  | 0, _, _, _, _, _, _, _, _, _, _, _, _ => none
  | j + 1, y0, y1, y2, y3, y4, y5, y6, y7, y8, y9, y10, y11 =>
  bif (decide (y6 < y5)) then
  if (0 ≤ y6) ∧ (y6 < (↑y4.length : Int)) then
  bif (y11.2.1 == (y4.getD y6.toNat T2.dflt).2.1) then
  if ((y11.2.1 == (y4.getD y6.toNat T2.dflt).2.1) = true) ∧ ((f_u10 k y11.2.2 (y4.getD y6.toNat T2.dflt).2.2).isSome = true) then
  bif (true && v_u10 k y11.2.2 (y4.getD y6.toNat T2.dflt).2.2) then
  some ((.inl 12))
  else
  f_u9_23 k j y0 y1 y2 y3 y4 y5 ((IntKind.i64.wrap (y6 + 1))) y7 y8 y9 y10 y11
  else none
  else
  if ((y11.2.1 == (y4.getD y6.toNat T2.dflt).2.1) = false) then
  f_u9_23 k j y0 y1 y2 y3 y4 y5 ((IntKind.i64.wrap (y6 + 1))) y7 y8 y9 y10 y11
  else none
  else none
  else
  f_u9_20 k j y0 y1 y2 ((IntKind.i64.wrap (y3 + 1))) y7 y8 y9 y10
end
def f_u9 (k : Nat) (l_ : List (T2).T) (web_ : T9.T) : Option R_u9 :=
  bif (decide (web_.1 < (1 : Int)) || decide (web_.1 > (12000 : Int)) || decide (web_.2 < (0 : Int)) || decide (web_.2 > (17179869184 : Int))) then
  some ((.inl 1))
  else
  bif (decide ((↑l_.length : Int) > (512 : Int))) then
  some ((.inl 8))
  else
  f_u9_8 k k l_ false l_ ((↑l_.length : Int)) 0 web_.1 web_.2 l_ ([])
def v_u9 (k : Nat) (l_ : List (T2).T) (web_ : T9.T) : R_u9 := (f_u9 k l_ web_).getD (.inl 0)
def vA_u9 (k : Nat) (l_ : List (T2).T) (web_ : T9.T) : RA_u9 := lft 0 (v_u9 k l_ web_)
def vB_u9 (k : Nat) (l_ : List (T2).T) (web_ : T9.T) : RB_u9 := rgt ((0, 0, 0, [], [])) (v_u9 k l_ web_)
def ke_u9 (k : Nat) : Ke := (63, fun xs => match xs with
  | [_, _] => some [false, false]
  | _ => none, fun xs bs => match xs, bs with
  | [.r (.ro tl__ ql_), .agg qweb_], [] => (castL tl__ T2 ql_).bind fun l_ => (decS [] T9 qweb_).bind fun web_ => some (.two (v_u9 k l_ web_).isLeft (resA_u9 (vA_u9 k l_ web_), boA_u9 l_ web_ (vA_u9 k l_ web_)) (resB_u9 (vB_u9 k l_ web_), boB_u9 l_ web_ (vB_u9 k l_ web_)))
  | _, _ => none)
def K_u9 (k : Nat) : Calld := mkK [ke_u13 k, ke_u12 k, ke_u10 k]
def cs_u9 : List (Nat × List Cmd) := [(8, [.autoB [0, 6, 7, 41, 42, 43] false []]), (20, [.autoB [0, 6, 67, 68, 69] false []]), (23, [.autoB [0, 6, 12, 67, 68, 69, 76, 77, 78] false []])]
abbrev E_u9 (l_ : List (T2).T) (web_ : T9.T) (todo : List Item) (st : St) (o : Option R_u9) : Prop := ∀ r, o = some r → Ev Tryz.prog Tryz.f63 0 todo st (res_u9 r) (bo_u9 l_ web_ r)
theorem ev_u9 (k : Nat) (l_ : List (T2).T) (web_ : T9.T) : ∀ j, (∀ (y0 : List (T2).T) (y1 : Bool) (y2 : List (T2).T) (y3 : Int) (y4 : Int) (y5 : Int) (y6 : Int) (y7 : List (T2).T) (y8 : List ((I).T × (I).T)), E_u9 l_ web_ (placeAt Tryz.f63 8) (st_u9_8 y0 y1 y2 y3 y4 y5 y6 y7 y8) (f_u9_8 k j y0 y1 y2 y3 y4 y5 y6 y7 y8)) ∧ (∀ (y0 : List (T2).T) (y1 : List (T2).T) (y2 : Int) (y3 : Int) (y4 : Int) (y5 : Int) (y6 : List (T2).T) (y7 : List ((I).T × (I).T)), E_u9 l_ web_ (placeAt Tryz.f63 20) (st_u9_20 y0 y1 y2 y3 y4 y5 y6 y7) (f_u9_20 k j y0 y1 y2 y3 y4 y5 y6 y7)) ∧ (∀ (y0 : List (T2).T) (y1 : List (T2).T) (y2 : Int) (y3 : Int) (y4 : List (T2).T) (y5 : Int) (y6 : Int) (y7 : Int) (y8 : Int) (y9 : List (T2).T) (y10 : List ((I).T × (I).T)) (y11 : T2.T), E_u9 l_ web_ (placeAt Tryz.f63 23) (st_u9_23 y0 y1 y2 y3 y4 y5 y6 y7 y8 y9 y10 y11) (f_u9_23 k j y0 y1 y2 y3 y4 y5 y6 y7 y8 y9 y10 y11))
  | 0 => ⟨fun _ _ _ _ _ _ _ _ _ _ h => (nomatch h), fun _ _ _ _ _ _ _ _ _ h => (nomatch h), fun _ _ _ _ _ _ _ _ _ _ _ _ _ h => (nomatch h)⟩
  | j + 1 => by
    have ih := @ev_u9 k l_ web_ j
    refine ⟨?_, ?_, ?_⟩
    · intro y0 y1 y2 y3 y4 y5 y6 y7 y8 r h
      rw [f_u9_8] at h
      exact go (K_u9 k) [] cs_u9 [.autoB [4, 5] true []] (gT h (fun c h => gN2 h fun h => gN1 h (fun q => cc_u12 q) fun h => gT h (fun c h => gL h) fun c h => gN1 h (fun q => cc_u13 q) fun h => gT h (fun c h => gC h 8 (ih.1 _ _ _ _ _ _ _ _ _ _)) fun c h => gC h 8 (ih.1 _ _ _ _ _ _ _ _ _ _)) fun c h => gT h (fun c h => gL h) fun c h => gC h 20 (ih.2.1 _ _ _ _ _ _ _ _ _)) (by kernel_rfl)
    · intro y0 y1 y2 y3 y4 y5 y6 y7 r h
      rw [f_u9_20] at h
      exact go (K_u9 k) [] cs_u9 [.autoB [4, 5] true []] (gT h (fun c h => gN2 h fun h => gN h (fun q => conjC q.1 (conjC q.2.1 (conjC q.2.2 conj0))) fun h => gC h 23 (ih.2.2 _ _ _ _ _ _ _ _ _ _ _ _ _)) fun c h => gL h) (by kernel_rfl)
    · intro y0 y1 y2 y3 y4 y5 y6 y7 y8 y9 y10 y11 r h
      rw [f_u9_23] at h
      exact go (K_u9 k) [] cs_u9 [.autoB [4, 5] true []] (gT h (fun c h => gN2 h fun h => gT h (fun c h => gN h (fun q => conjC q.1 (conjC (cc_u10 q.2) conj0)) fun h => gT h (fun c h => gL h) fun c h => gC h 23 (ih.2.2 _ _ _ _ _ _ _ _ _ _ _ _ _)) fun c h => gN1 h id fun h => gU2 h (.leaf (.tup [.r (.v (Value.pointer none)), .r (.v (.int .i64 12))]) []) fun h => gC h 23 (ih.2.2 _ _ _ _ _ _ _ _ _ _ _ _ _)) fun c h => gC h 20 (ih.2.1 _ _ _ _ _ _ _ _ _)) (by kernel_rfl)
theorem of_u9 (k : Nat) (l_ : List (T2).T) (web_ : T9.T) (r : R_u9) (h : f_u9 k l_ web_ = some r) : C_u9 l_ web_ r := by
  refine CC.of (fn := Tryz.f63) (by kernel_rfl) (by kernel_rfl) (by kernel_rfl) (by kernel_rfl) ?_
  unfold f_u9 at h
  exact go (K_u9 k) [] cs_u9 [.autoB [4, 5] true []] (gT h (fun c h => gL h) fun c h => gT h (fun c h => gL h) fun c h => gC h 8 ((ev_u9 k l_ web_ k).1 _ _ _ _ _ _ _ _ _ _)) (by kernel_rfl)
theorem cc_u9 {k : Nat} {l_ : List (T2).T} {web_ : T9.T} (h : (f_u9 k l_ web_).isSome = true) : C_u9 l_ web_ (v_u9 k l_ web_) := ccG (Φ := C_u9 l_ web_) h (of_u9 k l_ web_)
theorem ccA_u9 {k : Nat} {l_ : List (T2).T} {web_ : T9.T} (h : (f_u9 k l_ web_).isSome = true) (hb : (v_u9 k l_ web_).isLeft = true) : CA_u9 l_ web_ (vA_u9 k l_ web_) := ccAG (Φ := C_u9 l_ web_) (cc_u9 h) hb
theorem ccB_u9 {k : Nat} {l_ : List (T2).T} {web_ : T9.T} (h : (f_u9 k l_ web_).isSome = true) (hb : (v_u9 k l_ web_).isLeft = false) : CB_u9 l_ web_ (vB_u9 k l_ web_) := ccBG (Φ := C_u9 l_ web_) (cc_u9 h) hb

end
def Wl (p : List Ro) : Prop := ∀ r ∈ p, Small r.2.2
theorem Wl.size {p : List Ro} {W L : Int} (h : Wl p) (hW : 0 ≤ W ∧ W ≤ 12000) (id : Int) : 0 ≤ (sizeS p W L id).1 ∧ (sizeS p W L id).1 ≤ 12000 := by
  unfold sizeS
  by_cases h0 : id = 0
  · rw [if_pos h0]; exact hW
  · rw [if_neg h0]
    cases e : look p id with
    | none => exact ⟨by decide, by decide⟩
    | some q =>
      obtain ⟨a, b, c, _⟩ := h q (look_some e).1
      exact ⟨by show 0 ≤ q.2.2.2.1; omega, by show q.2.2.2.1 ≤ _; omega⟩
theorem Wl.snoc {p : List Ro} {W L : Int} {r : Ro} (h : Wl p) (hW : 0 ≤ W ∧ W ≤ 12000) (f : fitsS p W L r = 0) : Wl (p ++ [r]) := by
  obtain ⟨_, _, _, c⟩ := fitsS_zero.1 f
  obtain ⟨s1, s2⟩ := h.size (L := L) hW r.2.1
  intro q hq
  rcases List.mem_append.1 hq with hq | hq
  · exact h q hq
  · rw [List.mem_singleton] at hq
    subst hq
    have := c.right
    exact ⟨c.left, c.width, by omega, c.chk⟩

theorem fam_size_s (k : Nat) (hk : 2100 ≤ k) (W L : Int) (p t : List Ro) (M : List (Int × Int)) (id : Int) (hp : Wl p) (hM : RegOk M p) (h : id = 0 ∨ ∃ q, look p id = some q) : f_u14 k W L (p ++ t) M id = some (sizeS p W L id) := by
  unfold f_u14 sizeS
  by_cases h0 : id = 0
  · rw [if_pos h0, show (id == 0) = true from beq_iff_eq.2 h0, cond_true]
  · rw [if_neg h0, show (id == 0) = false from beq_false_of_ne h0, cond_false]
    rcases h with h | ⟨q, h⟩
    · exact absurd h h0
    · obtain ⟨i, e1, e2, e3⟩ := (hM id).some h
      have hl : (p ++ t).length = p.length + t.length := List.length_append
      have hs := hp q (look_some h).1
      have hi : (i : Int) < ((p ++ t).length : Int) := by omega
      rw [e1, Option.getD_some, if_pos ⟨by omega, hi⟩, Int.toNat_natCast, getD_app _ _ _ _ e2, e3, h]
      show (if (f_u23 k q.2.2.2.2.2).isSome = true then some (q.2.2.2.1, (v_u23 k q.2.2.2.2.2).1) else none) = _
      rw [iso_Length_s k hk _ hs.chk, iso_Length_v k hk _ hs.chk]
      rfl
theorem fam_size_v (k : Nat) (hk : 2100 ≤ k) (W L : Int) (p t : List Ro) (M : List (Int × Int)) (id : Int) (hp : Wl p) (hM : RegOk M p) (h : id = 0 ∨ ∃ q, look p id = some q) : v_u14 k W L (p ++ t) M id = sizeS p W L id := by
  unfold v_u14; rw [fam_size_s k hk W L p t M id hp hM h]; rfl

theorem fam_fits_17 (k : Nat) (W L : Int) (l : List Ro) (M : List (Int × Int)) (r : Ro) (n : Int) (m : List Rn) (hm : goods m) (hl : m.length ≤ 256) : ∀ (d i j : Nat), i + d = m.length → d < j →
    f_u12_17 k W L l M r j n m (m.length : Int) (i : Int) = some (if fitsIn n (m.drop i) then 0 else 21) := by
  intro d
  induction d with
  | zero =>
    intro i j hi hj
    obtain ⟨j, rfl⟩ : ∃ q, j = q + 1 := ⟨j - 1, by omega⟩
    rw [f_u12_17, decide_eq_false (by omega : ¬ (i : Int) < (m.length : Int)), cond_false, List.drop_of_length_le (by omega), if_pos (by trivial)]
  | succ d ih =>
    intro i j hi hj
    obtain ⟨j, rfl⟩ : ∃ q, j = q + 1 := ⟨j - 1, by omega⟩
    have hg : good (m.getD i T0.dflt) := hm.mem _ (getD_mem' _ _ _ (by omega))
    rw [f_u12_17, decide_eq_true (by omega : (i : Int) < (m.length : Int)), cond_true, if_pos ⟨by omega, by omega⟩, Int.toNat_natCast, fam_bounds_s k _ hg, fam_bounds_v k _ hg, Option.isSome_some, if_pos rfl, drop_cons' m i T0.dflt (by omega), wrapS i (by omega)]
    show (bif decide (Go.AM.hi (m.getD i T0.dflt) ≥ n) then _ else _) = _
    by_cases h : Go.AM.hi (m.getD i T0.dflt) ≥ n
    · rw [decide_eq_true h, cond_true, if_neg (fun e : fitsIn n (m.getD i T0.dflt :: m.drop (i + 1)) => by have := e.1; omega)]
    · rw [decide_eq_false h, cond_false, ih (i + 1) j (by omega) (by omega)]
      by_cases h2 : fitsIn n (m.drop (i + 1))
      · rw [if_pos h2, if_pos (show fitsIn n (m.getD i T0.dflt :: m.drop (i + 1)) from ⟨by omega, h2⟩)]
      · rw [if_neg h2, if_neg (fun e : fitsIn n (m.getD i T0.dflt :: m.drop (i + 1)) => h2 e.2)]
theorem cut_test (c : Ch) (w : Int) (hw : 0 ≤ w ∧ w ≤ 12000) : (decide (c.1 < (0 : Int)) || decide (c.2.1 < (1 : Int)) || decide (c.1 > w) || decide (c.2.1 > IntKind.i64.wrap (w - c.1))) = decide (c.1 < 0 ∨ c.2.1 < 1 ∨ c.1 > w ∨ c.2.1 > w - c.1) := by
  by_cases h1 : c.1 < 0
  · rw [decide_eq_true h1, Bool.true_or, Bool.true_or, Bool.true_or, decide_eq_true (Or.inl h1)]
  · by_cases h2 : c.2.1 < 1
    · rw [decide_eq_true h2, Bool.or_true, Bool.true_or, Bool.true_or, decide_eq_true (Or.inr (Or.inl h2))]
    · by_cases h3 : c.1 > w
      · rw [decide_eq_true h3, Bool.or_true, Bool.true_or, decide_eq_true (Or.inr (Or.inr (Or.inl h3)))]
      · rw [decide_eq_false h1, decide_eq_false h2, decide_eq_false h3, wrap_id (by omega) (by omega), Bool.or_false, Bool.or_false, Bool.false_or]
        by_cases h4 : c.2.1 > w - c.1
        · rw [decide_eq_true h4, decide_eq_true (Or.inr (Or.inr (Or.inr h4)))]
        · rw [decide_eq_false h4, decide_eq_false (by omega)]
theorem fam_fits_tail (k : Nat) (hk : 2100 ≤ k) (W L : Int) (l : List Ro) (M : List (Int × Int)) (r : Ro) (c : Ch) (w n : Int) (hw : 0 ≤ w ∧ w ≤ 12000) :
    (bif (decide (c.1 < (0 : Int)) || decide (c.2.1 < (1 : Int)) || decide (c.1 > w) || decide (c.2.1 > IntKind.i64.wrap (w - c.1))) then some 20
     else if ((f_u18 k c.2.2.2).isSome = true) then
       bif (v_u18 k c.2.2.2 != (0 : Int)) then some (v_u18 k c.2.2.2)
       else bif ((↑ (List.length c.2.2.2) : Int) == (0 : Int)) then some 10
       else if ((f_u24 k c.2.2.2).isSome = true) then
         bif (!v_u24 k c.2.2.2) then some 12
         else f_u12_17 k W L l M r k n c.2.2.2 ((↑ (List.length c.2.2.2) : Int)) 0
       else none
     else none) = some (cutE c w n) := by
  unfold cutE
  rw [cut_test c w hw, iso_Check_s k (by omega), iso_Check_v k (by omega), Option.isSome_some, if_pos rfl, iso_Single_s k hk, iso_Single_v k hk, Option.isSome_some, if_pos rfl]
  by_cases h1 : c.1 < 0 ∨ c.2.1 < 1 ∨ c.1 > w ∨ c.2.1 > w - c.1
  · rw [decide_eq_true h1, cond_true, if_pos h1]
  · rw [decide_eq_false h1, cond_false, if_neg h1]
    by_cases h2 : chk c.2.2.2 = 0
    · have hc := chk_zero.1 h2
      have hl := hc.len
      rw [show (chk c.2.2.2 != 0) = false by simp [h2], cond_false, if_neg (fun h : chk c.2.2.2 ≠ 0 => h h2)]
      by_cases h3 : c.2.2.2 = []
      · rw [h3, if_pos rfl]; rfl
      · rw [if_neg h3, show (((List.length c.2.2.2 : Nat) : Int) == 0) = false from beq_false_of_ne (fun e => h3 (List.length_eq_zero_iff.1 (by omega))), cond_false]
        cases h4 : singleS c.2.2.2
        · rfl
        · rw [Bool.not_true, cond_false, if_neg (by decide)]
          refine (fam_fits_17 k W L l M r n c.2.2.2 hc.goods hl c.2.2.2.length 0 k (by omega) (by omega)).trans ?_
          rw [List.drop_zero]
    · rw [show (chk c.2.2.2 != 0) = true by simp [h2], cond_true, if_pos h2]
theorem fam_fits_s (k : Nat) (hk : 2100 ≤ k) (W L : Int) (hW : 0 ≤ W ∧ W ≤ 12000) (p t : List Ro) (M : List (Int × Int)) (r : Ro) (hp : Wl p) (hM : RegOk M p) : f_u12 k W L (p ++ t) M r = some (fitsS p W L r) := by
  unfold f_u12 fitsS
  by_cases h1 : r.1 < 1 ∨ r.1 > 1000000
  · rw [if_pos h1, show (decide (r.1 < 1) || decide (r.1 > 1000000)) = true by simpa using h1, cond_true]
  · rw [if_neg h1, show (decide (r.1 < 1) || decide (r.1 > 1000000)) = false by simp; omega, cond_false]
    have hs := hp.size (L := L) hW r.2.1
    by_cases h2 : r.2.1 = 0
    · rw [show (r.2.1 != 0) = false by simp [h2], cond_false, if_pos rfl, if_neg (fun h : r.2.1 ≠ 0 ∧ look p r.2.1 = none => h.1 h2), fam_size_s k hk W L p t M r.2.1 hp hM (.inl h2), fam_size_v k hk W L p t M r.2.1 hp hM (.inl h2), Option.isSome_some, if_pos rfl]
      exact fam_fits_tail k hk W L (p ++ t) M r r.2.2 _ _ hs
    · have hkn : v_u13 k W L (p ++ t) M r.2.1 = (mget I r.2.1 M).isSome := by unfold v_u13 f_u13; rfl
      rw [show (r.2.1 != 0) = true by simp [h2], cond_true, if_pos ⟨rfl, rfl⟩, hkn, Bool.true_and]
      cases e : look p r.2.1 with
      | none => rw [(hM r.2.1).none e, if_pos (show r.2.1 ≠ 0 ∧ (none : Option Ro) = none from ⟨h2, rfl⟩)]; rfl
      | some q =>
        obtain ⟨i, e1, e2, e3⟩ := (hM r.2.1).some e
        rw [e1, if_neg (show ¬ (r.2.1 ≠ 0 ∧ some q = none) from fun h => nomatch h.2), Option.isSome_some, Bool.not_true, cond_false, fam_size_s k hk W L p t M r.2.1 hp hM (.inr ⟨q, e⟩), fam_size_v k hk W L p t M r.2.1 hp hM (.inr ⟨q, e⟩), Option.isSome_some, if_pos rfl]
        exact fam_fits_tail k hk W L (p ++ t) M r r.2.2 _ _ hs
theorem fam_fits_v (k : Nat) (hk : 2100 ≤ k) (W L : Int) (hW : 0 ≤ W ∧ W ≤ 12000) (p t : List Ro) (M : List (Int × Int)) (r : Ro) (hp : Wl p) (hM : RegOk M p) : v_u12 k W L (p ++ t) M r = fitsS p W L r := by
  unfold v_u12; rw [fam_fits_s k hk W L hW p t M r hp hM]; rfl

theorem fam_open_23 (k : Nat) (hk : 70000 ≤ k) (l : List Ro) (n i W L : Int) (M : List (Int × Int)) (r : Ro) (hr : Small r.2.2) (p : List Ro) (hp : Wl p) (hpl : p.length ≤ 512) : ∀ (d q m : Nat), q + d = p.length →
    f_u9_23 k (m + d + 1) l l n i p (p.length : Int) (q : Int) W L l M r = if clash (p.drop q) r = true then some (.inl 12) else f_u9_20 k m l l n (IntKind.i64.wrap (i + 1)) W L l M := by
  intro d
  induction d with
  | zero =>
    intro q m hq
    rw [f_u9_23, decide_eq_false (by omega : ¬ (q : Int) < (p.length : Int)), cond_false, List.drop_of_length_le (by omega), if_neg (by unfold clash; rw [List.any_nil]; decide)]
  | succ d ih =>
    intro q m hq
    have hs : Small (p.getD q T2.dflt).2.2 := hp _ (getD_mem' _ _ _ (by omega))
    have hc : clash (p.drop q) r = ((r.2.1 == (p.getD q T2.dflt).2.1) && ovlS r.2.2 (p.getD q T2.dflt).2.2 || clash (p.drop (q + 1)) r) := by
      unfold clash; rw [drop_cons' p q T2.dflt (by omega), List.any_cons]
    rw [show m + (d + 1) + 1 = (m + d + 1) + 1 from rfl, f_u9_23, decide_eq_true (by omega : (q : Int) < (p.length : Int)), cond_true, if_pos ⟨by omega, by omega⟩, Int.toNat_natCast, wrapS q (by omega), ih (q + 1) m (by omega), hc]
    cases e : (r.2.1 == (p.getD q T2.dflt).2.1)
    · rw [cond_false, if_pos rfl, Bool.false_and, Bool.false_or]
    · rw [cond_true, Bool.true_and, fam_overlap_v k hk _ _ hr hs, if_pos ⟨rfl, by rw [fam_overlap_s k hk _ _ hr hs]; rfl⟩, Bool.true_and]
      cases ovlS r.2.2 (p.getD q T2.dflt).2.2
      · rw [cond_false, Bool.false_or]
      · rfl
set_option maxRecDepth 20000 in
theorem fam_open_20 (k : Nat) (hk : 70000 ≤ k) (l : List Ro) (W L : Int) (M : List (Int × Int)) (hl : Wl l) (hll : l.length ≤ 512) : ∀ (d i j : Nat), i + d = l.length → d * 514 < j →
    f_u9_20 k j l l (l.length : Int) (i : Int) W L l M = if clashGo (l.take i) (l.drop i) = true then some (.inl 12) else some (.inr (0, W, L, l, M)) := by
  intro d
  induction d with
  | zero =>
    intro i j hi hj
    obtain ⟨j, rfl⟩ : ∃ q, j = q + 1 := ⟨j - 1, by omega⟩
    rw [f_u9_20, decide_eq_false (by omega : ¬ (i : Int) < (l.length : Int)), cond_false, List.drop_of_length_le (by omega), clashGo, if_neg (by decide)]
  | succ d ih =>
    intro i j hi hj
    obtain ⟨j, rfl⟩ : ∃ q, j = (q + (l.take i).length + 1) + 1 := ⟨j - (l.take i).length - 2, by rw [List.length_take]; omega⟩
    rw [List.length_take] at hj
    have hs : Small (l.getD i T2.dflt).2.2 := hl _ (getD_mem' _ _ _ (by omega))
    have h23 := fam_open_23 k hk l (l.length : Int) (i : Int) W L M (l.getD i T2.dflt) hs (l.take i) (fun r hr => hl r (List.mem_of_mem_take hr)) (by rw [List.length_take]; omega) (l.take i).length 0 j (by omega)
    rw [f_u9_20, decide_eq_true (by omega : (i : Int) < (l.length : Int)), cond_true, if_pos ⟨by omega, by omega⟩, if_pos ⟨by omega, by omega, by omega⟩, Int.toNat_natCast, Int.toNat_zero, List.drop_zero, Nat.sub_zero]
    refine h23.trans ?_
    rw [List.drop_zero, wrapS i (by omega), ih (i + 1) j (by omega) (by omega), drop_cons' l i T2.dflt (by omega), clashGo, take_snoc l i T2.dflt (by omega)]
    cases clash (l.take i) (l.getD i T2.dflt)
    · rw [if_neg (by decide), Bool.false_or]
    · rfl
theorem fam_open_8 (k : Nat) (hk : 300000 ≤ k) (l : List Ro) (W L : Int) (hW : 0 ≤ W ∧ W ≤ 12000) (hll : l.length ≤ 512) : ∀ (d i j : Nat) (dup : Bool) (M : List (Int × Int)), i + d = l.length → d + 1 + 263168 < j → RegOk M (l.take i) → Wl (l.take i) →
    ∃ M', (errsGo W L (l.take i) (l.drop i) = 0 → RegOk M' l ∧ Wl l) ∧ f_u9_8 k j l dup l (l.length : Int) (i : Int) W L l M =
      if errsGo W L (l.take i) (l.drop i) ≠ 0 then some (.inl (errsGo W L (l.take i) (l.drop i))) else if (dup || dupGo (l.take i) (l.drop i)) = true then some (.inl 6) else if clashGo [] l = true then some (.inl 12) else some (.inr (0, W, L, l, M')) := by
  intro d
  induction d with
  | zero =>
    intro i j dup M hi hj hM hw
    obtain ⟨j, rfl⟩ : ∃ q, j = q + 1 := ⟨j - 1, by omega⟩
    have h20 := fam_open_20 k (by omega) l W L M (by rw [List.take_of_length_le (by omega)] at hw; exact hw) hll l.length 0 j (by omega) (by omega)
    rw [List.take_of_length_le (by omega : l.length ≤ i)] at hM hw
    refine ⟨M, fun _ => ⟨hM, hw⟩, ?_⟩
    rw [f_u9_8, decide_eq_false (by omega : ¬ (i : Int) < (l.length : Int)), cond_false, List.drop_of_length_le (by omega), errsGo, if_neg (fun h => h rfl), dupGo, Bool.or_false]
    cases dup
    · rw [cond_false, if_neg (by decide)]
      exact h20
    · rfl
  | succ d ih =>
    intro i j dup M hi hj hM hw
    obtain ⟨j, rfl⟩ : ∃ q, j = q + 1 := ⟨j - 1, by omega⟩
    have hf := fam_fits_s k (by omega) W L hW (l.take i) (l.drop i) M (l.getD i T2.dflt) hw hM
    have hv := fam_fits_v k (by omega) W L hW (l.take i) (l.drop i) M (l.getD i T2.dflt) hw hM
    rw [List.take_append_drop] at hf hv
    have hkn : v_u13 k W L l M (l.getD i T2.dflt).1 = (mget I (l.getD i T2.dflt).1 M).isSome := by unfold v_u13 f_u13; rfl
    have ht := take_snoc l i T2.dflt (by omega)
    by_cases h1 : fitsS (l.take i) W L (l.getD i T2.dflt) = 0
    · have hw2 : Wl (l.take (i + 1)) := by rw [ht]; exact hw.snoc hW h1
      cases e : look (l.take i) (l.getD i T2.dflt).1 with
      | none =>
        have hM2 : RegOk (mset I (l.getD i T2.dflt).1 (i : Int) M) (l.take (i + 1)) := by
          have := regOk_new hM (l.getD i T2.dflt) e
          rw [ht]
          rw [List.length_take, show min i l.length = i by omega] at this
          exact this
        obtain ⟨M', m1, m2⟩ := ih (i + 1) j dup _ (by omega) (by omega) hM2 hw2
        rw [ht] at m1 m2
        rw [drop_cons' l i T2.dflt (by omega), errsGo, if_neg (fun h => h h1), dupGo, e]
        refine ⟨M', m1, ?_⟩
        rw [f_u9_8, decide_eq_true (by omega : (i : Int) < (l.length : Int)), cond_true, if_pos ⟨by omega, by omega⟩, Int.toNat_natCast, hf, hv, Option.isSome_some, if_pos rfl, h1]
        show (bif v_u13 k W L l M (l.getD i T2.dflt).1 then _ else _) = _
        rw [hkn, (hM _).none e, wrapS i (by omega)]
        exact m2
      | some q =>
        have hM2 : RegOk M (l.take (i + 1)) := by
          have := regOk_old hM (l.getD i T2.dflt) (by rw [e]; rfl)
          rw [ht]
          exact this
        obtain ⟨M', m1, m2⟩ := ih (i + 1) j true _ (by omega) (by omega) hM2 hw2
        rw [ht] at m1 m2
        rw [drop_cons' l i T2.dflt (by omega), errsGo, if_neg (fun h => h h1), dupGo, e]
        refine ⟨M', m1, ?_⟩
        obtain ⟨a, b, _, _⟩ := (hM _).some e
        rw [f_u9_8, decide_eq_true (by omega : (i : Int) < (l.length : Int)), cond_true, if_pos ⟨by omega, by omega⟩, Int.toNat_natCast, hf, hv, Option.isSome_some, if_pos rfl, h1]
        show (bif v_u13 k W L l M (l.getD i T2.dflt).1 then _ else _) = _
        rw [hkn, b, wrapS i (by omega), Option.isSome_some, Option.isSome_some, Bool.true_or, Bool.or_true]
        rw [Bool.true_or] at m2
        exact m2
    · rw [drop_cons' l i T2.dflt (by omega), errsGo, if_pos h1]
      refine ⟨M, fun h => absurd h h1, ?_⟩
      rw [f_u9_8, decide_eq_true (by omega : (i : Int) < (l.length : Int)), cond_true, if_pos ⟨by omega, by omega⟩, Int.toNat_natCast, hf, hv, Option.isSome_some, if_pos rfl, show (fitsS (l.take i) W L (l.getD i T2.dflt) != 0) = true from bne_iff_ne.2 h1, cond_true, if_pos h1]
/-- the opening of a register -/
theorem fam_open (k : Nat) (hk : 300000 ≤ k) (l : List Ro) (web : Int × Int) : (checkS l web.1 web.2 ≠ 0 → f_u9 k l web = some (.inl (checkS l web.1 web.2))) ∧ (checkS l web.1 web.2 = 0 → ∃ M, RegOk M l ∧ Wl l ∧ f_u9 k l web = some (.inr (0, web.1, web.2, l, M))) := by
  obtain ⟨W, L⟩ := web
  show (checkS l W L ≠ 0 → f_u9 k l (W, L) = some (.inl (checkS l W L))) ∧ (checkS l W L = 0 → ∃ M, RegOk M l ∧ Wl l ∧ f_u9 k l (W, L) = some (.inr (0, W, L, l, M)))
  unfold f_u9 checkS
  show ((if _ then _ else _ : Int) ≠ 0 → (bif decide (W < (1 : Int)) || decide (W > (12000 : Int)) || decide (L < (0 : Int)) || decide (L > (17179869184 : Int)) then some (.inl 1) else bif _ then _ else f_u9_8 k k l false l (l.length : Int) 0 W L l []) = _) ∧ (_ → ∃ M, RegOk M l ∧ Wl l ∧ (bif decide (W < (1 : Int)) || decide (W > (12000 : Int)) || decide (L < (0 : Int)) || decide (L > (17179869184 : Int)) then some (.inl 1) else bif _ then _ else f_u9_8 k k l false l (l.length : Int) 0 W L l []) = _)
  by_cases h1 : W < 1 ∨ W > 12000 ∨ L < 0 ∨ L > 17179869184
  · rw [if_pos h1, show (decide (W < (1 : Int)) || decide (W > (12000 : Int)) || decide (L < (0 : Int)) || decide (L > (17179869184 : Int))) = true by simp; omega]
    exact ⟨fun _ => rfl, fun h => absurd h (by decide)⟩
  · rw [if_neg h1, show (decide (W < (1 : Int)) || decide (W > (12000 : Int)) || decide (L < (0 : Int)) || decide (L > (17179869184 : Int))) = false by simp; omega, cond_false]
    by_cases h2 : l.length > 512
    · rw [if_pos h2, decide_eq_true (by omega : (l.length : Int) > 512)]
      exact ⟨fun _ => rfl, fun h => absurd h (by decide)⟩
    · rw [if_neg h2, decide_eq_false (by omega : ¬ (l.length : Int) > 512), cond_false]
      obtain ⟨M, m1, m2⟩ := fam_open_8 k hk l W L (by omega) (by omega) l.length 0 k false [] (by omega) (by omega) (by rw [List.take_zero]; exact regOk_nil) (fun r hr => by simp at hr)
      rw [List.take_zero, List.drop_zero, Bool.false_or] at m2
      rw [List.take_zero, List.drop_zero] at m1
      rw [show f_u9_8 k k l false l (l.length : Int) 0 W L l [] = _ from m2]
      by_cases h3 : errsGo W L [] l = 0
      · rw [if_neg (fun h : errsGo W L [] l ≠ 0 => h h3), if_neg (fun h : errsGo W L [] l ≠ 0 => h h3)]
        have ff : ¬ (false = true) := Bool.false_ne_true
        have tt : true = true := rfl
        cases dupGo [] l
        · rw [if_neg ff, if_neg ff]
          cases clashGo [] l
          · rw [if_neg ff, if_neg ff]
            exact ⟨fun h => absurd rfl h, fun _ => ⟨M, (m1 h3).1, (m1 h3).2, rfl⟩⟩
          · rw [if_pos tt, if_pos tt]
            exact ⟨fun _ => rfl, fun h => absurd h (by decide)⟩
        · rw [if_pos tt, if_pos tt]
          exact ⟨fun _ => rfl, fun h => absurd h (by decide)⟩
      · rw [if_pos h3, if_pos h3]
        exact ⟨fun _ => rfl, fun h => absurd h h3⟩
end Go.AM
namespace Go.AM
open Go Go.Proofs
noncomputable section
end
end Go.AM
namespace Go.AM
open Go Go.Proofs
noncomputable section
end
end Go.AM
namespace Go.AM
open Go

/-! ### what a valid register says of its rolls -/
theorem look_left {a : List Ro} {id : Int} {q : Ro} (b : List Ro) (h : look a id = some q) : look (a ++ b) id = some q := by
  rw [look_append, h]; rfl
theorem size_left {a : List Ro} {W L id : Int} (b : List Ro) (h : id = 0 ∨ ∃ q, look a id = some q) : sizeS (a ++ b) W L id = sizeS a W L id := by
  unfold sizeS
  by_cases h0 : id = 0
  · rw [if_pos h0, if_pos h0]
  · rw [if_neg h0, if_neg h0]
    rcases h with h | ⟨q, h⟩
    · exact absurd h h0
    · rw [look_left b h, h]
structure RollOk (l : List Ro) (W L : Int) (r : Ro) : Prop where
  look : look l r.1 = some r
  pos : 1 ≤ r.1
  parent : r.2.1 = 0 ∨ ∃ q, Go.AM.look l r.2.1 = some q
  cut : CutOk r.2.2 (sizeS l W L r.2.1).1 (sizeS l W L r.2.1).2
theorem Okp.ro {W L : Int} {l : List Ro} (h : Okp W L l) : ∀ r ∈ l, RollOk l W L r := by
  induction h with
  | nil => intro r hr; simp at hr
  | snoc p r h f n c ih =>
    intro x hx
    rcases List.mem_append.1 hx with hx | hx
    · obtain ⟨a, b, c, d⟩ := ih x hx
      refine ⟨look_left _ a, b, ?_, by rw [size_left _ c]; exact d⟩
      rcases c with c | ⟨q, c⟩
      · exact .inl c
      · exact .inr ⟨q, look_left _ c⟩
    · rw [List.mem_singleton] at hx
      subst hx
      obtain ⟨a, b, c, d⟩ := f
      refine ⟨?_, a, ?_, by rw [size_left _ c]; exact d⟩
      · rw [look_append, n, Option.none_or]; unfold Go.AM.look; simp
      · rcases c with c | ⟨q, c⟩
        · exact .inl c
        · exact .inr ⟨q, look_left _ c⟩
/-- a roll that is cut from the web in n cuts at the most -/
inductive Anc (l : List Ro) : Nat → Int → Prop
  | root (n : Nat) : Anc l n 0
  | step (n : Nat) (id : Int) (r : Ro) (h0 : id ≠ 0) (h : look l id = some r) (a : Anc l n r.2.1) : Anc l (n + 1) id
theorem Anc.mono {l : List Ro} {n m : Nat} {id : Int} (h : Anc l n id) (hm : n ≤ m) : Anc l m id := by
  induction h generalizing m with
  | root n => exact .root m
  | step n id r h0 h a ih =>
    obtain ⟨m, rfl⟩ : ∃ q, m = q + 1 := ⟨m - 1, by omega⟩
    exact .step m id r h0 h (ih (by omega))
theorem Anc.left {l : List Ro} {n : Nat} {id : Int} (h : Anc l n id) (t : List Ro) : Anc (l ++ t) n id := by
  induction h with
  | root n => exact .root n
  | step n id r h0 h a ih => exact .step n id r h0 (look_left t h) ih
theorem Okp.anc {W L : Int} {l : List Ro} (h : Okp W L l) : ∀ r ∈ l, Anc l l.length r.1 := by
  induction h with
  | nil => intro r hr; simp at hr
  | snoc p r h f n c ih =>
    intro x hx
    rw [List.length_append, List.length_singleton]
    rcases List.mem_append.1 hx with hx | hx
    · exact ((ih x hx).mono (by omega)).left _
    · rw [List.mem_singleton] at hx
      subst hx
      obtain ⟨a, b, c, d⟩ := f
      refine .step p.length x.1 x (by omega) (by rw [look_append, n, Option.none_or]; unfold look; simp) ?_
      rcases c with c | ⟨q, c⟩
      · rw [c]; exact .root _
      · have := (ih q (look_some c).1).left [x]
        rw [(look_some c).2] at this
        exact this
theorem Reg.anc {W L : Int} {l : List Ro} (h : Reg l W L) {id : Int} (hi : id = 0 ∨ ∃ q, look l id = some q) : Anc l 512 id := by
  rcases hi with rfl | ⟨q, e⟩
  · exact .root _
  · have := h.ok.anc q (look_some e).1
    rw [(look_some e).2] at this
    exact this.mono h.num
theorem Reg.small {W L : Int} {l : List Ro} (h : Reg l W L) : ∀ (n : Nat) (id : Int), Anc l n id → 0 ≤ (sizeS l W L id).1 ∧ (sizeS l W L id).1 ≤ 12000 ∧ 0 ≤ (sizeS l W L id).2 ∧ (sizeS l W L id).2 ≤ 17179869184 := by
  intro n id ha
  have hw := h.w
  have hl := h.len
  induction ha with
  | root n => unfold sizeS; rw [if_pos rfl]; omega
  | step n id r h0 e a ih =>
    have ro := h.ok.ro r (look_some e).1
    obtain ⟨c1, c2, c3, c4, _⟩ := ro.cut
    have h1 : (sizeS l W L id) = (r.2.2.2.1, lenS r.2.2.2.2.2) := by unfold sizeS; rw [if_neg h0, e]
    rw [h1]
    have h2 := lenS_nonneg c4.goods
    have h3 := c4.tot
    refine ⟨?_, ?_, ?_, ?_⟩
    · show 0 ≤ r.2.2.2.1; omega
    · show r.2.2.2.1 ≤ _; omega
    · show 0 ≤ lenS r.2.2.2.2.2; omega
    · show lenS r.2.2.2.2.2 ≤ _; omega

/-! ### points -/
def placeS (r : Ro) (p : Pt) : Pt := (r.2.1, (if r.2.2.2.2.1 = true then r.2.2.1 + r.2.2.2.1 - 1 - p.2.1 else r.2.2.1 + p.2.1), imgAt r.2.2.2.2.2 p.2.2)
structure On (l : List Ro) (W L : Int) (p : Pt) : Prop where
  a0 : 0 ≤ p.2.1
  a1 : p.2.1 < (sizeS l W L p.1).1
  b0 : 0 ≤ p.2.2
  b1 : p.2.2 < (sizeS l W L p.1).2
theorem imgAt_mem : ∀ {m : List Rn} {x : Int}, goods m → 0 ≤ x → x < lenS m → ∃ r ∈ m, lo r ≤ imgAt m x ∧ imgAt m x ≤ hi r
  | [], x, _, h0, h1 => by simp [lenS] at h1; omega
  | r :: t, x, ⟨g1, g2⟩, h0, h1 => by
    rw [lenS] at h1
    unfold imgAt
    by_cases h : x < r.2.1
    · rw [if_pos h]
      exact ⟨r, by simp, img_mem h0 h⟩
    · rw [if_neg h]
      obtain ⟨q, hq, a⟩ := imgAt_mem g2 (by omega : 0 ≤ x - r.2.1) (by omega)
      exact ⟨q, by simp [hq], a⟩
theorem fits_mem {n : Int} : ∀ {l : List Rn}, fitsIn n l → ∀ r ∈ l, hi r < n
  | [], _, r, h => by simp at h
  | u :: t, ⟨h1, h2⟩, r, hr => by
    rcases List.mem_cons.1 hr with rfl | hr
    · exact h1
    · exact fits_mem h2 r hr
theorem On.place {l : List Ro} {W L : Int} {p : Pt} {r : Ro} (hp : p.1 ≠ 0) (h : On l W L p) (e : look l p.1 = some r) (ro : RollOk l W L r) : On l W L (placeS r p) := by
  obtain ⟨a0, a1, b0, b1⟩ := h
  obtain ⟨c1, c2, c3, c4, c5, c6, c7⟩ := ro.cut
  have h1 : (sizeS l W L p.1) = (r.2.2.2.1, lenS r.2.2.2.2.2) := by unfold sizeS; rw [if_neg hp, e]
  rw [h1] at a1 b1
  have a1 : p.2.1 < r.2.2.2.1 := a1
  have b1 : p.2.2 < lenS r.2.2.2.2.2 := b1
  obtain ⟨x, hx, i1, i2⟩ := imgAt_mem c4.goods b0 b1
  have h2 := fits_mem c7 x hx
  obtain ⟨l1, l2, l3, l4⟩ := (c4.goods.mem x hx).lohi
  refine ⟨?_, ?_, ?_, ?_⟩
  · show 0 ≤ (if r.2.2.2.2.1 = true then _ else _ : Int)
    split <;> omega
  · show (if r.2.2.2.2.1 = true then _ else _ : Int) < (sizeS l W L r.2.1).1
    split <;> omega
  · show 0 ≤ imgAt _ _; omega
  · show imgAt _ _ < (sizeS l W L r.2.1).2; omega

/-- the place of a point in the web -/
def webS (l : List Ro) : Nat → Pt → Pt
  | 0, p => p
  | n + 1, p => if p.1 = 0 then p else match look l p.1 with
    | none => p
    | some r => webS l n (placeS r p)
end Go.AM
namespace Go.AM
open Go Go.Proofs
noncomputable section
abbrev RA_u8 : Type := Int
def resA_u8 (r : RA_u8) : AV := .tup [.r (.v (Value.pointer none)), .r (.v (.int .i64 r))]
def boA_u8 (l_ : List (T2).T) (web_ : T9.T) (id_ : Int) (r : RA_u8) : List (Nat × Blk) := []
abbrev RB_u8 : Type := Int × Int × Int × List (T2).T × (List ((I).T × (I).T))
def resB_u8 (r : RB_u8) : AV := .tup [.ptr 0 0 0, .r (.v (.int .i64 r.1))]
def boB_u8 (l_ : List (T2).T) (web_ : T9.T) (id_ : Int) (r : RB_u8) : List (Nat × Blk) := [(0, .var 127 [.r (.v (.int .i64 r.2.1)), .r (.v (.int .i64 r.2.2.1)), .r (.ro T2 r.2.2.2.1), .own 1 0]), (0, .map false I I r.2.2.2.2)]
abbrev R_u8 : Type := RA_u8 ⊕ RB_u8
def res_u8 (r : R_u8) : AV := match r with
  | .inl a => resA_u8 a
  | .inr a => resB_u8 a
def bo_u8 (l_ : List (T2).T) (web_ : T9.T) (id_ : Int) (r : R_u8) : List (Nat × Blk) := match r with
  | .inl a => boA_u8 l_ web_ id_ a
  | .inr a => boB_u8 l_ web_ id_ a
def args_u8 (l_ : List (T2).T) (web_ : T9.T) (id_ : Int) : List AV := [.r (.ro T2 l_), .agg (rvs (enc T9 web_)), .r (.v (.int .i64 id_))]
def bin_u8 (l_ : List (T2).T) (web_ : T9.T) (id_ : Int) : List Blk := []
abbrev C_u8 (l_ : List (T2).T) (web_ : T9.T) (id_ : Int) (r : R_u8) : Prop := CC Tryz.prog 31 (args_u8 l_ web_ id_) (bin_u8 l_ web_ id_) (res_u8 r) (bo_u8 l_ web_ id_ r)
abbrev CA_u8 (l_ : List (T2).T) (web_ : T9.T) (id_ : Int) (r : RA_u8) : Prop := CC Tryz.prog 31 (args_u8 l_ web_ id_) (bin_u8 l_ web_ id_) (resA_u8 r) (boA_u8 l_ web_ id_ r)
abbrev CB_u8 (l_ : List (T2).T) (web_ : T9.T) (id_ : Int) (r : RB_u8) : Prop := CC Tryz.prog 31 (args_u8 l_ web_ id_) (bin_u8 l_ web_ id_) (resB_u8 r) (boB_u8 l_ web_ id_ r)
def f_u8 (k : Nat) (l_ : List (T2).T) (web_ : T9.T) (id_ : Int) : Option R_u8 :=
  bif (Sum.isLeft (v_u9 k l_ web_)) then
  if ((f_u9 k l_ web_).isSome = true) then
  bif (vA_u9 k l_ web_ == (0 : Int) && id_ != (0 : Int)) then
  none
  else
  if ((vA_u9 k l_ web_ == (0 : Int) && id_ != (0 : Int)) = false) then
  some ((.inl (vA_u9 k l_ web_)))
  else none
  else none
  else
  if ((f_u9 k l_ web_).isSome = true) then
  bif ((vB_u9 k l_ web_).1 == (0 : Int) && id_ != (0 : Int)) then
  if (((vB_u9 k l_ web_).1 == (0 : Int) && id_ != (0 : Int)) = true) ∧ ((f_u13 k (vB_u9 k l_ web_).2.1 (vB_u9 k l_ web_).2.2.1 (vB_u9 k l_ web_).2.2.2.1 (vB_u9 k l_ web_).2.2.2.2 id_).isSome = true) then
  bif (true && (!v_u13 k (vB_u9 k l_ web_).2.1 (vB_u9 k l_ web_).2.2.1 (vB_u9 k l_ web_).2.2.2.1 (vB_u9 k l_ web_).2.2.2.2 id_)) then
  some ((.inl 7))
  else
  some ((.inr (((vB_u9 k l_ web_).1, (vB_u9 k l_ web_).2.1, (vB_u9 k l_ web_).2.2.1, (vB_u9 k l_ web_).2.2.2.1, (vB_u9 k l_ web_).2.2.2.2))))
  else none
  else
  if (((vB_u9 k l_ web_).1 == (0 : Int) && id_ != (0 : Int)) = false) then
  some ((.inr (((vB_u9 k l_ web_).1, (vB_u9 k l_ web_).2.1, (vB_u9 k l_ web_).2.2.1, (vB_u9 k l_ web_).2.2.2.1, (vB_u9 k l_ web_).2.2.2.2))))
  else none
  else none
def v_u8 (k : Nat) (l_ : List (T2).T) (web_ : T9.T) (id_ : Int) : R_u8 := (f_u8 k l_ web_ id_).getD (.inl 0)
def vA_u8 (k : Nat) (l_ : List (T2).T) (web_ : T9.T) (id_ : Int) : RA_u8 := lft 0 (v_u8 k l_ web_ id_)
def vB_u8 (k : Nat) (l_ : List (T2).T) (web_ : T9.T) (id_ : Int) : RB_u8 := rgt ((0, 0, 0, [], [])) (v_u8 k l_ web_ id_)
def ke_u8 (k : Nat) : Ke := (31, fun xs => match xs with
  | [_, _, _] => some [false, false, false]
  | _ => none, fun xs bs => match xs, bs with
  | [.r (.ro tl__ ql_), .agg qweb_, .r (.v (.int .i64 id_))], [] => (castL tl__ T2 ql_).bind fun l_ => (decS [] T9 qweb_).bind fun web_ => some (.two (v_u8 k l_ web_ id_).isLeft (resA_u8 (vA_u8 k l_ web_ id_), boA_u8 l_ web_ id_ (vA_u8 k l_ web_ id_)) (resB_u8 (vB_u8 k l_ web_ id_), boB_u8 l_ web_ id_ (vB_u8 k l_ web_ id_)))
  | _, _ => none)
theorem of_u8 (k : Nat) (l_ : List (T2).T) (web_ : T9.T) (id_ : Int) (r : R_u8) (h : f_u8 k l_ web_ id_ = some r) : C_u8 l_ web_ id_ r := by
  refine CC.of (fn := Tryz.f31) (by kernel_rfl) (by kernel_rfl) (by kernel_rfl) (by kernel_rfl) ?_
  unfold f_u8 at h
  exact go (mkK [ke_u13 k, ke_u9 k]) [] [] [.autoB [6, 7] true []] (gT h (fun c h => gN1 h (fun q => ccA_u9 q (by assumption)) fun h => gT h (fun c h => gZ h (.stuck 2009)) fun c h => gN1 h id fun h => gU2 h (.leaf (.tup [.r (.v (Value.pointer none)), .r (.v (.int .i64 7))]) []) fun h => gL h) fun c h => gN1 h (fun q => ccB_u9 q (by assumption)) fun h => gT h (fun c h => gN h (fun q => conjC q.1 (conjC (cc_u13 q.2) conj0)) fun h => gT h (fun c h => gL h) fun c h => gL h) fun c h => gN1 h id fun h => gU2 h (.leaf (.tup [.r (.v (Value.pointer none)), .r (.v (.int .i64 7))]) []) fun h => gL h) (by kernel_rfl)
theorem cc_u8 {k : Nat} {l_ : List (T2).T} {web_ : T9.T} {id_ : Int} (h : (f_u8 k l_ web_ id_).isSome = true) : C_u8 l_ web_ id_ (v_u8 k l_ web_ id_) := ccG (Φ := C_u8 l_ web_ id_) h (of_u8 k l_ web_ id_)
theorem ccA_u8 {k : Nat} {l_ : List (T2).T} {web_ : T9.T} {id_ : Int} (h : (f_u8 k l_ web_ id_).isSome = true) (hb : (v_u8 k l_ web_ id_).isLeft = true) : CA_u8 l_ web_ id_ (vA_u8 k l_ web_ id_) := ccAG (Φ := C_u8 l_ web_ id_) (cc_u8 h) hb
theorem ccB_u8 {k : Nat} {l_ : List (T2).T} {web_ : T9.T} {id_ : Int} (h : (f_u8 k l_ web_ id_).isSome = true) (hb : (v_u8 k l_ web_ id_).isLeft = false) : CB_u8 l_ web_ id_ (vB_u8 k l_ web_ id_) := ccBG (Φ := C_u8 l_ web_ id_) (cc_u8 h) hb
abbrev R_u6 : Type := Int × Int × Int
def res_u6 (r : R_u6) : AV := .tup [.r (.v (.int .i64 r.1)), .r (.v (.int .i64 r.2.1)), .r (.v (.int .i64 r.2.2))]
def bo_u6 (l_ : List (T2).T) (web_ : T9.T) (id_ : Int) (r : R_u6) : List (Nat × Blk) := []
def args_u6 (l_ : List (T2).T) (web_ : T9.T) (id_ : Int) : List AV := [.r (.ro T2 l_), .agg (rvs (enc T9 web_)), .r (.v (.int .i64 id_))]
def bin_u6 (l_ : List (T2).T) (web_ : T9.T) (id_ : Int) : List Blk := []
abbrev C_u6 (l_ : List (T2).T) (web_ : T9.T) (id_ : Int) (r : R_u6) : Prop := CC Tryz.prog 11 (args_u6 l_ web_ id_) (bin_u6 l_ web_ id_) (res_u6 r) (bo_u6 l_ web_ id_ r)
def f_u6 (k : Nat) (l_ : List (T2).T) (web_ : T9.T) (id_ : Int) : Option R_u6 :=
  bif (Sum.isLeft (v_u8 k l_ web_ id_)) then
  if ((f_u8 k l_ web_ id_).isSome = true) then
  bif (vA_u8 k l_ web_ id_ != (0 : Int)) then
  some ((0, 0, vA_u8 k l_ web_ id_))
  else
  none
  else none
  else
  if ((f_u8 k l_ web_ id_).isSome = true) then
  bif ((vB_u8 k l_ web_ id_).1 != (0 : Int)) then
  some ((0, 0, (vB_u8 k l_ web_ id_).1))
  else
  if ((f_u14 k (vB_u8 k l_ web_ id_).2.1 (vB_u8 k l_ web_ id_).2.2.1 (vB_u8 k l_ web_ id_).2.2.2.1 (vB_u8 k l_ web_ id_).2.2.2.2 id_).isSome = true) then
  some (((v_u14 k (vB_u8 k l_ web_ id_).2.1 (vB_u8 k l_ web_ id_).2.2.1 (vB_u8 k l_ web_ id_).2.2.2.1 (vB_u8 k l_ web_ id_).2.2.2.2 id_).1, (v_u14 k (vB_u8 k l_ web_ id_).2.1 (vB_u8 k l_ web_ id_).2.2.1 (vB_u8 k l_ web_ id_).2.2.2.1 (vB_u8 k l_ web_ id_).2.2.2.2 id_).2, 0))
  else none
  else none
def v_u6 (k : Nat) (l_ : List (T2).T) (web_ : T9.T) (id_ : Int) : R_u6 := (f_u6 k l_ web_ id_).getD (0, 0, 0)
def ke_u6 (k : Nat) : Ke := (11, fun xs => match xs with
  | [_, _, _] => some [false, false, false]
  | _ => none, fun xs bs => match xs, bs with
  | [.r (.ro tl__ ql_), .agg qweb_, .r (.v (.int .i64 id_))], [] => (castL tl__ T2 ql_).bind fun l_ => (decS [] T9 qweb_).bind fun web_ => some (.one (res_u6 (v_u6 k l_ web_ id_), bo_u6 l_ web_ id_ (v_u6 k l_ web_ id_)))
  | _, _ => none)
theorem of_u6 (k : Nat) (l_ : List (T2).T) (web_ : T9.T) (id_ : Int) (r : R_u6) (h : f_u6 k l_ web_ id_ = some r) : C_u6 l_ web_ id_ r := by
  refine CC.of (fn := Tryz.f11) (by kernel_rfl) (by kernel_rfl) (by kernel_rfl) (by kernel_rfl) ?_
  unfold f_u6 at h
  exact go (mkK [ke_u14 k, ke_u8 k]) [] [] [.autoB [6, 7, 8] true []] (gT h (fun c h => gN1 h (fun q => ccA_u8 q (by assumption)) fun h => gT h (fun c h => gL h) fun c h => gZ h (.stuck 2002)) fun c h => gN1 h (fun q => ccB_u8 q (by assumption)) fun h => gT h (fun c h => gL h) fun c h => gN1 h (fun q => cc_u14 q) fun h => gL h) (by kernel_rfl)
theorem cc_u6 {k : Nat} {l_ : List (T2).T} {web_ : T9.T} {id_ : Int} (h : (f_u6 k l_ web_ id_).isSome = true) : C_u6 l_ web_ id_ (v_u6 k l_ web_ id_) := ccG (Φ := C_u6 l_ web_ id_) h (of_u6 k l_ web_ id_)
end
/-- the error of a number in a register -/
def errS (l : List Ro) (W L id : Int) : Int := if checkS l W L ≠ 0 then checkS l W L else if id ≠ 0 ∧ look l id = none then 7 else 0
structure Kno (l : List Ro) (W L id : Int) : Prop where
  reg : Reg l W L
  kn : id = 0 ∨ ∃ q, look l id = some q
theorem errS_zero {l : List Ro} {W L id : Int} : errS l W L id = 0 ↔ Kno l W L id := by
  unfold errS
  constructor
  · intro h
    by_cases h1 : checkS l W L = 0
    · rw [if_neg (fun h : checkS l W L ≠ 0 => h h1)] at h
      refine ⟨checkS_zero.1 h1, ?_⟩
      by_cases h2 : id = 0
      · exact .inl h2
      · right
        cases e : look l id with
        | none => rw [if_pos ⟨h2, e⟩] at h; omega
        | some q => exact ⟨q, rfl⟩
    · rw [if_pos h1] at h; exact absurd h h1
  · rintro ⟨h1, h2⟩
    rw [if_neg (fun h : checkS l W L ≠ 0 => h (checkS_zero.2 h1)), if_neg (fun h : id ≠ 0 ∧ look l id = none => by
      rcases h2 with h2 | ⟨q, h2⟩
      · exact h.1 h2
      · rw [h2] at h; cases h.2)]

theorem fam_find (k : Nat) (hk : 300000 ≤ k) (l : List Ro) (web : Int × Int) (id : Int) : (errS l web.1 web.2 id ≠ 0 → f_u8 k l web id = some (.inl (errS l web.1 web.2 id))) ∧ (errS l web.1 web.2 id = 0 → ∃ M, RegOk M l ∧ Wl l ∧ f_u8 k l web id = some (.inr (0, web.1, web.2, l, M))) := by
  obtain ⟨h1, h2⟩ := fam_open k hk l web
  by_cases h : checkS l web.1 web.2 = 0
  · obtain ⟨M, m1, m2, e⟩ := h2 h
    have hX : f_u8 k l web id = bif ((0 : Int) == 0 && id != 0) then (if (((0 : Int) == 0 && id != 0) = true) ∧ ((f_u13 k web.1 web.2 l M id).isSome = true) then (bif (true && !v_u13 k web.1 web.2 l M id) then some (.inl 7) else some (.inr (0, web.1, web.2, l, M))) else none) else (if (((0 : Int) == 0 && id != 0) = false) then some (.inr (0, web.1, web.2, l, M)) else none) := by
      unfold f_u8 vA_u9 vB_u9 v_u9
      rw [e]; rfl
    have hkn : v_u13 k web.1 web.2 l M id = (mget I id M).isSome := by unfold v_u13 f_u13; rfl
    rw [hX, hkn]
    unfold errS
    rw [if_neg (fun h' : checkS l web.1 web.2 ≠ 0 => h' h)]
    by_cases h0 : id = 0
    · rw [show ((0 : Int) == 0 && id != 0) = false by simp [h0], cond_false, if_pos rfl, if_neg (fun h' : id ≠ 0 ∧ look l id = none => h'.1 h0)]
      exact ⟨fun h => absurd rfl h, fun _ => ⟨M, m1, m2, rfl⟩⟩
    · rw [show ((0 : Int) == 0 && id != 0) = true by simp [h0], cond_true, if_pos (show true = true ∧ (f_u13 k web.1 web.2 l M id).isSome = true from ⟨rfl, rfl⟩)]
      cases e : look l id with
      | none =>
        rw [(m1 id).none e, if_pos (show id ≠ 0 ∧ (none : Option Ro) = none from ⟨h0, rfl⟩)]
        exact ⟨fun _ => rfl, fun h => absurd h (by decide)⟩
      | some q =>
        obtain ⟨i, e1, e2, e3⟩ := (m1 id).some e
        rw [e1, if_neg (fun h : id ≠ 0 ∧ some q = none => nomatch h.2)]
        exact ⟨fun h => absurd rfl h, fun _ => ⟨M, m1, m2, rfl⟩⟩
  · have hX : f_u8 k l web id = bif (checkS l web.1 web.2 == 0 && id != 0) then none else if (checkS l web.1 web.2 == 0 && id != 0) = false then some (.inl (checkS l web.1 web.2)) else none := by
      unfold f_u8 vA_u9 vB_u9 v_u9
      rw [h1 h]; rfl
    rw [hX]
    unfold errS
    rw [if_pos h, show (checkS l web.1 web.2 == 0) = false from beq_false_of_ne h, Bool.false_and, cond_false, if_pos rfl]
    exact ⟨fun _ => rfl, fun h' => absurd h' h⟩

/-! ### sizes -/
def sizeE (l : List Ro) (W L id : Int) : Int × Int × Int := if errS l W L id ≠ 0 then (0, 0, errS l W L id) else ((sizeS l W L id).1, (sizeS l W L id).2, 0)
theorem fam_size (k : Nat) (hk : 2100 ≤ k) (W L : Int) (l : List Ro) (M : List (Int × Int)) (id : Int) (hp : Wl l) (hM : RegOk M l) (h : id = 0 ∨ ∃ q, look l id = some q) : f_u14 k W L l M id = some (sizeS l W L id) ∧ v_u14 k W L l M id = sizeS l W L id := by
  have a := fam_size_s k hk W L l [] M id hp hM h
  have b := fam_size_v k hk W L l [] M id hp hM h
  rw [List.append_nil] at a b
  exact ⟨a, b⟩
theorem fam_Size_s (k : Nat) (hk : 300000 ≤ k) (l : List Ro) (web : Int × Int) (id : Int) : f_u6 k l web id = some (sizeE l web.1 web.2 id) := by
  obtain ⟨h1, h2⟩ := fam_find k hk l web id
  unfold f_u6 vA_u8 vB_u8 v_u8 sizeE
  by_cases h : errS l web.1 web.2 id = 0
  · obtain ⟨M, m1, m2, e⟩ := h2 h
    obtain ⟨a, b⟩ := fam_size k (by omega) web.1 web.2 l M id m2 m1 (errS_zero.1 h).kn
    rw [e, if_neg (fun h' : errS l web.1 web.2 id ≠ 0 => h' h)]
    show (if (f_u14 k web.1 web.2 l M id).isSome = true then some ((v_u14 k web.1 web.2 l M id).1, (v_u14 k web.1 web.2 l M id).2, (0 : Int)) else none) = _
    rw [a, b]; rfl
  · rw [h1 h, if_pos h]
    show (bif (errS l web.1 web.2 id != 0) then _ else _) = _
    rw [bne_iff_ne.2 h]; rfl
theorem fam_Size_v (k : Nat) (hk : 300000 ≤ k) (l : List Ro) (web : Int × Int) (id : Int) : v_u6 k l web id = sizeE l web.1 web.2 id := by
  unfold v_u6; rw [fam_Size_s k hk l web id]; rfl

theorem Reg.wl {l : List Ro} {W L : Int} (h : Reg l W L) : Wl l := fun r hr => by
  have ro := h.ok.ro r hr
  obtain ⟨c1, c2, c3, c4, _⟩ := ro.cut
  have := h.small 512 r.2.1 (h.anc ro.parent)
  exact ⟨c1, c2, by omega, c4⟩

/-- the size of a roll that is known -/
theorem size_some {l : List Ro} {W L id : Int} {r : Ro} (h0 : id ≠ 0) (e : look l id = some r) : sizeS l W L id = (r.2.2.2.1, lenS r.2.2.2.2.2) := by
  unfold sizeS; rw [if_neg h0, e]

end Go.AM
namespace Go.AM
open Go Go.Proofs
noncomputable section
abbrev R_u11 : Type := T1.T × Int
def res_u11 (r : R_u11) : AV := .tup [.agg (rvs (enc T1 r.1)), .r (.v (.int .i64 r.2))]
def bo_u11 (g_0 : Int) (g_1 : Int) (g_2 : List (T2).T) (g_3 : List ((I).T × (I).T)) (id_ : Int) (r : R_u11) : List (Nat × Blk) := [(0, .var 127 [.r (.v (.int .i64 g_0)), .r (.v (.int .i64 g_1)), .r (.ro T2 g_2), .own 1 0]), (0, .map false I I g_3)]
def args_u11 (g_0 : Int) (g_1 : Int) (g_2 : List (T2).T) (g_3 : List ((I).T × (I).T)) (id_ : Int) : List AV := [.ptr 0 0 0, .r (.v (.int .i64 id_))]
def bin_u11 (g_0 : Int) (g_1 : Int) (g_2 : List (T2).T) (g_3 : List ((I).T × (I).T)) (id_ : Int) : List Blk := [.var 127 [.r (.v (.int .i64 g_0)), .r (.v (.int .i64 g_1)), .r (.ro T2 g_2), .own 1 0], .map false I I g_3]
abbrev C_u11 (g_0 : Int) (g_1 : Int) (g_2 : List (T2).T) (g_3 : List ((I).T × (I).T)) (id_ : Int) (r : R_u11) : Prop := CC Tryz.prog 41 (args_u11 g_0 g_1 g_2 g_3 id_) (bin_u11 g_0 g_1 g_2 g_3 id_) (res_u11 r) (bo_u11 g_0 g_1 g_2 g_3 id_ r)
def w_u11 (g : Int → Int → List (T2).T → (List ((I).T × (I).T)) → Int → Option R_u11) (g_0 : Int) (g_1 : Int) (g_2 : List (T2).T) (g_3 : List ((I).T × (I).T)) (id_ : Int) : R_u11 := (g g_0 g_1 g_2 g_3 id_).getD ((T1).dflt, 0)
def f_u11 : Nat → Int → Int → List (T2).T → (List ((I).T × (I).T)) → Int → Option R_u11
  | 0, _, _, _, _, _ => none
  | k + 1, g_0, g_1, g_2, g_3, id_ =>
  bif (id_ == (0 : Int)) then
  bif (decide (g_1 > (0 : Int))) then
  some (((0, (g_0, (false, [(0, g_1, false)]))), 0))
  else
  some (((0, (g_0, (false, []))), 0))
  else
  if ((0 : Int) ≤ (mget I id_ g_3).getD (0 : Int)) ∧ ((mget I id_ g_3).getD (0 : Int) < (↑g_2.length : Int)) then
  if ((f_u11 k g_0 g_1 g_2 g_3 (g_2.getD (Int.toNat ((mget I id_ g_3).getD 0)) T2.dflt).2.1).isSome = true) then
  bif ((w_u11 (f_u11 k) g_0 g_1 g_2 g_3 (g_2.getD (Int.toNat ((mget I id_ g_3).getD (0 : Int))) T2.dflt).2.1).2 != (0 : Int)) then
  some (((0, (0, (false, []))), (w_u11 (f_u11 k) g_0 g_1 g_2 g_3 (g_2.getD (Int.toNat ((mget I id_ g_3).getD 0)) T2.dflt).2.1).2))
  else
  if ((f_u19 k (g_2.getD (Int.toNat ((mget I id_ g_3).getD 0)) T2.dflt).2.2.2.2.2 (w_u11 (f_u11 k) g_0 g_1 g_2 g_3 (g_2.getD (Int.toNat ((mget I id_ g_3).getD 0)) T2.dflt).2.1).1.2.2.2).isSome = true) then
  bif ((v_u19 k (g_2.getD (Int.toNat ((mget I id_ g_3).getD (0 : Int))) T2.dflt).2.2.2.2.2 (w_u11 (f_u11 k) g_0 g_1 g_2 g_3 (g_2.getD (Int.toNat ((mget I id_ g_3).getD (0 : Int))) T2.dflt).2.1).1.2.2.2).2 != (0 : Int)) then
  some (((0, (0, (false, []))), (v_u19 k (g_2.getD (Int.toNat ((mget I id_ g_3).getD 0)) T2.dflt).2.2.2.2.2 (w_u11 (f_u11 k) g_0 g_1 g_2 g_3 (g_2.getD (Int.toNat ((mget I id_ g_3).getD 0)) T2.dflt).2.1).1.2.2.2).2))
  else
  bif (w_u11 (f_u11 k) g_0 g_1 g_2 g_3 (g_2.getD (Int.toNat ((mget I id_ g_3).getD (0 : Int))) T2.dflt).2.1).1.2.2.1 then
  some (((IntKind.i64.wrap (IntKind.i64.wrap (IntKind.i64.wrap ((w_u11 (f_u11 k) g_0 g_1 g_2 g_3 (g_2.getD (Int.toNat ((mget I id_ g_3).getD 0)) T2.dflt).2.1).1.1 + (w_u11 (f_u11 k) g_0 g_1 g_2 g_3 (g_2.getD (Int.toNat ((mget I id_ g_3).getD 0)) T2.dflt).2.1).1.2.1) - (g_2.getD (Int.toNat ((mget I id_ g_3).getD 0)) T2.dflt).2.2.1) - (g_2.getD (Int.toNat ((mget I id_ g_3).getD 0)) T2.dflt).2.2.2.1), ((g_2.getD (Int.toNat ((mget I id_ g_3).getD 0)) T2.dflt).2.2.2.1, (! (w_u11 (f_u11 k) g_0 g_1 g_2 g_3 (g_2.getD (Int.toNat ((mget I id_ g_3).getD 0)) T2.dflt).2.1).1.2.2.1 == (g_2.getD (Int.toNat ((mget I id_ g_3).getD 0)) T2.dflt).2.2.2.2.1, (v_u19 k (g_2.getD (Int.toNat ((mget I id_ g_3).getD 0)) T2.dflt).2.2.2.2.2 (w_u11 (f_u11 k) g_0 g_1 g_2 g_3 (g_2.getD (Int.toNat ((mget I id_ g_3).getD 0)) T2.dflt).2.1).1.2.2.2).1))), 0))
  else
  some (((IntKind.i64.wrap ((w_u11 (f_u11 k) g_0 g_1 g_2 g_3 (g_2.getD (Int.toNat ((mget I id_ g_3).getD 0)) T2.dflt).2.1).1.1 + (g_2.getD (Int.toNat ((mget I id_ g_3).getD 0)) T2.dflt).2.2.1), ((g_2.getD (Int.toNat ((mget I id_ g_3).getD 0)) T2.dflt).2.2.2.1, (! (w_u11 (f_u11 k) g_0 g_1 g_2 g_3 (g_2.getD (Int.toNat ((mget I id_ g_3).getD 0)) T2.dflt).2.1).1.2.2.1 == (g_2.getD (Int.toNat ((mget I id_ g_3).getD 0)) T2.dflt).2.2.2.2.1, (v_u19 k (g_2.getD (Int.toNat ((mget I id_ g_3).getD 0)) T2.dflt).2.2.2.2.2 (w_u11 (f_u11 k) g_0 g_1 g_2 g_3 (g_2.getD (Int.toNat ((mget I id_ g_3).getD 0)) T2.dflt).2.1).1.2.2.2).1))), 0))
  else none
  else none
  else none
def v_u11 (k : Nat) (g_0 : Int) (g_1 : Int) (g_2 : List (T2).T) (g_3 : List ((I).T × (I).T)) (id_ : Int) : R_u11 := (f_u11 k g_0 g_1 g_2 g_3 id_).getD ((T1).dflt, 0)
def ke_u11 (k : Nat) : Ke := (41, fun xs => match xs with
  | [.ptr _ _ _, _] => some [true, false]
  | _ => none, fun xs bs => match xs, bs with
  | [.ptr 0 0 0, .r (.v (.int .i64 id_))], [.var 127 [.r (.v (.int .i64 g_0)), .r (.v (.int .i64 g_1)), .r (.ro tg_2_ qg_2), .own 1 0], .map false kg_3_ tg_3_ qg_3] => (castL tg_2_ T2 qg_2).bind fun g_2 => (castM kg_3_ tg_3_ I I qg_3).bind fun g_3 => some (.one (res_u11 (v_u11 k g_0 g_1 g_2 g_3 id_), bo_u11 g_0 g_1 g_2 g_3 id_ (v_u11 k g_0 g_1 g_2 g_3 id_)))
  | _, _ => none)
theorem of_u11 : ∀ (k : Nat) (g_0 : Int) (g_1 : Int) (g_2 : List (T2).T) (g_3 : List ((I).T × (I).T)) (id_ : Int) (r : R_u11), f_u11 k g_0 g_1 g_2 g_3 id_ = some r → C_u11 g_0 g_1 g_2 g_3 id_ r
  | 0, g_0, g_1, g_2, g_3, id_, r, h => by simp [f_u11] at h
  | k + 1, g_0, g_1, g_2, g_3, id_, r, h => by
    have ih : ∀ {g_0 : Int} {g_1 : Int} {g_2 : List (T2).T} {g_3 : List ((I).T × (I).T)} {id_ : Int}, (f_u11 k g_0 g_1 g_2 g_3 id_).isSome = true → C_u11 g_0 g_1 g_2 g_3 id_ (v_u11 k g_0 g_1 g_2 g_3 id_) := fun {g_0} {g_1} {g_2} {g_3} {id_} h => ccG (Φ := C_u11 g_0 g_1 g_2 g_3 id_) h (of_u11 k g_0 g_1 g_2 g_3 id_)
    refine CC.of (fn := Tryz.f41) (by kernel_rfl) (by kernel_rfl) (by kernel_rfl) (by kernel_rfl) ?_
    rw [f_u11] at h
    exact go (mkK [ke_u19 k, ke_u11 k]) [] [] [.frz 4 true T1, .autoB [4, 5] true []] (gT h (fun c h => gT h (fun c h => gL h) fun c h => gL h) fun c h => gN2 h fun h => gN1 h (fun q => ih q) fun h => gT h (fun c h => gL h) fun c h => gN1 h (fun q => cc_u19 q) fun h => gT h (fun c h => gL h) fun c h => gT h (fun c h => gL h) fun c h => gL h) (by kernel_rfl)
theorem cc_u11 {k : Nat} {g_0 : Int} {g_1 : Int} {g_2 : List (T2).T} {g_3 : List ((I).T × (I).T)} {id_ : Int} (h : (f_u11 k g_0 g_1 g_2 g_3 id_).isSome = true) : C_u11 g_0 g_1 g_2 g_3 id_ (v_u11 k g_0 g_1 g_2 g_3 id_) := ccG (Φ := C_u11 g_0 g_1 g_2 g_3 id_) h (of_u11 k g_0 g_1 g_2 g_3 id_)
abbrev R_u5 : Type := T1.T × Int
def res_u5 (r : R_u5) : AV := .tup [.agg (rvs (enc T1 r.1)), .r (.v (.int .i64 r.2))]
def bo_u5 (l_ : List (T2).T) (web_ : T9.T) (id_ : Int) (r : R_u5) : List (Nat × Blk) := []
def args_u5 (l_ : List (T2).T) (web_ : T9.T) (id_ : Int) : List AV := [.r (.ro T2 l_), .agg (rvs (enc T9 web_)), .r (.v (.int .i64 id_))]
def bin_u5 (l_ : List (T2).T) (web_ : T9.T) (id_ : Int) : List Blk := []
abbrev C_u5 (l_ : List (T2).T) (web_ : T9.T) (id_ : Int) (r : R_u5) : Prop := CC Tryz.prog 16 (args_u5 l_ web_ id_) (bin_u5 l_ web_ id_) (res_u5 r) (bo_u5 l_ web_ id_ r)
def f_u5 (k : Nat) (l_ : List (T2).T) (web_ : T9.T) (id_ : Int) : Option R_u5 :=
  bif (Sum.isLeft (v_u8 k l_ web_ id_)) then
  if ((f_u8 k l_ web_ id_).isSome = true) then
  bif (vA_u8 k l_ web_ id_ != (0 : Int)) then
  some (((0, (0, (false, []))), vA_u8 k l_ web_ id_))
  else
  none
  else none
  else
  if ((f_u8 k l_ web_ id_).isSome = true) then
  bif ((vB_u8 k l_ web_ id_).1 != (0 : Int)) then
  some (((0, (0, (false, []))), (vB_u8 k l_ web_ id_).1))
  else
  if ((f_u11 k (vB_u8 k l_ web_ id_).2.1 (vB_u8 k l_ web_ id_).2.2.1 (vB_u8 k l_ web_ id_).2.2.2.1 (vB_u8 k l_ web_ id_).2.2.2.2 id_).isSome = true) then
  some (((v_u11 k (vB_u8 k l_ web_ id_).2.1 (vB_u8 k l_ web_ id_).2.2.1 (vB_u8 k l_ web_ id_).2.2.2.1 (vB_u8 k l_ web_ id_).2.2.2.2 id_).1, (v_u11 k (vB_u8 k l_ web_ id_).2.1 (vB_u8 k l_ web_ id_).2.2.1 (vB_u8 k l_ web_ id_).2.2.2.1 (vB_u8 k l_ web_ id_).2.2.2.2 id_).2))
  else none
  else none
def v_u5 (k : Nat) (l_ : List (T2).T) (web_ : T9.T) (id_ : Int) : R_u5 := (f_u5 k l_ web_ id_).getD ((T1).dflt, 0)
def ke_u5 (k : Nat) : Ke := (16, fun xs => match xs with
  | [_, _, _] => some [false, false, false]
  | _ => none, fun xs bs => match xs, bs with
  | [.r (.ro tl__ ql_), .agg qweb_, .r (.v (.int .i64 id_))], [] => (castL tl__ T2 ql_).bind fun l_ => (decS [] T9 qweb_).bind fun web_ => some (.one (res_u5 (v_u5 k l_ web_ id_), bo_u5 l_ web_ id_ (v_u5 k l_ web_ id_)))
  | _, _ => none)
theorem of_u5 (k : Nat) (l_ : List (T2).T) (web_ : T9.T) (id_ : Int) (r : R_u5) (h : f_u5 k l_ web_ id_ = some r) : C_u5 l_ web_ id_ r := by
  refine CC.of (fn := Tryz.f16) (by kernel_rfl) (by kernel_rfl) (by kernel_rfl) (by kernel_rfl) ?_
  unfold f_u5 at h
  exact go (mkK [ke_u8 k, ke_u11 k]) [] [] [.frz 6 true T1, .autoB [6, 7] true []] (gT h (fun c h => gN1 h (fun q => ccA_u8 q (by assumption)) fun h => gT h (fun c h => gL h) fun c h => gZ h (.stuck 2002)) fun c h => gN1 h (fun q => ccB_u8 q (by assumption)) fun h => gT h (fun c h => gL h) fun c h => gN1 h (fun q => cc_u11 q) fun h => gL h) (by kernel_rfl)
theorem cc_u5 {k : Nat} {l_ : List (T2).T} {web_ : T9.T} {id_ : Int} (h : (f_u5 k l_ web_ id_).isSome = true) : C_u5 l_ web_ id_ (v_u5 k l_ web_ id_) := ccG (Φ := C_u5 l_ web_ id_) h (of_u5 k l_ web_ id_)
end
/-! ### cuts from the web -/
def baseS (W L : Int) : Ch := (0, W, false, if L > 0 then [(0, L, false)] else [])
/-- a roll's cut from the web, from that of its parent -/
def cutJ (r : Ro) (o : Ch × Int) : Ch × Int :=
  if o.2 ≠ 0 then ((0, 0, false, []), o.2)
  else if (comp r.2.2.2.2.2 o.1.2.2.2).2 ≠ 0 then ((0, 0, false, []), (comp r.2.2.2.2.2 o.1.2.2.2).2)
  else (((if o.1.2.2.1 = true then IntKind.i64.wrap (IntKind.i64.wrap (IntKind.i64.wrap (o.1.1 + o.1.2.1) - r.2.2.1) - r.2.2.2.1) else IntKind.i64.wrap (o.1.1 + r.2.2.1)),
    r.2.2.2.1, !(o.1.2.2.1 == r.2.2.2.2.1), (comp r.2.2.2.2.2 o.1.2.2.2).1), 0)
def cutS (l : List Ro) (W L : Int) : Nat → Int → Ch × Int
  | 0, _ => (baseS W L, 0)
  | n + 1, id => if id = 0 then (baseS W L, 0) else match look l id with
    | none => (baseS W L, 0)
    | some r => cutJ r (cutS l W L n r.2.1)
theorem Anc.cases {l : List Ro} {n : Nat} {id : Int} (h : Anc l n id) (h0 : id ≠ 0) : ∃ m r, n = m + 1 ∧ look l id = some r ∧ Anc l m r.2.1 := by
  cases h with
  | root => exact absurd rfl h0
  | step m _ r _ e a => exact ⟨m, r, rfl, e, a⟩

theorem fam_cut (W L : Int) (l : List Ro) (M : List (Int × Int)) (hM : RegOk M l) : ∀ (n : Nat) (id : Int) (k : Nat), Anc l n id → n + 1000 < k → f_u11 k W L l M id = some (cutS l W L n id) := by
  have hbase : ∀ k, f_u11 (k + 1) W L l M 0 = some (baseS W L, 0) := fun k => by
    rw [f_u11]
    show (bif decide (L > 0) then some (((0 : Int), (W, (false, [((0 : Int), L, false)]))), (0 : Int)) else some (((0 : Int), (W, (false, []))), (0 : Int))) = _
    unfold baseS
    by_cases h : L > 0
    · rw [decide_eq_true h, if_pos h]; rfl
    · rw [decide_eq_false h, if_neg h]; rfl
  intro n
  induction n with
  | zero =>
    intro id k ha hk
    obtain ⟨k, rfl⟩ : ∃ q, k = q + 1 := ⟨k - 1, by omega⟩
    by_cases h0 : id = 0
    · rw [h0, hbase]; rfl
    · obtain ⟨m, _, e, _⟩ := ha.cases h0
      cases e
  | succ n ih =>
    intro id k ha hk
    obtain ⟨k, rfl⟩ : ∃ q, k = q + 1 := ⟨k - 1, by omega⟩
    by_cases h0 : id = 0
    · rw [h0, hbase]
      unfold cutS
      rw [if_pos rfl]
    · obtain ⟨m, r, em, e, a⟩ := ha.cases h0
      cases em
      have hf := ih r.2.1 k a (by omega)
      obtain ⟨x, e1, e2, e3⟩ := (hM id).some e
      have hx : (x : Int) < (l.length : Int) := by omega
      rw [f_u11]
      unfold cutS w_u11
      rw [if_neg h0, beq_false_of_ne h0, cond_false, e, e1, Option.getD_some, if_pos ⟨by omega, hx⟩, Int.toNat_natCast, e3, hf, Option.isSome_some, if_pos rfl, Option.getD_some, iso_Compose_s k (by omega), iso_Compose_v k (by omega)]
      show _ = some (cutJ r (cutS l W L n r.2.1))
      generalize cutS l W L n r.2.1 = o
      unfold cutJ
      by_cases h1 : o.2 = 0
      · have g1 : ¬ (o.2 ≠ 0) := fun h => h h1
        rw [show (o.2 != 0) = false by simp [h1], cond_false, Option.isSome_some, if_pos rfl]
        rw [if_neg g1]
        generalize comp r.2.2.2.2.2 o.1.2.2.2 = c
        by_cases h2 : c.2 = 0
        · have g2 : ¬ (c.2 ≠ 0) := fun h => h h2
          rw [show (c.2 != 0) = false by simp [h2], cond_false, if_neg g2]
          cases h3 : o.1.2.2.1
          · rfl
          · rfl
        · rw [bne_iff_ne.2 h2, if_pos h2]; rfl
      · rw [bne_iff_ne.2 h1]
        rw [if_pos h1]; rfl
def cutFull (l : List Ro) (W L id : Int) : Ch × Int := if errS l W L id ≠ 0 then ((0, 0, false, []), errS l W L id) else cutS l W L 512 id
theorem fam_Cut_s (k : Nat) (hk : 300000 ≤ k) (l : List Ro) (web : Int × Int) (id : Int) : f_u5 k l web id = some (cutFull l web.1 web.2 id) := by
  obtain ⟨h1, h2⟩ := fam_find k hk l web id
  unfold f_u5 vA_u8 vB_u8 v_u8 cutFull
  by_cases h : errS l web.1 web.2 id = 0
  · obtain ⟨M, m1, m2, e⟩ := h2 h
    obtain ⟨reg, kn⟩ := errS_zero.1 h
    have hi : ¬ (errS l web.1 web.2 id ≠ 0) := fun h' => h' h
    have hc := fam_cut web.1 web.2 l M m1 512 id k (reg.anc kn) (by omega)
    rw [e, if_neg hi]
    show (if (f_u11 k web.1 web.2 l M id).isSome = true then some ((v_u11 k web.1 web.2 l M id).1, (v_u11 k web.1 web.2 l M id).2) else none) = _
    unfold v_u11
    rw [hc]; rfl
  · rw [h1 h, if_pos h]
    show (bif (errS l web.1 web.2 id != 0) then _ else _) = _
    rw [bne_iff_ne.2 h]; rfl
theorem fam_Cut_v (k : Nat) (hk : 300000 ≤ k) (l : List Ro) (web : Int × Int) (id : Int) : v_u5 k l web id = cutFull l web.1 web.2 id := by
  unfold v_u5; rw [fam_Cut_s k hk l web id]; rfl

end Go.AM
namespace Go.AM
open Go

structure PtB (p : Pt) : Prop where
  a0 : 0 ≤ p.2.1
  a1 : p.2.1 ≤ 12000
  b0 : 0 ≤ p.2.2
  b1 : p.2.2 ≤ 17179869184
theorem single_one (r : Rn) (h : good r) (hc : chk [r] = 0) (hn : Nr (-1) [spn r]) : singleS [r] = true := by
  have e : nf ([r].map spn) = [spn r] := nf_self (spn_in (m := [r]) ⟨h, trivial⟩) hn
  unfold singleS
  rw [e, hc]
  have := h.lohi
  show (decide ((0 : Int) = 0) && ((hi r + 1 - lo r + 0) == r.2.1 + 0)) = true
  rw [beq_iff_eq.2 (by omega)]; rfl
/-! ### the cut from the web says where a point lies -/
def acrS (c : Ch) (x : Int) : Int := if c.2.2.1 = true then c.1 + c.2.1 - 1 - x else c.1 + x
theorem webS_root {l : List Ro} {p : Pt} (h : p.1 = 0) (n : Nat) : webS l n p = p := by
  cases n with
  | zero => rfl
  | succ n => unfold webS; rw [if_pos h]
theorem webS_step {l : List Ro} {p : Pt} {r : Ro} (h0 : p.1 ≠ 0) (e : look l p.1 = some r) (n : Nat) : webS l (n + 1) p = webS l n (placeS r p) := by
  rw [webS, if_neg h0, e]
structure CutIn (l : List Ro) (W L id : Int) (c : Ch) (n : Nat) : Prop where
  left : 0 ≤ c.1
  right : c.1 + c.2.1 ≤ W
  width : c.2.1 = (sizeS l W L id).1
  chk : Chk c.2.2.2
  len : lenS c.2.2.2 = (sizeS l W L id).2
  web : ∀ p : Pt, p.1 = id → On l W L p → webS l n p = (0, acrS c p.2.1, imgAt c.2.2.2 p.2.2)
theorem base_in {l : List Ro} {W L : Int} (reg : Reg l W L) (n : Nat) : CutIn l W L 0 (baseS W L) n := by
  have hw := reg.w
  have hl := reg.len
  have hs : sizeS l W L 0 = (W, L) := by unfold sizeS; rw [if_pos rfl]
  have hb : (baseS W L) = (0, W, false, if L > 0 then [(0, L, false)] else []) := rfl
  refine ⟨Int.le_refl _, by rw [hb]; show (0 : Int) + W ≤ W; omega, by rw [hs]; rfl, ?_, ?_, ?_⟩
  · rw [hb]
    show Chk (if L > 0 then [(0, L, false)] else [])
    by_cases h : L > 0
    · rw [if_pos h]
      exact ⟨by simp, ⟨⟨by show 1 ≤ L; omega, by show L ≤ _; omega, by show (0 : Int) ≤ 0; omega, by show (0 : Int) < _; omega, fun h => (by cases h), fun _ => by show (0 : Int) + L ≤ _; omega⟩, trivial⟩, by simp only [lenS]; omega⟩
    · rw [if_neg h]
      exact ⟨by simp, trivial, by simp only [lenS]; omega⟩
  · rw [hb, hs]
    show lenS (if L > 0 then [(0, L, false)] else []) = L
    by_cases h : L > 0
    · rw [if_pos h]; simp only [lenS]; omega
    · rw [if_neg h]; simp only [lenS]; omega
  · intro p h0 on
    obtain ⟨a0, a1, b0, b1⟩ := on
    rw [h0, hs] at a1 b1
    have b1 : p.2.2 < L := b1
    rw [webS_root h0, hb]
    show p = (0, acrS (0, W, false, _) p.2.1, imgAt (if L > 0 then [(0, L, false)] else []) p.2.2)
    rw [if_pos (by omega)]
    unfold imgAt acrS img
    rw [if_pos b1, if_neg (fun h => (by cases h)), if_neg (fun h => (by cases h))]
    show p = ((0 : Int), (0 : Int) + p.2.1, (0 : Int) + p.2.2)
    obtain ⟨p1, p2, p3⟩ := p
    have h0 : p1 = 0 := h0
    rw [h0, Int.zero_add, Int.zero_add]
theorem cutS_in {l : List Ro} {W L : Int} (reg : Reg l W L) : ∀ (n : Nat) (id : Int) (c : Ch), Anc l n id → cutS l W L n id = (c, 0) → CutIn l W L id c n := by
  intro n
  have hw := reg.w
  induction n with
  | zero =>
    intro id c ha hc
    by_cases h0 : id = 0
    · cases hc; rw [h0]; exact base_in reg 0
    · obtain ⟨_, _, e, _⟩ := ha.cases h0
      cases e
  | succ n ih =>
    intro id c ha hc
    by_cases h0 : id = 0
    · unfold cutS at hc
      rw [if_pos h0] at hc
      cases hc; rw [h0]; exact base_in reg _
    · obtain ⟨k, r, ek, e, a⟩ := ha.cases h0
      cases ek
      have ro := reg.ok.ro r (look_some e).1
      obtain ⟨c1, c2, c3, c4, c5, c6, c7⟩ := ro.cut
      unfold cutS at hc
      rw [if_neg h0, e] at hc
      have hc : cutJ r (cutS l W L n r.2.1) = (c, 0) := hc
      obtain ⟨oc, oe⟩ : ∃ oc, cutS l W L n r.2.1 = oc := ⟨_, rfl⟩
      rw [oe] at hc
      unfold cutJ at hc
      by_cases h1 : oc.2 = 0
      · rw [if_neg (fun h : oc.2 ≠ 0 => h h1)] at hc
        obtain ⟨i1, i2, i3, i4, i5, i6⟩ := ih r.2.1 oc.1 a (by rw [oe, ← h1])
        obtain ⟨cm, ce⟩ : ∃ cm, comp r.2.2.2.2.2 oc.1.2.2.2 = cm := ⟨_, rfl⟩
        rw [ce] at hc
        by_cases h2 : cm.2 = 0
        · rw [if_neg (fun h : cm.2 ≠ 0 => h h2)] at hc
          obtain ⟨_, _, _, k1, k2, k3⟩ := comp_spec (m := cm.1) (by rw [ce, ← h2])
          have hs := reg.small n r.2.1 a
          rw [wrap_id (i := oc.1.1 + oc.1.2.1) (by omega) (by omega), wrap_id (i := oc.1.1 + oc.1.2.1 - r.2.2.1) (by omega) (by omega), wrap_id (i := oc.1.1 + oc.1.2.1 - r.2.2.1 - r.2.2.2.1) (by omega) (by omega), wrap_id (i := oc.1.1 + r.2.2.1) (by omega) (by omega)] at hc
          have hc1 := congrArg Prod.fst hc
          have hc1 : ((if oc.1.2.2.1 = true then oc.1.1 + oc.1.2.1 - r.2.2.1 - r.2.2.2.1 else oc.1.1 + r.2.2.1), r.2.2.2.1, !(oc.1.2.2.1 == r.2.2.2.2.1), cm.1) = c := hc1
          subst hc1
          have hsz := size_some (W := W) (L := L) h0 e
          refine ⟨?_, ?_, ?_, k1, ?_, ?_⟩
          · show 0 ≤ (if oc.1.2.2.1 = true then _ else _ : Int)
            split <;> omega
          · show (if oc.1.2.2.1 = true then _ else _ : Int) + r.2.2.2.1 ≤ W
            split <;> omega
          · rw [hsz]
          · rw [hsz]; exact k2
          · intro p hp on
            have on2 := on.place (by rw [hp]; exact h0) (by rw [hp]; exact e) ro
            rw [webS_step (by rw [hp]; exact h0) (by rw [hp]; exact e), i6 (placeS r p) rfl on2]
            obtain ⟨a0, a1, b0, b1⟩ := on
            rw [hp, hsz] at a1 b1
            have b1 : p.2.2 < lenS r.2.2.2.2.2 := b1
            have e3 : imgAt oc.1.2.2.2 (placeS r p).2.2 = imgAt cm.1 p.2.2 := (k3 p.2.2 b0 b1).symm
            rw [e3]
            have e4 : acrS oc.1 (placeS r p).2.1 = acrS ((if oc.1.2.2.1 = true then oc.1.1 + oc.1.2.1 - r.2.2.1 - r.2.2.2.1 else oc.1.1 + r.2.2.1), r.2.2.2.1, !(oc.1.2.2.1 == r.2.2.2.2.1), cm.1) p.2.1 := by
              unfold acrS placeS
              cases oc.1.2.2.1 <;> cases r.2.2.2.2.1 <;> simp <;> omega
            rw [e4]
        · rw [if_pos h2] at hc
          exact absurd (congrArg Prod.snd hc) h2
      · rw [if_pos h1] at hc
        exact absurd (congrArg Prod.snd hc) h1
/-! ### how many integers lie in a set -/
def cnt (P : Int → Bool) : Nat → Nat
  | 0 => 0
  | n + 1 => cnt P n + (if P (n : Int) = true then 1 else 0)
theorem cnt_congr {P Q : Int → Bool} : ∀ n : Nat, (∀ x : Int, 0 ≤ x → x < n → P x = Q x) → cnt P n = cnt Q n
  | 0, _ => rfl
  | n + 1, h => by
    unfold cnt
    rw [cnt_congr n (fun x h0 h1 => h x h0 (by omega)), h n (by omega) (by omega)]
theorem cnt_or (P Q : Int → Bool) : ∀ n, cnt (fun x => P x || Q x) n + cnt (fun x => P x && Q x) n = cnt P n + cnt Q n
  | 0 => rfl
  | n + 1 => by
    have := cnt_or P Q n
    unfold cnt
    cases h1 : P (n : Int) <;> cases h2 : Q (n : Int) <;> simp only [Bool.or_true, Bool.or_false, Bool.and_true, Bool.and_false, Bool.false_eq_true, if_true, if_false] <;> omega
theorem cnt_pos {P : Int → Bool} : ∀ {n : Nat} {x : Int}, 0 ≤ x → x < n → P x = true → 0 < cnt P n
  | 0, x, h0, h1, _ => by omega
  | n + 1, x, h0, h1, h => by
    unfold cnt
    by_cases hx : x = n
    · subst hx; rw [if_pos h]; omega
    · have := cnt_pos (P := P) h0 (by omega : x < (n : Int)) h; omega
theorem cnt_false {P : Int → Bool} : ∀ n : Nat, (∀ x : Int, 0 ≤ x → x < n → P x = false) → cnt P n = 0
  | 0, _ => rfl
  | n + 1, h => by
    unfold cnt
    rw [cnt_false n (fun x h0 h1 => h x h0 (by omega)), h n (by omega) (by omega)]
    rfl
theorem cnt_seg (a b : Int) (h0 : 0 ≤ a) (hab : a ≤ b) : ∀ n : Nat, (cnt (fun x => decide (a ≤ x) && decide (x < b)) n : Int) = max 0 (min b n - a)
  | 0 => by unfold cnt; omega
  | n + 1 => by
    have := cnt_seg a b h0 hab n
    unfold cnt
    by_cases h1 : a ≤ (n : Int)
    · by_cases h2 : (n : Int) < b
      · rw [decide_eq_true h1, decide_eq_true h2]
        simp only [Bool.and_self, if_true]
        omega
      · rw [decide_eq_false h2, Bool.and_false, if_neg Bool.false_ne_true]
        omega
    · rw [decide_eq_false h1, Bool.false_and, if_neg Bool.false_ne_true]
      omega
/-- membership in spans, as a test -/
def hasT (l : List Sp) (x : Int) : Bool := l.any fun s => decide (s.1 ≤ x) && decide (x < s.2)
theorem hasT_cons (s : Sp) (l : List Sp) : hasT (s :: l) = fun x => (decide (s.1 ≤ x) && decide (x < s.2)) || hasT l x := by
  funext x; unfold hasT; rw [List.any_cons]
/-- the integers of a normal form -/
theorem tot_cnt {N : Nat} : ∀ (l : List Sp) (m : Int), Nr m l → -1 ≤ m → (∀ s ∈ l, s.2 ≤ N) → tot l = (cnt (hasT l) N : Int)
  | [], m, _, _, _ => by
    rw [cnt_false (P := hasT []) N (fun x _ _ => rfl)]; rfl
  | s :: t, m, h, hm, hb => by
    obtain ⟨h1, h2, h3⟩ := h
    have ih := tot_cnt t s.2 h3 (by omega) (fun q hq => hb q (by simp [hq]))
    have hor := cnt_or (fun x => decide (s.1 ≤ x) && decide (x < s.2)) (hasT t) N
    have hbs := hb s (by simp)
    have hz : cnt (fun x => (decide (s.1 ≤ x) && decide (x < s.2)) && hasT t x) N = 0 := cnt_false N fun x h0 hx => by
      by_cases hc : x < s.2
      · have : hasT t x = false := by
          have : ∀ (t : List Sp) (m : Int), Nr m t → x < m → hasT t x = false := fun t => by
            induction t with
            | nil => intros; rfl
            | cons u v ih =>
              intro m hn hx
              obtain ⟨g1, g2, g3⟩ := hn
              rw [hasT_cons]
              show ((decide (u.1 ≤ x) && decide (x < u.2)) || hasT v x) = false
              rw [decide_eq_false (by omega), ih u.2 g3 (by omega)]; rfl
          exact this t s.2 h3 hc
        show ((decide (s.1 ≤ x) && decide (x < s.2)) && hasT t x) = false
        rw [this, Bool.and_false]
      · show ((decide (s.1 ≤ x) && decide (x < s.2)) && hasT t x) = false
        rw [decide_eq_false hc, Bool.and_false, Bool.false_and]
    have hs := cnt_seg s.1 s.2 (by omega) (by omega) N
    rw [hasT_cons]
    show s.2 - s.1 + tot t = _
    omega
theorem hasT_iff (l : List Sp) (x : Int) : hasT l x = true ↔ has l x := by
  rw [has_iff]
  unfold hasT
  simp only [List.any_eq_true, Bool.and_eq_true, decide_eq_true_eq]
/-- the integers of the images of a map -/
def imT (m : List Rn) (x : Int) : Bool := hasT (m.map spn) x
abbrev NN : Nat := 17179869184
theorem cnt_im_le : ∀ (m : List Rn), goods m → (cnt (imT m) NN : Int) ≤ lenS m
  | [], _ => by
    rw [cnt_false (P := imT []) NN (fun x _ _ => rfl)]; exact Int.le_refl _
  | r :: t, ⟨h1, h2⟩ => by
    have ih := cnt_im_le t h2
    obtain ⟨l1, l2, l3, l4⟩ := h1.lohi
    have hs := cnt_seg (lo r) (Go.AM.hi r + 1) l1 (by omega) NN
    have hor := cnt_or (fun x => decide (lo r ≤ x) && decide (x < Go.AM.hi r + 1)) (imT t) NN
    have e : imT (r :: t) = fun x => (decide (lo r ≤ x) && decide (x < Go.AM.hi r + 1)) || imT t x := hasT_cons (spn r) (t.map spn)
    rw [e, lenS]
    omega
/-- runs whose images are apart -/
def Dj : List Rn → Prop
  | [] => True
  | r :: t => (∀ y ∈ t, ∀ z, lo r ≤ z → z ≤ Go.AM.hi r → lo y ≤ z → z ≤ Go.AM.hi y → False) ∧ Dj t
theorem imT_of {m : List Rn} {r : Rn} {z : Int} (hr : r ∈ m) (h0 : lo r ≤ z) (h1 : z ≤ Go.AM.hi r) : imT m z = true := by
  unfold imT
  rw [hasT_iff, has_iff]
  exact ⟨spn r, List.mem_map_of_mem hr, h0, by show z < Go.AM.hi r + 1; omega⟩
theorem dj_of (m : List Rn) : goods m → (cnt (imT m) NN : Int) = lenS m → Dj m := by
  induction m with
  | nil => intro _ _; trivial
  | cons r t ihd =>
    intro hg h
    obtain ⟨h1, h2⟩ := hg
    have ih := cnt_im_le t h2
    obtain ⟨l1, l2, l3, l4⟩ := h1.lohi
    have hs := cnt_seg (lo r) (Go.AM.hi r + 1) l1 (by omega) NN
    have hor := cnt_or (fun x => decide (lo r ≤ x) && decide (x < Go.AM.hi r + 1)) (imT t) NN
    have e : imT (r :: t) = fun x => (decide (lo r ≤ x) && decide (x < Go.AM.hi r + 1)) || imT t x := hasT_cons (spn r) (t.map spn)
    rw [e, lenS] at h
    refine ⟨fun y hy z a b c d => ?_, ihd h2 (by omega)⟩
    have hz : 0 < cnt (fun x => (decide (lo r ≤ x) && decide (x < Go.AM.hi r + 1)) && imT t x) NN := by
      refine cnt_pos (x := z) (by omega) (by show z < (17179869184 : Int); omega) ?_
      show ((decide (lo r ≤ z) && decide (z < Go.AM.hi r + 1)) && imT t z) = true
      rw [decide_eq_true a, decide_eq_true (by omega : z < Go.AM.hi r + 1), imT_of hy c d]; rfl
    omega
theorem single_cnt {m : List Rn} (h : singleS m = true) : Chk m ∧ (cnt (imT m) NN : Int) = lenS m := by
  unfold singleS at h
  rw [Bool.and_eq_true, decide_eq_true_eq, beq_iff_eq] at h
  have hc := chk_zero.1 h.1
  have hi := spn_in hc.goods
  refine ⟨hc, ?_⟩
  rw [← h.2, tot_cnt (N := NN) (nf (m.map spn)) (-1) (nf_nr hi) (by omega) (fun s hs => ((nf_in hi).mem s hs).2.2)]
  refine congrArg Int.ofNat (cnt_congr NN fun x _ _ => ?_)
  have h1 := nf_has hi x
  have h2 := hasT_iff (nf (m.map spn)) x
  have h3 := hasT_iff (m.map spn) x
  unfold imT
  cases e : hasT (m.map spn) x <;> cases e2 : hasT (nf (m.map spn)) x <;> simp_all
/-! ### areas -/
theorem cnt_mono {P Q : Int → Bool} (n : Nat) (h : ∀ x : Int, 0 ≤ x → x < n → P x = true → Q x = true) : cnt P n ≤ cnt Q n := by
  induction n with
  | zero => exact Nat.le_refl _
  | succ n ih =>
    have := ih fun x h0 h1 => h x h0 (by omega)
    have h2 := h n (by omega) (by omega)
    unfold cnt
    cases h3 : P (n : Int)
    · simp only [Bool.false_eq_true, if_false]; split <;> omega
    · rw [h2 h3]; simp only [if_true]; omega
def covT (c : Ch) (x : Int) : Bool := decide (c.1 ≤ x) && decide (x < c.1 + c.2.1)
def colS : List Ro → Int → Int
  | [], _ => 0
  | r :: t, x => (if covT r.2.2 x = true then lenS r.2.2.2.2.2 else 0) + colS t x
def uniT : List Ro → Int → Int → Bool
  | [], _, _ => false
  | r :: t, x, z => (covT r.2.2 x && imT r.2.2.2.2.2 z) || uniT t x z
theorem imT_iff {m : List Rn} {z : Int} : imT m z = true ↔ ∃ r ∈ m, lo r ≤ z ∧ z ≤ Go.AM.hi r := by
  unfold imT
  rw [hasT_iff, has_iff]
  constructor
  · rintro ⟨s, hs, h0, h1⟩
    obtain ⟨r, hr, rfl⟩ := List.mem_map.1 hs
    exact ⟨r, hr, h0, by have : z < Go.AM.hi r + 1 := h1; omega⟩
  · rintro ⟨r, hr, h0, h1⟩
    exact ⟨spn r, List.mem_map_of_mem hr, h0, by show z < Go.AM.hi r + 1; omega⟩
/-- cuts that are apart share no point -/
theorem apart_of {a b : Ch} {x z : Int} (h : ovlS a b = false) (ha : covT a x = true) (hb : covT b x = true) (ia : imT a.2.2.2 z = true) (ib : imT b.2.2.2 z = true) : False := by
  obtain ⟨r, hr, r0, r1⟩ := imT_iff.1 ia
  obtain ⟨s, hs, s0, s1⟩ := imT_iff.1 ib
  unfold covT at ha hb
  rw [Bool.and_eq_true, decide_eq_true_eq, decide_eq_true_eq] at ha hb
  have hm : meetS a.2.2.2 b.2.2.2 = true := by
    unfold meetS
    rw [List.any_eq_true]
    refine ⟨r, hr, ?_⟩
    rw [List.any_eq_true]
    refine ⟨s, hs, ?_⟩
    rw [decide_eq_true (by omega), decide_eq_true (by omega)]; rfl
  unfold ovlS at h
  rw [hm, decide_eq_true (by omega), decide_eq_true (by omega)] at h
  cases h
theorem col_cnt (x : Int) : ∀ (C : List Ro), (∀ r ∈ C, singleS r.2.2.2.2.2 = true) → C.Pairwise (fun b r => ovlS r.2.2 b.2.2 = false) → (cnt (uniT C x) NN : Int) = colS C x := by
  intro C
  induction C with
  | nil =>
    intro _ _
    rw [cnt_false (P := uniT [] x) NN (fun x _ _ => rfl)]; rfl
  | cons r t ih =>
    intro hs hp
    obtain ⟨h1, h2⟩ := List.pairwise_cons.1 hp
    have ih := ih (fun q hq => hs q (by simp [hq])) h2
    have hsr := (single_cnt (hs r (by simp))).2
    have hor := cnt_or (fun z => covT r.2.2 x && imT r.2.2.2.2.2 z) (uniT t x) NN
    have hz : cnt (fun z => (covT r.2.2 x && imT r.2.2.2.2.2 z) && uniT t x z) NN = 0 := cnt_false NN fun z _ _ => by
      cases hc : covT r.2.2 x
      · rfl
      · cases hi : imT r.2.2.2.2.2 z
        · rfl
        · have : ∀ (t : List Ro), (∀ a' ∈ t, ovlS a'.2.2 r.2.2 = false) → uniT t x z = false := fun t => by
            induction t with
            | nil => intro _; rfl
            | cons u v ih =>
              intro h
              unfold uniT
              rw [ih fun q hq => h q (by simp [hq]), Bool.or_false]
              cases hu : covT u.2.2 x
              · rfl
              · cases hv : imT u.2.2.2.2.2 z
                · rfl
                · exact (apart_of (h u (by simp)) hu hc hv hi).elim
          show (true && uniT t x z) = false
          rw [this t h1]; rfl
    have e : uniT (r :: t) x = fun z => (covT r.2.2 x && imT r.2.2.2.2.2 z) || uniT t x z := rfl
    rw [e, colS]
    cases hc : covT r.2.2 x
    · rw [hc] at hor hz
      have h0 : cnt (fun z => false && imT r.2.2.2.2.2 z) NN = 0 := cnt_false NN fun _ _ _ => rfl
      simp only [Bool.false_eq_true, if_false]
      omega
    · rw [hc] at hor hz
      have h0 : cnt (fun z => true && imT r.2.2.2.2.2 z) NN = cnt (imT r.2.2.2.2.2) NN := cnt_congr NN fun x _ _ => Bool.true_and _
      simp only [if_true]
      omega
theorem col_le {C : List Ro} {n : Int} (x : Int) (h0 : 0 ≤ n) (hn : n ≤ 17179869184) (hs : ∀ r ∈ C, singleS r.2.2.2.2.2 = true) (hp : C.Pairwise (fun b r => ovlS r.2.2 b.2.2 = false)) (hf : ∀ r ∈ C, fitsIn n r.2.2.2.2.2) (hg : ∀ r ∈ C, goods r.2.2.2.2.2) : colS C x ≤ n := by
  rw [← col_cnt x C hs hp]
  have h1 : cnt (uniT C x) NN ≤ cnt (fun z => decide (0 ≤ z) && decide (z < n)) NN := cnt_mono NN fun z z0 z1 hu => by
    have : ∀ (C : List Ro), (∀ r ∈ C, fitsIn n r.2.2.2.2.2) → uniT C x z = true → z < n := fun C => by
      induction C with
      | nil => intro _ h; cases h
      | cons r t ih =>
        intro hf h
        unfold uniT at h
        rw [Bool.or_eq_true] at h
        rcases h with h | h
        · rw [Bool.and_eq_true] at h
          obtain ⟨q, hq, q0, q1⟩ := imT_iff.1 h.2
          have := fits_mem (hf r (by simp)) q hq
          omega
        · exact ih (fun q hq => hf q (by simp [hq])) h
    rw [decide_eq_true z0, decide_eq_true (this C hf hu)]; rfl
  have h2 := cnt_seg 0 n (by omega) h0 NN
  omega
def sumc (f : Int → Int) : Nat → Int
  | 0 => 0
  | n + 1 => sumc f n + f n
theorem sumc_add (f g : Int → Int) : ∀ n, sumc (fun x => f x + g x) n = sumc f n + sumc g n
  | 0 => rfl
  | n + 1 => by
    have := sumc_add f g n
    unfold sumc; omega
theorem sumc_zero : ∀ n, sumc (fun _ => 0) n = 0
  | 0 => rfl
  | n + 1 => by
    have := sumc_zero n
    unfold sumc; omega
theorem sumc_le {f : Int → Int} {m : Int} (h : ∀ x, f x ≤ m) : ∀ n : Nat, sumc f n ≤ n * m
  | 0 => by unfold sumc; simp
  | n + 1 => by
    have := sumc_le h n
    have h2 := h n
    unfold sumc
    rw [show ((n + 1 : Nat) : Int) = (n : Int) + 1 from rfl, Int.add_mul, Int.one_mul]
    omega
theorem sumc_ind (P : Int → Bool) (v : Int) : ∀ n, sumc (fun x => if P x = true then v else 0) n = (cnt P n : Int) * v
  | 0 => by unfold sumc cnt; simp
  | n + 1 => by
    have := sumc_ind P v n
    unfold sumc cnt
    cases h : P (n : Int)
    · simp only [Bool.false_eq_true, if_false]; rw [this]; simp
    · simp only [if_true]
      rw [show ((cnt P n + 1 : Nat) : Int) = (cnt P n : Int) + 1 from rfl, Int.add_mul, Int.one_mul, this]
def areaS : List Ro → Int
  | [] => 0
  | r :: t => r.2.2.2.1 * lenS r.2.2.2.2.2 + areaS t
theorem area_col (w : Nat) : ∀ (C : List Ro), (∀ r ∈ C, 0 ≤ r.2.2.1 ∧ 1 ≤ r.2.2.2.1 ∧ r.2.2.1 + r.2.2.2.1 ≤ w) → sumc (colS C) w = areaS C
  | [], _ => sumc_zero w
  | r :: t, h => by
    have ih := area_col w t fun q hq => h q (by simp [hq])
    obtain ⟨a, b, c⟩ := h r (by simp)
    have e : colS (r :: t) = fun x => (if covT r.2.2 x = true then lenS r.2.2.2.2.2 else 0) + colS t x := rfl
    have h1 := cnt_seg r.2.2.1 (r.2.2.1 + r.2.2.2.1) a (by omega) w
    have h2 : (cnt (covT r.2.2) w : Int) = r.2.2.2.1 := by
      show (cnt (fun x => decide (r.2.2.1 ≤ x) && decide (x < r.2.2.1 + r.2.2.2.1)) w : Int) = _
      omega
    rw [e, sumc_add, sumc_ind, h2, ih]; rfl
/-- the area of cuts that are apart -/
theorem area_le {C : List Ro} {w n : Int} (hw : 0 ≤ w) (h0 : 0 ≤ n) (hn : n ≤ 17179869184) (hc : ∀ r ∈ C, CutOk r.2.2 w n) (hp : C.Pairwise (fun b r => ovlS r.2.2 b.2.2 = false)) : areaS C ≤ w * n := by
  obtain ⟨w, rfl⟩ : ∃ q : Nat, w = q := ⟨w.toNat, by omega⟩
  rw [← area_col w C fun r hr => ⟨(hc r hr).left, (hc r hr).width, (hc r hr).right⟩]
  exact sumc_le (fun x => col_le x h0 hn (fun r hr => (hc r hr).single) hp (fun r hr => (hc r hr).fits) (fun r hr => (hc r hr).chk.goods)) w
theorem Okp.pairs {W L : Int} {l : List Ro} (h : Okp W L l) : l.Pairwise (fun b r => r.2.1 = b.2.1 → ovlS r.2.2 b.2.2 = false) := by
  induction h with
  | nil => exact List.Pairwise.nil
  | snoc p r h f n c ih =>
    refine List.pairwise_append.2 ⟨ih, List.pairwise_singleton _ _, fun b hb q hq e => ?_⟩
    rw [List.mem_singleton] at hq
    subst hq
    unfold clash at c
    rw [List.any_eq_false] at c
    have := c b hb
    rw [beq_iff_eq.2 e, Bool.true_and] at this
    simpa using this
def kids (l : List Ro) (id : Int) : List Ro := l.filter fun r => r.2.1 == id
theorem Reg.area {l : List Ro} {W L id : Int} (reg : Reg l W L) (kn : id = 0 ∨ ∃ q, look l id = some q) : areaS (kids l id) ≤ (sizeS l W L id).1 * (sizeS l W L id).2 := by
  have hs := reg.small 512 id (reg.anc kn)
  refine area_le hs.1 hs.2.2.1 hs.2.2.2 (fun r hr => ?_) ?_
  · obtain ⟨h1, h2⟩ := List.mem_filter.1 hr
    have := (reg.ok.ro r h1).cut
    rw [beq_iff_eq.1 h2] at this
    exact this
  · have h := reg.ok.pairs.sublist (List.filter_sublist (p := fun r => r.2.1 == id))
    refine h.imp_of_mem fun {a b} ha hb q => q ?_
    have h1 := beq_iff_eq.1 (List.mem_filter.1 ha).2
    have h2 := beq_iff_eq.1 (List.mem_filter.1 hb).2
    rw [h1, h2]
end Go.AM
namespace Go.AM
open Go

def fndS : List Rn → Int → Sp → List Sp
  | [], _, _ => []
  | r :: t, at_, s => (if max (lo r) s.1 < min (hi r + 1) s.2 then [(at_ + (if r.2.2 = true then hi r + 1 - min (hi r + 1) s.2 else max (lo r) s.1 - lo r), at_ + (if r.2.2 = true then hi r + 1 - min (hi r + 1) s.2 else max (lo r) s.1 - lo r) + min (hi r + 1) s.2 - max (lo r) s.1)] else []) ++ fndS t (at_ + r.2.1) s
theorem fndS_len : ∀ (m : List Rn) (a : Int) (s : Sp), (fndS m a s).length ≤ m.length
  | [], _, _ => by simp [fndS]
  | r :: t, a, s => by
    have := fndS_len t (a + r.2.1) s
    unfold fndS
    rw [List.length_append, List.length_cons]
    split <;> simp <;> omega
/-- each span lies where its run lies -/
theorem fndS_in : ∀ (m : List Rn) (a : Int) (s : Sp), goods m → ∀ x ∈ fndS m a s, a ≤ x.1 ∧ x.1 < x.2 ∧ x.2 ≤ a + lenS m
  | [], _, _, _, x, hx => by simp [fndS] at hx
  | r :: t, a, s, ⟨g1, g2⟩, x, hx => by
    obtain ⟨l1, l2, l3, l4⟩ := g1.lohi
    have h0 := lenS_nonneg g2
    rw [lenS]
    unfold fndS at hx
    rcases List.mem_append.1 hx with hx | hx
    · by_cases h : max (lo r) s.1 < min (hi r + 1) s.2
      · rw [if_pos h, List.mem_singleton] at hx
        subst hx
        show a ≤ a + _ ∧ a + _ < a + _ + min (hi r + 1) s.2 - max (lo r) s.1 ∧ a + _ + min (hi r + 1) s.2 - max (lo r) s.1 ≤ _
        split <;> omega
      · rw [if_neg h] at hx; simp at hx
    · have := fndS_in t (a + r.2.1) s g2 x hx
      have := g1.1
      omega
def findS (m : List Rn) (s : Sp) : List Sp × Int := if chk m ≠ 0 then ([], chk m) else if s.1 < 0 ∨ s.1 > s.2 ∨ s.2 > 17179869184 then ([], 1) else (nf (fndS m 0 s), 0)
end Go.AM
namespace Go.AM
open Go Go.Proofs
noncomputable section
abbrev R_u84 : Type := Int
def res_u84 (r : R_u84) : AV := .r (.v (.int .i64 r))
def bo_u84 (r_ : T4.T) (r : R_u84) : List (Nat × Blk) := []
def args_u84 (r_ : T4.T) : List AV := [.agg (rvs (enc T4 r_))]
def bin_u84 (r_ : T4.T) : List Blk := []
abbrev C_u84 (r_ : T4.T) (r : R_u84) : Prop := CC Tryz.prog 95 (args_u84 r_) (bin_u84 r_) (res_u84 r) (bo_u84 r_ r)
def f_u84 (k : Nat) (r_ : T4.T) : Option R_u84 :=
  bif (decide (r_.1 < (0 : Int)) || decide (r_.1 > r_.2.1) || decide (r_.2.1 > (12000 : Int)) || decide (r_.2.2.1 < (0 : Int)) || decide (r_.2.2.1 > r_.2.2.2) || decide (r_.2.2.2 > (17179869184 : Int))) then
  some 1
  else
  some 0
def v_u84 (k : Nat) (r_ : T4.T) : R_u84 := (f_u84 k r_).getD 0
def ke_u84 (k : Nat) : Ke := (95, fun xs => match xs with
  | [_] => some [false]
  | _ => none, fun xs bs => match xs, bs with
  | [.agg qr_], [] => (decS [] T4 qr_).bind fun r_ => some (.one (res_u84 (v_u84 k r_), bo_u84 r_ (v_u84 k r_)))
  | _, _ => none)
theorem of_u84 (k : Nat) (r_ : T4.T) (r : R_u84) (h : f_u84 k r_ = some r) : C_u84 r_ r := by
  refine CC.of (fn := Tryz.f95) (by kernel_rfl) (by kernel_rfl) (by kernel_rfl) (by kernel_rfl) ?_
  unfold f_u84 at h
  exact go (mkK []) [] [] [.autoB [2] true []] (gT h (fun c h => gL h) fun c h => gL h) (by kernel_rfl)
theorem cc_u84 {k : Nat} {r_ : T4.T} (h : (f_u84 k r_).isSome = true) : C_u84 r_ (v_u84 k r_) := ccG (Φ := C_u84 r_) h (of_u84 k r_)
end
end Go.AM
namespace Go.AM
open Go Go.Proofs
noncomputable section
abbrev R_u0 : Type := Int
def res_u0 (r : R_u0) : AV := .r (.v (.int .i64 r))
def bo_u0 (l_ : List (T5).T) (r : R_u0) : List (Nat × Blk) := []
def args_u0 (l_ : List (T5).T) : List AV := [.r (.ro T5 l_)]
def bin_u0 (l_ : List (T5).T) : List Blk := []
abbrev C_u0 (l_ : List (T5).T) (r : R_u0) : Prop := CC Tryz.prog 69 (args_u0 l_) (bin_u0 l_) (res_u0 r) (bo_u0 l_ r)
def st_u0_4 (y0 : List (T5).T) (y1 : Int) (y2 : Int) : St := ⟨mkS 58 [(9, .r (.ro T5 y0)), (10, .r (.v (.int .i64 y1))), (11, .r (.v (.int .i64 y2)))], []⟩
def f_u0_4 (k : Nat) : Nat → List (T5).T → Int → Int → Option R_u0
  | 0, _, _, _ => none
  | j + 1, y0, y1, y2 =>
  bif (decide (y2 < y1)) then
  if (0 ≤ y2) ∧ (y2 < (↑y0.length : Int)) then
  if ((f_u84 k (y0.getD y2.toNat T5.dflt).1).isSome = true) then
  bif (v_u84 k (y0.getD y2.toNat T5.dflt).1 != (0 : Int)) then
  some (v_u84 k (y0.getD y2.toNat T5.dflt).1)
  else
  bif ((y0.getD y2.toNat T5.dflt).1.1 == (y0.getD y2.toNat T5.dflt).1.2.1 || (y0.getD y2.toNat T5.dflt).1.2.2.1 == (y0.getD y2.toNat T5.dflt).1.2.2.2) then
  some 10
  else
  bif (decide ((y0.getD y2.toNat T5.dflt).2.1 < (1 : Int)) || decide ((y0.getD y2.toNat T5.dflt).2.1 > (16 : Int)) || decide ((y0.getD y2.toNat T5.dflt).2.2 < (1 : Int)) || decide ((y0.getD y2.toNat T5.dflt).2.2 > (100 : Int))) then
  some 1
  else
  f_u0_4 k j y0 y1 ((IntKind.i64.wrap (y2 + 1)))
  else none
  else none
  else
  some 0
def f_u0 (k : Nat) (l_ : List (T5).T) : Option R_u0 :=
  bif (decide ((↑l_.length : Int) > (128 : Int))) then
  some 8
  else
  f_u0_4 k k l_ ((↑l_.length : Int)) 0
def v_u0 (k : Nat) (l_ : List (T5).T) : R_u0 := (f_u0 k l_).getD 0
def ke_u0 (k : Nat) : Ke := (69, fun xs => match xs with
  | [_] => some [false]
  | _ => none, fun xs bs => match xs, bs with
  | [.r (.ro tl__ ql_)], [] => (castL tl__ T5 ql_).bind fun l_ => some (.one (res_u0 (v_u0 k l_), bo_u0 l_ (v_u0 k l_)))
  | _, _ => none)
def cs_u0 : List (Nat × List Cmd) := [(4, [.autoB [9, 10, 11] false []])]
abbrev E_u0 (l_ : List (T5).T) (todo : List Item) (st : St) (o : Option R_u0) : Prop := ∀ r, o = some r → Ev Tryz.prog Tryz.f69 0 todo st (res_u0 r) (bo_u0 l_ r)
theorem ev_u0 (k : Nat) (l_ : List (T5).T) : ∀ j, (∀ (y0 : List (T5).T) (y1 : Int) (y2 : Int), E_u0 l_ (placeAt Tryz.f69 4) (st_u0_4 y0 y1 y2) (f_u0_4 k j y0 y1 y2))
  | 0 => fun _ _ _ _ h => (nomatch h)
  | j + 1 => by
    have ih := @ev_u0 k l_ j
    · intro y0 y1 y2 r h
      rw [f_u0_4] at h
      exact go (mkK [ke_u84 k]) [] cs_u0 [.autoB [2] true []] (gT h (fun c h => gN2 h fun h => gN1 h (fun q => cc_u84 q) fun h => gT h (fun c h => gL h) fun c h => gT h (fun c h => gL h) fun c h => gT h (fun c h => gL h) fun c h => gC h 4 (ih _ _ _ _)) fun c h => gL h) (by kernel_rfl)
theorem of_u0 (k : Nat) (l_ : List (T5).T) (r : R_u0) (h : f_u0 k l_ = some r) : C_u0 l_ r := by
  refine CC.of (fn := Tryz.f69) (by kernel_rfl) (by kernel_rfl) (by kernel_rfl) (by kernel_rfl) ?_
  unfold f_u0 at h
  exact go (mkK [ke_u84 k]) [] cs_u0 [.autoB [2] true []] (gT h (fun c h => gL h) fun c h => gC h 4 ((ev_u0 k l_ k) _ _ _ _)) (by kernel_rfl)
theorem cc_u0 {k : Nat} {l_ : List (T5).T} (h : (f_u0 k l_).isSome = true) : C_u0 l_ (v_u0 k l_) := ccG (Φ := C_u0 l_) h (of_u0 k l_)
end
/-! ### rectangles and defects -/
abbrev Rc4 := Int × Int × Int × Int   -- Left, Right, From, To
abbrev Spt := Rc4 × Int × Int         -- Area, Kind, Level
def rectB (r : Rc4) : Bool := decide (r.1 < (0 : Int)) || decide (r.1 > r.2.1) || decide (r.2.1 > (12000 : Int)) || decide (r.2.2.1 < (0 : Int)) || decide (r.2.2.1 > r.2.2.2) || decide (r.2.2.2 > (17179869184 : Int))
def rectE (r : Rc4) : Int := bif rectB r then 1 else 0
structure RectOk (r : Rc4) : Prop where
  l : 0 ≤ r.1
  lr : r.1 ≤ r.2.1
  w : r.2.1 ≤ 12000
  f : 0 ≤ r.2.2.1
  ft : r.2.2.1 ≤ r.2.2.2
  t : r.2.2.2 ≤ 17179869184
theorem rectE_zero {r : Rc4} (h : rectE r = 0) : RectOk r := by
  unfold rectE at h
  cases e : rectB r
  · unfold rectB at e
    simp only [Bool.or_eq_false_iff, decide_eq_false_iff_not] at e
    obtain ⟨⟨⟨⟨⟨a, b⟩, c⟩, d⟩, f⟩, g⟩ := e
    exact ⟨by omega, by omega, by omega, by omega, by omega, by omega⟩
  · rw [e] at h; cases h
theorem rect_Check_s (k : Nat) (r : Rc4) : f_u84 k r = some (rectE r) := by
  show (bif rectB r then some (1 : Int) else some 0) = some (bif rectB r then 1 else 0)
  cases rectB r <;> rfl
theorem rect_Check_v (k : Nat) (r : Rc4) : v_u84 k r = rectE r := by
  unfold v_u84; rw [rect_Check_s]; rfl
def spotE (x : Spt) : Int := bif (rectE x.1 != 0) then rectE x.1 else bif (x.1.1 == x.1.2.1 || x.1.2.2.1 == x.1.2.2.2) then 10 else bif (decide (x.2.1 < (1 : Int)) || decide (x.2.1 > (16 : Int)) || decide (x.2.2 < (1 : Int)) || decide (x.2.2 > (100 : Int))) then 1 else 0
def spotGo : List Spt → Int
  | [] => 0
  | x :: t => bif (spotE x != 0) then spotE x else spotGo t
def spotsE (l : List Spt) : Int := if l.length > 128 then 8 else spotGo l
structure SpotOk (x : Spt) : Prop where
  area : RectOk x.1
  lr : x.1.1 < x.1.2.1
  ft : x.1.2.2.1 < x.1.2.2.2
  kind : 1 ≤ x.2.1 ∧ x.2.1 ≤ 16
  level : 1 ≤ x.2.2 ∧ x.2.2 ≤ 100
theorem spotE_zero {x : Spt} (h : spotE x = 0) : SpotOk x := by
  unfold spotE at h
  by_cases h1 : rectE x.1 = 0
  · have ok := rectE_zero h1
    rw [show (rectE x.1 != 0) = false by simp [h1], cond_false] at h
    obtain ⟨a, b, c, d, e, f⟩ := ok
    cases h2 : (x.1.1 == x.1.2.1 || x.1.2.2.1 == x.1.2.2.2)
    · rw [h2, cond_false] at h
      simp only [Bool.or_eq_false_iff, beq_eq_false_iff_ne, ne_eq] at h2
      cases h3 : (decide (x.2.1 < (1 : Int)) || decide (x.2.1 > (16 : Int)) || decide (x.2.2 < (1 : Int)) || decide (x.2.2 > (100 : Int)))
      · simp only [Bool.or_eq_false_iff, decide_eq_false_iff_not] at h3
        exact ⟨⟨a, b, c, d, e, f⟩, by omega, by omega, ⟨by omega, by omega⟩, by omega, by omega⟩
      · rw [h3] at h; cases h
    · rw [h2] at h; cases h
  · rw [show (rectE x.1 != 0) = true from bne_iff_ne.2 h1, cond_true] at h
    exact absurd h h1
theorem spotGo_zero : ∀ {l : List Spt}, spotGo l = 0 → ∀ x ∈ l, SpotOk x
  | [], _, x, hx => by simp at hx
  | y :: t, h, x, hx => by
    unfold spotGo at h
    by_cases h1 : spotE y = 0
    · rw [show (spotE y != 0) = false by simp [h1], cond_false] at h
      rcases List.mem_cons.1 hx with e | hx'
      · rw [e]; exact spotE_zero h1
      · exact spotGo_zero h x hx'
    · rw [show (spotE y != 0) = true from bne_iff_ne.2 h1, cond_true] at h
      exact absurd h h1
theorem spotsE_zero {l : List Spt} (h : spotsE l = 0) : l.length ≤ 128 ∧ ∀ x ∈ l, SpotOk x := by
  unfold spotsE at h
  by_cases h1 : l.length > 128
  · rw [if_pos h1] at h; omega
  · rw [if_neg h1] at h
    exact ⟨by omega, spotGo_zero h⟩
theorem defect_Check_l (k : Nat) (l : List Spt) (hl : l.length ≤ 128) : ∀ (d i j : Nat), i + d = l.length → d < j → f_u0_4 k j l (l.length : Int) (i : Int) = some (spotGo (l.drop i)) := by
  intro d
  induction d with
  | zero =>
    intro i j hi hj
    obtain ⟨j, rfl⟩ : ∃ q, j = q + 1 := ⟨j - 1, by omega⟩
    rw [f_u0_4, decide_eq_false (by omega : ¬ (i : Int) < (l.length : Int)), cond_false, List.drop_of_length_le (by omega)]; rfl
  | succ d ih =>
    intro i j hi hj
    obtain ⟨j, rfl⟩ : ∃ q, j = q + 1 := ⟨j - 1, by omega⟩
    rw [f_u0_4, decide_eq_true (by omega : (i : Int) < (l.length : Int)), cond_true, if_pos ⟨by omega, by omega⟩, Int.toNat_natCast, wrapS i (by omega), ih (i + 1) j (by omega) (by omega), drop_cons' l i T5.dflt (by omega), spotGo, rect_Check_s, rect_Check_v, Option.isSome_some, if_pos rfl]
    generalize l.getD i T5.dflt = x
    generalize spotGo (l.drop (i + 1)) = g
    show (bif (rectE x.1 != 0) then some (rectE x.1) else bif (x.1.1 == x.1.2.1 || x.1.2.2.1 == x.1.2.2.2) then some 10 else bif (decide (x.2.1 < (1 : Int)) || decide (x.2.1 > (16 : Int)) || decide (x.2.2 < (1 : Int)) || decide (x.2.2 > (100 : Int))) then some 1 else some g) = some (bif (spotE x != 0) then spotE x else g)
    unfold spotE
    cases h1 : (rectE x.1 != 0)
    · cases (x.1.1 == x.1.2.1 || x.1.2.2.1 == x.1.2.2.2)
      · cases (decide (x.2.1 < (1 : Int)) || decide (x.2.1 > (16 : Int)) || decide (x.2.2 < (1 : Int)) || decide (x.2.2 > (100 : Int))) <;> rfl
      · rfl
    · rw [cond_true, cond_true, h1]; rfl
theorem defect_Check_s (k : Nat) (hk : 300 ≤ k) (l : List Spt) : f_u0 k l = some (spotsE l) := by
  unfold f_u0 spotsE
  by_cases h : l.length > 128
  · rw [if_pos h, decide_eq_true (by omega : (l.length : Int) > 128)]; rfl
  · rw [if_neg h, decide_eq_false (by omega : ¬ (l.length : Int) > 128), cond_false]
    exact defect_Check_l k l (by omega) l.length 0 k (by omega) (by omega)
theorem defect_Check_v (k : Nat) (hk : 300 ≤ k) (l : List Spt) : v_u0 k l = spotsE l := by
  unfold v_u0; rw [defect_Check_s k hk]; rfl
end Go.AM
namespace Go.AM
open Go Go.Proofs
noncomputable section
abbrev R_u21 : Type := List (T15).T × Int
def res_u21 (r : R_u21) : AV := .tup [.r (.ro T15 r.1), .r (.v (.int .i64 r.2))]
def bo_u21 (m_ : List (T0).T) (s_ : T15.T) (r : R_u21) : List (Nat × Blk) := []
def args_u21 (m_ : List (T0).T) (s_ : T15.T) : List AV := [.r (.ro T0 m_), .agg (rvs (enc T15 s_))]
def bin_u21 (m_ : List (T0).T) (s_ : T15.T) : List Blk := []
abbrev C_u21 (m_ : List (T0).T) (s_ : T15.T) (r : R_u21) : Prop := CC Tryz.prog 71 (args_u21 m_ s_) (bin_u21 m_ s_) (res_u21 r) (bo_u21 m_ s_ r)
def st_u21_9 (y0 : Int) (y1 : List (T0).T) (y2 : Int) (y3 : Int) (y4 : T15.T) (y5 : List (T15).T) : St := ⟨mkS 89 [(3, .ptr 1000000 0 0), (7, .own 1000001 0), (8, .r (.v (.int .i64 y0))), (35, .r (.ro T0 y1)), (36, .r (.v (.int .i64 y2))), (37, .r (.v (.int .i64 y3)))], [(1000000, 0, .var 86 (rvs (enc T15 y4))), (1000001, 0, .row 86 T15 y5)]⟩
def st_u21_20 (y0 : List (T15).T) : St := ⟨mkS 89 [(7, .r (.ro T15 y0))], []⟩
mutual
def f_u21_9 (k : Nat) : Nat → Int → List (T0).T → Int → Int → T15.T → List (T15).T → Option R_u21
  | 0, _, _, _, _, _, _ => none
  | j + 1, y0, y1, y2, y3, y4, y5 =>
  bif (decide (y3 < y2)) then
  if (0 ≤ y3) ∧ (y3 < (↑y1.length : Int)) then
  if ((f_u30 k (y1.getD y3.toNat T0.dflt)).isSome = true) then
  bif (decide ((if y4.1 > (v_u30 k (y1.getD y3.toNat T0.dflt)).1 then y4.1 else (v_u30 k (y1.getD y3.toNat T0.dflt)).1) < if y4.2 < (v_u30 k (y1.getD y3.toNat T0.dflt)).2 then y4.2 else (v_u30 k (y1.getD y3.toNat T0.dflt)).2)) then
  bif (y1.getD y3.toNat T0.dflt).2.2 then
  if ((y5.length + [(IntKind.i64.wrap (y0 + IntKind.i64.wrap ((v_u30 k (y1.getD y3.toNat T0.dflt)).2 - if y4.2 < (v_u30 k (y1.getD y3.toNat T0.dflt)).2 then y4.2 else (v_u30 k (y1.getD y3.toNat T0.dflt)).2)), IntKind.i64.wrap (IntKind.i64.wrap (IntKind.i64.wrap (y0 + IntKind.i64.wrap ((v_u30 k (y1.getD y3.toNat T0.dflt)).2 - if y4.2 < (v_u30 k (y1.getD y3.toNat T0.dflt)).2 then y4.2 else (v_u30 k (y1.getD y3.toNat T0.dflt)).2)) + if y4.2 < (v_u30 k (y1.getD y3.toNat T0.dflt)).2 then y4.2 else (v_u30 k (y1.getD y3.toNat T0.dflt)).2) - if y4.1 > (v_u30 k (y1.getD y3.toNat T0.dflt)).1 then y4.1 else (v_u30 k (y1.getD y3.toNat T0.dflt)).1))].length) * (16 : Nat) ≤ (140737488355328 : Nat)) then
  f_u21_9 k j ((IntKind.i64.wrap (y0 + (y1.getD y3.toNat T0.dflt).2.1))) y1 y2 ((IntKind.i64.wrap (y3 + 1))) y4 ((y5 ++ [(IntKind.i64.wrap (y0 + IntKind.i64.wrap ((v_u30 k (y1.getD y3.toNat T0.dflt)).2 - if y4.2 < (v_u30 k (y1.getD y3.toNat T0.dflt)).2 then y4.2 else (v_u30 k (y1.getD y3.toNat T0.dflt)).2)), IntKind.i64.wrap (IntKind.i64.wrap (IntKind.i64.wrap (y0 + IntKind.i64.wrap ((v_u30 k (y1.getD y3.toNat T0.dflt)).2 - if y4.2 < (v_u30 k (y1.getD y3.toNat T0.dflt)).2 then y4.2 else (v_u30 k (y1.getD y3.toNat T0.dflt)).2)) + if y4.2 < (v_u30 k (y1.getD y3.toNat T0.dflt)).2 then y4.2 else (v_u30 k (y1.getD y3.toNat T0.dflt)).2) - if y4.1 > (v_u30 k (y1.getD y3.toNat T0.dflt)).1 then y4.1 else (v_u30 k (y1.getD y3.toNat T0.dflt)).1))]))
  else none
  else
  if ((y5.length + [(IntKind.i64.wrap (y0 + IntKind.i64.wrap ((if y4.1 > (v_u30 k (y1.getD y3.toNat T0.dflt)).1 then y4.1 else (v_u30 k (y1.getD y3.toNat T0.dflt)).1) - (v_u30 k (y1.getD y3.toNat T0.dflt)).1)), IntKind.i64.wrap (IntKind.i64.wrap (IntKind.i64.wrap (y0 + IntKind.i64.wrap ((if y4.1 > (v_u30 k (y1.getD y3.toNat T0.dflt)).1 then y4.1 else (v_u30 k (y1.getD y3.toNat T0.dflt)).1) - (v_u30 k (y1.getD y3.toNat T0.dflt)).1)) + if y4.2 < (v_u30 k (y1.getD y3.toNat T0.dflt)).2 then y4.2 else (v_u30 k (y1.getD y3.toNat T0.dflt)).2) - if y4.1 > (v_u30 k (y1.getD y3.toNat T0.dflt)).1 then y4.1 else (v_u30 k (y1.getD y3.toNat T0.dflt)).1))].length) * (16 : Nat) ≤ (140737488355328 : Nat)) then
  f_u21_9 k j ((IntKind.i64.wrap (y0 + (y1.getD y3.toNat T0.dflt).2.1))) y1 y2 ((IntKind.i64.wrap (y3 + 1))) y4 ((y5 ++ [(IntKind.i64.wrap (y0 + IntKind.i64.wrap ((if y4.1 > (v_u30 k (y1.getD y3.toNat T0.dflt)).1 then y4.1 else (v_u30 k (y1.getD y3.toNat T0.dflt)).1) - (v_u30 k (y1.getD y3.toNat T0.dflt)).1)), IntKind.i64.wrap (IntKind.i64.wrap (IntKind.i64.wrap (y0 + IntKind.i64.wrap ((if y4.1 > (v_u30 k (y1.getD y3.toNat T0.dflt)).1 then y4.1 else (v_u30 k (y1.getD y3.toNat T0.dflt)).1) - (v_u30 k (y1.getD y3.toNat T0.dflt)).1)) + if y4.2 < (v_u30 k (y1.getD y3.toNat T0.dflt)).2 then y4.2 else (v_u30 k (y1.getD y3.toNat T0.dflt)).2) - if y4.1 > (v_u30 k (y1.getD y3.toNat T0.dflt)).1 then y4.1 else (v_u30 k (y1.getD y3.toNat T0.dflt)).1))]))
  else none
  else
  f_u21_9 k j ((IntKind.i64.wrap (y0 + (y1.getD y3.toNat T0.dflt).2.1))) y1 y2 ((IntKind.i64.wrap (y3 + 1))) y4 y5
  else none
  else none
  else
  f_u21_20 k j y5
def f_u21_20 (k : Nat) : Nat → List (T15).T → Option R_u21
  | 0, _ => none
  | j + 1, y0 =>
  if ((f_u108 k y0).isSome = true) then
  some (((v_u108 k y0).1, (v_u108 k y0).2))
  else none
end
def f_u21 (k : Nat) (m_ : List (T0).T) (s_ : T15.T) : Option R_u21 :=
  if ((f_u18 k m_).isSome = true) then
  bif (v_u18 k m_ != (0 : Int)) then
  some (([], v_u18 k m_))
  else
  bif (decide (s_.1 < (0 : Int)) || decide (s_.1 > s_.2) || decide (s_.2 > (17179869184 : Int))) then
  some (([], 1))
  else
  f_u21_9 k k 0 m_ ((↑m_.length : Int)) 0 s_ ([])
  else none
def v_u21 (k : Nat) (m_ : List (T0).T) (s_ : T15.T) : R_u21 := (f_u21 k m_ s_).getD ([], 0)
def ke_u21 (k : Nat) : Ke := (71, fun xs => match xs with
  | [_, _] => some [false, false]
  | _ => none, fun xs bs => match xs, bs with
  | [.r (.ro tm__ qm_), .agg qs_], [] => (castL tm__ T0 qm_).bind fun m_ => (decS [] T15 qs_).bind fun s_ => some (.one (res_u21 (v_u21 k m_ s_), bo_u21 m_ s_ (v_u21 k m_ s_)))
  | _, _ => none)
def cs_u21 : List (Nat × List Cmd) := [(9, [.row 7 86 T15, .autoB [3, 7, 8, 35, 36, 37] false []]), (20, [.frz 7 false (RTy.list T15), .autoB [7] false []])]
abbrev E_u21 (m_ : List (T0).T) (s_ : T15.T) (todo : List Item) (st : St) (o : Option R_u21) : Prop := ∀ r, o = some r → Ev Tryz.prog Tryz.f71 0 todo st (res_u21 r) (bo_u21 m_ s_ r)
theorem ev_u21 (k : Nat) (m_ : List (T0).T) (s_ : T15.T) : ∀ j, (∀ (y0 : Int) (y1 : List (T0).T) (y2 : Int) (y3 : Int) (y4 : T15.T) (y5 : List (T15).T), E_u21 m_ s_ (placeAt Tryz.f71 9) (st_u21_9 y0 y1 y2 y3 y4 y5) (f_u21_9 k j y0 y1 y2 y3 y4 y5)) ∧ (∀ (y0 : List (T15).T), E_u21 m_ s_ (placeAt Tryz.f71 20) (st_u21_20 y0) (f_u21_20 k j y0))
  | 0 => ⟨fun _ _ _ _ _ _ _ h => (nomatch h), fun _ _ h => (nomatch h)⟩
  | j + 1 => by
    have ih := @ev_u21 k m_ s_ j
    refine ⟨?_, ?_⟩
    · intro y0 y1 y2 y3 y4 y5 r h
      rw [f_u21_9] at h
      exact go (mkK [ke_u18 k, ke_u30 k, ke_u108 k]) [20] cs_u21 [.frz 4 false (RTy.list T15), .autoB [4, 5] true []] (gT h (fun c h => gN2 h fun h => gN1 h (fun q => cc_u30 q) fun h => gT h (fun c h => gT h (fun c h => gN1 h id fun h => gC h 9 (ih.1 _ _ _ _ _ _ _)) fun c h => gN1 h id fun h => gC h 9 (ih.1 _ _ _ _ _ _ _)) fun c h => gC h 9 (ih.1 _ _ _ _ _ _ _)) fun c h => gC h 20 (ih.2 _ _)) (by kernel_rfl)
    · intro y0 r h
      rw [f_u21_20] at h
      exact go (mkK [ke_u18 k, ke_u30 k, ke_u108 k]) [20] cs_u21 [.frz 4 false (RTy.list T15), .autoB [4, 5] true []] (gN1 h (fun q => cc_u108 q) fun h => gL h) (by kernel_rfl)
theorem of_u21 (k : Nat) (m_ : List (T0).T) (s_ : T15.T) (r : R_u21) (h : f_u21 k m_ s_ = some r) : C_u21 m_ s_ r := by
  refine CC.of (fn := Tryz.f71) (by kernel_rfl) (by kernel_rfl) (by kernel_rfl) (by kernel_rfl) ?_
  unfold f_u21 at h
  exact go (mkK [ke_u18 k, ke_u30 k, ke_u108 k]) [20] cs_u21 [.frz 4 false (RTy.list T15), .autoB [4, 5] true []] (gN1 h (fun q => cc_u18 q) fun h => gT h (fun c h => gL h) fun c h => gT h (fun c h => gL h) fun c h => gC h 9 ((ev_u21 k m_ s_ k).1 _ _ _ _ _ _ _)) (by kernel_rfl)
theorem cc_u21 {k : Nat} {m_ : List (T0).T} {s_ : T15.T} (h : (f_u21 k m_ s_).isSome = true) : C_u21 m_ s_ (v_u21 k m_ s_) := ccG (Φ := C_u21 m_ s_) h (of_u21 k m_ s_)
end
theorem max_if (a b : Int) : (if a > b then a else b) = max b a := by split <;> omega
theorem min_if2 (a b : Int) : (if a < b then a else b) = min b a := by split <;> omega
theorem find_test (s : Sp) : (decide (s.1 < (0 : Int)) || decide (s.1 > s.2) || decide (s.2 > (17179869184 : Int))) = decide (s.1 < 0 ∨ s.1 > s.2 ∨ s.2 > 17179869184) := by
  by_cases h1 : s.1 < 0
  · rw [decide_eq_true h1, decide_eq_true (Or.inl h1), Bool.true_or, Bool.true_or]
  · by_cases h2 : s.1 > s.2
    · rw [decide_eq_true h2, decide_eq_true (Or.inr (Or.inl h2)), Bool.or_true, Bool.true_or]
    · by_cases h3 : s.2 > 17179869184
      · rw [decide_eq_true h3, decide_eq_true (Or.inr (Or.inr h3)), Bool.or_true]
      · rw [decide_eq_false h1, decide_eq_false h2, decide_eq_false h3, decide_eq_false (by omega)]; rfl
theorem find_in {m : List Rn} (hc : Chk m) (s : Sp) : In 0 17179869184 (fndS m 0 s) := In.of fun x hx => by
  have h := fndS_in m 0 s hc.goods x hx
  have := hc.tot
  exact ⟨by omega, by omega, by omega⟩
theorem find_norm {m : List Rn} (hc : Chk m) (s : Sp) : normS (fndS m 0 s) = (nf (fndS m 0 s), 0) := by
  have hl := fndS_len m 0 s
  have := hc.len
  unfold normS
  rw [if_neg (fun e => e (chkS_zero.2 ⟨by omega, find_in hc s⟩))]
/-- the span of a run, if it has points of the span -/
def fnd1 (r : Rn) (a : Int) (s : Sp) : List Sp := if max (lo r) s.1 < min (Go.AM.hi r + 1) s.2 then [(a + (if r.2.2 = true then Go.AM.hi r + 1 - min (Go.AM.hi r + 1) s.2 else max (lo r) s.1 - lo r), a + (if r.2.2 = true then Go.AM.hi r + 1 - min (Go.AM.hi r + 1) s.2 else max (lo r) s.1 - lo r) + min (Go.AM.hi r + 1) s.2 - max (lo r) s.1)] else []
theorem fndS_cons (r : Rn) (t : List Rn) (a : Int) (s : Sp) : fndS (r :: t) a s = fnd1 r a s ++ fndS t (a + r.2.1) s := rfl
theorem iso_Find_9 (k : Nat) (hk : 2100 ≤ k) (m : List Rn) (hc : Chk m) (s : Sp) (s0 : 0 ≤ s.1 ∧ s.1 ≤ 17179869184) (s1 : 0 ≤ s.2 ∧ s.2 ≤ 17179869184) : ∀ (d i j : Nat) (a : Int) (out : List Sp), i + d = m.length → d + 1 < j → 0 ≤ a → a ≤ (i : Int) * 17179869184 → out.length ≤ i → out ++ fndS (m.drop i) a s = fndS m 0 s →
    f_u21_9 k j a m (m.length : Int) (i : Int) s out = some (nf (fndS m 0 s), 0) := by
  intro d
  have hl := hc.len
  induction d with
  | zero =>
    intro i j a out hi hj h0 h1 ho he
    obtain ⟨j, rfl⟩ : ∃ q, j = q + 1 + 1 := ⟨j - 2, by omega⟩
    rw [f_u21_9, decide_eq_false (by omega : ¬ (i : Int) < (m.length : Int)), cond_false, f_u21_20]
    rw [List.drop_of_length_le (by omega)] at he
    rw [show fndS ([] : List Rn) a s = [] from rfl, List.append_nil] at he
    rw [he, span_Norm_s k hk, span_Norm_v k hk, find_norm hc]
    rfl
  | succ d ih =>
    intro i j a out hi hj h0 h1 ho he
    obtain ⟨j, rfl⟩ : ∃ q, j = q + 1 := ⟨j - 1, by omega⟩
    have hg : good (m.getD i T0.dflt) := hc.goods.mem _ (getD_mem' _ _ _ (by omega))
    rw [drop_cons' m i T0.dflt (by omega), fndS_cons, ← List.append_assoc] at he
    rw [f_u21_9, decide_eq_true (by omega : (i : Int) < (m.length : Int)), cond_true, if_pos ⟨by omega, by omega⟩, Int.toNat_natCast, iso_images_s k _ hg, iso_images_v k _ hg, Option.isSome_some, if_pos rfl, wrapS i (by omega)]
    generalize m.getD i T0.dflt = r at *
    obtain ⟨g1, g2, g3, g4, _⟩ := _root_.id hg
    obtain ⟨l1, l2, l3, l4⟩ := hg.lohi
    rw [show (spn r).1 = lo r from rfl, show (spn r).2 = Go.AM.hi r + 1 from rfl, max_if, min_if2, wrap_id (i := a + r.2.1) (by omega) (by omega), wrap_id (i := Go.AM.hi r + 1 - min (Go.AM.hi r + 1) s.2) (by omega) (by omega), wrap_id (i := max (lo r) s.1 - lo r) (by omega) (by omega)]
    unfold fnd1 at he
    by_cases h : max (lo r) s.1 < min (Go.AM.hi r + 1) s.2
    · rw [decide_eq_true h, cond_true]
      rw [if_pos h] at he
      rw [wrap_id (i := a + (Go.AM.hi r + 1 - min (Go.AM.hi r + 1) s.2)) (by omega) (by omega), wrap_id (i := a + (max (lo r) s.1 - lo r)) (by omega) (by omega)]
      rw [wrap_id (i := a + (Go.AM.hi r + 1 - min (Go.AM.hi r + 1) s.2) + min (Go.AM.hi r + 1) s.2) (by omega) (by omega), wrap_id (i := a + (max (lo r) s.1 - lo r) + min (Go.AM.hi r + 1) s.2) (by omega) (by omega)]
      rw [wrap_id (i := a + (Go.AM.hi r + 1 - min (Go.AM.hi r + 1) s.2) + min (Go.AM.hi r + 1) s.2 - max (lo r) s.1) (by omega) (by omega), wrap_id (i := a + (max (lo r) s.1 - lo r) + min (Go.AM.hi r + 1) s.2 - max (lo r) s.1) (by omega) (by omega)]
      cases hb : r.2.2
      · rw [hb] at he
        rw [if_neg Bool.false_ne_true] at he
        rw [cond_false, if_pos (by rw [List.length_singleton]; omega)]
        exact ih (i + 1) j _ _ (by omega) (by omega) (by omega) (by omega) (by rw [List.length_append, List.length_singleton]; omega) he
      · rw [hb] at he
        rw [if_pos rfl] at he
        rw [cond_true, if_pos (by rw [List.length_singleton]; omega)]
        exact ih (i + 1) j _ _ (by omega) (by omega) (by omega) (by omega) (by rw [List.length_append, List.length_singleton]; omega) he
    · rw [decide_eq_false h, cond_false]
      rw [if_neg h, List.append_nil] at he
      exact ih (i + 1) j _ _ (by omega) (by omega) (by omega) (by omega) (by omega) he
theorem iso_Find_s (k : Nat) (hk : 2100 ≤ k) (m : List Rn) (s : Sp) : f_u21 k m s = some (findS m s) := by
  unfold f_u21 findS
  rw [iso_Check_s k (by omega), iso_Check_v k (by omega), Option.isSome_some, if_pos rfl, find_test]
  by_cases h1 : chk m = 0
  · have hc := chk_zero.1 h1
    have hl := hc.len
    rw [show (chk m != 0) = false by simp [h1], cond_false, if_neg (fun h : chk m ≠ 0 => h h1)]
    by_cases h2 : s.1 < 0 ∨ s.1 > s.2 ∨ s.2 > 17179869184
    · rw [decide_eq_true h2, cond_true, if_pos h2]
    · rw [decide_eq_false h2, cond_false, if_neg h2]
      exact iso_Find_9 k hk m hc s ⟨by omega, by omega⟩ ⟨by omega, by omega⟩ m.length 0 k 0 [] (by omega) (by omega) (by omega) (by omega) (by simp) rfl
  · rw [show (chk m != 0) = true from bne_iff_ne.2 h1, cond_true, if_pos h1]
theorem iso_Find_v (k : Nat) (hk : 2100 ≤ k) (m : List Rn) (s : Sp) : v_u21 k m s = findS m s := by
  unfold v_u21; rw [iso_Find_s k hk]; rfl
end Go.AM
namespace Go.AM
open Go Go.Proofs
noncomputable section
abbrev R_u92 : Type := Int × Bool
def res_u92 (r : R_u92) : AV := .tup [.r (.v (.int .i64 r.1)), .r (.v (.bool r.2))]
def bo_u92 (r_ : T10.T) (spans_ : List (T15).T) (r : R_u92) : List (Nat × Blk) := []
def args_u92 (r_ : T10.T) (spans_ : List (T15).T) : List AV := [.agg (rvs (enc T10 r_)), .r (.ro T15 spans_)]
def bin_u92 (r_ : T10.T) (spans_ : List (T15).T) : List Blk := []
abbrev C_u92 (r_ : T10.T) (spans_ : List (T15).T) (r : R_u92) : Prop := CC Tryz.prog 20 (args_u92 r_ spans_) (bin_u92 r_ spans_) (res_u92 r) (bo_u92 r_ spans_ r)
def st_u92_3 (y0 : Int) (y1 : Bool) (y2 : Bool) (y3 : List (T15).T) (y4 : Int) (y5 : Int) (y6 : T10.T) : St := ⟨mkS 54 [(2, .ptr 1000000 0 0), (6, .r (.v (.int .i64 y0))), (7, .r (.v (.bool y1))), (8, .r (.v (.bool y2))), (15, .r (.ro T15 y3)), (16, .r (.v (.int .i64 y4))), (17, .r (.v (.int .i64 y5)))], [(1000000, 0, .var 38 (rvs (enc T10 y6)))]⟩
def st_u92_7 (y0 : Int) (y1 : Bool) (y2 : Bool) (y3 : List (T15).T) (y4 : Int) (y5 : Int) (y6 : List (T3).T) (y7 : Int) (y8 : Int) (y9 : T10.T) : St := ⟨mkS 54 [(2, .ptr 1000000 0 0), (6, .r (.v (.int .i64 y0))), (7, .r (.v (.bool y1))), (8, .r (.v (.bool y2))), (15, .r (.ro T15 y3)), (16, .r (.v (.int .i64 y4))), (17, .r (.v (.int .i64 y5))), (28, .r (.ro T3 y6)), (29, .r (.v (.int .i64 y7))), (30, .r (.v (.int .i64 y8)))], [(1000000, 0, .var 38 (rvs (enc T10 y9)))]⟩
mutual
def f_u92_3 (k : Nat) : Nat → Int → Bool → Bool → List (T15).T → Int → Int → T10.T → Option R_u92
  | 0, _, _, _, _, _, _, _ => none
  | j + 1, y0, y1, y2, y3, y4, y5, y6 =>
  bif (decide (y5 < y4)) then
  if (0 ≤ y5) ∧ (y5 < (↑y3.length : Int)) then
  if ((f_u86 k y6.2.2.1 (y3.getD y5.toNat T15.dflt)).isSome = true) then
  f_u92_7 k j y0 y1 y2 y3 y4 y5 ((v_u86 k y6.2.2.1 (y3.getD y5.toNat T15.dflt)).1) ((↑ (v_u86 k y6.2.2.1 (y3.getD y5.toNat T15.dflt)).1.length : Int)) 0 y6
  else none
  else none
  else
  some ((y0, y1))
def f_u92_7 (k : Nat) : Nat → Int → Bool → Bool → List (T15).T → Int → Int → List (T3).T → Int → Int → T10.T → Option R_u92
  | 0, _, _, _, _, _, _, _, _, _, _ => none
  | j + 1, y0, y1, y2, y3, y4, y5, y6, y7, y8, y9 =>
  bif (decide (y8 < y7)) then
  if (0 ≤ y8) ∧ (y8 < (↑y6.length : Int)) then
  bif (!y2 && (y6.getD y8.toNat T3.dflt).2.2.2.1 != y0) then
  some ((-1, false))
  else
  f_u92_7 k j ((y6.getD y8.toNat T3.dflt).2.2.2.1) ((y1 && (y6.getD y8.toNat T3.dflt).2.2.1 == 1)) false y3 y4 y5 y6 y7 ((IntKind.i64.wrap (y8 + 1))) y9
  else none
  else
  f_u92_3 k j y0 y1 y2 y3 y4 ((IntKind.i64.wrap (y5 + 1))) y9
end
def f_u92 (k : Nat) (r_ : T10.T) (spans_ : List (T15).T) : Option R_u92 :=
  f_u92_3 k k ((-1)) true true spans_ ((↑spans_.length : Int)) 0 r_
def v_u92 (k : Nat) (r_ : T10.T) (spans_ : List (T15).T) : R_u92 := (f_u92 k r_ spans_).getD (0, false)
def ke_u92 (k : Nat) : Ke := (20, fun xs => match xs with
  | [_, _] => some [false, false]
  | _ => none, fun xs bs => match xs, bs with
  | [.agg qr_, .r (.ro tspans__ qspans_)], [] => (decS [] T10 qr_).bind fun r_ => (castL tspans__ T15 qspans_).bind fun spans_ => some (.one (res_u92 (v_u92 k r_ spans_), bo_u92 r_ spans_ (v_u92 k r_ spans_)))
  | _, _ => none)
def cs_u92 : List (Nat × List Cmd) := [(3, [.autoB [2, 6, 7, 8, 15, 16, 17] false []]), (7, [.autoB [2, 6, 7, 8, 15, 16, 17, 28, 29, 30] false []])]
abbrev E_u92 (r_ : T10.T) (spans_ : List (T15).T) (todo : List Item) (st : St) (o : Option R_u92) : Prop := ∀ r, o = some r → Ev Tryz.prog Tryz.f20 0 todo st (res_u92 r) (bo_u92 r_ spans_ r)
theorem ev_u92 (k : Nat) (r_ : T10.T) (spans_ : List (T15).T) : ∀ j, (∀ (y0 : Int) (y1 : Bool) (y2 : Bool) (y3 : List (T15).T) (y4 : Int) (y5 : Int) (y6 : T10.T), E_u92 r_ spans_ (placeAt Tryz.f20 3) (st_u92_3 y0 y1 y2 y3 y4 y5 y6) (f_u92_3 k j y0 y1 y2 y3 y4 y5 y6)) ∧ (∀ (y0 : Int) (y1 : Bool) (y2 : Bool) (y3 : List (T15).T) (y4 : Int) (y5 : Int) (y6 : List (T3).T) (y7 : Int) (y8 : Int) (y9 : T10.T), E_u92 r_ spans_ (placeAt Tryz.f20 7) (st_u92_7 y0 y1 y2 y3 y4 y5 y6 y7 y8 y9) (f_u92_7 k j y0 y1 y2 y3 y4 y5 y6 y7 y8 y9))
  | 0 => ⟨fun _ _ _ _ _ _ _ _ h => (nomatch h), fun _ _ _ _ _ _ _ _ _ _ _ h => (nomatch h)⟩
  | j + 1 => by
    have ih := @ev_u92 k r_ spans_ j
    refine ⟨?_, ?_⟩
    · intro y0 y1 y2 y3 y4 y5 y6 r h
      rw [f_u92_3] at h
      exact go (mkK [ke_u86 k]) [] cs_u92 [.autoB [4, 5] true []] (gT h (fun c h => gN2 h fun h => gN1 h (fun q => cc_u86 q) fun h => gC h 7 (ih.2 _ _ _ _ _ _ _ _ _ _ _)) fun c h => gL h) (by kernel_rfl)
    · intro y0 y1 y2 y3 y4 y5 y6 y7 y8 y9 r h
      rw [f_u92_7] at h
      exact go (mkK [ke_u86 k]) [] cs_u92 [.autoB [4, 5] true []] (gT h (fun c h => gN2 h fun h => gT h (fun c h => gL h) fun c h => gC h 7 (ih.2 _ _ _ _ _ _ _ _ _ _ _)) fun c h => gC h 3 (ih.1 _ _ _ _ _ _ _ _)) (by kernel_rfl)
theorem of_u92 (k : Nat) (r_ : T10.T) (spans_ : List (T15).T) (r : R_u92) (h : f_u92 k r_ spans_ = some r) : C_u92 r_ spans_ r := by
  refine CC.of (fn := Tryz.f20) (by kernel_rfl) (by kernel_rfl) (by kernel_rfl) (by kernel_rfl) ?_
  unfold f_u92 at h
  exact go (mkK [ke_u86 k]) [] cs_u92 [.autoB [4, 5] true []] (gC h 3 ((ev_u92 k r_ spans_ k).1 _ _ _ _ _ _ _ _)) (by kernel_rfl)
theorem cc_u92 {k : Nat} {r_ : T10.T} {spans_ : List (T15).T} (h : (f_u92 k r_ spans_).isSome = true) : C_u92 r_ spans_ (v_u92 k r_ spans_) := ccG (Φ := C_u92 r_ spans_) h (of_u92 k r_ spans_)
abbrev R_u91 : Type := Bool
def res_u91 (r : R_u91) : AV := .r (.v (.bool r))
def bo_u91 (r_ : T10.T) (r : R_u91) : List (Nat × Blk) := []
def args_u91 (r_ : T10.T) : List AV := [.agg (rvs (enc T10 r_))]
def bin_u91 (r_ : T10.T) : List Blk := []
abbrev C_u91 (r_ : T10.T) (r : R_u91) : Prop := CC Tryz.prog 18 (args_u91 r_) (bin_u91 r_) (res_u91 r) (bo_u91 r_ r)
def f_u91 (k : Nat) (r_ : T10.T) : Option R_u91 :=
  bif (decide ((↑ (List.length r_.2.2.1) : Int) > (0 : Int))) then
  if ((0 : Int) ≤ IntKind.i64.wrap ((↑ (List.length r_.2.2.1) : Int) - (1 : Int))) ∧ (IntKind.i64.wrap ((↑ (List.length r_.2.2.1) : Int) - (1 : Int)) < (↑ (List.length r_.2.2.1) : Int)) then
  some ((List.getD r_.2.2.1 (IntKind.i64.wrap ((↑ (List.length r_.2.2.1) : Int) - 1)).toNat T3.dflt).2.1 == r_.2.1.2)
  else none
  else
  some (r_.2.1.2 == 0)
def v_u91 (k : Nat) (r_ : T10.T) : R_u91 := (f_u91 k r_).getD false
def ke_u91 (k : Nat) : Ke := (18, fun xs => match xs with
  | [_] => some [false]
  | _ => none, fun xs bs => match xs, bs with
  | [.agg qr_], [] => (decS [] T10 qr_).bind fun r_ => some (.one (res_u91 (v_u91 k r_), bo_u91 r_ (v_u91 k r_)))
  | _, _ => none)
theorem of_u91 (k : Nat) (r_ : T10.T) (r : R_u91) (h : f_u91 k r_ = some r) : C_u91 r_ r := by
  refine CC.of (fn := Tryz.f18) (by kernel_rfl) (by kernel_rfl) (by kernel_rfl) (by kernel_rfl) ?_
  unfold f_u91 at h
  exact go (mkK []) [] [] [.autoB [2] true []] (gT h (fun c h => gN2 h fun h => gL h) fun c h => gL h) (by kernel_rfl)
theorem cc_u91 {k : Nat} {r_ : T10.T} (h : (f_u91 k r_).isSome = true) : C_u91 r_ (v_u91 k r_) := ccG (Φ := C_u91 r_) h (of_u91 k r_)

end
theorem end_idx {l : List Sec} (hl : l.length ≤ 512) (h0 : l.length ≠ 0) : IntKind.i64.wrap ((l.length : Int) - 1) = ((l.length - 1 : Nat) : Int) := by
  rw [wrap_id (by omega) (by omega)]; omega
theorem prt_step {s : Sp} (h0 : 0 ≤ s.1) (h1 : s.2 ≤ 17179869184) {x : Sec} (ok : SecOk x) : IntKind.i64.wrap ((if s.1 > x.1 then s.1 else x.1) - s.1) = max x.1 s.1 - s.1 ∧ IntKind.i64.wrap ((if s.2 < x.2.1 then s.2 else x.2.1) - s.1) = min x.2.1 s.2 - s.1 ∨ s.2 < s.1 := by
  obtain ⟨a, b, c, d⟩ := ok
  by_cases h : s.2 < s.1
  · exact .inr h
  · left
    rw [max_if, min_if2]
    exact ⟨wrap_id (by omega) (by omega), wrap_id (by omega) (by omega)⟩
theorem Parts_11 (k : Nat) {s : Sp} (h0 : 0 ≤ s.1) (hs : s.1 ≤ s.2) (h1 : s.2 ≤ 17179869184) (l : List Sec) (hl : l.length ≤ 512) (ho : ∀ x ∈ l, SecOk x) : ∀ (d i j : Nat) (out : List Sec), i + d = l.length → d < j → out.length ≤ i → f_u86_11 k j l (l.length : Int) (i : Int) s out = some (out ++ prtL s (l.drop i), 0) := by
  intro d
  induction d with
  | zero =>
    intro i j out hi hj ho'
    obtain ⟨j, rfl⟩ : ∃ q, j = q + 1 := ⟨j - 1, by omega⟩
    rw [f_u86_11, decide_eq_false (by omega : ¬ (i : Int) < (l.length : Int)), cond_false, List.drop_of_length_le (by omega), prtL, List.append_nil]
  | succ d ih =>
    intro i j out hi hj ho'
    obtain ⟨j, rfl⟩ : ∃ q, j = q + 1 := ⟨j - 1, by omega⟩
    rcases prt_step h0 h1 (ho (l.getD i T3.dflt) (getD_mem' _ _ _ (by omega))) with ⟨e1, e2⟩ | h
    · rw [f_u86_11, decide_eq_true (by omega : (i : Int) < (l.length : Int)), cond_true, if_pos ⟨by omega, by omega⟩, Int.toNat_natCast, wrapS i (by omega), e1, e2, drop_cons' l i T3.dflt (by omega), prtL, if_pos (by rw [List.length_singleton]; omega), ih (i + 1) j _ (by omega) (by omega) (by rw [List.length_append, List.length_singleton]; omega), ih (i + 1) j out (by omega) (by omega) (by omega)]
      unfold prt1
      by_cases h : max (l.getD i T3.dflt).1 s.1 - s.1 < min (l.getD i T3.dflt).2.1 s.2 - s.1
      · rw [decide_eq_true h, cond_true, if_pos h, List.append_assoc]
      · rw [decide_eq_false h, cond_false, if_neg h, List.nil_append]
    · omega
theorem reel_Parts_s (k : Nat) (hk : 1200 ≤ k) {l : List Sec} (hz : secE l = 0) {s : Sp} (h0 : 0 ≤ s.1) (hs : s.1 ≤ s.2) (h1 : s.2 ≤ 17179869184) (h2 : s.2 ≤ endS l) : f_u86 k l s = some (prtL s l, 0) := by
  obtain ⟨hl, ho, _⟩ := secE_zero hz
  have hp := Parts_11 k h0 hs h1 l hl ho l.length 0 k [] (by omega) (by omega) (by simp)
  unfold f_u86
  rw [reel_Check_s k hk, reel_Check_v k hk, hz, Option.isSome_some, if_pos rfl, bne_self_eq_false, cond_false]
  by_cases h : l.length = 0
  · have he : endS l = 0 := by unfold endS; rw [if_pos h]
    rw [decide_eq_false (by omega : ¬ (l.length : Int) > 0), cond_false, decide_eq_false (by omega : ¬ s.1 < 0), decide_eq_false (by omega : ¬ s.1 > s.2), decide_eq_false (by omega : ¬ s.2 > 0)]
    exact hp
  · have he : endS l = (l.getD (l.length - 1) T3.dflt).2.1 := by unfold endS; rw [if_neg h]
    rw [decide_eq_true (by omega : (l.length : Int) > 0), cond_true, end_idx hl h, if_pos ⟨by omega, by omega⟩, Int.toNat_natCast, ← he, decide_eq_false (by omega : ¬ s.1 < 0), decide_eq_false (by omega : ¬ s.1 > s.2), decide_eq_false (by omega : ¬ s.2 > endS l)]
    exact hp
theorem reel_Parts_v (k : Nat) (hk : 1200 ≤ k) {l : List Sec} (hz : secE l = 0) {s : Sp} (h0 : 0 ≤ s.1) (hs : s.1 ≤ s.2) (h1 : s.2 ≤ 17179869184) (h2 : s.2 ≤ endS l) : v_u86 k l s = (prtL s l, 0) := by
  unfold v_u86; rw [reel_Parts_s k hk hz h0 hs h1 h2]; rfl
def flatP (l : List Sec) : List Sp → List Sec
  | [] => []
  | s :: t => prtL s l ++ flatP l t
def papF : Int → Bool → Bool → List Sec → Int × Bool
  | g, a, _, [] => (g, a)
  | g, a, f, x :: t => bif (!f && x.2.2.2.1 != g) then (-1, false) else papF x.2.2.2.1 (a && x.2.2.1 == 1) false t
set_option maxRecDepth 20000 in
theorem paper_s (k : Nat) (hk : 200000 ≤ k) (r : T10.T) (hz : secE r.2.2.1 = 0) (spans : List Sp) (hl : spans.length ≤ 256) (hs : ∀ s ∈ spans, 0 ≤ s.1 ∧ s.1 < s.2 ∧ s.2 ≤ 17179869184 ∧ s.2 ≤ endS r.2.2.1) : f_u92 k r spans = some (papF (-1) true true (flatP r.2.2.1 spans)) := by
  have hsl := (secE_zero hz).1
  have : ∀ (d i j : Nat) (g : Int) (a f : Bool), i + d = spans.length → d * 600 < j → f_u92_3 k j g a f spans (spans.length : Int) (i : Int) r = some (papF g a f (flatP r.2.2.1 (spans.drop i))) := by
    intro d
    induction d with
    | zero =>
      intro i j g a f hi hj
      obtain ⟨j, rfl⟩ : ∃ q, j = q + 1 := ⟨j - 1, by omega⟩
      rw [f_u92_3, decide_eq_false (by omega : ¬ (i : Int) < (spans.length : Int)), cond_false, List.drop_of_length_le (by omega)]; rfl
    | succ d ih =>
      intro i j g a f hi hj
      obtain ⟨j, rfl⟩ : ∃ q, j = q + 1 := ⟨j - 1, by omega⟩
      have hm := hs (spans.getD i T15.dflt) (getD_mem' _ _ _ (by omega))
      obtain ⟨s0, s1, s2, s3⟩ := hm
      have hpl := prtL_len (spans.getD i T15.dflt) r.2.2.1
      rw [f_u92_3, decide_eq_true (by omega : (i : Int) < (spans.length : Int)), cond_true, if_pos ⟨by omega, by omega⟩, Int.toNat_natCast, reel_Parts_s k (by omega) hz s0 (by omega) s2 s3, reel_Parts_v k (by omega) hz s0 (by omega) s2 s3, Option.isSome_some, if_pos rfl, drop_cons' spans i T15.dflt (by omega), flatP]
      generalize prtL (spans.getD i T15.dflt) r.2.2.1 = P at *
      have inner : ∀ (e q j : Nat) (g : Int) (a f : Bool), q + e = P.length → d * 600 + e + 1 < j → f_u92_7 k j g a f spans (spans.length : Int) (i : Int) P (P.length : Int) (q : Int) r = some (papF g a f (P.drop q ++ flatP r.2.2.1 (spans.drop (i + 1)))) := by
        intro e
        induction e with
        | zero =>
          intro q j g a f hq hj
          obtain ⟨j, rfl⟩ : ∃ q, j = q + 1 := ⟨j - 1, by omega⟩
          rw [f_u92_7, decide_eq_false (by omega : ¬ (q : Int) < (P.length : Int)), cond_false, List.drop_of_length_le (by omega : P.length ≤ q), List.nil_append, wrapS i (by omega)]
          have hj' : d * 600 < j := by omega
          have hi' : i + 1 + d = spans.length := by omega
          exact ih (i + 1) j g a f hi' hj'
        | succ e ihe =>
          intro q j g a f hq hj
          obtain ⟨j, rfl⟩ : ∃ q, j = q + 1 := ⟨j - 1, by omega⟩
          rw [f_u92_7, decide_eq_true (by omega : (q : Int) < (P.length : Int)), cond_true, if_pos ⟨by omega, by omega⟩, Int.toNat_natCast, wrapS q (by omega), ihe (q + 1) j _ _ _ (by omega) (by omega), drop_cons' P q T3.dflt (by omega), List.cons_append, papF]
          cases (!f && (P.getD q T3.dflt).2.2.2.1 != g) <;> rfl
      exact inner P.length 0 j g a f (by omega) (by omega)
  exact this spans.length 0 k (-1) true true (by omega) (by omega)
theorem paper_v (k : Nat) (hk : 200000 ≤ k) (r : T10.T) (hz : secE r.2.2.1 = 0) (spans : List Sp) (hl : spans.length ≤ 256) (hs : ∀ s ∈ spans, 0 ≤ s.1 ∧ s.1 < s.2 ∧ s.2 ≤ 17179869184 ∧ s.2 ≤ endS r.2.2.1) : v_u92 k r spans = papF (-1) true true (flatP r.2.2.1 spans) := by
  unfold v_u92; rw [paper_s k hk r hz spans hl hs]; rfl
theorem ends_s (k : Nat) (r : T10.T) (hl : r.2.2.1.length ≤ 512) : f_u91 k r = some (endS r.2.2.1 == r.2.1.2) := by
  unfold f_u91 endS
  by_cases h : r.2.2.1.length = 0
  · rw [if_pos h, decide_eq_false (by omega : ¬ (List.length r.2.2.1 : Int) > 0), cond_false]
    show some (r.2.1.2 == 0) = some (0 == r.2.1.2)
    rw [Bool.beq_comm]
  · rw [if_neg h, decide_eq_true (by omega : (List.length r.2.2.1 : Int) > 0), cond_true, end_idx hl h, if_pos ⟨by omega, by omega⟩, Int.toNat_natCast]
theorem ends_v (k : Nat) (r : T10.T) (hl : r.2.2.1.length ≤ 512) : v_u91 k r = (endS r.2.2.1 == r.2.1.2) := by
  unfold v_u91; rw [ends_s k r hl]; rfl
end Go.AM
namespace Go.AM
open Go Go.Proofs

/-- a cut without error -/
theorem cut_in {l : List Ro} {W L id : Int} (h : (cutFull l W L id).2 = 0) : Reg l W L ∧ CutIn l W L id (cutFull l W L id).1 512 := by
  have hz : errS l W L id = 0 := by
    unfold cutFull at h
    by_cases h2 : errS l W L id = 0
    · exact h2
    · rw [if_pos h2] at h; exact absurd h h2
  obtain ⟨reg, kn⟩ := errS_zero.1 hz
  have hC : cutFull l W L id = cutS l W L 512 id := by unfold cutFull; rw [if_neg (fun h => h hz)]
  refine ⟨reg, cutS_in reg 512 id _ (reg.anc kn) ?_⟩
  rw [← hC, ← h]
end Go.AM
namespace Go.AM
open Go Go.Proofs
noncomputable section
abbrev R_u17 : Type := Int × Int
def res_u17 (r : R_u17) : AV := .tup [.r (.v (.int .i64 r.1)), .r (.v (.int .i64 r.2))]
def bo_u17 (c_ : T1.T) (left_ : Int) (right_ : Int) (r : R_u17) : List (Nat × Blk) := []
def args_u17 (c_ : T1.T) (left_ : Int) (right_ : Int) : List AV := [.agg (rvs (enc T1 c_)), .r (.v (.int .i64 left_)), .r (.v (.int .i64 right_))]
def bin_u17 (c_ : T1.T) (left_ : Int) (right_ : Int) : List Blk := []
abbrev C_u17 (c_ : T1.T) (left_ : Int) (right_ : Int) (r : R_u17) : Prop := CC Tryz.prog 70 (args_u17 c_ left_ right_) (bin_u17 c_ left_ right_) (res_u17 r) (bo_u17 c_ left_ right_ r)
def f_u17 (k : Nat) (c_ : T1.T) (left_ : Int) (right_ : Int) : Option R_u17 :=
  bif c_.2.2.1 then
  some ((IntKind.i64.wrap (c_.2.1 - IntKind.i64.wrap (right_ - c_.1)), IntKind.i64.wrap (c_.2.1 - IntKind.i64.wrap (left_ - c_.1))))
  else
  some ((IntKind.i64.wrap (left_ - c_.1), IntKind.i64.wrap (right_ - c_.1)))
def v_u17 (k : Nat) (c_ : T1.T) (left_ : Int) (right_ : Int) : R_u17 := (f_u17 k c_ left_ right_).getD (0, 0)
def ke_u17 (k : Nat) : Ke := (70, fun xs => match xs with
  | [_, _, _] => some [false, false, false]
  | _ => none, fun xs bs => match xs, bs with
  | [.agg qc_, .r (.v (.int .i64 left_)), .r (.v (.int .i64 right_))], [] => (decS [] T1 qc_).bind fun c_ => some (.one (res_u17 (v_u17 k c_ left_ right_), bo_u17 c_ left_ right_ (v_u17 k c_ left_ right_)))
  | _, _ => none)
theorem of_u17 (k : Nat) (c_ : T1.T) (left_ : Int) (right_ : Int) (r : R_u17) (h : f_u17 k c_ left_ right_ = some r) : C_u17 c_ left_ right_ r := by
  refine CC.of (fn := Tryz.f70) (by kernel_rfl) (by kernel_rfl) (by kernel_rfl) (by kernel_rfl) ?_
  unfold f_u17 at h
  exact go (mkK []) [] [] [.autoB [6, 7] true []] (gT h (fun c h => gL h) fun c h => gL h) (by kernel_rfl)
theorem cc_u17 {k : Nat} {c_ : T1.T} {left_ : Int} {right_ : Int} (h : (f_u17 k c_ left_ right_).isSome = true) : C_u17 c_ left_ right_ (v_u17 k c_ left_ right_) := ccG (Φ := C_u17 c_ left_ right_) h (of_u17 k c_ left_ right_)
abbrev R_u15 : Type := List (T5).T × Int
def res_u15 (r : R_u15) : AV := .tup [.r (.ro T5 r.1), .r (.v (.int .i64 r.2))]
def bo_u15 (l_ : List (T2).T) (web_ : T9.T) (spots_ : List (T5).T) (id_ : Int) (r : R_u15) : List (Nat × Blk) := []
def args_u15 (l_ : List (T2).T) (web_ : T9.T) (spots_ : List (T5).T) (id_ : Int) : List AV := [.r (.ro T2 l_), .agg (rvs (enc T9 web_)), .r (.ro T5 spots_), .r (.v (.int .i64 id_))]
def bin_u15 (l_ : List (T2).T) (web_ : T9.T) (spots_ : List (T5).T) (id_ : Int) : List Blk := []
abbrev C_u15 (l_ : List (T2).T) (web_ : T9.T) (spots_ : List (T5).T) (id_ : Int) (r : R_u15) : Prop := CC Tryz.prog 52 (args_u15 l_ web_ spots_ id_) (bin_u15 l_ web_ spots_ id_) (res_u15 r) (bo_u15 l_ web_ spots_ id_ r)
def st_u15_9 (y0 : List (T5).T) (y1 : Int) (y2 : Int) (y3 : T1.T) (y4 : List (T5).T) : St := ⟨mkS 111 [(10, .ptr 1000000 0 0), (13, .own 1000001 0), (37, .r (.ro T5 y0)), (38, .r (.v (.int .i64 y1))), (39, .r (.v (.int .i64 y2)))], [(1000000, 0, .var 50 (rvs (enc T1 y3))), (1000001, 0, .row 116 T5 y4)]⟩
def st_u15_18 (y0 : Int) (y1 : Int) (y2 : List (T5).T) (y3 : Int) (y4 : Int) (y5 : List (T15).T) (y6 : Int) (y7 : Int) (y8 : T1.T) (y9 : List (T5).T) (y10 : T5.T) : St := ⟨mkS 111 [(10, .ptr 1000000 0 0), (13, .own 1000001 0), (15, .ptr 1000002 0 0), (16, .r (.v (.int .i64 y0))), (17, .r (.v (.int .i64 y1))), (37, .r (.ro T5 y2)), (38, .r (.v (.int .i64 y3))), (39, .r (.v (.int .i64 y4))), (84, .r (.ro T15 y5)), (85, .r (.v (.int .i64 y6))), (86, .r (.v (.int .i64 y7)))], [(1000000, 0, .var 50 (rvs (enc T1 y8))), (1000001, 0, .row 116 T5 y9), (1000002, 0, .var 116 (rvs (enc T5 y10)))]⟩
mutual
def f_u15_9 (k : Nat) : Nat → List (T5).T → Int → Int → T1.T → List (T5).T → Option R_u15
  | 0, _, _, _, _, _ => none
  | j + 1, y0, y1, y2, y3, y4 =>
  bif (decide (y2 < y1)) then
  if (0 ≤ y2) ∧ (y2 < (↑y0.length : Int)) then
  bif (decide ((if y3.1 > (y0.getD y2.toNat T5.dflt).1.1 then y3.1 else (y0.getD y2.toNat T5.dflt).1.1) ≥ if IntKind.i64.wrap (y3.1 + y3.2.1) < (y0.getD y2.toNat T5.dflt).1.2.1 then IntKind.i64.wrap (y3.1 + y3.2.1) else (y0.getD y2.toNat T5.dflt).1.2.1)) then
  f_u15_9 k j y0 y1 ((IntKind.i64.wrap (y2 + 1))) y3 y4
  else
  if ((f_u17 k y3 (if y3.1 > (y0.getD y2.toNat T5.dflt).1.1 then y3.1 else (y0.getD y2.toNat T5.dflt).1.1) (if IntKind.i64.wrap (y3.1 + y3.2.1) < (y0.getD y2.toNat T5.dflt).1.2.1 then IntKind.i64.wrap (y3.1 + y3.2.1) else (y0.getD y2.toNat T5.dflt).1.2.1)).isSome = true) then
  if ((f_u21 k y3.2.2.2 (y0.getD y2.toNat T5.dflt).1.2.2).isSome = true) then
  bif ((v_u21 k y3.2.2.2 (y0.getD y2.toNat T5.dflt).1.2.2).2 != (0 : Int)) then
  some (([], (v_u21 k y3.2.2.2 (y0.getD y2.toNat T5.dflt).1.2.2).2))
  else
  f_u15_18 k j ((v_u17 k y3 (if y3.1 > (y0.getD y2.toNat T5.dflt).1.1 then y3.1 else (y0.getD y2.toNat T5.dflt).1.1) (if IntKind.i64.wrap (y3.1 + y3.2.1) < (y0.getD y2.toNat T5.dflt).1.2.1 then IntKind.i64.wrap (y3.1 + y3.2.1) else (y0.getD y2.toNat T5.dflt).1.2.1)).1) ((v_u17 k y3 (if y3.1 > (y0.getD y2.toNat T5.dflt).1.1 then y3.1 else (y0.getD y2.toNat T5.dflt).1.1) (if IntKind.i64.wrap (y3.1 + y3.2.1) < (y0.getD y2.toNat T5.dflt).1.2.1 then IntKind.i64.wrap (y3.1 + y3.2.1) else (y0.getD y2.toNat T5.dflt).1.2.1)).2) y0 y1 y2 ((v_u21 k y3.2.2.2 (y0.getD y2.toNat T5.dflt).1.2.2).1) ((↑ (v_u21 k y3.2.2.2 (y0.getD y2.toNat T5.dflt).1.2.2).1.length : Int)) 0 y3 y4 ((y0.getD y2.toNat T5.dflt))
  else none
  else none
  else none
  else
  bif (decide ((↑y4.length : Int) > (128 : Int))) then
  some (([], 8))
  else
  some ((y4, 0))
def f_u15_18 (k : Nat) : Nat → Int → Int → List (T5).T → Int → Int → List (T15).T → Int → Int → T1.T → List (T5).T → T5.T → Option R_u15
  | 0, _, _, _, _, _, _, _, _, _, _, _ => none
  | j + 1, y0, y1, y2, y3, y4, y5, y6, y7, y8, y9, y10 =>
  bif (decide (y7 < y6)) then
  if (0 ≤ y7) ∧ (y7 < (↑y5.length : Int)) then
  if ((y9.length + [((y0, y1, y5.getD y7.toNat T15.dflt), y10.2)].length) * (48 : Nat) ≤ (140737488355328 : Nat)) then
  f_u15_18 k j y0 y1 y2 y3 y4 y5 y6 ((IntKind.i64.wrap (y7 + 1))) y8 ((y9 ++ [((y0, y1, y5.getD y7.toNat T15.dflt), y10.2)])) y10
  else none
  else none
  else
  f_u15_9 k j y2 y3 ((IntKind.i64.wrap (y4 + 1))) y8 y9
end
def f_u15 (k : Nat) (l_ : List (T2).T) (web_ : T9.T) (spots_ : List (T5).T) (id_ : Int) : Option R_u15 :=
  if ((f_u5 k l_ web_ id_).isSome = true) then
  bif ((v_u5 k l_ web_ id_).2 != (0 : Int)) then
  some (([], (v_u5 k l_ web_ id_).2))
  else
  if ((f_u0 k spots_).isSome = true) then
  bif (v_u0 k spots_ != (0 : Int)) then
  some (([], v_u0 k spots_))
  else
  f_u15_9 k k spots_ ((↑spots_.length : Int)) 0 ((v_u5 k l_ web_ id_).1) ([])
  else none
  else none
def v_u15 (k : Nat) (l_ : List (T2).T) (web_ : T9.T) (spots_ : List (T5).T) (id_ : Int) : R_u15 := (f_u15 k l_ web_ spots_ id_).getD ([], 0)
def ke_u15 (k : Nat) : Ke := (52, fun xs => match xs with
  | [_, _, _, _] => some [false, false, false, false]
  | _ => none, fun xs bs => match xs, bs with
  | [.r (.ro tl__ ql_), .agg qweb_, .r (.ro tspots__ qspots_), .r (.v (.int .i64 id_))], [] => (castL tl__ T2 ql_).bind fun l_ => (decS [] T9 qweb_).bind fun web_ => (castL tspots__ T5 qspots_).bind fun spots_ => some (.one (res_u15 (v_u15 k l_ web_ spots_ id_), bo_u15 l_ web_ spots_ id_ (v_u15 k l_ web_ spots_ id_)))
  | _, _ => none)
def K_u15 (k : Nat) : Calld := mkK [ke_u5 k, ke_u0 k, ke_u17 k, ke_u21 k]
def cs_u15 : List (Nat × List Cmd) := [(9, [.row 13 116 T5, .autoB [10, 13, 37, 38, 39] false []]), (18, [.row 13 116 T5, .autoB [10, 13, 15, 16, 17, 37, 38, 39, 84, 85, 86] false []])]
abbrev E_u15 (l_ : List (T2).T) (web_ : T9.T) (spots_ : List (T5).T) (id_ : Int) (todo : List Item) (st : St) (o : Option R_u15) : Prop := ∀ r, o = some r → Ev Tryz.prog Tryz.f52 0 todo st (res_u15 r) (bo_u15 l_ web_ spots_ id_ r)
theorem ev_u15 (k : Nat) (l_ : List (T2).T) (web_ : T9.T) (spots_ : List (T5).T) (id_ : Int) : ∀ j, (∀ (y0 : List (T5).T) (y1 : Int) (y2 : Int) (y3 : T1.T) (y4 : List (T5).T), E_u15 l_ web_ spots_ id_ (placeAt Tryz.f52 9) (st_u15_9 y0 y1 y2 y3 y4) (f_u15_9 k j y0 y1 y2 y3 y4)) ∧ (∀ (y0 : Int) (y1 : Int) (y2 : List (T5).T) (y3 : Int) (y4 : Int) (y5 : List (T15).T) (y6 : Int) (y7 : Int) (y8 : T1.T) (y9 : List (T5).T) (y10 : T5.T), E_u15 l_ web_ spots_ id_ (placeAt Tryz.f52 18) (st_u15_18 y0 y1 y2 y3 y4 y5 y6 y7 y8 y9 y10) (f_u15_18 k j y0 y1 y2 y3 y4 y5 y6 y7 y8 y9 y10))
  | 0 => ⟨fun _ _ _ _ _ _ h => (nomatch h), fun _ _ _ _ _ _ _ _ _ _ _ _ h => (nomatch h)⟩
  | j + 1 => by
    have ih := @ev_u15 k l_ web_ spots_ id_ j
    refine ⟨?_, ?_⟩
    · intro y0 y1 y2 y3 y4 r h
      rw [f_u15_9] at h
      exact go (K_u15 k) [] cs_u15 [.frz 8 false (RTy.list T5), .autoB [8, 9] true []] (gT h (fun c h => gN2 h fun h => gT h (fun c h => gC h 9 (ih.1 _ _ _ _ _ _)) fun c h => gN1 h (fun q => cc_u17 q) fun h => gN1 h (fun q => cc_u21 q) fun h => gT h (fun c h => gL h) fun c h => gC h 18 (ih.2 _ _ _ _ _ _ _ _ _ _ _ _)) fun c h => gT h (fun c h => gL h) fun c h => gL h) (by kernel_rfl)
    · intro y0 y1 y2 y3 y4 y5 y6 y7 y8 y9 y10 r h
      rw [f_u15_18] at h
      exact go (K_u15 k) [] cs_u15 [.frz 8 false (RTy.list T5), .autoB [8, 9] true []] (gT h (fun c h => gN2 h fun h => gN1 h id fun h => gC h 18 (ih.2 _ _ _ _ _ _ _ _ _ _ _ _)) fun c h => gC h 9 (ih.1 _ _ _ _ _ _)) (by kernel_rfl)
theorem of_u15 (k : Nat) (l_ : List (T2).T) (web_ : T9.T) (spots_ : List (T5).T) (id_ : Int) (r : R_u15) (h : f_u15 k l_ web_ spots_ id_ = some r) : C_u15 l_ web_ spots_ id_ r := by
  refine CC.of (fn := Tryz.f52) (by kernel_rfl) (by kernel_rfl) (by kernel_rfl) (by kernel_rfl) ?_
  unfold f_u15 at h
  exact go (K_u15 k) [] cs_u15 [.frz 8 false (RTy.list T5), .autoB [8, 9] true []] (gN1 h (fun q => cc_u5 q) fun h => gT h (fun c h => gL h) fun c h => gN1 h (fun q => cc_u0 q) fun h => gT h (fun c h => gL h) fun c h => gC h 9 ((ev_u15 k l_ web_ spots_ id_ k).1 _ _ _ _ _ _)) (by kernel_rfl)
theorem cc_u15 {k : Nat} {l_ : List (T2).T} {web_ : T9.T} {spots_ : List (T5).T} {id_ : Int} (h : (f_u15 k l_ web_ spots_ id_).isSome = true) : C_u15 l_ web_ spots_ id_ (v_u15 k l_ web_ spots_ id_) := ccG (Φ := C_u15 l_ web_ spots_ id_) h (of_u15 k l_ web_ spots_ id_)
end
end Go.AM
namespace Go.AM
open Go Go.Proofs
noncomputable section
end
/-! ### defects of rolls -/
def acL (c : Ch) (a b : Int) : Int := if c.2.2.1 = true then c.2.1 - (b - c.1) else a - c.1
def acR (c : Ch) (a b : Int) : Int := if c.2.2.1 = true then c.2.1 - (a - c.1) else b - c.1
def fndl (c : Ch) (x : Spt) : List Spt := if max x.1.1 c.1 ≥ min x.1.2.1 (c.1 + c.2.1) then [] else
  (findS c.2.2.2 x.1.2.2).1.map fun s => ((acL c (max x.1.1 c.1) (min x.1.2.1 (c.1 + c.2.1)), acR c (max x.1.1 c.1) (min x.1.2.1 (c.1 + c.2.1)), s), x.2)
def spGoS (c : Ch) : List Spt → List Spt
  | [] => []
  | x :: t => fndl c x ++ spGoS c t
theorem find_ok0 {m : List Rn} (hc : Chk m) {x : Spt} (hx : SpotOk x) : (findS m x.1.2.2).2 = 0 ∧ (findS m x.1.2.2).1.length ≤ 256 := by
  obtain ⟨⟨a, b, c, d, e, f⟩, _, _, _, _⟩ := hx
  unfold findS
  rw [if_neg (fun h => h (chk_zero.2 hc)), if_neg (by omega)]
  refine ⟨rfl, ?_⟩
  have h1 := nf_len (find_in hc x.1.2.2)
  have h2 := fndS_len m 0 x.1.2.2
  have h3 := hc.len
  show (nf (fndS m 0 x.1.2.2)).length ≤ 256
  omega
theorem Spots_18 (k : Nat) (a b : Int) (sp : List Spt) (len i : Int) (fo : List Sp) (c : Ch) (x : Spt) (hf : fo.length ≤ 256) : ∀ (d q n : Nat) (out : List Spt), q + d = fo.length → out.length ≤ 100000 + q →
    f_u15_18 k (n + d + 1) a b sp len i fo (fo.length : Int) (q : Int) c out x = f_u15_9 k n sp len (IntKind.i64.wrap (i + 1)) c (out ++ (fo.drop q).map fun s => ((a, b, s), x.2)) := by
  intro d
  induction d with
  | zero =>
    intro q n out hq ho
    rw [f_u15_18, decide_eq_false (by omega : ¬ (q : Int) < (fo.length : Int)), cond_false, List.drop_of_length_le (by omega), List.map_nil, List.append_nil]
  | succ d ih =>
    intro q n out hq ho
    rw [show n + (d + 1) + 1 = (n + d + 1) + 1 from rfl, f_u15_18, decide_eq_true (by omega : (q : Int) < (fo.length : Int)), cond_true, if_pos ⟨by omega, by omega⟩, Int.toNat_natCast, if_pos (by rw [List.length_singleton]; omega), wrapS q (by omega), ih (q + 1) n _ (by omega) (by rw [List.length_append, List.length_singleton]; omega), drop_cons' fo q T15.dflt (by omega), List.map_cons, List.append_assoc]
    rfl
set_option maxRecDepth 20000 in
theorem Spots_9 (k : Nat) (hk : 2100 ≤ k) (sp : List Spt) (hs : ∀ x ∈ sp, SpotOk x) (hsl : sp.length ≤ 128) (c : Ch) (c0 : 0 ≤ c.1) (c1 : c.1 + c.2.1 ≤ 12000) (c2 : 0 ≤ c.2.1) (hc : Chk c.2.2.2) : ∀ (d i j : Nat) (out : List Spt), i + d = sp.length → d * 258 < j → out.length ≤ i * 256 →
    f_u15_9 k j sp (sp.length : Int) (i : Int) c out = some (if (out ++ spGoS c (sp.drop i)).length > 128 then ([], 8) else (out ++ spGoS c (sp.drop i), 0)) := by
  intro d
  induction d with
  | zero =>
    intro i j out hi hj ho
    obtain ⟨j, rfl⟩ : ∃ q, j = q + 1 := ⟨j - 1, by omega⟩
    rw [f_u15_9, decide_eq_false (by omega : ¬ (i : Int) < (sp.length : Int)), cond_false, List.drop_of_length_le (by omega), spGoS, List.append_nil]
    by_cases h : out.length > 128
    · rw [decide_eq_true (by omega : (out.length : Int) > 128), if_pos h]; rfl
    · rw [decide_eq_false (by omega : ¬ (out.length : Int) > 128), if_neg h]; rfl
  | succ d ih =>
    intro i j out hi hj ho
    have hx : SpotOk (sp.getD i T5.dflt) := hs _ (getD_mem' _ _ _ (by omega))
    obtain ⟨j, rfl⟩ : ∃ q, j = q + 1 := ⟨j - 1, by omega⟩
    rw [f_u15_9, decide_eq_true (by omega : (i : Int) < (sp.length : Int)), cond_true, if_pos ⟨by omega, by omega⟩, Int.toNat_natCast, drop_cons' sp i T5.dflt (by omega), spGoS]
    generalize sp.getD i T5.dflt = x at *
    obtain ⟨f1, f2⟩ := find_ok0 hc hx
    obtain ⟨⟨x1, x2, x3, x4, x5, x6⟩, _, _, _, _⟩ := _root_.id hx
    rw [wrap_id (i := c.1 + c.2.1) (by omega) (by omega), max_if, min_if2]
    have ha : f_u17 k c (max x.1.1 c.1) (min x.1.2.1 (c.1 + c.2.1)) = some (acL c (max x.1.1 c.1) (min x.1.2.1 (c.1 + c.2.1)), acR c (max x.1.1 c.1) (min x.1.2.1 (c.1 + c.2.1))) := by
      unfold f_u17 acL acR
      rw [wrap_id (i := min x.1.2.1 (c.1 + c.2.1) - c.1) (by omega) (by omega), wrap_id (i := max x.1.1 c.1 - c.1) (by omega) (by omega), wrap_id (by omega) (by omega), wrap_id (by omega) (by omega)]
      cases c.2.2.1 <;> rfl
    unfold fndl
    by_cases h : max x.1.1 c.1 ≥ min x.1.2.1 (c.1 + c.2.1)
    · rw [decide_eq_true h, cond_true, if_pos h, List.nil_append, wrapS i (by omega)]
      exact ih (i + 1) j out (by omega) (by omega) (by omega)
    · obtain ⟨j, rfl⟩ : ∃ q, j = q + (findS c.2.2.2 x.1.2.2).1.length + 1 := ⟨j - (findS c.2.2.2 x.1.2.2).1.length - 1, by omega⟩
      have h18 := Spots_18 k (acL c (max x.1.1 c.1) (min x.1.2.1 (c.1 + c.2.1))) (acR c (max x.1.1 c.1) (min x.1.2.1 (c.1 + c.2.1))) sp (sp.length : Int) (i : Int) (findS c.2.2.2 x.1.2.2).1 c x f2 (findS c.2.2.2 x.1.2.2).1.length 0 j out (by omega) (by omega)
      rw [decide_eq_false h, cond_false, if_neg h]
      unfold v_u17
      rw [ha, iso_Find_s k hk, iso_Find_v k hk, Option.isSome_some, if_pos rfl, Option.isSome_some, if_pos rfl, f1]
      show f_u15_18 k (j + (findS c.2.2.2 x.1.2.2).1.length + 1) _ _ sp _ _ (findS c.2.2.2 x.1.2.2).1 _ 0 c out x = _
      refine h18.trans ?_
      rw [List.drop_zero, wrapS i (by omega), ih (i + 1) j _ (by omega) (by omega) (by rw [List.length_append, List.length_map]; omega), List.append_assoc]
def spotsS (l : List Ro) (W L : Int) (sp : List Spt) (id : Int) : List Spt × Int :=
  if (cutFull l W L id).2 ≠ 0 then ([], (cutFull l W L id).2) else if spotsE sp ≠ 0 then ([], spotsE sp)
  else if (spGoS (cutFull l W L id).1 sp).length > 128 then ([], 8) else (spGoS (cutFull l W L id).1 sp, 0)
theorem inherit_Spots_s (k : Nat) (hk : 300000 ≤ k) (l : List Ro) (web : Int × Int) (sp : List Spt) (id : Int) : f_u15 k l web sp id = some (spotsS l web.1 web.2 sp id) := by
  unfold f_u15 spotsS
  rw [fam_Cut_s k hk, fam_Cut_v k hk, defect_Check_s k (by omega), defect_Check_v k (by omega), Option.isSome_some, if_pos rfl, Option.isSome_some, if_pos rfl]
  by_cases h1 : (cutFull l web.1 web.2 id).2 = 0
  · obtain ⟨reg, ci⟩ := cut_in h1
    have hsz := reg.small 512 id
    generalize (cutFull l web.1 web.2 id) = o at *
    obtain ⟨c1, c2, c3, c4, c5, _⟩ := ci
    have hw := reg.w
    rw [show (o.2 != 0) = false by simp [h1], cond_false, if_neg (fun h : o.2 ≠ 0 => h h1)]
    by_cases h2 : spotsE sp = 0
    · obtain ⟨s1, s2⟩ := spotsE_zero h2
      rw [show (spotsE sp != 0) = false by simp [h2], cond_false, if_neg (fun h : spotsE sp ≠ 0 => h h2)]
      have hwid : 0 ≤ o.1.2.1 := by
        by_cases h : 0 ≤ o.1.2.1
        · exact h
        · exfalso
          rw [c3] at h
          unfold sizeS at h
          by_cases h0 : id = 0
          · rw [if_pos h0] at h; exact h (by show 0 ≤ web.1; omega)
          · rw [if_neg h0] at h
            cases e : look l id with
            | none => rw [e] at h; exact h (Int.le_refl _)
            | some r =>
              rw [e] at h
              have := (reg.wl r (look_some e).1).w0
              exact h (by show 0 ≤ r.2.2.2.1; omega)
      have := Spots_9 k (by omega) sp s2 s1 o.1 c1 (by omega) hwid c4 sp.length 0 k [] (by omega) (by omega) (by simp)
      exact this
    · rw [bne_iff_ne.2 h2, if_pos h2]; rfl
  · rw [bne_iff_ne.2 h1, if_pos h1]; rfl
theorem inherit_Spots_v (k : Nat) (hk : 300000 ≤ k) (l : List Ro) (web : Int × Int) (sp : List Spt) (id : Int) : v_u15 k l web sp id = spotsS l web.1 web.2 sp id := by
  unfold v_u15; rw [inherit_Spots_s k hk]; rfl
end Go.AM
namespace Go.AM
open Go Go.Proofs
noncomputable section
abbrev R_u16 : Type := Int × Int
def res_u16 (r : R_u16) : AV := .tup [.r (.v (.int .i64 r.1)), .r (.v (.int .i64 r.2))]
def bo_u16 (l_ : List (T2).T) (web_ : T9.T) (spots_ : List (T5).T) (id_ : Int) (r : R_u16) : List (Nat × Blk) := []
def args_u16 (l_ : List (T2).T) (web_ : T9.T) (spots_ : List (T5).T) (id_ : Int) : List AV := [.r (.ro T2 l_), .agg (rvs (enc T9 web_)), .r (.ro T5 spots_), .r (.v (.int .i64 id_))]
def bin_u16 (l_ : List (T2).T) (web_ : T9.T) (spots_ : List (T5).T) (id_ : Int) : List Blk := []
abbrev C_u16 (l_ : List (T2).T) (web_ : T9.T) (spots_ : List (T5).T) (id_ : Int) (r : R_u16) : Prop := CC Tryz.prog 23 (args_u16 l_ web_ spots_ id_) (bin_u16 l_ web_ spots_ id_) (res_u16 r) (bo_u16 l_ web_ spots_ id_ r)
def st_u16_6 (y0 : Int) (y1 : List (T5).T) (y2 : Int) (y3 : Int) : St := ⟨mkS 38 [(12, .r (.v (.int .i64 y0))), (26, .r (.ro T5 y1)), (27, .r (.v (.int .i64 y2))), (28, .r (.v (.int .i64 y3)))], []⟩
def f_u16_6 (k : Nat) : Nat → Int → List (T5).T → Int → Int → Option R_u16
  | 0, _, _, _, _ => none
  | j + 1, y0, y1, y2, y3 =>
  bif (decide (y3 < y2)) then
  if (0 ≤ y3) ∧ (y3 < (↑y1.length : Int)) then
  f_u16_6 k j ((if (y1.getD y3.toNat T5.dflt).2.2 > y0 then (y1.getD y3.toNat T5.dflt).2.2 else y0)) y1 y2 ((IntKind.i64.wrap (y3 + 1)))
  else none
  else
  some ((y0, 0))
def f_u16 (k : Nat) (l_ : List (T2).T) (web_ : T9.T) (spots_ : List (T5).T) (id_ : Int) : Option R_u16 :=
  if ((f_u15 k l_ web_ spots_ id_).isSome = true) then
  bif ((v_u15 k l_ web_ spots_ id_).2 != (0 : Int)) then
  some ((0, (v_u15 k l_ web_ spots_ id_).2))
  else
  f_u16_6 k k 0 ((v_u15 k l_ web_ spots_ id_).1) ((↑ (v_u15 k l_ web_ spots_ id_).1.length : Int)) 0
  else none
def v_u16 (k : Nat) (l_ : List (T2).T) (web_ : T9.T) (spots_ : List (T5).T) (id_ : Int) : R_u16 := (f_u16 k l_ web_ spots_ id_).getD (0, 0)
def ke_u16 (k : Nat) : Ke := (23, fun xs => match xs with
  | [_, _, _, _] => some [false, false, false, false]
  | _ => none, fun xs bs => match xs, bs with
  | [.r (.ro tl__ ql_), .agg qweb_, .r (.ro tspots__ qspots_), .r (.v (.int .i64 id_))], [] => (castL tl__ T2 ql_).bind fun l_ => (decS [] T9 qweb_).bind fun web_ => (castL tspots__ T5 qspots_).bind fun spots_ => some (.one (res_u16 (v_u16 k l_ web_ spots_ id_), bo_u16 l_ web_ spots_ id_ (v_u16 k l_ web_ spots_ id_)))
  | _, _ => none)
def cs_u16 : List (Nat × List Cmd) := [(6, [.autoB [12, 26, 27, 28] false []])]
abbrev E_u16 (l_ : List (T2).T) (web_ : T9.T) (spots_ : List (T5).T) (id_ : Int) (todo : List Item) (st : St) (o : Option R_u16) : Prop := ∀ r, o = some r → Ev Tryz.prog Tryz.f23 0 todo st (res_u16 r) (bo_u16 l_ web_ spots_ id_ r)
theorem ev_u16 (k : Nat) (l_ : List (T2).T) (web_ : T9.T) (spots_ : List (T5).T) (id_ : Int) : ∀ j, (∀ (y0 : Int) (y1 : List (T5).T) (y2 : Int) (y3 : Int), E_u16 l_ web_ spots_ id_ (placeAt Tryz.f23 6) (st_u16_6 y0 y1 y2 y3) (f_u16_6 k j y0 y1 y2 y3))
  | 0 => fun _ _ _ _ _ h => (nomatch h)
  | j + 1 => by
    have ih := @ev_u16 k l_ web_ spots_ id_ j
    · intro y0 y1 y2 y3 r h
      rw [f_u16_6] at h
      exact go (mkK [ke_u15 k]) [] cs_u16 [.autoB [8, 9] true []] (gT h (fun c h => gN2 h fun h => gC h 6 (ih _ _ _ _ _)) fun c h => gL h) (by kernel_rfl)
theorem of_u16 (k : Nat) (l_ : List (T2).T) (web_ : T9.T) (spots_ : List (T5).T) (id_ : Int) (r : R_u16) (h : f_u16 k l_ web_ spots_ id_ = some r) : C_u16 l_ web_ spots_ id_ r := by
  refine CC.of (fn := Tryz.f23) (by kernel_rfl) (by kernel_rfl) (by kernel_rfl) (by kernel_rfl) ?_
  unfold f_u16 at h
  exact go (mkK [ke_u15 k]) [] cs_u16 [.autoB [8, 9] true []] (gN1 h (fun q => cc_u15 q) fun h => gT h (fun c h => gL h) fun c h => gC h 6 ((ev_u16 k l_ web_ spots_ id_ k) _ _ _ _ _)) (by kernel_rfl)
theorem cc_u16 {k : Nat} {l_ : List (T2).T} {web_ : T9.T} {spots_ : List (T5).T} {id_ : Int} (h : (f_u16 k l_ web_ spots_ id_).isSome = true) : C_u16 l_ web_ spots_ id_ (v_u16 k l_ web_ spots_ id_) := ccG (Φ := C_u16 l_ web_ spots_ id_) h (of_u16 k l_ web_ spots_ id_)

end
theorem spotsS_len {l : List Ro} {W L id : Int} {sp : List Spt} : (spotsS l W L sp id).1.length ≤ 128 := by
  unfold spotsS
  by_cases h1 : (cutFull l W L id).2 ≠ 0
  · rw [if_pos h1]; exact Nat.zero_le _
  · rw [if_neg h1]
    by_cases h2 : spotsE sp ≠ 0
    · rw [if_pos h2]; exact Nat.zero_le _
    · rw [if_neg h2]
      by_cases h3 : (spGoS (cutFull l W L id).1 sp).length > 128
      · rw [if_pos h3]; exact Nat.zero_le _
      · rw [if_neg h3]; show (spGoS (cutFull l W L id).1 sp).length ≤ 128; omega
def topS : List Spt → Int → Int
  | [], n => n
  | x :: t, n => topS t (if x.2.2 > n then x.2.2 else n)
theorem Worst_6 (k : Nat) (l : List Spt) (hl : l.length ≤ 128) : ∀ (d i j : Nat) (n : Int), i + d = l.length → d < j → f_u16_6 k j n l (l.length : Int) (i : Int) = some (topS (l.drop i) n, 0) := by
  intro d
  induction d with
  | zero =>
    intro i j n hi hj
    obtain ⟨j, rfl⟩ : ∃ q, j = q + 1 := ⟨j - 1, by omega⟩
    rw [f_u16_6, decide_eq_false (by omega : ¬ (i : Int) < (l.length : Int)), cond_false, List.drop_of_length_le (by omega)]; rfl
  | succ d ih =>
    intro i j n hi hj
    obtain ⟨j, rfl⟩ : ∃ q, j = q + 1 := ⟨j - 1, by omega⟩
    rw [f_u16_6, decide_eq_true (by omega : (i : Int) < (l.length : Int)), cond_true, if_pos ⟨by omega, by omega⟩, Int.toNat_natCast, wrapS i (by omega), drop_cons' l i T5.dflt (by omega), topS, ih (i + 1) j _ (by omega) (by omega)]
def worstS (l : List Ro) (W L : Int) (sp : List Spt) (id : Int) : Int × Int := if (spotsS l W L sp id).2 ≠ 0 then (0, (spotsS l W L sp id).2) else (topS (spotsS l W L sp id).1 0, 0)
theorem inherit_Worst_s (k : Nat) (hk : 300000 ≤ k) (l : List Ro) (web : Int × Int) (sp : List Spt) (id : Int) : f_u16 k l web sp id = some (worstS l web.1 web.2 sp id) := by
  have hl := spotsS_len (l := l) (W := web.1) (L := web.2) (id := id) (sp := sp)
  unfold f_u16 worstS
  rw [inherit_Spots_s k hk, inherit_Spots_v k hk, Option.isSome_some, if_pos rfl]
  by_cases h : (spotsS l web.1 web.2 sp id).2 = 0
  · rw [show ((spotsS l web.1 web.2 sp id).2 != 0) = false by simp [h], cond_false, if_neg (fun h' : (spotsS l web.1 web.2 sp id).2 ≠ 0 => h' h)]
    exact Worst_6 k _ hl (spotsS l web.1 web.2 sp id).1.length 0 k 0 (by omega) (by omega)
  · rw [bne_iff_ne.2 h, if_pos h]; rfl
theorem inherit_Worst_v (k : Nat) (hk : 300000 ≤ k) (l : List Ro) (web : Int × Int) (sp : List Spt) (id : Int) : v_u16 k l web sp id = worstS l web.1 web.2 sp id := by
  unfold v_u16; rw [inherit_Worst_s k hk]; rfl
end Go.AM
namespace Go.AM
open Go Go.Proofs
noncomputable section
end
end Go.AM
namespace Go.AM
open Go Go.Proofs
noncomputable section
end
theorem Nr.pos : ∀ {b : Int} {l : List Sp}, Nr b l → ∀ s ∈ l, s.1 < s.2
  | _, [], _, s, hs => by simp at hs
  | b, u :: t, ⟨_, h2, h3⟩, s, hs => by
    rcases List.mem_cons.1 hs with e | h
    · rw [e]; exact h2
    · exact Nr.pos h3 s h
/-! ### maps that take no integer twice, and counts -/
def Inj (m : List Rn) : Prop := ∀ x y : Int, 0 ≤ x → x < lenS m → 0 ≤ y → y < lenS m → imgAt m x = imgAt m y → x = y
theorem imgAt_lt {r : Rn} {t : List Rn} {x : Int} (h : x < r.2.1) : imgAt (r :: t) x = img r x := by unfold imgAt; rw [if_pos h]
theorem imgAt_ge {r : Rn} {t : List Rn} {x : Int} (h : ¬ x < r.2.1) : imgAt (r :: t) x = imgAt t (x - r.2.1) := by rw [imgAt, if_neg h]
theorem img_pos {r : Rn} (g : good r) {z : Int} (h0 : lo r ≤ z) (h1 : z ≤ Go.AM.hi r) : ∃ x, 0 ≤ x ∧ x < r.2.1 ∧ img r x = z := by
  unfold lo at h0; unfold Go.AM.hi at h1; unfold img
  cases e : r.2.2
  · rw [e] at h0 h1
    simp only [Bool.false_eq_true, if_false] at h0 h1 ⊢
    exact ⟨z - r.1, by omega, by omega, by omega⟩
  · rw [e] at h0 h1
    simp only [if_true] at h0 h1 ⊢
    exact ⟨r.1 - z, by omega, by omega, by omega⟩
theorem img_surj : ∀ {m : List Rn} {z : Int}, goods m → (∃ r ∈ m, lo r ≤ z ∧ z ≤ Go.AM.hi r) → ∃ x, 0 ≤ x ∧ x < lenS m ∧ imgAt m x = z
  | [], _, _, ⟨r, hr, _⟩ => by simp at hr
  | r :: t, z, ⟨g1, g2⟩, ⟨y, hy, h0, h1⟩ => by
    have hl := lenS_nonneg g2
    have h1' := g1.1
    rcases List.mem_cons.1 hy with e | hy
    · subst e
      obtain ⟨x, a, b, c⟩ := img_pos g1 h0 h1
      exact ⟨x, a, by rw [lenS]; omega, by rw [imgAt_lt b, c]⟩
    · obtain ⟨x, a, b, c⟩ := img_surj g2 ⟨y, hy, h0, h1⟩
      exact ⟨r.2.1 + x, by omega, by rw [lenS]; omega, by rw [imgAt_ge (by omega), show r.2.1 + x - r.2.1 = x by omega, c]⟩
theorem imT_img {m : List Rn} (hg : goods m) {z : Int} : imT m z = true ↔ ∃ x, 0 ≤ x ∧ x < lenS m ∧ imgAt m x = z := by
  constructor
  · intro h; exact img_surj hg (imT_iff.1 h)
  · rintro ⟨x, h0, h1, e⟩
    obtain ⟨r, hr, a, b⟩ := imgAt_mem hg h0 h1
    subst e; exact imT_of hr a b
theorem dj_inj : ∀ {m : List Rn}, goods m → Dj m → Inj m
  | [], _, _ => fun x y a b _ _ _ => by rw [lenS] at b; omega
  | r :: t, ⟨g1, g2⟩, ⟨d1, d2⟩ => fun x y a b c d e => by
    rw [lenS] at b d
    by_cases hx : x < r.2.1
    · obtain ⟨p1, p2⟩ := img_mem (r := r) a hx
      by_cases hy : y < r.2.1
      · rw [imgAt_lt hx, imgAt_lt hy] at e
        unfold img at e
        cases eb : r.2.2 <;> rw [eb] at e <;> simp only [Bool.false_eq_true, if_false, if_true] at e <;> omega
      · rw [imgAt_lt hx, imgAt_ge hy] at e
        obtain ⟨q, hq, q1, q2⟩ := imgAt_mem (m := t) (x := y - r.2.1) g2 (by omega) (by omega)
        exact (d1 q hq _ p1 p2 (by rw [e]; exact q1) (by rw [e]; exact q2)).elim
    · by_cases hy : y < r.2.1
      · obtain ⟨p1, p2⟩ := img_mem (r := r) c hy
        rw [imgAt_ge hx, imgAt_lt hy] at e
        obtain ⟨q, hq, q1, q2⟩ := imgAt_mem (m := t) (x := x - r.2.1) g2 (by omega) (by omega)
        exact (d1 q hq _ p1 p2 (by rw [← e]; exact q1) (by rw [← e]; exact q2)).elim
      · rw [imgAt_ge hx, imgAt_ge hy] at e
        have := dj_inj g2 d2 (x - r.2.1) (y - r.2.1) (by omega) (by omega) (by omega) (by omega) e
        omega
/-! ### what lies in a span -/
theorem fnd1_has (r : Rn) (g : good r) (a : Int) (s : Sp) (x : Int) : has (fnd1 r a s) x ↔ a ≤ x ∧ x < a + r.2.1 ∧ s.1 ≤ img r (x - a) ∧ img r (x - a) < s.2 := by
  obtain ⟨l1, l2, l3, l4⟩ := g.lohi
  have e : r.2.2 = true ∧ lo r = r.1 - r.2.1 + 1 ∧ Go.AM.hi r = r.1 ∧ img r (x - a) = r.1 - (x - a) ∨ r.2.2 = false ∧ lo r = r.1 ∧ Go.AM.hi r = r.1 + r.2.1 - 1 ∧ img r (x - a) = r.1 + (x - a) := by
    unfold lo Go.AM.hi img
    cases r.2.2
    · exact .inr ⟨rfl, rfl, rfl, rfl⟩
    · exact .inl ⟨rfl, rfl, rfl, rfl⟩
  unfold fnd1
  generalize lo r = p at *
  generalize Go.AM.hi r = q at *
  generalize img r (x - a) = z at *
  by_cases h : max p s.1 < min (q + 1) s.2
  · rw [if_pos h]
    simp only [has, or_false]
    rcases e with ⟨e, e1, e2, e3⟩ | ⟨e, e1, e2, e3⟩ <;> simp only [e, if_true, if_false, Bool.false_eq_true] <;> omega
  · rw [if_neg h]
    simp only [has, false_iff]
    rcases e with ⟨e, e1, e2, e3⟩ | ⟨e, e1, e2, e3⟩ <;> omega
theorem fndS_has : ∀ (m : List Rn) (a : Int) (s : Sp) (x : Int), goods m → (has (fndS m a s) x ↔ a ≤ x ∧ x < a + lenS m ∧ s.1 ≤ imgAt m (x - a) ∧ imgAt m (x - a) < s.2)
  | [], a, s, x, _ => by
    simp only [fndS, has, lenS, false_iff]; omega
  | r :: t, a, s, x, ⟨g1, g2⟩ => by
    have h1 := g1.1
    have hl := lenS_nonneg g2
    rw [fndS_cons, has_append, fnd1_has r g1, fndS_has t (a + r.2.1) s x g2, lenS]
    by_cases hx : x - a < r.2.1
    · rw [imgAt_lt hx]; omega
    · rw [imgAt_ge hx, show x - (a + r.2.1) = x - a - r.2.1 by omega]; omega
theorem hasT_nf {l : List Sp} (h : In 0 17179869184 l) (x : Int) : hasT (nf l) x = hasT l x := by
  rw [Bool.eq_iff_iff, hasT_iff, hasT_iff, nf_has h]
theorem web_inj {l : List Ro} {W L : Int} (reg : Reg l W L) : ∀ (n : Nat) (p q : Pt), Anc l n p.1 → p.1 = q.1 → On l W L p → On l W L q → webS l n p = webS l n q → p = q := by
  intro n
  induction n with
  | zero =>
    intro p q ha e op oq h
    by_cases h0 : p.1 = 0
    · rw [webS_root h0, webS_root (e ▸ h0)] at h; exact h
    · obtain ⟨_, _, e, _⟩ := ha.cases h0
      cases e
  | succ n ih =>
    intro p q ha e op oq h
    by_cases h0 : p.1 = 0
    · rw [webS_root h0, webS_root (e ▸ h0)] at h; exact h
    · obtain ⟨k, r, ek, el, a⟩ := ha.cases h0
      cases ek
      have h0q : q.1 ≠ 0 := e ▸ h0
      have elq : look l q.1 = some r := e ▸ el
      have ro := reg.ok.ro r (look_some el).1
      rw [webS_step h0 el, webS_step h0q elq] at h
      have hp := ih (placeS r p) (placeS r q) a rfl (op.place h0 el ro) (oq.place h0q elq ro) h
      have hs : sizeS l W L p.1 = (r.2.2.2.1, lenS r.2.2.2.2.2) := by unfold sizeS; rw [if_neg h0, el]
      have hsq : sizeS l W L q.1 = (r.2.2.2.1, lenS r.2.2.2.2.2) := by unfold sizeS; rw [if_neg h0q, elq]
      obtain ⟨a0, a1, b0, b1⟩ := op
      obtain ⟨c0, c1, d0, d1⟩ := oq
      rw [hs] at b1; rw [hsq] at d1
      have e2 := congrArg (fun z : Pt => z.2.1) hp
      have e3 := congrArg (fun z : Pt => z.2.2) hp
      have inj := dj_inj ro.cut.chk.goods (dj_of _ ro.cut.chk.goods (single_cnt ro.cut.single).2)
      have e3 : p.2.2 = q.2.2 := inj p.2.2 q.2.2 b0 b1 d0 d1 e3
      have e2 : p.2.1 = q.2.1 := by
        change (if r.2.2.2.2.1 = true then r.2.2.1 + r.2.2.2.1 - 1 - p.2.1 else r.2.2.1 + p.2.1) = (if r.2.2.2.2.1 = true then r.2.2.1 + r.2.2.2.1 - 1 - q.2.1 else r.2.2.1 + q.2.1) at e2
        split at e2 <;> omega
      exact Prod.ext e (Prod.ext e2 e3)
theorem cut_err {l : List Ro} {W L id : Int} (h : (cutFull l W L id).2 = 0) : Kno l W L id := by
  refine errS_zero.1 ?_
  unfold cutFull at h
  by_cases h2 : errS l W L id = 0
  · exact h2
  · rw [if_pos h2] at h; exact absurd h h2
theorem size_ge {l : List Ro} {W L id : Int} (reg : Reg l W L) (kn : id = 0 ∨ ∃ q, look l id = some q) : 1 ≤ (sizeS l W L id).1 := by
  have hw := reg.w
  unfold sizeS
  rcases kn with h | ⟨r, e⟩
  · rw [if_pos h]; show 1 ≤ W; omega
  · by_cases h0 : id = 0
    · rw [if_pos h0]; show 1 ≤ W; omega
    · rw [if_neg h0, e]
      have := (reg.wl r (look_some e).1).w0
      show 1 ≤ r.2.2.2.1; omega
/-- the map of a roll takes no integer twice -/
theorem cut_inj {l : List Ro} {W L id : Int} (h : (cutFull l W L id).2 = 0) : Inj (cutFull l W L id).1.2.2.2 := by
  obtain ⟨reg, ci⟩ := cut_in h
  have kn := (cut_err h).kn
  have hw := size_ge reg kn
  intro x y x0 x1 y0 y1 e
  rw [ci.len] at x1 y1
  have o1 : On l W L (id, 0, x) := ⟨Int.le_refl 0, by show 0 < (sizeS l W L id).1; omega, x0, x1⟩
  have o2 : On l W L (id, 0, y) := ⟨Int.le_refl 0, by show 0 < (sizeS l W L id).1; omega, y0, y1⟩
  have := web_inj reg 512 (id, 0, x) (id, 0, y) (reg.anc kn) rfl o1 o2 (by rw [ci.web _ rfl o1, ci.web _ rfl o2, e])
  exact congrArg (fun z : Pt => z.2.2) this

end Go.AM
namespace Go.AM
open Go Go.Proofs
noncomputable section
abbrev R_u88 : Type := T8.T × Int
def res_u88 (r : R_u88) : AV := .tup [.agg (rvs (enc T8 r.1)), .r (.v (.int .i64 r.2))]
def bo_u88 (r_ : T10.T) (id_ : Int) (r : R_u88) : List (Nat × Blk) := []
def args_u88 (r_ : T10.T) (id_ : Int) : List AV := [.agg (rvs (enc T10 r_)), .r (.v (.int .i64 id_))]
def bin_u88 (r_ : T10.T) (id_ : Int) : List Blk := []
abbrev C_u88 (r_ : T10.T) (id_ : Int) (r : R_u88) : Prop := CC Tryz.prog 7 (args_u88 r_ id_) (bin_u88 r_ id_) (res_u88 r) (bo_u88 r_ id_ r)
def f_u88 (k : Nat) (r_ : T10.T) (id_ : Int) : Option R_u88 :=
  if ((f_u5 k r_.1 r_.2.1 id_).isSome = true) then
  bif ((v_u5 k r_.1 r_.2.1 id_).2 != (0 : Int)) then
  some (((0, (false, (0, (0, (0, 0))))), (v_u5 k r_.1 r_.2.1 id_).2))
  else
  bif (id_ == (0 : Int)) then
  some (((0, (false, (0, (0, (0, 0))))), 7))
  else
  if ((f_u85 k r_.2.2.1).isSome = true) then
  bif (v_u85 k r_.2.2.1 != (0 : Int)) then
  some (((0, (false, (0, (0, (0, 0))))), v_u85 k r_.2.2.1))
  else
  if ((f_u91 k r_).isSome = true) then
  bif (!v_u91 k r_) then
  some (((0, (false, (0, (0, (0, 0))))), 21))
  else
  if ((f_u22 k (v_u5 k r_.1 r_.2.1 id_).1.2.2.2).isSome = true) then
  bif ((v_u22 k (v_u5 k r_.1 r_.2.1 id_).1.2.2.2).2 != (0 : Int)) then
  some (((0, (false, (0, (0, (0, 0))))), (v_u22 k (v_u5 k r_.1 r_.2.1 id_).1.2.2.2).2))
  else
  if ((f_u92 k r_ (v_u22 k (v_u5 k r_.1 r_.2.1 id_).1.2.2.2).1).isSome = true) then
  bif (decide ((v_u92 k r_ (v_u22 k (v_u5 k r_.1 r_.2.1 id_).1.2.2.2).1).1 < (0 : Int)) || decide ((v_u92 k r_ (v_u22 k (v_u5 k r_.1 r_.2.1 id_).1.2.2.2).1).1 ≥ (↑ (List.length r_.2.2.2.2.1) : Int))) then
  some (((0, (false, (0, (0, (0, 0))))), 22))
  else
  if ((f_u23 k (v_u5 k r_.1 r_.2.1 id_).1.2.2.2).isSome = true) then
  if ((0 : Int) ≤ (v_u92 k r_ (v_u22 k (v_u5 k r_.1 r_.2.1 id_).1.2.2.2).1).1) ∧ ((v_u92 k r_ (v_u22 k (v_u5 k r_.1 r_.2.1 id_).1.2.2.2).1).1 < (↑ (List.length r_.2.2.2.2.1) : Int)) ∧ ((f_u1 k r_.2.2.2.2.2 (v_u23 k (v_u5 k r_.1 r_.2.1 id_).1.2.2.2).1 (List.getD r_.2.2.2.2.1 (v_u92 k r_ (v_u22 k (v_u5 k r_.1 r_.2.1 id_).1.2.2.2).1).1.toNat T6.dflt).2.2.2.2.2.1).isSome = true) then
  bif ((v_u1 k r_.2.2.2.2.2 (v_u23 k (v_u5 k r_.1 r_.2.1 id_).1.2.2.2).1 (List.getD r_.2.2.2.2.1 (v_u92 k r_ (v_u22 k (v_u5 k r_.1 r_.2.1 id_).1.2.2.2).1).1.toNat T6.dflt).2.2.2.2.2.1).2 != (0 : Int)) then
  some (((0, (false, (0, (0, (0, 0))))), (v_u1 k r_.2.2.2.2.2 (v_u23 k (v_u5 k r_.1 r_.2.1 id_).1.2.2.2).1 (List.getD r_.2.2.2.2.1 (v_u92 k r_ (v_u22 k (v_u5 k r_.1 r_.2.1 id_).1.2.2.2).1).1.toNat T6.dflt).2.2.2.2.2.1).2))
  else
  if ((f_u16 k r_.1 r_.2.1 r_.2.2.2.1 id_).isSome = true) then
  bif ((v_u16 k r_.1 r_.2.1 r_.2.2.2.1 id_).2 != (0 : Int)) then
  some (((0, (false, (0, (0, (0, 0))))), (v_u16 k r_.1 r_.2.1 r_.2.2.2.1 id_).2))
  else
  some ((((v_u92 k r_ (v_u22 k (v_u5 k r_.1 r_.2.1 id_).1.2.2.2).1).1, ((v_u92 k r_ (v_u22 k (v_u5 k r_.1 r_.2.1 id_).1.2.2.2).1).2, ((v_u5 k r_.1 r_.2.1 id_).1.2.1, ((v_u1 k r_.2.2.2.2.2 (v_u23 k (v_u5 k r_.1 r_.2.1 id_).1.2.2.2).1 (List.getD r_.2.2.2.2.1 (v_u92 k r_ (v_u22 k (v_u5 k r_.1 r_.2.1 id_).1.2.2.2).1).1.toNat T6.dflt).2.2.2.2.2.1).1, (IntKind.i64.wrap ((↑ (List.length (v_u5 k r_.1 r_.2.1 id_).1.2.2.2) : Int) - 1), (v_u16 k r_.1 r_.2.1 r_.2.2.2.1 id_).1))))), 0))
  else none
  else none
  else none
  else none
  else none
  else none
  else none
  else none
def v_u88 (k : Nat) (r_ : T10.T) (id_ : Int) : R_u88 := (f_u88 k r_ id_).getD ((T8).dflt, 0)
def ke_u88 (k : Nat) : Ke := (7, fun xs => match xs with
  | [_, _] => some [false, false]
  | _ => none, fun xs bs => match xs, bs with
  | [.agg qr_, .r (.v (.int .i64 id_))], [] => (decS [] T10 qr_).bind fun r_ => some (.one (res_u88 (v_u88 k r_ id_), bo_u88 r_ id_ (v_u88 k r_ id_)))
  | _, _ => none)
theorem of_u88 (k : Nat) (r_ : T10.T) (id_ : Int) (r : R_u88) (h : f_u88 k r_ id_ = some r) : C_u88 r_ id_ r := by
  refine CC.of (fn := Tryz.f7) (by kernel_rfl) (by kernel_rfl) (by kernel_rfl) (by kernel_rfl) ?_
  unfold f_u88 at h
  exact go (mkK [ke_u23 k, ke_u22 k, ke_u5 k, ke_u85 k, ke_u91 k, ke_u92 k, ke_u1 k, ke_u16 k]) [] [] [.autoB [4, 5] true []] (gN1 h (fun q => cc_u5 q) fun h => gT h (fun c h => gL h) fun c h => gT h (fun c h => gL h) fun c h => gN1 h (fun q => cc_u85 q) fun h => gT h (fun c h => gL h) fun c h => gN1 h (fun q => cc_u91 q) fun h => gT h (fun c h => gL h) fun c h => gN1 h (fun q => cc_u22 q) fun h => gT h (fun c h => gL h) fun c h => gN1 h (fun q => cc_u92 q) fun h => gT h (fun c h => gL h) fun c h => gN1 h (fun q => cc_u23 q) fun h => gN h (fun q => conjC q.1 (conjC q.2.1 (conjC (cc_u1 q.2.2) conj0))) fun h => gT h (fun c h => gL h) fun c h => gN1 h (fun q => cc_u16 q) fun h => gT h (fun c h => gL h) fun c h => gL h) (by kernel_rfl)
theorem cc_u88 {k : Nat} {r_ : T10.T} {id_ : Int} (h : (f_u88 k r_ id_).isSome = true) : C_u88 r_ id_ (v_u88 k r_ id_) := ccG (Φ := C_u88 r_ id_) h (of_u88 k r_ id_)
end
theorem web_on {l : List Ro} {W L : Int} (reg : Reg l W L) : ∀ (n : Nat) (p : Pt), Anc l n p.1 → On l W L p → On l W L (webS l n p) ∧ (webS l n p).1 = 0 := by
  intro n
  induction n with
  | zero =>
    intro p ha op
    by_cases h0 : p.1 = 0
    · rw [webS_root h0]; exact ⟨op, h0⟩
    · obtain ⟨_, _, e, _⟩ := ha.cases h0
      cases e
  | succ n ih =>
    intro p ha op
    by_cases h0 : p.1 = 0
    · rw [webS_root h0]; exact ⟨op, h0⟩
    · obtain ⟨k, r, ek, el, a⟩ := ha.cases h0
      cases ek
      have ro := reg.ok.ro r (look_some el).1
      rw [webS_step h0 el]
      exact ih (placeS r p) a (op.place h0 el ro)
/-- the images of a roll's map lie on the web -/
theorem cut_range {l : List Ro} {W L id : Int} (h : (cutFull l W L id).2 = 0) {x : Int} (x0 : 0 ≤ x) (x1 : x < lenS (cutFull l W L id).1.2.2.2) : 0 ≤ imgAt (cutFull l W L id).1.2.2.2 x ∧ imgAt (cutFull l W L id).1.2.2.2 x < L := by
  obtain ⟨reg, ci⟩ := cut_in h
  have kn := (cut_err h).kn
  have hw := size_ge reg kn
  rw [ci.len] at x1
  have on : On l W L (id, 0, x) := ⟨Int.le_refl 0, by show 0 < (sizeS l W L id).1; omega, x0, x1⟩
  obtain ⟨o2, _⟩ := web_on reg 512 (id, 0, x) (reg.anc kn) on
  rw [ci.web _ rfl on] at o2
  have b0 := o2.b0
  have b1 := o2.b1
  have hs : sizeS l W L 0 = (W, L) := by unfold sizeS; rw [if_pos rfl]
  rw [hs] at b1
  exact ⟨b0, b1⟩
theorem cut_spans {l : List Ro} {W L id : Int} (h : (cutFull l W L id).2 = 0) : (nf ((cutFull l W L id).1.2.2.2.map spn)).length ≤ 256 ∧ ∀ s ∈ nf ((cutFull l W L id).1.2.2.2.map spn), 0 ≤ s.1 ∧ s.1 < s.2 ∧ s.2 ≤ 17179869184 ∧ s.2 ≤ L := by
  obtain ⟨reg, ci⟩ := cut_in h
  have hi := spn_in ci.chk.goods
  have hn := nf_nr hi
  refine ⟨?_, fun s hs => ?_⟩
  · have h1 := nf_len hi
    rw [List.length_map] at h1
    have := ci.chk.len
    omega
  · have h1 := (nf_in hi).mem s hs
    have h2 := hn.pos s hs
    have h3 : imT (cutFull l W L id).1.2.2.2 (s.2 - 1) = true := by
      show hasT _ _ = true
      rw [← hasT_nf hi, hasT_iff, has_iff]
      exact ⟨s, hs, by omega, by omega⟩
    obtain ⟨x, x0, x1, e⟩ := (imT_img ci.chk.goods).1 h3
    have := cut_range h x0 x1
    exact ⟨h1.1, h2, h1.2.2, by omega⟩

/-! ### the facts about a roll -/
abbrev Fac := Int × Bool × Int × Int × Int × Int
abbrev Grd := T6.T
def errF (e : Int) : Fac × Int := ((0, false, 0, 0, 0, 0), e)
def calS (gr : List Grd) (g : Int) : Int := (gr.getD g.toNat T6.dflt).2.2.2.2.2.1
def finS (R : List Ro) (W L : Int) (sp : List Spt) (gr : List Grd) (core id : Int) (c : Ch) (g : Int) (a : Bool) : Fac × Int :=
  if g < 0 ∨ g ≥ gr.length then errF 22
  else if (diaS core (lenS c.2.2.2) (calS gr g)).2 ≠ 0 then errF (diaS core (lenS c.2.2.2) (calS gr g)).2
  else if (worstS R W L sp id).2 ≠ 0 then errF (worstS R W L sp id).2
  else ((g, a, c.2.1, (diaS core (lenS c.2.2.2) (calS gr g)).1, IntKind.i64.wrap ((c.2.2.2.length : Int) - 1), (worstS R W L sp id).1), 0)
def gpS (secs : List Sec) (c : Ch) : Int × Bool := papF (-1) true true (flatP secs (nf (c.2.2.2.map spn)))
def gatherS (R : List Ro) (W L : Int) (secs : List Sec) (sp : List Spt) (gr : List Grd) (core id : Int) : Fac × Int :=
  if (cutFull R W L id).2 ≠ 0 then errF (cutFull R W L id).2
  else if id = 0 then errF 7
  else if secE secs ≠ 0 then errF (secE secs)
  else if endS secs ≠ L then errF 21
  else finS R W L sp gr core id (cutFull R W L id).1 (gpS secs (cutFull R W L id).1).1 (gpS secs (cutFull R W L id).1).2
theorem image_ok {m : List Rn} (hc : Chk m) : imageS m = (nf (m.map spn), 0) := by
  unfold imageS
  rw [if_neg (fun h : chk m ≠ 0 => h (chk_zero.2 hc))]
theorem release_Gather_s (k : Nat) (hk : 301000 ≤ k) (r : T10.T) (id : Int) : f_u88 k r id = some (gatherS r.1 r.2.1.1 r.2.1.2 r.2.2.1 r.2.2.2.1 r.2.2.2.2.1 r.2.2.2.2.2 id) := by
  unfold f_u88 gatherS
  rw [fam_Cut_s k (by omega), fam_Cut_v k (by omega), Option.isSome_some, if_pos rfl]
  by_cases h1 : (cutFull r.1 r.2.1.1 r.2.1.2 id).2 = 0
  · obtain ⟨reg, ci⟩ := cut_in h1
    obtain ⟨cl, cs⟩ := cut_spans h1
    rw [show ((cutFull r.1 r.2.1.1 r.2.1.2 id).2 != 0) = false by rw [h1]; rfl, cond_false, if_neg (fun h : (cutFull r.1 r.2.1.1 r.2.1.2 id).2 ≠ 0 => h h1)]
    by_cases h2 : id = 0
    · rw [if_pos h2, show (id == 0) = true from beq_iff_eq.2 h2]; rfl
    · rw [if_neg h2, show (id == 0) = false from beq_eq_false_iff_ne.2 h2, cond_false, reel_Check_s k (by omega), reel_Check_v k (by omega), Option.isSome_some, if_pos rfl]
      by_cases h3 : secE r.2.2.1 = 0
      · have hl := (secE_zero h3).1
        rw [show (secE r.2.2.1 != 0) = false by rw [h3]; rfl, cond_false, if_neg (fun h : secE r.2.2.1 ≠ 0 => h h3), ends_s k r hl, ends_v k r hl, Option.isSome_some, if_pos rfl]
        by_cases h4 : endS r.2.2.1 = r.2.1.2
        · have hs : ∀ s ∈ nf ((cutFull r.1 r.2.1.1 r.2.1.2 id).1.2.2.2.map spn), 0 ≤ s.1 ∧ s.1 < s.2 ∧ s.2 ≤ 17179869184 ∧ s.2 ≤ endS r.2.2.1 := fun s hs => by
            obtain ⟨a, b, c, d⟩ := cs s hs
            exact ⟨a, b, c, by omega⟩
          rw [show (endS r.2.2.1 == r.2.1.2) = true from beq_iff_eq.2 h4, Bool.not_true, cond_false, if_neg (fun h : endS r.2.2.1 ≠ r.2.1.2 => h h4), iso_Image_s k (by omega), iso_Image_v k (by omega), image_ok ci.chk, Option.isSome_some, if_pos rfl, bne_self_eq_false, cond_false]
          dsimp only
          rw [paper_s k (by omega) r h3 _ cl hs, paper_v k (by omega) r h3 _ cl hs, Option.isSome_some, if_pos rfl]
          show _ = some (finS _ _ _ _ _ _ _ _ (gpS r.2.2.1 (cutFull r.1 r.2.1.1 r.2.1.2 id).1).1 (gpS r.2.2.1 (cutFull r.1 r.2.1.1 r.2.1.2 id).1).2)
          rw [show papF (-1) true true (flatP r.2.2.1 (nf ((cutFull r.1 r.2.1.1 r.2.1.2 id).1.2.2.2.map spn))) = gpS r.2.2.1 (cutFull r.1 r.2.1.1 r.2.1.2 id).1 from rfl]
          generalize gpS r.2.2.1 (cutFull r.1 r.2.1.1 r.2.1.2 id).1 = gp
          unfold finS
          by_cases h5 : gp.1 < 0 ∨ gp.1 ≥ (List.length r.2.2.2.2.1 : Int)
          · rw [if_pos h5, show (decide (gp.1 < 0) || decide (gp.1 ≥ (List.length r.2.2.2.2.1 : Int))) = true by rw [Bool.or_eq_true, decide_eq_true_iff, decide_eq_true_iff]; exact h5]; rfl
          · rw [if_neg h5, decide_eq_false (fun h => h5 (.inl h)), decide_eq_false (fun h => h5 (.inr h)), Bool.or_self, cond_false, iso_Length_s k (by omega) _ ci.chk, iso_Length_v k (by omega) _ ci.chk, dia_Dia_s k (by omega), dia_Dia_v k (by omega), Option.isSome_some, if_pos rfl, if_pos ⟨by omega, by omega, rfl⟩, inherit_Worst_s k (by omega), inherit_Worst_v k (by omega), Option.isSome_some, if_pos rfl]
            dsimp only
            rw [show (List.getD r.2.2.2.2.1 gp.1.toNat T6.dflt).2.2.2.2.2.1 = calS r.2.2.2.2.1 gp.1 from rfl]
            by_cases h6 : (diaS r.2.2.2.2.2 (lenS (cutFull r.1 r.2.1.1 r.2.1.2 id).1.2.2.2) (calS r.2.2.2.2.1 gp.1)).2 = 0
            · rw [if_neg (fun h => h h6), show ((diaS r.2.2.2.2.2 (lenS (cutFull r.1 r.2.1.1 r.2.1.2 id).1.2.2.2) (calS r.2.2.2.2.1 gp.1)).2 != 0) = false by rw [h6]; rfl, cond_false]
              by_cases h7 : (worstS r.1 r.2.1.1 r.2.1.2 r.2.2.2.1 id).2 = 0
              · rw [if_neg (fun h => h h7), show ((worstS r.1 r.2.1.1 r.2.1.2 r.2.2.2.1 id).2 != 0) = false by rw [h7]; rfl, cond_false]
              · rw [if_pos h7, bne_iff_ne.2 h7]; rfl
            · rw [if_pos h6, bne_iff_ne.2 h6]; rfl
        · rw [show (endS r.2.2.1 == r.2.1.2) = false from beq_eq_false_iff_ne.2 h4, if_pos h4]; rfl
      · rw [if_pos h3, bne_iff_ne.2 h3]; rfl
  · rw [if_pos h1, bne_iff_ne.2 h1]; rfl
theorem release_Gather_v (k : Nat) (hk : 301000 ≤ k) (r : T10.T) (id : Int) : v_u88 k r id = gatherS r.1 r.2.1.1 r.2.1.2 r.2.2.1 r.2.2.2.1 r.2.2.2.2.1 r.2.2.2.2.2 id := by
  unfold v_u88; rw [release_Gather_s k hk]; rfl
end Go.AM
namespace Go.AM
open Go Go.Proofs
noncomputable section
abbrev R_u38 : Type := Bool
def res_u38 (r : R_u38) : AV := .r (.v (.bool r))
def bo_u38 (x_ : T7.T) (r : R_u38) : List (Nat × Blk) := []
def args_u38 (x_ : T7.T) : List AV := [.agg (rvs (enc T7 x_))]
def bin_u38 (x_ : T7.T) : List Blk := []
abbrev C_u38 (x_ : T7.T) (r : R_u38) : Prop := CC Tryz.prog 5 (args_u38 x_) (bin_u38 x_) (res_u38 r) (bo_u38 x_ r)
def st_u38_4 (y0 : List (T2).T) (y1 : Int) (y2 : Int) : St := ⟨mkS 28 [(16, .r (.ro T2 y0)), (17, .r (.v (.int .i64 y1))), (18, .r (.v (.int .i64 y2)))], []⟩
def f_u38_4 (k : Nat) : Nat → List (T2).T → Int → Int → Option R_u38
  | 0, _, _, _ => none
  | j + 1, y0, y1, y2 =>
  bif (decide (y2 < y1)) then
  if (0 ≤ y2) ∧ (y2 < (↑y0.length : Int)) then
  bif (decide ((↑ (List.length (y0.getD y2.toNat T2.dflt).2.2.2.2.2) : Int) > (20 : Int))) then
  some true
  else
  f_u38_4 k j y0 y1 ((IntKind.i64.wrap (y2 + 1)))
  else none
  else
  some false
def f_u38 (k : Nat) (x_ : T7.T) : Option R_u38 :=
  bif (decide ((↑ (List.length x_.1) : Int) > (30 : Int)) || decide ((↑ (List.length x_.2.2.2.2.1) : Int) > (30 : Int))) then
  some true
  else
  f_u38_4 k k x_.1 ((↑ (List.length x_.1) : Int)) 0
def v_u38 (k : Nat) (x_ : T7.T) : R_u38 := (f_u38 k x_).getD false
def ke_u38 (k : Nat) : Ke := (5, fun xs => match xs with
  | [_] => some [false]
  | _ => none, fun xs bs => match xs, bs with
  | [.agg qx_], [] => (decS [] T7 qx_).bind fun x_ => some (.one (res_u38 (v_u38 k x_), bo_u38 x_ (v_u38 k x_)))
  | _, _ => none)
def cs_u38 : List (Nat × List Cmd) := [(4, [.autoB [16, 17, 18] false []])]
abbrev E_u38 (x_ : T7.T) (todo : List Item) (st : St) (o : Option R_u38) : Prop := ∀ r, o = some r → Ev Tryz.prog Tryz.f5 0 todo st (res_u38 r) (bo_u38 x_ r)
theorem ev_u38 (k : Nat) (x_ : T7.T) : ∀ j, (∀ (y0 : List (T2).T) (y1 : Int) (y2 : Int), E_u38 x_ (placeAt Tryz.f5 4) (st_u38_4 y0 y1 y2) (f_u38_4 k j y0 y1 y2))
  | 0 => fun _ _ _ _ h => (nomatch h)
  | j + 1 => by
    have ih := @ev_u38 k x_ j
    · intro y0 y1 y2 r h
      rw [f_u38_4] at h
      exact go (mkK []) [] cs_u38 [.autoB [2] true []] (gT h (fun c h => gN2 h fun h => gT h (fun c h => gL h) fun c h => gC h 4 (ih _ _ _ _)) fun c h => gL h) (by kernel_rfl)
theorem of_u38 (k : Nat) (x_ : T7.T) (r : R_u38) (h : f_u38 k x_ = some r) : C_u38 x_ r := by
  refine CC.of (fn := Tryz.f5) (by kernel_rfl) (by kernel_rfl) (by kernel_rfl) (by kernel_rfl) ?_
  unfold f_u38 at h
  exact go (mkK []) [] cs_u38 [.autoB [2] true []] (gT h (fun c h => gL h) fun c h => gC h 4 ((ev_u38 k x_ k) _ _ _ _)) (by kernel_rfl)
theorem cc_u38 {k : Nat} {x_ : T7.T} (h : (f_u38 k x_).isSome = true) : C_u38 x_ (v_u38 k x_) := ccG (Φ := C_u38 x_) h (of_u38 k x_)
abbrev R_u34 : Type := Int
def res_u34 (r : R_u34) : AV := .r (.v (.int .i64 r))
def bo_u34 (o_ : T13.T) (r : R_u34) : List (Nat × Blk) := []
def args_u34 (o_ : T13.T) : List AV := [.agg (rvs (enc T13 o_))]
def bin_u34 (o_ : T13.T) : List Blk := []
abbrev C_u34 (o_ : T13.T) (r : R_u34) : Prop := CC Tryz.prog 33 (args_u34 o_) (bin_u34 o_) (res_u34 r) (bo_u34 o_ r)
def f_u34 (k : Nat) (o_ : T13.T) : Option R_u34 :=
  bif (decide (o_.1 < (1 : Int)) || decide (o_.1 > (1000000 : Int))) then
  some 1
  else
  bif (decide (o_.2.1 < (0 : Int)) || decide (o_.2.1 ≥ (16 : Int))) then
  some 22
  else
  bif (decide (o_.2.2.1 < (1 : Int)) || decide (o_.2.2.1 > (12000 : Int))) then
  some 20
  else
  bif (decide (o_.2.2.2.1 < (1 : Int)) || decide (o_.2.2.2.1 ≥ (2500 : Int)) || decide (o_.2.2.2.2.1 ≤ o_.2.2.2.1) || decide (o_.2.2.2.2.1 > (2500 : Int))) then
  some 1
  else
  bif (decide (o_.2.2.2.2.2.1 < (0 : Int)) || decide (o_.2.2.2.2.2.1 > IntKind.i64.wrap (o_.2.2.2.2.1 - o_.2.2.2.1)) || decide (o_.2.2.2.2.2.2.1 < (1 : Int)) || decide (o_.2.2.2.2.2.2.1 > (1000 : Int))) then
  some 1
  else
  bif (decide (o_.2.2.2.2.2.2.2.1 < (0 : Int)) || decide (o_.2.2.2.2.2.2.2.1 > (1000 : Int)) || decide (o_.2.2.2.2.2.2.2.2.1 < (0 : Int)) || decide (o_.2.2.2.2.2.2.2.2.1 > (1000 : Int))) then
  some 1
  else
  bif (decide (o_.2.2.2.2.2.2.2.2.2.1 < (0 : Int)) || decide (o_.2.2.2.2.2.2.2.2.2.1 > (8 : Int)) || decide (o_.2.2.2.2.2.2.2.2.2.2.1 < (0 : Int)) || decide (o_.2.2.2.2.2.2.2.2.2.2.1 > (100 : Int))) then
  some 1
  else
  bif (decide (o_.2.2.2.2.2.2.2.2.2.2.2 < (0 : Int)) || decide (o_.2.2.2.2.2.2.2.2.2.2.2 > (1000000000 : Int))) then
  some 1
  else
  some 0
def v_u34 (k : Nat) (o_ : T13.T) : R_u34 := (f_u34 k o_).getD 0
def ke_u34 (k : Nat) : Ke := (33, fun xs => match xs with
  | [_] => some [false]
  | _ => none, fun xs bs => match xs, bs with
  | [.agg qo_], [] => (decS [] T13 qo_).bind fun o_ => some (.one (res_u34 (v_u34 k o_), bo_u34 o_ (v_u34 k o_)))
  | _, _ => none)
theorem of_u34 (k : Nat) (o_ : T13.T) (r : R_u34) (h : f_u34 k o_ = some r) : C_u34 o_ r := by
  refine CC.of (fn := Tryz.f33) (by kernel_rfl) (by kernel_rfl) (by kernel_rfl) (by kernel_rfl) ?_
  unfold f_u34 at h
  exact go (mkK []) [] [] [.autoB [2] true []] (gT h (fun c h => gL h) fun c h => gT h (fun c h => gL h) fun c h => gT h (fun c h => gL h) fun c h => gT h (fun c h => gL h) fun c h => gT h (fun c h => gL h) fun c h => gT h (fun c h => gL h) fun c h => gT h (fun c h => gL h) fun c h => gT h (fun c h => gL h) fun c h => gL h) (by kernel_rfl)
theorem cc_u34 {k : Nat} {o_ : T13.T} (h : (f_u34 k o_).isSome = true) : C_u34 o_ (v_u34 k o_) := ccG (Φ := C_u34 o_) h (of_u34 k o_)
abbrev R_u95 : Type := Bool
def res_u95 (r : R_u95) : AV := .r (.v (.bool r))
def bo_u95 (h_ : T16.T) (r : R_u95) : List (Nat × Blk) := []
def args_u95 (h_ : T16.T) : List AV := [.agg (rvs (enc T16 h_))]
def bin_u95 (h_ : T16.T) : List Blk := []
abbrev C_u95 (h_ : T16.T) (r : R_u95) : Prop := CC Tryz.prog 34 (args_u95 h_) (bin_u95 h_) (res_u95 r) (bo_u95 h_ r)
def f_u95 (k : Nat) (h_ : T16.T) : Option R_u95 :=
  some (h_.1.1 != h_.2.2.1)
def v_u95 (k : Nat) (h_ : T16.T) : R_u95 := (f_u95 k h_).getD false
def ke_u95 (k : Nat) : Ke := (34, fun xs => match xs with
  | [_] => some [false]
  | _ => none, fun xs bs => match xs, bs with
  | [.agg qh_], [] => (decS [] T16 qh_).bind fun h_ => some (.one (res_u95 (v_u95 k h_), bo_u95 h_ (v_u95 k h_)))
  | _, _ => none)
theorem of_u95 (k : Nat) (h_ : T16.T) (r : R_u95) (h : f_u95 k h_ = some r) : C_u95 h_ r := by
  refine CC.of (fn := Tryz.f34) (by kernel_rfl) (by kernel_rfl) (by kernel_rfl) (by kernel_rfl) ?_
  unfold f_u95 at h
  exact go (mkK []) [] [] [.autoB [2] true []] (gL h) (by kernel_rfl)
theorem cc_u95 {k : Nat} {h_ : T16.T} (h : (f_u95 k h_).isSome = true) : C_u95 h_ (v_u95 k h_) := ccG (Φ := C_u95 h_) h (of_u95 k h_)
abbrev R_u97 : Type := Bool
def res_u97 (r : R_u97) : AV := .r (.v (.bool r))
def bo_u97 (h_ : T16.T) (r : R_u97) : List (Nat × Blk) := []
def args_u97 (h_ : T16.T) : List AV := [.agg (rvs (enc T16 h_))]
def bin_u97 (h_ : T16.T) : List Blk := []
abbrev C_u97 (h_ : T16.T) (r : R_u97) : Prop := CC Tryz.prog 35 (args_u97 h_) (bin_u97 h_) (res_u97 r) (bo_u97 h_ r)
def f_u97 (k : Nat) (h_ : T16.T) : Option R_u97 :=
  some (!h_.1.2.1)
def v_u97 (k : Nat) (h_ : T16.T) : R_u97 := (f_u97 k h_).getD false
def ke_u97 (k : Nat) : Ke := (35, fun xs => match xs with
  | [_] => some [false]
  | _ => none, fun xs bs => match xs, bs with
  | [.agg qh_], [] => (decS [] T16 qh_).bind fun h_ => some (.one (res_u97 (v_u97 k h_), bo_u97 h_ (v_u97 k h_)))
  | _, _ => none)
theorem of_u97 (k : Nat) (h_ : T16.T) (r : R_u97) (h : f_u97 k h_ = some r) : C_u97 h_ r := by
  refine CC.of (fn := Tryz.f35) (by kernel_rfl) (by kernel_rfl) (by kernel_rfl) (by kernel_rfl) ?_
  unfold f_u97 at h
  exact go (mkK []) [] [] [.autoB [2] true []] (gL h) (by kernel_rfl)
theorem cc_u97 {k : Nat} {h_ : T16.T} (h : (f_u97 k h_).isSome = true) : C_u97 h_ (v_u97 k h_) := ccG (Φ := C_u97 h_) h (of_u97 k h_)
abbrev R_u99 : Type := Bool
def res_u99 (r : R_u99) : AV := .r (.v (.bool r))
def bo_u99 (h_ : T16.T) (r : R_u99) : List (Nat × Blk) := []
def args_u99 (h_ : T16.T) : List AV := [.agg (rvs (enc T16 h_))]
def bin_u99 (h_ : T16.T) : List Blk := []
abbrev C_u99 (h_ : T16.T) (r : R_u99) : Prop := CC Tryz.prog 36 (args_u99 h_) (bin_u99 h_) (res_u99 r) (bo_u99 h_ r)
def f_u99 (k : Nat) (h_ : T16.T) : Option R_u99 :=
  some (h_.1.2.2.1 != h_.2.2.2.1)
def v_u99 (k : Nat) (h_ : T16.T) : R_u99 := (f_u99 k h_).getD false
def ke_u99 (k : Nat) : Ke := (36, fun xs => match xs with
  | [_] => some [false]
  | _ => none, fun xs bs => match xs, bs with
  | [.agg qh_], [] => (decS [] T16 qh_).bind fun h_ => some (.one (res_u99 (v_u99 k h_), bo_u99 h_ (v_u99 k h_)))
  | _, _ => none)
theorem of_u99 (k : Nat) (h_ : T16.T) (r : R_u99) (h : f_u99 k h_ = some r) : C_u99 h_ r := by
  refine CC.of (fn := Tryz.f36) (by kernel_rfl) (by kernel_rfl) (by kernel_rfl) (by kernel_rfl) ?_
  unfold f_u99 at h
  exact go (mkK []) [] [] [.autoB [2] true []] (gL h) (by kernel_rfl)
theorem cc_u99 {k : Nat} {h_ : T16.T} (h : (f_u99 k h_).isSome = true) : C_u99 h_ (v_u99 k h_) := ccG (Φ := C_u99 h_) h (of_u99 k h_)
abbrev R_u94 : Type := Bool
def res_u94 (r : R_u94) : AV := .r (.v (.bool r))
def bo_u94 (h_ : T16.T) (r : R_u94) : List (Nat × Blk) := []
def args_u94 (h_ : T16.T) : List AV := [.agg (rvs (enc T16 h_))]
def bin_u94 (h_ : T16.T) : List Blk := []
abbrev C_u94 (h_ : T16.T) (r : R_u94) : Prop := CC Tryz.prog 37 (args_u94 h_) (bin_u94 h_) (res_u94 r) (bo_u94 h_ r)
def f_u94 (k : Nat) (h_ : T16.T) : Option R_u94 :=
  some (decide (h_.1.2.2.2.1 < IntKind.i64.wrap (h_.2.2.2.2.2.1 - h_.2.2.2.2.2.2.1)) || decide (h_.1.2.2.2.1 > h_.2.2.2.2.2.1))
def v_u94 (k : Nat) (h_ : T16.T) : R_u94 := (f_u94 k h_).getD false
def ke_u94 (k : Nat) : Ke := (37, fun xs => match xs with
  | [_] => some [false]
  | _ => none, fun xs bs => match xs, bs with
  | [.agg qh_], [] => (decS [] T16 qh_).bind fun h_ => some (.one (res_u94 (v_u94 k h_), bo_u94 h_ (v_u94 k h_)))
  | _, _ => none)
theorem of_u94 (k : Nat) (h_ : T16.T) (r : R_u94) (h : f_u94 k h_ = some r) : C_u94 h_ r := by
  refine CC.of (fn := Tryz.f37) (by kernel_rfl) (by kernel_rfl) (by kernel_rfl) (by kernel_rfl) ?_
  unfold f_u94 at h
  exact go (mkK []) [] [] [.autoB [2] true []] (gL h) (by kernel_rfl)
theorem cc_u94 {k : Nat} {h_ : T16.T} (h : (f_u94 k h_).isSome = true) : C_u94 h_ (v_u94 k h_) := ccG (Φ := C_u94 h_) h (of_u94 k h_)
abbrev R_u98 : Type := Bool
def res_u98 (r : R_u98) : AV := .r (.v (.bool r))
def bo_u98 (h_ : T16.T) (r : R_u98) : List (Nat × Blk) := []
def args_u98 (h_ : T16.T) : List AV := [.agg (rvs (enc T16 h_))]
def bin_u98 (h_ : T16.T) : List Blk := []
abbrev C_u98 (h_ : T16.T) (r : R_u98) : Prop := CC Tryz.prog 38 (args_u98 h_) (bin_u98 h_) (res_u98 r) (bo_u98 h_ r)
def f_u98 (k : Nat) (h_ : T16.T) : Option R_u98 :=
  some (decide (h_.1.2.2.2.2.1 > h_.2.2.2.2.2.2.2.2.2.2.1))
def v_u98 (k : Nat) (h_ : T16.T) : R_u98 := (f_u98 k h_).getD false
def ke_u98 (k : Nat) : Ke := (38, fun xs => match xs with
  | [_] => some [false]
  | _ => none, fun xs bs => match xs, bs with
  | [.agg qh_], [] => (decS [] T16 qh_).bind fun h_ => some (.one (res_u98 (v_u98 k h_), bo_u98 h_ (v_u98 k h_)))
  | _, _ => none)
theorem of_u98 (k : Nat) (h_ : T16.T) (r : R_u98) (h : f_u98 k h_ = some r) : C_u98 h_ r := by
  refine CC.of (fn := Tryz.f38) (by kernel_rfl) (by kernel_rfl) (by kernel_rfl) (by kernel_rfl) ?_
  unfold f_u98 at h
  exact go (mkK []) [] [] [.autoB [2] true []] (gL h) (by kernel_rfl)
theorem cc_u98 {k : Nat} {h_ : T16.T} (h : (f_u98 k h_).isSome = true) : C_u98 h_ (v_u98 k h_) := ccG (Φ := C_u98 h_) h (of_u98 k h_)
abbrev R_u96 : Type := Bool
def res_u96 (r : R_u96) : AV := .r (.v (.bool r))
def bo_u96 (h_ : T16.T) (r : R_u96) : List (Nat × Blk) := []
def args_u96 (h_ : T16.T) : List AV := [.agg (rvs (enc T16 h_))]
def bin_u96 (h_ : T16.T) : List Blk := []
abbrev C_u96 (h_ : T16.T) (r : R_u96) : Prop := CC Tryz.prog 39 (args_u96 h_) (bin_u96 h_) (res_u96 r) (bo_u96 h_ r)
def f_u96 (k : Nat) (h_ : T16.T) : Option R_u96 :=
  some (decide (h_.1.2.2.2.2.2 > h_.2.2.2.2.2.2.2.2.2.2.2.1))
def v_u96 (k : Nat) (h_ : T16.T) : R_u96 := (f_u96 k h_).getD false
def ke_u96 (k : Nat) : Ke := (39, fun xs => match xs with
  | [_] => some [false]
  | _ => none, fun xs bs => match xs, bs with
  | [.agg qh_], [] => (decS [] T16 qh_).bind fun h_ => some (.one (res_u96 (v_u96 k h_), bo_u96 h_ (v_u96 k h_)))
  | _, _ => none)
theorem of_u96 (k : Nat) (h_ : T16.T) (r : R_u96) (h : f_u96 k h_ = some r) : C_u96 h_ r := by
  refine CC.of (fn := Tryz.f39) (by kernel_rfl) (by kernel_rfl) (by kernel_rfl) (by kernel_rfl) ?_
  unfold f_u96 at h
  exact go (mkK []) [] [] [.autoB [2] true []] (gL h) (by kernel_rfl)
theorem cc_u96 {k : Nat} {h_ : T16.T} (h : (f_u96 k h_).isSome = true) : C_u96 h_ (v_u96 k h_) := ccG (Φ := C_u96 h_) h (of_u96 k h_)
def clos12 (p : T16.T) : List (RTy.fn).T := [(Fn.func 34, [Value.agg (vals T16 p).toArray], []), (Fn.func 35, [Value.agg (vals T16 p).toArray], []), (Fn.func 36, [Value.agg (vals T16 p).toArray], []), (Fn.func 37, [Value.agg (vals T16 p).toArray], []), (Fn.func 38, [Value.agg (vals T16 p).toArray], []), (Fn.func 39, [Value.agg (vals T16 p).toArray], [])]
abbrev R_u89 : Type := List (I).T × Int
def res_u89 (r : R_u89) : AV := .tup [.r (.ro I r.1), .r (.v (.int .i64 r.2))]
def bo_u89 (o_ : T13.T) (f_ : T8.T) (r : R_u89) : List (Nat × Blk) := []
def args_u89 (o_ : T13.T) (f_ : T8.T) : List AV := [.agg (rvs (enc T13 o_)), .agg (rvs (enc T8 f_))]
def bin_u89 (o_ : T13.T) (f_ : T8.T) : List Blk := []
abbrev C_u89 (o_ : T13.T) (f_ : T8.T) (r : R_u89) : Prop := CC Tryz.prog 12 (args_u89 o_ f_) (bin_u89 o_ f_) (res_u89 r) (bo_u89 o_ f_ r)
def st_u89_10007 (y0 : List (I).T) (y1 : T16.T) : St := ⟨mkS 47 [(8, .own 1000000 0), (31, .own 1000001 0), (32, .r (.v (.int .i64 6))), (33, .r (.v (.int .i64 0)))], [(1000000, 0, .row 3 I y0), (1000001, 0, .row 29 .fn (clos12 y1))]⟩
def st_u89_20007 (y0 : List (I).T) (y1 : T16.T) : St := ⟨mkS 47 [(8, .own 1000000 0), (31, .own 1000001 0), (32, .r (.v (.int .i64 6))), (33, .r (.v (.int .i64 1)))], [(1000000, 0, .row 3 I y0), (1000001, 0, .row 29 .fn (clos12 y1))]⟩
def st_u89_30007 (y0 : List (I).T) (y1 : T16.T) : St := ⟨mkS 47 [(8, .own 1000000 0), (31, .own 1000001 0), (32, .r (.v (.int .i64 6))), (33, .r (.v (.int .i64 2)))], [(1000000, 0, .row 3 I y0), (1000001, 0, .row 29 .fn (clos12 y1))]⟩
def st_u89_40007 (y0 : List (I).T) (y1 : T16.T) : St := ⟨mkS 47 [(8, .own 1000000 0), (31, .own 1000001 0), (32, .r (.v (.int .i64 6))), (33, .r (.v (.int .i64 3)))], [(1000000, 0, .row 3 I y0), (1000001, 0, .row 29 .fn (clos12 y1))]⟩
def st_u89_50007 (y0 : List (I).T) (y1 : T16.T) : St := ⟨mkS 47 [(8, .own 1000000 0), (31, .own 1000001 0), (32, .r (.v (.int .i64 6))), (33, .r (.v (.int .i64 4)))], [(1000000, 0, .row 3 I y0), (1000001, 0, .row 29 .fn (clos12 y1))]⟩
def st_u89_60007 (y0 : List (I).T) (y1 : T16.T) : St := ⟨mkS 47 [(8, .own 1000000 0), (31, .own 1000001 0), (32, .r (.v (.int .i64 6))), (33, .r (.v (.int .i64 5)))], [(1000000, 0, .row 3 I y0), (1000001, 0, .row 29 .fn (clos12 y1))]⟩
def st_u89_70007 (y0 : List (I).T) (y1 : T16.T) : St := ⟨mkS 47 [(8, .own 1000000 0), (31, .own 1000001 0), (32, .r (.v (.int .i64 6))), (33, .r (.v (.int .i64 6)))], [(1000000, 0, .row 3 I y0), (1000001, 0, .row 29 .fn (clos12 y1))]⟩
mutual
def f_u89_10007 (k : Nat) : Nat → List (I).T → T16.T → Option R_u89
  | 0, _, _ => none
  | j + 1, y0, y1 =>
  if ((0 : Int) ≤ (0 : Int)) ∧ ((0 : Int) < (↑ (clos12 y1).length : Int)) then
  if ((f_u95 k y1).isSome = true) then
  bif (v_u95 k y1) then
  if ((y0.length + [IntKind.i64.wrap ((1 : Int) + (0 : Int))].length) * (8 : Nat) ≤ (140737488355328 : Nat)) then
  f_u89_20007 k j ((y0 ++ [IntKind.i64.wrap (1 + 0)])) y1
  else none
  else
  f_u89_20007 k j y0 y1
  else none
  else none
def f_u89_20007 (k : Nat) : Nat → List (I).T → T16.T → Option R_u89
  | 0, _, _ => none
  | j + 1, y0, y1 =>
  if ((0 : Int) ≤ (1 : Int)) ∧ ((1 : Int) < (↑ (clos12 y1).length : Int)) then
  if ((f_u97 k y1).isSome = true) then
  bif (v_u97 k y1) then
  if ((y0.length + [IntKind.i64.wrap ((1 : Int) + (1 : Int))].length) * (8 : Nat) ≤ (140737488355328 : Nat)) then
  f_u89_30007 k j ((y0 ++ [IntKind.i64.wrap (1 + 1)])) y1
  else none
  else
  f_u89_30007 k j y0 y1
  else none
  else none
def f_u89_30007 (k : Nat) : Nat → List (I).T → T16.T → Option R_u89
  | 0, _, _ => none
  | j + 1, y0, y1 =>
  if ((0 : Int) ≤ (2 : Int)) ∧ ((2 : Int) < (↑ (clos12 y1).length : Int)) then
  if ((f_u99 k y1).isSome = true) then
  bif (v_u99 k y1) then
  if ((y0.length + [IntKind.i64.wrap ((1 : Int) + (2 : Int))].length) * (8 : Nat) ≤ (140737488355328 : Nat)) then
  f_u89_40007 k j ((y0 ++ [IntKind.i64.wrap (1 + 2)])) y1
  else none
  else
  f_u89_40007 k j y0 y1
  else none
  else none
def f_u89_40007 (k : Nat) : Nat → List (I).T → T16.T → Option R_u89
  | 0, _, _ => none
  | j + 1, y0, y1 =>
  if ((0 : Int) ≤ (3 : Int)) ∧ ((3 : Int) < (↑ (clos12 y1).length : Int)) then
  if ((f_u94 k y1).isSome = true) then
  bif (v_u94 k y1) then
  if ((y0.length + [IntKind.i64.wrap ((1 : Int) + (3 : Int))].length) * (8 : Nat) ≤ (140737488355328 : Nat)) then
  f_u89_50007 k j ((y0 ++ [IntKind.i64.wrap (1 + 3)])) y1
  else none
  else
  f_u89_50007 k j y0 y1
  else none
  else none
def f_u89_50007 (k : Nat) : Nat → List (I).T → T16.T → Option R_u89
  | 0, _, _ => none
  | j + 1, y0, y1 =>
  if ((0 : Int) ≤ (4 : Int)) ∧ ((4 : Int) < (↑ (clos12 y1).length : Int)) then
  if ((f_u98 k y1).isSome = true) then
  bif (v_u98 k y1) then
  if ((y0.length + [IntKind.i64.wrap ((1 : Int) + (4 : Int))].length) * (8 : Nat) ≤ (140737488355328 : Nat)) then
  f_u89_60007 k j ((y0 ++ [IntKind.i64.wrap (1 + 4)])) y1
  else none
  else
  f_u89_60007 k j y0 y1
  else none
  else none
def f_u89_60007 (k : Nat) : Nat → List (I).T → T16.T → Option R_u89
  | 0, _, _ => none
  | j + 1, y0, y1 =>
  if ((0 : Int) ≤ (5 : Int)) ∧ ((5 : Int) < (↑ (clos12 y1).length : Int)) then
  if ((f_u96 k y1).isSome = true) then
  bif (v_u96 k y1) then
  if ((y0.length + [IntKind.i64.wrap ((1 : Int) + (5 : Int))].length) * (8 : Nat) ≤ (140737488355328 : Nat)) then
  f_u89_70007 k j ((y0 ++ [IntKind.i64.wrap (1 + 5)])) y1
  else none
  else
  f_u89_70007 k j y0 y1
  else none
  else none
def f_u89_70007 (k : Nat) : Nat → List (I).T → T16.T → Option R_u89
  | 0, _, _ => none
  | j + 1, y0, y1 =>
  some ((y0, 0))
end
def f_u89 (k : Nat) (o_ : T13.T) (f_ : T8.T) : Option R_u89 :=
  if ((f_u34 k o_).isSome = true) then
  bif (v_u34 k o_ != (0 : Int)) then
  some (([], v_u34 k o_))
  else
  f_u89_10007 k k ([]) ((f_, o_))
  else none
def v_u89 (k : Nat) (o_ : T13.T) (f_ : T8.T) : R_u89 := (f_u89 k o_ f_).getD ([], 0)
def ke_u89 (k : Nat) : Ke := (12, fun xs => match xs with
  | [_, _] => some [false, false]
  | _ => none, fun xs bs => match xs, bs with
  | [.agg qo_, .agg qf_], [] => (decS [] T13 qo_).bind fun o_ => (decS [] T8 qf_).bind fun f_ => some (.one (res_u89 (v_u89 k o_ f_), bo_u89 o_ f_ (v_u89 k o_ f_)))
  | _, _ => none)
def K_u89 (k : Nat) : Calld := mkK [ke_u34 k, ke_u95 k, ke_u97 k, ke_u99 k, ke_u94 k, ke_u98 k, ke_u96 k]
def cs_u89 : List (Nat × List Cmd) := [(7, [.key 33, .row 8 3 I, .autoB [8, 31, 32, 33] false []])]
abbrev E_u89 (o_ : T13.T) (f_ : T8.T) (todo : List Item) (st : St) (o : Option R_u89) : Prop := ∀ r, o = some r → Ev Tryz.prog Tryz.f12 0 todo st (res_u89 r) (bo_u89 o_ f_ r)
theorem ev_u89 (k : Nat) (o_ : T13.T) (f_ : T8.T) : ∀ j, (∀ (y0 : List (I).T) (y1 : T16.T), E_u89 o_ f_ (placeAt Tryz.f12 7) (st_u89_10007 y0 y1) (f_u89_10007 k j y0 y1)) ∧ (∀ (y0 : List (I).T) (y1 : T16.T), E_u89 o_ f_ (placeAt Tryz.f12 7) (st_u89_20007 y0 y1) (f_u89_20007 k j y0 y1)) ∧ (∀ (y0 : List (I).T) (y1 : T16.T), E_u89 o_ f_ (placeAt Tryz.f12 7) (st_u89_30007 y0 y1) (f_u89_30007 k j y0 y1)) ∧ (∀ (y0 : List (I).T) (y1 : T16.T), E_u89 o_ f_ (placeAt Tryz.f12 7) (st_u89_40007 y0 y1) (f_u89_40007 k j y0 y1)) ∧ (∀ (y0 : List (I).T) (y1 : T16.T), E_u89 o_ f_ (placeAt Tryz.f12 7) (st_u89_50007 y0 y1) (f_u89_50007 k j y0 y1)) ∧ (∀ (y0 : List (I).T) (y1 : T16.T), E_u89 o_ f_ (placeAt Tryz.f12 7) (st_u89_60007 y0 y1) (f_u89_60007 k j y0 y1)) ∧ (∀ (y0 : List (I).T) (y1 : T16.T), E_u89 o_ f_ (placeAt Tryz.f12 7) (st_u89_70007 y0 y1) (f_u89_70007 k j y0 y1))
  | 0 => ⟨fun _ _ _ h => (nomatch h), fun _ _ _ h => (nomatch h), fun _ _ _ h => (nomatch h), fun _ _ _ h => (nomatch h), fun _ _ _ h => (nomatch h), fun _ _ _ h => (nomatch h), fun _ _ _ h => (nomatch h)⟩
  | j + 1 => by
    have ih := @ev_u89 k o_ f_ j
    refine ⟨?_, ?_, ?_, ?_, ?_, ?_, ?_⟩
    · intro y0 y1 r h
      rw [f_u89_10007] at h
      exact go (K_u89 k) [] cs_u89 [.frz 4 false (RTy.list I), .autoB [4, 5] true []] (gU1 h (.leaf (.tup [.r (.ro I y0), .r (.v (.int .i64 0))]) []) fun h => gN2 h fun h => gN1 h (fun q => cc_u95 q) fun h => gT h (fun c h => gN1 h id fun h => gC h 20007 (ih.2.1 _ _ _)) fun c h => gC h 20007 (ih.2.1 _ _ _)) (by kernel_rfl)
    · intro y0 y1 r h
      rw [f_u89_20007] at h
      exact go (K_u89 k) [] cs_u89 [.frz 4 false (RTy.list I), .autoB [4, 5] true []] (gU1 h (.leaf (.tup [.r (.ro I y0), .r (.v (.int .i64 0))]) []) fun h => gN2 h fun h => gN1 h (fun q => cc_u97 q) fun h => gT h (fun c h => gN1 h id fun h => gC h 30007 (ih.2.2.1 _ _ _)) fun c h => gC h 30007 (ih.2.2.1 _ _ _)) (by kernel_rfl)
    · intro y0 y1 r h
      rw [f_u89_30007] at h
      exact go (K_u89 k) [] cs_u89 [.frz 4 false (RTy.list I), .autoB [4, 5] true []] (gU1 h (.leaf (.tup [.r (.ro I y0), .r (.v (.int .i64 0))]) []) fun h => gN2 h fun h => gN1 h (fun q => cc_u99 q) fun h => gT h (fun c h => gN1 h id fun h => gC h 40007 (ih.2.2.2.1 _ _ _)) fun c h => gC h 40007 (ih.2.2.2.1 _ _ _)) (by kernel_rfl)
    · intro y0 y1 r h
      rw [f_u89_40007] at h
      exact go (K_u89 k) [] cs_u89 [.frz 4 false (RTy.list I), .autoB [4, 5] true []] (gU1 h (.leaf (.tup [.r (.ro I y0), .r (.v (.int .i64 0))]) []) fun h => gN2 h fun h => gN1 h (fun q => cc_u94 q) fun h => gT h (fun c h => gN1 h id fun h => gC h 50007 (ih.2.2.2.2.1 _ _ _)) fun c h => gC h 50007 (ih.2.2.2.2.1 _ _ _)) (by kernel_rfl)
    · intro y0 y1 r h
      rw [f_u89_50007] at h
      exact go (K_u89 k) [] cs_u89 [.frz 4 false (RTy.list I), .autoB [4, 5] true []] (gU1 h (.leaf (.tup [.r (.ro I y0), .r (.v (.int .i64 0))]) []) fun h => gN2 h fun h => gN1 h (fun q => cc_u98 q) fun h => gT h (fun c h => gN1 h id fun h => gC h 60007 (ih.2.2.2.2.2.1 _ _ _)) fun c h => gC h 60007 (ih.2.2.2.2.2.1 _ _ _)) (by kernel_rfl)
    · intro y0 y1 r h
      rw [f_u89_60007] at h
      exact go (K_u89 k) [] cs_u89 [.frz 4 false (RTy.list I), .autoB [4, 5] true []] (gU1 h (.leaf (.tup [.r (.ro I y0), .r (.v (.int .i64 0))]) []) fun h => gN2 h fun h => gN1 h (fun q => cc_u96 q) fun h => gT h (fun c h => gN1 h id fun h => gC h 70007 (ih.2.2.2.2.2.2 _ _ _)) fun c h => gC h 70007 (ih.2.2.2.2.2.2 _ _ _)) (by kernel_rfl)
    · intro y0 y1 r h
      rw [f_u89_70007] at h
      exact go (K_u89 k) [] cs_u89 [.frz 4 false (RTy.list I), .autoB [4, 5] true []] (gU2 h (.need [(0 : Int) ≤ (6 : Int), (6 : Int) < (↑ (clos12 y1).length : Int)] (.stuck 2001)) fun h => gL h) (by kernel_rfl)
theorem of_u89 (k : Nat) (o_ : T13.T) (f_ : T8.T) (r : R_u89) (h : f_u89 k o_ f_ = some r) : C_u89 o_ f_ r := by
  refine CC.of (fn := Tryz.f12) (by kernel_rfl) (by kernel_rfl) (by kernel_rfl) (by kernel_rfl) ?_
  unfold f_u89 at h
  exact go (K_u89 k) [] cs_u89 [.frz 4 false (RTy.list I), .autoB [4, 5] true []] (gN1 h (fun q => cc_u34 q) fun h => gT h (fun c h => gL h) fun c h => gC h 10007 ((ev_u89 k o_ f_ k).1 _ _ _)) (by kernel_rfl)
theorem cc_u89 {k : Nat} {o_ : T13.T} {f_ : T8.T} (h : (f_u89 k o_ f_).isSome = true) : C_u89 o_ f_ (v_u89 k o_ f_) := ccG (Φ := C_u89 o_ f_) h (of_u89 k o_ f_)
abbrev R_u39 : Type := T13.T
def res_u39 (r : R_u39) : AV := .agg (rvs (enc T13 r))
def bo_u39  (r : R_u39) : List (Nat × Blk) := []
def args_u39  : List AV := []
def bin_u39  : List Blk := []
abbrev C_u39  (r : R_u39) : Prop := CC Tryz.prog 13 (args_u39 ) (bin_u39 ) (res_u39 r) (bo_u39  r)
def f_u39 (k : Nat)  : Option R_u39 :=
  some ((1, (0, (200, (100, (120, (20, (1, (0, (0, (0, (5, 0))))))))))))
def v_u39 (k : Nat)  : R_u39 := (f_u39 k ).getD (T13).dflt
def ke_u39 (k : Nat) : Ke := (13, fun xs => match xs with
  | [] => some []
  | _ => none, fun xs bs => match xs, bs with
  | [], [] => some (.one (res_u39 (v_u39 k ), bo_u39  (v_u39 k )))
  | _, _ => none)
theorem of_u39 (k : Nat)  (r : R_u39) (h : f_u39 k  = some r) : C_u39  r := by
  refine CC.of (fn := Tryz.f13) (by kernel_rfl) (by kernel_rfl) (by kernel_rfl) (by kernel_rfl) ?_
  unfold f_u39 at h
  exact go (mkK []) [] [] [.autoB [0] true []] (gL h) (by kernel_rfl)
theorem cc_u39 {k : Nat}  (h : (f_u39 k ).isSome = true) : C_u39  (v_u39 k ) := ccG (Φ := C_u39 ) h (of_u39 k )
abbrev R_u100 : Type := Int
def res_u100 (r : R_u100) : AV := .r (.v (.int .i64 r))
def bo_u100 (l_ : List (T14).T) (r : R_u100) : List (Nat × Blk) := []
def args_u100 (l_ : List (T14).T) : List AV := [.r (.ro T14 l_)]
def bin_u100 (l_ : List (T14).T) : List Blk := []
abbrev C_u100 (l_ : List (T14).T) (r : R_u100) : Prop := CC Tryz.prog 40 (args_u100 l_) (bin_u100 l_) (res_u100 r) (bo_u100 l_ r)
def st_u100_4 (y0 : List (T14).T) (y1 : Int) (y2 : Int) : St := ⟨mkS 42 [(8, .r (.ro T14 y0)), (9, .r (.v (.int .i64 y1))), (10, .r (.v (.int .i64 y2)))], []⟩
def f_u100_4 (k : Nat) : Nat → List (T14).T → Int → Int → Option R_u100
  | 0, _, _, _ => none
  | j + 1, y0, y1, y2 =>
  bif (decide (y2 < y1)) then
  if (0 ≤ y2) ∧ (y2 < (↑y0.length : Int)) then
  bif (decide ((y0.getD y2.toNat T14.dflt).1 < (1 : Int)) || decide ((y0.getD y2.toNat T14.dflt).1 > (1000000 : Int))) then
  some 1
  else
  bif (decide ((y0.getD y2.toNat T14.dflt).2.1 < (1 : Int)) || decide ((y0.getD y2.toNat T14.dflt).2.1 > (6 : Int))) then
  some 17
  else
  bif (decide ((y0.getD y2.toNat T14.dflt).2.2 < (0 : Int)) || decide ((y0.getD y2.toNat T14.dflt).2.2 > (2147483647 : Int))) then
  some 1
  else
  f_u100_4 k j y0 y1 ((IntKind.i64.wrap (y2 + 1)))
  else none
  else
  some 0
def f_u100 (k : Nat) (l_ : List (T14).T) : Option R_u100 :=
  bif (decide ((↑l_.length : Int) > (512 : Int))) then
  some 8
  else
  f_u100_4 k k l_ ((↑l_.length : Int)) 0
def v_u100 (k : Nat) (l_ : List (T14).T) : R_u100 := (f_u100 k l_).getD 0
def ke_u100 (k : Nat) : Ke := (40, fun xs => match xs with
  | [_] => some [false]
  | _ => none, fun xs bs => match xs, bs with
  | [.r (.ro tl__ ql_)], [] => (castL tl__ T14 ql_).bind fun l_ => some (.one (res_u100 (v_u100 k l_), bo_u100 l_ (v_u100 k l_)))
  | _, _ => none)
def cs_u100 : List (Nat × List Cmd) := [(4, [.autoB [8, 9, 10] false []])]
abbrev E_u100 (l_ : List (T14).T) (todo : List Item) (st : St) (o : Option R_u100) : Prop := ∀ r, o = some r → Ev Tryz.prog Tryz.f40 0 todo st (res_u100 r) (bo_u100 l_ r)
theorem ev_u100 (k : Nat) (l_ : List (T14).T) : ∀ j, (∀ (y0 : List (T14).T) (y1 : Int) (y2 : Int), E_u100 l_ (placeAt Tryz.f40 4) (st_u100_4 y0 y1 y2) (f_u100_4 k j y0 y1 y2))
  | 0 => fun _ _ _ _ h => (nomatch h)
  | j + 1 => by
    have ih := @ev_u100 k l_ j
    · intro y0 y1 y2 r h
      rw [f_u100_4] at h
      exact go (mkK []) [] cs_u100 [.autoB [2] true []] (gT h (fun c h => gN2 h fun h => gT h (fun c h => gL h) fun c h => gT h (fun c h => gL h) fun c h => gT h (fun c h => gL h) fun c h => gC h 4 (ih _ _ _ _)) fun c h => gL h) (by kernel_rfl)
theorem of_u100 (k : Nat) (l_ : List (T14).T) (r : R_u100) (h : f_u100 k l_ = some r) : C_u100 l_ r := by
  refine CC.of (fn := Tryz.f40) (by kernel_rfl) (by kernel_rfl) (by kernel_rfl) (by kernel_rfl) ?_
  unfold f_u100 at h
  exact go (mkK []) [] cs_u100 [.autoB [2] true []] (gT h (fun c h => gL h) fun c h => gC h 4 ((ev_u100 k l_ k) _ _ _ _)) (by kernel_rfl)
theorem cc_u100 {k : Nat} {l_ : List (T14).T} (h : (f_u100 k l_).isSome = true) : C_u100 l_ (v_u100 k l_) := ccG (Φ := C_u100 l_) h (of_u100 k l_)
abbrev R_u90 : Type := List (I).T × Int
def res_u90 (r : R_u90) : AV := .tup [.r (.ro I r.1), .r (.v (.int .i64 r.2))]
def bo_u90 (o_ : T13.T) (f_ : T8.T) (roll_ : Int) (l_ : List (T14).T) (r : R_u90) : List (Nat × Blk) := []
def args_u90 (o_ : T13.T) (f_ : T8.T) (roll_ : Int) (l_ : List (T14).T) : List AV := [.agg (rvs (enc T13 o_)), .agg (rvs (enc T8 f_)), .r (.v (.int .i64 roll_)), .r (.ro T14 l_)]
def bin_u90 (o_ : T13.T) (f_ : T8.T) (roll_ : Int) (l_ : List (T14).T) : List Blk := []
abbrev C_u90 (o_ : T13.T) (f_ : T8.T) (roll_ : Int) (l_ : List (T14).T) (r : R_u90) : Prop := CC Tryz.prog 14 (args_u90 o_ f_ roll_ l_) (bin_u90 o_ f_ roll_ l_) (res_u90 r) (bo_u90 o_ f_ roll_ l_ r)
def st_u90_9 (y0 : Int) (y1 : List (I).T) (y2 : List (T14).T) (y3 : Int) (y4 : Int) (y5 : List ((I).T × (RTy.bool).T)) : St := ⟨mkS 64 [(2, .r (.v (.int .i64 y0))), (10, .r (.ro I y1)), (13, .own 1000000 0), (34, .r (.ro T14 y2)), (35, .r (.v (.int .i64 y3))), (36, .r (.v (.int .i64 y4)))], [(1000000, 0, .map false I RTy.bool y5)]⟩
def st_u90_16 (y0 : List (I).T) (y1 : Int) (y2 : Int) (y3 : List ((I).T × (RTy.bool).T)) (y4 : List (I).T) : St := ⟨mkS 64 [(13, .own 1000000 0), (16, .own 1000001 0), (48, .r (.ro I y0)), (49, .r (.v (.int .i64 y1))), (50, .r (.v (.int .i64 y2)))], [(1000000, 0, .map false I RTy.bool y3), (1000001, 0, .row 3 I y4)]⟩
mutual
def f_u90_9 (k : Nat) : Nat → Int → List (I).T → List (T14).T → Int → Int → (List ((I).T × (RTy.bool).T)) → Option R_u90
  | 0, _, _, _, _, _, _ => none
  | j + 1, y0, y1, y2, y3, y4, y5 =>
  bif (decide (y4 < y3)) then
  if (0 ≤ y4) ∧ (y4 < (↑y2.length : Int)) then
  bif ((y2.getD y4.toNat T14.dflt).1 == y0) then
  f_u90_9 k j y0 y1 y2 y3 ((IntKind.i64.wrap (y4 + 1))) ((mset I (y2.getD y4.toNat T14.dflt).2.1 true y5))
  else
  f_u90_9 k j y0 y1 y2 y3 ((IntKind.i64.wrap (y4 + 1))) y5
  else none
  else
  f_u90_16 k j y1 ((↑y1.length : Int)) 0 y5 ([])
def f_u90_16 (k : Nat) : Nat → List (I).T → Int → Int → (List ((I).T × (RTy.bool).T)) → List (I).T → Option R_u90
  | 0, _, _, _, _, _ => none
  | j + 1, y0, y1, y2, y3, y4 =>
  bif (decide (y2 < y1)) then
  if (0 ≤ y2) ∧ (y2 < (↑y0.length : Int)) then
  bif (! (mget I (y0.getD y2.toNat I.dflt) y3).getD false) then
  if ((y4.length + [y0.getD y2.toNat I.dflt].length) * (8 : Nat) ≤ (140737488355328 : Nat)) then
  f_u90_16 k j y0 y1 ((IntKind.i64.wrap (y2 + 1))) y3 ((y4 ++ [y0.getD y2.toNat I.dflt]))
  else none
  else
  f_u90_16 k j y0 y1 ((IntKind.i64.wrap (y2 + 1))) y3 y4
  else none
  else
  some ((y4, 0))
end
def f_u90 (k : Nat) (o_ : T13.T) (f_ : T8.T) (roll_ : Int) (l_ : List (T14).T) : Option R_u90 :=
  if ((f_u89 k o_ f_).isSome = true) then
  bif ((v_u89 k o_ f_).2 != (0 : Int)) then
  some (([], (v_u89 k o_ f_).2))
  else
  if ((f_u100 k l_).isSome = true) then
  bif (v_u100 k l_ != (0 : Int)) then
  some (([], v_u100 k l_))
  else
  f_u90_9 k k roll_ ((v_u89 k o_ f_).1) l_ ((↑l_.length : Int)) 0 ([])
  else none
  else none
def v_u90 (k : Nat) (o_ : T13.T) (f_ : T8.T) (roll_ : Int) (l_ : List (T14).T) : R_u90 := (f_u90 k o_ f_ roll_ l_).getD ([], 0)
def ke_u90 (k : Nat) : Ke := (14, fun xs => match xs with
  | [_, _, _, _] => some [false, false, false, false]
  | _ => none, fun xs bs => match xs, bs with
  | [.agg qo_, .agg qf_, .r (.v (.int .i64 roll_)), .r (.ro tl__ ql_)], [] => (decS [] T13 qo_).bind fun o_ => (decS [] T8 qf_).bind fun f_ => (castL tl__ T14 ql_).bind fun l_ => some (.one (res_u90 (v_u90 k o_ f_ roll_ l_), bo_u90 o_ f_ roll_ l_ (v_u90 k o_ f_ roll_ l_)))
  | _, _ => none)
def cs_u90 : List (Nat × List Cmd) := [(9, [.autoB [2, 10, 13, 34, 35, 36] false []]), (16, [.row 16 3 I, .autoB [13, 16, 48, 49, 50] false []])]
abbrev E_u90 (o_ : T13.T) (f_ : T8.T) (roll_ : Int) (l_ : List (T14).T) (todo : List Item) (st : St) (o : Option R_u90) : Prop := ∀ r, o = some r → Ev Tryz.prog Tryz.f14 0 todo st (res_u90 r) (bo_u90 o_ f_ roll_ l_ r)
theorem ev_u90 (k : Nat) (o_ : T13.T) (f_ : T8.T) (roll_ : Int) (l_ : List (T14).T) : ∀ j, (∀ (y0 : Int) (y1 : List (I).T) (y2 : List (T14).T) (y3 : Int) (y4 : Int) (y5 : List ((I).T × (RTy.bool).T)), E_u90 o_ f_ roll_ l_ (placeAt Tryz.f14 9) (st_u90_9 y0 y1 y2 y3 y4 y5) (f_u90_9 k j y0 y1 y2 y3 y4 y5)) ∧ (∀ (y0 : List (I).T) (y1 : Int) (y2 : Int) (y3 : List ((I).T × (RTy.bool).T)) (y4 : List (I).T), E_u90 o_ f_ roll_ l_ (placeAt Tryz.f14 16) (st_u90_16 y0 y1 y2 y3 y4) (f_u90_16 k j y0 y1 y2 y3 y4))
  | 0 => ⟨fun _ _ _ _ _ _ _ h => (nomatch h), fun _ _ _ _ _ _ h => (nomatch h)⟩
  | j + 1 => by
    have ih := @ev_u90 k o_ f_ roll_ l_ j
    refine ⟨?_, ?_⟩
    · intro y0 y1 y2 y3 y4 y5 r h
      rw [f_u90_9] at h
      exact go (mkK [ke_u89 k, ke_u100 k]) [] cs_u90 [.frz 8 false (RTy.list I), .autoB [8, 9] true []] (gT h (fun c h => gN2 h fun h => gT h (fun c h => gC h 9 (ih.1 _ _ _ _ _ _ _)) fun c h => gC h 9 (ih.1 _ _ _ _ _ _ _)) fun c h => gC h 16 (ih.2 _ _ _ _ _ _)) (by kernel_rfl)
    · intro y0 y1 y2 y3 y4 r h
      rw [f_u90_16] at h
      exact go (mkK [ke_u89 k, ke_u100 k]) [] cs_u90 [.frz 8 false (RTy.list I), .autoB [8, 9] true []] (gT h (fun c h => gN2 h fun h => gT h (fun c h => gN1 h id fun h => gC h 16 (ih.2 _ _ _ _ _ _)) fun c h => gC h 16 (ih.2 _ _ _ _ _ _)) fun c h => gL h) (by kernel_rfl)
theorem of_u90 (k : Nat) (o_ : T13.T) (f_ : T8.T) (roll_ : Int) (l_ : List (T14).T) (r : R_u90) (h : f_u90 k o_ f_ roll_ l_ = some r) : C_u90 o_ f_ roll_ l_ r := by
  refine CC.of (fn := Tryz.f14) (by kernel_rfl) (by kernel_rfl) (by kernel_rfl) (by kernel_rfl) ?_
  unfold f_u90 at h
  exact go (mkK [ke_u89 k, ke_u100 k]) [] cs_u90 [.frz 8 false (RTy.list I), .autoB [8, 9] true []] (gN1 h (fun q => cc_u89 q) fun h => gT h (fun c h => gL h) fun c h => gN1 h (fun q => cc_u100 q) fun h => gT h (fun c h => gL h) fun c h => gC h 9 ((ev_u90 k o_ f_ roll_ l_ k).1 _ _ _ _ _ _ _)) (by kernel_rfl)
theorem cc_u90 {k : Nat} {o_ : T13.T} {f_ : T8.T} {roll_ : Int} {l_ : List (T14).T} (h : (f_u90 k o_ f_ roll_ l_).isSome = true) : C_u90 o_ f_ roll_ l_ (v_u90 k o_ f_ roll_ l_) := ccG (Φ := C_u90 o_ f_ roll_ l_) h (of_u90 k o_ f_ roll_ l_)
abbrev R_u93 : Type := Int
def res_u93 (r : R_u93) : AV := .r (.v (.int .i64 r))
def bo_u93 (o_ : T13.T) (f_ : T8.T) (roll_ : Int) (l_ : List (T14).T) (r : R_u93) : List (Nat × Blk) := []
def args_u93 (o_ : T13.T) (f_ : T8.T) (roll_ : Int) (l_ : List (T14).T) : List AV := [.agg (rvs (enc T13 o_)), .agg (rvs (enc T8 f_)), .r (.v (.int .i64 roll_)), .r (.ro T14 l_)]
def bin_u93 (o_ : T13.T) (f_ : T8.T) (roll_ : Int) (l_ : List (T14).T) : List Blk := []
abbrev C_u93 (o_ : T13.T) (f_ : T8.T) (roll_ : Int) (l_ : List (T14).T) (r : R_u93) : Prop := CC Tryz.prog 15 (args_u93 o_ f_ roll_ l_) (bin_u93 o_ f_ roll_ l_) (res_u93 r) (bo_u93 o_ f_ roll_ l_ r)
def f_u93 (k : Nat) (o_ : T13.T) (f_ : T8.T) (roll_ : Int) (l_ : List (T14).T) : Option R_u93 :=
  if ((f_u90 k o_ f_ roll_ l_).isSome = true) then
  bif ((v_u90 k o_ f_ roll_ l_).2 != (0 : Int)) then
  some ((v_u90 k o_ f_ roll_ l_).2)
  else
  bif (decide ((↑ (v_u90 k o_ f_ roll_ l_).1.length : Int) > (0 : Int))) then
  some 31
  else
  some 0
  else none
def v_u93 (k : Nat) (o_ : T13.T) (f_ : T8.T) (roll_ : Int) (l_ : List (T14).T) : R_u93 := (f_u93 k o_ f_ roll_ l_).getD 0
def ke_u93 (k : Nat) : Ke := (15, fun xs => match xs with
  | [_, _, _, _] => some [false, false, false, false]
  | _ => none, fun xs bs => match xs, bs with
  | [.agg qo_, .agg qf_, .r (.v (.int .i64 roll_)), .r (.ro tl__ ql_)], [] => (decS [] T13 qo_).bind fun o_ => (decS [] T8 qf_).bind fun f_ => (castL tl__ T14 ql_).bind fun l_ => some (.one (res_u93 (v_u93 k o_ f_ roll_ l_), bo_u93 o_ f_ roll_ l_ (v_u93 k o_ f_ roll_ l_)))
  | _, _ => none)
theorem of_u93 (k : Nat) (o_ : T13.T) (f_ : T8.T) (roll_ : Int) (l_ : List (T14).T) (r : R_u93) (h : f_u93 k o_ f_ roll_ l_ = some r) : C_u93 o_ f_ roll_ l_ r := by
  refine CC.of (fn := Tryz.f15) (by kernel_rfl) (by kernel_rfl) (by kernel_rfl) (by kernel_rfl) ?_
  unfold f_u93 at h
  exact go (mkK [ke_u90 k]) [] [] [.autoB [8] true []] (gN1 h (fun q => cc_u90 q) fun h => gT h (fun c h => gL h) fun c h => gT h (fun c h => gL h) fun c h => gL h) (by kernel_rfl)
theorem cc_u93 {k : Nat} {o_ : T13.T} {f_ : T8.T} {roll_ : Int} {l_ : List (T14).T} (h : (f_u93 k o_ f_ roll_ l_).isSome = true) : C_u93 o_ f_ roll_ l_ (v_u93 k o_ f_ roll_ l_) := ccG (Φ := C_u93 o_ f_ roll_ l_) h (of_u93 k o_ f_ roll_ l_)
abbrev R_u37 : Type := Bool
def res_u37 (r : R_u37) : AV := .r (.v (.bool r))
def bo_u37  (r : R_u37) : List (Nat × Blk) := []
def args_u37  : List AV := []
def bin_u37  : List Blk := []
abbrev C_u37  (r : R_u37) : Prop := CC Tryz.prog 6 (args_u37 ) (bin_u37 ) (res_u37 r) (bo_u37  r)
def st_u37_4 (y0 : List (I).T) (y1 : Int) (y2 : List (T14).T) (y3 : T8.T) : St := ⟨mkS 59 [(1, .ptr 1000000 0 0), (2, .r (.ro I y0)), (3, .r (.v (.int .i64 y1))), (4, .r (.ro T14 y2))], [(1000000, 0, .var 31 (rvs (enc T8 y3)))]⟩
def f_u37_4 (k : Nat) : Nat → List (I).T → Int → List (T14).T → T8.T → Option R_u37
  | 0, _, _, _, _ => none
  | j + 1, y0, y1, y2, y3 =>
  if ((f_u39 k ).isSome = true) ∧ ((f_u90 k (v_u39 k) y3 2 y2).isSome = true) then
  bif (y1 == (0 : Int) && (v_u90 k (v_u39 k) y3 (2 : Int) y2).2 == (0 : Int) && (↑y0.length : Int) == (1 : Int) && y0.getD (Int.toNat (0 : Int)) I.dflt == (5 : Int) && (↑ (v_u90 k (v_u39 k) y3 (2 : Int) y2).1.length : Int) == (0 : Int)) then
  bif (true && v_u93 k (v_u39 k) y3 (2 : Int) y2 == (0 : Int)) then
  if ((y1 == (0 : Int) && (v_u90 k (v_u39 k) y3 (2 : Int) y2).2 == (0 : Int) && (↑y0.length : Int) == (1 : Int)) = true → (0 : Int) ≤ (0 : Int)) ∧ ((y1 == (0 : Int) && (v_u90 k (v_u39 k) y3 (2 : Int) y2).2 == (0 : Int) && (↑y0.length : Int) == (1 : Int)) = true → (0 : Int) < (↑y0.length : Int)) ∧ ((y1 == (0 : Int) && (v_u90 k (v_u39 k) y3 (2 : Int) y2).2 == (0 : Int) && (↑y0.length : Int) == (1 : Int) && y0.getD (Int.toNat (0 : Int)) I.dflt == (5 : Int) && (↑ (v_u90 k (v_u39 k) y3 (2 : Int) y2).1.length : Int) == (0 : Int)) = true) ∧ ((f_u39 k ).isSome = true) ∧ ((f_u93 k (v_u39 k) y3 2 y2).isSome = true) ∧ ((true && v_u93 k (v_u39 k) y3 (2 : Int) y2 == (0 : Int)) = true) ∧ ((f_u39 k ).isSome = true) ∧ ((f_u93 k (v_u39 k) y3 3 y2).isSome = true) then
  some (true && v_u93 k (v_u39 k) y3 3 y2 == 31)
  else none
  else
  if ((y1 == (0 : Int) && (v_u90 k (v_u39 k) y3 (2 : Int) y2).2 == (0 : Int) && (↑y0.length : Int) == (1 : Int)) = true → (0 : Int) ≤ (0 : Int)) ∧ ((y1 == (0 : Int) && (v_u90 k (v_u39 k) y3 (2 : Int) y2).2 == (0 : Int) && (↑y0.length : Int) == (1 : Int)) = true → (0 : Int) < (↑y0.length : Int)) ∧ ((y1 == (0 : Int) && (v_u90 k (v_u39 k) y3 (2 : Int) y2).2 == (0 : Int) && (↑y0.length : Int) == (1 : Int) && y0.getD (Int.toNat (0 : Int)) I.dflt == (5 : Int) && (↑ (v_u90 k (v_u39 k) y3 (2 : Int) y2).1.length : Int) == (0 : Int)) = true) ∧ ((f_u39 k ).isSome = true) ∧ ((f_u93 k (v_u39 k) y3 2 y2).isSome = true) ∧ ((true && v_u93 k (v_u39 k) y3 (2 : Int) y2 == (0 : Int)) = false) then
  some false
  else none
  else
  if ((y1 == (0 : Int) && (v_u90 k (v_u39 k) y3 (2 : Int) y2).2 == (0 : Int) && (↑y0.length : Int) == (1 : Int)) = true → (0 : Int) ≤ (0 : Int)) ∧ ((y1 == (0 : Int) && (v_u90 k (v_u39 k) y3 (2 : Int) y2).2 == (0 : Int) && (↑y0.length : Int) == (1 : Int)) = true → (0 : Int) < (↑y0.length : Int)) ∧ ((y1 == (0 : Int) && (v_u90 k (v_u39 k) y3 (2 : Int) y2).2 == (0 : Int) && (↑y0.length : Int) == (1 : Int) && y0.getD (Int.toNat (0 : Int)) I.dflt == (5 : Int) && (↑ (v_u90 k (v_u39 k) y3 (2 : Int) y2).1.length : Int) == (0 : Int)) = false) ∧ (false = false) then
  some false
  else none
  else none
def f_u37 (k : Nat)  : Option R_u37 :=
  if ((f_u39 k ).isSome = true) ∧ ((f_u89 k (v_u39 k) (0, true, 200, 101, 1, 0)).isSome = true) then
  f_u37_4 k k ((v_u89 k (v_u39 k) (0, true, 200, 101, 1, 0)).1) ((v_u89 k (v_u39 k) (0, true, 200, 101, 1, 0)).2) ([(2, 5, 0)]) ((0, (true, (200, (101, (1, 0))))))
  else none
def v_u37 (k : Nat)  : R_u37 := (f_u37 k ).getD false
def ke_u37 (k : Nat) : Ke := (6, fun xs => match xs with
  | [] => some []
  | _ => none, fun xs bs => match xs, bs with
  | [], [] => some (.one (res_u37 (v_u37 k ), bo_u37  (v_u37 k )))
  | _, _ => none)
def K_u37 (k : Nat) : Calld := mkK [ke_u89 k, ke_u39 k, ke_u90 k, ke_u93 k]
def cs_u37 : List (Nat × List Cmd) := [(4, [.frz 4 false (RTy.list T14), .autoB [1, 2, 3, 4] false []])]
abbrev E_u37 (todo : List Item) (st : St) (o : Option R_u37) : Prop := ∀ r, o = some r → Ev Tryz.prog Tryz.f6 0 todo st (res_u37 r) (bo_u37  r)
theorem ev_u37 (k : Nat) : ∀ j, (∀ (y0 : List (I).T) (y1 : Int) (y2 : List (T14).T) (y3 : T8.T), E_u37  (placeAt Tryz.f6 4) (st_u37_4 y0 y1 y2 y3) (f_u37_4 k j y0 y1 y2 y3))
  | 0 => fun _ _ _ _ _ h => (nomatch h)
  | j + 1 => by
    have ih := @ev_u37 k  j
    · intro y0 y1 y2 y3 r h
      rw [f_u37_4] at h
      exact go (K_u37 k) [4] cs_u37 [.autoB [0] true []] (gN h (fun q => conjC (cc_u39 q.1) (conjC (cc_u90 q.2) conj0)) fun h => gT h (fun c h => gT h (fun c h => gN h (fun q => conjC q.1 (conjC q.2.1 (conjC q.2.2.1 (conjC (cc_u39 q.2.2.2.1) (conjC (cc_u93 q.2.2.2.2.1) (conjC q.2.2.2.2.2.1 (conjC (cc_u39 q.2.2.2.2.2.2.1) (conjC (cc_u93 q.2.2.2.2.2.2.2) conj0)))))))) fun h => gL h) fun c h => gN h (fun q => conjC q.1 (conjC q.2.1 (conjC q.2.2.1 (conjC (cc_u39 q.2.2.2.1) (conjC (cc_u93 q.2.2.2.2.1) (conjC q.2.2.2.2.2 conj0)))))) fun h => gL h) fun c h => gU2 h (.need [(y1 == (0 : Int) && (v_u90 k (v_u39 k) y3 (2 : Int) y2).2 == (0 : Int) && (↑y0.length : Int) == (1 : Int)) = true → (0 : Int) ≤ (0 : Int), (y1 == (0 : Int) && (v_u90 k (v_u39 k) y3 (2 : Int) y2).2 == (0 : Int) && (↑y0.length : Int) == (1 : Int)) = true → (0 : Int) < (↑y0.length : Int), (y1 == (0 : Int) && (v_u90 k (v_u39 k) y3 (2 : Int) y2).2 == (0 : Int) && (↑y0.length : Int) == (1 : Int) && y0.getD (Int.toNat (0 : Int)) I.dflt == (5 : Int) && (↑ (v_u90 k (v_u39 k) y3 (2 : Int) y2).1.length : Int) == (0 : Int)) = false, false = true, CC Tryz.prog 13 (args_u39 ) (bin_u39 ) (res_u39 (v_u39 k )) (bo_u39  (v_u39 k )), CC Tryz.prog 15 (args_u93 (v_u39 k) y3 3 y2) (bin_u93 (v_u39 k) y3 3 y2) (res_u93 (v_u93 k (v_u39 k) y3 3 y2)) (bo_u93 (v_u39 k) y3 3 y2 (v_u93 k (v_u39 k) y3 3 y2))] (.leaf (.r (.v (.bool ((true && v_u93 k (v_u39 k) y3 3 y2 == 31))))) [])) fun h => gN h (fun q => conjC q.1 (conjC q.2.1 (conjC q.2.2.1 (conjC q.2.2.2 conj0)))) fun h => gL h) (by kernel_rfl)
theorem of_u37 (k : Nat)  (r : R_u37) (h : f_u37 k  = some r) : C_u37  r := by
  refine CC.of (fn := Tryz.f6) (by kernel_rfl) (by kernel_rfl) (by kernel_rfl) (by kernel_rfl) ?_
  unfold f_u37 at h
  exact go (K_u37 k) [4] cs_u37 [.autoB [0] true []] (gN h (fun q => conjC (cc_u39 q.1) (conjC (cc_u89 q.2) conj0)) fun h => gC h 4 ((ev_u37 k  k) _ _ _ _ _)) (by kernel_rfl)
theorem cc_u37 {k : Nat}  (h : (f_u37 k ).isSome = true) : C_u37  (v_u37 k ) := ccG (Φ := C_u37 ) h (of_u37 k )
abbrev R_u40 : Type := T10.T
def res_u40 (r : R_u40) : AV := .agg (rvs (enc T10 r))
def bo_u40 (x_ : T7.T) (r : R_u40) : List (Nat × Blk) := []
def args_u40 (x_ : T7.T) : List AV := [.agg (rvs (enc T7 x_))]
def bin_u40 (x_ : T7.T) : List Blk := []
abbrev C_u40 (x_ : T7.T) (r : R_u40) : Prop := CC Tryz.prog 8 (args_u40 x_) (bin_u40 x_) (res_u40 r) (bo_u40 x_ r)
def f_u40 (k : Nat) (x_ : T7.T) : Option R_u40 :=
  some ((x_.1, ((x_.2.1, x_.2.2.1), (x_.2.2.2.1, (x_.2.2.2.2.1, (x_.2.2.2.2.2.1, x_.2.2.2.2.2.2))))))
def v_u40 (k : Nat) (x_ : T7.T) : R_u40 := (f_u40 k x_).getD (T10).dflt
def ke_u40 (k : Nat) : Ke := (8, fun xs => match xs with
  | [_] => some [false]
  | _ => none, fun xs bs => match xs, bs with
  | [.agg qx_], [] => (decS [] T7 qx_).bind fun x_ => some (.one (res_u40 (v_u40 k x_), bo_u40 x_ (v_u40 k x_)))
  | _, _ => none)
theorem of_u40 (k : Nat) (x_ : T7.T) (r : R_u40) (h : f_u40 k x_ = some r) : C_u40 x_ r := by
  refine CC.of (fn := Tryz.f8) (by kernel_rfl) (by kernel_rfl) (by kernel_rfl) (by kernel_rfl) ?_
  unfold f_u40 at h
  exact go (mkK []) [] [] [.frz 2 true T10, .autoB [2] true []] (gL h) (by kernel_rfl)
theorem cc_u40 {k : Nat} {x_ : T7.T} (h : (f_u40 k x_).isSome = true) : C_u40 x_ (v_u40 k x_) := ccG (Φ := C_u40 x_) h (of_u40 k x_)
end
end Go.AM
namespace Go.AM
open Go Go.Proofs
noncomputable section
end
section
variable (k : Nat) (hk : 301000 ≤ k) (R : List Ro) (W L : Int) (secs : List Sec) (hz : secE secs = 0) (sp : List Spt) (gr : List Grd) (core id : Int) (spans : List Sp) (hl : spans.length ≤ 256) (hs : ∀ s ∈ spans, 0 ≤ s.1 ∧ s.1 < s.2 ∧ s.2 ≤ 17179869184 ∧ s.2 ≤ endS secs) (c : Ch) (hc : Chk c.2.2.2) (f0 : Fac)
include hk hz hl hs hc
end
/-! ### the law -/
abbrev Cas := T7.T
theorem great_4 (k : Nat) (l : List Ro) (hl : l.length ≤ 30) : ∀ (d i j : Nat), i + d = l.length → d < j → (f_u38_4 k j l (l.length : Int) (i : Int)).isSome = true := by
  intro d
  induction d with
  | zero =>
    intro i j hi hj
    obtain ⟨j, rfl⟩ : ∃ q, j = q + 1 := ⟨j - 1, by omega⟩
    rw [f_u38_4, decide_eq_false (by omega : ¬ (i : Int) < (l.length : Int))]; rfl
  | succ d ih =>
    intro i j hi hj
    obtain ⟨j, rfl⟩ : ∃ q, j = q + 1 := ⟨j - 1, by omega⟩
    rw [f_u38_4, decide_eq_true (by omega : (i : Int) < (l.length : Int)), cond_true, if_pos ⟨by omega, by omega⟩, wrapS i (by omega)]
    cases decide ((List.length (l.getD (i : Int).toNat T2.dflt).2.2.2.2.2 : Int) > 20)
    · exact ih (i + 1) j (by omega) (by omega)
    · rfl
theorem great_s (k : Nat) (hk : 100 ≤ k) (x : Cas) : (f_u38 k x).isSome = true := by
  unfold f_u38
  by_cases h : x.1.length > 30
  · rw [decide_eq_true (by omega : (List.length x.1 : Int) > 30), Bool.true_or]; rfl
  · cases decide ((List.length x.2.2.2.2.1 : Int) > 30)
    · rw [decide_eq_false (by omega : ¬ (List.length x.1 : Int) > 30), Bool.or_false, cond_false]
      exact great_4 k x.1 (by omega) x.1.length 0 k (by omega) (by omega)
    · rw [Bool.or_true]; rfl
theorem eqT_fac (p : Fac) : eqT T8 p p = true := by
  show ((p.1 == p.1) && ((p.2.1 == p.2.1) && ((p.2.2.1 == p.2.2.1) && ((p.2.2.2.1 == p.2.2.2.1) && ((p.2.2.2.2.1 == p.2.2.2.2.1) && (p.2.2.2.2.2 == p.2.2.2.2.2)))))) = true
  simp
theorem awake55_s : f_u37 400000 = some true := by kernel_rfl
theorem awake55_v : v_u37 400000 = true := by unfold v_u37; rw [awake55_s]; rfl
end Go.AM
