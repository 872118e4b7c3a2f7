/- Contracts of the functions that the law reaches, and the plain law. -/
import Derived.Test.YtfhbgmaejenmkaaFunb
set_option linter.unusedVariables false
set_option linter.unusedSimpArgs false
set_option linter.unusedSectionVars false
namespace Go.AM
open Go Go.Proofs
noncomputable section
abbrev R_u46 : Type := Bool
def res_u46 (r : R_u46) : AV := .r (.v (.bool r))
def bo_u46 (x_ : T5.T) (p_ : T8.T) (q_ : t59.T) (r : R_u46) : List (Nat × Blk) := []
def args_u46 (x_ : T5.T) (p_ : T8.T) (q_ : t59.T) : List AV := [.agg (rvs (enc T5 x_)), .agg (rvs (enc T8 p_)), .agg (rvs (enc t59 q_))]
def bin_u46 (x_ : T5.T) (p_ : T8.T) (q_ : t59.T) : List Blk := []
abbrev C_u46 (x_ : T5.T) (p_ : T8.T) (q_ : t59.T) (r : R_u46) : Prop := CC Try.prog 5 (args_u46 x_ p_ q_) (bin_u46 x_ p_ q_) (res_u46 r) (bo_u46 x_ p_ q_ r)
def f_u46 (k : Nat) (x_ : T5.T) (p_ : T8.T) (q_ : t59.T) : Option R_u46 :=
  if ((f_u52 k x_).isSome = true) then
  bif (!v_u52 k x_) then
  if ((f_u47 k ).isSome = true) then
  some (v_u47 k)
  else none
  else
  if ((f_u49 k x_).isSome = true) ∧ ((f_u22 k x_.1 (v_u49 k x_) x_.2.2.2 p_.1).isSome = true) then
  if ((f_u49 k x_).isSome = true) ∧ ((f_u5 k x_.1 (v_u49 k x_) p_.1).isSome = true) then
  bif ((v_u22 k x_.1 (v_u49 k x_) x_.2.2.2 p_.1).2 != (0 : Int) || (v_u5 k x_.1 (v_u49 k x_) p_.1).2.2 != (0 : Int) || decide ((v_u5 k x_.1 (v_u49 k x_) p_.1).1 < (1 : Int)) || decide ((v_u5 k x_.1 (v_u49 k x_) p_.1).2.1 < (1 : Int))) then
  bif ((↑ (v_u22 k x_.1 (v_u49 k x_) x_.2.2.2 p_.1).1.length : Int) == (0 : Int)) then
  if (((↑ (v_u22 k x_.1 (v_u49 k x_) x_.2.2.2 p_.1).1.length : Int) == (0 : Int)) = true) ∧ ((f_u47 k ).isSome = true) then
  some (true && v_u47 k)
  else none
  else
  if (((↑ (v_u22 k x_.1 (v_u49 k x_) x_.2.2.2 p_.1).1.length : Int) == (0 : Int)) = false) then
  some false
  else none
  else
  if ((f_u50 k p_.2.1 (v_u5 k x_.1 (v_u49 k x_) p_.1).1).isSome = true) ∧ ((f_u50 k p_.2.2 (v_u5 k x_.1 (v_u49 k x_) p_.1).2.1).isSome = true) then
  if ((f_u49 k x_).isSome = true) ∧ ((f_u6 k x_.1 (v_u49 k x_) (p_.1, v_u50 k p_.2.1 (v_u5 k x_.1 (v_u49 k x_) p_.1).1, v_u50 k p_.2.2 (v_u5 k x_.1 (v_u49 k x_) p_.1).2.1)).isSome = true) then
  if ((0 : Int) ≤ (0 : Int)) ∧ ((0 : Int) < (↑ (2 : Nat) : Int)) ∧ ((0 : Int) ≤ (1 : Int)) ∧ ((1 : Int) < (↑ (2 : Nat) : Int)) then
  bif ((v_u6 k x_.1 (v_u49 k x_) (p_.1, v_u50 k p_.2.1 (v_u5 k x_.1 (v_u49 k x_) p_.1).1, v_u50 k p_.2.2 (v_u5 k x_.1 (v_u49 k x_) p_.1).2.1)).2 == (0 : Int)) then
  bif (true && v_u48 k (v_u22 k x_.1 (v_u49 k x_) x_.2.2.2 p_.1).1 ((0 : Int), q_) (v_u50 k p_.2.1 (v_u5 k x_.1 (v_u49 k x_) p_.1).1) (v_u50 k p_.2.2 (v_u5 k x_.1 (v_u49 k x_) p_.1).2.1) == v_u48 k x_.2.2.2 ((0 : Int), q_) (v_u6 k x_.1 (v_u49 k x_) (p_.1, v_u50 k p_.2.1 (v_u5 k x_.1 (v_u49 k x_) p_.1).1, v_u50 k p_.2.2 (v_u5 k x_.1 (v_u49 k x_) p_.1).2.1)).1.2.1 (v_u6 k x_.1 (v_u49 k x_) (p_.1, v_u50 k p_.2.1 (v_u5 k x_.1 (v_u49 k x_) p_.1).1, v_u50 k p_.2.2 (v_u5 k x_.1 (v_u49 k x_) p_.1).2.1)).1.2.2) then
  if (((v_u6 k x_.1 (v_u49 k x_) (p_.1, v_u50 k p_.2.1 (v_u5 k x_.1 (v_u49 k x_) p_.1).1, v_u50 k p_.2.2 (v_u5 k x_.1 (v_u49 k x_) p_.1).2.1)).2 == (0 : Int)) = true) ∧ ((f_u48 k (v_u22 k x_.1 (v_u49 k x_) x_.2.2.2 p_.1).1 (0, q_) (v_u50 k p_.2.1 (v_u5 k x_.1 (v_u49 k x_) p_.1).1) (v_u50 k p_.2.2 (v_u5 k x_.1 (v_u49 k x_) p_.1).2.1)).isSome = true) ∧ ((f_u48 k x_.2.2.2 (0, q_) (v_u6 k x_.1 (v_u49 k x_) (p_.1, v_u50 k p_.2.1 (v_u5 k x_.1 (v_u49 k x_) p_.1).1, v_u50 k p_.2.2 (v_u5 k x_.1 (v_u49 k x_) p_.1).2.1)).1.2.1 (v_u6 k x_.1 (v_u49 k x_) (p_.1, v_u50 k p_.2.1 (v_u5 k x_.1 (v_u49 k x_) p_.1).1, v_u50 k p_.2.2 (v_u5 k x_.1 (v_u49 k x_) p_.1).2.1)).1.2.2).isSome = true) ∧ ((true && v_u48 k (v_u22 k x_.1 (v_u49 k x_) x_.2.2.2 p_.1).1 ((0 : Int), q_) (v_u50 k p_.2.1 (v_u5 k x_.1 (v_u49 k x_) p_.1).1) (v_u50 k p_.2.2 (v_u5 k x_.1 (v_u49 k x_) p_.1).2.1) == v_u48 k x_.2.2.2 ((0 : Int), q_) (v_u6 k x_.1 (v_u49 k x_) (p_.1, v_u50 k p_.2.1 (v_u5 k x_.1 (v_u49 k x_) p_.1).1, v_u50 k p_.2.2 (v_u5 k x_.1 (v_u49 k x_) p_.1).2.1)).1.2.1 (v_u6 k x_.1 (v_u49 k x_) (p_.1, v_u50 k p_.2.1 (v_u5 k x_.1 (v_u49 k x_) p_.1).1, v_u50 k p_.2.2 (v_u5 k x_.1 (v_u49 k x_) p_.1).2.1)).1.2.2) = true) ∧ ((f_u47 k ).isSome = true) then
  some (true && v_u47 k)
  else none
  else
  if (((v_u6 k x_.1 (v_u49 k x_) (p_.1, v_u50 k p_.2.1 (v_u5 k x_.1 (v_u49 k x_) p_.1).1, v_u50 k p_.2.2 (v_u5 k x_.1 (v_u49 k x_) p_.1).2.1)).2 == (0 : Int)) = true) ∧ ((f_u48 k (v_u22 k x_.1 (v_u49 k x_) x_.2.2.2 p_.1).1 (0, q_) (v_u50 k p_.2.1 (v_u5 k x_.1 (v_u49 k x_) p_.1).1) (v_u50 k p_.2.2 (v_u5 k x_.1 (v_u49 k x_) p_.1).2.1)).isSome = true) ∧ ((f_u48 k x_.2.2.2 (0, q_) (v_u6 k x_.1 (v_u49 k x_) (p_.1, v_u50 k p_.2.1 (v_u5 k x_.1 (v_u49 k x_) p_.1).1, v_u50 k p_.2.2 (v_u5 k x_.1 (v_u49 k x_) p_.1).2.1)).1.2.1 (v_u6 k x_.1 (v_u49 k x_) (p_.1, v_u50 k p_.2.1 (v_u5 k x_.1 (v_u49 k x_) p_.1).1, v_u50 k p_.2.2 (v_u5 k x_.1 (v_u49 k x_) p_.1).2.1)).1.2.2).isSome = true) ∧ ((true && v_u48 k (v_u22 k x_.1 (v_u49 k x_) x_.2.2.2 p_.1).1 ((0 : Int), q_) (v_u50 k p_.2.1 (v_u5 k x_.1 (v_u49 k x_) p_.1).1) (v_u50 k p_.2.2 (v_u5 k x_.1 (v_u49 k x_) p_.1).2.1) == v_u48 k x_.2.2.2 ((0 : Int), q_) (v_u6 k x_.1 (v_u49 k x_) (p_.1, v_u50 k p_.2.1 (v_u5 k x_.1 (v_u49 k x_) p_.1).1, v_u50 k p_.2.2 (v_u5 k x_.1 (v_u49 k x_) p_.1).2.1)).1.2.1 (v_u6 k x_.1 (v_u49 k x_) (p_.1, v_u50 k p_.2.1 (v_u5 k x_.1 (v_u49 k x_) p_.1).1, v_u50 k p_.2.2 (v_u5 k x_.1 (v_u49 k x_) p_.1).2.1)).1.2.2) = false) then
  some false
  else none
  else
  if (((v_u6 k x_.1 (v_u49 k x_) (p_.1, v_u50 k p_.2.1 (v_u5 k x_.1 (v_u49 k x_) p_.1).1, v_u50 k p_.2.2 (v_u5 k x_.1 (v_u49 k x_) p_.1).2.1)).2 == (0 : Int)) = false) ∧ (false = false) then
  some false
  else none
  else none
  else none
  else none
  else none
  else none
  else none
theorem of_u46 (k : Nat) (x_ : T5.T) (p_ : T8.T) (q_ : t59.T) (r : R_u46) (h : f_u46 k x_ p_ q_ = some r) : C_u46 x_ p_ q_ r := by
  refine CC.of (fn := Try.f5) (by kernel_rfl) (by kernel_rfl) (by kernel_rfl) (by kernel_rfl) ?_
  unfold f_u46 at h
  exact go (mkK [ke_u52 k, ke_u22 k, ke_u49 k, ke_u47 k, ke_u5 k, ke_u50 k, ke_u6 k, ke_u48 k]) [] [] [.autoB [6] true []] (gN1 h (fun q => cc_u52 q) fun h => gT h (fun c h => gN1 h (fun q => cc_u47 q) fun h => gL h) fun c h => gN h (fun q => conjC (cc_u49 q.1) (conjC (cc_u22 q.2) conj0)) fun h => gN h (fun q => conjC (cc_u49 q.1) (conjC (cc_u5 q.2) conj0)) fun h => gT h (fun c h => gT h (fun c h => gN h (fun q => conjC q.1 (conjC (cc_u47 q.2) conj0)) fun h => gL h) fun c h => gN1 h id fun h => gL h) fun c h => gN h (fun q => conjC (cc_u50 q.1) (conjC (cc_u50 q.2) conj0)) fun h => gN h (fun q => conjC (cc_u49 q.1) (conjC (cc_u6 q.2) conj0)) fun h => gN h (fun q => conjC q.1 (conjC q.2.1 (conjC q.2.2.1 (conjC q.2.2.2 conj0)))) fun h => gT h (fun c h => gT h (fun c h => gN h (fun q => conjC q.1 (conjC (cc_u48 q.2.1) (conjC (cc_u48 q.2.2.1) (conjC q.2.2.2.1 (conjC (cc_u47 q.2.2.2.2) conj0))))) fun h => gL h) fun c h => gN h (fun q => conjC q.1 (conjC (cc_u48 q.2.1) (conjC (cc_u48 q.2.2.1) (conjC q.2.2.2 conj0)))) fun h => gL h) fun c h => gU2 h (.need [((v_u6 k x_.1 (v_u49 k x_) (p_.1, v_u50 k p_.2.1 (v_u5 k x_.1 (v_u49 k x_) p_.1).1, v_u50 k p_.2.2 (v_u5 k x_.1 (v_u49 k x_) p_.1).2.1)).2 == (0 : Int)) = false, false = true, CC Try.prog 8 (args_u47 ) (bin_u47 ) (res_u47 (v_u47 k )) (bo_u47  (v_u47 k ))] (.leaf (.r (.v (.bool ((true && v_u47 k))))) [])) fun h => gN2 h fun h => gL h) (by kernel_rfl)
end
theorem find_len {m : List Rn} (hc : Chk m) {x : Spt} (hx : SpotOk x) {s : Sp} (hs : s ∈ (findS m x.1.2.2).1) : s.2 ≤ lenS m := by
  have h := find_mem hc hx hs
  obtain ⟨⟨p, q, c, d, e, f⟩, _, _, _, _⟩ := hx
  unfold findS at hs
  rw [if_neg (fun h => h (chk_zero.2 hc)), if_neg (by omega)] at hs
  have h1 := (nf_has (find_in hc x.1.2.2) (s.2 - 1)).1 ((has_iff _ _).2 ⟨s, hs, by omega, by omega⟩)
  have := (fndS_has m 0 x.1.2.2 (s.2 - 1) hc.goods).1 h1
  omega
theorem spots_zero {l : List Ro} {W L id : Int} {sp : List Spt} (h : (spotsS l W L sp id).2 = 0) : (cutFull l W L id).2 = 0 ∧ spotsE sp = 0 ∧ (spotsS l W L sp id).1 = spGoS (cutFull l W L id).1 sp := by
  unfold spotsS at h ⊢
  by_cases h1 : (cutFull l W L id).2 = 0
  · rw [if_neg (fun h : (cutFull l W L id).2 ≠ 0 => h h1)] at h ⊢
    by_cases h2 : spotsE sp = 0
    · rw [if_neg (fun h : spotsE sp ≠ 0 => h h2)] at h ⊢
      by_cases h3 : (spGoS (cutFull l W L id).1 sp).length > 128
      · rw [if_pos h3] at h; exact absurd h (show (8 : Int) ≠ 0 by decide)
      · rw [if_neg h3]; exact ⟨h1, h2, rfl⟩
    · rw [if_pos h2] at h; exact absurd h h2
  · rw [if_pos h1] at h; exact absurd h h1
theorem spots_err {l : List Ro} {W L id : Int} {sp : List Spt} (h : (spotsS l W L sp id).2 ≠ 0) : (spotsS l W L sp id).1 = [] := by
  unfold spotsS at h ⊢
  by_cases h1 : (cutFull l W L id).2 = 0
  · rw [if_neg (fun h : (cutFull l W L id).2 ≠ 0 => h h1)] at h ⊢
    by_cases h2 : spotsE sp = 0
    · rw [if_neg (fun h : spotsE sp ≠ 0 => h h2)] at h ⊢
      by_cases h3 : (spGoS (cutFull l W L id).1 sp).length > 128
      · rw [if_pos h3]
      · rw [if_neg h3] at h; exact absurd rfl h
    · rw [if_pos h2]
  · rw [if_pos h1]
theorem spots_on {l : List Ro} {W L id : Int} {sp : List Spt} {y : Spt} (hy : y ∈ (spotsS l W L sp id).1) : (0 ≤ y.1.1 ∧ y.1.1 < y.1.2.1 ∧ y.1.2.1 ≤ (sizeS l W L id).1 ∧ 0 ≤ y.1.2.2.1 ∧ y.1.2.2.1 < y.1.2.2.2 ∧ y.1.2.2.2 ≤ (sizeS l W L id).2) ∧ ∃ x ∈ sp, y.2 = x.2 := by
  by_cases h : (spotsS l W L sp id).2 = 0
  · obtain ⟨h1, h2, h3⟩ := spots_zero h
    rw [h3] at hy
    obtain ⟨reg, ci⟩ := cut_in h1
    obtain ⟨x, hx, hy⟩ := spGo_mem hy
    have ok := (spotsE_zero h2).2 x hx
    obtain ⟨m1, s, h2, e⟩ := fndl_mem hy
    obtain ⟨f1, f2, f3⟩ := find_mem ci.chk ok h2
    have f4 := find_len ci.chk ok h2
    obtain ⟨a1, a2, a3⟩ := ac_in (c := (cutFull l W L id).1) (a := max x.1.1 (cutFull l W L id).1.1) (b := min x.1.2.1 ((cutFull l W L id).1.1 + (cutFull l W L id).1.2.1)) (by omega) m1 (by omega)
    rw [ci.len] at f4
    have a3 := Int.le_trans a3 (Int.le_of_eq ci.width)
    subst e
    exact ⟨⟨a1, a2, a3, f1, f2, f4⟩, x, hx, rfl⟩
  · rw [spots_err h] at hy; exact absurd hy List.not_mem_nil
theorem sizeE_cut {l : List Ro} {W L id : Int} (h : (cutFull l W L id).2 = 0) : sizeE l W L id = ((sizeS l W L id).1, (sizeS l W L id).2, 0) := by
  have hz := errS_zero.2 (cut_err h)
  unfold sizeE
  rw [if_neg (fun h : errS l W L id ≠ 0 => h hz)]
theorem small_ok {k : Nat} {x : Pap} (h : v_u52 k x = true) : x.2.2.2.length ≤ 130 := by
  by_cases h1 : x.2.2.2.length ≤ 130
  · exact h1
  · exfalso
    unfold v_u52 f_u52 at h
    rw [decide_eq_true (by omega : (List.length x.2.2.2 : Int) > 130), Bool.or_true] at h
    exact absurd (show false = true from h) (by decide)
theorem webE_on {l : List Ro} {W L id a b : Int} (h : (cutFull l W L id).2 = 0) (a0 : 0 ≤ a) (a1 : a < (sizeS l W L id).1) (b0 : 0 ≤ b) (b1 : b < (sizeS l W L id).2) : webE l W L (id, a, b) = ((0, acrS (cutFull l W L id).1 a, imgAt (cutFull l W L id).1.2.2.2 b), 0) := by
  obtain ⟨reg, ci⟩ := cut_in h
  have kn := cut_err h
  have on : On l W L (id, a, b) := ⟨a0, a1, b0, b1⟩
  have ho : onE l W L (id, a, b) = 0 := by
    unfold onE
    rw [if_neg (fun h : errS l W L id ≠ 0 => h (errS_zero.2 kn))]
    exact onS_zero.2 on
  unfold webE
  rw [if_neg (fun h : onE l W L (id, a, b) ≠ 0 => h ho), ci.web _ rfl on]
theorem q_InheritExact (k : Nat) (hk : 301000 ≤ k) (x : Pap) (p : Pt) (q : Int × Int) : f_u46 k x p q = some true := by
  have hs := small_s k (by omega) x
  have hfm : f_u49 k x = some (x.2.1, x.2.2.1) := rfl
  have hvm : v_u49 k x = (x.2.1, x.2.2.1) := rfl
  have hsl := spotsS_len (l := x.1) (W := x.2.1) (L := x.2.2.1) (id := p.1) (sp := x.2.2.2)
  unfold f_u46
  rw [hs, awake43_s k hk, awake43_v k hk, hfm, hvm, inherit_Spots_s k (by omega), inherit_Spots_v k (by omega), fam_Size_s k (by omega), fam_Size_v k (by omega)]
  cases hsm : v_u52 k x
  · rfl
  have hsp := small_ok hsm
  rw [if_pos rfl, Bool.not_true, cond_false, if_pos ⟨rfl, rfl⟩, if_pos ⟨rfl, rfl⟩]
  dsimp only
  by_cases h1 : (spotsS x.1 x.2.1 x.2.2.1 x.2.2.2 p.1).2 = 0
  · obtain ⟨c1, c2, c3⟩ := spots_zero h1
    obtain ⟨reg, ci⟩ := cut_in c1
    have hw := size_ge reg (cut_err c1).kn
    have hsz := reg.small 512 p.1 (reg.anc (cut_err c1).kn)
    rw [sizeE_cut c1]
    dsimp only
    rw [show ((spotsS x.1 x.2.1 x.2.2.1 x.2.2.2 p.1).2 != 0) = false by simp [h1], decide_eq_false (by omega : ¬ (sizeS x.1 x.2.1 x.2.2.1 p.1).1 < 1)]
    by_cases h2 : (sizeS x.1 x.2.1 x.2.2.1 p.1).2 < 1
    · have hn : (spotsS x.1 x.2.1 x.2.2.1 x.2.2.2 p.1).1 = [] := List.eq_nil_iff_forall_not_mem.2 fun y hy => by
        obtain ⟨⟨_, _, _, _, _, _⟩, _⟩ := spots_on hy; omega
      rw [decide_eq_true h2, hn]; rfl
    · rw [decide_eq_false h2]
      obtain ⟨a, fa, va, a0, a1⟩ := pick_s k p.2.1 (sizeS x.1 x.2.1 x.2.2.1 p.1).1 hw (by omega)
      obtain ⟨b, fb, vb, b0, b1⟩ := pick_s k p.2.2 (sizeS x.1 x.2.1 x.2.2.1 p.1).2 (by omega) (by omega)
      rw [fa, va, fb, vb, fam_Web_s k (by omega), fam_Web_v k (by omega), webE_on c1 a0 a1 b0 b1, c3]
      rw [c3] at hsl
      have hin := in_spec (c := (cutFull x.1 x.2.1 x.2.2.1 p.1).1) ci.chk (spotsE_zero c2).2 q a0 (by rw [ci.width]; exact a1) b0 (by rw [ci.len]; exact b1)
      dsimp only
      rw [in_s k (by omega) _ (by omega), in_v k (by omega) _ (by omega), in_s k (by omega) _ (by omega), in_v k (by omega) _ (by omega), hin]
      dsimp only
      generalize inS x.2.2.2 q (acrS (cutFull x.1 x.2.1 x.2.2.1 p.1).1 a) (imgAt (cutFull x.1 x.2.1 x.2.2.1 p.1).1.2.2.2 b) = z
      cases z <;> rfl
  · rw [bne_iff_ne.2 h1, spots_err h1]; rfl
end Go.AM
