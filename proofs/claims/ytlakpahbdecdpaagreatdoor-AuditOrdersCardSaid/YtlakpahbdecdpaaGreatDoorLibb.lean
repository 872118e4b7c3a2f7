/- An abstract machine for loaded code and its soundness. -/
import Derived.Test.YtlakpahbdecdpaaGreatDoorLiba
import Derived.OrdersIn
import Derived.RangeFuncRecord
import Derived.OpenShut
import Derived.SizedLaws
import Derived.WideKeyArgs
import Derived.JoinedOf
import Derived.ProofKit
import Derived.Lib.LaidTab
import Derived.Sort.Grow
import Derived.Deep.Draws
import Derived.HandedShaped
import Derived.Shelf.Vars
import Derived.Below
set_option linter.unusedVariables false
set_option linter.unusedSimpArgs false
set_option linter.unusedSectionVars false
open Bool renaming and_eq_true → qj, false_eq_true → qG, false_or → zn, not_true → vB, or_eq_false_iff → WN, or_eq_true → qJr
open List renaming all_eq_true → vA, append_nil → qY, cons_append → qpk, drop → qaJ, drop_of_length_le → qh, drop_zero → wm, length → qe, length_cons → wc, mem_append → zW, mem_cons → qK, take → qdv, take_append_drop → qnA, take_of_length_le → wI
open Nat renaming add_mul → qaS, beq → qC, ble → qut, eq_of_beq_eq_true → ql, le_of_ble_eq_true → wo, le_refl → qT, zero_add → Yd, zero_le → z8
open Option renaming getD_some → qRI
open Go.IntKind renaming wrap → qa
namespace Go.AM
open Go
section
variable {P : Program} {R : wV} {cx : Cx} {bl : qL} {w : World} {env : Env}
def zL (env : Env) (ρ : List Nat) : Env := fun j => match ρ[j]? with
 | some n => match env n with
  | some (_, h) => some (0, h)
  | none => none
 | none => none
def zs (cx : Cx) (env : Env) (w : World) (ρ : List Nat) (sn : Prop) : Cx :=
 {okb := fun B => B < w.heap.size ∧ (qp cx env w B ∨ (sn ∧ ∃ n v h, env n = some (v, h) ∧ wB h = some B ∧ n ∉ ρ)), w0 := w, ent := fun j => (zL env ρ j).map (·.2) }
theorem Z1 {ρ : List Nat} {j v : Nat} {h : Value} (e : zL env ρ j = some (v, h)) : v = 0 ∧ ∃ n c, ρ[j]? = some n ∧ env n = some (c, h) := by
 unfold zL at e
 split at e
 ·rename_i n hn
  split at e
  ·rename_i c h' he
   simp at e; obtain ⟨rfl, rfl⟩ := e
   exact ⟨rfl, n, c, hn, he⟩
  ·simp at e
 ·simp at e
theorem ZL {ρ : List Nat} {j n c : Nat} {h : Value} (hj : ρ[j]? = some n) (he : env n = some (c, h)) : zL env ρ j = some (0, h) := by simp [zL, hj, he]
theorem vR {ρ : List Nat} {sn : Prop} {j : Nat} {h : Value} (e : (zs cx env w ρ sn).ent j = some h) : ∃ n c, ρ[j]? = some n ∧ env n = some (c, h) := by
 simp only [zs] at e
 cases hi : zL env ρ j with
 | none => simp [hi] at e
 | some x =>
  obtain ⟨v, h'⟩ := x
  simp [hi] at e; subst e
  exact (Z1 hi).2
theorem qO3 {ρ : List Nat} {sn : Prop} {B : Nat} (h : qp cx env w B) : qp (zs cx env w ρ sn) (zL env ρ) w B := by
 refine ⟨.inl ⟨h.2.1, .inl h⟩, h.2.1, fun j v x e => ?_⟩
 obtain ⟨_, n, c, _, he⟩ := Z1 e
 exact h.2.2 _ _ _ he
theorem qEm (hm : Mem cx bl w env) {ρ : List Nat} {sn : Prop} (hs : sn) {n v B : Nat} {h : Value} (e : env n = some (v, h)) (q : wB h = some B) (hn : n ∉ ρ) : qp (zs cx env w ρ sn) (zL env ρ) w B := by
 have hlt := hm.lt e q
 refine ⟨.inl ⟨hlt, .inr ⟨hs, n, v, h, e, q, hn⟩⟩, hlt, fun j v' x e' q' => ?_⟩
 obtain ⟨_, n', c, hj, he⟩ := Z1 e'
 have := hm.inj _ _ _ _ _ _ _ he e q' q
 subst this
 exact hn (List.mem_of_getElem? hj)
theorem ql4 (hm : Mem cx bl w env) {ρ : List Nat} {n v j : Nat} {b : Blk} {Q : Value → Prop} (hc : wS bl n v = some b) (hi : qdK n ρ = some j) (h : Ref env n v Q) : Ref (zL env ρ) j 0 Q := by
 obtain ⟨x, hx, _⟩ := hm.blk _ _ _ (q8 hc)
 exact ⟨0, x, ZL (qqc hi) hx, qT _, fun _ => wz h hx⟩
theorem qv2 (hm : Mem cx bl w env) (ρ : List Nat) (sn : Prop) : qhf w (qp cx env w) env w (qp (zs cx env w ρ sn) (zL env ρ) w) (zL env ρ) (gIn bl ρ) := by
 refine ⟨fun u n v h => ?_, fun u n v o h => ?_, fun u n v s i o h => ?_, fun u n v s lo k h => ?_⟩ <;> simp only [gIn] <;> split <;> first
  | exact .undef _
  | (rename_i b j hc hi
     cases h with
     | own h => exact .own (ql4 hm hc hi h))
  | (rename_i b j hc hi
     cases h with
     | ptr h => exact .ptr (ql4 hm hc hi h))
  | (rename_i b j hc hi
     cases h with
     | elt h => exact .elt (ql4 hm hc hi h))
  | (rename_i b j hc hi
     cases h with
     | sub h => exact .sub (ql4 hm hc hi h))
theorem qHr (ρ : List Nat) (sn : Prop) : qfq w (qp cx env w) w (qp (zs cx env w ρ sn) (zL env ρ) w) := fun _ _ h => h.mono (fun _ h => qO3 h) fun _ _ _ => rfl
theorem qHD (hm : Mem cx bl w env) (ρ : List Nat) (sn : Prop) : (zs cx env w ρ sn).Wf := by
 refine ⟨fun B h => h.1, fun B h hr => ?_⟩
 obtain ⟨j, x, e, q⟩ := hr
 obtain ⟨n, c, hj, he⟩ := vR e
 rcases h.2 with h | ⟨_, n', v, h', e', q', hn⟩
 ·exact h.2.2 _ _ _ he q
 ·have := hm.inj _ _ _ _ _ _ _ he e' q q'
  subst this
  exact hn (List.mem_of_getElem? hj)
theorem qCd (hm : Mem cx bl w env) {ρ : List Nat} (hd : w6 ρ = true) (h99 : ρ.length ≤ 99) {bin : List Blk} (hb : qaU bl ρ ρ = some bin) (sn : Prop) : Mem (zs cx env w ρ sn) (zV 0 (Vb bin)) w (zL env ρ) := by
 obtain ⟨hl, hg⟩ := qdl hb
 constructor
 ·intro j v b e
  rw [QD, qd (z8 _), Nat.sub_zero, qaw] at e
  cases hbj : bin[j]? with
  | none => simp [hbj] at e
  | some b' =>
   simp [hbj] at e; obtain ⟨rfl, rfl⟩ := e
   have hj : j < ρ.length := by rw [← hl]; exact (List.getElem?_eq_some_iff.1 hbj).1
   obtain ⟨c, b0, hc, hb0⟩ := hg j ρ[j] (List.getElem?_eq_getElem hj)
   rw [hbj] at hb0
   simp at hb0; subst hb0
   obtain ⟨x, hx, hr⟩ := hm.blk _ _ _ hc
   exact ⟨x, ZL (List.getElem?_eq_getElem hj) hx, qnV (qv2 hm ρ sn) (.inl (qHr ρ sn)) (fun _ _ => rfl) hr⟩
 ·intro j e _
  rw [QD, qd (z8 _), Nat.sub_zero, qaw] at e
  have : ρ[j]? = none := by
   rw [List.getElem?_eq_none_iff, ← hl, ← List.getElem?_eq_none_iff]
   simpa using e
  simp [zL, this]
 ·intro j h
  exact absurd h (by simp [zs])
 ·intro j j' v v' h h' B e e' q q'
  obtain ⟨_, n, c, hj, he⟩ := Z1 e
  obtain ⟨_, n', c', hj', he'⟩ := Z1 e'
  have := hm.inj _ _ _ _ _ _ _ he he' q q'
  subst this
  exact qfQ hd hj hj'
 ·intro j v h B e q
  obtain ⟨_, n, c, hj, he⟩ := Z1 e
  exact ⟨.inr ⟨h, by simp [zs, e], q⟩, hm.lt he q⟩
 ·exact Grew.refl _
 ·intro B _ _; rfl
 ·intro j h h0 e e0
  simp [zs, e] at e0
  exact e0
 ·intro j h0 e0
  obtain ⟨n, c, hj, he⟩ := vR e0
  exact ⟨by have := (List.getElem?_eq_some_iff.1 hj).1; omega, 0, h0, ZL hj he⟩
def wx (d : Nat) (ρ : List Nat) (j : Nat) : Nat := match ρ[j]? with
 | some n => n
 | none => wk d (j - ρ.length)
theorem YW (bl : qL) (d : Nat) (ρ : List Nat) (j v : Nat) : (wK bl d ρ j v).1 = wx d ρ j := by
 unfold wK wx
 split <;> simp_all
theorem qm0 {d : Nat} {ρ : List Nat} {N : Nat} (hd : w6 ρ = true) (hf : VY d ρ (N - ρ.length) = true) {i j : Nat} (hi : i < N) (hj : j < N) (e : wx d ρ i = wx d ρ j) : i = j := by
 unfold wx at e
 split at e
 ·rename_i n hn
  split at e
  ·rename_i n' hn'
   subst e
   exact qfQ hd hn hn'
  ·rename_i hn'
   have : ρ.length ≤ j := by simpa using hn'
   exact absurd (List.mem_of_getElem? hn) (e ▸ qce hf (j - ρ.length) (by omega))
 ·rename_i hn
  have hi' : ρ.length ≤ i := by simpa using hn
  split at e
  ·rename_i n' hn'
   exact absurd (List.mem_of_getElem? hn') (e ▸ qce hf (i - ρ.length) (by omega))
  ·rename_i hn'
   have : ρ.length ≤ j := by simpa using hn'
   unfold wk at e
   omega
open Classical in
noncomputable def vO (env env' : Env) (bl : qL) (d : Nat) (ρ : List Nat) (N : Nat) : Env := fun nm =>
 if h : ∃ j, j < N ∧ wx d ρ j = nm then (match env' (Classical.choose h) with
  | some (v, x) => some ((wK bl d ρ (Classical.choose h) v).2, x)
  | none => none)
 else env nm
theorem qcU {env' : Env} {d : Nat} {ρ : List Nat} {N : Nat} (hd : w6 ρ = true) (hf : VY d ρ (N - ρ.length) = true) {j : Nat} (hj : j < N) :
  vO env env' bl d ρ N (wx d ρ j) = (match env' j with
   | some (v, x) => some ((wK bl d ρ j v).2, x)
   | none => none) := by
 have h : ∃ i, i < N ∧ wx d ρ i = wx d ρ j := ⟨j, hj, rfl⟩
 have e : Classical.choose h = j := qm0 hd hf (Classical.choose_spec h).1 hj (Classical.choose_spec h).2
 unfold vO
 rw [dif_pos h, e]
theorem Xz {env' : Env} {d : Nat} {ρ : List Nat} {N nm : Nat} (h : ∀ j, j < N → wx d ρ j ≠ nm) : vO env env' bl d ρ N nm = env nm := by
 unfold vO
 rw [dif_neg (fun ⟨j, a, b⟩ => h j a b)]
theorem Z0 : ∀ (wr : List (Nat × Nat × Blk)) (bl : qL) (nm : Nat), (∀ x ∈ wr, x.1 ≠ nm) → qU (wi bl wr) nm = qU bl nm
 | [], bl, nm, _ => rfl
 | (n, v, b) :: wr, bl, nm, h => by
  simp only [wi]
  rw [Z0 wr _ nm fun x hx => h x (by simp [hx]), vU, qm (Ne.symm (h (n, v, b) (by simp)))]
theorem qgF : ∀ (wr : List (Nat × Nat × Blk)) (bl : qL) (i : Nat) (x : Nat × Nat × Blk), wr[i]? = some x → (∀ j y, wr[j]? = some y → y.1 = x.1 → j = i) → qU (wi bl wr) x.1 = some (x.2.1, x.2.2)
 | [], bl, i, x, h, _ => by simp at h
 | (n, v, b) :: wr, bl, 0, x, h, hu => by
  simp at h; subst h
  simp only [wi]
  rw [Z0 wr _ n fun y hy e => ?_, qoP]
  obtain ⟨k, hk⟩ := List.mem_iff_getElem?.1 hy
  have := hu (k + 1) y (by simpa using hk) e
  omega
 | (n, v, b) :: wr, bl, i + 1, x, h, hu => by
  simp only [wi]
  exact qgF wr _ i x (by simpa using h) fun j y hy e => by
   have := hu (j + 1) y (by simpa using hy) e
   omega
theorem qcW {d : Nat} {ρ : List Nat} {bout : List (Nat × Blk)} : ∀ (bs : List (Nat × Blk)) (k j : Nat), (Xx bl d ρ bout bs k)[j]? = (bs[j]?).map fun p => ((wK bl d ρ (k + j) p.1).1, (wK bl d ρ (k + j) p.1).2, trB (qhQ bl d ρ bout) p.2)
 | [], k, j => by simp [Xx]
 | (v, b) :: bs, k, 0 => by simp [Xx]
 | (v, b) :: bs, k, j + 1 => by
  simp only [Xx, List.getElem?_cons_succ]
  rw [qcW bs (k + 1) j, show k + 1 + j = k + (j + 1) by omega]
theorem qpV (hm : Mem cx bl w env) {ρ : List Nat} {d : Nat} {bout : List (Nat × Blk)} {sn : Prop} {w' : World} {env' : Env} (hd : w6 ρ = true) (hρ : ∀ (j n : Nat), ρ[j]? = some n → ∃ v b, qU bl n = some (v, b))
  (hf : VY d ρ (bout.length - ρ.length) = true) (hlen : ρ.length ≤ bout.length) (hm' : Mem (zs cx env w ρ sn) (zV 0 bout) w' env') {v : Value} {res : AV} (hv : Rep w' (qp (zs cx env w ρ sn) env' w') env' v res)
  (hsn : sn → qec res = true ∧ ∀ x ∈ bout, qgh x.2 = true) (hnew : ∀ k, k < bout.length - ρ.length → ¬ cx.hid (wk d k)) :
  Trans cx w env (wi bl (Xx bl d ρ bout bout 0)) w' (vO env env' bl d ρ bout.length) ∧ Rep w' (qp cx (vO env env' bl d ρ bout.length) w') (vO env env' bl d ρ bout.length) v (tr2 (qhQ bl d ρ bout) res) := by
 have hgrow : w.heap.size ≤ w'.heap.size := hm'.grow
 have cal : ∀ j v h, env' j = some (v, h) → j < bout.length ∧ ∃ b, bout[j]? = some (v, b) := fun j v h e => by
  cases hb : qU (zV 0 bout) j with
  | none => rw [hm'.dom j hb (by simp [zs])] at e; simp at e
  | some x =>
   obtain ⟨v', b⟩ := x
   obtain ⟨h', e', _⟩ := hm'.blk _ _ _ hb
   rw [e] at e'
   simp at e'
   rw [QD, qd (z8 _), Nat.sub_zero] at hb
   rw [e'.1]
   exact ⟨(List.getElem?_eq_some_iff.1 hb).1, b, hb⟩
 have calOwn : ∀ j v h B, env' j = some (v, h) → wB h = some B → (w.heap.size ≤ B ∨ ∃ n c h0, ρ[j]? = some n ∧ env n = some (c, h0) ∧ wB h0 = some B) ∧ B < w'.heap.size := fun j v h B e q => by
  obtain ⟨h1, h2⟩ := hm'.own _ _ _ _ e q
  refine ⟨h1.imp id fun ⟨h0, e0, q0⟩ => ?_, h2⟩
  obtain ⟨n, c, hj, he⟩ := vR e0
  exact ⟨n, c, h0, hj, he, q0⟩
 have notRef : ∀ {n c B : Nat} {h : Value}, env n = some (c, h) → wB h = some B → n ∉ ρ → ¬ (zs cx env w ρ sn).refs B := fun {n c B h} e q hn ⟨j, x, e', q'⟩ => by
  obtain ⟨n', c', hj, he⟩ := vR e'
  have := hm.inj _ _ _ _ _ _ _ he e q' q
  subst this
  exact hn (List.mem_of_getElem? hj)
 have okNotRef : ∀ {B : Nat}, qp cx env w B → ¬ (zs cx env w ρ sn).refs B := fun {B} h ⟨j, x, e', q'⟩ => by
  obtain ⟨n', c', hj, he⟩ := vR e'
  exact h.2.2 _ _ _ he q'
 have keepB : ∀ {B : Nat}, B < w.heap.size → ¬ (zs cx env w ρ sn).refs B → w'.heap[B]? = w.heap[B]? := fun h1 h2 => hm'.frame _ h1 h2
 have inρ : ∀ {n : Nat}, n ∈ ρ → ∃ j, j < bout.length ∧ wx d ρ j = n ∧ ρ[j]? = some n := fun {n} h => by
  obtain ⟨j, hj⟩ := List.mem_iff_getElem?.1 h
  have := (List.getElem?_eq_some_iff.1 hj).1
  exact ⟨j, by omega, by simp [wx, hj], hj⟩
 have notρ : ∀ {nm : Nat}, (∀ j, j < bout.length → wx d ρ j ≠ nm) → nm ∉ ρ := fun {nm} h hn => by
  obtain ⟨j, a, b, _⟩ := inρ hn
  exact h j a b
 have verρ : ∀ {j n c v : Nat} {h : Value}, ρ[j]? = some n → env n = some (c, h) → (wK bl d ρ j v).2 = c + v := fun {j n c v h} hj he => by
  obtain ⟨c', b, hc⟩ := hρ j n hj
  obtain ⟨x, hx, _⟩ := hm.blk _ _ _ hc
  rw [he] at hx
  simp at hx
  simp [wK, hj, hc, hx.1]
 have le : env.le (vO env env' bl d ρ bout.length) := fun nm cv h e => by
  by_cases hn : ∃ j, j < bout.length ∧ wx d ρ j = nm
  ·obtain ⟨j, hj, rfl⟩ := hn
   obtain ⟨⟨vj, bj⟩, hb⟩ : ∃ x, bout[j]? = some x := ⟨bout[j], List.getElem?_eq_getElem hj⟩
   obtain ⟨x, hx, _⟩ := hm'.blk j vj bj (by rw [QD, qd (z8 _), Nat.sub_zero]; exact hb)
   refine ⟨(wK bl d ρ j vj).2, x, by rw [qcU hd hf hj, hx], ?_⟩
   cases hρj : ρ[j]? with
   | some n =>
    have hnn : wx d ρ j = n := by simp [wx, hρj]
    rw [hnn] at e
    rw [verρ hρj e]
    refine ⟨by omega, fun q => ?_⟩
    have : vj = 0 := by omega
    subst this
    have hent : (zs cx env w ρ sn).ent j = some h := by simp [zs, ZL hρj e]
    exact (hm'.vers _ _ _ hx hent).symm
   | none =>
    have hnn : wx d ρ j = wk d (j - ρ.length) := by simp [wx, hρj]
    rw [hnn] at e
    have hv2 : (wK bl d ρ j vj).2 = q7 bl (wk d (j - ρ.length)) := by simp [wK, hρj]
    rw [hv2]
    have hlt : cv < q7 bl (wk d (j - ρ.length)) := by
     unfold q7
     cases hg : qU bl (wk d (j - ρ.length)) with
     | none => rw [hm.dom _ hg (hnew _ (by have := List.getElem?_eq_none_iff.1 hρj; omega))] at e; simp at e
     | some y =>
      obtain ⟨c', b'⟩ := y
      obtain ⟨y, hy, _⟩ := hm.blk _ _ _ hg
      rw [e] at hy; simp at hy
      simp [hy.1]
    exact ⟨by omega, fun q => by omega⟩
  ·have hn' : ∀ j, j < bout.length → wx d ρ j ≠ nm := fun j a b => hn ⟨j, a, b⟩
   exact ⟨cv, h, by rw [Xz hn']; exact e, qT _, fun _ => rfl⟩
 have entry : ∀ {nm v : Nat} {h : Value}, vO env env' bl d ρ bout.length nm = some (v, h) → (∃ j vj, j < bout.length ∧ wx d ρ j = nm ∧ env' j = some (vj, h) ∧ v = (wK bl d ρ j vj).2) ∨ ((∀ j, j < bout.length → wx d ρ j ≠ nm) ∧ env nm = some (v, h)) := fun {nm v h} e => by
  by_cases hn : ∃ j, j < bout.length ∧ wx d ρ j = nm
  ·obtain ⟨j, hj, rfl⟩ := hn
   rw [qcU hd hf hj] at e
   split at e
   ·rename_i v' x hx
    simp at e; obtain ⟨rfl, rfl⟩ := e
    exact .inl ⟨j, v', hj, rfl, hx, rfl⟩
   ·simp at e
  ·have hn' : ∀ j, j < bout.length → wx d ρ j ≠ nm := fun j a b => hn ⟨j, a, b⟩
   rw [Xz hn'] at e
   exact .inr ⟨hn', e⟩
 have okO : ∀ B, qp cx env w B → qp cx (vO env env' bl d ρ bout.length) w' B := fun B h => by
  refine ⟨h.1, by have := h.2.1; omega, fun nm v x e q => ?_⟩
  rcases entry e with ⟨j, vj, hj, _, hx, _⟩ | ⟨_, hx⟩
  ·rcases (calOwn _ _ _ _ hx q).1 with h1 | ⟨n, c, h0, hρj, he, q0⟩
   ·have := h.2.1; omega
   ·exact h.2.2 _ _ _ he q0
  ·exact h.2.2 _ _ _ hx q
 have cellO : ∀ B, qp cx env w B → w'.heap[B]? = w.heap[B]? := fun B h => keepB h.2.1 (okNotRef h)
 have ro : ¬ sn → qfq w' (qp (zs cx env w ρ sn) env' w') w' (qp cx (vO env env' bl d ρ bout.length) w') := fun hns u x h => h.mono (fun B hB => by
  obtain ⟨h1, h2, h3⟩ := hB
  have hc : qp cx env w B ∨ w.heap.size ≤ B := by
   rcases h1 with h1 | h1
   ·rcases h1.2 with h | ⟨hs, _⟩
    ·exact .inl h
    ·exact absurd hs hns
   ·exact .inr h1
  refine ⟨?_, h2, fun nm v x e q => ?_⟩
  ·rcases hc with h | h
   ·exact h.1
   ·exact .inr (by have := hm.grow; omega)
  ·rcases entry e with ⟨j, vj, hj, _, hx, _⟩ | ⟨hnn, hx⟩
   ·exact h3 _ _ _ hx q
   ·rcases hc with h | h
    ·exact h.2.2 _ _ _ hx q
    ·have := hm.lt hx q; omega) fun _ _ _ => rfl
 have refO : ∀ {j v : Nat} {Q : Value → Prop} {b : Blk}, bout[j]? = some (v, b) → Ref env' j v Q → Ref (vO env env' bl d ρ bout.length) (wK bl d ρ j v).1 (wK bl d ρ j v).2 Q := fun {j v Q b} hb h => by
  have hj := (List.getElem?_eq_some_iff.1 hb).1
  obtain ⟨x, hx, _⟩ := hm'.blk j v b (by rw [QD, qd (z8 _), Nat.sub_zero]; exact hb)
  refine ⟨(wK bl d ρ j v).2, x, ?_, qT _, fun _ => wz h hx⟩
  rw [YW, qcU hd hf hj, hx]
 have leaf : qhf w' (qp (zs cx env w ρ sn) env' w') env' w' (qp cx (vO env env' bl d ρ bout.length) w') (vO env env' bl d ρ bout.length) (qhQ bl d ρ bout) := by
  refine ⟨fun u n v h => ?_, fun u n v o h => ?_, fun u n v s i o h => ?_, fun u n v s lo k h => ?_⟩ <;> simp only [qhQ] <;> split
  all_goals first
   | exact .undef _
   | (rename_i v' b hb
      cases hq : qC v' v <;> simp only [qg, qi]
      ·exact .undef _
      ·have := ql hq
       subst this
       cases h with
       | own h => exact .own (refO hb h))
   | (rename_i v' b hb
      cases hq : qC v' v <;> simp only [qg, qi]
      ·exact .undef _
      ·have := ql hq
       subst this
       cases h with
       | ptr h => exact .ptr (refO hb h))
   | (rename_i v' b hb
      cases hq : qC v' v <;> simp only [qg, qi]
      ·exact .undef _
      ·have := ql hq
       subst this
       cases h with
       | elt h => exact .elt (refO hb h))
   | (rename_i v' b hb
      cases hq : qC v' v <;> simp only [qg, qi]
      ·exact .undef _
      ·have := ql hq
       subst this
       cases h with
       | sub h => exact .sub (refO hb h))
 have fin : ∀ {x : AV}, (sn → qec x = true) → qfq w' (qp (zs cx env w ρ sn) env' w') w' (qp cx (vO env env' bl d ρ bout.length) w') ∨ qec x = true := fun h => by
  by_cases hs : sn
  ·exact .inr (h hs)
  ·exact .inl (ro hs)
 have wrAt : ∀ j v b, bout[j]? = some (v, b) → qU (wi bl (Xx bl d ρ bout bout 0)) (wx d ρ j) = some ((wK bl d ρ j v).2, trB (qhQ bl d ρ bout) b) := fun j v b hb => by
  have h1 := qcW (bl := bl) (d := d) (ρ := ρ) (bout := bout) bout 0 j
  rw [hb] at h1
  simp only [Yd, Option.map_some] at h1
  have := qgF (Xx bl d ρ bout bout 0) bl j _ h1 fun i y hy e => by
   rw [qcW] at hy
   cases hbi : bout[i]? with
   | none => simp [hbi] at hy
   | some p =>
    simp only [hbi, Yd, Option.map_some, Option.some.injEq] at hy
    rw [← hy] at e
    simp only [YW] at e
    exact qm0 hd hf (List.getElem?_eq_some_iff.1 hbi).1 (List.getElem?_eq_some_iff.1 hb).1 e
  simpa only [YW] using this
 have wrNot : ∀ nm, (∀ j, j < bout.length → wx d ρ j ≠ nm) → qU (wi bl (Xx bl d ρ bout bout 0)) nm = qU bl nm := fun nm h => Z0 _ _ _ fun x hx e => by
  obtain ⟨j, hj⟩ := List.mem_iff_getElem?.1 hx
  rw [qcW] at hj
  cases hbj : bout[j]? with
  | none => simp [hbj] at hj
  | some p =>
   simp only [hbj, Yd, Option.map_some, Option.some.injEq] at hj
   rw [← hj] at e
   simp only [YW] at e
   exact h j (List.getElem?_eq_some_iff.1 hbj).1 e
 have nothid : ∀ j, j < bout.length → ¬ cx.hid (wx d ρ j) := fun j hj => by
  unfold wx
  cases hρj : ρ[j]? with
  | none =>
   have : ρ.length ≤ j := List.getElem?_eq_none_iff.1 hρj
   exact hnew _ (by omega)
  | some n =>
   obtain ⟨v, b, hb⟩ := hρ j n hρj
   exact hm.see hb
 have farO : ∀ nm, cx.hid nm → vO env env' bl d ρ bout.length nm = env nm ∧ ∀ v h B, env nm = some (v, h) → wB h = some B → w'.heap[B]? = w.heap[B]? := fun nm hh => by
  have hn' : ∀ j, j < bout.length → wx d ρ j ≠ nm := fun j a b => nothid j a (b ▸ hh)
  exact ⟨Xz hn', fun v h B e q => keepB (hm.lt e q) (notRef e q (notρ hn'))⟩
 refine ⟨⟨?_, le, okO, cellO, farO⟩, qw6 leaf (fin fun h => (hsn h).1) hv⟩
 constructor
 ·intro nm v b e
  by_cases hn : ∃ j, j < bout.length ∧ wx d ρ j = nm
  ·obtain ⟨j, hj, rfl⟩ := hn
   obtain ⟨⟨vj, bj⟩, hb⟩ : ∃ x, bout[j]? = some x := ⟨bout[j], List.getElem?_eq_getElem hj⟩
   rw [wrAt j vj bj hb] at e
   simp at e; obtain ⟨rfl, rfl⟩ := e
   obtain ⟨x, hx, hr⟩ := hm'.blk j vj bj (by rw [QD, qd (z8 _), Nat.sub_zero]; exact hb)
   refine ⟨x, by rw [qcU hd hf hj, hx], qnV leaf ?_ (fun _ _ => rfl) hr⟩
   by_cases hs : sn
   ·exact .inr ((hsn hs).2 _ (List.mem_of_getElem? hb))
   ·exact .inl (ro hs)
  ·have hn' : ∀ j, j < bout.length → wx d ρ j ≠ nm := fun j a b => hn ⟨j, a, b⟩
   rw [wrNot nm hn'] at e
   obtain ⟨x, hx, hr⟩ := hm.blk _ _ _ e
   refine ⟨x, by rw [Xz hn']; exact hx, hr.mono okO (fun B o hB => zt (cellO B hB) o) le fun B q => keepB (hm.lt hx q) (notRef hx q (notρ hn'))⟩
 ·intro nm e hh
  by_cases hn : ∃ j, j < bout.length ∧ wx d ρ j = nm
  ·obtain ⟨j, hj, rfl⟩ := hn
   obtain ⟨⟨vj, bj⟩, hb⟩ : ∃ x, bout[j]? = some x := ⟨bout[j], List.getElem?_eq_getElem hj⟩
   rw [wrAt j vj bj hb] at e
   simp at e
  ·have hn' : ∀ j, j < bout.length → wx d ρ j ≠ nm := fun j a b => hn ⟨j, a, b⟩
   rw [wrNot nm hn'] at e
   rw [Xz hn']
   exact hm.dom _ e hh
 ·intro nm hh
  rw [wrNot nm fun j a b => nothid j a (b ▸ hh)]
  exact hm.vis nm hh
 ·intro nm nm' v v' h h' B e e' q q'
  rcases entry e with ⟨j, vj, hj, rfl, hx, _⟩ | ⟨hn, hx⟩ <;> rcases entry e' with ⟨j', vj', hj', rfl, hx', _⟩ | ⟨hn', hx'⟩
  ·rw [hm'.inj _ _ _ _ _ _ _ hx hx' q q']
  ·rcases (calOwn _ _ _ _ hx q).1 with h1 | ⟨n, c, h0, hρj, he, q0⟩
   ·have := hm.lt hx' q'; omega
   ·have := hm.inj _ _ _ _ _ _ _ he hx' q0 q'
    subst this
    exact absurd (List.mem_of_getElem? hρj) (notρ hn')
  ·rcases (calOwn _ _ _ _ hx' q').1 with h1 | ⟨n, c, h0, hρj, he, q0⟩
   ·have := hm.lt hx q; omega
   ·have := hm.inj _ _ _ _ _ _ _ he hx q0 q
    subst this
    exact absurd (List.mem_of_getElem? hρj) (notρ hn)
  ·exact hm.inj _ _ _ _ _ _ _ hx hx' q q'
 ·intro nm v h B e q
  rcases entry e with ⟨j, vj, hj, rfl, hx, _⟩ | ⟨hn, hx⟩
  ·obtain ⟨h1, h2⟩ := calOwn _ _ _ _ hx q
   refine ⟨?_, h2⟩
   rcases h1 with h1 | ⟨n, c, h0, hρj, he, q0⟩
   ·exact .inl (by have := hm.grow; omega)
   ·have hnn : wx d ρ j = n := by simp [wx, hρj]
    rw [hnn]
    exact (hm.own _ _ _ _ he q0).1
  ·obtain ⟨h1, h2⟩ := hm.own _ _ _ _ hx q
   exact ⟨h1, by omega⟩
 ·exact hm.gr.trans hm'.gr
 ·intro B hB hr
  rw [← hm.frame B hB hr]
  refine keepB (by have := hm.grow; omega) fun ⟨j, x, e', q'⟩ => ?_
  obtain ⟨n, c, hj, he⟩ := vR e'
  rcases (hm.own _ _ _ _ he q').1 with h1 | ⟨h0, e0, q0⟩
  ·omega
  ·exact hr ⟨_, h0, e0, q0⟩
 ·intro nm h h0 e e0
  rcases entry e with ⟨j, vj, hj, hnn, hx, hv0⟩ | ⟨hn, hx⟩
  ·have h100 := (hm.ents _ _ e0).1
   cases hρj : ρ[j]? with
   | none =>
    have : wx d ρ j = wk d (j - ρ.length) := by simp [wx, hρj]
    rw [this] at hnn
    unfold wk at hnn
    omega
   | some n =>
    have : wx d ρ j = n := by simp [wx, hρj]
    rw [this] at hnn
    subst hnn
    obtain ⟨_, c, hc, e1⟩ := hm.ents _ _ e0
    rw [verρ hρj e1] at hv0
    have hc0 : c = 0 := by omega
    have hv0' : vj = 0 := by omega
    subst hc0; subst hv0'
    have hent : (zs cx env w ρ sn).ent j = some hc := by simp [zs, ZL hρj e1]
    rw [hm'.vers _ _ _ hx hent]
    exact hm.vers _ _ _ e1 e0
  ·exact hm.vers _ _ _ hx e0
 ·intro nm h0 e0
  obtain ⟨h1, v, x, hx⟩ := hm.ents _ _ e0
  obtain ⟨cv', h', e', _, _⟩ := le nm v x hx
  exact ⟨h1, cv', h', e'⟩
end
end Go.AM
namespace Go.AM
open Go
section
variable {P : Program} {R : wV} {cx : Cx} {bl : qL} {w : World} {env : Env}
theorem qCD (hm : Mem cx bl w env) {ok' : Nat → Prop} (hle : ∀ B, qp cx env w B → ok' B) {ns : List Nat} (hok : ∀ n v h B, n ∈ ns → env n = some (v, h) → wB h = some B → ok' B) {x : AV} {u : Value} {a : RTy} {l : List a.T}
  (h : Rep w (qp cx env w) env u x) (e : Qy bl a x = some l) (hn : ∀ n ∈ ZB x, n ∈ ns) : RepR w ok' u (.ro a l) := by
 refine qoz hm hle h e fun nm ver hx hh B eh q => hok nm ver hh B (hn nm ?_) eh q
 rcases hx with rfl | ⟨sz, lo, n, rfl⟩ <;> simp [ZB, Qe]
theorem qG4 {x : AV} : ∀ n ∈ Qe x, n ∈ qus x := by
 intro n hn
 cases x <;> simp_all [Qe, qus]
theorem qiP {α : Type} {f : α → List Nat} {n : Nat} : ∀ {l : List α}, n ∈ zF f l ↔ ∃ x ∈ l, n ∈ f x
 | [] => by simp [zF]
 | x :: l => by simp [zF, qiP (l := l)]
theorem qmp (hm : Mem cx bl w env) {ok' : Nat → Prop} (hle : ∀ B, qp cx env w B → ok' B) {ns : List Nat} (hok : ∀ n v h B, n ∈ ns → env n = some (v, h) → wB h = some B → ok' B) {τ : RTy} {cs : List AV} {us : List Value} {x : τ.T}
  (h : Rp w (qp cx env w) env us cs) (e : qW bl τ cs = some x) (hn : ∀ n ∈ zF Qe cs, n ∈ ns) : All2 (RepR w ok') us (qr τ x) := by
 unfold qW at e
 split at e
 ·rename_i x' z hd
  simp at e; subst e
  have key : ∀ (τ : RTy) (cs r : List AV) (us : List Value) (x : τ.T) (z : List (Nat × Nat)), Rp w (qp cx env w) env us cs → (∀ n ∈ zF Qe cs, n ∈ ns) → zb (qr0 bl) τ cs = some (x, r, z) →
    ∃ u1 u2, us = u1 ++ u2 ∧ All2 (RepR w ok') u1 (qr τ x) ∧ Rp w (qp cx env w) env u2 r ∧ ∀ n ∈ zF Qe r, n ∈ ns := by
   intro τ
   induction τ with
   | int k =>
    intro cs r us x z h hn e
    simp only [zb] at e
    split at e
    ·split at e
     ·rename_i hk
      simp at e; obtain ⟨rfl, rfl, rfl⟩ := e
      subst hk
      cases h with
      | cons h t => exact ⟨[_], _, rfl, .cons (by rw [qP h]; exact .v _) .nil, t, fun n hh => hn n (by simp [zF, hh])⟩
     ·simp at e
    ·simp at e
   | bool =>
    intro cs r us x z h hn e
    simp only [zb] at e
    split at e
    ·simp at e; obtain ⟨rfl, rfl, rfl⟩ := e
     cases h with
     | cons h t => exact ⟨[_], _, rfl, .cons (by rw [qP h]; exact .v _) .nil, t, fun n hh => hn n (by simp [zF, hh])⟩
    ·simp at e
   | str =>
    intro cs r us x z h hn e
    simp only [zb] at e
    split at e
    ·simp at e; obtain ⟨rfl, rfl, rfl⟩ := e
     cases h with
     | cons h t => exact ⟨[_], _, rfl, .cons (by rw [qP h]; exact .v _) .nil, t, fun n hh => hn n (by simp [zF, hh])⟩
    ·simp at e
   | fn =>
    intro cs r us x z h hn e
    simp only [zb] at e
    split at e
    ·simp at e; obtain ⟨rfl, rfl, rfl⟩ := e
     cases h with
     | cons h t => exact ⟨[_], _, rfl, .cons (by rw [qP h]; simp; exact .v _) .nil, t, fun n hh => hn n (by simp [zF, hh])⟩
    ·simp at e
   | unit =>
    intro cs r us x z h hn e
    simp [zb] at e; obtain ⟨rfl, rfl⟩ := e
    exact ⟨[], us, rfl, .nil, h, hn⟩
   | pair a b iha ihb =>
    intro cs r us x z h hn e
    simp only [zb] at e
    split at e
    ·rename_i x1 r1 z1 h1
     split at e
     ·rename_i y r2 z2 h2
      simp at e; obtain ⟨rfl, rfl, rfl⟩ := e
      obtain ⟨u1, u2, rfl, a1, a2, a3⟩ := iha cs r1 us x1 z1 h hn h1
      obtain ⟨u3, u4, rfl, b1, b2, b3⟩ := ihb r1 r2 u2 y z2 a2 a3 h2
      exact ⟨u1 ++ u3, u4, by simp, a1.append b1, b2, b3⟩
     ·simp at e
    ·simp at e
   | list a _ =>
    intro cs r us x z h hn e
    simp only [zb] at e
    split at e
    ·rename_i y r'
     split at e
     ·rename_i l z' hl
      simp at e; obtain ⟨rfl, rfl, rfl⟩ := e
      unfold qr0 at hl
      split at hl
      ·rename_i l' hl'
       simp at hl; obtain ⟨rfl, _⟩ := hl
       cases h with
       | cons h t =>
        refine ⟨[_], _, rfl, .cons (qoz hm hle h hl' fun nm ver hx hh B eh q => hok nm ver hh B (hn nm ?_) eh q) .nil, t, fun n hh => hn n (by simp [zF, hh])⟩
        rcases hx with rfl | ⟨sz, lo, n, rfl⟩ <;> simp [zF, Qe]
      ·simp at hl
     ·simp at e
    ·simp at e
  obtain ⟨u1, u2, rfl, a1, a2, _⟩ := key τ cs [] us x' z h hn hd
  cases a2
  simpa using a1
 ·simp at e
theorem quW (hm : Mem cx bl w env) {ρ : List Nat} {sn : Prop} {t : TypeId} {u : Value} {x y : AV} (h : Rep w (qp cx env w) env u x) (e : qy1 P R bl t x = some y) (hs : ∀ n ∈ ZB x, sn ∧ n ∉ ρ) :
  Rep w (qp (zs cx env w ρ sn) (zL env ρ) w) (zL env ρ) u y := by
 have hle : ∀ B, qp cx env w B → qp (zs cx env w ρ sn) (zL env ρ) w B := fun B h => qO3 h
 have hok : ∀ n v h B, n ∈ ZB x → env n = some (v, h) → wB h = some B → qp (zs cx env w ρ sn) (zL env ρ) w B := fun n v h B hn eh q => qEm hm (hs n hn).1 eh q (hs n hn).2
 unfold qy1 at e
 split at e
 ·split at e
  ·rename_i τ hτ
   split at e
   ·rename_i l hl
    simp at e; subst e
    exact .r (qCD hm hle hok h hl fun n hn => hn)
   ·simp at e
  ·simp at e
 ·split at e
  ·rename_i τ hτ
   split at e
   ·rename_i z hz
    simp at e; subst e
    split at hz
    ·rename_i vs
     rw [qP h]
     have := qmp hm hle (ns := []) (fun n v h B hn => by simp at hn) (zQ vs.toList) hz (fun n hn => by
      have : ∀ l : List Value, zF Qe (zx l) = [] := fun l => by induction l <;> simp [zx, zF, Qe, *]
      rw [this] at hn; exact hn)
     simpa using Z3 (WI (env := zL env ρ) this)
    ·rename_i l
     obtain ⟨vs, rfl, hv⟩ := zO h
     have := qmp hm hle hok hv hz fun n hn => by
      obtain ⟨x, hx, hn⟩ := qiP.1 hn
      exact qiP.2 ⟨x, hx, qG4 n hn⟩
     simpa using Z3 (WI (env := zL env ρ) this)
    ·simp at hz
   ·simp at e
  ·simp at e
 ·split at e
  ·simp at e; subst e
   rw [qP h]
   exact wt _
  ·simp at e
 ·simp at e
theorem Vd (hm : Mem cx bl w env) {ρ : List Nat} {sn : Prop} : ∀ {ts : List TypeId} {ms : List Bool} {us : List Value} {xs ys : List AV}, Rp w (qp cx env w) env us xs → zS P R bl ρ ts ms xs = some ys → (∀ n ∈ wy ms xs, sn ∧ n ∉ ρ) →
  All2 (Rep w (qp (zs cx env w ρ sn) (zL env ρ) w) (zL env ρ)) us ys
 | [], [], _, [], ys, .nil, e, _ => by simp [zS] at e; subst e; exact .nil
 | t :: ts, m :: ms, _, x :: xs, ys, .cons h tl, e, hs => by
  simp only [zS] at e
  split at e
  ·rename_i y hy
   split at e
   ·rename_i r hr
    simp at e; subst e
    cases m with
    | true =>
     simp at hy; subst hy
     exact .cons (vi (qv2 hm ρ sn) (.inl (qHr ρ sn)) h) (Vd hm tl hr fun n hn => hs n (by simpa [wy] using hn))
    | false =>
     simp only at hy
     exact .cons (quW hm h hy fun n hn => hs n (by simp [wy, hn])) (Vd hm tl hr fun n hn => hs n (by simp [wy, hn]))
   ·simp at e
  ·simp at e
 | [], _ :: _, _, [], _, _, e, _ => by simp [zS] at e
 | _ :: _, [], _, [], _, _, e, _ => by simp [zS] at e
 | _ :: _, _ :: _, _, [], _, _, e, _ => by simp [zS] at e
 | [], [], _, _ :: _, _, _, e, _ => by simp [zS] at e
 | [], _ :: _, _, _ :: _, _, _, e, _ => by simp [zS] at e
 | _ :: _, [], _, _ :: _, _, _, e, _ => by simp [zS] at e
theorem qB6 [GT P] (hG : cx.Gok P) (hm : Mem cx bl w env) (ρ : List Nat) (sn : Prop) : (zs cx env w ρ sn).Gok P := by
 obtain ⟨top, h1, h2, h3, h4⟩ := hG
 refine ⟨top, h1, Nat.le_trans h2 hm.grow, fun B hB => ?_, fun B ⟨j, x, e, q⟩ => ?_⟩
 ·show w.heap[B]? = top.heap[B]?
  rw [← h3 B hB]
  exact hm.frame B (by omega) fun hr => by have := h4 B hr; omega
 ·obtain ⟨n, c, hj, he⟩ := vR e
  rcases (hm.own _ _ _ _ he q).1 with h | ⟨h0, e0, q0⟩
  ·omega
  ·exact h4 B ⟨_, h0, e0, q0⟩
theorem qgX [GT P] (hG : cx.Gok P) (hm : Mem cx bl w env) {d : Option Nat} {g : Nat} {us : List Value} {as : List AV} {cr : CallRes} {ρ : List Nat} {φ : List Prop} {dl : Dl} (h : Rp w (qp cx env w) env us as) (e : qbm P R bl d g as cr ρ = some (φ, dl)) (hφ : zk φ) (hnew : ∀ k, k < 16 → ¬ cx.hid (wk (d.getD 0) k)) :
  dl.dst = d ∧ (∃ fn c, P.funcs[g]? = some fn ∧ fn.body = some c ∧ (fn.name == "runtime.NumGoroutine") = false) ∧ Calls P g us.toArray w fun en w' => ∃ v env', en = .returned v ∧ Trans cx w env (wi bl dl.wr) w' env' ∧ Rep w' (qp cx env' w') env' v dl.v := by
 unfold qbm at e
 split at e
 ·rename_i fn hfn
  split at e
  ·rename_i cargs hca
   split at e
   ·rename_i bin hbin
    cases hq : qam (d.getD 0) ρ (wy cr.modes as) cr <;> simp only [hq, qg, qi] at e
    ·simp at e
    simp at e; obtain ⟨rfl, rfl⟩ := e
    simp only [qam, qj] at hq
    obtain ⟨q1, q2, q3, q4, q5, q6⟩ := hq
    have q6 := wo q6
    have q2 := wo q2
    have q3 := wo q3
    have hcc : CC P g cargs bin cr.res cr.bout := hφ _ (by simp)
    obtain ⟨hfun, hcall⟩ := hcc
    refine ⟨rfl, hfun, ?_⟩
    have hns : ∀ n ∈ wy cr.modes as, (wy cr.modes as ≠ []) ∧ n ∉ ρ := fun n hn => by
     refine ⟨fun h => by rw [h] at hn; simp at hn, fun hρ => ?_⟩
     cases hs : wy cr.modes as with
     | nil => rw [hs] at hn; simp at hn
     | cons a l =>
      rw [hs] at q1 hn
      simp only [qhF, qj] at q1
      have := vA.1 q1.2.2 n hn
      rw [wA.2 hρ] at this
      simp at this
    have hargs := Vd (P := P) (R := R) hm (sn := wy cr.modes as ≠ []) h hca hns
    have hmem := qCd hm q4 q3 hbin (wy cr.modes as ≠ [])
    have := hcall (zs cx env w ρ (wy cr.modes as ≠ [])) (zL env ρ) us.toArray (qHD hm ρ _) (qB6 hG hm ρ _) (by simp [zs]) (fun nm x => by
     constructor
     ·intro e
      obtain ⟨n, c, hj, he⟩ := vR e
      exact ZL hj he
     ·intro e
      simp [zs, e]) hmem (by simpa using hargs.length) (fun i hi => by
     have hg := hargs.get Go.undef .undef i hi
     have e : us.toArray.getD i Go.undef = us.getD i Go.undef := by simp
     rw [e]
     exact hg)
    refine this.mono fun en w' ⟨v, env', he, hm', hv⟩ => ?_
    obtain ⟨o1, o2⟩ := qpV (d := d.getD 0) hm q4 (fun j n hj => by
     obtain ⟨v, b, hb, _⟩ := (qdl hbin).2 j n hj
     exact ⟨v, b, hb⟩) q5 q2 hm' hv (fun hs => by
      cases hs' : wy cr.modes as with
      | nil => exact absurd hs' hs
      | cons a l =>
       rw [hs'] at q1
       simp only [qhF, qj] at q1
       exact ⟨q1.1, fun x hx => vA.1 q1.2.1 x hx⟩) (fun k hk => hnew k (by omega))
    exact ⟨v, _, he, o1, o2⟩
   ·simp at e
  ·simp at e
 ·simp at e
theorem quY : ∀ (bl : qL) (n v : Nat) (b : Blk), qU bl n = some (v, b) → zT bl n v b = bl
 | [], _, _, _, h => by simp [qU] at h
 | (m, v', b') :: r, n, v, b, h => by
  simp only [qU] at h
  simp only [zT]
  cases e : qC m n
  ·rw [e, qg] at h
   rw [qg, quY r n v b h]
  ·rw [e, qi] at h
   have := ql e
   subst this
   cases h
   rfl
theorem qix {n v : Nat} {b : Blk} {bl : qL} : ∀ (ks : List Bool) (wr : List (Nat × Nat × Blk)), n ∉ WZ wr → Z7 bl ks wr → Z7 (zT bl n v b) ks wr
 | [], _, _, _ => by simp [Z7]
 | true :: ks, [], _, _ => by simp [Z7]
 | false :: ks, [], _, _ => by simp [Z7]
 | true :: ks, (m, v', b') :: r, hn, h => by
  simp only [WZ, qK, not_or] at hn
  simp only [Z7] at h ⊢
  refine ⟨?_, qix ks r hn.2 h.2⟩
  rw [vU, qm (fun e => hn.1 e.symm)]
  exact h.1
 | false :: ks, (m, v', b') :: r, hn, h => by
  simp only [WZ, qK, not_or] at hn
  simp only [Z7] at h ⊢
  exact qix ks r hn.2 h
theorem qfN : ∀ (ks : List Bool) (wr : List (Nat × Nat × Blk)) (bl : qL), w6 (WZ wr) = true → Z7 bl ks wr → wi bl (Vn ks wr) = wi bl wr
 | [], wr, bl, _, _ => by simp [Vn]
 | true :: ks, [], bl, _, _ => by simp [Vn]
 | false :: ks, [], bl, _, _ => by simp [Vn]
 | true :: ks, (n, v, b) :: r, bl, hn, h => by
  simp only [WZ, w6, qj] at hn
  simp only [Z7] at h
  simp only [Vn, wi]
  rw [quY bl n v b h.1, qfN ks r bl hn.2 h.2]
 | false :: ks, (n, v, b) :: r, bl, hn, h => by
  simp only [WZ, w6, qj] at hn
  simp only [Z7] at h
  simp only [Vn, wi]
  exact qfN ks r _ hn.2 (qix ks r (fun hm => by rw [wA.2 hm] at hn; exact absurd hn.1 (by simp)) h)
theorem qhX [GT P] (hG : cx.Gok P) (hm : Mem cx bl w env) {d : Option Nat} {g : Nat} {us : List Value} {as : List AV} {ora ora' : List Or} {φ : List Prop} {dl : Dl} (h : Rp w (qp cx env w) env us as) (e : qan P R bl d g as ora = some (φ, dl, ora')) (hφ : zk φ) (hnew : ∀ k, k < 16 → ¬ cx.hid (wk (d.getD 0) k)) :
  dl.dst = d ∧ (∃ fn c, P.funcs[g]? = some fn ∧ fn.body = some c ∧ (fn.name == "runtime.NumGoroutine") = false) ∧ Calls P g us.toArray w fun en w' => ∃ v env', en = .returned v ∧ Trans cx w env (wi bl dl.wr) w' env' ∧ Rep w' (qp cx env' w') env' v dl.v := by
 unfold qan at e
 split at e
 ·rename_i cr _
  split at e
  ·split at e
   ·rename_i φ' dl' he
    simp at e; obtain ⟨rfl, rfl, rfl⟩ := e
    exact qgX hG hm h he hφ hnew
   ·simp at e
  ·rename_i f ks _
   split at e
   ·rename_i φ' dl' he
    cases hn : w6 (WZ dl'.wr)
    ·rw [hn] at e; simp at e
    ·rw [hn] at e
     simp only [qi, Option.some.injEq, Prod.mk.injEq] at e
     obtain ⟨rfl, rfl, rfl⟩ := e
     have := qgX hG hm h he (fun p hp => hφ p (List.mem_cons_of_mem _ hp)) hnew
     show dl'.dst = d ∧ _ ∧ Calls P g us.toArray w fun en w' => ∃ v env', en = .returned v ∧ Trans cx w env (wi bl (Vn (f :: ks) dl'.wr)) w' env' ∧ Rep w' (qp cx env' w') env' v dl'.v
     rw [qfN _ _ _ hn (hφ _ (by simp))]
     exact this
   ·simp at e
 ·simp at e
theorem qoG [GT P] (hG : cx.Gok P) (hm : Mem cx bl w env) {d : Option Nat} {nm ver l : Nat} {r : Loop} {rc : Rc} {us : List Value} {as : List AV} {cr : CallRes} {ρ : List Nat} {φ : List Prop} {dl : Dl} (he : env nm = some (ver, .func (.yield l) #[] #[])) (hr : w.heap[l]? = some (.loop r)) (h : Rp w (qp cx env w) env us as) (e : qfI P R bl d nm rc as cr ρ = some (φ, dl)) (hφ : zk φ) (hnew : ∀ k, k < 16 → ¬ cx.hid (wk (d.getD 0) k)) :
  dl.dst = d ∧ us.length = rc.ps.length ∧ qmY P l r.fn ((r.params.zip us.toArray).foldl (fun tmps (t, a) => tmps.setIfInBounds t a) r.tmps) r.assign r.body w fun v w' => ∃ env', Trans cx w env (wi bl dl.wr) w' env' ∧ Rep w' (qp cx env' w') env' v dl.v := by
 unfold qfI at e
 cases hlen : qC as.length rc.ps.length with
 | false => rw [hlen] at e; simp at e
 | true =>
 cases ρ with
 | nil => simp at e
 | cons n0 ρ' =>
 cases hhead : qC n0 nm with
 | false => simp [hlen, hhead] at e
 | true =>
  simp only [hlen, hhead, Bool.and_true, qi] at e
  have hlen := ql hlen
  have hhead := ql hhead
  generalize hρ : n0 :: ρ' = ρ at e
  have hρ0 : ρ[0]? = some nm := by rw [← hρ, ← hhead]; rfl
  split at e
  ·rename_i cargs hca
   split at e
   ·rename_i bin hbin
    cases hq : qam (d.getD 0) ρ (wy cr.modes as) cr <;> simp only [hq, qg, qi] at e
    ·simp at e
    simp at e; obtain ⟨rfl, rfl⟩ := e
    simp only [qam, qj] at hq
    obtain ⟨q1, q2, q3, q4, q5, q6⟩ := hq
    have q6 := wo q6
    have q2 := wo q2
    have q3 := wo q3
    have hcall : YC P cargs bin cr.res cr.bout := hφ _ (by simp)
    refine ⟨rfl, by rw [h.length]; exact hlen, fun c cs => ?_⟩
    have hns : ∀ n ∈ wy cr.modes as, (wy cr.modes as ≠ []) ∧ n ∉ ρ := fun n hn => by
     refine ⟨fun h => by rw [h] at hn; simp at hn, fun hρ => ?_⟩
     cases hs : wy cr.modes as with
     | nil => rw [hs] at hn; simp at hn
     | cons a l =>
      rw [hs] at q1 hn
      simp only [qhF, qj] at q1
      have := vA.1 q1.2.2 n hn
      rw [wA.2 hρ] at this
      simp at this
    have hargs := Vd (P := P) (R := R) hm (sn := wy cr.modes as ≠ []) h hca hns
    have hmem := qCd hm q4 q3 hbin (wy cr.modes as ≠ [])
    obtain ⟨v, w', ⟨env', hm', hv⟩, hst⟩ := hcall (zs cx env w ρ (wy cr.modes as ≠ [])) (zL env ρ) us.toArray l r (qHD hm ρ _) (qB6 hG hm ρ _) (by simp [zs]) (fun nm x => by
     constructor
     ·intro e
      obtain ⟨n, c, hj, he⟩ := vR e
      exact ZL hj he
     ·intro e
      simp [zs, e]) hmem (ZL (hρ0) he) hr (by simpa using hargs.length) (fun i hi => by
     have hg := hargs.get Go.undef .undef i hi
     have e : us.toArray.getD i Go.undef = us.getD i Go.undef := by simp
     rw [e]
     exact hg) c cs
    refine ⟨v, w', ?_, hst⟩
    obtain ⟨o1, o2⟩ := qpV (d := d.getD 0) hm q4 (fun j n hj => by
     obtain ⟨v, b, hb, _⟩ := (qdl hbin).2 j n hj
     exact ⟨v, b, hb⟩) q5 q2 hm' hv (fun hs => by
      cases hs' : wy cr.modes as with
      | nil => exact absurd hs' hs
      | cons a l =>
       rw [hs'] at q1
       simp only [qhF, qj] at q1
       exact ⟨q1.1, fun x hx => vA.1 q1.2.1 x hx⟩) (fun k hk => hnew k (by omega))
    exact ⟨_, o1, o2⟩
   ·simp at e
  ·simp at e
theorem qqt [GT P] (hG : cx.Gok P) (hm : Mem cx bl w env) {d : Option Nat} {nm ver l : Nat} {r : Loop} {rc : Rc} {us : List Value} {as : List AV} {ora ora' : List Or} {φ : List Prop} {dl : Dl} (he : env nm = some (ver, .func (.yield l) #[] #[])) (hr : w.heap[l]? = some (.loop r)) (h : Rp w (qp cx env w) env us as) (e : qd6 P R bl d nm rc as ora = some (φ, dl, ora')) (hφ : zk φ) (hnew : ∀ k, k < 16 → ¬ cx.hid (wk (d.getD 0) k)) :
  dl.dst = d ∧ us.length = rc.ps.length ∧ qmY P l r.fn ((r.params.zip us.toArray).foldl (fun tmps (t, a) => tmps.setIfInBounds t a) r.tmps) r.assign r.body w fun v w' => ∃ env', Trans cx w env (wi bl dl.wr) w' env' ∧ Rep w' (qp cx env' w') env' v dl.v := by
 unfold qd6 at e
 split at e
 ·split at e
  ·rename_i φ' dl' h'
   simp at e; obtain ⟨rfl, rfl, rfl⟩ := e
   exact qoG hG hm he hr h h' hφ hnew
  ·simp at e
 ·simp at e
end
end Go.AM
namespace Go.AM
open Go
def FR (ro : Option Nat) : Fence := { fn := fun _ => True, depth := none, alive := false, round := ro }
theorem qCH (P : Program) (ro : Option Nat) (m : Machine) : m.fenced P (FR ro) := by
 intro g _
 refine ⟨fun h => ?_, Or.inl trivial, fun _ _ => trivial, fun _ h => ?_⟩
 ·simp [FR] at h
 ·simp [FR] at h
theorem qKW (ro : Option Nat) (n : Nat) : (FR ro).room n := fun _ h => by simp [FR] at h
theorem qaX {P : Program} {ro : Option Nat} {m m' : Machine} : StepsIn (Machine.fenced P (FR ro)) P m m' ↔ Steps P m m' :=
 ⟨StepsIn.steps, fun h => (StepsIn.of_steps h).mono fun m _ => qCH P ro m⟩
section
variable {P : Program} {R : wV} {cx : Cx} {w : World} {env : Env}
theorem qzf {ro : Option Nat} {n : Nat} {f : FuncId} {args : Array Value} {w : World} {Q : Ending → World → Prop} (hn : ∀ w', ¬ Q .outgrown w') (h : Calls P f args w Q) : CallsIn (FR ro) n P f args w Q :=
 ⟨trivial, fun cs _ => let ⟨e, w', fr, r, s, x⟩ := h cs; ⟨e, w', fr, r, by
   cases e with
   | returned v => exact qaX.2 s
   | panicked c => exact qaX.2 s
   | outgrown => exact absurd r (hn _), x⟩⟩
theorem qyX {ro : Option Nat} {n l : Nat} {f : FuncId} {tmps : Array Value} {assign body : Code} {w : World} {Q : Value → World → Prop} {Q' : Ending → World → Prop} (hq : ∀ v w', Q v w' → Q' (.returned v) w') (h : qmY P l f tmps assign body w Q) : RoundIn (FR ro) n P l f tmps assign body w Q' :=
 ⟨trivial, fun c cs _ => let ⟨v, w', r, s⟩ := h c cs; ⟨.returned v, w', hq _ _ r, qaX.2 s⟩⟩
structure InvR (cx : Cx) (used : List Nat) (st : St) (a : Act) (w : World) (env : Env) : Prop extends Inv cx st a w env where
 gds : ∀ (i s : Nat) (b : Bool) (x : AV), st.slots[i]? = some (AV.gd s b x) → s ∈ used ∧ zg x = true
theorem Q1 : ∀ (l : List AV) (k : Nat) (v : AV), qle l k v = l.set k v
 | [], _, _ => rfl
 | _ :: _, 0, _ => rfl
 | x :: l, k + 1, v => by simp [qle, Q1 l k v]
theorem qd3 {used used' : List Nat} {st : St} {a : Act} {w' : World} {env' : Env} (hi : InvR cx used st a w env) {dl : Dl} {v : Value} (T : Trans cx w env (wi st.blks dl.wr) w' env') (hsub : ∀ s ∈ used, s ∈ used') (hfree : ∀ k, dl.dst = some k → k ∉ used')
  (hv : ∀ k, dl.dst = some k → W8 w' (qp cx env' w') env' (a.put dl.dst v).tmps v dl.v) (hg : ∀ k, dl.dst = some k → ∀ s b x, dl.v = .gd s b x → s ∈ used' ∧ zg x = true) : InvR cx used' (st.app dl) (a.put dl.dst v) w' env' := by
 have other : ∀ {tmps' : Array Value}, (∀ s ∈ used, tmps'[s]? = a.tmps[s]?) → ∀ i, i < st.slots.length → ∀ u, u = a.tmps.getD i Go.undef → W8 w' (qp cx env' w') env' tmps' u (st.slots.getD i .undef) := fun {tmps'} hs i hi' u hu => by
  subst hu
  have h := hi.slot i hi'
  have he : st.slots[i]? = some (st.slots.getD i .undef) := by simp [hi']
  cases hx : st.slots.getD i .undef with
  | gd s b x =>
   rw [hx] at h he
   have := hi.gds i s b x he
   simp only [W8] at h ⊢
   rw [hs s this.1]
   exact ⟨fun e => T.rep (h.1 e), h.2⟩
  | _ => rw [hx] at h; exact T.rep h
 cases hd : dl.dst with
 | none =>
  refine ⟨⟨hi.defers.mono (qT _) T.ok T.cell, by simpa [St.app, Act.put, hd] using hi.size, fun i h => ?_, T.mem⟩, fun i s b x e => ?_⟩
  ·simp only [St.app, hd, Act.put] at h ⊢
   exact other (fun _ _ => rfl) i h _ rfl
  ·simp only [St.app, hd] at e
   have := hi.gds i s b x e
   exact ⟨hsub s this.1, this.2⟩
 | some k =>
  have hv := hv k hd
  have hfree := hfree k hd
  rw [hd] at hv
  refine ⟨⟨hi.defers.mono (qT _) T.ok T.cell, by simp [St.app, Act.put, hd, Q1, hi.size], fun i h => ?_, T.mem⟩, fun i s b x e => ?_⟩
  ·simp only [St.app, hd, Q1, List.length_set] at h ⊢
   by_cases hk : i = k
   ·subst hk
    have h1 : (a.put (some i) v).tmps.getD i Go.undef = v := by simp [Act.put, hi.size, h]
    have h2 : (st.slots.set i dl.v).getD i .undef = dl.v := by simp [h]
    rw [h1, h2]
    exact hv
   ·have h1 : (a.put (some k) v).tmps.getD i Go.undef = a.tmps.getD i Go.undef := by
     simp [Act.put, Array.getElem?_setIfInBounds_ne (Ne.symm hk)]
    have h2 : (st.slots.set k dl.v).getD i .undef = st.slots.getD i .undef := by simp [Ne.symm hk]
    rw [h1, h2]
    refine other (fun s hs => ?_) i h _ rfl
    have : k ≠ s := fun e => hfree (e ▸ hsub s hs)
    simp [Act.put, Array.getElem?_setIfInBounds_ne this]
  ·simp only [St.app, hd, Q1] at e
   by_cases hk : i = k
   ·subst hk
    rw [List.getElem?_set] at e
    simp at e
    exact hg i hd s b x e.2
   ·rw [List.getElem?_set, qm (Ne.symm hk)] at e
    have := hi.gds i s b x e
    exact ⟨hsub s this.1, this.2⟩
def qiH (cx : Cx) (d : Nat) : Prop := QP cx (100 + d) ∧ ∀ k, k < 16 → ¬ cx.hid (wk d k)
theorem qNT {cx : Cx} (h : ∀ n, ¬ cx.hid n) (d : Nat) : qiH cx d := ⟨⟨by omega, h _⟩, fun _ _ => h _⟩
def Nxt (cx : Cx) (st : St) (a : Act) (w : World) (env : Env) (gs : List Nat) (dl : Dl) (K : Act → World → Prop) : Prop :=
 ∀ v w' env', Trans cx w env (wi st.blks dl.wr) w' env' → W8 w' (qp cx env' w') env' (a.put dl.dst v).tmps v dl.v → (∀ s b x, dl.v = .gd s b x → s ∈ gs ∧ zg x = true) → K (a.put dl.dst v) w'
theorem Nxt.of_inv {used : List Nat} {st : St} {a : Act} (hi : InvR cx used st a w env) {gs : List Nat} {dl : Dl} {K : Act → World → Prop} (hfree : ∀ k, dl.dst = some k → k ∉ gs ++ used) (hK : ∀ a' w' env', InvR cx (gs ++ used) (st.app dl) a' w' env' → K a' w') : Nxt cx st a w env gs dl K :=
 fun v w' env' T hv hg => hK _ _ env' (qd3 hi T (fun s hs => by simp [hs]) hfree (fun _ _ => hv) fun _ _ s b x e => ⟨by simp [(hg s b x e).1], (hg s b x e).2⟩)
theorem WH {st : St} {a : Act} (hi : Inv cx st a w env) (t : Nat) : W8 w (qp cx env w) env a.tmps (a.eval (.tmp t)) (st.slots.getD t .undef) := by
 by_cases h : t < st.slots.length
 ·exact hi.slot t h
 ·have : st.slots.getD t .undef = .undef := by simp [h]
  rw [this]
  exact Rep.undef _
theorem qcQ {st : St} {a : Act} (hi : Inv cx st a w env) (x : Operand) : W8 w (qp cx env w) env a.tmps (a.eval x) (Vz st.slots [] x) := by
 cases x with
 | tmp t =>
  have h := WH hi t
  simp only [Vz]
  split
  ·rename_i s b y e
   rw [e] at h
   simpa [qbB] using h
  ·exact h
 | const v => exact wt v
 | func f => exact wt _
 | global g => exact Rep.undef _
theorem qnk : ∀ {l : List (Nat × Bool)} {s : Nat} {b : Bool}, qbB l s b = true → (s, b) ∈ l
 | [], s, b, h => by simp [qbB] at h
 | (s', b') :: l, s, b, h => by
  simp only [qbB, qJr, qj] at h
  rcases h with ⟨h1, h2⟩ | h
  ·have := ql h1
   have h2 : b' = b := by simpa using h2
   subst this; subst h2; simp
  ·exact List.mem_cons_of_mem _ (qnk h)
theorem qry {a : Act} {t : Nat} {v : Value} (h : a.tmps.getD t Go.undef = v) (hv : v ≠ Go.undef) : a.tmps[t]? = some v := by
 cases e : a.tmps[t]? with
 | none => simp [e] at h; exact absurd h.symm hv
 | some x => simp [e] at h; rw [h]
theorem qkr {st : St} {a : Act} (hi : Inv cx st a w env) : ∀ (k s : Nat) (b : Bool), a.tmps[s]? = some (.bool b) → ∀ p ∈ qf3 st.slots k s b, a.tmps[p.1]? = some (.bool p.2)
 | 0, s, b, h, p, hp => by simp [qf3] at hp; subst hp; exact h
 | k + 1, s, b, h, p, hp => by
  simp only [qf3] at hp
  split at hp
  ·rename_i s' b' x e
   rcases qK.1 hp with e' | hp
   ·subst e'; exact h
   ·have hs := WH hi s
    rw [e] at hs
    by_cases hh : a.tmps[s']? = some (.bool b')
    ·exact qkr hi k s' b' hh p hp
    ·have := hs.2 hh
     simp only [Act.eval] at this
     rw [show a.tmps.getD s Go.undef = .bool b by simp [h]] at this
     exact absurd this (by simp [Go.undef])
  ·simp at hp; subst hp; exact h
theorem qmU {st : St} {a : Act} (hi : Inv cx st a w env) : ∀ (k s : Nat) (b : Bool), a.tmps[s]? = some (.bool b) → ∀ p, qxV st.slots k s b p → p
 | 0, s, b, h, p, hp => hp
 | k + 1, s, b, h, p, hp => by
  have hs := WH hi s
  have hse : a.eval (.tmp s) = .bool b := by simp [Act.eval, h]
  simp only [qxV] at hp
  split at hp
  ·rename_i b' e
   rw [e] at hs
   have := qP hs
   rw [hse] at this
   simp at this
   exact hp this.symm
  ·rename_i s' w' b' e
   rw [e] at hs
   by_cases hh : a.tmps[s']? = some (.bool w')
   ·have := qP (hs.1 hh)
    rw [hse] at this
    simp at this
    exact qmU hi k s' w' hh _ hp this.symm
   ·have := hs.2 hh
    rw [hse] at this
    simp [Go.undef] at this
  ·exact hp
theorem qMs {used : List Nat} {st : St} {a : Act} (hi : InvR cx used st a w env) {s : Nat} {b : Bool} (h : a.tmps[s]? = some (.bool b)) (x : Operand) : W8 w (qp cx env w) env a.tmps (a.eval x) (Vz st.slots (qf3 st.slots 3 s b) x) := by
 cases x with
 | tmp t =>
  have hs := WH hi.toInv t
  simp only [Vz]
  split
  ·rename_i s' b' y e
   rw [e] at hs
   cases hc : qbB (qf3 st.slots 3 s b) s' b'
   ·simpa using hs
   ·have h2 := qkr hi.toInv 3 s b h _ (qnk hc)
    have ht : st.slots[t]? = some (.gd s' b' y) := by
     cases e2 : st.slots[t]? with
     | none => simp [e2] at e
     | some z => simp [e2] at e; rw [e]
    exact qea (hi.gds t s' b' y ht).2 (hs.1 h2)
  ·exact hs
 | const v => exact wt v
 | func f => exact wt _
 | global g => exact Rep.undef _
theorem qy2 {ops : Array Oper} {j s : Nat} (h : qlO ops.toList j = some s) : (ops[j]?).bind (·.dst) = some s := by
 unfold qlO at h
 split at h
 ·rename_i o ho
  have : ops[j]? = some o := by simpa using ho
  simp [this, h]
 ·simp at h
theorem qyR {ops : Array Oper} {o : Oper} {j s : Nat} {b : Bool} (hg : o.guard = some (j, b)) (hd : qlO ops.toList j = some s) (a : Act) : Region.wanted o (yielded ops a.tmps) = true ↔ a.tmps[s]? = some (.bool b) := by
 unfold Region.wanted
 rw [hg]
 simp only
 unfold yielded
 rw [qy2 hd]
 simp only [Option.bind_some]
 split
 ·rename_i b' e
  rw [e]
  simp
 ·rename_i hn
  constructor
  ·intro h; simp at h
  ·intro h; exact absurd h (hn _)
theorem qbI {g : Nat} {args : Array Value} (h : ∃ fn c, P.funcs[g]? = some fn ∧ fn.body = some c ∧ (fn.name == "runtime.NumGoroutine") = false) : (callFunc g args).run P w = .ok (.enter g args) w := by
 obtain ⟨fn, c, h1, h2, h3⟩ := h
 have h4 : ¬ fn.name = "runtime.NumGoroutine" := by simpa using h3
 simp [callFunc, h1, h2, h4]
theorem qkm {P : Program} {R : wV} {bl : qL} {ev : Operand → AV} {dst : Nat} {op : Op} {e : Ef} (h : xop P R bl ev dst op = some e) : ∀ c, op ≠ .defer c := by
 intro c hc
 subst hc
 simp [xop] at h
variable [GT P] {ro : Option Nat}
theorem quM (hG : cx.Gok P) {used : List Nat} {st : St} {a : Act} (hi : InvR cx used st a w env) {o : Oper} {c : Call} (ho : o.op = .call c) {ora ora' : List Or} {φ : List Prop} {dl : Dl} (e : qq9 P R st o.dst c ora = some (φ, dl, ora')) (hφ : zk φ) (hv : zg dl.v = true)
  (hnew : qiH cx (o.dst.getD 0)) {gs : List Nat} {K : Act → World → Prop} {Q : Exit → Act → World → Prop} (hK : Nxt cx st a w env gs dl K) : o.wpIn (FR ro) 0 P a w K Q := by
 have hr : ∀ x, Rep w (qp cx env w) env (a.eval x) (Vz st.slots [] x) := fun x => QS (qcQ hi.toInv x)
 have go : ∀ {g : Nat} {us : List Value} {as : List AV}, Rp w (qp cx env w) env us as → qan P R st.blks o.dst g as ora = some (φ, dl, ora') → (∀ (_ : ∃ fn c, P.funcs[g]? = some fn ∧ fn.body = some c ∧ (fn.name == "runtime.NumGoroutine") = false), (execOp a.eval o).run P w = .ok (.enter g us.toArray) w) → o.wpIn (FR ro) 0 P a w K Q := fun {g us as} h1 h2 h3 => by
  obtain ⟨hd, hf, hc⟩ := qhX hG hi.mem h1 h2 hφ hnew.2
  refine ⟨fun _ _ => trivial, ?_⟩
  rw [Oper.semAt_eq _ _ _ (by intro c; rw [ho]; simp), h3 hf, Oper.uponIn_enter]
  refine ⟨fun h => by simp [FR] at h, ?_⟩
  refine qzf (Q := fun en w' => ∃ v env', en = .returned v ∧ Trans cx w env (wi st.blks dl.wr) w' env' ∧ Rep w' (qp cx env' w') env' v dl.v) (fun w' h => by obtain ⟨v, env', h, _⟩ := h; simp at h) hc |>.mono fun en w' ⟨v, env', he, T, hr⟩ => ?_
  subst he
  rw [← hd]
  refine hK _ _ env' T (qea hv hr) fun s b x hx => ?_
  rw [hx] at hv; simp [zg] at hv
 unfold qq9 at e
 split at e
 ·rename_i f hcal
  split at e
  ·rename_i g first captured hf
   have hfv : a.eval f = .func (.func g) first captured := by
    have := hr f
    rw [hf] at this
    exact qP this
   refine go (us := first.toList ++ (c.args.toList.map a.eval ++ captured.toList)) ((zQ _).append ((Ze hr c.args.toList).append (zQ _))) e fun hfn => ?_
   obtain ⟨callee, args, ats⟩ := c
   simp only at hcal
   subst hcal
   have e1 : (first.toList ++ (args.toList.map a.eval ++ captured.toList)).toArray = first ++ (args.map a.eval ++ captured) := by
    simp [← Array.toList_map]
   rw [e1]
   have := qbI (w := w) (args := first ++ (args.map a.eval ++ captured)) hfn
   simp [execOp, ho, resolve, Deferred.ofValue, hfv, invoke, this]
  ·rename_i g first captured hf
   have hfr := hr f
   rw [hf] at hfr
   generalize hu : a.eval f = u at hfr
   cases hfr with
   | fn _ vf vc _ _ hs1 hs2 h1 h2 =>
    have a1 : Rp w (qp cx env w) env vf.toList first := All2.of_get Go.undef .undef (by simpa using hs1) fun i hi => by simpa using h1 i hi
    have a2 : Rp w (qp cx env w) env vc.toList captured := All2.of_get Go.undef .undef (by simpa using hs2) fun i hi => by simpa using h2 i hi
    refine go (us := vf.toList ++ (c.args.toList.map a.eval ++ vc.toList)) (a1.append ((Ze hr c.args.toList).append a2)) e fun hfn => ?_
    obtain ⟨callee, args, ats⟩ := c
    simp only at hcal
    subst hcal
    have e1 : (vf.toList ++ (args.toList.map a.eval ++ vc.toList)).toArray = vf ++ (args.map a.eval ++ vc) := by
     simp [← Array.toList_map]
    rw [e1]
    have := qbI (w := w) (args := vf ++ (args.map a.eval ++ vc)) hfn
    simp [execOp, ho, resolve, Deferred.ofValue, hu, invoke, this]
  ·rename_i nm ver hf
   split at e
   ·rename_i s p rc sl hcur
    have hfr := hr f
    rw [hf] at hfr
    obtain ⟨h, hE, hrep⟩ := hi.mem.blk _ _ _ (q8 hcur)
    have hval : a.eval f = h := by
     generalize a.eval f = u at hfr
     cases hfr with
     | own hfr => exact wz hfr hE
    cases hrep with
    | loop l r _ _ hb hp hasg hbd hs hsl =>
    obtain ⟨hd, hlen, hrnd⟩ := qqt hG hi.mem hE hb (Ze hr c.args.toList) e hφ hnew.2
    obtain ⟨callee, args, ats⟩ := c
    simp only at hcal
    subst hcal
    have hsz : (args.map a.eval).size = r.params.size := by
     rw [hp]
     simpa using hlen
    refine ⟨fun _ _ => trivial, ?_⟩
    have hy := run_yield (P := P) hb hsz
    have hrun : (execOp a.eval o).run P w = .ok (.round l r.fn ((r.params.zip (args.map a.eval)).foldl (fun tmps (t, a) => tmps.setIfInBounds t a) r.tmps) r.assign r.body) w := by
     simp only [Array.empty_append, Array.append_empty] at *
     simp [execOp, ho, resolve, Deferred.ofValue, hval, invoke, hy]
    rw [Oper.semAt_eq _ _ _ (by intro c; rw [ho]; simp), hrun, Oper.uponIn_round]
    refine ⟨fun h => by simp [FR] at h, ?_⟩
    have e1 : (args.toList.map a.eval).toArray = args.map a.eval := by simp [← Array.toList_map]
    rw [← e1]
    refine qyX (fun v w' ⟨env', T, hr⟩ => ?_) hrnd
    show K (a.put o.dst v) w'
    rw [← hd]
    refine hK _ _ env' T (qea hv hr) fun s b x hx => ?_
    rw [hx] at hv; simp [zg] at hv
   ·simp at e
  ·simp at e
 ·simp at e
theorem qpM (hG : cx.Gok P) {used : List Nat} {st : St} {a : Act} (hi : InvR cx used st a w env) {ops : List Oper} {i : Nat} {o : Oper} {ora ora' : List Or} {φ : List Prop} {dl : Dl} (e : xo1 P R ops i o st ora = some (φ, dl, ora')) (hφ : zk φ)
  (hnew : qiH cx (o.dst.getD 0)) {gs : List Nat} {K : Act → World → Prop} {Q : Exit → Act → World → Prop} (hK : Nxt cx st a w env gs dl K) : o.wpIn (FR ro) 0 P a w K Q := by
 unfold xo1 at e
 split at e
 ·rename_i c hc
  have ho : o.op = .call c := by
   unfold qtI at hc
   split at hc
   ·split at hc
    ·simp at hc; subst hc; assumption
    ·simp at hc
   ·simp at hc
  split at e
  ·rename_i φ' dl' ora'' he
   cases hn : zg dl'.v <;> simp only [hn, qg, qi] at e
   ·simp at e
   simp at e; obtain ⟨rfl, rfl, rfl⟩ := e
   exact quM hG hi ho he hφ hn hnew hK
  ·simp at e
 ·split at e
  ·rename_i ef hef
   cases hn : zg ef.v <;> simp only [hn, qg, qi] at e
   ·simp at e
   have run : ∀ {φ0 : List Prop} {v0 : AV} {wr0 : List (Nat × Nat × Blk)}, zk ef.φ → wr0 = ef.wr → zg v0 = true → (∀ u w' env', Rep w' (qp cx env' w') env' u ef.v → Rep w' (qp cx env' w') env' u v0) → dl = ⟨o.dst, v0, wr0⟩ → o.wpIn (FR ro) 0 P a w K Q := fun {φ0 v0 wr0} h1 h2 h3 h4 h5 => by
    subst h2; subst h5
    obtain ⟨r, w', env', g1, g2, g3⟩ := qpU (P := P) (R := R) hi.mem (fun x => qcQ hi.toInv x) hnew.1 (fun j hj => by rw [Nat.add_sub_cancel_left]; exact ⟨by unfold wk; omega, hnew.2 j hj⟩) hef h1
    refine ⟨fun _ _ => trivial, ?_⟩
    rw [Oper.semAt_eq _ _ _ (qkm hef), g1]
    have fin : ∀ u, Rep w' (qp cx env' w') env' u v0 → K (a.put o.dst u) w' := fun u hu =>
     hK _ _ env' g2 (qea h3 hu) fun s b x hx => by rw [show v0 = .gd s b x from hx] at h3; simp [zg] at h3
    rcases g3 with ⟨u, rfl, hu⟩ | ⟨rfl, hu⟩
    ·exact fin u (h4 _ _ _ hu)
    ·exact fin _ (h4 _ _ _ (by rw [hu]; exact .undef _))
   cases hl : vk i ops <;> simp only [hl, qg, qi] at e
   ·simp at e; obtain ⟨rfl, rfl, rfl⟩ := e
    exact run (φ0 := []) hφ rfl hn (fun _ _ _ h => h) rfl
   ·split at e
    ·rename_i dd ora0
     split at e
     ·rename_i b hv hwr
      simp at e; obtain ⟨rfl, rfl, rfl⟩ := e
      have hbd : b = dd := hφ _ (by simp)
      refine run (φ0 := []) (fun p hp => hφ p (by simp [hp])) hwr.symm rfl (fun u w' env' h => ?_) rfl
      rw [hv] at h
      rw [← hbd]; exact h
     ·simp at e
    ·simp at e
  ·simp at e
theorem qsk (hG : cx.Gok P) {used : List Nat} {st : St} {a : Act} (hi : InvR cx used st a w env) {ops : Array Oper} {i : Nat} {o : Oper} (ho : ops[i]? = some o) {ora ora' : List Or} {φ : List Prop} {dl : Dl} (e : xo P R ops.toList i o st ora = some (φ, dl, ora')) (hφ : zk φ)
  (hfree' : ∀ k, o.dst = some k → k ∉ wM ops.toList o) (hnew : qiH cx (o.dst.getD 0)) {K : Act → World → Prop} {Q : Exit → Act → World → Prop} (hK : Nxt cx st a w env (wM ops.toList o) dl K) : wpOpIn (FR ro) 0 P ops Q i K a w := by
 unfold wpOpIn
 simp only [ho]
 unfold xo at e
 split at e
 ·rename_i hg
  have hw : Region.wanted o (yielded ops a.tmps) = true := by simp [Region.wanted, hg]
  rw [qd hw]
  exact qpM hG hi e hφ hnew hK
 ·rename_i j b hg
  split at e
  ·rename_i s hs
   have hgs : wM ops.toList o = [s] := by simp [wM, hg, hs]
   have hwi := qyR (ops := ops) hg hs a
   split at e
   ·rename_i bv hbv
    cases hqo : (qjd o.op && !vk j ops.toList) <;> simp only [hqo, qg, qi] at e
    ·cases hng : zg (st.slots.getD s .undef) <;> simp only [hng, qg, qi] at e
     ·simp at e
     have hsv : a.tmps[s]? = some (.bool bv) := by
      have h := WH hi.toInv s
      unfold qFQ at hbv
      split at hbv
      ·rename_i b' e'
       simp at hbv; subst hbv
       rw [e'] at h
       exact qry (qP h) (by simp [Go.undef])
      ·rename_i e'
       rw [e'] at hng; simp [zg] at hng
      ·simp at hbv
     have skip : bv ≠ b → some ([], (⟨o.dst, qcF, []⟩ : Dl), ora) = some (φ, dl, ora') → (if Region.wanted o (yielded ops a.tmps) = true then o.wpIn (FR ro) 0 P a w K Q else (∀ f, o.about P w a.eval = some f → (FR ro).fn f) ∧ K (a.put o.dst Go.undef) w) := fun hne e => by
      simp at e; obtain ⟨rfl, rfl, rfl⟩ := e
      have hw : ¬ Region.wanted o (yielded ops a.tmps) = true := fun h => by
       have := hwi.1 h
       rw [hsv] at this
       simp at this
       exact hne this
      rw [qm hw]
      refine ⟨fun _ _ => trivial, ?_⟩; exact hK _ _ env (.refl hi.mem) (show Rep w _ env Go.undef qcF from wt _) fun s b x hx => by simp [qcF] at hx
     have doit : bv = b → xo1 P R ops.toList i o st ora = some (φ, dl, ora') → (if Region.wanted o (yielded ops a.tmps) = true then o.wpIn (FR ro) 0 P a w K Q else (∀ f, o.about P w a.eval = some f → (FR ro).fn f) ∧ K (a.put o.dst Go.undef) w) := fun heq e => by
      have hw : Region.wanted o (yielded ops a.tmps) = true := hwi.2 (by rw [hsv, heq])
      rw [qd hw]
      exact qpM hG hi e hφ hnew hK
     cases bv <;> cases b <;> simp only at e
     ·exact doit rfl e
     ·exact skip (by simp) e
     ·exact skip (by simp) e
     ·exact doit rfl e
    ·split at e
     ·rename_i ef hef
      split at e
      ·rename_i hwr
       have hq : (vk i ops.toList || !zg ef.v) = false := by
        cases hq : (vk i ops.toList || !zg ef.v) with
        | false => rfl
        | true => rw [hq] at e; simp at e
       rw [hq] at e
       simp only [qg] at e
       simp only [WN, Bool.not_eq_false'] at hq
       simp at e; obtain ⟨rfl, rfl, rfl⟩ := e
       have sne : ∀ k, o.dst = some k → k ≠ s := fun k hk he => hfree' k hk (by rw [hgs, he]; simp)
       have tm : ∀ v, (a.put o.dst v).tmps[s]? = a.tmps[s]? := fun v => by
        cases hd : o.dst with
        | none => rfl
        | some k => simp [Act.put, Array.getElem?_setIfInBounds_ne (sne k hd)]
       by_cases hw : a.tmps[s]? = some (.bool b)
       ·rw [qd (hwi.2 hw)]
        have hbb : bv = b := by
         have h := WH hi.toInv s
         have hse : a.eval (.tmp s) = .bool b := by simp [Act.eval, hw]
         unfold qFQ at hbv
         split at hbv
         ·rename_i b' e'
          simp at hbv; subst hbv
          rw [e'] at h
          have := qP h
          rw [hse] at this
          simp at this; exact this.symm
         ·rename_i s' b' b'' e'
          simp at hbv; subst hbv
          rw [e'] at h
          by_cases hh : a.tmps[s']? = some (.bool b')
          ·have := qP (h.1 hh)
           rw [hse] at this
           simp at this; exact this.symm
          ·have := h.2 hh
           rw [hse] at this
           simp [Go.undef] at this
         ·simp at hbv
        have hφ' : zk ef.φ := fun p hp => qmU hi.toInv 3 s b hw p (hφ _ (List.mem_map.2 ⟨p, hp, rfl⟩))
        obtain ⟨r, w', env', g1, g2, g3⟩ := qpU (P := P) (R := R) hi.mem (fun x => qMs hi hw x) hnew.1 (fun j hj => by rw [Nat.add_sub_cancel_left]; exact ⟨by unfold wk; omega, hnew.2 j hj⟩) hef hφ'
        refine ⟨fun _ _ => trivial, ?_⟩
        rw [Oper.semAt_eq _ _ _ (qkm hef), g1]
        rw [hwr] at g2
        have fin : ∀ u, Rep w' (qp cx env' w') env' u ef.v → K (a.put o.dst u) w' := fun u hu =>
         hK _ _ env' g2 (by
          simp only [W8]
          rw [tm u, hw]
          exact ⟨fun _ => hu, fun h => absurd rfl h⟩) fun s' b' x hx => by
           simp at hx; obtain ⟨rfl, rfl, rfl⟩ := hx
           exact ⟨by rw [hgs]; simp, hq.2⟩
        rcases g3 with ⟨u, rfl, hu⟩ | ⟨rfl, hu⟩
        ·exact fin u hu
        ·exact fin _ (by rw [hu]; exact .undef _)
       ·rw [qm (fun h => hw (hwi.1 h))]
        refine ⟨fun _ _ => trivial, ?_⟩
        refine hK _ _ env (.refl hi.mem) ?_ fun s' b' x hx => ?_
        ·simp only [W8]
         rw [tm Go.undef]
         refine ⟨fun h => absurd h hw, fun _ => ?_⟩
         first | rfl | trivial | simp [Act.put, Go.undef]
        ·simp at hx; obtain ⟨rfl, rfl, rfl⟩ := hx
         exact ⟨by rw [hgs]; simp, hq.2⟩
      ·simp at e
     ·simp at e
   ·cases hk : qbX (st.slots.getD s .undef) <;> simp only [hk, qg, qi] at e
    ·simp at e
    have hnw : ¬ Region.wanted o (yielded ops a.tmps) = true := fun h => by
     have h1 := hwi.1 h
     have h2 := WH hi.toInv s
     have h3 : a.eval (.tmp s) = .bool b := by simp [Act.eval, h1]
     unfold qbX at hk
     split at hk
     ·rename_i vs e'
      rw [e'] at h2
      have h4 := qP h2
      rw [h3] at h4
      simp at h4
     ·simp at hk
    simp at e; obtain ⟨rfl, rfl, rfl⟩ := e
    rw [qm hnw]
    refine ⟨fun _ _ => trivial, ?_⟩; exact hK _ _ env (.refl hi.mem) (show Rep w _ env Go.undef qcF from wt _) fun s b x hx => by simp [qcF] at hx
  ·simp at e
theorem qAQ {ops : List Oper} {i : Nat} {o : Oper} {st : St} {ora ora' : List Or} {φ : List Prop} {dl : Dl} (e : xo P R ops i o st ora = some (φ, dl, ora')) : dl.dst = o.dst := by
 have h1 : ∀ {ora ora' : List Or} {φ : List Prop} {dl : Dl}, xo1 P R ops i o st ora = some (φ, dl, ora') → dl.dst = o.dst := fun {ora ora' φ dl} e => by
  unfold xo1 at e
  split at e
  ·split at e
   ·rename_i c _ φ' dl' ora'' he
    cases hn : zg dl'.v <;> simp only [hn, qg, qi] at e
    ·simp at e
    simp at e; obtain ⟨rfl, rfl, rfl⟩ := e
    have on1 : ∀ {g as ρ cr φ dl}, qbm P R st.blks o.dst g as cr ρ = some (φ, dl) → dl.dst = o.dst := fun {g as ρ cr φ dl} e => by
     unfold qbm at e
     repeat' split at e
     all_goals first
      | (simp at e; done)
      | (rename_i hb; revert e; cases qam (o.dst.getD 0) ρ (wy cr.modes as) cr <;> intro e
         ·simp at e
         ·simp at e; rw [← e.2])
    have on : ∀ {g as φ dl ora ora'}, qan P R st.blks o.dst g as ora = some (φ, dl, ora') → dl.dst = o.dst := fun {g as φ dl ora ora'} e => by
     unfold qan at e
     split at e
     ·split at e
      ·split at e
       ·rename_i h; simp at e; obtain ⟨rfl, rfl, rfl⟩ := e; exact on1 h
       ·simp at e
      ·split at e
       ·rename_i φ' dl' h
        revert e
        cases w6 (WZ dl'.wr) <;> intro e
        ·simp at e
        ·simp only [qi, Option.some.injEq, Prod.mk.injEq] at e
         obtain ⟨rfl, rfl, rfl⟩ := e
         exact on1 (dl := dl') h
       ·simp at e
     ·simp at e
    have yn : ∀ {nm rc as φ dl ora ora'}, qd6 P R st.blks o.dst nm rc as ora = some (φ, dl, ora') → dl.dst = o.dst := fun {nm rc as φ dl ora ora'} e => by
     unfold qd6 at e
     split at e
     ·split at e
      ·rename_i φ' dl' h
       simp at e; obtain ⟨rfl, rfl, rfl⟩ := e
       unfold qfI at h
       generalize (qC as.length rc.ps.length && _) = bb at h
       cases bb
       ·simp at h
       ·simp only [qi] at h
        repeat' split at h
        all_goals first
         | (simp at h; done)
         | (revert h; cases qam (o.dst.getD 0) _ _ _ <;> intro h
            ·simp at h
            ·simp at h; rw [← h.2])
      ·simp at e
     ·simp at e
    unfold qq9 at he
    split at he
    ·split at he
     ·exact on he
     ·exact on he
     ·split at he
      ·exact yn he
      ·simp at he
     ·simp at he
    ·simp at he
   ·simp at e
  ·split at e
   ·rename_i ef _
    cases hn : zg ef.v <;> simp only [hn, qg, qi] at e
    ·simp at e
    cases hl : vk i ops <;> simp only [hl, qg, qi] at e
    ·simp at e; obtain ⟨rfl, rfl, rfl⟩ := e; rfl
    ·split at e
     ·split at e
      ·simp at e; obtain ⟨rfl, rfl, rfl⟩ := e; rfl
      ·simp at e
     ·simp at e
   ·simp at e
 unfold xo at e
 split at e
 ·exact h1 e
 ·rename_i j w hg
  split at e
  ·rename_i s hs
   split at e
   ·rename_i b hb
    cases hq : (qjd o.op && !vk j ops) <;> simp only [hq, qg, qi] at e
    ·cases hn : zg (st.slots.getD s .undef) <;> simp only [hn, qg, qi] at e
     ·simp at e
     cases b <;> cases w <;> simp only at e
     ·exact h1 e
     ·simp at e; obtain ⟨rfl, rfl, rfl⟩ := e; rfl
     ·simp at e; obtain ⟨rfl, rfl, rfl⟩ := e; rfl
     ·exact h1 e
    ·split at e
     ·rename_i ef _
      split at e
      ·cases hq : (vk i ops || !zg ef.v) with
       | true => rw [hq] at e; simp at e
       | false => rw [hq] at e; simp at e; obtain ⟨rfl, rfl, rfl⟩ := e; rfl
      ·simp at e
     ·simp at e
   ·cases hk : qbX (st.slots.getD s .undef) <;> simp only [hk, qg, qi] at e
    ·simp at e
    simp at e; obtain ⟨rfl, rfl, rfl⟩ := e; rfl
  ·simp at e
theorem qlW (hG : cx.Gok P) (hh : ∀ n, ¬ cx.hid n) {ops : Array Oper} {Q : Exit → Act → World → Prop} : ∀ (rest : List Oper) (i : Nat) (used : List Nat) (st : St) (ora ora' : List Or) (φ : List Prop) (st' : St) (a : Act) (w : World) (env : Env), ops.toList.drop i = rest → InvR cx used st a w env →
  qr1 P R ops.toList rest i used st ora = some (φ, st', ora') → zk φ → (∀ used' a' w' env', InvR cx used' st' a' w' env' → Q .normal a' w') → wpOpsIn (FR ro) 0 P ops Q (List.range' i rest.length) a w
 | [], i, used, st, ora, ora', φ, st', a, w, env, hr, hi, e, hφ, hQ => by
  simp [qr1] at e; obtain ⟨rfl, rfl, rfl⟩ := e
  exact hQ _ _ _ _ hi
 | o :: rest, i, used, st, ora, ora', φ, st', a, w, env, hr, hi, e, hφ, hQ => by
  simp only [qr1] at e
  split at e
  ·rename_i φ1 dl ora1 h1
   cases hfree : qnK (wM ops.toList o ++ used) o.dst <;> simp only [hfree, qg, qi] at e
   ·simp at e
   split at e
   ·rename_i φ2 st2 ora2 h2
    simp at e; obtain ⟨rfl, rfl, rfl⟩ := e
    have ho : ops[i]? = some o := by
     have : ops.toList[i]? = some o := by
      have := congrArg (·[0]?) hr
      simpa using this
     simpa using this
    rw [wc, List.range'_succ, wpOpsIn_cons]
    have hfree' : ∀ k, o.dst = some k → k ∉ wM ops.toList o ++ used := fun k hk hm => by
     rw [hk] at hfree
     simp only [qnK] at hfree
     rw [wA.2 hm] at hfree
     simp at hfree
    refine qsk hG hi ho h1 (fun p hp => hφ p (by simp [hp])) (fun k hk hm => hfree' k hk (by simp [hm])) (qNT hh _) (.of_inv hi (fun k hk => hfree' k (by rw [← qAQ h1]; exact hk)) fun a' w' env' hi' => ?_)
    refine qlW hG hh rest (i + 1) _ _ _ _ _ _ _ _ _ ?_ hi' h2 (fun p hp => hφ p (by simp [hp])) hQ
    have := congrArg (qaJ 1) hr
    simpa [List.drop_drop, Nat.add_comm] using this
   ·simp at e
  ·simp at e
end
end Go.AM
namespace Go.AM
open Go
def wJ (ancs : List (List Nat)) (k : Nat) : List Nat := ancs.getD k []
def qPV (n : Nat) (l : List Nat) : List Nat := bif wu n l then l else n :: l
def qCr : List Nat → List Nat → List Nat
 | [], m => m
 | n :: l, m => qPV n (qCr l m)
def qxP (ancs : List (List Nat)) : List Edge → List Nat
 | [] => []
 | e :: r => bif Region.binds .any e then qPV e.on (qCr (wJ ancs e.on) (qxP ancs r)) else qxP ancs r
def qtb : List Oper → List (List Nat) → List (List Nat)
 | [], acc => acc
 | o :: r, acc => qtb r (acc ++ [qxP acc o.after.toList])
def qta (p : Edge → Bool) : List Edge → Bool
 | [] => true
 | e :: r => p e && qta p r
def qrT (p : Edge → Bool) : List Edge → Bool
 | [] => false
 | e :: r => p e || qrT p r
def qpc (p : Nat → Bool) : List Nat → Bool
 | [] => true
 | e :: r => p e && qpc p r
def qtk (ancs : List (List Nat)) (k : Nat) (o : Oper) : Bool :=
 qta (fun e => !Region.binds .any e || (Nat.blt e.on k && wu e.on (wJ ancs k))) o.after.toList &&
 qpc (fun i => qrT (fun e => Region.binds .any e && (qC e.on i || wu i (wJ ancs e.on))) o.after.toList && Nat.blt i k) (wJ ancs k)
def qa5 (ancs : List (List Nat)) (k j : Nat) : Bool := !Nat.beq j k && (!wu j (wJ ancs k) && !wu k (wJ ancs j))
def vh {α : Type} (p : Nat → Bool) (f : α → List Nat) : Nat → List α → List Nat
 | _, [] => []
 | j, x :: r => (bif p j then f x else []) ++ vh p f (j + 1) r
def qFW (o : Oper) : List Nat := match o.dst with
 | some d => [d]
 | none => []
def qdg (ms : List Nat) : Nat → List AV → List AV
 | _, [] => []
 | i, x :: r => (bif wu i ms then .undef else x) :: qdg ms (i + 1) r
def qjK (hs : List Nat) : qL → qL
 | [] => []
 | (n, v, b) :: r => bif wu n hs then qjK hs r else (n, v, b) :: qjK hs r
def wv (L : Nat → Bool) : Nat → List Dl → St → St
 | _, [], st => st
 | k, d :: ds, st => wv L (k + 1) ds (bif L k then st.app d else st)
def wrN : List (Nat × Nat × Blk) → List Nat
 | [] => []
 | (n, _, _) :: r => n :: wrN r
def Z4 (ancs nms : List (List Nat)) (k : Nat) : List Nat := vh (qa5 ancs k) id 0 nms
def qfS (ops : List Oper) (ancs : List (List Nat)) (k : Nat) : List Nat := vh (qa5 ancs k) qFW 0 ops
def vp (ops : List Oper) (ancs nms : List (List Nat)) (k : Nat) (dls : List Dl) (st : St) : St :=
 {slots := qdg (qfS ops ancs k) 0 (wv (fun j => wu j (wJ ancs k)) 0 dls st).slots
  blks := qjK (Z4 ancs nms k) (wv (fun j => wu j (wJ ancs k)) 0 dls st).blks }
def qjh (d : Nat) (hs : List Nat) : Nat → Bool
 | 0 => true
 | k + 1 => !wu (wk d k) hs && qjh d hs k
def qbO (ops : List Oper) (ancs : List (List Nat)) (k : Nat) (d : Nat) : Nat → List Oper → Bool
 | _, [] => true
 | j, o :: r => (!wu d (wM ops o) || wu k (wJ ancs j)) && qbO ops ancs k d (j + 1) r
def qlD (ops : List Oper) (ancs nms : List (List Nat)) (k : Nat) (o : Oper) (d : Dl) : Bool :=
 qtk ancs k o && (qpc (fun n => wu n (wJ nms k) && !wu n (Z4 ancs nms k)) (wrN d.wr) &&
 (!wu (100 + o.dst.getD 0) (Z4 ancs nms k) && (qjh (o.dst.getD 0) (Z4 ancs nms k) 16 &&
 (match o.dst with
   | some s => qbO ops ancs k s 0 ops && !wu s (qfS ops ancs k)
   | none => true))))
def qts (P : Program) [GT P] (R : wV) (ops : List Oper) (ancs nms : List (List Nat)) : List Oper → Nat → List Dl → St → List Or → Option (List Prop × List Dl × List Or)
 | [], _, dls, _, ora => some ([], dls, ora)
 | o :: r, k, dls, st, ora => match xo P R ops k o (vp ops ancs nms k dls st) ora with
  | some (φ, d, ora') => bif qlD ops ancs nms k o d then (match qts P R ops ancs nms r (k + 1) (dls ++ [d]) st ora' with
   | some (φ', dls', ora'') => some (φ ++ φ', dls', ora'')
   | none => none) else none
  | none => none
def qof (P : Program) [GT P] (R : wV) (ops : List Oper) : List Oper → Nat → St → List Or → List (List Nat)
 | [], _, _, _ => []
 | o :: r, i, st, ora => match xo P R ops i o st ora with
  | some (_, d, ora') => wrN d.wr :: qof P R ops r (i + 1) (st.app d) ora'
  | none => []
def zm : List AV → Bool
 | [] => true
 | x :: r => zg x && zm r
theorem qfT {p : Nat → Bool} : ∀ {l : List Nat}, qpc p l = true ↔ ∀ n ∈ l, p n = true
 | [] => by simp [qpc]
 | n :: l => by simp [qpc, qfT (l := l)]
theorem qtj {p : Edge → Bool} : ∀ {l : List Edge}, qta p l = true ↔ ∀ n ∈ l, p n = true
 | [] => by simp [qta]
 | n :: l => by simp [qta, qtj (l := l)]
theorem qt9 {p : Edge → Bool} : ∀ {l : List Edge}, qrT p l = true ↔ ∃ n ∈ l, p n = true
 | [] => by simp [qrT]
 | n :: l => by simp [qrT, qt9 (l := l)]
theorem QQ {α : Type} {p : Nat → Bool} {f : α → List Nat} {n : Nat} : ∀ {l : List α} {k j : Nat} {x : α}, l[j]? = some x → p (k + j) = true → n ∈ f x → n ∈ vh p f k l
 | [], _, _, _, h, _, _ => by simp at h
 | y :: l, k, 0, x, h, hp, hn => by
  simp at h; subst h
  simp only [Nat.add_zero] at hp
  simp [vh, hp, hn]
 | y :: l, k, j + 1, x, h, hp, hn => by
  have := QQ (p := p) (f := f) (k := k + 1) (l := l) (j := j) (by simpa using h) (by rwa [show k + 1 + j = k + (j + 1) by omega]) hn
  simp [vh, this]
theorem qnf (hs : List Nat) (nm : Nat) : ∀ bl : qL, qU (qjK hs bl) nm = if wu nm hs = true then none else qU bl nm
 | [] => by simp [qjK, qU]
 | (n, v, b) :: r => by
  have ih := qnf hs nm r
  simp only [qjK]
  cases hn : wu n hs
  ·simp only [qg, qU]
   cases he : qC n nm
   ·simp [ih]
   ·have := ql he
    subst this
    simp [hn]
  ·simp only [qi, ih, qU]
   cases he : qC n nm
   ·simp
   ·have := ql he
    subst this
    simp [hn]
theorem qhl (ms : List Nat) : ∀ (l : List AV) (i : Nat), (qdg ms i l).length = l.length
 | [], _ => rfl
 | x :: l, i => by simp [qdg, qhl ms l]
theorem qpW (ms : List Nat) : ∀ (l : List AV) (i j : Nat), (qdg ms i l)[j]? = if wu (i + j) ms = true then l[j]?.map (fun _ => .undef) else l[j]?
 | [], _, _ => by simp [qdg]
 | x :: l, i, 0 => by
  simp only [qdg, Nat.add_zero]
  cases wu i ms <;> simp
 | x :: l, i, j + 1 => by
  simp only [qdg, List.getElem?_cons_succ]
  rw [qpW ms l (i + 1) j, show i + 1 + j = i + (j + 1) by omega]
structure SameSt (s t : St) : Prop where
 slots : s.slots = t.slots
 blks : ∀ nm, qU s.blks nm = qU t.blks nm
theorem SameSt.refl (s : St) : SameSt s s := ⟨rfl, fun _ => rfl⟩
theorem SameSt.trans {s t u : St} (h : SameSt s t) (h' : SameSt t u) : SameSt s u := ⟨h.slots.trans h'.slots, fun nm => (h.blks nm).trans (h'.blks nm)⟩
theorem vG (nm : Nat) : ∀ (wr : List (Nat × Nat × Blk)) {bl bl' : qL}, qU bl nm = qU bl' nm → qU (wi bl wr) nm = qU (wi bl' wr) nm
 | [], _, _, h => h
 | (n, v, b) :: r, bl, bl', h => by
  simp only [wi]
  refine vG nm r ?_
  rw [vU, vU, h]
theorem ve {nm : Nat} : ∀ (wr : List (Nat × Nat × Blk)) (bl : qL), nm ∉ wrN wr → qU (wi bl wr) nm = qU bl nm
 | [], _, _ => rfl
 | (n, v, b) :: r, bl, h => by
  simp only [wrN, qK, not_or] at h
  simp only [wi]
  rw [ve r _ h.2, vU, qm h.1]
theorem SameSt.app {s t : St} (h : SameSt s t) (d : Dl) : SameSt (s.app d) (t.app d) :=
 ⟨by simp only [St.app, h.slots], fun nm => vG nm d.wr (h.blks nm)⟩
structure Apart (d d' : Dl) : Prop where
 dst : ∀ k, d.dst = some k → d'.dst ≠ some k
 wr : ∀ n, n ∈ wrN d.wr → n ∉ wrN d'.wr
theorem qFv (s : St) {d d' : Dl} (h : Apart d d') : SameSt ((s.app d).app d') ((s.app d').app d) := by
 constructor
 ·simp only [St.app]
  cases h1 : d.dst with
  | none => rfl
  | some k =>
   cases h2 : d'.dst with
   | none => rfl
   | some k' =>
    have hne : k ≠ k' := fun e => h.dst k h1 (by rw [h2, e])
    simp only [Q1]
    exact List.set_comm _ _ hne
 ·intro nm
  simp only [St.app]
  by_cases hn : nm ∈ wrN d.wr
  ·have hn' := h.wr nm hn
   rw [ve _ _ hn']
   exact vG nm d.wr (ve _ _ hn').symm
  ·rw [ve d.wr _ hn]
   exact vG nm d'.wr (ve _ _ hn)
theorem qpR {L : Nat → Bool} : ∀ (ds : List Dl) (b : Nat) {s t : St}, SameSt s t → SameSt (wv L b ds s) (wv L b ds t)
 | [], _, _, _, h => h
 | d :: ds, b, s, t, h => by
  simp only [wv]
  refine qpR ds (b + 1) ?_
  cases L b
  ·exact h
  ·exact h.app d
theorem qsN {L : Nat → Bool} {d : Dl} : ∀ (ds : List Dl) (b : Nat) (s : St), (∀ j e, ds[j]? = some e → L (b + j) = true → Apart d e) → SameSt (wv L b ds (s.app d)) ((wv L b ds s).app d)
 | [], _, s, _ => .refl _
 | e :: ds, b, s, h => by
  simp only [wv]
  have ih := fun s => qsN ds (b + 1) s fun j e' h1 h2 => h (j + 1) e' (by simpa using h1) (by rwa [show b + (j + 1) = b + 1 + j by omega])
  cases hb : L b
  ·exact ih s
  ·simp only [qi]
   exact (qpR ds (b + 1) (qFv s (h 0 e rfl (by simpa using hb)))).trans (ih (s.app e))
theorem qa8 {L L' : Nat → Bool} : ∀ (ds : List Dl) (b : Nat) (s : St), (∀ j, j < ds.length → L (b + j) = L' (b + j)) → wv L b ds s = wv L' b ds s
 | [], _, _, _ => rfl
 | d :: ds, b, s, h => by
  simp only [wv]
  have h0 := h 0 (by simp)
  simp only [Nat.add_zero] at h0
  rw [h0]
  exact qa8 ds (b + 1) _ fun j hj => by
   have := h (j + 1) (by simpa using hj)
   rwa [show b + (j + 1) = b + 1 + j by omega] at this
theorem Y6 {L : Nat → Bool} : ∀ (ds es : List Dl) (b : Nat) (s : St), wv L b (ds ++ es) s = wv L (b + ds.length) es (wv L b ds s)
 | [], _, _, _ => rfl
 | d :: ds, es, b, s => by
  simp only [qpk, wv]
  rw [Y6 ds es (b + 1), wc, show b + 1 + ds.length = b + (ds.length + 1) by omega]
theorem qhN {L : Nat → Bool} : ∀ (ds : List Dl) (b : Nat) (s : St), (∀ j, j < ds.length → L (b + j) = false) → wv L b ds s = s
 | [], _, _, _ => rfl
 | d :: ds, b, s, h => by
  have h0 := h 0 (by simp)
  simp only [Nat.add_zero] at h0
  simp only [wv, h0, qg]
  exact qhN ds (b + 1) s fun j hj => by
   have := h (j + 1) (by simpa using hj)
   rwa [show b + (j + 1) = b + 1 + j by omega] at this
theorem quD {L L' : Nat → Bool} {ds : List Dl} {k : Nat} {d : Dl} (hk : ds[k]? = some d) (h0 : L k = false) (h1 : L' k = true) (hne : ∀ j, j ≠ k → L' j = L j)
  (hap : ∀ j e, ds[j]? = some e → k < j → L j = true → Apart d e) (s : St) : SameSt (wv L' 0 ds s) ((wv L 0 ds s).app d) := by
 have hlt := (List.getElem?_eq_some_iff.1 hk).1
 have hd : ds = ds.take k ++ d :: ds.drop (k + 1) := by
  conv => lhs; rw [← qnA k ds]
  congr 1
  rw [List.drop_eq_getElem_cons hlt]
  congr 1
  exact (List.getElem?_eq_some_iff.1 hk).2
 have hl : (ds.take k).length = k := by simp; omega
 have e1 : wv L' 0 ds s = wv L (k + 1) (ds.drop (k + 1)) ((wv L 0 (ds.take k) s).app d) := by
  rw [hd, Y6, hl, Yd]
  simp only [wv, h1, qi]
  rw [qa8 (L' := L) (ds.take k) 0 s fun j hj => hne _ (by omega)]
  rw [show (qdv k ds ++ d :: qaJ (k + 1) ds).drop (k + 1) = ds.drop (k + 1) by rw [← hd], show (qdv k ds ++ d :: qaJ (k + 1) ds).take k = ds.take k by rw [← hd]]
  exact qa8 _ _ _ fun j _ => hne _ (by omega)
 have e2 : wv L 0 ds s = wv L (k + 1) (ds.drop (k + 1)) (wv L 0 (ds.take k) s) := by
  conv => lhs; rw [hd]
  rw [Y6, hl, Yd]
  simp only [wv, h0, qg]
 rw [e1, e2]
 exact qsN _ _ _ fun j e h2 h3 => hap (k + 1 + j) e (by rw [List.getElem?_drop] at h2; exact h2) (by omega) h3
theorem qsu (s : St) (d : Dl) (i : Nat) : (s.app d).slots[i]? = if d.dst = some i then s.slots[i]?.map (fun _ => d.v) else s.slots[i]? := by
 simp only [St.app]
 cases hd : d.dst with
 | none => simp
 | some k =>
  simp only [Q1, Option.some.injEq]
  by_cases h : k = i
  ·subst h
   by_cases hl : k < s.slots.length
   ·simp [hl]
   ·simp [hl]
  ·simp [h]
theorem qBZ {L L' : Nat → Bool} {i : Nat} : ∀ (ds : List Dl) (b : Nat) (s t : St), s.slots[i]? = t.slots[i]? → (∀ j d, ds[j]? = some d → d.dst = some i → L (b + j) = L' (b + j)) → (wv L b ds s).slots[i]? = (wv L' b ds t).slots[i]?
 | [], _, _, _, h, _ => h
 | d :: ds, b, s, t, h, hL => by
  simp only [wv]
  refine qBZ ds (b + 1) _ _ ?_ fun j e h1 h2 => by
   have := hL (j + 1) e (by simpa using h1) h2
   rwa [show b + (j + 1) = b + 1 + j by omega] at this
  by_cases hd : d.dst = some i
  ·have := hL 0 d rfl hd
   simp only [Nat.add_zero] at this
   rw [this]
   cases L' b
   ·exact h
   ·simp only [qi, qsu, hd, if_true, h]
  ·cases L b <;> cases L' b <;> simp only [qi, qg, qsu, qm hd, h]
theorem qCK {L L' : Nat → Bool} {nm : Nat} : ∀ (ds : List Dl) (b : Nat) (s t : St), qU s.blks nm = qU t.blks nm → (∀ j d, ds[j]? = some d → nm ∈ wrN d.wr → L (b + j) = L' (b + j)) → qU (wv L b ds s).blks nm = qU (wv L' b ds t).blks nm
 | [], _, _, _, h, _ => h
 | d :: ds, b, s, t, h, hL => by
  simp only [wv]
  refine qCK ds (b + 1) _ _ ?_ fun j e h1 h2 => by
   have := hL (j + 1) e (by simpa using h1) h2
   rwa [show b + (j + 1) = b + 1 + j by omega] at this
  by_cases hd : nm ∈ wrN d.wr
  ·have := hL 0 d rfl hd
   simp only [Nat.add_zero] at this
   rw [this]
   cases L' b
   ·exact h
   ·exact vG nm d.wr h
  ·cases L b <;> cases L' b <;> simp only [qi, qg, St.app, ve _ _ hd, h]
theorem qkK {L : Nat → Bool} : ∀ (ds : List Dl) (b : Nat) (s : St), (wv L b ds s).slots.length = s.slots.length
 | [], _, _ => rfl
 | d :: ds, b, s => by
  simp only [wv]
  rw [qkK ds]
  cases L b
  ·rfl
  ·simp only [qi, St.app]
   cases d.dst <;> simp [Q1]
end Go.AM
namespace Go.AM
open Go
section
variable {P : Program} [GT P] {R : wV} {cx : Cx} {w : World} {env : Env} {ro : Option Nat}
def Cx.hide (cx : Cx) (H : List Nat) : Cx := { cx with hid := fun n => n ∈ H }
theorem Mem.same {bl bl' : qL} (hm : Mem cx bl w env) (h : ∀ nm, qU bl' nm = qU bl nm) : Mem cx bl' w env :=
 ⟨fun nm v b e => hm.blk nm v b (by rw [← h]; exact e), fun nm e => hm.dom nm (by rw [← h]; exact e), fun nm e => by rw [h]; exact hm.vis nm e, hm.inj, hm.own, hm.gr, hm.frame, hm.vers, hm.ents⟩
theorem Mem.of_heap {bl : qL} {w' : World} (hw : w'.heap = w.heap) (ho : w'.os = w.os) (hp : w'.output = w.output) (hm : Mem cx bl w env) : Mem cx bl w' env := by
 have ok : ∀ B, qp cx env w B → qp cx env w' B := fun B h => ⟨h.1, by rw [hw]; exact h.2.1, h.2.2⟩
 refine ⟨fun nm v b e => ?_, hm.dom, hm.vis, hm.inj, fun nm v h B e q => ?_, ⟨by rw [hw]; exact hm.gr.size, ho.trans hm.gr.os, hp.trans hm.gr.out⟩, fun B h1 h2 => by rw [hw]; exact hm.frame B h1 h2, hm.vers, hm.ents⟩
 ·obtain ⟨h, e1, r⟩ := hm.blk nm v b e
  exact ⟨h, e1, r.mono ok (fun B o _ => zt (by rw [hw]) o) (Env.le_refl _) fun B _ => by rw [hw]⟩
 ·rw [hw]; exact hm.own nm v h B e q
theorem InvR.of_heap {used : List Nat} {st : St} {a : Act} {w' : World} (hw : w'.heap = w.heap) (ho : w'.os = w.os) (hp : w'.output = w.output) (hi : InvR cx used st a w env) : InvR cx used st a w' env := by
 have ok : ∀ B, qp cx env w B → qp cx env w' B := fun B h => ⟨h.1, by rw [hw]; exact h.2.1, h.2.2⟩
 have rep : ∀ {u x}, Rep w (qp cx env w) env u x → Rep w' (qp cx env w') env u x := fun h => h.mono ok (fun B o _ => zt (by rw [hw]) o) (Env.le_refl _)
 refine ⟨⟨hi.defers.mono (qT _) ok fun _ _ => by rw [hw], hi.size, fun i h => ?_, hi.mem.of_heap hw ho hp⟩, hi.gds⟩
 have := hi.slot i h
 revert this
 cases st.slots.getD i .undef <;> intro h
 case gd s b x => exact ⟨fun e => rep (h.1 e), h.2⟩
 all_goals exact rep h
theorem InvR.same {used used' : List Nat} {st st' : St} {a : Act} (hi : InvR cx used st a w env) (h : SameSt st' st) (hu : ∀ s ∈ used, s ∈ used') : InvR cx used' st' a w env := by
 obtain ⟨sl, bl⟩ := st
 obtain ⟨sl', bl'⟩ := st'
 obtain ⟨h1, h2⟩ := h
 simp only at h1 h2
 subst h1
 exact ⟨⟨hi.defers, hi.size, hi.slot, hi.mem.same h2⟩, fun i s b x e => ⟨hu s (hi.gds i s b x e).1, (hi.gds i s b x e).2⟩⟩
theorem qQ6 {bl blk : qL} {H : List Nat} (hm : Mem cx bl w env) (hh : ∀ n, ¬ cx.hid n) (hk : ∀ nm, qU blk nm = if wu nm H = true then none else qU bl nm) {wr : List (Nat × Nat × Blk)} {w' : World} {env' : Env}
  (T : Trans (cx.hide H) w env (wi blk wr) w' env') (hw : ∀ n ∈ wrN wr, n ∉ H) : Trans cx w env (wi bl wr) w' env' := by
 have hidden : ∀ nm, nm ∈ H → qU (wi bl wr) nm = qU bl nm := fun nm h => ve _ _ fun e => hw nm e h
 have seen : ∀ nm, nm ∉ H → qU (wi bl wr) nm = qU (wi blk wr) nm := fun nm h => vG nm wr (by
  rw [hk, qm]; exact fun e => h (wA.1 e))
 refine ⟨⟨fun nm v b e => ?_, fun nm e _ => ?_, fun nm h => absurd h (hh nm), T.mem.inj, T.mem.own, T.mem.gr, T.mem.frame, T.mem.vers, T.mem.ents⟩, T.le, T.ok, T.cell, fun nm h => absurd h (hh nm)⟩
 ·by_cases h : nm ∈ H
  ·rw [hidden nm h] at e
   obtain ⟨x, hx, hr⟩ := hm.blk nm v b e
   obtain ⟨f1, f2⟩ := T.far nm h
   exact ⟨x, by rw [f1]; exact hx, hr.mono T.ok (fun B o hB => zt (T.cell B hB) o) T.le fun B q => f2 v x B hx q⟩
  ·rw [seen nm h] at e
   exact T.mem.blk nm v b e
 ·by_cases h : nm ∈ H
  ·rw [hidden nm h] at e
   rw [(T.far nm h).1]
   exact hm.dom nm e (hh nm)
  ·rw [seen nm h] at e
   exact T.mem.dom nm e h
theorem qfw {α : Type} {p : Nat → Bool} {f : α → List Nat} {n : Nat} : ∀ {l : List α} {k : Nat}, n ∈ vh p f k l → ∃ j x, l[j]? = some x ∧ p (k + j) = true ∧ n ∈ f x
 | [], _, h => by simp [vh] at h
 | y :: l, k, h => by
  simp only [vh, zW] at h
  rcases h with h | h
  ·cases hp : p k
   ·simp [hp] at h
   ·rw [hp] at h
    exact ⟨0, y, rfl, by simpa using hp, h⟩
  ·obtain ⟨j, x, h1, h2, h3⟩ := qfw h
   exact ⟨j + 1, x, by simpa using h1, by rwa [show k + (j + 1) = k + 1 + j by omega], h3⟩
theorem qhy {d : Nat} {hs : List Nat} : ∀ {n : Nat}, qjh d hs n = true → ∀ k, k < n → wk d k ∉ hs
 | 0, _, k, h => by omega
 | n + 1, e, k, h => by
  simp only [qjh, qj] at e
  by_cases hk : k = n
  ·subst hk
   intro hm
   rw [wA.2 hm] at e
   simp at e
  ·exact qhy e.2 k (by omega)
theorem qgJ {ops : List Oper} {ancs : List (List Nat)} {k d : Nat} : ∀ {l : List Oper} {b j : Nat} {o : Oper}, qbO ops ancs k d b l = true → l[j]? = some o → d ∈ wM ops o → k ∈ wJ ancs (b + j)
 | [], _, _, _, _, h, _ => by simp at h
 | o' :: l, b, 0, o, e, h, hd => by
  simp at h; subst h
  simp only [qbO, qj, qJr] at e
  rw [wA.2 hd] at e
  simp at e
  exact wA.1 e.1
 | o' :: l, b, j + 1, o, e, h, hd => by
  simp only [qbO, qj] at e
  have := qgJ e.2 (by simpa using h) hd
  rwa [show b + (j + 1) = b + 1 + j by omega]
structure Plan (P : Program) [GT P] (R : wV) (ops : Array Oper) (ancs nms : List (List Nat)) (dls : List Dl) (st : St) : Prop where
 len : dls.length = ops.size
 ok : ∀ k o, ops[k]? = some o → ∃ d φ ora ora', dls[k]? = some d ∧ qlD ops.toList ancs nms k o d = true ∧ xo P R ops.toList k o (vp ops.toList ancs nms k dls st) ora = some (φ, d, ora') ∧ zk φ
theorem qpX {ops : Array Oper} {ancs nms : List (List Nat)} {st : St} : ∀ (rest : List Oper) (k : Nat) (dls0 dls : List Dl) (ora ora' : List Or) (φ : List Prop), ops.toList.drop k = rest → dls0.length = k → qts P R ops.toList ancs nms rest k dls0 st ora = some (φ, dls, ora') → zk φ →
  dls.length = k + rest.length ∧ dls.take k = dls0 ∧ ∀ j o, k ≤ j → ops[j]? = some o → ∃ d φ ora ora', dls[j]? = some d ∧ qlD ops.toList ancs nms j o d = true ∧ xo P R ops.toList j o (vp ops.toList ancs nms j dls st) ora = some (φ, d, ora') ∧ zk φ
 | [], k, dls0, dls, ora, ora', φ, hr, hl, e, hφ => by
  simp [qts] at e; obtain ⟨rfl, rfl, rfl⟩ := e
  refine ⟨by simp [hl], by rw [← hl]; simp, fun j o hj ho => ?_⟩
  have : ops.size ≤ k := by
   have := congrArg qe hr
   simp at this; omega
  have := (Array.getElem?_eq_some_iff.1 ho).1
  omega
 | o :: rest, k, dls0, dls, ora, ora', φ, hr, hl, e, hφ => by
  simp only [qts] at e
  split at e
  ·rename_i φ1 d ora1 h1
   cases hok : qlD ops.toList ancs nms k o d <;> simp only [hok, qg, qi] at e
   ·simp at e
   split at e
   ·rename_i φ2 dls2 ora2 h2
    simp at e; obtain ⟨rfl, rfl, rfl⟩ := e
    have hr' : ops.toList.drop (k + 1) = rest := by
     have := congrArg (qaJ 1) hr
     simpa [List.drop_drop, Nat.add_comm] using this
    obtain ⟨i1, i2, i3⟩ := qpX rest (k + 1) (dls0 ++ [d]) dls2 ora1 ora2 φ2 hr' (by simp [hl]) h2 (fun p hp => hφ p (by simp [hp]))
    have hk : dls2[k]? = some d := by
     have := congrArg (·[k]?) i2
     simp only [List.getElem?_take] at this
     rw [qd (by omega)] at this
     rw [this, List.getElem?_append_right (by omega)]
     simp [hl]
    have ht : dls2.take k = dls0 := by
     have := congrArg (qdv k) i2
     rw [List.take_take, Nat.min_eq_left (by omega)] at this
     rw [this, ← hl]; simp
    have hok' := hok
    refine ⟨by simp; omega, ht, fun j o' hj ho' => ?_⟩
    by_cases hjk : j = k
    ·subst hjk
     have : o' = o := by
      have h3 : ops.toList[j]? = some o := by
       have := congrArg (·[0]?) hr
       simpa using this
      rw [show ops.toList[j]? = ops[j]? by simp, ho'] at h3
      simpa using h3
     subst this
     have hlt : ∀ i, wu i (wJ ancs j) = true → i < j := fun i hi => by
      simp only [qlD, qtk, qj] at hok
      have := qfT.1 hok.1.2 i (wA.1 hi)
      simp only [qj] at this
      have := this.2
      simp [Nat.blt] at this
      omega
     have hb : vp ops.toList ancs nms j dls2 st = vp ops.toList ancs nms j dls0 st := by
      unfold vp
      have : wv (fun i => wu i (wJ ancs j)) 0 dls2 st = wv (fun i => wu i (wJ ancs j)) 0 dls0 st := by
       conv => lhs; rw [← qnA j dls2, ht]
       rw [Y6]
       refine qhN _ _ _ fun i _ => ?_
       cases h : wu (0 + dls0.length + i) (wJ ancs j) with
       | false => rfl
       | true => have := hlt _ h; omega
      rw [this]
     exact ⟨d, φ1, ora, ora1, hk, hok', by rw [hb]; exact h1, fun p hp => hφ p (by simp [hp])⟩
    ·exact i3 j o' (by omega) ho'
   ·simp at e
  ·simp at e
section
variable {ops : Array Oper} {ancs nms : List (List Nat)} {dls : List Dl} {st : St}
theorem Plan.anc (S : Plan P R ops ancs nms dls st) {k : Nat} {o : Oper} (ho : ops[k]? = some o) :
  (∀ e ∈ o.after, Region.binds .any e = true → e.on < k ∧ e.on ∈ wJ ancs k) ∧ ∀ i ∈ wJ ancs k, i < k ∧ ∃ e ∈ o.after, Region.binds .any e = true ∧ (e.on = i ∨ i ∈ wJ ancs e.on) := by
 obtain ⟨d, φ, ora, ora', h1, h2, h3, h4⟩ := S.ok k o ho
 simp only [qlD, qtk, qj] at h2
 refine ⟨fun e he hb => ?_, fun i hi => ?_⟩
 ·have := qtj.1 h2.1.1 e (Array.mem_toList_iff.2 he)
  simp only [hb, vB, zn, qj] at this
  exact ⟨by have := this.1; simp [Nat.blt] at this; omega, wA.1 this.2⟩
 ·have := qfT.1 h2.1.2 i hi
  simp only [qj] at this
  obtain ⟨e, he, hb⟩ := qt9.1 this.1
  simp only [qj, qJr] at hb
  refine ⟨by have := this.2; simp [Nat.blt] at this; omega, e, Array.mem_toList_iff.1 he, hb.1, hb.2.imp (fun h => ql h) wA.1⟩
theorem qpB {k j : Nat} : qa5 ancs k j = true ↔ j ≠ k ∧ j ∉ wJ ancs k ∧ k ∉ wJ ancs j := by
 unfold qa5
 simp only [qj, Bool.not_eq_true']
 constructor
 ·rintro ⟨h1, h2, h3⟩
  exact ⟨fun e => by rw [e, qfX] at h1; simp at h1, fun e => by rw [wA.2 e] at h2; simp at h2, fun e => by rw [wA.2 e] at h3; simp at h3⟩
 ·rintro ⟨h1, h2, h3⟩
  refine ⟨Vl h1, ?_, ?_⟩
  ·cases h : wu j (wJ ancs k) with
   | false => rfl
   | true => exact absurd (wA.1 h) h2
  ·cases h : wu k (wJ ancs j) with
   | false => rfl
   | true => exact absurd (wA.1 h) h3
theorem qg7 {k n : Nat} {l : List (List Nat)} (h : n ∈ wJ l k) : ∃ m, l[k]? = some m ∧ n ∈ m := by
 unfold wJ at h
 rw [List.getD_eq_getElem?_getD] at h
 cases e : l[k]? with
 | none => simp [e] at h
 | some m => simp [e] at h; exact ⟨m, rfl, h⟩
structure OkOp (ops : Array Oper) (ancs nms : List (List Nat)) (k : Nat) (o : Oper) (d : Dl) : Prop where
 wrs : ∀ n ∈ wrN d.wr, n ∈ wJ nms k ∧ n ∉ Z4 ancs nms k
 news : 100 + o.dst.getD 0 ∉ Z4 ancs nms k ∧ ∀ i, i < 16 → wk (o.dst.getD 0) i ∉ Z4 ancs nms k
 guards : ∀ s j oj, o.dst = some s → ops[j]? = some oj → s ∈ wM ops.toList oj → k ∈ wJ ancs j
 msk : ∀ s, o.dst = some s → s ∉ qfS ops.toList ancs k
theorem Plan.okOp (S : Plan P R ops ancs nms dls st) {k : Nat} {o : Oper} {d : Dl} (ho : ops[k]? = some o) (hd : dls[k]? = some d) : OkOp ops ancs nms k o d ∧ d.dst = o.dst := by
 obtain ⟨d', φ, ora, ora', h1, h2, h3, h4⟩ := S.ok k o ho
 rw [hd] at h1; simp at h1; subst h1
 refine ⟨?_, qAQ h3⟩
 simp only [qlD, qj] at h2
 obtain ⟨_, g1, g2, g3, g4⟩ := h2
 have no : ∀ {n : Nat} {l : List Nat}, (!wu n l) = true → n ∉ l := fun {n l} h hm => by rw [wA.2 hm] at h; simp at h
 refine ⟨fun n hn => ?_, ⟨no g2, qhy g3⟩, fun s j oj hs hj hg => ?_, fun s hs => ?_⟩
 ·have := qfT.1 g1 n hn
  simp only [qj] at this
  exact ⟨wA.1 this.1, no this.2⟩
 ·rw [hs] at g4
  simp only [qj] at g4
  have := qgJ g4.1 (show ops.toList[j]? = some oj by simpa using hj) hg
  rwa [Yd] at this
 ·rw [hs] at g4
  simp only [qj] at g4
  exact no g4.2
theorem Plan.apart (S : Plan P R ops ancs nms dls st) {k j : Nat} {o oj : Oper} {d e : Dl} (ho : ops[k]? = some o) (hj : ops[j]? = some oj) (hd : dls[k]? = some d) (he : dls[j]? = some e) (hu : qa5 ancs k j = true) : Apart d e := by
 obtain ⟨a1, a2⟩ := S.okOp ho hd
 obtain ⟨b1, b2⟩ := S.okOp hj he
 refine ⟨fun s hs hs' => ?_, fun n hn hn' => ?_⟩
 ·refine a1.msk s (by rw [← a2]; exact hs) (QQ (k := 0) (l := ops.toList) (j := j) (x := oj) (by simpa using hj) (by simpa using hu) ?_)
  simp [qFW, ← b2, hs']
 ·refine (a1.wrs n hn).2 ?_
  obtain ⟨m, hm, hnm⟩ := qg7 (b1.wrs n hn').1
  exact QQ (k := 0) (l := nms) (j := j) (x := m) hm (by simpa using hu) hnm
theorem qBj (S : Plan P R ops ancs nms dls st) {listed : Array Bool} (hs : listed.size = ops.size) (hr : Region.ready .any ops listed = []) : ∀ k, k < ops.size → listed.getD k false = true := by
 intro k
 induction k using Nat.strongRecOn with
 | ind k ih =>
  intro hk
  cases hl : listed.getD k false with
  | true => rfl
  | false =>
   have hk' : k < listed.size := by omega
   have ho : ops[k]? = some ops[k] := Array.getElem?_eq_getElem hk
   have : k ∈ Region.ready .any ops listed := mem_ready.2 ⟨by simp [hk'] at hl ⊢; exact hl, _, ho, fun e he hb => ih e.on ((S.anc ho).1 e he hb).1 (by have := ((S.anc ho).1 e he hb).1; omega)⟩
   rw [hr] at this; simp at this
theorem qDh (hG : cx.Gok P) (hh : ∀ n, ¬ cx.hid n) (S : Plan P R ops ancs nms dls st) {Q : Exit → Act → World → Prop} (hQ : ∀ used a' w' env', InvR cx used (wv (fun _ => true) 0 dls st) a' w' env' → Q .normal a' w') :
  ∀ (fuel : Nat) (listed : Array Bool) (a : Act) (w : World) (env : Env), listed.size = ops.size → (∀ k, listed.getD k false = true → ∀ i ∈ wJ ancs k, listed.getD i false = true) → listed.countP (!·) ≤ fuel →
  InvR cx (vh (fun j => listed.getD j false) (wM ops.toList) 0 ops.toList) (wv (fun j => listed.getD j false) 0 dls st) a w env → wpAnyIn (FR ro) 0 P .any ops Q fuel listed a w := by
 have done : ∀ (listed : Array Bool) (a : Act) (w : World) (env : Env), listed.size = ops.size → InvR cx (vh (fun j => listed.getD j false) (wM ops.toList) 0 ops.toList) (wv (fun j => listed.getD j false) 0 dls st) a w env →
   Region.ready .any ops listed = [] → Q .normal a w := fun listed a w env hs hi hr => by
  refine hQ (vh (fun j => listed.getD j false) (wM ops.toList) 0 ops.toList) a w env ?_
  rw [qa8 (L' := fun j => listed.getD j false) dls 0 st fun j hj => (qBj S hs hr (0 + j) (by rw [Yd, ← S.len]; exact hj)).symm]
  exact hi
 intro fuel
 induction fuel with
 | zero =>
  intro listed a w env hs hc hn hi
  have hr : Region.ready .any ops listed = [] := by
   cases hr : Region.ready .any ops listed with
   | nil => rfl
   | cons k r =>
    have hk : k ∈ Region.ready .any ops listed := by rw [hr]; simp
    obtain ⟨h0, o, ho, _⟩ := mem_ready.1 hk
    have hlt : k < listed.size := by rw [hs]; exact (Array.getElem?_eq_some_iff.1 ho).1
    have : 0 < listed.countP (!·) := Array.countP_pos_iff.2 ⟨listed[k], Array.getElem_mem hlt, by simp [hlt] at h0; simp [h0]⟩
    omega
  exact ⟨hr, done listed a w env hs hi hr⟩
 | succ fuel ih =>
  intro listed a w env hs hc hn hi
  refine ⟨fun hr => done listed a w env hs hi hr, fun k hk => ?_⟩
  obtain ⟨h0, o, ho, hall⟩ := mem_ready.1 hk
  have hlt : k < listed.size := by rw [hs]; exact (Array.getElem?_eq_some_iff.1 ho).1
  have hk0 : listed.getD k false = false := by simp [hlt] at h0 ⊢; exact h0
  have hanc : ∀ i ∈ wJ ancs k, listed.getD i false = true := fun i hi => by
   obtain ⟨_, e, he, hb, h⟩ := (S.anc ho).2 i hi
   rcases h with h | h
   ·rw [← h]; exact hall e he hb
   ·exact hc e.on (hall e he hb) i h
  have hdes : ∀ j, listed.getD j false = true → k ∉ wJ ancs j := fun j hj hm => by
   have := hc j hj k hm
   rw [hk0] at this; simp at this
  obtain ⟨d, φ, ora, ora', hd, _, hxo, hφ⟩ := S.ok k o ho
  obtain ⟨ok1, hdst⟩ := S.okOp ho hd
  have set_k : (listed.setIfInBounds k true).getD k false = true := by simp [hlt]
  have set_ne : ∀ j, j ≠ k → (listed.setIfInBounds k true).getD j false = listed.getD j false := fun j hj => getD_set_ne false (Ne.symm hj)
  have other : ∀ j dj, dls[j]? = some dj → listed.getD j false = true → j ∉ wJ ancs k → Apart d dj := fun j dj hj hl hn => by
   have hjs : j < ops.size := by rw [← S.len]; exact (List.getElem?_eq_some_iff.1 hj).1
   exact S.apart ho (Array.getElem?_eq_getElem hjs) hd hj (qpB.2 ⟨fun e => by rw [e, hk0] at hl; simp at hl, hn, hdes j hl⟩)
  have WR : SameSt (wv (fun j => (listed.setIfInBounds k true).getD j false) 0 dls st) ((wv (fun j => listed.getD j false) 0 dls st).app d) := by
   refine quD hd hk0 set_k set_ne (fun j e h1 h2 h3 => other j e h1 h3 fun hm => ?_) st
   have := ((S.anc ho).2 j hm).1
   omega
  have agree : ∀ j dj, dls[j]? = some dj → qa5 ancs k j = false → wu j (wJ ancs k) = listed.getD j false := fun j dj hj hu => by
   cases hm : wu j (wJ ancs k) with
   | true => exact (hanc j (wA.1 hm)).symm
   | false =>
    cases hl : listed.getD j false with
    | false => rfl
    | true =>
     have : qa5 ancs k j = true := qpB.2 ⟨fun e => by rw [e, hk0] at hl; simp at hl, fun e => by rw [wA.2 e] at hm; simp at hm, hdes j hl⟩
     rw [hu] at this; simp at this
  have slots : ∀ i, i ∉ qfS ops.toList ancs k → (wv (fun j => wu j (wJ ancs k)) 0 dls st).slots[i]? = (wv (fun j => listed.getD j false) 0 dls st).slots[i]? := fun i hi => by
   refine qBZ dls 0 st st rfl fun j dj hj hdj => ?_
   rw [Yd]
   refine agree j dj hj ?_
   cases hu : qa5 ancs k j with
   | false => rfl
   | true =>
    have hjs : j < ops.size := by rw [← S.len]; exact (List.getElem?_eq_some_iff.1 hj).1
    have hoj : ops[j]? = some ops[j] := Array.getElem?_eq_getElem hjs
    exact absurd (QQ (k := 0) (l := ops.toList) (j := j) (x := ops[j]) (by simp [hjs]) (by simpa using hu) (by simp [qFW, ← (S.okOp hoj hj).2, hdj])) hi
  have blks : ∀ nm, nm ∉ Z4 ancs nms k → qU (wv (fun j => wu j (wJ ancs k)) 0 dls st).blks nm = qU (wv (fun j => listed.getD j false) 0 dls st).blks nm := fun nm hn => by
   refine qCK dls 0 st st rfl fun j dj hj hdj => ?_
   rw [Yd]
   refine agree j dj hj ?_
   cases hu : qa5 ancs k j with
   | false => rfl
   | true =>
    have hjs : j < ops.size := by rw [← S.len]; exact (List.getElem?_eq_some_iff.1 hj).1
    have hoj : ops[j]? = some ops[j] := Array.getElem?_eq_getElem hjs
    obtain ⟨m, hm, hnm⟩ := qg7 ((S.okOp hoj hj).1.wrs nm hdj).1
    exact absurd (QQ (k := 0) (l := nms) (j := j) (x := m) hm (by simpa using hu) hnm) hn
  have hbk : ∀ nm, qU (vp ops.toList ancs nms k dls st).blks nm = if wu nm (Z4 ancs nms k) = true then none else qU (wv (fun j => listed.getD j false) 0 dls st).blks nm := fun nm => by
   unfold vp
   simp only
   rw [qnf]
   by_cases h : wu nm (Z4 ancs nms k) = true
   ·simp [h]
   ·simp only [h]
    exact blks nm fun e => h (wA.2 e)
  have inv : InvR (cx.hide (Z4 ancs nms k)) (vh (fun j => listed.getD j false) (wM ops.toList) 0 ops.toList) (vp ops.toList ancs nms k dls st) a w env := by
   have hlen : (vp ops.toList ancs nms k dls st).slots.length = (wv (fun j => listed.getD j false) 0 dls st).slots.length := by
    unfold vp
    simp only
    rw [qhl, qkK, qkK]
   have hget : ∀ i, (vp ops.toList ancs nms k dls st).slots[i]? = if wu i (qfS ops.toList ancs k) = true then (wv (fun j => wu j (wJ ancs k)) 0 dls st).slots[i]?.map (fun _ => .undef) else (wv (fun j => listed.getD j false) 0 dls st).slots[i]? := fun i => by
    unfold vp
    simp only
    rw [qpW, Yd]
    by_cases h : wu i (qfS ops.toList ancs k) = true
    ·simp [h]
    ·simp only [h]
     exact slots i fun e => h (wA.2 e)
   refine ⟨⟨hi.defers, by rw [hlen]; exact hi.size, fun i h => ?_, ⟨fun nm v b e => ?_, fun nm e hnh => ?_, fun nm hnh => ?_, hi.mem.inj, hi.mem.own, hi.mem.gr, hi.mem.frame, hi.mem.vers, hi.mem.ents⟩⟩, fun i s b x e => ?_⟩
   ·have hg := hget i
    rw [List.getD_eq_getElem?_getD, hg]
    by_cases hm : wu i (qfS ops.toList ancs k) = true
    ·rw [qd hm]
     cases (wv (fun j => wu j (wJ ancs k)) 0 dls st).slots[i]? <;> exact Rep.undef _
    ·rw [qm hm, ← List.getD_eq_getElem?_getD]
     exact hi.slot i (by rw [← hlen]; exact h)
   ·rw [hbk] at e
    split at e
    ·simp at e
    ·exact hi.mem.blk nm v b e
   ·rw [hbk, qm (fun h => hnh (wA.1 h))] at e
    exact hi.mem.dom nm e (hh nm)
   ·rw [hbk, qd (wA.2 hnh)]
   ·rw [hget] at e
    split at e
    ·cases he : (wv (fun j => wu j (wJ ancs k)) 0 dls st).slots[i]? <;> simp [he] at e
    ·exact hi.gds i s b x e
  have hnews : qiH (cx.hide (Z4 ancs nms k)) (o.dst.getD 0) := ⟨⟨by omega, ok1.news.1⟩, fun i hi => ok1.news.2 i hi⟩
  have nog : ∀ s j oj, o.dst = some s → listed.getD j false = true ∨ j = k → ops[j]? = some oj → s ∉ wM ops.toList oj := fun s j oj hs hl hj hm => by
   have := ok1.guards s j oj hs hj hm
   rcases hl with hl | hl
   ·exact hdes j hl this
   ·subst hl
    have := ((S.anc ho).2 j this).1
    omega
  refine qsk (cx := cx.hide (Z4 ancs nms k)) hG inv ho hxo hφ (fun s hs => nog s k o hs (.inr rfl) ho) hnews fun v w' env' T hv hg => ?_
  have T' : Trans cx w env (wi (wv (fun j => listed.getD j false) 0 dls st).blks d.wr) w' env' := qQ6 hi.mem hh hbk T fun n hn => (ok1.wrs n hn).2
  have hfree : ∀ s, d.dst = some s → s ∉ wM ops.toList o ++ vh (fun j => listed.getD j false) (wM ops.toList) 0 ops.toList := fun s hs hm => by
   rw [hdst] at hs
   rcases zW.1 hm with hm | hm
   ·exact nog s k o hs (.inr rfl) ho hm
   ·obtain ⟨j, oj, h1, h2, h3⟩ := qfw hm
    rw [Yd] at h2
    exact nog s j oj hs (.inl h2) (by simpa using h1) h3
  have hi' : InvR cx (wM ops.toList o ++ vh (fun j => listed.getD j false) (wM ops.toList) 0 ops.toList) ((wv (fun j => listed.getD j false) 0 dls st).app d) (a.put d.dst v) w' env' :=
   qd3 hi T' (fun s hs => zW.2 (.inr hs)) hfree (fun _ _ => hv) fun _ _ s b x e => ⟨by simp [(hg s b x e).1], (hg s b x e).2⟩
  refine ih (listed.setIfInBounds k true) _ w' env' (by simp [hs]) (fun j hj i hi => ?_) ?_ (hi'.same WR fun s hs => ?_)
  ·by_cases hik : i = k
   ·rw [hik]; exact set_k
   rw [set_ne i hik]
   by_cases hjk : j = k
   ·subst hjk; exact hanc i hi
   ·rw [set_ne j hjk] at hj
    exact hc j hj i hi
  ·have hlk : listed[k] = false := by simp [hlt] at h0; exact h0
   have : (listed.set k true hlt).countP (!·) = listed.countP (!·) - (if (!listed[k]) = true then 1 else 0) + (if (!true) = true then 1 else 0) := Array.countP_set hlt
   rw [Array.setIfInBounds, dif_pos hlt, this, hlk]
   simp
   omega
  ·rcases zW.1 hs with hs | hs
   ·exact QQ (k := 0) (l := ops.toList) (j := k) (x := o) (by simpa using ho) (by simp [hlt]) hs
   ·obtain ⟨j, oj, h1, h2, h3⟩ := qfw hs
    rw [Yd] at h2
    refine QQ (k := 0) (l := ops.toList) (j := j) (x := oj) h1 ?_ h3
    rw [Yd]
    by_cases hjk : j = k
    ·subst hjk; exact set_k
    ·rw [set_ne j hjk]; exact h2
theorem qy4 (hG : cx.Gok P) (hh : ∀ n, ¬ cx.hid n) (hm : P.follows .mixedOrders = true) {id : Nat} (S : Plan P R ops ancs nms dls st) {a : Act} (hi : Inv cx st a w env) (hng : zm st.slots = true) {Q : Exit → Act → World → Prop}
  (hQ : ∀ used a' w' env', InvR cx used (wv (fun _ => true) 0 dls st) a' w' env' → Q .normal a' w') : (Code.region id ops true).wpIn (FR ro) 0 P Q a w := by
 have f : ∀ j, (Array.replicate ops.size false).getD j false = false := fun j => by
  simp [Array.getElem?_replicate]
  split <;> rfl
 have nog : ∀ (l : List AV), zm l = true → ∀ (i s : Nat) (b : Bool) (x : AV), l[i]? ≠ some (AV.gd s b x) := by
  intro l
  induction l with
  | nil => intro _ i s b x; simp
  | cons y l ih =>
   intro h i s b x
   simp only [zm, qj] at h
   cases i with
   | zero => intro e; simp at e; rw [e] at h; simp [zg] at h
   | succ i => simpa using ih h.2 i s b x
 refine wpIn_region_any hm (qDh hG hh S hQ ops.size _ a _ env (by simp) (fun k hk => by rw [f] at hk; simp at hk) ?_ ?_)
 ·have := Array.countP_le_size (p := (!·)) (xs := Array.replicate ops.size false)
  simpa using this
 ·have e : wv (fun j => (Array.replicate ops.size false).getD j false) 0 dls st = st := qhN _ _ _ fun j _ => f _
  rw [e]
  refine InvR.of_heap (w := w) rfl rfl rfl ⟨hi, fun i s b x e => absurd e (nog _ hng i s b x)⟩
end
end
end Go.AM
namespace Go.AM
open Go
def qou (P : Program) [GT P] (R : wV) (ops : List Oper) (draw : Bool) (st : St) (ora : List Or) : Option (List Prop × St × List Or) :=
 bif zm st.slots then (match draw with
  | false => match qr1 P R ops ops 0 [] st ora with
   | some (φ, s, ora') => some (φ, ⟨Qu s.slots, s.blks⟩, ora')
   | none => none
  | true => match qts P R ops (qtb ops []) (qof P R ops ops 0 st ora) ops 0 [] st ora with
   | some (φ, dls, ora') => match wv (fun _ => true) 0 dls st with
    | s => some (φ, ⟨Qu s.slots, s.blks⟩, ora')
   | none => none)
 else none
inductive Wy where
 | of (fn : Func)
 | round
def qja : Func := { name := "", origin := "", params := #[], resultTypes := #[], nfree := 0, ntmps := 1, tmpNames := #[], results := #[.tmp 0], body := none, norace := false }
def Wy.fn : Wy → Func
 | .of f => f
 | .round => qja
def Wy.rd : Wy → Bool
 | .of _ => false
 | .round => true
instance : Coe Func Wy := ⟨.of⟩
def vQ : Code → Nat
 | .region id _ _ => id
 | .seq a b => match vQ a with
  | 9999 => vQ b
  | n => n
 | .block _ c => vQ c
 | .loop c => vQ c
 | _ => 9999
def qFV : Operand → List Nat
 | .tmp t => [t]
 | _ => []
def X7 : Code → List Nat
 | .region _ ops _ => zF (fun o => zF qFV (Op.operands o.op).toList) ops.toList
 | .seq a b => X7 a ++ X7 b
 | .block _ c => X7 c
 | .loop c => X7 c
 | .scope c => X7 c
 | .cond x a b => qFV x ++ (X7 a ++ X7 b)
 | .rangeFunc g _ a b => qFV g ++ (X7 a ++ X7 b)
 | _ => []
def XZ (us : List Nat) : Nat → List AV → List AV
 | _, [] => []
 | i, x :: l => (bif wu i us then ung x else .undef) :: XZ us (i + 1) l
def isNone {α : Type} : Option α → Bool
 | none => true
 | some _ => false
def qyl : Option Code → LoopState
 | none => .ready
 | some _ => .done
def qiM (rd : Bool) (jump : Option Code) (st : St) : Option St := match rd with
 | false => (match jump with
  | none => some st
  | some c => match c with
   | .ret => some st
   | _ => none)
 | true => match qU st.blks 0 with
  | some (0, .loop _ _ rc sl) => some ⟨[.r (.v (.bool (isNone jump)))], zT st.blks 0 0 (.loop (qyl jump) jump rc sl)⟩
  | _ => none
def XI (st : St) (nm : Nat) (ps : Array Nat) (tys : List TypeId) (asg body : Code) : qL :=
 zT st.blks nm (q7 st.blks nm) (.loop .ready none ⟨ps.toList, tys, asg, body⟩ (XZ (X7 asg ++ X7 body) 0 st.slots))
def qaq (rd : Bool) (bl : qL) : Bool := match rd with
 | false => true
 | true => match qU bl 0 with
  | some (0, .loop _ _ _ _) => true
  | _ => false
def qkS (P : Program) (f : Nat) (i : Nat) : List TypeId := match P.funcs.toList[f]? with
 | some fn => match fn.params.toList[i]? with
  | some t => match P.underlying t with
   | some (.func ps _ _) => ps.toList
   | _ => []
  | none => []
 | none => []
def qi6 (P : Program) [GT P] (R : wV) (st : St) (nm : Nat) (f : Nat) (first captured : List AV) (ps : Array Nat) (asg body : Code) (ora : List Or) : Option (List Prop × St × Option Code × List Or) :=
 match qan P R (XI st nm ps (qkS P f first.length) asg body) none f (first ++ (.own nm (q7 st.blks nm) :: captured)) ora with
 | some (φ, dl, ora') => match qU (wi (XI st nm ps (qkS P f first.length) asg body) dl.wr) nm with
  | some (v, .loop s p rc sl) => bif qC v (q7 st.blks nm) && (match s with
    | .busy => false
    | _ => true) then
    some (φ, ⟨st.slots, zT (wi (XI st nm ps (qkS P f first.length) asg body) dl.wr) nm v (.loop .exhausted p rc sl)⟩, p, ora') else none
  | _ => none
 | none => none
def qsr (P : Program) [GT P] (R : wV) (rd : Bool) (st : St) (g : Operand) (ps : Array Nat) (asg body : Code) (ora : List Or) : Option (List Prop × St × Option Code × List Or) :=
 bif qaq rd st.blks && zm st.slots then (match Vz st.slots [] g with
  | .fn (.func f) first captured => qi6 P R st (3000000 + vQ (.seq asg body)) f first captured ps asg body ora
  | .r (.v (.func (.func f) first captured)) => qi6 P R st (3000000 + vQ (.seq asg body)) f (zx first.toList) (zx captured.toList) ps asg body ora
  | _ => none) else none
def qiI : Option Code → List Item
 | none => []
 | some c => [.code c]
inductive XRes where
 | at (todo : List Item) (st : St)
 | ret (st : St)
def zR (P : Program) [GT P] (R : wV) (rd : Bool) (todo : List Item) (st : St) (ora : List Or) : Option (List Prop × XRes × List Or) :=
 match todo with
 | [] => match qiM rd none st with
  | some st' => some ([], .ret st', ora)
  | none => none
 | .inBlock _ :: k => some ([], .at k st, ora)
 | .inScope _ :: k => some ([], .at k st, ora)
 | .beginRound :: k => (match rd with
  | true => (match qU st.blks 0 with
   | some (0, .loop s p rc sl) => (match s with
    | .ready => some ([], .at k ⟨st.slots, zT st.blks 0 0 (.loop .busy p rc sl)⟩, ora)
    | _ => none)
   | _ => none)
  | false => none)
 | .inLoop c :: k => some ([], .at (.code c :: .inLoop c :: k) st, ora)
 | .code c :: k => match c with
  | .skip => some ([], .at k st, ora)
  | .label _ => some ([], .at k st, ora)
  | .seq x y => some ([], .at (.code x :: .code y :: k) st, ora)
  | .block id c => some ([], .at (.code c :: .inBlock id :: k) st, ora)
  | .scope c => some ([], .at (.code c :: .inScope c :: k) st, ora)
  | .loop c => some ([], .at (.code c :: .inLoop c :: k) st, ora)
  | .exit id => match exitTo id k with
   | some k' => some ([], .at k' st, ora)
   | none => match rd with
    | true => (match qiM true (some (.exit id)) st with
     | some st' => some ([], .ret st', ora)
     | none => none)
    | false => none
  | .ret => match qiM rd (some .ret) st with
   | some st' => some ([], .ret st', ora)
   | none => none
  | .rangeFunc g ps asg body => match qsr P R rd st g ps asg body ora with
   | some (φ, st', p, ora') => some (φ, .at (qiI p ++ k) st', ora')
   | none => none
  | .cond x c1 c2 => match Vz st.slots [] x with
   | .r (.v (.bool b)) => match ora with
    | .d d :: ora' => some ([b = d], .at (.code (match d with
      | true => c1
      | false => c2) :: k) st, ora')
    | _ => none
   | _ => none
  | .region _ ops draw => match qou P R ops.toList draw st ora with
   | some (φ, st', ora') => some (φ, .at k st', ora')
   | none => none
  | _ => none
 | _ => none
def qrp (ls : List Nat) (todo : List Item) : Bool := match todo with
 | [] => false
 | it :: _ => match it with
  | .inLoop _ => true
  | .code c => match c with
   | .loop _ => true
   | .region id _ _ => wu id ls
   | _ => false
  | _ => false
def qkI (P : Program) [GT P] (R : wV) (rd : Bool) (m : List Nat) : Nat → List Item → St → List Or → Option (List Prop × XRes × List Or)
 | 0, _, _, _ => none
 | n + 1, todo, st, ora => match zR P R rd todo st ora with
  | some (φ, .at todo' st', ora') => bif qrp m todo' then some (φ, .at todo' st', ora') else (match qkI P R rd m n todo' st' ora' with
   | some (φ', r, ora'') => some (φ ++ φ', r, ora'')
   | none => none)
  | some (φ, .ret st', ora') => some (φ, .ret st', ora')
  | none => none
theorem qr9 {P : Program} {b : Frame} {a : Act} {k : List Item} {cs : List Frame} {w : World} {c : Code} : step P (lone (b.atR a (.code (.scope c) :: k)) cs w) = .next (lone (b.atR a (.code c :: .inScope c :: k)) cs w) :=
 step_lone_go (by simp [stepG, stepG.exec, Frame.atR])
theorem qnO {P : Program} {b : Frame} {a : Act} {k : List Item} {cs : List Frame} {w : World} {c : Code} : step P (lone (b.atR a (.inScope c :: k)) cs w) = .next (lone (b.atR a k) cs w) :=
 step_lone_go (by simp [stepG, stepG.exec, Frame.atR])
def Leaves (P : Program) [GT P] (fn : Wy) (cx : Cx) (res : AV) (bout : List (Nat × Blk)) (b : Frame) (cs : List Frame) (m : Machine) : Prop := match fn with
 | .of fn => b.roundOf = none → ∃ a' w' todo, Steps P m (lone { b.atR a' todo with mode := .returning } cs w') ∧ a'.defers = [] ∧ ∃ v env', (results fn a'.tmps).run P w' = .ok v w' ∧ Mem cx (zV 0 bout) w' env' ∧ Rep w' (qp cx env' w') env' v res
 | .round => ∀ l c cs', b.roundOf = some l → b.kind = .normal → cs = c :: cs' → cx.ent 0 = some (.func (.yield l) #[] #[]) → ∃ v w' env', Steps P m (lone (c.finish v) cs' w') ∧ Mem cx (zV 0 bout) w' env' ∧ Rep w' (qp cx env' w') env' v res
def Ev (P : Program) [GT P] (fn : Wy) (m : Nat) (todo : List Item) (st : St) (res : AV) (bout : List (Nat × Blk)) : Prop :=
 ∀ (cx : Cx), cx.Gok P → (∀ n, ¬ cx.hid n) → (∀ nm h, cx.ent nm = some h → nm < m) → ∀ (b : Frame) (cs : List Frame) (a : Act) (w : World) (env : Env), Inv cx st a w env → Leaves P fn cx res bout b cs (lone (b.atR a todo) cs w)
def EvR (P : Program) [GT P] (fn : Wy) (m : Nat) (st : St) (res : AV) (bout : List (Nat × Blk)) : Prop :=
 ∀ (cx : Cx), cx.Gok P → (∀ n, ¬ cx.hid n) → (∀ nm h, cx.ent nm = some h → nm < m) → ∀ (a : Act) (w : World) (env : Env), Inv cx st a w env →
  ∃ v env', (results fn.fn a.tmps).run P w = .ok v w ∧ Mem cx (zV 0 bout) w env' ∧ Rep w (qp cx env' w) env' v res
def XOk (P : Program) [GT P] (fn : Wy) (m : Nat) (r : XRes) (res : AV) (bout : List (Nat × Blk)) : Prop := match r with
 | .at todo st => Ev P fn m todo st res bout
 | .ret st => EvR P fn m st res bout
section
variable {P : Program} [GT P] {R : wV} {cx : Cx} {w : World} {env : Env} {ro : Option Nat}
theorem Leaves.of_steps {fn : Wy} {res : AV} {bout : List (Nat × Blk)} {b : Frame} {cs : List Frame} {m m' : Machine} (h : Steps P m m') (h' : Leaves P fn cx res bout b cs m') : Leaves P fn cx res bout b cs m := by
 cases fn with
 | of fn =>
  intro hb
  obtain ⟨a', w', todo, hs, h2⟩ := h' hb
  exact ⟨a', w', todo, h.trans hs, h2⟩
 | round =>
  intro l c cs' hb hk hc he
  obtain ⟨v, w', env', hs, h2⟩ := h' l c cs' hb hk hc he
  exact ⟨v, w', env', h.trans hs, h2⟩
theorem qNd {st : St} {a : Act} {w' : World} {D : Nat} (hi : Inv cx st a w env) (hD : qmh cx w env D) (hs : w'.heap.size = w.heap.size) (ho : w'.os = w.os) (hp : w'.output = w.output) (hk : ∀ B, B ≠ D → w'.heap[B]? = w.heap[B]?) (hc : ∀ o, w'.cell? ⟨D, o, none⟩ = w.cell? ⟨D, o, none⟩) {ds : List Deferred} (hds : Marks cx w' env ds) :
  Inv cx st { a with defers := ds } w' env := by
 obtain ⟨d1, d2, d3⟩ := hD
 have ok : ∀ B, qp cx env w B → qp cx env w' B := fun B h => ⟨h.1, by rw [hs]; exact h.2.1, h.2.2⟩
 have cell : ∀ B o, qp cx env w B → w'.cell? ⟨B, o, none⟩ = w.cell? ⟨B, o, none⟩ := fun B o _ => by
  by_cases e : B = D
  ·subst e; exact hc o
  ·exact zt (hk B e) o
 have rep : ∀ {u x}, Rep w (qp cx env w) env u x → Rep w' (qp cx env w') env u x := fun h => h.mono ok cell (Env.le_refl _)
 have hm := hi.mem
 refine ⟨hds, hi.size, fun i h => ?_, ⟨fun nm v b e => ?_, hm.dom, hm.vis, hm.inj, fun nm v h B e q => by rw [hs]; exact hm.own nm v h B e q, ⟨by rw [hs]; exact hm.gr.size, ho.trans hm.gr.os, hp.trans hm.gr.out⟩, fun B h1 h2 => ?_, hm.vers, hm.ents⟩⟩
 ·have := hi.slot i h
  revert this
  cases st.slots.getD i .undef <;> intro h
  case gd s b x => exact ⟨fun e => rep (h.1 e), h.2⟩
  all_goals exact rep h
 ·obtain ⟨h, e1, r⟩ := hm.blk nm v b e
  exact ⟨h, e1, r.mono ok cell (Env.le_refl _) fun B q => hk B fun e => d2.2.2 _ _ _ e1 (by rw [← e]; exact q)⟩
 ·rw [hk B (by omega)]; exact hm.frame B h1 h2
theorem qqi {st : St} {b : Frame} {cs : List Frame} {todo : List Item} : ∀ (Ds : List Nat) {a : Act} {w : World}, a.defers = Ds.map Vw → Ds.Nodup → (∀ D ∈ Ds, qmh cx w env D) → Inv cx st a w env →
  ∃ w', Steps P (lone { b.atR a todo with mode := .returning } cs w) (lone { b.atR { a with defers := [] } todo with mode := .returning } cs w') ∧ Inv cx st { a with defers := [] } w' env
 | [], a, w, he, _, _, hi => by
  have e : ({ a with defers := [] } : Act) = a := by cases a; simp at he; simp [he]
  exact ⟨w, by rw [e]; exact .refl _ _, by rw [e]; exact hi⟩
 | D :: Ds, a, w, he, hn, hk, hi => by
  obtain ⟨n1, n2⟩ := List.nodup_cons.1 hn
  have hD := hk D (by simp)
  have hlt : D < w.heap.size := hD.2.1.2.1
  have hk' : ∀ B, B ≠ D → (w.putObj D (.deferred none)).heap[B]? = w.heap[B]? := fun B h => World.putObj_heap_other h
  have hms : ∀ D' ∈ Ds, qmh cx (w.putObj D (.deferred none)) env D' := fun D' h => by
   have h1 := hk D' (by simp [h])
   have hne : D' ≠ D := fun e => n1 (e ▸ h)
   exact ⟨h1.1, ⟨h1.2.1.1, by rw [World.putObj_size]; exact h1.2.1.2.1, h1.2.1.2.2⟩, by rw [hk' D' hne]; exact h1.2.2⟩
  have hi' : Inv cx st { a with defers := Ds.map Vw } (w.putObj D (.deferred none)) env :=
   qNd hi hD World.putObj_size rfl rfl hk' (fun o => by simp [World.cell?, World.putObj_heap_same hlt, hD.2.2]) ⟨Ds, rfl, n2, hms⟩
  obtain ⟨w', hs, hi''⟩ := qqi Ds (a := { a with defers := Ds.map Vw }) rfl n2 hms hi'
  refine ⟨w', Steps.head ?_ hs, hi''⟩
  have := step_collected (P := P) (fr := { b.atR a todo with mode := .returning }) (cs := cs) (w := w) (d := Vw D) (ds := Ds.map Vw) (calls := []) (r := D) (by simp) (by simp [Frame.atR, he]) rfl (run_takeDeferred hD.2.2)
  rw [this]
  rfl
theorem qur {fn : Func} {m : Nat} {st : St} {res : AV} {bout : List (Nat × Blk)} (hG : cx.Gok P) (hh : ∀ n, ¬ cx.hid n) (hent : ∀ nm h, cx.ent nm = some h → nm < m) (h : EvR P (.of fn) m st res bout) {b : Frame} {cs : List Frame} {a : Act} {todo : List Item} (hi : Inv cx st a w env) {mm : Machine} (hs : Steps P mm (lone { b.atR a todo with mode := .returning } cs w)) : 
  ∃ a' w' todo, Steps P mm (lone { b.atR a' todo with mode := .returning } cs w') ∧ a'.defers = [] ∧ ∃ v env', (results fn a'.tmps).run P w' = .ok v w' ∧ Mem cx (zV 0 bout) w' env' ∧ Rep w' (qp cx env' w') env' v res := by
 obtain ⟨Ds, he, hn, hk⟩ := hi.defers
 obtain ⟨w', h1, h2⟩ := qqi (P := P) (b := b) (cs := cs) (todo := todo) Ds he hn hk hi
 obtain ⟨v, env', h3, h4, h5⟩ := h cx hG hh hent _ _ _ h2
 exact ⟨_, w', todo, hs.trans h1, rfl, v, env', h3, h4, h5⟩
theorem qho {st : St} {a : Act} (hi : Inv cx st a w env) {l : Nat} (he : cx.ent 0 = some (.func (.yield l) #[] #[])) {s : LoopState} {p : Option Code} {rc : Rc} {sl : List AV} (hb : qU st.blks 0 = some (0, .loop s p rc sl)) :
  env 0 = some (0, .func (.yield l) #[] #[]) ∧ ∃ r, w.heap[l]? = some (.loop r) ∧ r.state = s ∧ r.pending = p ∧ r.params = rc.ps.toArray ∧ r.assign = rc.assign ∧ r.body = rc.body ∧ r.tmps.size = sl.length ∧ ∀ i, i < sl.length → Rep w (qp cx env w) env (r.tmps.getD i Go.undef) (sl.getD i .undef) := by
 obtain ⟨h, e1, hr⟩ := hi.mem.blk _ _ _ hb
 have := hi.mem.vers _ _ _ e1 he
 subst this
 refine ⟨e1, ?_⟩
 cases hr with
 | loop _ r _ _ hb' hp ha hc hs h => exact ⟨r, hb', rfl, rfl, hp, ha, hc, hs, h⟩
theorem qcP {st : St} {a : Act} (hi : Inv cx st a w env) {bl' : qL} {w' : World} {env' : Env} (T : Trans cx w env bl' w' env') : Inv cx ⟨st.slots, bl'⟩ a w' env' := by
 refine ⟨hi.defers.mono (qT _) T.ok T.cell, hi.size, fun i h => ?_, T.mem⟩
 have := hi.slot i h
 revert this
 cases st.slots.getD i .undef <;> intro h
 case gd s b x => exact ⟨fun e => T.rep (h.1 e), h.2⟩
 all_goals exact T.rep h
theorem qk7 {st : St} {a : Act} (hh : ∀ n, ¬ cx.hid n) (hi : Inv cx st a w env) {nm v l : Nat} {r : Loop} {rc : Rc} {sl : List AV} (he : env nm = some (v, .func (.yield l) #[] #[])) (hr : w.heap[l]? = some (.loop r)) (hp : r.params = rc.ps.toArray) (ha : r.assign = rc.assign) (hc : r.body = rc.body) (hs : r.tmps.size = sl.length) (hsl : ∀ i, i < sl.length → Rep w (qp cx env w) env (r.tmps.getD i Go.undef) (sl.getD i .undef)) (s : LoopState) (p : Option Code) :
  ∃ env', Inv cx ⟨st.slots, zT st.blks nm v (.loop s p rc sl)⟩ a (w.putObj l (.loop { r with state := s, pending := p })) env' := by
 have hlt : l < w.heap.size := (Array.getElem?_eq_some_iff.1 hr).1
 have u : Upd0 w env nm v (.func (.yield l) #[] #[]) (w.putObj l (.loop { r with state := s, pending := p })) :=
  ⟨.inr ⟨v, _, he, .inr ⟨rfl, rfl⟩⟩, ⟨by rw [World.putObj_size]; exact qT _, rfl, rfl⟩, fun B hB hne => World.putObj_heap_other fun e => hne _ _ he (by simp [wB, e]), fun B q => .inr ⟨v, _, he, q⟩⟩
 have T := wL hi.mem (hh nm) ⟨u, .loop l { r with state := s, pending := p } rc sl (World.putObj_heap_same hlt) hp ha hc hs fun i h => qew u (hsl i h)⟩
 exact ⟨_, qcP hi T⟩
theorem qkz : ∀ (l : List AV) (i : Nat), (Qu l)[i]? = l[i]?.map ung
 | [], _ => by simp [Qu]
 | x :: l, 0 => by simp [Qu]
 | x :: l, i + 1 => by simp [Qu, qkz l i]
theorem YK : ∀ l : List AV, (Qu l).length = l.length
 | [] => rfl
 | x :: l => by simp [Qu, YK l]
theorem qki {st : St} {a : Act} (hi : Inv cx st a w env) : Inv cx ⟨Qu st.slots, st.blks⟩ a w env := by
 refine ⟨hi.defers, by simp only [YK]; exact hi.size, fun i h => ?_, hi.mem⟩
 simp only [YK] at h
 have h1 := hi.slot i h
 have e : st.slots[i]? = some (st.slots.getD i .undef) := by simp [h]
 have e2 : (Qu st.slots).getD i .undef = ((Qu st.slots)[i]?).getD .undef := List.getD_eq_getElem?_getD ..
 simp only [e2]
 rw [qkz, e]
 revert h1
 intro h1
 generalize st.slots.getD i .undef = x at h1 ⊢
 show W8 w _ env a.tmps _ (ung x)
 unfold ung
 split
 ·exact Rep.undef _
 ·cases qbX x
  ·exact h1
  ·exact Rep.undef _
theorem ZP : ∀ {l : List AV}, zm l = true → ∀ (i s : Nat) (b : Bool) (x : AV), l[i]? ≠ some (AV.gd s b x)
 | [], _, i, s, b, x => by simp
 | y :: l, h, 0, s, b, x => by
  simp only [zm, qj] at h
  intro e; simp at e; rw [e] at h; simp [zg] at h
 | y :: l, h, i + 1, s, b, x => by
  simp only [zm, qj] at h
  simpa using ZP h.2 i s b x
theorem qHa (n : Nat) : List.range n = List.range' 0 n := List.range_eq_range'
theorem qqS (hG : cx.Gok P) (hh : ∀ n, ¬ cx.hid n) (hm : P.follows .mixedOrders = true) {id : Nat} {ops : Array Oper} {draw : Bool} {st st' : St} {ora ora' : List Or} {φ : List Prop} {a : Act} (hi : Inv cx st a w env) (e : qou P R ops.toList draw st ora = some (φ, st', ora')) (hφ : zk φ)
  {Q : Exit → Act → World → Prop} (hQ : ∀ a' w' env', Inv cx st' a' w' env' → Q .normal a' w') : (Code.region id ops draw).wpIn (FR ro) 0 P Q a w := by
 unfold qou at e
 cases hg : zm st.slots <;> simp only [hg, qg, qi] at e
 ·simp at e
 cases draw <;> simp only at e
 ·split at e
  ·rename_i φ' s ora'' he
   simp at e; obtain ⟨rfl, rfl, rfl⟩ := e
   refine wpIn_region ?_
   rw [qHa]
   have := qlW (ro := ro) hG hh (Q := Q) ops.toList 0 [] st ora ora'' φ' s a w env (by simp) ⟨hi, fun i s b x e => absurd e (ZP hg i s b x)⟩ he hφ fun used' a' w' env' hi' => hQ a' w' env' (qki hi'.toInv)
   simpa using this
  ·simp at e
 ·split at e
  ·rename_i φ' dls ora'' he
   simp at e; obtain ⟨rfl, rfl, rfl⟩ := e
   obtain ⟨h1, h2, h3⟩ := qpX ops.toList 0 [] dls ora ora'' φ' (by simp) rfl he hφ
   have S : Plan P R ops (qtb ops.toList []) (qof P R ops.toList ops.toList 0 st ora) dls st := ⟨by simpa using h1, fun k o ho => h3 k o (z8 _) ho⟩
   exact qy4 hG hh hm S hi hg fun used a' w' env' hi' => hQ a' w' env' (qki hi'.toInv)
  ·simp at e
theorem qpY : ∀ (us : List Nat) (i : Nat) (l : List AV) (j : Nat), (XZ us i l)[j]? = l[j]?.map fun x => bif wu (i + j) us then ung x else .undef
 | us, i, [], j => by simp [XZ]
 | us, i, x :: l, 0 => by simp [XZ]
 | us, i, x :: l, j + 1 => by
  simp only [XZ, List.getElem?_cons_succ]
  rw [qpY us (i + 1) l j, show i + 1 + j = i + (j + 1) by omega]
theorem qbx : ∀ (us : List Nat) (i : Nat) (l : List AV), (XZ us i l).length = l.length
 | _, _, [] => rfl
 | us, i, x :: l => by simp [XZ, qbx us (i + 1) l]
theorem qAs {st : St} {a : Act} (hi : Inv cx st a w env) (us : List Nat) (i : Nat) (h : i < (XZ us 0 st.slots).length) : Rep w (qp cx env w) env (a.tmps.getD i Go.undef) ((XZ us 0 st.slots).getD i .undef) := by
 rw [qbx] at h
 have h1 := hi.slot i h
 have e : st.slots[i]? = some (st.slots.getD i .undef) := by simp [h]
 rw [List.getD_eq_getElem?_getD (l := XZ us 0 st.slots), qpY, e]
 revert h1
 generalize st.slots.getD i .undef = x
 intro h1
 simp only [Option.map_some, qRI]
 cases wu (0 + i) us
 ·exact .undef _
 ·show Rep w _ env _ (ung x)
  unfold ung
  split
  ·exact .undef _
  ·cases qbX x
   ·exact QS h1
   ·exact .undef _
theorem quv {st : St} {a : Act} (hh : ∀ n, ¬ cx.hid n) (hi : Inv cx st a w env) {b : Frame} {rd : Bool} (hrd : match rd with
   | false => b.roundOf = none
   | true => ∃ l, b.roundOf = some l ∧ cx.ent 0 = some (.func (.yield l) #[] #[])) (hin : qaq rd st.blks = true) {nm : Nat} (hnm : 100 ≤ nm) (ps : Array Nat) (tys : List TypeId) (asg body : Code) :
  ∃ (l : Nat) (mark : List Deferred) (w1 : World) (env1 : Env), (Instr.enterLoop b.fn a.tmps ps asg body b.roundOf).run P w = .ok (l, mark) w1 ∧
   Inv cx ⟨st.slots, XI st nm ps tys asg body⟩ { a with defers := mark ++ a.defers } w1 env1 ∧ env1 nm = some (q7 st.blks nm, .func (.yield l) #[] #[]) ∧ Trans cx w env (XI st nm ps tys asg body) w1 env1 := by
 have hm := hi.mem
 have hok : QP cx nm := ⟨hnm, hh nm⟩
 have hvv := QC (bl := st.blks) hm hok
 have fin : ∀ (w1 : World) (l : Nat) (r : Loop), Grew w w1 → w.heap.size ≤ l → l < w1.heap.size → (∀ B, B < w.heap.size → w1.heap[B]? = w.heap[B]?) → w1.heap[l]? = some (.loop r) → r.state = .ready → r.pending = none → r.params = ps → r.assign = asg → r.body = body → r.tmps = a.tmps →
   Trans cx w env (XI st nm ps tys asg body) w1 (env.put nm (q7 st.blks nm) (.func (.yield l) #[] #[])) := fun w1 l r hg h1 h2 hold hl q1 q2 q3 q4 q5 q6 => by
  have u : Upd0 w env nm (q7 st.blks nm) (.func (.yield l) #[] #[]) w1 := ⟨hvv.imp id fun ⟨cv, h0, e, lt⟩ => ⟨cv, h0, e, .inl lt⟩, hg, fun B hB _ => hold B hB, fun B q => by
   simp [wB] at q; subst q; exact .inl ⟨h1, h2⟩⟩
  refine wL hm (hh nm) ⟨u, ?_⟩
  rw [← q1, ← q2]
  refine .loop l r ⟨ps.toList, tys, asg, body⟩ _ hl (by simp [q3]) q4 q5 (by rw [q6, qbx]; exact hi.size) fun i h => ?_
  rw [q6]
  exact qew u (qAs hi _ i h)
 cases rd with
 | false =>
  have hb : b.roundOf = none := hrd
  rw [hb]
  refine ⟨_, _, _, env.put nm (q7 st.blks nm) (.func (.yield (w.heap.size + 1)) #[] #[]), run_enterLoop_outer _ _ _ _ _, ?_⟩
  generalize hr : (⟨.ready, none, b.fn, a.tmps, ps, asg, body, w.heap.size⟩ : Loop) = r
  have s1 : (w.alloc (.deferred (some []))).heap.size = w.heap.size + 1 := by simp
  have T := fin ((w.alloc (.deferred (some []))).alloc (.loop r)) (w.heap.size + 1) r ⟨by rw [World.size_alloc, World.size_alloc]; omega, rfl, rfl⟩ (by omega) (by simp) (fun B hB => by
   rw [heap_alloc_old _ _ (by rw [s1]; omega), heap_alloc_old _ _ hB]) (by have := heap_alloc_new (w.alloc (.deferred (some []))) (.loop r); rw [s1] at this; exact this) (by rw [← hr]) (by rw [← hr]) (by rw [← hr]) (by rw [← hr]) (by rw [← hr]) (by rw [← hr])
  have hi1 := qcP hi T
  refine ⟨?_, by unfold Env.put; rw [qd rfl], T⟩
  refine ⟨?_, hi1.size, hi1.slot, hi1.mem⟩
  obtain ⟨Ds, he, hn, hk⟩ := hi1.defers
  have he : a.defers = Ds.map Vw := he
  obtain ⟨Ds', he', hn', hk'⟩ := hi.defers
  refine ⟨w.heap.size :: Ds, by simp [he, Vw], List.nodup_cons.2 ⟨fun hD => ?_, hn⟩, fun D hD => ?_⟩
  ·have : Vw w.heap.size ∈ a.defers := by rw [he]; exact List.mem_map.2 ⟨_, hD, rfl⟩
   rw [he'] at this
   obtain ⟨D', h1, h2⟩ := List.mem_map.1 this
   have h3 := (hk' D' h1).2.1.2.1
   simp [Vw] at h2
   omega
  ·rcases qK.1 hD with rfl | hD
   ·have hgr := hm.grow
    refine ⟨hgr, ⟨.inr hgr, by simp; omega, fun n ver h e q => ?_⟩, ?_⟩
    ·unfold Env.put at e
     split at e
     ·simp at e; obtain ⟨rfl, rfl⟩ := e
      simp [wB] at q
     ·have := hm.lt e q
      omega
    ·rw [heap_alloc_old _ _ (by rw [s1]; omega)]
     exact heap_alloc_new w _
   ·exact hk D hD
 | true =>
  obtain ⟨l0, hb, he0⟩ := hrd
  rw [hb]
  unfold qaq at hin
  simp only at hin
  split at hin
  rotate_left
  ·simp at hin
  rename_i s p rc sl h0
  obtain ⟨_, r0, hr0, _⟩ := qho hi he0 h0
  refine ⟨_, _, _, env.put nm (q7 st.blks nm) (.func (.yield w.heap.size) #[] #[]), run_enterLoop_inner hr0 _ _ _ _ _, ?_⟩
  generalize hr : (⟨.ready, none, b.fn, a.tmps, ps, asg, body, r0.defers⟩ : Loop) = r
  have T := fin (w.alloc (.loop r)) w.heap.size r ⟨by rw [World.size_alloc]; omega, rfl, rfl⟩ (by omega) (by simp) (fun B hB => heap_alloc_old _ _ hB) (heap_alloc_new _ _) (by rw [← hr]) (by rw [← hr]) (by rw [← hr]) (by rw [← hr]) (by rw [← hr]) (by rw [← hr])
  exact ⟨qcP hi T, by unfold Env.put; rw [qd rfl], T⟩
theorem qg2 (hG : cx.Gok P) (hh : ∀ n, ¬ cx.hid n) {st st' : St} {a : Act} (hi : Inv cx st a w env) {b : Frame} {rd : Bool} (hrd : match rd with
   | false => b.roundOf = none
   | true => ∃ l, b.roundOf = some l ∧ cx.ent 0 = some (.func (.yield l) #[] #[])) (hin : qaq rd st.blks = true) {nm : Nat} (hnm : 100 ≤ nm) {f : Nat} {first captured : List AV} {vf vc : List Value} (r1 : ∀ {w' env' bl'}, Trans cx w env bl' w' env' → Rp w' (qp cx env' w') env' vf first) (r2 : ∀ {w' env' bl'}, Trans cx w env bl' w' env' → Rp w' (qp cx env' w') env' vc captured)
  {g : Operand} (hg : a.eval g = .func (.func f) vf.toArray vc.toArray) {ps : Array Nat} {asg body : Code} {ora ora' : List Or} {φ : List Prop} {p : Option Code} (e : qi6 P R st nm f first captured ps asg body ora = some (φ, st', p, ora')) (hφ : zk φ) {k : List Item} {cs : List Frame} :
  ∃ a' w' env', Steps P (lone (b.atR a (.code (.rangeFunc g ps asg body) :: k)) cs w) (lone (b.atR a' (qiI p ++ k)) cs w') ∧ Inv cx st' a' w' env' := by
 unfold qi6 at e
 split at e
 rotate_left
 ·cases e
 rename_i φ0 dl ora0 hcall
 split at e
 rotate_left
 ·cases e
 rename_i v s p0 rc sl hget
 cases hv : qC v (q7 st.blks nm) with
 | false => rw [hv] at e; cases e
 | true =>
 rw [hv] at e
 have hsb : s ≠ .busy := by
  intro h
  subst h
  cases e
 have e : some (φ0, (⟨st.slots, zT (wi (XI st nm ps (qkS P f first.length) asg body) dl.wr) nm v (.loop .exhausted p0 rc sl)⟩ : St), p0, ora0) = some (φ, st', p, ora') := by
  cases s <;> first | exact e | exact absurd rfl hsb
 simp only [Option.some.injEq, Prod.mk.injEq] at e
 obtain ⟨rfl, rfl, rfl, rfl⟩ := e
 have hv := ql hv
 subst hv
 obtain ⟨l, mark, w1, env1, g1, hi1, g3, T⟩ := quv (P := P) hh hi hrd hin hnm ps (qkS P f first.length) asg body
 have hargs : Rp w1 (qp cx env1 w1) env1 (vf ++ (.func (.yield l) #[] #[] :: vc)) (first ++ (.own nm (q7 st.blks nm) :: captured)) := (r1 T).append (.cons (.own ⟨_, _, g3, qT _, fun _ => rfl⟩) (r2 T))
 obtain ⟨_, hfun, hc⟩ := qhX hG hi1.mem hargs hcall hφ fun k hk => hh _
 obtain ⟨d, hres, hinv⟩ : ∃ d, (resolve a.eval (rangeCall g l) 0).run P w1 = .ok d w1 ∧ (invoke d.target d.args).run P w1 = .ok (.enter f (vf ++ (.func (.yield l) #[] #[] :: vc)).toArray) w1 := by
  have e1 : (vf ++ (Value.func (.yield l) #[] #[] :: vc)).toArray = vf.toArray ++ (#[Value.func (.yield l) #[] #[]] ++ vc.toArray) := by simp
  have hcf := qbI (w := w1) (args := vf.toArray ++ (#[Value.func (.yield l) #[] #[]] ++ vc.toArray)) hfun
  rw [e1]
  refine ⟨⟨.fn (.func f) vc.toArray, vf.toArray ++ #[Value.func (.yield l) #[] #[]]⟩, ?_, ?_⟩
  ·have hcst : ∀ v, a.eval (.const v) = v := fun _ => rfl
   clear hi1 hi g1
   generalize a.eval = ev at hg hcst
   simp [rangeCall, resolve, Deferred.ofValue, hg, hcst]
  ·rw [← Array.append_assoc] at hcf
   simp only [invoke]
   rw [← Array.append_assoc]
   exact hcf
 have henter := stepR_rangeFunc (P := P) (b := b) (a := a) (k := k) (cs := cs) (w := w) g1 hres hinv
 obtain ⟨en, w2, fr, ⟨u, env2, rfl, T2, _⟩, hsteps, hfn, hleave⟩ := hc (b.atR { a with defers := mark ++ a.defers } (.inRangeFunc l :: k) :: cs)
 have hsteps : Steps P _ _ := hsteps
 have hback := step_leave_returned (c := b.atR { a with defers := mark ++ a.defers } (.inRangeFunc l :: k)) (cs := cs) hleave
 rw [finish_atR_inRangeFunc] at hback
 have hi2 := qcP hi1 T2
 obtain ⟨h, hE, hrep⟩ := T2.mem.blk _ _ _ hget
 obtain ⟨cv', h', e1, e2, e3⟩ := T2.le _ _ _ g3
 rw [hE] at e1
 simp at e1
 obtain ⟨rfl, rfl⟩ := e1
 have e3 := e3 rfl
 subst e3
 cases hrep with
 | loop _ r _ _ hb hp ha hc' hs h =>
 have hend := run_endLoop (P := P) hb hsb
 obtain ⟨env3, hi3⟩ := qk7 hh hi2 hE hb hp ha hc' hs h .exhausted r.pending
 refine ⟨_, _, env3, ?_, hi3⟩
 refine Steps.head henter (Steps.trans hsteps (Steps.head hback (Steps.one ?_)))
 have := stepR_endRangeFunc (P := P) (b := b) (a := { a with defers := mark ++ a.defers }) (k := k) (cs := cs) hend
 rw [this]
 cases r.pending <;> rfl
theorem qin (hG : cx.Gok P) (hh : ∀ n, ¬ cx.hid n) {st st' : St} {a : Act} (hi : Inv cx st a w env) {b : Frame} {rd : Bool} (hrd : match rd with
   | false => b.roundOf = none
   | true => ∃ l, b.roundOf = some l ∧ cx.ent 0 = some (.func (.yield l) #[] #[])) {g : Operand} {ps : Array Nat} {asg body : Code} {ora ora' : List Or} {φ : List Prop} {p : Option Code} (e : qsr P R rd st g ps asg body ora = some (φ, st', p, ora')) (hφ : zk φ) {k : List Item} {cs : List Frame} :
  ∃ a' w' env', Steps P (lone (b.atR a (.code (.rangeFunc g ps asg body) :: k)) cs w) (lone (b.atR a' (qiI p ++ k)) cs w') ∧ Inv cx st' a' w' env' := by
 unfold qsr at e
 cases hq : (qaq rd st.blks && zm st.slots) with
 | false => rw [hq] at e; cases e
 | true =>
 rw [hq] at e
 simp only [qi] at e
 simp only [qj] at hq
 have hr := QS (qcQ hi g)
 split at e
 ·rename_i f first captured hf
  rw [hf] at hr
  generalize hu : a.eval g = u at hr
  cases hr with
  | fn _ vf vc _ _ hs1 hs2 h1 h2 =>
   have a1 : Rp w (qp cx env w) env vf.toList first := All2.of_get Go.undef .undef (by simpa using hs1) fun i hi => by simpa using h1 i hi
   have a2 : Rp w (qp cx env w) env vc.toList captured := All2.of_get Go.undef .undef (by simpa using hs2) fun i hi => by simpa using h2 i hi
   exact qg2 hG hh hi hrd hq.1 (by omega) (fun T => T.rp a1) (fun T => T.rp a2) (vf := vf.toList) (vc := vc.toList) (by simpa using hu) e hφ
 ·rename_i f first captured hf
  have hfv : a.eval g = .func (.func f) first captured := by
   rw [hf] at hr
   exact qP hr
  exact qg2 hG hh hi hrd hq.1 (by omega) (fun T => zQ _) (fun T => zQ _) (vf := first.toList) (vc := captured.toList) (by simpa using hfv) e hφ
 ·cases e
theorem qDZ {st st' : St} {a : Act} (hh : ∀ n, ¬ cx.hid n) (hi : Inv cx st a w env) {l : Nat} (he : cx.ent 0 = some (.func (.yield l) #[] #[])) {jump : Option Code} (e : qiM true jump st = some st') :
  ∃ w' env', (Instr.endRound l jump).run P w = .ok (.bool jump.isNone) w' ∧ Inv cx st' { tmps := #[.bool jump.isNone], defers := [] } w' env' := by
 unfold qiM at e
 simp only at e
 split at e
 ·rename_i s p rc sl h0
  simp at e; subst e
  obtain ⟨e0, r, hr, _, _, hp, ha, hc, hs, hsl⟩ := qho hi he h0
  have hj : (if jump.isNone = true then LoopState.ready else .done) = qyl jump := by cases jump <;> rfl
  have := run_endRound (P := P) jump hr
  rw [hj] at this
  obtain ⟨env', hi'⟩ := qk7 hh hi e0 hr hp ha hc hs hsl (qyl jump) jump
  refine ⟨_, env', this, Marks.nil _ _ _, rfl, fun i h => ?_, hi'.mem⟩
  have hi0 : i = 0 := by simpa using h
  subst hi0
  have : isNone jump = jump.isNone := by cases jump <;> rfl
  simp only [this]
  exact wt _
 ·cases e
theorem qdD {m : Nat} {st st' : St} {res : AV} {bout : List (Nat × Blk)} (hG : cx.Gok P) (hh : ∀ n, ¬ cx.hid n) (hent : ∀ nm h, cx.ent nm = some h → nm < m) {jump : Option Code} (e : qiM true jump st = some st') (h : EvR P .round m st' res bout) {a : Act} (hi : Inv cx st a w env)
  {b : Frame} {cs : List Frame} {mm : Machine} (hs : ∀ (l : Nat) (c : Frame) (cs' : List Frame) (v : Value) (w' : World), b.roundOf = some l → b.kind = .normal → cs = c :: cs' → (Instr.endRound l jump).run P w = .ok v w' → step P mm = .next (lone (c.finish v) cs' w')) : Leaves P .round cx res bout b cs mm := by
 intro l c cs' hb hk hc he
 obtain ⟨w', env', h1, h2⟩ := qDZ (P := P) hh hi he e
 obtain ⟨v, env2, h3, h4, h5⟩ := h cx hG hh hent _ _ _ h2
 have hv : v = .bool jump.isNone := by
  have h6 : (results qja #[.bool jump.isNone]).run P w' = .ok (.bool jump.isNone) w' := by
   simp [results, qja]
  have h3 : (results qja #[.bool jump.isNone]).run P w' = .ok v w' := h3
  rw [h6] at h3
  simp at h3
  exact h3.symm
 subst hv
 exact ⟨_, w', env2, .one (hs l c cs' _ w' hb hk hc h1), h4, h5⟩
theorem QN (hm : P.follows .mixedOrders = true) {fn : Wy} {m : Nat} {todo : List Item} {st : St} {ora ora' : List Or} {φ : List Prop} {r : XRes} (e : zR P R fn.rd todo st ora = some (φ, r, ora')) (hφ : zk φ) {res : AV} {bout : List (Nat × Blk)}
  (h : XOk P fn m r res bout) : Ev P fn m todo st res bout := by
 intro cx hG hh hent b cs a w env hi
 cases todo with
 | nil =>
  simp only [zR] at e
  split at e
  rotate_left
  ·cases e
  rename_i st' hst
  simp at e; obtain ⟨rfl, rfl, rfl⟩ := e
  cases fn with
  | of fn =>
   simp only [Wy.rd, qiM, Option.some.injEq] at hst
   subst hst
   exact fun hb => qur hG hh hent h (b := b) (cs := cs) (todo := []) hi (.one (stepR_end hb))
  | round => exact qdD hG hh hent hst h hi fun l c cs' v w' hb hk hc hr => (by subst hc; exact stepR_round_end hb hk hr)
 | cons it k =>
 cases it with
 | inBlock id =>
  simp [zR] at e; obtain ⟨rfl, rfl, rfl⟩ := e
  exact .of_steps (.one stepR_inBlock) (h cx hG hh hent b cs a w env hi)
 | inScope c =>
  simp [zR] at e; obtain ⟨rfl, rfl, rfl⟩ := e
  exact .of_steps (.one qnO) (h cx hG hh hent b cs a w env hi)
 | beginRound =>
  simp only [zR] at e
  cases fn with
  | of fn => cases e
  | round =>
  simp only [Wy.rd] at e
  split at e
  ·rename_i s p rc sl h0
   cases s <;> simp only at e
   ·simp at e; obtain ⟨rfl, rfl, rfl⟩ := e
    intro l c cs' hb hk hc he
    obtain ⟨e0, r, hr, hst, hpd, hp, ha, hcd, hs, hsl⟩ := qho hi he h0
    have hbr := run_beginRound (P := P) hr hst
    obtain ⟨env', hi'⟩ := qk7 hh hi e0 hr hp ha hcd hs hsl .busy p
    have hrr : ({ r with state := .busy, pending := p } : Loop) = { r with state := .busy } := by rw [← hpd]
    rw [hrr] at hi'
    exact Leaves.of_steps (fn := .round) (.one (stepR_beginRound hb hbr)) (h cx hG hh hent b cs a _ env' hi') l c cs' hb hk hc he
   all_goals cases e
  ·cases e
 | inLoop c =>
  simp [zR] at e; obtain ⟨rfl, rfl, rfl⟩ := e
  exact .of_steps (.one stepR_inLoop) (h cx hG hh hent b cs a w env hi)
 | code c =>
  cases c with
  | skip =>
   simp [zR] at e; obtain ⟨rfl, rfl, rfl⟩ := e
   exact .of_steps (.one stepR_skip) (h cx hG hh hent b cs a w env hi)
  | label l =>
   simp [zR] at e; obtain ⟨rfl, rfl, rfl⟩ := e
   exact .of_steps (.one stepR_label) (h cx hG hh hent b cs a w env hi)
  | seq x y =>
   simp [zR] at e; obtain ⟨rfl, rfl, rfl⟩ := e
   exact .of_steps (.one stepR_seq) (h cx hG hh hent b cs a w env hi)
  | block id c =>
   simp [zR] at e; obtain ⟨rfl, rfl, rfl⟩ := e
   exact .of_steps (.one stepR_block) (h cx hG hh hent b cs a w env hi)
  | scope c =>
   simp [zR] at e; obtain ⟨rfl, rfl, rfl⟩ := e
   exact .of_steps (.one qr9) (h cx hG hh hent b cs a w env hi)
  | loop c =>
   simp [zR] at e; obtain ⟨rfl, rfl, rfl⟩ := e
   exact .of_steps (.one stepR_loop) (h cx hG hh hent b cs a w env hi)
  | exit id =>
   simp only [zR] at e
   split at e
   ·rename_i k' hk
    simp at e; obtain ⟨rfl, rfl, rfl⟩ := e
    exact .of_steps (.one (stepR_exit hk)) (h cx hG hh hent b cs a w env hi)
   ·rename_i hx
    cases fn with
    | of fn => cases e
    | round =>
    simp only [Wy.rd] at e
    split at e
    ·rename_i st' hst
     simp at e; obtain ⟨rfl, rfl, rfl⟩ := e
     exact qdD hG hh hent hst h hi fun l c cs' v w' hb hk hc hr => (by subst hc; exact stepR_round_exit hb hk hx hr)
    ·cases e
  | ret =>
   simp only [zR] at e
   split at e
   rotate_left
   ·cases e
   rename_i st' hst
   simp at e; obtain ⟨rfl, rfl, rfl⟩ := e
   cases fn with
   | of fn =>
    simp only [Wy.rd, qiM, Option.some.injEq] at hst
    subst hst
    exact fun hb => qur hG hh hent h (b := b) (cs := cs) (todo := .code .ret :: k) hi (.one (stepR_ret hb))
   | round => exact qdD hG hh hent hst h hi fun l c cs' v w' hb hk hc hr => (by subst hc; exact stepR_round_ret hb hk hr)
  | rangeFunc g ps asg body =>
   simp only [zR] at e
   split at e
   ·rename_i φ1 st1 p1 ora1 hx
    simp at e; obtain ⟨rfl, rfl, rfl⟩ := e
    cases fn with
    | of fn =>
     intro hb
     obtain ⟨a', w', env', hs, hi'⟩ := qin (b := b) (k := k) (cs := cs) hG hh hi (rd := false) hb hx hφ
     exact Leaves.of_steps (fn := .of fn) hs (h cx hG hh hent b cs a' w' env' hi') hb
    | round =>
     intro l c cs' hb hk hc he
     obtain ⟨a', w', env', hs, hi'⟩ := qin (b := b) (k := k) (cs := cs) hG hh hi (rd := true) ⟨l, hb, he⟩ hx hφ
     exact Leaves.of_steps (fn := .round) hs (h cx hG hh hent b cs a' w' env' hi') l c cs' hb hk hc he
   ·cases e
  | cond x c1 c2 =>
   simp only [zR] at e
   split at e
   ·rename_i bv hbv
    split at e
    ·rename_i d ora0
     simp at e; obtain ⟨rfl, rfl, rfl⟩ := e
     have hbd : bv = d := hφ _ (by simp)
     subst hbd
     have hx : a.eval x = .bool bv := by
      have := QS (qcQ hi x)
      rw [hbv] at this
      exact qP this
     have := stepR_cond (P := P) (b := b) (k := k) (cs := cs) (w := w) (x := c1) (y := c2) hx
     refine .of_steps (.one this) ?_
     have h := h cx hG hh hent b cs a w env hi
     cases bv <;> exact h
    ·simp at e
   ·simp at e
  | region id ops draw =>
   simp only [zR] at e
   split at e
   ·rename_i φ' st' ora'' he
    simp at e; obtain ⟨rfl, rfl, rfl⟩ := e
    have hw := qqS (cx := cx) (ro := b.roundOf) hG hh hm (id := id) hi he hφ (Q := fun e a' w' => match e with
     | .normal => ∃ env', Inv cx st' a' w' env'
     | _ => False) fun a' w' env' hi' => ⟨env', hi'⟩
    obtain ⟨e, a', w', hq, har⟩ := hw b k cs rfl trivial (qKW _ _)
    cases e <;> simp only at hq
    obtain ⟨env', hi'⟩ := hq
    have har : StepsIn (Machine.fenced P (FR b.roundOf)) P _ _ := har
    exact .of_steps (qaX.1 har) (h cx hG hh hent b cs a' w' env' hi')
   ·simp at e
  | _ => simp [zR] at e
 | _ => simp [zR] at e
theorem qgb (hm : P.follows .mixedOrders = true) {fn : Wy} {m : Nat} {l : List Nat} {res : AV} {bout : List (Nat × Blk)} : ∀ {n : Nat} {todo : List Item} {st : St} {ora ora' : List Or} {φ : List Prop} {r : XRes}, qkI P R fn.rd l n todo st ora = some (φ, r, ora') → zk φ →
  XOk P fn m r res bout → Ev P fn m todo st res bout
 | 0, _, _, _, _, _, _, e, _, _ => by simp [qkI] at e
 | n + 1, todo, st, ora, ora', φ, r, e, hφ, h => by
  simp only [qkI] at e
  split at e
  ·rename_i φ1 todo1 st1 ora1 h1
   cases hr : qrp l todo1 <;> simp only [hr, qg, qi] at e
   ·split at e
    ·rename_i φ2 r2 ora2 h2
     simp at e; obtain ⟨rfl, rfl, rfl⟩ := e
     exact QN hm h1 (fun p hp => hφ p (by simp [hp])) (qgb hm h2 (fun p hp => hφ p (by simp [hp])) h)
    ·simp at e
   ·simp at e; obtain ⟨rfl, rfl, rfl⟩ := e
    exact QN hm h1 hφ h
  ·rename_i φ1 st1 ora1 h1
   simp at e; obtain ⟨rfl, rfl, rfl⟩ := e
   exact QN hm h1 hφ h
  ·simp at e
theorem Ev.seg (hm : P.follows .mixedOrders = true) {fn : Wy} {m n : Nat} {l : List Nat} {res : AV} {bout : List (Nat × Blk)} {todo todo' : List Item} {st st' : St} {ora ora' : List Or} {φ : List Prop} (e : qkI P R fn.rd l n todo st ora = some (φ, .at todo' st', ora')) (hφ : zk φ) (h : Ev P fn m todo' st' res bout) : Ev P fn m todo st res bout :=
 qgb hm e hφ h
theorem Ev.ret (hm : P.follows .mixedOrders = true) {fn : Wy} {m n : Nat} {l : List Nat} {res : AV} {bout : List (Nat × Blk)} {todo : List Item} {st st' : St} {ora ora' : List Or} {φ : List Prop} (e : qkI P R fn.rd l n todo st ora = some (φ, .ret st', ora')) (hφ : zk φ) (h : EvR P fn m st' res bout) : Ev P fn m todo st res bout :=
 qgb hm e hφ h
end
end Go.AM
namespace Go.AM
open Go
def Y1 (n : Nat) : List (Nat × Nat × Nat) → Option (Nat × Nat)
 | [] => none
 | (o, k, v) :: r => bif qC o n then some (k, v) else Y1 n r
def qcS (n : Nat) : List (Nat × Nat × Nat) → Option (Nat × Nat)
 | [] => none
 | (o, k, v) :: r => bif qC k n then some (o, v) else qcS n r
def qfp (bl : qL) (M : List (Nat × Nat × Nat)) : AV → AV
 | .own nm ver => match wS bl nm ver with
  | some _ => match Y1 nm M with
   | some (k, v) => .own k v
   | none => .undef
  | none => .undef
 | .ptr nm ver o => match wS bl nm ver with
  | some _ => match Y1 nm M with
   | some (k, v) => .ptr k v o
   | none => .undef
  | none => .undef
 | .elt nm ver s i o => match wS bl nm ver with
  | some _ => match Y1 nm M with
   | some (k, v) => .elt k v s i o
   | none => .undef
  | none => .undef
 | .sub nm ver s lo n => match wS bl nm ver with
  | some _ => match Y1 nm M with
   | some (k, v) => .sub k v s lo n
   | none => .undef
  | none => .undef
 | _ => .undef
def qsU (bl : qL) (M : List (Nat × Nat × Nat)) : List (Nat × Nat × Nat) → Option qL
 | [] => some []
 | (o, k, v) :: r => match qU bl o with
  | some (_, b) => match qsU bl M r with
   | some l => some ((k, v, trB (qfp bl M) b) :: l)
   | none => none
  | none => none
def qlF : List (Nat × Nat × Nat) → List Nat
 | [] => []
 | (o, _, _) :: r => o :: qlF r
def news : List (Nat × Nat × Nat) → List Nat
 | [] => []
 | (_, k, _) :: r => k :: news r
def qhE (bl : qL) (M : List (Nat × Nat × Nat)) : Nat → Bool
 | 0 => true
 | i + 1 => (match Y1 i M with
  | some (k, v) => qC k i && (match v with
   | 0 => (match qU bl i with
    | some (0, _) => true
    | _ => false)
   | _ + 1 => true)
  | none => false) && qhE bl M i
def qdJ (f : AV → AV) : List AV → List AV
 | [] => []
 | x :: r => f x :: qdJ f r
def Y9 (live : List Nat) : Nat → List AV → List AV
 | _, [] => []
 | i, x :: r => (bif wu i live then x else .undef) :: Y9 live (i + 1) r
def qh0 (m : Nat) (live : List Nat) (M : List (Nat × Nat × Nat)) (st : St) : Option St :=
 bif w6 (qlF M) && (w6 (news M) && qhE st.blks M m) then (match qsU st.blks M M with
  | some bl => some ⟨Y9 live 0 (qdJ (tr2 (qfp st.blks M)) st.slots), bl⟩
  | none => none) else none
section
variable {P : Program} [GT P] {cx : Cx} {w : World} {env : Env} {bl : qL}
theorem qrL (f : AV → AV) : ∀ (l : List AV) (i : Nat), (qdJ f l)[i]? = l[i]?.map f
 | [], _ => by simp [qdJ]
 | x :: l, 0 => by simp [qdJ]
 | x :: l, i + 1 => by simp [qdJ, qrL f l i]
theorem qdR (f : AV → AV) : ∀ l : List AV, (qdJ f l).length = l.length
 | [] => rfl
 | x :: l => by simp [qdJ, qdR f l]
theorem qpF (live : List Nat) : ∀ (l : List AV) (i j : Nat), (Y9 live i l)[j]? = if wu (i + j) live = true then l[j]? else l[j]?.map (fun _ => .undef)
 | [], _, _ => by simp [Y9]
 | x :: l, i, 0 => by
  simp only [Y9, Nat.add_zero]
  cases wu i live <;> simp
 | x :: l, i, j + 1 => by
  simp only [Y9, List.getElem?_cons_succ]
  rw [qpF live l (i + 1) j, show i + 1 + j = i + (j + 1) by omega]
theorem qci (live : List Nat) : ∀ (l : List AV) (i : Nat), (Y9 live i l).length = l.length
 | [], _ => rfl
 | x :: l, i => by simp [Y9, qci live l]
theorem qhT {n : Nat} : ∀ {M : List (Nat × Nat × Nat)} {k v : Nat}, Y1 n M = some (k, v) → (n, k, v) ∈ M
 | [], _, _, h => by simp [Y1] at h
 | (o, k', v') :: r, k, v, h => by
  simp only [Y1] at h
  cases e : qC o n <;> simp only [e, qi, qg] at h
  ·exact List.mem_cons_of_mem _ (qhT h)
  ·have := ql e
   subst this
   simp at h; obtain ⟨rfl, rfl⟩ := h
   simp
theorem qlL {n : Nat} : ∀ {M : List (Nat × Nat × Nat)}, n ∈ qlF M ↔ ∃ k v, (n, k, v) ∈ M
 | [] => by simp [qlF]
 | (o, k', v') :: r => by
  simp only [qlF, qK, qlL (M := r)]
  constructor
  ·rintro (rfl | ⟨k, v, h⟩)
   ·exact ⟨k', v', .inl rfl⟩
   ·exact ⟨k, v, .inr h⟩
  ·rintro ⟨k, v, h | h⟩
   ·simp at h; exact .inl h.1
   ·exact .inr ⟨k, v, h⟩
theorem qgD {n : Nat} : ∀ {M : List (Nat × Nat × Nat)}, n ∈ news M ↔ ∃ o v, (o, n, v) ∈ M
 | [] => by simp [news]
 | (o', k', v') :: r => by
  simp only [news, qK, qgD (M := r)]
  constructor
  ·rintro (rfl | ⟨o, v, h⟩)
   ·exact ⟨o', v', .inl rfl⟩
   ·exact ⟨o, v, .inr h⟩
  ·rintro ⟨o, v, h | h⟩
   ·simp at h; exact .inl h.2.1
   ·exact .inr ⟨o, v, h⟩
theorem qj9 {n : Nat} {l : List Nat} (h : w6 (n :: l) = true) : n ∉ l ∧ w6 l = true := by
 simp only [w6, qj] at h
 refine ⟨fun hm => ?_, h.2⟩
 rw [wA.2 hm] at h
 simp at h
theorem qll : ∀ {M : List (Nat × Nat × Nat)} {o k v k' v' : Nat}, w6 (qlF M) = true → (o, k, v) ∈ M → (o, k', v') ∈ M → k = k' ∧ v = v'
 | [], _, _, _, _, _, _, h, _ => by simp at h
 | (o0, k0, v0) :: r, o, k, v, k', v', hd, h, h' => by
  obtain ⟨h1, h2⟩ := qj9 hd
  rcases qK.1 h with e | e <;> rcases qK.1 h' with e' | e'
  ·simp at e e'; exact ⟨e.2.1.trans e'.2.1.symm, e.2.2.trans e'.2.2.symm⟩
  ·simp at e; exact absurd (qlL.2 ⟨k', v', e.1 ▸ e'⟩) h1
  ·simp at e'; exact absurd (qlL.2 ⟨k, v, e'.1 ▸ e⟩) h1
  ·exact qll h2 e e'
theorem qkX : ∀ {M : List (Nat × Nat × Nat)} {o k v o' v' : Nat}, w6 (news M) = true → (o, k, v) ∈ M → (o', k, v') ∈ M → o = o' ∧ v = v'
 | [], _, _, _, _, _, _, h, _ => by simp at h
 | (o0, k0, v0) :: r, o, k, v, o', v', hd, h, h' => by
  obtain ⟨h1, h2⟩ := qj9 hd
  rcases qK.1 h with e | e <;> rcases qK.1 h' with e' | e'
  ·simp at e e'; exact ⟨e.1.trans e'.1.symm, e.2.2.trans e'.2.2.symm⟩
  ·simp at e; exact absurd (qgD.2 ⟨o', v', e.2.1 ▸ e'⟩) h1
  ·simp at e'; exact absurd (qgD.2 ⟨o, v, e'.2.1 ▸ e⟩) h1
  ·exact qkX h2 e e'
theorem qhu {n : Nat} : ∀ {M : List (Nat × Nat × Nat)} {o v : Nat}, qcS n M = some (o, v) → (o, n, v) ∈ M
 | [], _, _, h => by simp [qcS] at h
 | (o', k', v') :: r, o, v, h => by
  simp only [qcS] at h
  cases e : qC k' n <;> simp only [e, qi, qg] at h
  ·exact List.mem_cons_of_mem _ (qhu h)
  ·have := ql e
   subst this
   simp at h; obtain ⟨rfl, rfl⟩ := h
   simp
theorem qGj {M : List (Nat × Nat × Nat)} (hd : w6 (news M) = true) {o k v : Nat} (h : (o, k, v) ∈ M) : qcS k M = some (o, v) := by
 cases e : qcS k M with
 | some x =>
  obtain ⟨o', v'⟩ := x
  have := qkX hd (qhu e) h
  simp [this.1, this.2]
 | none =>
  exfalso
  clear hd
  induction M with
  | nil => simp at h
  | cons y r ih =>
   obtain ⟨o', k', v'⟩ := y
   simp only [qcS] at e
   cases e' : qC k' k <;> simp only [e', qi, qg] at e
   ·rcases qK.1 h with hh | hh
    ·simp at hh
     rw [hh.2.1, qfX] at e'; simp at e'
    ·exact ih hh e
   ·simp at e
def ZF (env : Env) (M : List (Nat × Nat × Nat)) : Env := fun n => match qcS n M with
 | some (o, v) => match env o with
  | some (_, h) => some (v, h)
  | none => none
 | none => none
theorem WX {M : List (Nat × Nat × Nat)} {n v : Nat} {h : Value} (e : ZF env M n = some (v, h)) : ∃ o c, (o, n, v) ∈ M ∧ env o = some (c, h) := by
 unfold ZF at e
 split at e
 ·rename_i o v' hb
  split at e
  ·rename_i c h' he
   simp at e; obtain ⟨rfl, rfl⟩ := e
   exact ⟨o, c, qhu hb, he⟩
  ·simp at e
 ·simp at e
theorem qic {M : List (Nat × Nat × Nat)} (hd : w6 (news M) = true) {o n v c : Nat} {h : Value} (hm : (o, n, v) ∈ M) (he : env o = some (c, h)) : ZF env M n = some (v, h) := by
 unfold ZF
 rw [qGj hd hm]
 simp [he]
theorem qIB {M : List (Nat × Nat × Nat)} {B : Nat} (h : qp cx env w B) : qp cx (ZF env M) w B := by
 refine ⟨h.1, h.2.1, fun nm v x e q => ?_⟩
 obtain ⟨o, c, _, he⟩ := WX e
 exact h.2.2 _ _ _ he q
theorem qjM (hm : Mem cx bl w env) {M : List (Nat × Nat × Nat)} (hd : w6 (news M) = true) {nm ver k v : Nat} {b : Blk} {Q : Value → Prop} (hc : wS bl nm ver = some b) (hf : Y1 nm M = some (k, v)) (h : Ref env nm ver Q) : Ref (ZF env M) k v Q := by
 obtain ⟨x, hx, _⟩ := hm.blk _ _ _ (q8 hc)
 exact ⟨v, x, qic hd (qhT hf) hx, qT _, fun _ => wz h hx⟩
theorem qto (hm : Mem cx bl w env) {M : List (Nat × Nat × Nat)} (hd : w6 (news M) = true) : qhf w (qp cx env w) env w (qp cx (ZF env M) w) (ZF env M) (qfp bl M) := by
 refine ⟨fun u n v h => ?_, fun u n v o h => ?_, fun u n v s i o h => ?_, fun u n v s lo k h => ?_⟩ <;> simp only [qfp] <;> split <;> first
  | exact .undef _
  | (rename_i b hc
     split
     ·rename_i k' v' hf
      cases h with
      | own h => exact .own (qjM hm hd hc hf h)
     ·exact .undef _)
  | (rename_i b hc
     split
     ·rename_i k' v' hf
      cases h with
      | ptr h => exact .ptr (qjM hm hd hc hf h)
     ·exact .undef _)
  | (rename_i b hc
     split
     ·rename_i k' v' hf
      cases h with
      | elt h => exact .elt (qjM hm hd hc hf h)
     ·exact .undef _)
  | (rename_i b hc
     split
     ·rename_i k' v' hf
      cases h with
      | sub h => exact .sub (qjM hm hd hc hf h)
     ·exact .undef _)
theorem qDD {M : List (Nat × Nat × Nat)} : qfq w (qp cx env w) w (qp cx (ZF env M) w) := fun _ _ h => h.mono (fun _ h => qIB h) fun _ _ _ => rfl
theorem qkv {M : List (Nat × Nat × Nat)} : ∀ {m : Nat}, qhE bl M m = true → ∀ i, i < m → ∃ v, (i, i, v) ∈ M ∧ (v = 0 → ∃ b, qU bl i = some (0, b))
 | 0, _, i, h => by omega
 | m + 1, e, i, h => by
  simp only [qhE, qj] at e
  by_cases hi : i = m
  ·subst hi
   have e := e.1
   split at e
   ·rename_i k v hf
    simp only [qj] at e
    have := ql e.1
    subst this
    refine ⟨v, qhT hf, fun h0 => ?_⟩
    subst h0
    have e := e.2
    simp only at e
    split at e
    ·rename_i b hb; exact ⟨b, hb⟩
    ·simp at e
   ·simp at e
  ·exact qkv e.2 i (by omega)
theorem qtt {M : List (Nat × Nat × Nat)} : ∀ {M' : List (Nat × Nat × Nat)} {l : qL}, qsU bl M M' = some l → (∀ n v b, qU l n = some (v, b) → ∃ o c b0, (o, n, v) ∈ M' ∧ qU bl o = some (c, b0) ∧ b = trB (qfp bl M) b0) ∧ (∀ n, qU l n = none → n ∉ news M') ∧ ∀ o k v, (o, k, v) ∈ M' → ∃ c b0, qU bl o = some (c, b0)
 | [], l, e => by
  simp [qsU] at e; subst e
  exact ⟨fun n v b h => by simp [qU] at h, fun n _ => by simp [news], fun o k v h => by simp at h⟩
 | (o, k, v) :: r, l, e => by
  simp only [qsU] at e
  split at e
  ·rename_i c b0 hb
   split at e
   ·rename_i l' hl
    simp at e; subst e
    obtain ⟨h1, h2, h3⟩ := qtt hl
    refine ⟨fun n v' b h => ?_, fun n h => ?_, fun o' k' v' h => ?_⟩
    ·simp only [qU] at h
     cases e : qC k n <;> simp only [e, qi, qg] at h
     ·obtain ⟨o', c', b', a1, a2⟩ := h1 n v' b h
      exact ⟨o', c', b', List.mem_cons_of_mem _ a1, a2⟩
     ·have := ql e
      subst this
      simp at h; obtain ⟨rfl, rfl⟩ := h
      exact ⟨o, c, b0, by simp, hb, rfl⟩
    ·simp only [qU] at h
     cases e : qC k n <;> simp only [e, qi, qg] at h
     ·simp only [news, qK, not_or]
      exact ⟨fun q => by rw [q, qfX] at e; simp at e, h2 n h⟩
     ·simp at h
    ·rcases qK.1 h with q | q
     ·simp at q; rw [q.1]; exact ⟨c, b0, hb⟩
     ·exact h3 o' k' v' q
   ·simp at e
  ·simp at e
theorem qgA (hh : ∀ n, ¬ cx.hid n) {m : Nat} (hent : ∀ nm h, cx.ent nm = some h → nm < m) {live : List Nat} {M : List (Nat × Nat × Nat)} {st st' : St} (e : qh0 m live M st = some st') {a : Act} (hi : Inv cx st a w env) : Inv cx st' a w (ZF env M) := by
 unfold qh0 at e
 cases hq : (w6 (qlF M) && (w6 (news M) && qhE st.blks M m)) <;> simp only [hq, qg, qi] at e
 ·simp at e
 simp only [qj] at hq
 obtain ⟨q1, q2, q3⟩ := hq
 split at e
 ·rename_i bl' hbl
  simp at e; subst e
  have hm := hi.mem
  obtain ⟨r1, r2, r3⟩ := qtt hbl
  have hents := qkv q3
  refine ⟨hi.defers.mono (qT _) (fun B hB => qIB hB) fun _ _ => rfl, by simp only [qci, qdR]; exact hi.size, fun i h => ?_, ⟨fun nm v b e => ?_, fun nm e _ => ?_, fun nm h => absurd h (hh nm), fun nm nm' v v' h h' B e e' q q' => ?_, fun nm v h B e q => ?_, hm.gr, hm.frame, fun nm h h0 e e0 => ?_, fun nm h0 e0 => ?_⟩⟩
  ·simp only [qci, qdR] at h
   have e1 : st.slots[i]? = some (st.slots.getD i .undef) := by simp [h]
   have e2 : (Y9 live 0 (qdJ (tr2 (qfp st.blks M)) st.slots)).getD i .undef = ((Y9 live 0 (qdJ (tr2 (qfp st.blks M)) st.slots))[i]?).getD .undef := List.getD_eq_getElem?_getD ..
   simp only [e2]
   rw [qpF, Yd, qrL, e1]
   by_cases hl : wu i live = true
   ·simp only [hl, if_true, Option.map_some, qRI]
    have h1 := hi.slot i h
    have h2 := qw6 (qto hm q2) (.inl qDD) (QS h1)
    revert h2
    cases hx : tr2 (qfp st.blks M) (st.slots.getD i .undef) with
    | gd s b x =>
     intro _
     exfalso
     revert hx
     cases st.slots.getD i .undef <;> simp [tr2, tr1, trF, tr0, qfp] <;> (repeat' split) <;> simp
    | _ => intro h2; exact h2
   ·simp only [hl]
    exact Rep.undef _
  ·obtain ⟨o, c, b0, h1, h2, rfl⟩ := r1 nm v b e
   obtain ⟨x, hx, hr⟩ := hm.blk _ _ _ h2
   exact ⟨x, qic q2 h1 hx, qnV (qto hm q2) (.inl qDD) (fun _ _ => rfl) hr⟩
  ·have := r2 nm e
   cases he : ZF env M nm with
   | none => rfl
   | some x =>
    obtain ⟨v, h⟩ := x
    obtain ⟨o, c, h1, _⟩ := WX he
    exact absurd (qgD.2 ⟨o, v, h1⟩) this
  ·obtain ⟨o, c, h1, h2⟩ := WX e
   obtain ⟨o', c', h1', h2'⟩ := WX e'
   have := hm.inj _ _ _ _ _ _ _ h2 h2' q q'
   subst this
   exact (qll q1 h1 h1').1
  ·obtain ⟨o, c, h1, h2⟩ := WX e
   obtain ⟨g1, g2⟩ := hm.own _ _ _ _ h2 q
   refine ⟨g1.imp id fun ⟨h0, e0, q0⟩ => ?_, g2⟩
   obtain ⟨v', hv', _⟩ := hents o (hent o h0 e0)
   have := (qll q1 h1 hv').1
   rw [this]
   exact ⟨h0, e0, q0⟩
  ·obtain ⟨o, c, h1, h2⟩ := WX e
   obtain ⟨v', hv', hz⟩ := hents nm (hent nm h0 e0)
   obtain ⟨rfl, rfl⟩ := qkX q2 h1 hv'
   obtain ⟨b, hb⟩ := hz rfl
   obtain ⟨x, hx, _⟩ := hm.blk _ _ _ hb
   rw [h2] at hx; simp at hx
   exact hm.vers _ _ _ (by rw [h2, hx.1]) e0
  ·obtain ⟨g1, v, x, g2⟩ := hm.ents _ _ e0
   obtain ⟨v', hv', _⟩ := hents nm (hent nm h0 e0)
   exact ⟨g1, v', x, qic q2 hv' g2⟩
 ·simp at e
theorem Ev.ren {fn : Wy} {m : Nat} {todo : List Item} {st st' : St} {res : AV} {bout : List (Nat × Blk)} (live : List Nat) (M : List (Nat × Nat × Nat)) (e : qh0 m live M st = some st') (h : Ev P fn m todo st' res bout) : Ev P fn m todo st res bout :=
 fun cx hG hh hent b cs a w _ hi => h cx hG hh hent b cs a w _ (qgA hh hent e hi)
theorem EvR.ren {fn : Wy} {m : Nat} {st st' : St} {res : AV} {bout : List (Nat × Blk)} (live : List Nat) (M : List (Nat × Nat × Nat)) (e : qh0 m live M st = some st') (h : EvR P fn m st' res bout) : EvR P fn m st res bout :=
 fun cx hG hh hent a w _ hi => h cx hG hh hent a w _ (qgA hh hent e hi)
def qnU (s nm : Nat) (t : TypeId) (τ : RTy) (st : St) : Option St := match st.slots.getD s .undef with
 | .r (.v (.slice none 0 0)) => bif qut 100 nm then some ⟨qle st.slots s (.own nm (q7 st.blks nm)), zT st.blks nm (q7 st.blks nm) (.row t τ [])⟩ else none
 | _ => none
theorem ql3 (hh : ∀ n, ¬ cx.hid n) {s nm : Nat} {t : TypeId} {τ : RTy} {st st' : St} (e : qnU s nm t τ st = some st') (hg : zm st.slots = true) {a : Act} (hi : Inv cx st a w env) : ∃ env', Inv cx st' a w env' := by
 unfold qnU at e
 split at e
 ·rename_i hs
  cases hq : qut 100 nm <;> simp only [hq, qg, qi] at e
  ·simp at e
  simp at e; subst e
  have hnm : QP cx nm := ⟨wo hq, hh nm⟩
  have hvv := QC (bl := st.blks) hi.mem hnm
  have u : Upd0 w env nm (q7 st.blks nm) (.slice none 0 0) w := ⟨hvv.imp id fun ⟨cv, h0, e, l⟩ => ⟨cv, h0, e, .inl l⟩, Grew.refl _, fun _ _ _ => rfl, fun B q => by simp [wB] at q⟩
  have T := wL hi.mem (hh nm) ⟨u, RepB.rowNil t τ none⟩
  have hsl : s < st.slots.length := by
   rcases Nat.lt_or_ge s st.slots.length with h | h
   ·exact h
   ·simp [h] at hs
  have hv : a.tmps.getD s Go.undef = .slice none 0 0 := by
   have := hi.slot s hsl
   rw [hs] at this
   exact qP this
  have := qd3 (used := []) (used' := []) (dl := ⟨some s, .own nm (q7 st.blks nm), [(nm, q7 st.blks nm, .row t τ [])]⟩) (v := .slice none 0 0) ⟨hi, fun i s b x e => absurd e (ZP hg i s b x)⟩ T (fun _ h => h) (fun k hk => by simp) (fun k hk => Rep.own (zZ _ _ _ _ rfl)) fun k hk s b x hx => by simp at hx
  have ha : a.put (some s) (.slice none 0 0) = a := by
   have hlt : s < a.tmps.size := by rw [hi.size]; exact hsl
   simp only [Act.put]
   have : a.tmps.setIfInBounds s (.slice none 0 0) = a.tmps := by
    apply Array.ext
    ·simp
    ·intro i h1 h2
     by_cases hi' : s = i
     ·subst hi'
      simp [hlt] at hv
      simp [hv]
     ·rw [Array.getElem_setIfInBounds]
      rw [qm hi']
   rw [this]
  rw [ha] at this
  exact ⟨_, this.toInv⟩
 ·simp at e
theorem Ev.nil {fn : Wy} {m : Nat} {todo : List Item} {st st' : St} {res : AV} {bout : List (Nat × Blk)} (s nm : Nat) (t : TypeId) (τ : RTy) (e : qnU s nm t τ st = some st') (hg : zm st.slots = true) (h : Ev P fn m todo st' res bout) : Ev P fn m todo st res bout :=
 fun cx hG hh hent b cs a w _ hi => let ⟨env', hi'⟩ := ql3 hh e hg hi; h cx hG hh hent b cs a w env' hi'
theorem EvR.nil {fn : Wy} {m : Nat} {st st' : St} {res : AV} {bout : List (Nat × Blk)} (s nm : Nat) (t : TypeId) (τ : RTy) (e : qnU s nm t τ st = some st') (hg : zm st.slots = true) (h : EvR P fn m st' res bout) : EvR P fn m st res bout :=
 fun cx hG hh hent a w _ hi => let ⟨env', hi'⟩ := ql3 hh e hg hi; h cx hG hh hent a w env' hi'
end
end Go.AM
namespace Go.AM
open Go
def qcz (P : Program) (bl : qL) (slots : List AV) : List ResultVar → Option (List AV)
 | [] => some []
 | .tmp t :: r => match qcz P bl slots r with
  | some l => some (slots.getD t .undef :: l)
  | none => none
 | .cell p t :: r => match ZA bl (slots.getD p .undef) (P.cellsOf t) with
  | some cs => match XD P t cs with
   | some v => match qcz P bl slots r with
    | some l => some (v :: l)
    | none => none
   | none => none
  | none => none
def qmP : Nat → qL → Option (List (Nat × Blk))
 | _, [] => some []
 | j, (n, v, b) :: r => bif qC n j then (match qmP (j + 1) r with
  | some l => some ((v, b) :: l)
  | none => none) else none
section
variable {P : Program} {cx : Cx} {w : World} {env : Env} {bl : qL}
theorem qmH : ∀ {bl : qL} {j : Nat} {l : List (Nat × Blk)}, qmP j bl = some l → zV j l = bl
 | [], j, l, e => by simp [qmP] at e; subst e; rfl
 | (n, v, b) :: r, j, l, e => by
  simp only [qmP] at e
  cases h : qC n j <;> simp only [h, qi, qg] at e
  ·simp at e
  have := ql h
  subst this
  split at e
  ·rename_i l' hl
   simp at e; subst e
   simp [zV, qmH hl]
  ·simp at e
theorem qhv {st : St} {a : Act} (hi : Inv cx st a w env) : ∀ {rs : List ResultVar} {vs : List AV}, qcz P st.blks st.slots rs = some vs → ∃ us, (∀ f : ResultVar → Sem Value, (∀ u, f (.tmp u) = pure (a.tmps.getD u Go.undef)) → (∀ p t, f (.cell p t) = (do loadVar t (← asAddr (a.tmps.getD p Go.undef)))) → (rs.mapM f).run P w = .ok us w) ∧ us.length = rs.length ∧ All2 (Rep w (qp cx env w) env) us vs
 | [], vs, e => by
  simp [qcz] at e; subst e
  exact ⟨[], fun f _ _ => by simp, rfl, .nil⟩
 | .tmp t :: r, vs, e => by
  simp only [qcz] at e
  split at e
  ·rename_i l hl
   simp at e; subst e
   obtain ⟨us, h1, h2, h3⟩ := qhv hi hl
   exact ⟨a.tmps.getD t Go.undef :: us, fun f hf hc => by simp [List.mapM_cons, hf, h1 f hf hc], by simp [h2], .cons (QS (WH hi t)) h3⟩
  ·simp at e
 | .cell p t :: r, vs, e => by
  simp only [qcz] at e
  split at e
  ·rename_i cs hcs
   split at e
   ·rename_i v hv
    split at e
    ·rename_i l hl
     simp at e; subst e
     obtain ⟨us, h1, h2, h3⟩ := qhv hi hl
     obtain ⟨B, o, ws, hp, g1, g2, g3⟩ := qns hi.mem (QS (WH hi p)) hcs
     obtain ⟨u, hu, hur⟩ := qh1 (P := P) g1 g2 g3 hv
     have hp' : a.tmps.getD p Go.undef = .pointer (some ⟨B, o, none⟩) := hp
     exact ⟨u :: us, fun f hf hc => by rw [List.mapM_cons, hc, hp']; simp [asAddr, hu, h1 f hf hc], by simp [h2], .cons hur h3⟩
    ·simp at e
   ·simp at e
  ·simp at e
def qcH : List AV → AV
 | [x] => x
 | l => .tup l
theorem EvR.fin_val {fn : Func} {st : St} {a : Act} {vs : List AV} (hi : Inv cx st a w env) (hvs : qcz P st.blks st.slots fn.results.toList = some vs) : ∃ v, (results fn a.tmps).run P w = .ok v w ∧ Rep w (qp cx env w) env v (qcH vs) := by
 obtain ⟨us, h1, h2, h3⟩ := qhv (P := P) hi hvs
 have hr : (results fn a.tmps).run P w = .ok (if h : us.toArray.size = 1 then us.toArray[0] else .tuple us.toArray) w := by
  unfold results
  have e0 : fn.results = fn.results.toList.toArray := by simp
  rw [e0, List.mapM_toArray]
  simp only [Sem.run_bind, Sem.run_map]
  rw [h1 _ (fun _ => rfl) fun _ _ => rfl]
  simp
 refine ⟨_, hr, ?_⟩
 cases h3 with
 | nil => simp [qcH]; exact .tup #[] [] rfl (by simp)
 | cons h t =>
  cases t with
  | nil => simpa [qcH] using h
  | cons h' t' =>
   rename_i x1 y1 x2 y2 l1 l2
   have hs : ¬ (x1 :: x2 :: l1).toArray.size = 1 := by simp
   rw [dif_neg hs]
   exact qn1 (All2.cons h (All2.cons h' t'))
def qbr (fn : Func) (args : List AV) (bin : List Blk) : St := ⟨args ++ List.replicate (fn.ntmps - args.length) .undef, zV 0 (Vb bin)⟩
variable [GT P]
theorem CC.of_ev {f : FuncId} {fn : Func} {c : Code} {args : List AV} {bin : List Blk} {res : AV} {bout : List (Nat × Blk)} (hf : P.funcs[f]? = some fn) (hb : fn.body = some c) (hn : (fn.name == "runtime.NumGoroutine") = false) (hg : zm args = true)
  (h : Ev P fn bin.length [.code c] (qbr fn args bin) res bout) : CC P f args bin res bout := by
 refine ⟨⟨fn, c, hf, hb, hn⟩, fun cx env vs hwf hG hh hent hm hs hargs cs => ?_⟩
 let b : Frame := { (default : Frame) with fn := f, kind := .normal, roundOf := none }
 let a : Act := { tmps := vs ++ Array.replicate (fn.ntmps - vs.size) Go.undef, defers := [] }
 have henter : Frame.enter P f vs .normal = b.atR a [.code c] := by
  simp [Frame.enter, Frame.atR, hf, hb, b, a, Go.undef]
 have hi : Inv cx (qbr fn args bin) a cx.w0 env := by
  refine ⟨Marks.nil _ _ _, by simp [qbr, a, hs], fun i h => ?_, hm⟩
  simp only [qbr] at h ⊢
  by_cases hlt : i < args.length
  ·have e1 : (args ++ List.replicate (fn.ntmps - args.length) AV.undef).getD i .undef = args.getD i .undef := by
    simp [List.getElem?_append_left hlt]
   have e2 : a.tmps.getD i Go.undef = vs.getD i Go.undef := by
    have : i < vs.size := by omega
    simp [a, Array.getElem?_append_left this]
   rw [e1, e2]
   have h1 := hargs i hlt
   have hx : args[i]? = some (args.getD i .undef) := by simp [hlt]
   revert h1 hx
   cases args.getD i .undef with
   | gd s b x => intro _ hx; exact absurd hx (ZP hg i s b x)
   | _ => intro h1 _; exact h1
  ·have e1 : (args ++ List.replicate (fn.ntmps - args.length) AV.undef).getD i .undef = .undef := by
    rw [List.getD_eq_getElem?_getD, List.getElem?_append_right (Nat.le_of_not_lt hlt), List.getElem?_replicate]
    split <;> rfl
   rw [e1]
   exact Rep.undef _
 obtain ⟨a', w', todo, h1, h2, v, env', h3, h4, h5⟩ := h cx hG hh (fun nm h0 e => by
  have e' := (hent nm h0).1 e
  rcases Nat.lt_or_ge nm bin.length with h | h
  ·exact h
  ·have : qU (zV 0 (Vb bin)) nm = none := by
    rw [QD, qd (z8 _), Nat.sub_zero, qaw]
    simp [List.getElem?_eq_none h]
   rw [hm.dom nm this (hh nm)] at e'
   simp at e') b cs a cx.w0 env hi rfl
 rw [← henter] at h1
 exact ⟨.returned v, w', _, ⟨v, env', rfl, h4, h5⟩, h1, rfl, rfl, h2, rfl, fn, hf, h3⟩
def qi9 : List Nat → List AV → List AV → List AV
 | p :: ps, x :: xs, l => qi9 ps xs (qle l p x)
 | _, _, l => l
def YM (args : List AV) (bin : List Blk) : St := match bin with
 | .loop _ _ rc sl :: _ => ⟨qi9 rc.ps args sl, zV 0 (Vb bin)⟩
 | _ => ⟨[], []⟩
def qpl (bin : List Blk) : List Item := match bin with
 | .loop _ _ rc _ :: _ => [.code rc.assign, .beginRound, .code rc.body]
 | _ => []
theorem qp9 {ok : Nat → Prop} : ∀ (ps : List Nat) (args : List AV) (vs : List Value) (l : List AV) (t : Array Value), vs.length = args.length → t.size = l.length → (∀ i, i < args.length → Rep w ok env (vs.getD i Go.undef) (args.getD i .undef)) → (∀ i, i < l.length → Rep w ok env (t.getD i Go.undef) (l.getD i .undef)) →
  ((ps.zip vs).foldl (fun (tmps : Array Value) (p : Nat × Value) => tmps.setIfInBounds p.1 p.2) t).size = (qi9 ps args l).length ∧ ∀ i, i < (qi9 ps args l).length → Rep w ok env (((ps.zip vs).foldl (fun (tmps : Array Value) (p : Nat × Value) => tmps.setIfInBounds p.1 p.2) t).getD i Go.undef) ((qi9 ps args l).getD i .undef)
 | [], args, vs, l, t, h1, h2, h3, h4 => ⟨h2, h4⟩
 | p :: ps, [], vs, l, t, h1, h2, h3, h4 => by
  have : vs = [] := by cases vs <;> simp_all
  subst this
  exact ⟨h2, h4⟩
 | p :: ps, x :: args, [], l, t, h1, h2, h3, h4 => by simp at h1
 | p :: ps, x :: args, v :: vs, l, t, h1, h2, h3, h4 => by
  simp only [List.zip_cons_cons, List.foldl_cons, qi9]
  refine qp9 ps args vs _ _ (by simpa using h1) (by simp [Q1, h2]) (fun i hi => by simpa using h3 (i + 1) (by simpa using hi)) fun i hi => ?_
  rw [Q1, List.length_set] at hi
  by_cases e : p = i
  ·subst e
   have := h3 0 (by simp)
   simpa [Q1, h2, hi] using this
  ·have := h4 i hi
   simpa [Q1, e, Array.getElem?_setIfInBounds_ne e] using this
theorem YC.of {args : List AV} {bin : List Blk} {res : AV} {bout : List (Nat × Blk)} (hr : qpl bin ≠ []) (hg : zm (YM args bin).slots = true)
  (h : Ev P .round bin.length (qpl bin) (YM args bin) res bout) : YC P args bin res bout := by
 intro cx env vs l r hwf hG hh hent hm h0 hl hs hargs c cs
 cases bin with
 | nil => exact absurd rfl hr
 | cons b0 bin' =>
 cases b0 with
 | loop s p rc sl =>
  obtain ⟨x, hx, hrep⟩ := hm.blk 0 0 (.loop s p rc sl) (by simp [zV, Vb, qU])
  rw [h0] at hx
  simp at hx
  subst hx
  cases hrep with
  | loop _ r' _ _ hb hp ha hc hsz hsl =>
  rw [hl] at hb
  simp at hb
  subst hb
  let b : Frame := { (default : Frame) with fn := r.fn, kind := .normal, roundOf := some l }
  let a : Act := { tmps := (r.params.zip vs).foldl (fun tmps (t, a) => tmps.setIfInBounds t a) r.tmps, defers := [] }
  have hround : Frame.round l r.fn ((r.params.zip vs).foldl (fun tmps (t, a) => tmps.setIfInBounds t a) r.tmps) r.assign r.body .normal = b.atR a [.code rc.assign, .beginRound, .code rc.body] := by
   simp [Frame.round, Frame.atR, b, a, ha, hc]
  have htm : a.tmps = (rc.ps.zip vs.toList).foldl (fun (tmps : Array Value) (p : Nat × Value) => tmps.setIfInBounds p.1 p.2) r.tmps := by
   show (r.params.zip vs).foldl (fun (tmps : Array Value) (p : Nat × Value) => tmps.setIfInBounds p.1 p.2) r.tmps = _
   rw [hp]
   have : (rc.ps.toArray.zip vs) = (rc.ps.zip vs.toList).toArray := by
    apply Array.ext'
    simp
   rw [this]
   simp
  obtain ⟨k1, k2⟩ := qp9 (w := cx.w0) (env := env) (ok := qp cx env cx.w0) rc.ps args vs.toList sl r.tmps (by simpa using hs) hsz (fun i hi => by simpa using hargs i hi) hsl
  have hi : Inv cx (YM args (.loop r.state r.pending rc sl :: bin')) a cx.w0 env := by
   refine ⟨Marks.nil _ _ _, by rw [htm]; exact k1, fun i h => ?_, hm⟩
   have h2 := k2 i h
   rw [← htm] at h2
   have hx : (YM args (.loop r.state r.pending rc sl :: bin')).slots[i]? = some ((YM args (.loop r.state r.pending rc sl :: bin')).slots.getD i .undef) := by simp [h]
   have h2 : Rep cx.w0 (qp cx env cx.w0) env (a.tmps.getD i Go.undef) ((YM args (.loop r.state r.pending rc sl :: bin')).slots.getD i .undef) := h2
   revert h2 hx
   generalize (YM args (.loop r.state r.pending rc sl :: bin')).slots.getD i .undef = y
   cases y with
   | gd s b x => intro hx _; exact absurd hx (ZP hg i s b x)
   | _ => intro _ h1; exact h1
  rw [hround]
  obtain ⟨v, w', env', h1, h2, h3⟩ := h cx hG hh (fun nm h0 e => by
   have e' := (hent nm h0).1 e
   rcases Nat.lt_or_ge nm (Blk.loop r.state r.pending rc sl :: bin').length with h | h
   ·exact h
   ·have : qU (zV 0 (Vb (Blk.loop r.state r.pending rc sl :: bin'))) nm = none := by
     rw [QD, qd (z8 _), Nat.sub_zero, qaw]
     simp [List.getElem?_eq_none h]
    rw [hm.dom nm this (hh nm)] at e'
    simp at e') b (c :: cs) a cx.w0 env hi l c cs rfl rfl rfl ((hent 0 _).2 h0)
  exact ⟨v, w', ⟨env', h2, h3⟩, h1⟩
 | _ => exact absurd rfl hr
end
end Go.AM
namespace Go.AM
open Go
inductive Cmd where
 | ren (live : List Nat) (M : List (Nat × Nat × Nat))
 | nil (s nm : Nat) (t : TypeId) (τ : RTy)
 | auto (live : List Nat) (fin : Bool)
 | row (s : Nat) (t : TypeId) (τ : RTy)
 | key (s : Nat)
 | autoB (live : List Nat) (fin : Bool) (bumps : List Nat)
 | frz (s : Nat) (ag : Bool) (τ : RTy)
def qsH : AV → Bool
 | .agg _ => true
 | .r (.v (.agg _)) => true
 | _ => false
def qhO (ag : Bool) (τ : RTy) (x : τ.T) : AV := match ag with
 | true => .agg (qy (qr τ x))
 | false => .r ((qr τ x).headD .undef)
def qrv (ag : Bool) (τ : RTy) (x : AV) : Bool := match ag with
 | true => qsH x
 | false => qC τ.sz 1 && !qsH x
def qFN (s : Nat) (ag : Bool) (τ : RTy) (st : St) : Option St := match WW st.blks (st.slots.getD s .undef) with
 | some cs => match qdB st.blks τ cs with
  | some (y, z) => bif zm st.slots && qrv ag τ (st.slots.getD s .undef) then some ⟨qle st.slots s (qhO ag τ y), wi st.blks (vm z)⟩ else none
  | none => none
 | none => none
section
variable {P : Program} [GT P] {cx : Cx} {w : World} {env : Env}
theorem qyM (hh : ∀ n, ¬ cx.hid n) {s : Nat} {ag : Bool} {τ : RTy} {st st' : St} (e : qFN s ag τ st = some st') {a : Act} (hi : Inv cx st a w env) : ∃ env', Inv cx st' a w env' := by
 unfold qFN at e
 split at e
 ·rename_i cs hcs
  split at e
  ·rename_i y z hd
   cases hq : (zm st.slots && qrv ag τ (st.slots.getD s .undef))
   ·rw [hq] at e; simp at e
   rw [hq] at e
   simp only [qi] at e
   rw [qj] at hq
   obtain ⟨hg, hk⟩ := hq
   simp at e; subst e
   have hsl : s < st.slots.length := by
    rcases Nat.lt_or_ge s st.slots.length with h | h
    ·exact h
    ·simp [h, WW, Qh] at hcs
   have hrep : Rep w (qp cx env w) env (a.tmps.getD s Go.undef) (st.slots.getD s .undef) := QS (hi.slot s hsl)
   have hr := ZQ hi.mem hrep hcs
   obtain ⟨env1, T1, G⟩ := qyY hi.mem (XW hd)
   have hro := qeS hi.mem G hr hd fun p hp => hp
   have hnew : Rep w (qp cx env1 w) env1 (a.tmps.getD s Go.undef) (qhO ag τ y) := by
    generalize a.tmps.getD s Go.undef = u at hrep hr hro
    generalize st.slots.getD s .undef = x at hrep hcs hk
    cases ag with
    | true =>
     have : ∃ vs, u = .agg vs := by
      simp only [qrv] at hk
      unfold qsH at hk
      split at hk
      ·obtain ⟨vs, rfl, _⟩ := zO hrep; exact ⟨vs, rfl⟩
      ·rename_i vs; exact ⟨vs, qP hrep⟩
      ·cases hk
     obtain ⟨vs, rfl⟩ := this
     have h2 := WI (env := env1) hro
     have := Z3 h2
     simpa [qhO, Value.cells] using this
    | false =>
     simp only [qrv, qj, Bool.not_eq_true'] at hk
     have h1 := ql hk.1
     have hc : u.cells = #[u] := by
      unfold WW at hcs
      split at hcs
      ·simp [qsH] at hk
      ·simp [qsH] at hk
      ·cases hco : Qh st.blks x <;> simp [hco] at hcs
       exact (qcs hi.mem hrep hco).2
     rw [hc] at hro
     have hl := wY τ y
     rw [h1] at hl
     cases he : qr τ y with
     | nil => rw [he] at hl; simp at hl
     | cons v r =>
      rw [he] at hro
      cases hro with
      | cons g1 g2 =>
       simp only [qhO, he, List.headD_cons]
       exact .r g1
   have nog : ∀ (s0 : Nat) (b : Bool) (x : AV), qhO ag τ y ≠ .gd s0 b x := fun s0 b x h => by
    unfold qhO at h
    cases ag <;> simp at h
   have := qd3 (used := []) (used' := []) (dl := ⟨some s, qhO ag τ y, vm z⟩) (v := a.tmps.getD s Go.undef) ⟨hi, fun i s b x e => absurd e (ZP hg i s b x)⟩ T1 (fun _ h => h) (fun k hk => by simp) (fun k hk => by
    generalize hf : qhO ag τ y = f at hnew
    cases f <;> first | exact hnew | exact absurd hf (nog _ _ _)) fun k hk s0 b x hx => absurd hx (nog _ _ _)
   have ha : a.put (some s) (a.tmps.getD s Go.undef) = a := by
    have hlt : s < a.tmps.size := by rw [hi.size]; exact hsl
    simp only [Act.put]
    have : a.tmps.setIfInBounds s (a.tmps.getD s Go.undef) = a.tmps := by
     apply Array.ext
     ·simp
     ·intro i h1 h2
      by_cases hi' : s = i
      ·subst hi'
       simp [hlt]
      ·rw [Array.getElem_setIfInBounds]
       rw [qm hi']
    rw [this]
   rw [ha] at this
   exact ⟨env1, this.toInv⟩
  ·simp at e
 ·simp at e
def qxD (nm ver : Nat) (τ : RTy) (st : St) : Option St := match qU st.blks nm with
 | some (v, b) => match b with
  | .var t cs => match qdB st.blks τ cs with
   | some (y, z) => bif zm st.slots && (qC v ver && (z.all fun p => !Nat.beq p.1 nm)) then some (st.app ⟨none, .undef, vm z ++ [(nm, v, .var t (qy (qr τ y)))]⟩) else none
   | none => none
  | _ => none
 | none => none
theorem qpK : ∀ (z : List (Nat × Nat)) (x : Nat × Nat × Blk), x ∈ vm z → ∃ p ∈ z, x.1 = p.1
 | [], x, h => by simp [vm] at h
 | (n, v) :: r, x, h => by
  simp only [vm, qK] at h
  rcases h with rfl | h
  ·exact ⟨(n, v), by simp, rfl⟩
  ·obtain ⟨p, hp, e⟩ := qpK r x h
   exact ⟨p, by simp [hp], e⟩
theorem quV (hh : ∀ n, ¬ cx.hid n) {nm ver : Nat} {τ : RTy} {st st' : St} (e : qxD nm ver τ st = some st') {a : Act} (hi : Inv cx st a w env) : ∃ env', Inv cx st' a w env' := by
 unfold qxD at e
 split at e
 ·rename_i v b hb
  split at e
  ·rename_i t cs
   split at e
   ·rename_i y z hd
    cases hq : (zm st.slots && (qC v ver && (z.all fun p => !Nat.beq p.1 nm)))
    ·rw [hq] at e; simp at e
    rw [hq] at e
    simp only [qi] at e
    rw [qj, qj] at hq
    obtain ⟨hg, _, hz⟩ := hq
    simp only [Option.some.injEq] at e
    subst e
    obtain ⟨h, he, hrep⟩ := hi.mem.blk nm v _ hb
    obtain ⟨env1, T1, G⟩ := qyY hi.mem (XW hd)
    have hne : ∀ x ∈ vm z, x.1 ≠ nm := fun x hx q => by
     obtain ⟨p, hp, e1⟩ := qpK z x hx
     have := vA.1 hz p hp
     rw [← e1, q] at this
     simp [qfX] at this
    have hb1 : qU (wi st.blks (vm z)) nm = some (v, .var t cs) := by rw [Z0 _ _ _ hne]; exact hb
    obtain ⟨h1, he1, hrep1⟩ := T1.mem.blk nm v _ hb1
    have hh1 : h = h1 := by
     obtain ⟨cv', h', e2, l2, q2⟩ := T1.le nm v h he
     rw [he1] at e2
     simp at e2
     obtain ⟨rfl, rfl⟩ := e2
     exact q2 rfl
    subst hh1
    have T2 : Trans cx w env1 (zT (wi st.blks (vm z)) nm v (.var t (qy (qr τ y)))) w (env1.put nm v h) := by
     refine wL T1.mem (hh nm) ⟨⟨.inr ⟨v, h, he1, .inr ⟨rfl, rfl⟩⟩, Grew.refl _, fun _ _ _ => rfl, fun B q => .inr ⟨v, h, he1, q⟩⟩, ?_⟩
     have hokm : ∀ B, qp cx env1 w B → qp cx (env1.put nm v h) w B := fun B ⟨o1, o2, o3⟩ => ⟨o1, o2, fun n ver h2 e2 => by
      unfold Env.put at e2
      split at e2
      ·rename_i hn
       simp at e2
       obtain ⟨rfl, rfl⟩ := e2
       exact o3 _ _ _ he1
      ·exact o3 n ver h2 e2⟩
     cases hrep with
     | var B _ vs _ hB hs hc =>
      have a1 : Rp w (qp cx env w) env vs.toList cs := All2.of_get Go.undef .undef (by simpa using hs) fun i hi => by simpa using hc i hi
      have hro := qeS hi.mem G a1 hd fun p hp => hp
      have h2 := WI (env := env1.put nm v (.pointer (some ⟨B, 0, none⟩))) (hro.mono fun _ _ q => q.mono hokm fun _ _ _ => rfl)
      have hl := h2.length
      exact .var B t vs _ hB (by simpa using hl) fun i hi => by simpa using h2.get Go.undef .undef i hi
     | varS B _ vs _ hB h0 hm hs hc =>
      have a1 : Rp w (qp cx env w) env vs.toList cs := All2.of_get Go.undef .undef (by simpa using hs) fun i hi => by simpa using hc i hi
      have hro := qeS hi.mem G a1 hd fun p hp => hp
      have h2 := WI (env := env1.put nm v (.slice (some ⟨B, 0, none⟩) vs.size vs.size)) (hro.mono fun _ _ q => q.mono hokm fun _ _ _ => rfl)
      have hl := h2.length
      exact .varS B t vs _ hB h0 hm (by simpa using hl) fun i hi => by simpa using h2.get Go.undef .undef i hi
    have T : Trans cx w env (wi st.blks (vm z ++ [(nm, v, .var t (qy (qr τ y)))])) w (env1.put nm v h) := by
     rw [Q3]
     exact T1.trans T2
    have := qd3 (used := []) (used' := []) (dl := ⟨none, .undef, vm z ++ [(nm, v, .var t (qy (qr τ y)))]⟩) (v := Go.undef) ⟨hi, fun i s b x e => absurd e (ZP hg i s b x)⟩ T (fun _ h => h) (fun k hk => by simp at hk) (fun k hk => by simp at hk) fun k hk => by simp at hk
    exact ⟨_, this.toInv⟩
   ·cases e
  ·cases e
 ·cases e
def qmn (s : Nat) (ag : Bool) (τ : RTy) (st : St) : Option St := match st.slots.getD s .undef with
 | .ptr nm ver 0 => qxD nm ver τ st
 | _ => qFN s ag τ st
theorem qky (hh : ∀ n, ¬ cx.hid n) {s : Nat} {ag : Bool} {τ : RTy} {st st' : St} (e : qmn s ag τ st = some st') {a : Act} (hi : Inv cx st a w env) : ∃ env', Inv cx st' a w env' := by
 unfold qmn at e
 split at e
 ·exact quV hh e hi
 ·exact qyM hh e hi
theorem Ev.frz {fn : Wy} {m : Nat} {todo : List Item} {st st' : St} {res : AV} {bout : List (Nat × Blk)} {s : Nat} {ag : Bool} {τ : RTy} (e : qmn s ag τ st = some st') (h : Ev P fn m todo st' res bout) : Ev P fn m todo st res bout :=
 fun cx hG hh hent b cs a w _ hi => let ⟨env', hi'⟩ := qky hh e hi; h cx hG hh hent b cs a w env' hi'
theorem EvR.frz {fn : Wy} {m : Nat} {st st' : St} {res : AV} {bout : List (Nat × Blk)} {s : Nat} {ag : Bool} {τ : RTy} (e : qmn s ag τ st = some st') (h : EvR P fn m st' res bout) : EvR P fn m st res bout :=
 fun cx hG hh hent a w _ hi => let ⟨env', hi'⟩ := qky hh e hi; h cx hG hh hent a w env' hi'
end
def qnW (slots : List AV) : List Nat → List Nat
 | [] => []
 | i :: r => qFa (slots.getD i .undef) ++ qnW slots r
def idM (bl : qL) : Nat → List (Nat × Nat × Nat)
 | 0 => []
 | i + 1 => idM bl i ++ [(i, i, match qU bl i with
  | some (0, _) => 0
  | _ => 1)]
def qQh (bl : qL) (bs : List Nat) : Nat → List (Nat × Nat × Nat)
 | 0 => []
 | i + 1 => qQh bl bs i ++ [(i, i, bif wu i bs then 1 else match qU bl i with
  | some (0, _) => 0
  | _ => 1)]
def qtB (m : Nat) : Nat → List Nat → List (Nat × Nat × Nat)
 | _, [] => []
 | k, n :: r => bif Nat.blt n m then qtB m k r else (n, k, 0) :: qtB m (k + 1) r
def qy6 (P : Program) (m : Nat) (rs : List ResultVar) (st : St) : Option (AV × List (Nat × Blk)) := match qcz P st.blks st.slots rs with
 | some vs => bif zg (qcH vs) then (match qh0 m [0] (idM st.blks m ++ qtB m m (XS st.blks 1000 (qFa (qcH vs)) [])) ⟨[qcH vs], st.blks⟩ with
  | some st' => match st'.slots with
   | [r] => match qmP 0 st'.blks with
    | some bout => some (r, bout)
    | none => none
   | _ => none
  | none => none) else none
 | none => none
theorem EvR.fin2 {P : Program} [GT P] {fn : Wy} {m : Nat} {st : St} {res : AV} {bout : List (Nat × Blk)} (e : qy6 P m fn.fn.results.toList st = some (res, bout)) : EvR P fn m st res bout := by
 intro cx hG hh hent a w env hi
 unfold qy6 at e
 split at e
 ·rename_i vs hvs
  cases hn : zg (qcH vs) <;> simp only [hn, qi, qg] at e
  ·simp at e
  split at e
  ·rename_i st' hst
   split at e
   ·rename_i r hr
    split at e
    ·rename_i bout' hb
     simp only [Option.some.injEq, Prod.mk.injEq] at e
     obtain ⟨rfl, rfl⟩ := e
     obtain ⟨v, hv, hrep⟩ := EvR.fin_val (P := P) (fn := fn.fn) hi hvs
     have hi' : Inv cx ⟨[qcH vs], st.blks⟩ { tmps := #[v], defers := [] } w env := by
      refine ⟨Marks.nil _ _ _, rfl, fun i h => ?_, hi.mem⟩
      have : i = 0 := by simpa using h
      subst this
      exact qea hn hrep
     have h2 := qgA hh hent hst hi'
     refine ⟨v, _, hv, by rw [qmH hb]; exact h2.mem, ?_⟩
     have h3 := h2.slot 0 (by rw [hr]; simp)
     rw [hr] at h3
     exact QS h3
    ·simp at e
   ·simp at e
  ·simp at e
 ·simp at e
def qaa (m : Nat) : List Cmd → St → Option St
 | [], st => some st
 | c :: r, st => match (match c with
   | .ren live M => qh0 m live M st
   | .nil s nm t τ => bif zm st.slots then qnU s nm t τ st else none
   | .auto live fin => qh0 m live (idM st.blks m ++ qtB m (bif fin then m else 1000000) (XS st.blks 1000 (qnW st.slots live) [])) st
   | .row s t τ => match st.slots.getD s .undef with
    | .r (.v (.slice none 0 0)) => bif zm st.slots then qnU s (2000000 + s) t τ st else none
    | _ => some st
   | .key _ => some st
   | .autoB live fin bs => qh0 m live (qQh st.blks bs m ++ qtB m (bif fin then m else 1000000) (XS st.blks 1000 (qnW st.slots live) [])) st
   | .frz s ag τ => qmn s ag τ st) with
  | some st' => qaa m r st'
  | none => none
def qfG (todo : List Item) : List Item := match todo with
 | .inLoop c :: k => .code c :: .inLoop c :: k
 | .code (.loop c) :: k => .code c :: .inLoop c :: k
 | k => k
def qP0 (P : Program) [GT P] (R : wV) (rd : Bool) (m : Nat) (l : List Nat) (todo : List Item) (st : St) (ora : List Or) (cs : List Cmd) : Option (List Prop × List Item × St) :=
 match qkI P R rd l 1000 todo st ora with
 | some (φ, .at todo' st', []) => match qaa m cs st' with
  | some st'' => some (φ, qfG todo', st'')
  | none => none
 | _ => none
def qI : Nat → List (Nat × AV) → List AV
 | 0, _ => []
 | n + 1, l => qI n l ++ [(match l.find? (fun p => qC p.1 n) with
  | some p => p.2
  | none => .undef)]
def qs6 (fn : Func) : List Item := match fn.body with
 | some c => [.code c]
 | none => []
section
variable {P : Program} [GT P] {R : wV}
theorem Ev.inLoop {fn : Wy} {m : Nat} {todo : List Item} {st : St} {res : AV} {bout : List (Nat × Blk)} (h : Ev P fn m (qfG todo) st res bout) : Ev P fn m todo st res bout := by
 unfold qfG at h
 split at h
 ·exact fun cx hG hh hent b cs a w env hi => .of_steps (.one stepR_inLoop) (h cx hG hh hent b cs a w env hi)
 ·exact fun cx hG hh hent b cs a w env hi => .of_steps (.one stepR_loop) (h cx hG hh hent b cs a w env hi)
 ·exact h
theorem Ev.cmds {fn : Wy} {m : Nat} {todo : List Item} {res : AV} {bout : List (Nat × Blk)} : ∀ {cs : List Cmd} {st st' : St}, qaa m cs st = some st' → Ev P fn m todo st' res bout → Ev P fn m todo st res bout
 | [], st, st', e, h => by simp [qaa] at e; subst e; exact h
 | c :: r, st, st', e, h => by
  simp only [qaa] at e
  split at e
  ·rename_i s hs
   have ih := Ev.cmds e h
   cases c with
   | ren live M => exact Ev.ren live M hs ih
   | nil s' nm t τ =>
    simp only at hs
    cases hg : zm st.slots <;> simp only [hg, qi, qg] at hs
    ·simp at hs
    ·exact Ev.nil s' nm t τ hs hg ih
   | auto live fin => exact Ev.ren live _ hs ih
   | autoB live fin bs => exact Ev.ren live _ hs ih
   | row s' t τ =>
    simp only at hs
    split at hs
    ·cases hg : zm st.slots <;> simp only [hg, qi, qg] at hs
     ·simp at hs
     ·exact Ev.nil s' _ t τ hs hg ih
    ·simp at hs; subst hs; exact ih
   | key s' => simp at hs; subst hs; exact ih
   | frz s' ag τ => exact Ev.frz hs ih
  ·simp at e
theorem EvR.cmds {fn : Wy} {m : Nat} {res : AV} {bout : List (Nat × Blk)} : ∀ {cs : List Cmd} {st st' : St}, qaa m cs st = some st' → EvR P fn m st' res bout → EvR P fn m st res bout
 | [], st, st', e, h => by simp [qaa] at e; subst e; exact h
 | c :: r, st, st', e, h => by
  simp only [qaa] at e
  split at e
  ·rename_i s hs
   have ih := EvR.cmds e h
   cases c with
   | ren live M => exact EvR.ren live M hs ih
   | nil s' nm t τ =>
    simp only at hs
    cases hg : zm st.slots <;> simp only [hg, qi, qg] at hs
    ·simp at hs
    ·exact EvR.nil s' nm t τ hs hg ih
   | auto live fin => exact EvR.ren live _ hs ih
   | autoB live fin bs => exact EvR.ren live _ hs ih
   | row s' t τ =>
    simp only at hs
    split at hs
    ·cases hg : zm st.slots <;> simp only [hg, qi, qg] at hs
     ·simp at hs
     ·exact EvR.nil s' _ t τ hs hg ih
    ·simp at hs; subst hs; exact ih
   | key s' => simp at hs; subst hs; exact ih
   | frz s' ag τ => exact EvR.frz hs ih
  ·simp at e
theorem Ev.go (hm : P.follows .mixedOrders = true) {fn : Wy} {m : Nat} {l : List Nat} {todo todo' : List Item} {st st' : St} {ora : List Or} {cs : List Cmd} {φ : List Prop} {res : AV} {bout : List (Nat × Blk)}
  (e : qP0 P R fn.rd m l todo st ora cs = some (φ, todo', st')) (hφ : zk φ) (h : Ev P fn m todo' st' res bout) : Ev P fn m todo st res bout := by
 unfold qP0 at e
 split at e
 ·rename_i φ' t s hr
  split at e
  ·rename_i s' hs
   simp at e; obtain ⟨rfl, rfl, rfl⟩ := e
   exact Ev.seg hm hr hφ (Ev.inLoop (Ev.cmds hs h))
  ·simp at e
 ·simp at e
theorem CC.of {f : FuncId} {fn : Func} {args : List AV} {bin : List Blk} {res : AV} {bout : List (Nat × Blk)} (hf : P.funcs[f]? = some fn) (hb : fn.body.isSome = true) (hn : (fn.name == "runtime.NumGoroutine") = false) (hg : zm args = true)
  (h : Ev P fn bin.length (qs6 fn) (qbr fn args bin) res bout) : CC P f args bin res bout := by
 cases hc : fn.body with
 | none => simp [hc] at hb
 | some c =>
  refine CC.of_ev hf hc hn hg ?_
  unfold qs6 at h
  rw [hc] at h
  exact h
theorem qR : zk [] := fun _ h => by simp at h
theorem qf {p : Prop} {l : List Prop} (h : p) (t : zk l) : zk (p :: l) := fun q hq => by
 rcases qK.1 hq with rfl | hq
 ·exact h
 ·exact t _ hq
end
end Go.AM
namespace Go.AM
open Go
inductive Tree where
 | stuck (why : Nat)
 | test (b : Bool) (t f : Tree)
 | need (p : List Prop) (t : Tree)
 | cut (key : Nat) (todo : List Item) (st : St)
 | leaf (res : AV) (bout : List (Nat × Blk))
inductive Alt where
 | one (p : AV × List (Nat × Blk))
 | two (b : Bool) (p q : AV × List (Nat × Blk))
structure Calld where
 modes : Nat → List AV → Option (List Bool)
 res : Nat → List AV → List Blk → Option Alt
def qlQ (κ τ κ' τ' : RTy) (l : List (κ.T × τ.T)) : Option (List (κ'.T × τ'.T)) := if h : κ = κ' ∧ τ = τ' then some (h.1 ▸ h.2 ▸ l) else none
def qyU (P : Program) [GT P] (R : wV) (K : Calld) (bl : qL) (g : Nat) (as : List AV) : Option (List Bool × Alt) := match K.modes g as with
 | some ms0 => match P.funcs.toList[g]? with
  | some fn => match (match qx6 as.length ms0 with
    | [] => ms0
    | _ :: _ => qrl as.length ms0) with
   | ms => match XS bl 100 (Xd ms as) [] with
   | ρ => match zS P R bl ρ (qmk fn.params.toList as) ms as with
    | some cargs => match qaU bl ρ ρ with
     | some bin => match K.res g cargs bin with
      | some a => some (ms0, a)
      | none => none
     | none => none
    | none => none
  | none => none
 | none => none
def qRV (P : Program) [GT P] (R : wV) (K : Calld) (bl : qL) (nm : Nat) (rc : Rc) (as : List AV) : Option (List Bool × Alt) := match K.modes 1000000 as with
 | some ms => match XS bl 100 (nm :: Xd ms as) [] with
  | ρ => match zS P R bl ρ rc.tys ms as with
   | some cargs => match qaU bl ρ ρ with
    | some bin => match K.res 1000000 cargs bin with
     | some a => some (ms, a)
     | none => none
    | none => none
   | none => none
 | none => none
def qLV (P : Program) [GT P] (R : wV) (K : Calld) (st : St) (g : Operand) (ps : Array Nat) (asg body : Code) : Option (List Bool × Alt) := match Vz st.slots [] g with
 | .fn (.func f) first captured => qyU P R K (XI st (3000000 + vQ (.seq asg body)) ps (qkS P f first.length) asg body) f (first ++ (.own (3000000 + vQ (.seq asg body)) (q7 st.blks (3000000 + vQ (.seq asg body))) :: captured))
 | .r (.v (.func (.func f) first captured)) => qyU P R K (XI st (3000000 + vQ (.seq asg body)) ps (qkS P f first.size) asg body) f (zx first.toList ++ (.own (3000000 + vQ (.seq asg body)) (q7 st.blks (3000000 + vQ (.seq asg body))) :: zx captured.toList))
 | _ => none
def qSN (P : Program) [GT P] (R : wV) (K : Calld) (st : St) (c : Call) : Option (List Bool × Alt) := match c.callee with
 | .value f => match Vz st.slots [] f with
  | .r (.v (.func (.func g) first captured)) => qyU P R K st.blks g (zx first.toList ++ (c.args.toList.map (Vz st.slots []) ++ zx captured.toList))
  | .fn (.func g) first captured => qyU P R K st.blks g (first ++ (c.args.toList.map (Vz st.slots []) ++ captured))
  | .own nm ver => match wS st.blks nm ver with
   | some (.loop _ _ rc _) => qRV P R K st.blks nm rc (c.args.toList.map (Vz st.slots []))
   | _ => none
  | _ => none
 | _ => none
def qgx (P : Program) [GT P] (R : wV) (K : Calld) (ops : List Oper) : List Oper → Nat → St → List Or → (List Or → Tree) → Tree
 | [], _, _, acc, k => k acc
 | o :: r, i, st, acc, k => match xo P R ops i o st [] with
  | some (_, d, _) => qgx P R K ops r (i + 1) (st.app d) acc k
  | none => match qtI o.op with
   | some c => match qSN P R K st c with
    | some (ms, a) => match a with
     | .one p => match xo P R ops i o st [.c ⟨ms, p.1, p.2⟩] with
      | some (_, d, _) => qgx P R K ops r (i + 1) (st.app d) (acc ++ [.c ⟨ms, p.1, p.2⟩]) k
      | none => .stuck (1000 + i)
     | .two b p q => .test b
       (match xo P R ops i o st [.c ⟨ms, p.1, p.2⟩] with
       | some (_, d, _) => qgx P R K ops r (i + 1) (st.app d) (acc ++ [.c ⟨ms, p.1, p.2⟩]) k
       | none => .stuck (1000 + i))
       (match xo P R ops i o st [.c ⟨ms, q.1, q.2⟩] with
       | some (_, d, _) => qgx P R K ops r (i + 1) (st.app d) (acc ++ [.c ⟨ms, q.1, q.2⟩]) k
       | none => .stuck (1000 + i))
    | none => .stuck (2000 + i)
   | none => match xop P R st.blks (Vz st.slots []) (100 + o.dst.getD 0) o.op with
    | some e => match e.v with
     | .r (.v (.bool b)) => .test b
       (match xo P R ops i o st [.d true] with
         | some (_, d, _) => qgx P R K ops r (i + 1) (st.app d) (acc ++ [.d true]) k
         | none => .stuck (3000 + i))
       (match xo P R ops i o st [.d false] with
         | some (_, d, _) => qgx P R K ops r (i + 1) (st.app d) (acc ++ [.d false]) k
         | none => .stuck (3000 + i))
     | _ => .stuck (4000 + i)
    | none => .stuck (5000 + i)
def qsi (n : Nat) : List (Nat × List Cmd) → List Cmd
 | [] => []
 | (m, c) :: r => bif qC m n then c else qsi n r
def qxR (p : List Prop) (t : Tree) : Tree := match p with
 | [] => t
 | _ :: _ => .need p t
def qFk (P : Program) [GT P] (R : wV) (K : Calld) (todo : List Item) (st : St) (k : List Or → Tree) : Tree := match todo with
 | [] => k []
 | it :: _ => match it with
  | .code c => match c with
   | .cond x _ _ => match Vz st.slots [] x with
    | .r (.v (.bool b)) => .test b (k [.d true]) (k [.d false])
    | _ => .stuck 1
   | .region _ ops _ => qgx P R K ops.toList ops.toList 0 st [] k
   | .rangeFunc g ps asg body => match qLV P R K st g ps asg body with
    | some (ms, a) => (match a with
     | .one p => k [.c ⟨ms, p.1, p.2⟩]
     | .two b p q => .test b (k [.c ⟨ms, p.1, p.2⟩]) (k [.c ⟨ms, q.1, q.2⟩]))
    | none => .stuck 7
   | _ => k []
  | _ => k []
def qyp (todo : List Item) : Nat := match todo with
 | [] => 9998
 | it :: _ => match it with
  | .inLoop c => vQ c
  | .code c => vQ c
  | _ => 9997
def qa9 (key : Nat) : Code → List Item → Option (List Item)
 | .seq a b, k => match qa9 key a (.code b :: k) with
  | some r => some r
  | none => qa9 key b k
 | .block id c, k => qa9 key c (.inBlock id :: k)
 | .scope c, k => qa9 key c (.inScope c :: k)
 | .loop c, k => bif qC (vQ c) key then some (.code c :: .inLoop c :: k) else qa9 key c (.inLoop c :: k)
 | .cond _ a b, k => match qa9 key a k with
  | some r => some r
  | none => qa9 key b k
 | .region id o d, k => bif qC id key then some (.code (.region id o d) :: k) else none
 | _, _ => none
def Qc (fn : Func) (key : Nat) : List Item := match fn.body with
 | some c => match qa9 key c [] with
  | some r => r
  | none => []
 | none => []
noncomputable def qOX (c : Code) (key : Nat) : List Item := match qa9 key c [] with
 | some r => r
 | none => []
def YT (key : Nat) : Code → Option (List Nat × Code × Code)
 | .seq a b => match YT key a with
  | some r => some r
  | none => YT key b
 | .block _ c => YT key c
 | .scope c => YT key c
 | .loop c => YT key c
 | .cond _ a b => match YT key a with
  | some r => some r
  | none => YT key b
 | .rangeFunc _ ps a b => bif qC (vQ (.seq a b)) key then some (ps.toList, a, b) else (match YT key a with
  | some r => some r
  | none => YT key b)
 | _ => none
noncomputable def qgC (fn : Func) (key : Nat) (tys : List TypeId) : Rc := match fn.body with
 | some c => match YT key c with
  | some (ps, a, b) => ⟨ps, tys, a, b⟩
  | none => ⟨[], [], .skip, .skip⟩
 | none => ⟨[], [], .skip, .skip⟩
def qQP (st : St) (key : Nat) : List Cmd → Nat
 | [] => key
 | c :: r => match c with
  | .key s => (match st.slots.getD s .undef with
   | .r (.v (.int _ n)) => key + 10000 * (n.toNat + 1)
   | _ => key)
  | _ => qQP st key r
def qng (m : Nat) (l : List Nat) (C : List (Nat × List Cmd)) (todo : List Item) (st : St) (t : Tree) : Tree := bif qrp l todo then (match qaa m (qsi (qyp todo) C) st with
 | some st' => .cut (qQP st (qyp todo) (qsi (qyp todo) C)) (qfG todo) st'
 | none => .stuck 2) else t
def tree (P : Program) [GT P] (R : wV) (K : Calld) (rd : Bool) (m : Nat) (l : List Nat) (rs : List ResultVar) (C : List (Nat × List Cmd)) (E : List Cmd) : Nat → List Item → St → Tree
 | 0, _, _ => .stuck 0
 | n + 1, todo, st => match (match todo with
   | it :: k => match it with
    | .code c => match c with
     | .cond x c1 c2 => some (x, c1, c2, k)
     | _ => none
    | _ => none
   | [] => none) with
  | some (x, c1, c2, k) => match Vz st.slots [] x with
   | .r (.v (.bool b)) => .test b (qng m l C (.code c1 :: k) st (tree P R K rd m l rs C E n (.code c1 :: k) st)) (qng m l C (.code c2 :: k) st (tree P R K rd m l rs C E n (.code c2 :: k) st))
   | _ => .stuck 1
  | none => qFk P R K todo st fun ora => match zR P R rd todo st ora with
   | some (φ, .at todo' st', []) => qxR φ (qng m l C todo' st' (tree P R K rd m l rs C E n todo' st'))
   | some (φ, .ret st', []) => qxR φ (match qaa m E st' with
     | some st'' => match qy6 P m rs st'' with
      | some (res, bout) => .leaf res bout
      | none => .stuck 3
     | none => .stuck 4)
   | _ => .stuck 5
def Tree.gives (P : Program) [GT P] (fn : Wy) (m : Nat) (res : AV) (bout : List (Nat × Blk)) : Tree → Prop
 | .stuck _ => False
 | .test b t f => (b = true → t.gives P fn m res bout) ∧ (b = false → f.gives P fn m res bout)
 | .need p t => zk p ∧ t.gives P fn m res bout
 | .cut _ todo st => Ev P fn m todo st res bout
 | .leaf r b => r = res ∧ b = bout
section
variable {P : Program} [GT P] {R : wV} {K : Calld}
theorem qmB {fn : Wy} {m : Nat} {res : AV} {bout : List (Nat × Blk)} {p : List Prop} {t : Tree} (h : (qxR p t).gives P fn m res bout) : zk p ∧ t.gives P fn m res bout := by
 cases p with
 | nil => exact ⟨qR, h⟩
 | cons _ _ => exact h
theorem qmu {fn : Wy} {m : Nat} {res : AV} {bout : List (Nat × Blk)} {b : Bool} {t f : Tree} (h : (Tree.test b t f).gives P fn m res bout) : t.gives P fn m res bout ∨ f.gives P fn m res bout := by
 cases b
 ·exact .inr (h.2 rfl)
 ·exact .inl (h.1 rfl)
theorem WF {fn : Wy} {m : Nat} {res : AV} {bout : List (Nat × Blk)} {ops : List Oper} {k : List Or → Tree} {G : Prop} (hk : ∀ ora, (k ora).gives P fn m res bout → G) : ∀ {rest : List Oper} {i : Nat} {st : St} {acc : List Or}, (qgx P R K ops rest i st acc k).gives P fn m res bout → G
 | [], i, st, acc, h => hk acc h
 | o :: r, i, st, acc, h => by
  simp only [qgx] at h
  split at h
  ·exact WF hk h
  ·split at h
   ·split at h
    ·split at h
     ·split at h
      ·exact WF hk h
      ·exact h.elim
     ·rcases qmu h with h | h
      ·split at h
       ·exact WF hk h
       ·exact h.elim
      ·split at h
       ·exact WF hk h
       ·exact h.elim
    ·exact h.elim
   ·split at h
    ·split at h
     ·rename_i b _
      cases b
      ·have h := h.2 rfl
       split at h
       ·exact WF hk h
       ·exact h.elim
      ·have h := h.1 rfl
       split at h
       ·exact WF hk h
       ·exact h.elim
     ·exact h.elim
    ·exact h.elim
theorem qyD {fn : Wy} {m : Nat} {res : AV} {bout : List (Nat × Blk)} {todo : List Item} {st : St} {k : List Or → Tree} {G : Prop} (hk : ∀ ora, (k ora).gives P fn m res bout → G) (h : (qFk P R K todo st k).gives P fn m res bout) : G := by
 unfold qFk at h
 split at h
 ·exact hk _ h
 ·split at h
  ·split at h
   ·split at h
    ·rename_i b _
     cases b
     ·exact hk _ (h.2 rfl)
     ·exact hk _ (h.1 rfl)
    ·exact h.elim
   ·exact WF hk h
   ·split at h
    ·split at h
     ·exact hk _ h
     ·rcases qmu h with h | h
      ·exact hk _ h
      ·exact hk _ h
    ·exact h.elim
   ·exact hk _ h
  ·exact hk _ h
theorem qdF {fn : Wy} {m : Nat} {l : List Nat} {C : List (Nat × List Cmd)} {res : AV} {bout : List (Nat × Blk)} {todo : List Item} {st : St} {t : Tree} (h : (qng m l C todo st t).gives P fn m res bout) (ht : t.gives P fn m res bout → Ev P fn m todo st res bout) : Ev P fn m todo st res bout := by
 unfold qng at h
 cases hr : qrp l todo <;> simp only [hr, qi, qg] at h
 ·exact ht h
 ·split at h
  ·rename_i st'' hs
   exact Ev.inLoop (Ev.cmds hs h)
  ·exact h.elim
theorem qaT (hm : P.follows .mixedOrders = true) {fn : Wy} {m : Nat} {l : List Nat} {C : List (Nat × List Cmd)} {E : List Cmd} {res : AV} {bout : List (Nat × Blk)} : ∀ {n : Nat} {todo : List Item} {st : St}, (tree P R K fn.rd m l fn.fn.results.toList C E n todo st).gives P fn m res bout → Ev P fn m todo st res bout
 | 0, _, _, h => h.elim
 | n + 1, todo, st, h => by
  simp only [tree] at h
  split at h
  ·rename_i x c1 c2 k he
   have ht : todo = .code (.cond x c1 c2) :: k := by
    split at he
    ·split at he
     ·split at he
      ·simp at he; obtain ⟨rfl, rfl, rfl, rfl⟩ := he; rfl
      ·simp at he
     ·simp at he
    ·simp at he
   subst ht
   split at h
   ·rename_i b hb
    cases b
    ·exact QN hm (R := R) (ora := [.d false]) (r := .at (.code c2 :: k) st) (ora' := []) (φ := [false = false]) (by simp [zR, hb]) (qf rfl qR) (show Ev P fn m _ _ res bout from qdF (h.2 rfl) (qaT hm))
    ·exact QN hm (R := R) (ora := [.d true]) (r := .at (.code c1 :: k) st) (ora' := []) (φ := [true = true]) (by simp [zR, hb]) (qf rfl qR) (show Ev P fn m _ _ res bout from qdF (h.1 rfl) (qaT hm))
   ·exact h.elim
  ·refine qyD (fun ora h => ?_) h
   split at h
   ·rename_i φ todo' st' hx
    obtain ⟨hφ, h⟩ := qmB h
    exact QN hm hx hφ (show Ev P fn m todo' st' res bout from qdF h (qaT hm))
   ·rename_i φ st' hx
    obtain ⟨hφ, h⟩ := qmB h
    refine QN hm hx hφ ?_
    show EvR P fn m st' res bout
    split at h
    ·rename_i st'' hs
     split at h
     ·rename_i res' bout' hf
      obtain ⟨rfl, rfl⟩ := h
      exact EvR.cmds hs (EvR.fin2 hf)
     ·exact h.elim
    ·exact h.elim
   ·exact h.elim
theorem Ev.tree (hm : P.follows .mixedOrders = true) {fn : Wy} {m n : Nat} {l : List Nat} {C : List (Nat × List Cmd)} {E : List Cmd} {res : AV} {bout : List (Nat × Blk)} {todo : List Item} {st : St} {T : Tree} (e : tree P R K fn.rd m l fn.fn.results.toList C E n todo st = T) (h : T.gives P fn m res bout) : Ev P fn m todo st res bout :=
 qaT hm (R := R) (K := K) (by rw [e]; exact h)
end
end Go.AM
namespace Go.AM
open Go Go.ChangeShapes Go.WideShapes
def qhp (P : Program) (f : TypeId → RTy → Bool) : Nat → List Field → RTy → Bool
 | _, [], τ => (match τ with
  | .unit => true
  | _ => false)
 | off, x :: r, τ => qC x.offset off && (match r with
  | [] => qC (P.cellsOf x.type) τ.sz && f x.type τ
  | _ :: _ => match τ with
   | .pair a b => qC (P.cellsOf x.type) a.sz && (f x.type a && qhp P f (off + a.sz) r b)
   | _ => false)
def qjV (c : Nat) (f : RTy → Bool) : Nat → RTy → Bool
 | 0, τ => (match τ with
  | .unit => true
  | _ => false)
 | 1, τ => qC c τ.sz && f τ
 | n + 2, τ => (match τ with
  | .pair a b => qC c a.sz && (f a && qjV c f (n + 1) b)
  | _ => false)
def qf2 (P : Program) : Nat → TypeId → RTy → Bool
 | 0, _, _ => false
 | n + 1, t, τ => match P.underlying t with
  | some (.int k) => (match τ with
   | .int k' => k == k'
   | _ => false)
  | some .bool => (match τ with
   | .bool => true
   | _ => false)
  | some .string => (match τ with
   | .str => true
   | _ => false)
  | some (.struct fs) => qC (P.cellsOf t) τ.sz && qhp P (qf2 P n) 0 fs.toList τ
  | some (.array m e) => qC (P.cellsOf t) τ.sz && qjV (P.cellsOf e) (qf2 P n e) m τ
  | some (.slice e) => (match τ with
   | .list a => qf2 P n e a && (qC (P.cellsOf e) a.sz && (qut 1 a.sz && qut 1 (P.bytesOf e)))
   | _ => false)
  | _ => false
def Wf : (τ : RTy) → τ.T → Prop
 | .int k, n => (Lit.int k n).wf = true
 | .bool, _ => True
 | .str, s => s.size ≤ 140737488351232
 | .fn, _ => True
 | .unit, _ => True
 | .pair a b, p => Wf a p.1 ∧ Wf b p.2
 | .list a, l => l.length ≤ 140737488351232 ∧ ∀ x ∈ l, Wf a x
def qco (W : World) (B : Nat) : Prop := B < W.heap.size
theorem qvO {α : Type} {p : Nat → α → Prop} : ∀ n, (∀ i, i < n → ∃ x, p i x) → ∃ l : List α, l.length = n ∧ ∀ i (h : i < l.length), p i l[i]
 | 0, _ => ⟨[], rfl, fun i h => by simp at h⟩
 | n + 1, h => by
  obtain ⟨l, hl, hp⟩ := qvO n fun i hi => h i (by omega)
  obtain ⟨x, hx⟩ := h n (by omega)
  refine ⟨l ++ [x], by simp [hl], fun i hi => ?_⟩
  by_cases hn : i < l.length
  ·rw [List.getElem_append_left hn]; exact hp i hn
  ·have : i = n := by simp at hi; omega
   subst this
   rw [List.getElem_append_right (by omega)]
   simpa [hl] using hx
section
variable {H : Type} {enc0 : TypeId × Value → H} {P : Program} {W : World} {base : Nat} {spare : Nat → Bool} {held : Bool}
theorem qcY {e : TypeId} : ∀ {l : List (DataW H)} {d : DataW H}, d ∈ l → ∀ q ∈ d.weights P e, q ∈ DataW.weightsAll P e l
 | x :: l, d, h, q, hq => by
  simp only [DataW.weightsAll, zW]
  rcases qK.1 h with rfl | h
  ·exact .inl hq
  ·exact .inr (qcY h q hq)
def qxT (enc0 : TypeId × Value → H) (P : Program) (W : World) (base : Nat) (spare : Nat → Bool) (held : Bool) (t : TypeId) (τ : RTy) : Prop :=
 ∀ (fuel : Nat) (cs : List Value) (x : DataW H × List MemPlace), DataW.trod enc0 P W base spare held fuel t cs = some x → (∀ q ∈ x.1.weights P t, q ≤ reachBytes) →
  ∃ y : τ.T, Wf τ y ∧ All2 (RepR W (qco W)) cs (qr τ y)
theorem qp3 {f : TypeId → RTy → Bool} (hf : ∀ t τ, f t τ = true → qxT enc0 P W base spare held t τ) {cs : List Value} {m : Nat} : ∀ (fs : List Field) (off : Nat) (τ : RTy) (xs : List (DataW H × List MemPlace)),
  qhp P f off fs τ = true → (∀ (i : Nat) (g : Field), fs[i]? = some g → DataW.trod enc0 P W base spare held m g.type ((cs.drop g.offset).take (P.cellsOf g.type)) = xs[i]?) → xs.length = fs.length →
  (∀ q ∈ DataW.weightsEach P (fs.map (·.type)) (xs.map (·.1)), q ≤ reachBytes) → ∃ y : τ.T, Wf τ y ∧ All2 (RepR W (qco W)) ((cs.drop off).take τ.sz) (qr τ y)
 | [], off, τ, xs, h, _, _, _ => by
  cases τ <;> simp [qhp] at h
  exact ⟨(), trivial, by simp [RTy.sz, qr]; exact .nil⟩
 | g :: r, off, τ, xs, h, hx, hl, hw => by
  obtain ⟨x, xs', rfl⟩ : ∃ x xs', xs = x :: xs' := by cases xs <;> simp at hl <;> exact ⟨_, _, rfl⟩
  have hx0 := hx 0 g rfl
  simp only [List.getElem?_cons_zero] at hx0
  simp only [qhp, qj] at h
  obtain ⟨ho, h⟩ := h
  have ho := ql ho
  cases r with
  | nil =>
   simp only [qj] at h
   have hc := ql h.1
   rw [ho, hc] at hx0
   exact hf _ _ h.2 m _ x hx0 fun q hq => hw q (by simp [DataW.weightsEach, hq])
  | cons g2 r2 =>
   cases τ <;> simp only [qj, qG] at h
   rename_i a b
   obtain ⟨hc, ha, hr⟩ := h
   have hc := ql hc
   rw [ho, hc] at hx0
   obtain ⟨y, hy, hy2⟩ := hf _ _ ha m _ x hx0 fun q hq => hw q (by simp [DataW.weightsEach, hq])
   obtain ⟨z, hz, hz2⟩ := qp3 hf (g2 :: r2) (off + a.sz) b xs' hr (fun i g' hg => by simpa using hx (i + 1) g' (by simpa using hg)) (by simpa using hl) fun q hq => hw q (by
    simp only [List.map_cons, DataW.weightsEach, zW] at hq ⊢
    exact .inr hq)
   refine ⟨(y, z), ⟨hy, hz⟩, ?_⟩
   have : (cs.drop off).take (a.sz + b.sz) = (cs.drop off).take a.sz ++ (cs.drop (off + a.sz)).take b.sz := by rw [List.take_add, List.drop_drop]
   show All2 _ ((cs.drop off).take (a.sz + b.sz)) _
   rw [this]
   exact hy2.append hz2
theorem qs8 {c : Nat} {f : RTy → Bool} {e : TypeId} (hf : ∀ τ, f τ = true → qxT enc0 P W base spare held e τ) {cs : List Value} {m : Nat} : ∀ (n k : Nat) (τ : RTy) (xs : List (DataW H × List MemPlace)),
  qjV c f n τ = true → (∀ i, i < n → DataW.trod enc0 P W base spare held m e ((cs.drop ((k + i) * c)).take c) = xs[i]?) → xs.length = n →
  (∀ q ∈ DataW.weightsAll P e (xs.map (·.1)), q ≤ reachBytes) → ∃ y : τ.T, Wf τ y ∧ All2 (RepR W (qco W)) ((cs.drop (k * c)).take τ.sz) (qr τ y)
 | 0, k, τ, xs, h, _, _, _ => by
  cases τ <;> simp [qjV] at h
  exact ⟨(), trivial, by simp [RTy.sz, qr]; exact .nil⟩
 | 1, k, τ, xs, h, hx, hl, hw => by
  obtain ⟨x, rfl⟩ := List.length_eq_one_iff.1 hl
  simp only [qjV, qj] at h
  have hc := ql h.1
  have hx0 := hx 0 (by omega)
  simp only [List.getElem?_cons_zero, Nat.add_zero, hc] at hx0
  rw [hc]
  exact hf _ h.2 m _ x hx0 fun q hq => hw q (by simp [DataW.weightsAll, hq])
 | n + 2, k, τ, xs, h, hx, hl, hw => by
  obtain ⟨x, xs', rfl⟩ : ∃ x xs', xs = x :: xs' := by cases xs <;> simp at hl <;> exact ⟨_, _, rfl⟩
  cases τ <;> simp only [qjV, qj, qG] at h
  rename_i a b
  obtain ⟨hc, ha, hr⟩ := h
  have hc := ql hc
  have hx0 := hx 0 (by omega)
  simp only [List.getElem?_cons_zero, Nat.add_zero] at hx0
  obtain ⟨y, hy, hy2⟩ := hf _ ha m _ x hx0 fun q hq => hw q (by simp [DataW.weightsAll, hq])
  obtain ⟨z, hz, hz2⟩ := qs8 hf (n + 1) (k + 1) b xs' hr (fun i hi => by
   have := hx (i + 1) (by omega)
   rw [show k + (i + 1) = k + 1 + i by omega] at this
   simpa using this) (by simpa using hl) fun q hq => hw q (by simp [DataW.weightsAll] at hq ⊢; exact .inr hq)
  refine ⟨(y, z), ⟨hy, hz⟩, ?_⟩
  rw [hc] at hy2 hz2 ⊢
  have : (cs.drop (k * a.sz)).take (a.sz + b.sz) = (cs.drop (k * a.sz)).take a.sz ++ (cs.drop ((k + 1) * a.sz)).take b.sz := by rw [List.take_add, List.drop_drop, qaS, Nat.one_mul]
  show All2 _ ((cs.drop (k * a.sz)).take (a.sz + b.sz)) _
  rw [this]
  exact hy2.append hz2
theorem qjQ : ∀ (n : Nat) (t : TypeId) (τ : RTy), qf2 P n t τ = true → qxT enc0 P W base spare held t τ
 | 0, t, τ, h => by simp [qf2] at h
 | n + 1, t, τ, h => by
  intro fuel cs x hx hw
  unfold qf2 at h
  split at h
  ·rename_i k hu
   cases τ <;> simp at h
   subst h
   obtain ⟨i, rfl, rfl, hwf⟩ := DataW.trod_int hu hx
   exact ⟨i, hwf, .cons (.v _) .nil⟩
  ·rename_i hu
   cases τ <;> simp at h
   obtain ⟨b, rfl, rfl⟩ := DataW.trod_bool hu hx
   exact ⟨b, trivial, .cons (.v _) .nil⟩
  ·rename_i hu
   cases τ <;> simp at h
   obtain ⟨s, rfl, rfl, _⟩ := DataW.trod_string hu hx
   refine ⟨s, ?_, .cons (.v _) .nil⟩
   have := hw s.data.toList.length (by simp [DataW.weights])
   simp [reachBytes] at this
   exact this
  ·rename_i fs hu
   simp only [qj] at h
   obtain ⟨xs, m, rfl, rfl, hcl, hl, hall⟩ := DataW.trod_struct hu hx
   have hc := ql h.1
   obtain ⟨y, hy, hy2⟩ := qp3 (fun t τ => qjQ n t τ) fs.toList 0 τ xs h.2 (fun i g hg => hall i g (by simpa using hg)) (by simpa using hl) fun q hq => hw q (by simpa [DataW.weights, hu] using hq)
   refine ⟨y, hy, ?_⟩
   rw [wm, wI (by omega)] at hy2
   exact hy2
  ·rename_i mm e hu
   simp only [qj] at h
   obtain ⟨xs, m, rfl, rfl, hcl, hl, hall⟩ := DataW.trod_array hu hx
   have hc := ql h.1
   obtain ⟨y, hy, hy2⟩ := qs8 (fun τ => qjQ n e τ) mm 0 τ xs h.2 (fun i hi => by rw [Yd]; exact hall i hi) hl fun q hq => hw q (by simpa [DataW.weights, hu] using hq)
   refine ⟨y, hy, ?_⟩
   rw [Nat.zero_mul, wm, wI (by omega)] at hy2
   exact hy2
  ·rename_i e hu
   cases τ <;> simp only [qj, qG] at h
   rename_i a
   obtain ⟨ha, hc, hz, hb⟩ := h
   have hc := ql hc
   have hz := wo hz
   have hb := wo hb
   rcases DataW.trod_slice hu hx with ⟨rfl, rfl⟩ | ⟨A, len, cap, elems, rest, m, rfl, rfl, rfl, _, hlc, _, hel, hall, _, _⟩
   ·exact ⟨[], ⟨z8 _, fun x hx => by simp at hx⟩, .cons (.nil a none 0) .nil⟩
   ·rw [hc] at hall
    have hwl : (elems.length + rest.length) * P.bytesOf e ≤ reachBytes := hw _ (by simp [DataW.weights, hu])
    have hlen : len ≤ 140737488351232 := by
     have h1 : elems.length + rest.length ≤ (elems.length + rest.length) * P.bytesOf e := Nat.le_mul_of_pos_right _ hb
     simp only [reachBytes] at hwl
     omega
    have each : ∀ i, i < len → ∃ y : a.T, Wf a y ∧ ∃ csi, W.cells? base (A.add (i * a.sz)) a.sz = some csi ∧ All2 (RepR W (qco W)) csi (qr a y) := fun i hi => by
     have h1 := hall i hi
     have hi2 : i < elems.length := by omega
     rw [List.getElem?_eq_getElem hi2] at h1
     obtain ⟨csi, hcs, ht⟩ := Option.bind_eq_some_iff.1 h1
     obtain ⟨y, hy, hy2⟩ := qjQ n e a ha m csi _ ht fun q hq => hw q (by
      simp only [DataW.weights, hu, qK, zW]
      exact .inr (.inl (qcY (List.mem_map_of_mem (List.getElem_mem hi2)) q hq)))
     exact ⟨y, hy, csi, hcs, hy2⟩
    obtain ⟨l, hl, hp⟩ := qvO len each
    refine ⟨l, ⟨by omega, fun x hx => ?_⟩, ?_⟩
    ·obtain ⟨i, hi, rfl⟩ := List.mem_iff_getElem.1 hx
     exact (hp i hi).1
    by_cases hl0 : len = 0
    ·have : l = [] := List.length_eq_zero_iff.1 (by omega)
     subst this
     subst hl0
     exact .cons (.nil a _ cap) .nil
    have cellAt : ∀ i j, i < len → j < a.sz → ∃ (h : i < l.length) (csi : List Value) (hj : j < csi.length), W.cell? ((A.add (i * a.sz)).add j) = some csi[j] ∧ RepR W (qco W) csi[j] ((qr a l[i]).getD j .undef) := fun i j hi hj => by
     have h : i < l.length := by omega
     obtain ⟨_, csi, hcs, hr⟩ := hp i h
     unfold World.cells? at hcs
     split at hcs
     ·have e1 := mapM_some_length hcs
      simp at e1
      have hj2 : j < csi.length := by omega
      have e2 := mapM_some_get hcs j j (by simp [hj])
      rw [List.getElem?_eq_getElem hj2] at e2
      have e3 := hr.get Go.undef .undef j (by rw [wY]; exact hj)
      rw [List.getD_eq_getElem?_getD, List.getElem?_eq_getElem hj2] at e3
      exact ⟨h, csi, hj2, e2, e3⟩
     ·simp at hcs
    obtain ⟨B, o, spot⟩ := A
    have hspot : spot = none := by
     obtain ⟨_, _, _, h1, _⟩ := cellAt 0 0 (by omega) (by omega)
     simpa [Addr.add] using World.cell?_spot h1
    subst hspot
    have hB : B < W.heap.size := by
     obtain ⟨_, _, _, h1, _⟩ := cellAt 0 0 (by omega) (by omega)
     by_cases hlt : B < W.heap.size
     ·exact hlt
     ·have hn : W.heap[B]? = none := by simp; omega
      simp [World.cell?, Addr.add, hn] at h1
    have split : ∀ k, k < l.length * a.sz → k / a.sz < l.length ∧ k % a.sz < a.sz ∧ k / a.sz * a.sz + k % a.sz = k := fun k hk =>
     ⟨(Nat.div_lt_iff_lt_mul hz).2 hk, Nat.mod_lt _ hz, by rw [Nat.mul_comm]; exact Nat.div_add_mod k a.sz⟩
    refine .cons ?_ .nil
    rw [← hl]
    refine .ro a l B o cap (fun k => (W.cell? ⟨B, o + k, none⟩).getD Go.undef) hB (by omega) (fun k hk => ?_) fun k hk => ?_
    ·obtain ⟨h1, h2, h3⟩ := split k hk
     obtain ⟨_, csi, hj, hc1, hr⟩ := cellAt _ _ (by omega : k / a.sz < len) h2
     simp only [add_plain, Nat.add_assoc, h3] at hc1
     rw [hc1]; rfl
    ·obtain ⟨h1, h2, h3⟩ := split k hk
     obtain ⟨hi, csi, hj, hc1, hr⟩ := cellAt _ _ (by omega : k / a.sz < len) h2
     simp only [add_plain, Nat.add_assoc, h3] at hc1
     rw [hc1]
     have e := YP a .undef l (k / a.sz) (k % a.sz) h1 h2
     rw [h3] at e
     rw [e]
     simp only [Vo, List.getD_eq_getElem?_getD (i := k / a.sz), List.getElem?_eq_getElem hi, qRI]
     exact hr
  ·simp at h
end
end Go.AM
namespace Go.AM
open Go Go.ChangeShapes Go.WideShapes
@[reducible] def qjC : List (Bool × RTy) → Type
 | [] => Unit
 | p :: r => p.2.T × qjC r
def qzg (ag : Bool) (τ : RTy) (x : τ.T) : AV := match ag with
 | true => .agg (qy (qr τ x))
 | false => .r ((qr τ x).headD .undef)
def avs : (l : List (Bool × RTy)) → qjC l → List AV
 | [], _ => []
 | p :: r, x => qzg p.1 p.2 x.1 :: avs r x.2
def WfA : (l : List (Bool × RTy)) → qjC l → Prop
 | [], _ => True
 | p :: r, x => Wf p.2 x.1 ∧ WfA r x.2
def qaV (P : Program) : List TypeId → List (Bool × RTy) → Bool
 | [], [] => true
 | t :: ts, p :: l => qf2 P 20 t p.2 && (Q2 P t p.1 && (P.readableRec t && (Nat.blt t P.types.size && qaV P ts l)))
 | _, _ => false
section
variable {H : Type} {enc0 : TypeId × Value → H} {P : Program} {W : World} {held : Bool} {spare : Nat → Bool}
def Vk (W : World) : Cx := { okb := qco W, w0 := W, ent := fun _ => none }
def ZI : Env := fun _ => none
theorem qJ8 : (Vk W).Wf := ⟨fun B h => h, fun B _ ⟨_, _, h, _⟩ => by simp [Vk] at h⟩
theorem qLG {B : Nat} (h : qco W B) : qp (Vk W) ZI W B := ⟨.inl h, h, fun nm ver x e => by simp [ZI] at e⟩
theorem qTp : Mem (Vk W) [] W ZI := by
 refine ⟨fun nm ver b e => ?_, fun nm _ _ => rfl, fun nm h => ?_, fun nm nm' v v' h h' B e => ?_, fun nm v h B e => ?_, .refl _, fun B _ _ => rfl, fun nm h h0 e => ?_, fun nm h0 e => ?_⟩
 ·simp [qU] at e
 ·simp [Vk] at h
 ·simp [ZI] at e
 ·simp [ZI] at e
 ·simp [ZI] at e
 ·simp [Vk] at e
theorem qGh {ok : Nat → Prop} {env : Env} {cs : Array Value} {l : List AV} (h : Rp W ok env cs.toList l) : Rep W ok env (.agg cs) (.agg l) := by
 have hl := h.length
 refine .agg cs l (by simpa using hl) fun i hi => ?_
 have := h.get Go.undef .undef i hi
 have e : cs.getD i Go.undef = cs.toList.getD i Go.undef := by simp
 rw [e]; exact this
theorem qGb {t : TypeId} {ag : Bool} {τ : RTy} {base : Nat} {v : Value} {d : DataW H} {ps : List MemPlace} (hok : qf2 P 20 t τ = true) (hag : Q2 P t ag = true) (hval : Value.okWide P W .any base t v)
  (h : DataW.Trod enc0 P W 0 spare held t v d ps) (hw : ∀ q ∈ d.weights P t, q ≤ reachBytes) : ∃ x : τ.T, Wf τ x ∧ Rep W (qp (Vk W) ZI W) ZI v (qzg ag τ x) := by
 obtain ⟨fuel, hf⟩ := h
 obtain ⟨x, hx, hr⟩ := qjQ 20 t τ hok fuel _ _ hf hw
 have hr : All2 (RepR W (qp (Vk W) ZI W)) v.cells.toList (qr τ x) := hr.mono fun _ _ h => h.mono (fun B hB => qLG hB) fun _ _ _ => rfl
 refine ⟨x, hx, ?_⟩
 have one : v.cells.toList = [v] → Rep W (qp (Vk W) ZI W) ZI v (qzg false τ x) := fun hc => by
  rw [hc] at hr
  generalize hl : qr τ x = l at hr
  cases hr with
  | cons a b =>
   cases b
   show Rep W _ _ v (.r ((qr τ x).headD .undef))
   rw [hl]
   exact .r a
 have many : ∀ cs, v = .agg cs → Rep W (qp (Vk W) ZI W) ZI v (qzg true τ x) := fun cs hc => by
  subst hc
  exact qGh (WI hr)
 unfold qf2 at hok
 unfold Q2 zy at hag
 split at hok
 ·rename_i hu; simp only [hu] at hag
  cases ag <;> simp at hag
  obtain ⟨n, rfl⟩ := okWide_int hu hval
  exact one rfl
 ·rename_i hu; simp only [hu] at hag
  cases ag <;> simp at hag
  obtain ⟨n, rfl⟩ := okWide_bool hu hval
  exact one rfl
 ·rename_i hu; simp only [hu] at hag
  cases ag <;> simp at hag
  obtain ⟨n, rfl⟩ := okWide_string hu hval
  exact one rfl
 ·rename_i hu; simp only [hu] at hag
  cases ag <;> simp at hag
  obtain ⟨cs, h1, _⟩ := okWide_struct hu hval
  exact many cs h1
 ·rename_i hu; simp only [hu] at hag
  cases ag <;> simp at hag
  simp only [Value.okWide, hu] at hval
  obtain ⟨cs, h1, _⟩ := hval
  exact many cs h1
 ·rename_i hu; simp only [hu] at hag
  cases ag <;> simp at hag
  obtain ⟨a, b, c, rfl⟩ := okWide_slice hu hval
  exact one rfl
 ·simp at hok
theorem qpu : ∀ {ts : List TypeId} {l : List (Bool × RTy)} {vs : List Value} {ds : List (DataW H)} {ps : List MemPlace}, qaV P ts l = true → DataW.TrodAll enc0 P W 0 spare held ts vs ds ps →
  (∀ (j : Nat) t v, ts[j]? = some t → vs[j]? = some v → ∃ base, Value.okWide P W .any base t v) → (∀ q ∈ DataW.weightsEach P ts ds, q ≤ reachBytes) →
  ds.length = ts.length ∧ ∃ xs : qjC l, WfA l xs ∧ Rp W (qp (Vk W) ZI W) ZI vs (avs l xs)
 | [], l, vs, ds, ps, h, ht, _, _ => by
  cases l with
  | nil =>
   obtain ⟨rfl, rfl, rfl⟩ := trodAll_nil ht
   exact ⟨rfl, (), trivial, .nil⟩
  | cons _ _ => simp [qaV] at h
 | t :: ts, l, vs, ds, ps, h, ht, hv, hw => by
  cases l with
  | nil => simp [qaV] at h
  | cons p l =>
   obtain ⟨ag, τ⟩ := p
   simp only [qaV, qj] at h
   obtain ⟨v, vs', d, ds', p, q, rfl, rfl, rfl, hd, hr⟩ := trodAll_cons ht
   obtain ⟨base, hb⟩ := hv 0 t v rfl rfl
   obtain ⟨x, hx, hx2⟩ := qGb h.1 h.2.1 hb hd fun q hq => hw q (by simp [DataW.weightsEach, hq])
   obtain ⟨hl, xs, hxs, hxs2⟩ := qpu h.2.2.2.2 hr (fun j t v a b => hv (j + 1) t v (by simpa using a) (by simpa using b)) fun q hq => hw q (by simp [DataW.weightsEach, hq])
   exact ⟨by simp [hl], (x, xs), ⟨hx, hxs⟩, .cons hx2 hxs2⟩
theorem qpL {W' : World} (hl : laidOutB P = true) (hg : ∀ B, B < W.heap.size → W'.heap[B]? = W.heap[B]?) : ∀ {ts : List TypeId} {l : List (Bool × RTy)} {vs : List Value} {ds : List (DataW H)} {ps : List MemPlace}, qaV P ts l = true →
  DataW.TrodAll enc0 P W 0 (fun _ => true) true ts vs ds ps → ∃ qs, DataW.TrodAll enc0 P W' 0 (fun b => decide (b < W.heap.size)) true ts vs ds qs
 | [], l, vs, ds, ps, h, ht => by
  obtain ⟨rfl, rfl, rfl⟩ := trodAll_nil ht
  exact ⟨[], trodAll_mk0⟩
 | t :: ts, l, vs, ds, ps, h, ht => by
  cases l with
  | nil => simp [qaV] at h
  | cons p l =>
   simp only [qaV, qj] at h
   obtain ⟨v, vs', d, ds', p, q, rfl, rfl, rfl, hd, hr⟩ := trodAll_cons ht
   obtain ⟨qs, hq⟩ := qpL hl hg h.2.2.2.2 hr
   have lt : ∀ x ∈ p, x.block < W.heap.size := by obtain ⟨m, hm⟩ := hd; exact DataW.trod_lt m _ _ _ hm
   have := WideElems.Trod_stays hl h.2.2.1 (wo h.2.2.2.1) hd (W' := W') (sp' := fun b => decide (b < W.heap.size)) (fun x hx => by
    cases x with
    | cell b o => exact zt (hg b (lt _ hx)) o
    | map b => exact hg b (lt _ hx)) (fun x hx => by simpa using lt x hx)
   exact ⟨_, trodAll_cons_mk this hq⟩
theorem qTb [GT P] (hG : GT.G P W) : (Vk W).Gok P := ⟨W, hG, qT _, fun _ _ => rfl, fun B ⟨_, _, h, _⟩ => by simp [Vk] at h⟩
theorem qGQ [GT P] (hGT : GT.G P W) {f : FuncId} {fn : Func} {spec : ChangeSpec} {l : List (Bool × RTy)} {rt : TypeId} (hl : laidOutB P = true) (hts : qaV P fn.params.toList l = true) (hrt : fn.resultTypes = #[rt]) (hu : P.underlying rt = some .bool) (hvars : spec.vars = [])
  (hspec : ∀ ds : List (DataW H), ds.length = fn.params.toList.length → spec.fn H ds = { results := [.lit (.bool true)], args := ds }) (main : ∀ xs : qjC l, WfA l xs → CC P f (avs l xs) [] (.r (.v (.bool true))) []) {base : Nat} {args : Array Value} {ds gs : List (DataW H)} {vp : List MemPlace}
  (hval : ∀ (j : Nat) t v, fn.params[j]? = some t → args[j]? = some v → Value.okWide P W .any base t v) (hW : DataW.Whole enc0 P fn.params.toList spec.vars false W args.toList ds gs vp)
  (hsz : (DataW.weightsEach P (fn.params.toList ++ spec.plain.varTypes P) (ds ++ gs)).all (· ≤ reachBytes) = true) :
  Calls P f args W fun e W' => ∃ v, e = .returned v ∧ spec.post enc0 P fn false true false false W args v W' := by
 have hW' := hW
 obtain ⟨p, q, hA, hV, rfl, hfz, hnd⟩ := hW
 have hV' : DataW.TrodVars enc0 P W (fun _ => true) [] gs q := hvars ▸ hV
 obtain ⟨rfl, rfl⟩ := trodVars_none hV'
 have hwt : ∀ q ∈ DataW.weightsEach P fn.params.toList ds, q ≤ reachBytes := fun q hq => by
  have e : spec.plain.varTypes P = [] := by
   have : spec.plain.vars = [] := hvars
   simp [DataSpec.varTypes, this]
  rw [e, qY, qY] at hsz
  simpa using vA.1 hsz q hq
 obtain ⟨hlen, xs, hxs, hrep⟩ := qpu hts hA (fun j t v a b => ⟨base, hval j t v (by simpa using a) (by simpa using b)⟩) hwt
 obtain ⟨_, hcc⟩ := main xs hxs
 have hlen2 := hrep.length
 refine (hcc (Vk W) ZI args qJ8 (qTb hGT) (fun _ h => h) (fun nm h => by simp [Vk, ZI]) qTp (by simpa using hlen2) fun i hi => ?_).mono fun e W' ⟨v, env', he, hm, hr⟩ => ?_
 ·have := hrep.get Go.undef .undef i hi
  have e : args.getD i Go.undef = args.toList.getD i Go.undef := by simp
  rw [e]; exact this
 have hv := qP hr
 subst hv
 have hg : ∀ B, B < W.heap.size → W'.heap[B]? = W.heap[B]? := fun B hB => hm.frame B hB fun ⟨_, _, h, _⟩ => by simp [Vk] at h
 obtain ⟨qs, hqs⟩ := qpL hl hg hts hA
 refine ⟨_, he, ds, [], _, [], qs, [], hW', ?_, ?_, ?_, ⟨hm.gr.os, hm.gr.out, fun i hi => ?_⟩, fun h => by cases h⟩
 ·rw [qY, hspec ds hlen, hrt]
  exact trodAll_mk1 (RowKit.shut_bool hu _)
 ·rw [qY, hspec ds hlen]
  exact hqs
 ·rw [qY, hspec ds hlen, hvars]
  rfl
 ·rw [hg i hi]
  split <;> simp_all
end
end Go.AM
namespace Go.AM
open Go
theorem qo {i : Int} (h0 : -9223372036854775808 ≤ i) (h1 : i < 9223372036854775808) : qa .i64 i = i := by
 simp [IntKind.wrap, IntKind.bits, IntKind.signed]
 omega
theorem qF (i : Nat) (h : i < 4611686018427387904) : qa .i64 ((i : Int) + 1) = ((i + 1 : Nat) : Int) := by
 rw [qo (by omega) (by omega)]; omega
theorem qq {α : Type} (l : List α) (i : Nat) (d : α) (h : i < l.length) : l.drop i = l.getD i d :: l.drop (i + 1) := by
 rw [List.drop_eq_getElem_cons h, List.getD_eq_getElem?_getD, List.getElem?_eq_getElem h]; rfl
theorem zh {α : Type} (l : List α) (i : Nat) (h : l.length ≤ i) : l.drop i = [] := qh h
theorem Vj {a b : Int} (h : ¬ a = b) : (a == b) = false := beq_eq_false_iff_ne.2 h
theorem qqD (l : List (Int × Bool)) (a b : Int) (v : Bool) : wd (.int .i64) (β := Bool) b (vw (.int .i64) (β := Bool) a v l) = if b = a then some v else wd (.int .i64) (β := Bool) b l := by
 induction l with
 | nil => by_cases h : b = a <;> simp [vw, wd, VB, h, Vj]
 | cons p r ih =>
  by_cases h : a = p.1
  ·subst h
   by_cases h2 : b = p.1 <;> simp [vw, wd, VB, h2, Vj]
  ·by_cases h2 : b = p.1
   ·have h4 : ¬ b = a := fun e => h (e ▸ h2)
    have h3 : ¬ p.1 = a := fun e => h e.symm
    simp [vw, wd, VB, h, h2, h3, Vj]
   ·simp [vw, wd, VB, h, h2, Vj]
    simpa [wd, VB] using ih
end Go.AM
namespace Go.AM
open Go
section
variable {P : Program}
end
end Go.AM
namespace Go.AM
open Go
variable {H : Type} {qr : TypeId × Value → H}
end Go.AM
namespace Go.AM
open Go Go.Proofs Go.RowKit
variable {P : Program}
end Go.AM
namespace Go.AM
open Go
abbrev Ke : Type := Nat × (List AV → Option (List Bool)) × (List AV → List Blk → Option Alt)
def kM (g : Nat) (xs : List AV) : List Ke → Option (List Bool)
 | [] => none
 | e :: r => bif qC e.1 g then (match e.2.1 xs with | some m => some m | none => kM g xs r) else kM g xs r
def kR (g : Nat) (xs : List AV) (bs : List Blk) : List Ke → Option Alt
 | [] => none
 | e :: r => bif qC e.1 g then (match e.2.2 xs bs with | some m => some m | none => kR g xs bs r) else kR g xs bs r
def qD (l : List Ke) : Calld := ⟨fun g xs => kM g xs l, fun g xs bs => kR g xs bs l⟩
theorem qJ {α : Type} {o : Option α} {d : α} {Φ : α → Prop} (h : o.isSome = true) (H : ∀ r, o = some r → Φ r) : Φ (o.getD d) := by
 cases o with
 | none => cases h
 | some r => exact H r rfl
def lft {α β : Type} (d : α) : α ⊕ β → α
 | .inl a => a
 | .inr _ => d
def rgt {α β : Type} (d : β) : α ⊕ β → β
 | .inr a => a
 | .inl _ => d
theorem qFx {α β : Type} {o : α ⊕ β} {d : α} {Φ : α ⊕ β → Prop} (h : Φ o) (hb : o.isLeft = true) : Φ (.inl (lft d o)) := by
 cases o with
 | inl a => exact h
 | inr a => cases hb
theorem qF5 {α β : Type} {o : α ⊕ β} {d : β} {Φ : α ⊕ β → Prop} (h : Φ o) (hb : o.isLeft = false) : Φ (.inr (rgt d o)) := by
 cases o with
 | inr a => exact h
 | inl a => cases hb
section
variable {P : Program} [GT P] {fn : Wy} {m : Nat} {res : AV} {bout : List (Nat × Blk)} {R : Type} {r : R}
theorem gT {c : Bool} {x y : Option R} {t f : Tree} (h : (bif c then x else y) = some r) (ht : c = true → x = some r → t.gives P fn m res bout) (hf : c = false → y = some r → f.gives P fn m res bout) : (Tree.test c t f).gives P fn m res bout := by
 cases c
 ·exact ⟨fun c => (nomatch c), fun c => hf c h⟩
 ·exact ⟨fun c => ht c h, fun c => (nomatch c)⟩
theorem gU1 {x : Option R} {t : Tree} (h : x = some r) (f : Tree) (ht : x = some r → t.gives P fn m res bout) : (Tree.test true t f).gives P fn m res bout := ⟨fun _ => ht h, fun c => (nomatch c)⟩
theorem gU2 {x : Option R} {f : Tree} (h : x = some r) (t : Tree) (ht : x = some r → f.gives P fn m res bout) : (Tree.test false t f).gives P fn m res bout := ⟨fun c => (nomatch c), fun _ => ht h⟩
theorem gN {q : Prop} {d : Decidable q} {x : Option R} {ps : List Prop} {t : Tree} (h : (if q then x else none) = some r) (hq : q → zk ps) (ht : x = some r → t.gives P fn m res bout) : (Tree.need ps t).gives P fn m res bout := by
 split at h
 ·rename_i c; exact ⟨hq c, ht h⟩
 ·cases h
theorem qu {q p : Prop} {d : Decidable q} {x : Option R} {t : Tree} (h : (if q then x else none) = some r) (hq : q → p) (ht : x = some r → t.gives P fn m res bout) : (Tree.need [p] t).gives P fn m res bout := gN h (fun c => qf (hq c) qR) ht
theorem qS {p q : Prop} {d : Decidable (p ∧ q)} {x : Option R} {t : Tree} (h : (if p ∧ q then x else none) = some r) (ht : x = some r → t.gives P fn m res bout) : (Tree.need [p, q] t).gives P fn m res bout := gN h (fun c => qf c.1 (qf c.2 qR)) ht
theorem gZ (h : (none : Option R) = some r) (t : Tree) : t.gives P fn m res bout := by cases h
theorem gC {o : Option R} {todo : List Item} {st : St} (h : o = some r) (key : Nat) (H : o = some r → Ev P fn m todo st res bout) : (Tree.cut key todo st).gives P fn m res bout := H h
theorem gL {s : R → AV} {b : R → List (Nat × Blk)} {x : R} (h : some x = some r) : (Tree.leaf (s x) (b x)).gives P fn m (s r) (b r) := by cases h; exact ⟨rfl, rfl⟩
end
end Go.AM
