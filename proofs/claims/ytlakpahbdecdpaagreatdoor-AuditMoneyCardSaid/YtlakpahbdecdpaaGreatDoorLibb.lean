/- An abstract machine for loaded code and its soundness. -/
import Derived.Test.YtlakpahbdecdpaaGreatDoorLiba
import Derived.OrdersIn
import Derived.RangeFuncRecord
import Derived.OpenShut
import Derived.SizedLaws
import Derived.WideKeyArgs
import Derived.JoinedOf
import Derived.ProofKit
import Derived.Lib.LaidTab
import Derived.Sort.Grow
import Derived.Deep.Draws
import Derived.HandedShaped
import Derived.Shelf.Vars
import Derived.Below
set_option linter.unusedVariables false
set_option linter.unusedSimpArgs false
set_option linter.unusedSectionVars false
open Bool renaming and_eq_true → qh, false_eq_true → qE, false_or → vH, not_true → ve, or_eq_false_iff → v6, or_eq_true → qGc
open List renaming all_eq_true → vB, append_nil → zH, cons_append → qne, drop → Wm, drop_of_length_le → qo, drop_zero → wv, length → qb, length_cons → wB, mem_append → zX, mem_cons → qK, take → qS3, take_append_drop → qlu, take_of_length_le → zj
open Nat renaming add_mul → W9, add_zero → qS4, beq → qy, ble → qtH, eq_of_beq_eq_true → qk, le_of_ble_eq_true → wj, le_refl → qR, zero_add → wX, zero_le → Q9
open Option renaming getD_some → qMF
open Go.IntKind renaming wrap → qa
namespace Go.AM
open Go
section
variable {w w2 : World} {ok ok2 : Nat → Prop} {env env2 : Env}
def qgK (w : World) (ok : Nat → Prop) (env : Env) (w2 : World) (ok2 : Nat → Prop) (env2 : Env) (g : AV → AV) : Prop :=
 (∀ u n v, Rep w ok env u (.own n v) → Rep w2 ok2 env2 u (g (.own n v))) ∧ (∀ u n v o, Rep w ok env u (.ptr n v o) → Rep w2 ok2 env2 u (g (.ptr n v o))) ∧
 (∀ u n v s i o, Rep w ok env u (.elt n v s i o) → Rep w2 ok2 env2 u (g (.elt n v s i o))) ∧ (∀ u n v s lo k, Rep w ok env u (.sub n v s lo k) → Rep w2 ok2 env2 u (g (.sub n v s lo k)))
def qe0 (w : World) (ok : Nat → Prop) (w2 : World) (ok2 : Nat → Prop) : Prop := ∀ u x, RepR w ok u x → RepR w2 ok2 u x
theorem qo6 {u : Value} {x : RV} (h : RepR w ok u x) (hf : ∀ τ, ∀ l : List τ.T, x ≠ .ro τ l) : RepR w2 ok2 u x := by
 cases h with
 | undef => exact .undef _
 | v => exact .v _
 | nil => exact absurd rfl (hf _ _)
 | ro => exact absurd rfl (hf _ _)
theorem vh {g : AV → AV} (hg : qgK w ok env w2 ok2 env2 g) {u : Value} {x : AV} (hro : qe0 w ok w2 ok2 ∨ Wa x = true) (h : Rep w ok env u x) : Rep w2 ok2 env2 u (tr0 g x) := by
 cases x with
 | r x =>
  cases h with
  | r h =>
   refine .r ?_
   rcases hro with hro | hro
   ·exact hro _ _ h
   ·exact qo6 h fun τ l e => by subst e; simp [Wa] at hro
 | own n v => exact hg.1 _ _ _ h
 | ptr n v o => exact hg.2.1 _ _ _ _ h
 | elt n v s i o => exact hg.2.2.1 _ _ _ _ _ _ h
 | sub n v s lo k => exact hg.2.2.2 _ _ _ _ _ _ h
 | rel τ l i o =>
  rcases hro with hro | hro
  ·cases h with
   | rel _ _ _ _ B b cap hi h => exact .rel τ l i o B b cap hi (hro _ _ h)
  ·simp [Wa] at hro
 | _ => exact .undef _
theorem QM (g : AV → AV) : ∀ l, (trL g l).length = l.length
 | [] => rfl
 | _ :: l => by simp [trL, QM g l]
theorem WE {f : AV → AV} {us : List Value} : ∀ {l : List AV}, All2 (Rep w ok env) us l → (∀ u x, x ∈ l → Rep w ok env u x → Rep w2 ok2 env2 u (f x)) → All2 (Rep w2 ok2 env2) us (trL f l) := by
 intro l h
 induction h with
 | nil => intro _; exact .nil
 | cons h _ ih => intro hf; exact .cons (hf _ _ (by simp) h) (ih fun u x hx => hf u x (by simp [hx]))
theorem qLU {g : AV → AV} (hg : qgK w ok env w2 ok2 env2 g) {u : Value} {x : AV} (hro : qe0 w ok w2 ok2 ∨ Wa x = true) (h : Rep w ok env u x) : Rep w2 ok2 env2 u (trF g x) := by
 cases x with
 | fn f a c =>
  rcases hro with hro | hro
  ·cases h with
   | fn _ vf vc _ _ hf hc h1 h2 =>
    have a1 : All2 (Rep w ok env) vf.toList a := All2.of_get Go.undef .undef (by simpa using hf) fun i hi => by simpa using h1 i hi
    have a2 : All2 (Rep w ok env) vc.toList c := All2.of_get Go.undef .undef (by simpa using hc) fun i hi => by simpa using h2 i hi
    have b1 := WE (f := tr0 g) a1 fun u x hx hr => vh hg (.inl hro) hr
    have b2 := WE (f := tr0 g) a2 fun u x hx hr => vh hg (.inl hro) hr
    exact .fn f vf vc _ _ (by simpa [QM] using hf) (by simpa [QM] using hc) (fun i hi => by simpa using b1.get Go.undef .undef i hi) fun i hi => by simpa using b2.get Go.undef .undef i hi
  ·simp [Wa] at hro
 | undef => exact .undef _
 | agg l => exact .undef _
 | r x => exact vh (x := .r x) hg hro h
 | own n v => exact vh (x := .own n v) hg hro h
 | ptr n v o => exact vh (x := .ptr n v o) hg hro h
 | elt n v s i o => exact vh (x := .elt n v s i o) hg hro h
 | sub n v s lo k => exact vh (x := .sub n v s lo k) hg hro h
 | rel τ l i o => exact vh (x := .rel τ l i o) hg hro h
 | tup l => exact .undef _
 | gd s b x => exact .undef _
theorem vv {g : AV → AV} (hg : qgK w ok env w2 ok2 env2 g) {u : Value} {x : AV} (hro : qe0 w ok w2 ok2 ∨ Y9 x = true) (h : Rep w ok env u x) : Rep w2 ok2 env2 u (tr1 g x) := by
 cases x with
 | agg l =>
  obtain ⟨vs, rfl, hv⟩ := zM h
  have := WE (f := trF g) hv fun u x hx hr => qLU hg (hro.imp id fun hf => by
   simp only [Y9] at hf
   exact vB.1 hf x hx) hr
  simpa [tr1] using Wg this
 | fn f a c =>
  rcases hro with hro | hro
  ·cases h with
   | fn _ vf vc _ _ hf hc h1 h2 =>
    have a1 : All2 (Rep w ok env) vf.toList a := All2.of_get Go.undef .undef (by simpa using hf) fun i hi => by simpa using h1 i hi
    have a2 : All2 (Rep w ok env) vc.toList c := All2.of_get Go.undef .undef (by simpa using hc) fun i hi => by simpa using h2 i hi
    have b1 := WE (f := tr0 g) a1 fun u x hx hr => vh hg (.inl hro) hr
    have b2 := WE (f := tr0 g) a2 fun u x hx hr => vh hg (.inl hro) hr
    exact .fn f vf vc _ _ (by simpa [QM] using hf) (by simpa [QM] using hc) (fun i hi => by simpa using b1.get Go.undef .undef i hi) fun i hi => by simpa using b2.get Go.undef .undef i hi
  ·simp [Y9, Wa] at hro
 | undef => exact .undef _
 | r x => exact vh (x := .r x) hg hro h
 | own n v => exact vh (x := .own n v) hg hro h
 | ptr n v o => exact vh (x := .ptr n v o) hg hro h
 | elt n v s i o => exact vh (x := .elt n v s i o) hg hro h
 | sub n v s lo k => exact vh (x := .sub n v s lo k) hg hro h
 | rel τ l i o => exact vh (x := .rel τ l i o) hg hro h
 | tup l => exact .undef _
 | gd s b x => exact .undef _
theorem qwI {g : AV → AV} (hg : qgK w ok env w2 ok2 env2 g) {u : Value} {x : AV} (hro : qe0 w ok w2 ok2 ∨ qeq x = true) (h : Rep w ok env u x) : Rep w2 ok2 env2 u (tr2 g x) := by
 cases x with
 | tup l =>
  obtain ⟨vs, rfl, hv⟩ := qj6 h
  have := WE (f := tr1 g) hv fun u x hx hr => vv hg (hro.imp id fun hf => by
   simp only [qeq] at hf
   exact vB.1 hf x hx) hr
  simpa [tr2] using qol this
 | undef => exact vv (x := .undef) hg hro h
 | r x => exact vv (x := .r x) hg hro h
 | agg l => exact vv (x := .agg l) hg hro h
 | own n v => exact vv (x := .own n v) hg hro h
 | ptr n v o => exact vv (x := .ptr n v o) hg hro h
 | elt n v s i o => exact vv (x := .elt n v s i o) hg hro h
 | sub n v s lo k => exact vv (x := .sub n v s lo k) hg hro h
 | rel τ l i o => exact vv (x := .rel τ l i o) hg hro h
 | fn f a c => exact vv (x := .fn f a c) hg hro h
 | gd s b x => exact vv (x := .gd s b x) hg hro h
theorem qpQ : ∀ (τ : RTy) (x : τ.T), τ.flat = true → ∀ y ∈ qr τ x, ∀ a, ∀ l : List a.T, y ≠ .ro a l := by
 intro τ x hf y hy a l e
 rw [ZJ τ x hf] at hy
 obtain ⟨v, _, rfl⟩ := List.mem_map.1 hy
 simp at e
theorem qdR (τ : RTy) (hf : τ.flat = true) : ∀ (l : List τ.T), ∀ y ∈ wD τ l, ∀ a, ∀ m : List a.T, y ≠ .ro a m
 | [], y, hy => by simp [wD] at hy
 | x :: l, y, hy => by
  rcases zX.1 hy with hy | hy
  ·exact qpQ τ x hf y hy
  ·exact qdR τ hf l y hy
theorem qoO {g : AV → AV} (hg : qgK w ok env w2 ok2 env2 g) {u : Value} {b : Blk} (hro : qe0 w ok w2 ok2 ∨ qfB b = true) (hB : ∀ B, wx u = some B → w2.heap[B]? = w.heap[B]?) (h : RepB w ok env u b) : RepB w2 ok2 env2 u (trB g b) := by
 cases h with
 | var B t vs cs hb hs h =>
  have a1 : All2 (Rep w ok env) vs.toList cs := All2.of_get Go.undef .undef (by simpa using hs) fun i hi => by simpa using h i hi
  have b1 := WE (f := tr1 g) a1 fun u x hx hr => vv hg (hro.imp id fun hf => by
   simp only [qfB] at hf
   have := vB.1 hf x hx
   cases x <;> simp_all [Y9, Wa]) hr
  exact .var B t vs _ (by rw [hB B rfl]; exact hb) (by simpa [QM] using hs) fun i hi => by simpa using b1.get Go.undef .undef i hi
 | varS B t vs cs hb h0 hm hs h =>
  have a1 : All2 (Rep w ok env) vs.toList cs := All2.of_get Go.undef .undef (by simpa using hs) fun i hi => by simpa using h i hi
  have b1 := WE (f := tr1 g) a1 fun u x hx hr => vv hg (hro.imp id fun hf => by
   simp only [qfB] at hf
   have := vB.1 hf x hx
   cases x <;> simp_all [Y9, Wa]) hr
  exact .varS B t vs _ (by rw [hB B (zT h0)]; exact hb) h0 hm (by simpa [QM] using hs) fun i hi => by simpa using b1.get Go.undef .undef i hi
 | rowNil t τ a => exact .rowNil t τ a
 | gone => exact .gone
 | row B t τ l cap vs hb hcap hc0 hm hs h =>
  refine .row B t τ l cap vs (by rw [hB B (zT hc0)]; exact hb) hcap hc0 hm hs fun k hk => ?_
  rcases hro with hro | hro
  ·exact hro _ _ (h k hk)
  ·refine qo6 (h k hk) fun a m e => ?_
   have hlt : k < (wD τ l).length := by rw [wF]; exact hk
   have hmem : (wD τ l).getD k .undef ∈ wD τ l := by simp [hlt]
   exact qdR τ (by simpa [qfB] using hro) l _ hmem a m e
 | map r ag κ τ l es clock hb hs hk => exact .map r ag κ τ l es clock (by rw [hB r rfl]; exact hb) hs hk
 | loop l r rc sl hb hp ha hc hs h =>
  have a1 : All2 (Rep w ok env) r.tmps.toList sl := All2.of_get Go.undef .undef (by simpa using hs) fun i hi => by simpa using h i hi
  have b1 := WE (f := tr1 g) a1 fun u x hx hr => vv hg (hro.imp id fun hf => by
   simp only [qfB] at hf
   have := vB.1 hf x hx
   cases x <;> simp_all [Y9, Wa]) hr
  exact .loop l r rc _ (by rw [hB l rfl]; exact hb) hp ha hc (by simpa [QM] using hs) fun i hi => by simpa using b1.get Go.undef .undef i hi
end
theorem ww {n : Nat} : ∀ {l : List Nat}, wo n l = true ↔ n ∈ l
 | [] => by simp [wo]
 | m :: l => by
  by_cases h : m = n
  ·subst h; simp [wo]
  ·simp [wo, Vb h, ww (l := l), Ne.symm h]
theorem qpb {n : Nat} : ∀ {l : List Nat} {j : Nat}, qdu n l = some j → l[j]? = some n
 | [], j, h => by simp [qdu] at h
 | m :: l, j, h => by
  by_cases hm : m = n
  ·subst hm; simp [qdu] at h; subst h; rfl
  ·simp only [qdu, Vb hm, qg] at h
   split at h
   ·rename_i k hk
    simp at h; subst h
    simpa using qpb hk
   ·simp at h
theorem qfO : ∀ {l : List Nat}, wZ l = true → ∀ {i j n : Nat}, l[i]? = some n → l[j]? = some n → i = j
 | [], _, i, j, n, h, _ => by simp at h
 | m :: l, hd, i, j, n, hi, hj => by
  simp only [wZ, qh, Bool.not_eq_true'] at hd
  have hnm : m ∉ l := fun h => by have := ww.2 h; rw [this] at hd; simp at hd
  cases i with
  | zero =>
   cases j with
   | zero => rfl
   | succ j => simp at hi hj; subst hi; exact absurd (List.mem_of_getElem? hj) hnm
  | succ i =>
   cases j with
   | zero => simp at hi hj; subst hj; exact absurd (List.mem_of_getElem? hi) hnm
   | succ j => simp at hi hj; rw [qfO hd.2 hi hj]
theorem qbV {d : Nat} {ρ : List Nat} : ∀ {k : Nat}, VT d ρ k = true → ∀ j, j < k → wi d j ∉ ρ
 | 0, _, j, h => by omega
 | k + 1, hf, j, h => by
  simp only [VT, qh, Bool.not_eq_true'] at hf
  by_cases hj : j = k
  ·subst hj; exact fun h => by have := ww.2 h; rw [this] at hf; simp at hf
  ·exact qbV hf.2 j (by omega)
theorem QG : ∀ (bs : List (Nat × Blk)) (k j : Nat), qS (z6 k bs) j = if k ≤ j then bs[j - k]? else none
 | [], k, j => by simp [z6, qS]
 | (v, b) :: bs, k, j => by
  simp only [z6, qS]
  by_cases h : k = j
  ·subst h; simp
  ·rw [Vb h, qg, QG bs (k + 1) j]
   by_cases h2 : k ≤ j
   ·have : k + 1 ≤ j := by omega
    have e : j - k = (j - (k + 1)) + 1 := by omega
    simp [h2, this, e]
   ·have : ¬ k + 1 ≤ j := by omega
    simp [h2, this]
theorem qao : ∀ (bs : List Blk) (j : Nat), (Z3 bs)[j]? = (bs[j]?).map fun b => (0, b)
 | [], j => by simp [Z3]
 | b :: bs, 0 => by simp [Z3]
 | b :: bs, j + 1 => by simp [Z3, qao bs j]
theorem qcm {bl : qL} {ρ0 : List Nat} : ∀ {ρ : List Nat} {bin : List Blk}, qaG bl ρ0 ρ = some bin → bin.length = ρ.length ∧ ∀ (j n : Nat), ρ[j]? = some n → ∃ v b, qS bl n = some (v, b) ∧ bin[j]? = some (trB (gIn bl ρ0) b)
 | [], bin, h => by simp [qaG] at h; subst h; exact ⟨rfl, fun j n h => by simp at h⟩
 | n :: ρ, bin, h => by
  simp only [qaG] at h
  split at h
  ·rename_i v b hb
   split at h
   ·rename_i l hl
    simp at h; subst h
    obtain ⟨h1, h2⟩ := qcm hl
    refine ⟨by simp [h1], fun j m hj => ?_⟩
    cases j with
    | zero => simp at hj; subst hj; exact ⟨v, b, hb, rfl⟩
    | succ j => simpa using h2 j m (by simpa using hj)
   ·simp at h
  ·simp at h
end Go.AM
namespace Go.AM
open Go
section
variable {P : Program} {R : wT} {cx : Cx} {bl : qL} {w : World} {env : Env}
def zI (env : Env) (ρ : List Nat) : Env := fun j => match ρ[j]? with
 | some n => match env n with
  | some (_, h) => some (0, h)
  | none => none
 | none => none
def zs (cx : Cx) (env : Env) (w : World) (ρ : List Nat) (sn : Prop) : Cx :=
 {okb := fun B => B < w.heap.size ∧ (qn cx env w B ∨ (sn ∧ ∃ n v h, env n = some (v, h) ∧ wx h = some B ∧ n ∉ ρ)), w0 := w, ent := fun j => (zI env ρ j).map (·.2) }
theorem ZR {ρ : List Nat} {j v : Nat} {h : Value} (e : zI env ρ j = some (v, h)) : v = 0 ∧ ∃ n c, ρ[j]? = some n ∧ env n = some (c, h) := by
 unfold zI at e
 split at e
 ·rename_i n hn
  split at e
  ·rename_i c h' he
   simp at e; obtain ⟨rfl, rfl⟩ := e
   exact ⟨rfl, n, c, hn, he⟩
  ·simp at e
 ·simp at e
theorem Zg {ρ : List Nat} {j n c : Nat} {h : Value} (hj : ρ[j]? = some n) (he : env n = some (c, h)) : zI env ρ j = some (0, h) := by simp [zI, hj, he]
theorem Qa {ρ : List Nat} {sn : Prop} {j : Nat} {h : Value} (e : (zs cx env w ρ sn).ent j = some h) : ∃ n c, ρ[j]? = some n ∧ env n = some (c, h) := by
 simp only [zs] at e
 cases hi : zI env ρ j with
 | none => simp [hi] at e
 | some x =>
  obtain ⟨v, h'⟩ := x
  simp [hi] at e; subst e
  exact (ZR hi).2
theorem qQf {ρ : List Nat} {sn : Prop} {B : Nat} (h : qn cx env w B) : qn (zs cx env w ρ sn) (zI env ρ) w B := by
 refine ⟨.inl ⟨h.2.1, .inl h⟩, h.2.1, fun j v x e => ?_⟩
 obtain ⟨_, n, c, _, he⟩ := ZR e
 exact h.2.2 _ _ _ he
theorem qCO (hm : Mem cx bl w env) {ρ : List Nat} {sn : Prop} (hs : sn) {n v B : Nat} {h : Value} (e : env n = some (v, h)) (q : wx h = some B) (hn : n ∉ ρ) : qn (zs cx env w ρ sn) (zI env ρ) w B := by
 have hlt := hm.lt e q
 refine ⟨.inl ⟨hlt, .inr ⟨hs, n, v, h, e, q, hn⟩⟩, hlt, fun j v' x e' q' => ?_⟩
 obtain ⟨_, n', c, hj, he⟩ := ZR e'
 have := hm.inj _ _ _ _ _ _ _ he e q' q
 subst this
 exact hn (List.mem_of_getElem? hj)
theorem qmS (hm : Mem cx bl w env) {ρ : List Nat} {n v j : Nat} {b : Blk} {Q : Value → Prop} (hc : wP bl n v = some b) (hi : qdu n ρ = some j) (h : Ref env n v Q) : Ref (zI env ρ) j 0 Q := by
 obtain ⟨x, hx, _⟩ := hm.blk _ _ _ (qZ hc)
 exact ⟨0, x, Zg (qpb hi) hx, qR _, fun _ => wu h hx⟩
theorem qv0 (hm : Mem cx bl w env) (ρ : List Nat) (sn : Prop) : qgK w (qn cx env w) env w (qn (zs cx env w ρ sn) (zI env ρ) w) (zI env ρ) (gIn bl ρ) := by
 refine ⟨fun u n v h => ?_, fun u n v o h => ?_, fun u n v s i o h => ?_, fun u n v s lo k h => ?_⟩ <;> simp only [gIn] <;> split <;> first
  | exact .undef _
  | (rename_i b j hc hi
     cases h with
     | own h => exact .own (qmS hm hc hi h))
  | (rename_i b j hc hi
     cases h with
     | ptr h => exact .ptr (qmS hm hc hi h))
  | (rename_i b j hc hi
     cases h with
     | elt h => exact .elt (qmS hm hc hi h))
  | (rename_i b j hc hi
     cases h with
     | sub h => exact .sub (qmS hm hc hi h))
theorem qIs (ρ : List Nat) (sn : Prop) : qe0 w (qn cx env w) w (qn (zs cx env w ρ sn) (zI env ρ) w) := fun _ _ h => h.mono (fun _ h => qQf h) fun _ _ _ => rfl
theorem qIw (hm : Mem cx bl w env) (ρ : List Nat) (sn : Prop) : (zs cx env w ρ sn).Wf := by
 refine ⟨fun B h => h.1, fun B h hr => ?_⟩
 obtain ⟨j, x, e, q⟩ := hr
 obtain ⟨n, c, hj, he⟩ := Qa e
 rcases h.2 with h | ⟨_, n', v, h', e', q', hn⟩
 ·exact h.2.2 _ _ _ he q
 ·have := hm.inj _ _ _ _ _ _ _ he e' q q'
  subst this
  exact hn (List.mem_of_getElem? hj)
theorem qCJ (hm : Mem cx bl w env) {ρ : List Nat} (hd : wZ ρ = true) (h99 : ρ.length ≤ 99) {bin : List Blk} (hb : qaG bl ρ ρ = some bin) (sn : Prop) : Mem (zs cx env w ρ sn) (z6 0 (Z3 bin)) w (zI env ρ) := by
 obtain ⟨hl, hg⟩ := qcm hb
 constructor
 ·intro j v b e
  rw [QG, qc (Q9 _), Nat.sub_zero, qao] at e
  cases hbj : bin[j]? with
  | none => simp [hbj] at e
  | some b' =>
   simp [hbj] at e; obtain ⟨rfl, rfl⟩ := e
   have hj : j < ρ.length := by rw [← hl]; exact (List.getElem?_eq_some_iff.1 hbj).1
   obtain ⟨c, b0, hc, hb0⟩ := hg j ρ[j] (List.getElem?_eq_getElem hj)
   rw [hbj] at hb0
   simp at hb0; subst hb0
   obtain ⟨x, hx, hr⟩ := hm.blk _ _ _ hc
   exact ⟨x, Zg (List.getElem?_eq_getElem hj) hx, qoO (qv0 hm ρ sn) (.inl (qIs ρ sn)) (fun _ _ => rfl) hr⟩
 ·intro j e _
  rw [QG, qc (Q9 _), Nat.sub_zero, qao] at e
  have : ρ[j]? = none := by
   rw [List.getElem?_eq_none_iff, ← hl, ← List.getElem?_eq_none_iff]
   simpa using e
  simp [zI, this]
 ·intro j h
  exact absurd h (by simp [zs])
 ·intro j j' v v' h h' B e e' q q'
  obtain ⟨_, n, c, hj, he⟩ := ZR e
  obtain ⟨_, n', c', hj', he'⟩ := ZR e'
  have := hm.inj _ _ _ _ _ _ _ he he' q q'
  subst this
  exact qfO hd hj hj'
 ·intro j v h B e q
  obtain ⟨_, n, c, hj, he⟩ := ZR e
  exact ⟨.inr ⟨h, by simp [zs, e], q⟩, hm.lt he q⟩
 ·exact Grew.refl _
 ·intro B _ _; rfl
 ·intro j h h0 e e0
  simp [zs, e] at e0
  exact e0
 ·intro j h0 e0
  obtain ⟨n, c, hj, he⟩ := Qa e0
  exact ⟨by have := (List.getElem?_eq_some_iff.1 hj).1; omega, 0, h0, Zg hj he⟩
def wq (d : Nat) (ρ : List Nat) (j : Nat) : Nat := match ρ[j]? with
 | some n => n
 | none => wi d (j - ρ.length)
theorem YF (bl : qL) (d : Nat) (ρ : List Nat) (j v : Nat) : (wN bl d ρ j v).1 = wq d ρ j := by
 unfold wN wq
 split <;> simp_all
theorem qmI {d : Nat} {ρ : List Nat} {N : Nat} (hd : wZ ρ = true) (hf : VT d ρ (N - ρ.length) = true) {i j : Nat} (hi : i < N) (hj : j < N) (e : wq d ρ i = wq d ρ j) : i = j := by
 unfold wq at e
 split at e
 ·rename_i n hn
  split at e
  ·rename_i n' hn'
   subst e
   exact qfO hd hn hn'
  ·rename_i hn'
   have : ρ.length ≤ j := by simpa using hn'
   exact absurd (List.mem_of_getElem? hn) (e ▸ qbV hf (j - ρ.length) (by omega))
 ·rename_i hn
  have hi' : ρ.length ≤ i := by simpa using hn
  split at e
  ·rename_i n' hn'
   exact absurd (List.mem_of_getElem? hn') (e ▸ qbV hf (i - ρ.length) (by omega))
  ·rename_i hn'
   have : ρ.length ≤ j := by simpa using hn'
   unfold wi at e
   omega
open Classical in
noncomputable def vW (env env' : Env) (bl : qL) (d : Nat) (ρ : List Nat) (N : Nat) : Env := fun nm =>
 if h : ∃ j, j < N ∧ wq d ρ j = nm then (match env' (Classical.choose h) with
  | some (v, x) => some ((wN bl d ρ (Classical.choose h) v).2, x)
  | none => none)
 else env nm
theorem qcr {env' : Env} {d : Nat} {ρ : List Nat} {N : Nat} (hd : wZ ρ = true) (hf : VT d ρ (N - ρ.length) = true) {j : Nat} (hj : j < N) :
  vW env env' bl d ρ N (wq d ρ j) = (match env' j with
   | some (v, x) => some ((wN bl d ρ j v).2, x)
   | none => none) := by
 have h : ∃ i, i < N ∧ wq d ρ i = wq d ρ j := ⟨j, hj, rfl⟩
 have e : Classical.choose h = j := qmI hd hf (Classical.choose_spec h).1 hj (Classical.choose_spec h).2
 unfold vW
 rw [dif_pos h, e]
theorem Xd {env' : Env} {d : Nat} {ρ : List Nat} {N nm : Nat} (h : ∀ j, j < N → wq d ρ j ≠ nm) : vW env env' bl d ρ N nm = env nm := by
 unfold vW
 rw [dif_neg (fun ⟨j, a, b⟩ => h j a b)]
theorem ZX : ∀ (wr : List (Nat × Nat × Blk)) (bl : qL) (nm : Nat), (∀ x ∈ wr, x.1 ≠ nm) → qS (we bl wr) nm = qS bl nm
 | [], bl, nm, _ => rfl
 | (n, v, b) :: wr, bl, nm, h => by
  simp only [we]
  rw [ZX wr _ nm fun x hx => h x (by simp [hx]), Qc, qi (Ne.symm (h (n, v, b) (by simp)))]
theorem qgj : ∀ (wr : List (Nat × Nat × Blk)) (bl : qL) (i : Nat) (x : Nat × Nat × Blk), wr[i]? = some x → (∀ j y, wr[j]? = some y → y.1 = x.1 → j = i) → qS (we bl wr) x.1 = some (x.2.1, x.2.2)
 | [], bl, i, x, h, _ => by simp at h
 | (n, v, b) :: wr, bl, 0, x, h, hu => by
  simp at h; subst h
  simp only [we]
  rw [ZX wr _ n fun y hy e => ?_, qnN]
  obtain ⟨k, hk⟩ := List.mem_iff_getElem?.1 hy
  have := hu (k + 1) y (by simpa using hk) e
  omega
 | (n, v, b) :: wr, bl, i + 1, x, h, hu => by
  simp only [we]
  exact qgj wr _ i x (by simpa using h) fun j y hy e => by
   have := hu (j + 1) y (by simpa using hy) e
   omega
theorem qdc {d : Nat} {ρ : List Nat} {bout : List (Nat × Blk)} : ∀ (bs : List (Nat × Blk)) (k j : Nat), (XS bl d ρ bout bs k)[j]? = (bs[j]?).map fun p => ((wN bl d ρ (k + j) p.1).1, (wN bl d ρ (k + j) p.1).2, trB (qhu bl d ρ bout) p.2)
 | [], k, j => by simp [XS]
 | (v, b) :: bs, k, 0 => by simp [XS]
 | (v, b) :: bs, k, j + 1 => by
  simp only [XS, List.getElem?_cons_succ]
  rw [qdc bs (k + 1) j, show k + 1 + j = k + (j + 1) by omega]
theorem qpt (hm : Mem cx bl w env) {ρ : List Nat} {d : Nat} {bout : List (Nat × Blk)} {sn : Prop} {w' : World} {env' : Env} (hd : wZ ρ = true) (hρ : ∀ (j n : Nat), ρ[j]? = some n → ∃ v b, qS bl n = some (v, b))
  (hf : VT d ρ (bout.length - ρ.length) = true) (hlen : ρ.length ≤ bout.length) (hm' : Mem (zs cx env w ρ sn) (z6 0 bout) w' env') {v : Value} {res : AV} (hv : Rep w' (qn (zs cx env w ρ sn) env' w') env' v res)
  (hsn : sn → qeq res = true ∧ ∀ x ∈ bout, qfB x.2 = true) (hnew : ∀ k, k < bout.length - ρ.length → ¬ cx.hid (wi d k)) :
  Trans cx w env (we bl (XS bl d ρ bout bout 0)) w' (vW env env' bl d ρ bout.length) ∧ Rep w' (qn cx (vW env env' bl d ρ bout.length) w') (vW env env' bl d ρ bout.length) v (tr2 (qhu bl d ρ bout) res) := by
 have hgrow : w.heap.size ≤ w'.heap.size := hm'.grow
 have cal : ∀ j v h, env' j = some (v, h) → j < bout.length ∧ ∃ b, bout[j]? = some (v, b) := fun j v h e => by
  cases hb : qS (z6 0 bout) j with
  | none => rw [hm'.dom j hb (by simp [zs])] at e; simp at e
  | some x =>
   obtain ⟨v', b⟩ := x
   obtain ⟨h', e', _⟩ := hm'.blk _ _ _ hb
   rw [e] at e'
   simp at e'
   rw [QG, qc (Q9 _), Nat.sub_zero] at hb
   rw [e'.1]
   exact ⟨(List.getElem?_eq_some_iff.1 hb).1, b, hb⟩
 have calOwn : ∀ j v h B, env' j = some (v, h) → wx h = some B → (w.heap.size ≤ B ∨ ∃ n c h0, ρ[j]? = some n ∧ env n = some (c, h0) ∧ wx h0 = some B) ∧ B < w'.heap.size := fun j v h B e q => by
  obtain ⟨h1, h2⟩ := hm'.own _ _ _ _ e q
  refine ⟨h1.imp id fun ⟨h0, e0, q0⟩ => ?_, h2⟩
  obtain ⟨n, c, hj, he⟩ := Qa e0
  exact ⟨n, c, h0, hj, he, q0⟩
 have notRef : ∀ {n c B : Nat} {h : Value}, env n = some (c, h) → wx h = some B → n ∉ ρ → ¬ (zs cx env w ρ sn).refs B := fun {n c B h} e q hn ⟨j, x, e', q'⟩ => by
  obtain ⟨n', c', hj, he⟩ := Qa e'
  have := hm.inj _ _ _ _ _ _ _ he e q' q
  subst this
  exact hn (List.mem_of_getElem? hj)
 have okNotRef : ∀ {B : Nat}, qn cx env w B → ¬ (zs cx env w ρ sn).refs B := fun {B} h ⟨j, x, e', q'⟩ => by
  obtain ⟨n', c', hj, he⟩ := Qa e'
  exact h.2.2 _ _ _ he q'
 have keepB : ∀ {B : Nat}, B < w.heap.size → ¬ (zs cx env w ρ sn).refs B → w'.heap[B]? = w.heap[B]? := fun h1 h2 => hm'.frame _ h1 h2
 have inρ : ∀ {n : Nat}, n ∈ ρ → ∃ j, j < bout.length ∧ wq d ρ j = n ∧ ρ[j]? = some n := fun {n} h => by
  obtain ⟨j, hj⟩ := List.mem_iff_getElem?.1 h
  have := (List.getElem?_eq_some_iff.1 hj).1
  exact ⟨j, by omega, by simp [wq, hj], hj⟩
 have notρ : ∀ {nm : Nat}, (∀ j, j < bout.length → wq d ρ j ≠ nm) → nm ∉ ρ := fun {nm} h hn => by
  obtain ⟨j, a, b, _⟩ := inρ hn
  exact h j a b
 have verρ : ∀ {j n c v : Nat} {h : Value}, ρ[j]? = some n → env n = some (c, h) → (wN bl d ρ j v).2 = c + v := fun {j n c v h} hj he => by
  obtain ⟨c', b, hc⟩ := hρ j n hj
  obtain ⟨x, hx, _⟩ := hm.blk _ _ _ hc
  rw [he] at hx
  simp at hx
  simp [wN, hj, hc, hx.1]
 have le : env.le (vW env env' bl d ρ bout.length) := fun nm cv h e => by
  by_cases hn : ∃ j, j < bout.length ∧ wq d ρ j = nm
  ·obtain ⟨j, hj, rfl⟩ := hn
   obtain ⟨⟨vj, bj⟩, hb⟩ : ∃ x, bout[j]? = some x := ⟨bout[j], List.getElem?_eq_getElem hj⟩
   obtain ⟨x, hx, _⟩ := hm'.blk j vj bj (by rw [QG, qc (Q9 _), Nat.sub_zero]; exact hb)
   refine ⟨(wN bl d ρ j vj).2, x, by rw [qcr hd hf hj, hx], ?_⟩
   cases hρj : ρ[j]? with
   | some n =>
    have hnn : wq d ρ j = n := by simp [wq, hρj]
    rw [hnn] at e
    rw [verρ hρj e]
    refine ⟨by omega, fun q => ?_⟩
    have : vj = 0 := by omega
    subst this
    have hent : (zs cx env w ρ sn).ent j = some h := by simp [zs, Zg hρj e]
    exact (hm'.vers _ _ _ hx hent).symm
   | none =>
    have hnn : wq d ρ j = wi d (j - ρ.length) := by simp [wq, hρj]
    rw [hnn] at e
    have hv2 : (wN bl d ρ j vj).2 = q7 bl (wi d (j - ρ.length)) := by simp [wN, hρj]
    rw [hv2]
    have hlt : cv < q7 bl (wi d (j - ρ.length)) := by
     unfold q7
     cases hg : qS bl (wi d (j - ρ.length)) with
     | none => rw [hm.dom _ hg (hnew _ (by have := List.getElem?_eq_none_iff.1 hρj; omega))] at e; simp at e
     | some y =>
      obtain ⟨c', b'⟩ := y
      obtain ⟨y, hy, _⟩ := hm.blk _ _ _ hg
      rw [e] at hy; simp at hy
      simp [hy.1]
    exact ⟨by omega, fun q => by omega⟩
  ·have hn' : ∀ j, j < bout.length → wq d ρ j ≠ nm := fun j a b => hn ⟨j, a, b⟩
   exact ⟨cv, h, by rw [Xd hn']; exact e, qR _, fun _ => rfl⟩
 have entry : ∀ {nm v : Nat} {h : Value}, vW env env' bl d ρ bout.length nm = some (v, h) → (∃ j vj, j < bout.length ∧ wq d ρ j = nm ∧ env' j = some (vj, h) ∧ v = (wN bl d ρ j vj).2) ∨ ((∀ j, j < bout.length → wq d ρ j ≠ nm) ∧ env nm = some (v, h)) := fun {nm v h} e => by
  by_cases hn : ∃ j, j < bout.length ∧ wq d ρ j = nm
  ·obtain ⟨j, hj, rfl⟩ := hn
   rw [qcr hd hf hj] at e
   split at e
   ·rename_i v' x hx
    simp at e; obtain ⟨rfl, rfl⟩ := e
    exact .inl ⟨j, v', hj, rfl, hx, rfl⟩
   ·simp at e
  ·have hn' : ∀ j, j < bout.length → wq d ρ j ≠ nm := fun j a b => hn ⟨j, a, b⟩
   rw [Xd hn'] at e
   exact .inr ⟨hn', e⟩
 have okO : ∀ B, qn cx env w B → qn cx (vW env env' bl d ρ bout.length) w' B := fun B h => by
  refine ⟨h.1, by have := h.2.1; omega, fun nm v x e q => ?_⟩
  rcases entry e with ⟨j, vj, hj, _, hx, _⟩ | ⟨_, hx⟩
  ·rcases (calOwn _ _ _ _ hx q).1 with h1 | ⟨n, c, h0, hρj, he, q0⟩
   ·have := h.2.1; omega
   ·exact h.2.2 _ _ _ he q0
  ·exact h.2.2 _ _ _ hx q
 have cellO : ∀ B, qn cx env w B → w'.heap[B]? = w.heap[B]? := fun B h => keepB h.2.1 (okNotRef h)
 have ro : ¬ sn → qe0 w' (qn (zs cx env w ρ sn) env' w') w' (qn cx (vW env env' bl d ρ bout.length) w') := fun hns u x h => h.mono (fun B hB => by
  obtain ⟨h1, h2, h3⟩ := hB
  have hc : qn cx env w B ∨ w.heap.size ≤ B := by
   rcases h1 with h1 | h1
   ·rcases h1.2 with h | ⟨hs, _⟩
    ·exact .inl h
    ·exact absurd hs hns
   ·exact .inr h1
  refine ⟨?_, h2, fun nm v x e q => ?_⟩
  ·rcases hc with h | h
   ·exact h.1
   ·exact .inr (by have := hm.grow; omega)
  ·rcases entry e with ⟨j, vj, hj, _, hx, _⟩ | ⟨hnn, hx⟩
   ·exact h3 _ _ _ hx q
   ·rcases hc with h | h
    ·exact h.2.2 _ _ _ hx q
    ·have := hm.lt hx q; omega) fun _ _ _ => rfl
 have refO : ∀ {j v : Nat} {Q : Value → Prop} {b : Blk}, bout[j]? = some (v, b) → Ref env' j v Q → Ref (vW env env' bl d ρ bout.length) (wN bl d ρ j v).1 (wN bl d ρ j v).2 Q := fun {j v Q b} hb h => by
  have hj := (List.getElem?_eq_some_iff.1 hb).1
  obtain ⟨x, hx, _⟩ := hm'.blk j v b (by rw [QG, qc (Q9 _), Nat.sub_zero]; exact hb)
  refine ⟨(wN bl d ρ j v).2, x, ?_, qR _, fun _ => wu h hx⟩
  rw [YF, qcr hd hf hj, hx]
 have leaf : qgK w' (qn (zs cx env w ρ sn) env' w') env' w' (qn cx (vW env env' bl d ρ bout.length) w') (vW env env' bl d ρ bout.length) (qhu bl d ρ bout) := by
  refine ⟨fun u n v h => ?_, fun u n v o h => ?_, fun u n v s i o h => ?_, fun u n v s lo k h => ?_⟩ <;> simp only [qhu] <;> split
  all_goals first
   | exact .undef _
   | (rename_i v' b hb
      cases hq : qy v' v <;> simp only [qg, qj]
      ·exact .undef _
      ·have := qk hq
       subst this
       cases h with
       | own h => exact .own (refO hb h))
   | (rename_i v' b hb
      cases hq : qy v' v <;> simp only [qg, qj]
      ·exact .undef _
      ·have := qk hq
       subst this
       cases h with
       | ptr h => exact .ptr (refO hb h))
   | (rename_i v' b hb
      cases hq : qy v' v <;> simp only [qg, qj]
      ·exact .undef _
      ·have := qk hq
       subst this
       cases h with
       | elt h => exact .elt (refO hb h))
   | (rename_i v' b hb
      cases hq : qy v' v <;> simp only [qg, qj]
      ·exact .undef _
      ·have := qk hq
       subst this
       cases h with
       | sub h => exact .sub (refO hb h))
 have fin : ∀ {x : AV}, (sn → qeq x = true) → qe0 w' (qn (zs cx env w ρ sn) env' w') w' (qn cx (vW env env' bl d ρ bout.length) w') ∨ qeq x = true := fun h => by
  by_cases hs : sn
  ·exact .inr (h hs)
  ·exact .inl (ro hs)
 have wrAt : ∀ j v b, bout[j]? = some (v, b) → qS (we bl (XS bl d ρ bout bout 0)) (wq d ρ j) = some ((wN bl d ρ j v).2, trB (qhu bl d ρ bout) b) := fun j v b hb => by
  have h1 := qdc (bl := bl) (d := d) (ρ := ρ) (bout := bout) bout 0 j
  rw [hb] at h1
  simp only [wX, Option.map_some] at h1
  have := qgj (XS bl d ρ bout bout 0) bl j _ h1 fun i y hy e => by
   rw [qdc] at hy
   cases hbi : bout[i]? with
   | none => simp [hbi] at hy
   | some p =>
    simp only [hbi, wX, Option.map_some, Option.some.injEq] at hy
    rw [← hy] at e
    simp only [YF] at e
    exact qmI hd hf (List.getElem?_eq_some_iff.1 hbi).1 (List.getElem?_eq_some_iff.1 hb).1 e
  simpa only [YF] using this
 have wrNot : ∀ nm, (∀ j, j < bout.length → wq d ρ j ≠ nm) → qS (we bl (XS bl d ρ bout bout 0)) nm = qS bl nm := fun nm h => ZX _ _ _ fun x hx e => by
  obtain ⟨j, hj⟩ := List.mem_iff_getElem?.1 hx
  rw [qdc] at hj
  cases hbj : bout[j]? with
  | none => simp [hbj] at hj
  | some p =>
   simp only [hbj, wX, Option.map_some, Option.some.injEq] at hj
   rw [← hj] at e
   simp only [YF] at e
   exact h j (List.getElem?_eq_some_iff.1 hbj).1 e
 have nothid : ∀ j, j < bout.length → ¬ cx.hid (wq d ρ j) := fun j hj => by
  unfold wq
  cases hρj : ρ[j]? with
  | none =>
   have : ρ.length ≤ j := List.getElem?_eq_none_iff.1 hρj
   exact hnew _ (by omega)
  | some n =>
   obtain ⟨v, b, hb⟩ := hρ j n hρj
   exact hm.see hb
 have farO : ∀ nm, cx.hid nm → vW env env' bl d ρ bout.length nm = env nm ∧ ∀ v h B, env nm = some (v, h) → wx h = some B → w'.heap[B]? = w.heap[B]? := fun nm hh => by
  have hn' : ∀ j, j < bout.length → wq d ρ j ≠ nm := fun j a b => nothid j a (b ▸ hh)
  exact ⟨Xd hn', fun v h B e q => keepB (hm.lt e q) (notRef e q (notρ hn'))⟩
 refine ⟨⟨?_, le, okO, cellO, farO⟩, qwI leaf (fin fun h => (hsn h).1) hv⟩
 constructor
 ·intro nm v b e
  by_cases hn : ∃ j, j < bout.length ∧ wq d ρ j = nm
  ·obtain ⟨j, hj, rfl⟩ := hn
   obtain ⟨⟨vj, bj⟩, hb⟩ : ∃ x, bout[j]? = some x := ⟨bout[j], List.getElem?_eq_getElem hj⟩
   rw [wrAt j vj bj hb] at e
   simp at e; obtain ⟨rfl, rfl⟩ := e
   obtain ⟨x, hx, hr⟩ := hm'.blk j vj bj (by rw [QG, qc (Q9 _), Nat.sub_zero]; exact hb)
   refine ⟨x, by rw [qcr hd hf hj, hx], qoO leaf ?_ (fun _ _ => rfl) hr⟩
   by_cases hs : sn
   ·exact .inr ((hsn hs).2 _ (List.mem_of_getElem? hb))
   ·exact .inl (ro hs)
  ·have hn' : ∀ j, j < bout.length → wq d ρ j ≠ nm := fun j a b => hn ⟨j, a, b⟩
   rw [wrNot nm hn'] at e
   obtain ⟨x, hx, hr⟩ := hm.blk _ _ _ e
   refine ⟨x, by rw [Xd hn']; exact hx, hr.mono okO (fun B o hB => zr (cellO B hB) o) le fun B q => keepB (hm.lt hx q) (notRef hx q (notρ hn'))⟩
 ·intro nm e hh
  by_cases hn : ∃ j, j < bout.length ∧ wq d ρ j = nm
  ·obtain ⟨j, hj, rfl⟩ := hn
   obtain ⟨⟨vj, bj⟩, hb⟩ : ∃ x, bout[j]? = some x := ⟨bout[j], List.getElem?_eq_getElem hj⟩
   rw [wrAt j vj bj hb] at e
   simp at e
  ·have hn' : ∀ j, j < bout.length → wq d ρ j ≠ nm := fun j a b => hn ⟨j, a, b⟩
   rw [wrNot nm hn'] at e
   rw [Xd hn']
   exact hm.dom _ e hh
 ·intro nm hh
  rw [wrNot nm fun j a b => nothid j a (b ▸ hh)]
  exact hm.vis nm hh
 ·intro nm nm' v v' h h' B e e' q q'
  rcases entry e with ⟨j, vj, hj, rfl, hx, _⟩ | ⟨hn, hx⟩ <;> rcases entry e' with ⟨j', vj', hj', rfl, hx', _⟩ | ⟨hn', hx'⟩
  ·rw [hm'.inj _ _ _ _ _ _ _ hx hx' q q']
  ·rcases (calOwn _ _ _ _ hx q).1 with h1 | ⟨n, c, h0, hρj, he, q0⟩
   ·have := hm.lt hx' q'; omega
   ·have := hm.inj _ _ _ _ _ _ _ he hx' q0 q'
    subst this
    exact absurd (List.mem_of_getElem? hρj) (notρ hn')
  ·rcases (calOwn _ _ _ _ hx' q').1 with h1 | ⟨n, c, h0, hρj, he, q0⟩
   ·have := hm.lt hx q; omega
   ·have := hm.inj _ _ _ _ _ _ _ he hx q0 q
    subst this
    exact absurd (List.mem_of_getElem? hρj) (notρ hn)
  ·exact hm.inj _ _ _ _ _ _ _ hx hx' q q'
 ·intro nm v h B e q
  rcases entry e with ⟨j, vj, hj, rfl, hx, _⟩ | ⟨hn, hx⟩
  ·obtain ⟨h1, h2⟩ := calOwn _ _ _ _ hx q
   refine ⟨?_, h2⟩
   rcases h1 with h1 | ⟨n, c, h0, hρj, he, q0⟩
   ·exact .inl (by have := hm.grow; omega)
   ·have hnn : wq d ρ j = n := by simp [wq, hρj]
    rw [hnn]
    exact (hm.own _ _ _ _ he q0).1
  ·obtain ⟨h1, h2⟩ := hm.own _ _ _ _ hx q
   exact ⟨h1, by omega⟩
 ·exact hm.gr.trans hm'.gr
 ·intro B hB hr
  rw [← hm.frame B hB hr]
  refine keepB (by have := hm.grow; omega) fun ⟨j, x, e', q'⟩ => ?_
  obtain ⟨n, c, hj, he⟩ := Qa e'
  rcases (hm.own _ _ _ _ he q').1 with h1 | ⟨h0, e0, q0⟩
  ·omega
  ·exact hr ⟨_, h0, e0, q0⟩
 ·intro nm h h0 e e0
  rcases entry e with ⟨j, vj, hj, hnn, hx, hv0⟩ | ⟨hn, hx⟩
  ·have h100 := (hm.ents _ _ e0).1
   cases hρj : ρ[j]? with
   | none =>
    have : wq d ρ j = wi d (j - ρ.length) := by simp [wq, hρj]
    rw [this] at hnn
    unfold wi at hnn
    omega
   | some n =>
    have : wq d ρ j = n := by simp [wq, hρj]
    rw [this] at hnn
    subst hnn
    obtain ⟨_, c, hc, e1⟩ := hm.ents _ _ e0
    rw [verρ hρj e1] at hv0
    have hc0 : c = 0 := by omega
    have hv0' : vj = 0 := by omega
    subst hc0; subst hv0'
    have hent : (zs cx env w ρ sn).ent j = some hc := by simp [zs, Zg hρj e1]
    rw [hm'.vers _ _ _ hx hent]
    exact hm.vers _ _ _ e1 e0
  ·exact hm.vers _ _ _ hx e0
 ·intro nm h0 e0
  obtain ⟨h1, v, x, hx⟩ := hm.ents _ _ e0
  obtain ⟨cv', h', e', _, _⟩ := le nm v x hx
  exact ⟨h1, cv', h', e'⟩
end
end Go.AM
namespace Go.AM
open Go
section
variable {P : Program} {R : wT} {cx : Cx} {bl : qL} {w : World} {env : Env}
theorem qCG (hm : Mem cx bl w env) {ok' : Nat → Prop} (hle : ∀ B, qn cx env w B → ok' B) {ns : List Nat} (hok : ∀ n v h B, n ∈ ns → env n = some (v, h) → wx h = some B → ok' B) {x : AV} {u : Value} {a : RTy} {l : List a.T}
  (h : Rep w (qn cx env w) env u x) (e : QH bl a x = some l) (hn : ∀ n ∈ ZF x, n ∈ ns) : RepR w ok' u (.ro a l) := by
 refine qn3 hm hle h e fun nm ver hx hh B eh q => hok nm ver hh B (hn nm ?_) eh q
 rcases hx with rfl | ⟨sz, lo, n, rfl⟩ <;> simp [ZF, vF]
theorem qsj {x : AV} : ∀ n ∈ vF x, n ∈ qsk x := by
 intro n hn
 cases x <;> simp_all [vF, qsk]
theorem qad {α : Type} {f : α → List Nat} {n : Nat} : ∀ {l : List α}, n ∈ zB f l ↔ ∃ x ∈ l, n ∈ f x
 | [] => by simp [zB]
 | x :: l => by simp [zB, qad (l := l)]
theorem qaH (hm : Mem cx bl w env) {ok' : Nat → Prop} (hle : ∀ B, qn cx env w B → ok' B) {ns : List Nat} (hok : ∀ n v h B, n ∈ ns → env n = some (v, h) → wx h = some B → ok' B) {τ : RTy} {cs : List AV} {us : List Value} {x : τ.T}
  (h : Rp w (qn cx env w) env us cs) (e : qX bl τ cs = some x) (hn : ∀ n ∈ zB vF cs, n ∈ ns) : All2 (RepR w ok') us (qr τ x) := by
 unfold qX at e
 split at e
 ·rename_i x' z hd
  simp at e; subst e
  have key : ∀ (τ : RTy) (cs r : List AV) (us : List Value) (x : τ.T) (z : List (Nat × Nat)), Rp w (qn cx env w) env us cs → (∀ n ∈ zB vF cs, n ∈ ns) → zb (qsf bl) τ cs = some (x, r, z) →
    ∃ u1 u2, us = u1 ++ u2 ∧ All2 (RepR w ok') u1 (qr τ x) ∧ Rp w (qn cx env w) env u2 r ∧ ∀ n ∈ zB vF r, n ∈ ns := by
   intro τ
   induction τ with
   | int k =>
    intro cs r us x z h hn e
    simp only [zb] at e
    split at e
    ·split at e
     ·rename_i hk
      simp at e; obtain ⟨rfl, rfl, rfl⟩ := e
      subst hk
      cases h with
      | cons h t => exact ⟨[_], _, rfl, .cons (by rw [qN h]; exact .v _) .nil, t, fun n hh => hn n (by simp [zB, hh])⟩
     ·simp at e
    ·simp at e
   | bool =>
    intro cs r us x z h hn e
    simp only [zb] at e
    split at e
    ·simp at e; obtain ⟨rfl, rfl, rfl⟩ := e
     cases h with
     | cons h t => exact ⟨[_], _, rfl, .cons (by rw [qN h]; exact .v _) .nil, t, fun n hh => hn n (by simp [zB, hh])⟩
    ·simp at e
   | str =>
    intro cs r us x z h hn e
    simp only [zb] at e
    split at e
    ·simp at e; obtain ⟨rfl, rfl, rfl⟩ := e
     cases h with
     | cons h t => exact ⟨[_], _, rfl, .cons (by rw [qN h]; exact .v _) .nil, t, fun n hh => hn n (by simp [zB, hh])⟩
    ·simp at e
   | fn =>
    intro cs r us x z h hn e
    simp only [zb] at e
    split at e
    ·simp at e; obtain ⟨rfl, rfl, rfl⟩ := e
     cases h with
     | cons h t => exact ⟨[_], _, rfl, .cons (by rw [qN h]; simp; exact .v _) .nil, t, fun n hh => hn n (by simp [zB, hh])⟩
    ·simp at e
   | unit =>
    intro cs r us x z h hn e
    simp [zb] at e; obtain ⟨rfl, rfl⟩ := e
    exact ⟨[], us, rfl, .nil, h, hn⟩
   | pair a b iha ihb =>
    intro cs r us x z h hn e
    simp only [zb] at e
    split at e
    ·rename_i x1 r1 z1 h1
     split at e
     ·rename_i y r2 z2 h2
      simp at e; obtain ⟨rfl, rfl, rfl⟩ := e
      obtain ⟨u1, u2, rfl, a1, a2, a3⟩ := iha cs r1 us x1 z1 h hn h1
      obtain ⟨u3, u4, rfl, b1, b2, b3⟩ := ihb r1 r2 u2 y z2 a2 a3 h2
      exact ⟨u1 ++ u3, u4, by simp, a1.append b1, b2, b3⟩
     ·simp at e
    ·simp at e
   | list a _ =>
    intro cs r us x z h hn e
    simp only [zb] at e
    split at e
    ·rename_i y r'
     split at e
     ·rename_i l z' hl
      simp at e; obtain ⟨rfl, rfl, rfl⟩ := e
      unfold qsf at hl
      split at hl
      ·rename_i l' hl'
       simp at hl; obtain ⟨rfl, _⟩ := hl
       cases h with
       | cons h t =>
        refine ⟨[_], _, rfl, .cons (qn3 hm hle h hl' fun nm ver hx hh B eh q => hok nm ver hh B (hn nm ?_) eh q) .nil, t, fun n hh => hn n (by simp [zB, hh])⟩
        rcases hx with rfl | ⟨sz, lo, n, rfl⟩ <;> simp [zB, vF]
      ·simp at hl
     ·simp at e
    ·simp at e
  obtain ⟨u1, u2, rfl, a1, a2, _⟩ := key τ cs [] us x' z h hn hd
  cases a2
  simpa using a1
 ·simp at e
theorem qtK (hm : Mem cx bl w env) {ρ : List Nat} {sn : Prop} {t : TypeId} {u : Value} {x y : AV} (h : Rep w (qn cx env w) env u x) (e : qw2 P R bl t x = some y) (hs : ∀ n ∈ ZF x, sn ∧ n ∉ ρ) :
  Rep w (qn (zs cx env w ρ sn) (zI env ρ) w) (zI env ρ) u y := by
 have hle : ∀ B, qn cx env w B → qn (zs cx env w ρ sn) (zI env ρ) w B := fun B h => qQf h
 have hok : ∀ n v h B, n ∈ ZF x → env n = some (v, h) → wx h = some B → qn (zs cx env w ρ sn) (zI env ρ) w B := fun n v h B hn eh q => qCO hm (hs n hn).1 eh q (hs n hn).2
 unfold qw2 at e
 split at e
 ·split at e
  ·rename_i τ hτ
   split at e
   ·rename_i l hl
    simp at e; subst e
    exact .r (qCG hm hle hok h hl fun n hn => hn)
   ·simp at e
  ·simp at e
 ·split at e
  ·rename_i τ hτ
   split at e
   ·rename_i z hz
    simp at e; subst e
    split at hz
    ·rename_i vs
     rw [qN h]
     have := qaH hm hle (ns := []) (fun n v h B hn => by simp at hn) (zQ vs.toList) hz (fun n hn => by
      have : ∀ l : List Value, zB vF (zd l) = [] := fun l => by induction l <;> simp [zd, zB, vF, *]
      rw [this] at hn; exact hn)
     simpa using Wg (Qn (env := zI env ρ) this)
    ·rename_i l
     obtain ⟨vs, rfl, hv⟩ := zM h
     have := qaH hm hle hok hv hz fun n hn => by
      obtain ⟨x, hx, hn⟩ := qad.1 hn
      exact qad.2 ⟨x, hx, qsj n hn⟩
     simpa using Wg (Qn (env := zI env ρ) this)
    ·simp at hz
   ·simp at e
  ·simp at e
 ·split at e
  ·rename_i τ hτ
   split at e
   ·rename_i z hz
    simp at e; subst e
    split at hz
    ·rename_i vs
     rw [qN h]
     have := qaH hm hle (ns := []) (fun n v h B hn => by simp at hn) (zQ vs.toList) hz (fun n hn => by
      have : ∀ l : List Value, zB vF (zd l) = [] := fun l => by induction l <;> simp [zd, zB, vF, *]
      rw [this] at hn; exact hn)
     simpa using Wg (Qn (env := zI env ρ) this)
    ·rename_i l
     obtain ⟨vs, rfl, hv⟩ := zM h
     have := qaH hm hle hok hv hz fun n hn => by
      obtain ⟨x, hx, hn⟩ := qad.1 hn
      exact qad.2 ⟨x, hx, qsj n hn⟩
     simpa using Wg (Qn (env := zI env ρ) this)
    ·simp at hz
   ·simp at e
  ·simp at e
 ·split at e
  ·simp at e; subst e
   rw [qN h]
   exact wn _
  ·simp at e
 ·simp at e
theorem ZP (hm : Mem cx bl w env) {ρ : List Nat} {sn : Prop} : ∀ {ts : List TypeId} {ms : List Bool} {us : List Value} {xs ys : List AV}, Rp w (qn cx env w) env us xs → zY P R bl ρ ts ms xs = some ys → (∀ n ∈ wt ms xs, sn ∧ n ∉ ρ) →
  All2 (Rep w (qn (zs cx env w ρ sn) (zI env ρ) w) (zI env ρ)) us ys
 | [], [], _, [], ys, .nil, e, _ => by simp [zY] at e; subst e; exact .nil
 | t :: ts, m :: ms, _, x :: xs, ys, .cons h tl, e, hs => by
  simp only [zY] at e
  split at e
  ·rename_i y hy
   split at e
   ·rename_i r hr
    simp at e; subst e
    cases m with
    | true =>
     simp at hy; subst hy
     exact .cons (vv (qv0 hm ρ sn) (.inl (qIs ρ sn)) h) (ZP hm tl hr fun n hn => hs n (by simpa [wt] using hn))
    | false =>
     simp only at hy
     exact .cons (qtK hm h hy fun n hn => hs n (by simp [wt, hn])) (ZP hm tl hr fun n hn => hs n (by simp [wt, hn]))
   ·simp at e
  ·simp at e
 | [], _ :: _, _, [], _, _, e, _ => by simp [zY] at e
 | _ :: _, [], _, [], _, _, e, _ => by simp [zY] at e
 | _ :: _, _ :: _, _, [], _, _, e, _ => by simp [zY] at e
 | [], [], _, _ :: _, _, _, e, _ => by simp [zY] at e
 | [], _ :: _, _, _ :: _, _, _, e, _ => by simp [zY] at e
 | _ :: _, [], _, _ :: _, _, _, e, _ => by simp [zY] at e
theorem qCg [GT P] (hG : cx.Gok P) (hm : Mem cx bl w env) (ρ : List Nat) (sn : Prop) : (zs cx env w ρ sn).Gok P := by
 obtain ⟨top, h1, h2, h3, h4⟩ := hG
 refine ⟨top, h1, Nat.le_trans h2 hm.grow, fun B hB => ?_, fun B ⟨j, x, e, q⟩ => ?_⟩
 ·show w.heap[B]? = top.heap[B]?
  rw [← h3 B hB]
  exact hm.frame B (by omega) fun hr => by have := h4 B hr; omega
 ·obtain ⟨n, c, hj, he⟩ := Qa e
  rcases (hm.own _ _ _ _ he q).1 with h | ⟨h0, e0, q0⟩
  ·omega
  ·exact h4 B ⟨_, h0, e0, q0⟩
theorem qgf [GT P] (hG : cx.Gok P) (hm : Mem cx bl w env) {d : Option Nat} {g : Nat} {us : List Value} {as : List AV} {cr : CallRes} {ρ : List Nat} {φ : List Prop} {dl : Dl} (h : Rp w (qn cx env w) env us as) (e : qa2 P R bl d g as cr ρ = some (φ, dl)) (hφ : zo φ) (hnew : ∀ k, k < 16 → ¬ cx.hid (wi (d.getD 0) k)) :
  dl.dst = d ∧ (∃ fn c, P.funcs[g]? = some fn ∧ fn.body = some c ∧ (fn.name == "runtime.NumGoroutine") = false) ∧ Calls P g us.toArray w fun en w' => ∃ v env', en = .returned v ∧ Trans cx w env (we bl dl.wr) w' env' ∧ Rep w' (qn cx env' w') env' v dl.v := by
 unfold qa2 at e
 split at e
 ·rename_i fn hfn
  split at e
  ·rename_i cargs hca
   split at e
   ·rename_i bin hbin
    cases hq : YU (d.getD 0) ρ (wt cr.modes as) cr <;> simp only [hq, qg, qj] at e
    ·simp at e
    simp at e; obtain ⟨rfl, rfl⟩ := e
    simp only [YU, qh] at hq
    obtain ⟨q1, q2, q3, q4, q5, q6⟩ := hq
    have q6 := wj q6
    have q2 := wj q2
    have q3 := wj q3
    have hcc : CC P g cargs bin cr.res cr.bout := hφ _ (by simp)
    obtain ⟨hfun, hcall⟩ := hcc
    refine ⟨rfl, hfun, ?_⟩
    have hns : ∀ n ∈ wt cr.modes as, (wt cr.modes as ≠ []) ∧ n ∉ ρ := fun n hn => by
     refine ⟨fun h => by rw [h] at hn; simp at hn, fun hρ => ?_⟩
     cases hs : wt cr.modes as with
     | nil => rw [hs] at hn; simp at hn
     | cons a l =>
      rw [hs] at q1 hn
      simp only [qh4, qh] at q1
      have := vB.1 q1.2.2 n hn
      rw [ww.2 hρ] at this
      simp at this
    have hargs := ZP (P := P) (R := R) hm (sn := wt cr.modes as ≠ []) h hca hns
    have hmem := qCJ hm q4 q3 hbin (wt cr.modes as ≠ [])
    have := hcall (zs cx env w ρ (wt cr.modes as ≠ [])) (zI env ρ) us.toArray (qIw hm ρ _) (qCg hG hm ρ _) (by simp [zs]) (fun nm x => by
     constructor
     ·intro e
      obtain ⟨n, c, hj, he⟩ := Qa e
      exact Zg hj he
     ·intro e
      simp [zs, e]) hmem (by simpa using hargs.length) (fun i hi => by
     have hg := hargs.get Go.undef .undef i hi
     have e : us.toArray.getD i Go.undef = us.getD i Go.undef := by simp
     rw [e]
     exact hg)
    refine this.mono fun en w' ⟨v, env', he, hm', hv⟩ => ?_
    obtain ⟨o1, o2⟩ := qpt (d := d.getD 0) hm q4 (fun j n hj => by
     obtain ⟨v, b, hb, _⟩ := (qcm hbin).2 j n hj
     exact ⟨v, b, hb⟩) q5 q2 hm' hv (fun hs => by
      cases hs' : wt cr.modes as with
      | nil => exact absurd hs' hs
      | cons a l =>
       rw [hs'] at q1
       simp only [qh4, qh] at q1
       exact ⟨q1.1, fun x hx => vB.1 q1.2.1 x hx⟩) (fun k hk => hnew k (by omega))
    exact ⟨v, _, he, o1, o2⟩
   ·simp at e
  ·simp at e
 ·simp at e
theorem qwE : ∀ (bl : qL) (n v : Nat) (b : Blk), qS bl n = some (v, b) → z7 bl n v b = bl
 | [], _, _, _, h => by simp [qS] at h
 | (m, v', b') :: r, n, v, b, h => by
  simp only [qS] at h
  simp only [z7]
  cases e : qy m n
  ·rw [e, qg] at h
   rw [qg, qwE r n v b h]
  ·rw [e, qj] at h
   have := qk e
   subst this
   cases h
   rfl
theorem qhH {n v : Nat} {b : Blk} {bl : qL} : ∀ (ks : List Bool) (wr : List (Nat × Nat × Blk)), n ∉ WW wr → Z0 bl ks wr → Z0 (z7 bl n v b) ks wr
 | [], _, _, _ => by simp [Z0]
 | true :: ks, [], _, _ => by simp [Z0]
 | false :: ks, [], _, _ => by simp [Z0]
 | true :: ks, (m, v', b') :: r, hn, h => by
  simp only [WW, qK, not_or] at hn
  simp only [Z0] at h ⊢
  refine ⟨?_, qhH ks r hn.2 h.2⟩
  rw [Qc, qi (fun e => hn.1 e.symm)]
  exact h.1
 | false :: ks, (m, v', b') :: r, hn, h => by
  simp only [WW, qK, not_or] at hn
  simp only [Z0] at h ⊢
  exact qhH ks r hn.2 h
theorem qfX : ∀ (ks : List Bool) (wr : List (Nat × Nat × Blk)) (bl : qL), wZ (WW wr) = true → Z0 bl ks wr → we bl (Vh ks wr) = we bl wr
 | [], wr, bl, _, _ => by simp [Vh]
 | true :: ks, [], bl, _, _ => by simp [Vh]
 | false :: ks, [], bl, _, _ => by simp [Vh]
 | true :: ks, (n, v, b) :: r, bl, hn, h => by
  simp only [WW, wZ, qh] at hn
  simp only [Z0] at h
  simp only [Vh, we]
  rw [qwE bl n v b h.1, qfX ks r bl hn.2 h.2]
 | false :: ks, (n, v, b) :: r, bl, hn, h => by
  simp only [WW, wZ, qh] at hn
  simp only [Z0] at h
  simp only [Vh, we]
  exact qfX ks r _ hn.2 (qhH ks r (fun hm => by rw [ww.2 hm] at hn; exact absurd hn.1 (by simp)) h)
theorem qg0 [GT P] (hG : cx.Gok P) (hm : Mem cx bl w env) {d : Option Nat} {g : Nat} {us : List Value} {as : List AV} {ora ora' : List Or} {φ : List Prop} {dl : Dl} (h : Rp w (qn cx env w) env us as) (e : YV P R bl d g as ora = some (φ, dl, ora')) (hφ : zo φ) (hnew : ∀ k, k < 16 → ¬ cx.hid (wi (d.getD 0) k)) :
  dl.dst = d ∧ (∃ fn c, P.funcs[g]? = some fn ∧ fn.body = some c ∧ (fn.name == "runtime.NumGoroutine") = false) ∧ Calls P g us.toArray w fun en w' => ∃ v env', en = .returned v ∧ Trans cx w env (we bl dl.wr) w' env' ∧ Rep w' (qn cx env' w') env' v dl.v := by
 unfold YV at e
 split at e
 ·rename_i cr _
  split at e
  ·split at e
   ·rename_i φ' dl' he
    simp at e; obtain ⟨rfl, rfl, rfl⟩ := e
    exact qgf hG hm h he hφ hnew
   ·simp at e
  ·rename_i f ks _
   split at e
   ·rename_i φ' dl' he
    cases hn : wZ (WW dl'.wr)
    ·rw [hn] at e; simp at e
    ·rw [hn] at e
     simp only [qj, Option.some.injEq, Prod.mk.injEq] at e
     obtain ⟨rfl, rfl, rfl⟩ := e
     have := qgf hG hm h he (fun p hp => hφ p (List.mem_cons_of_mem _ hp)) hnew
     show dl'.dst = d ∧ _ ∧ Calls P g us.toArray w fun en w' => ∃ v env', en = .returned v ∧ Trans cx w env (we bl (Vh (f :: ks) dl'.wr)) w' env' ∧ Rep w' (qn cx env' w') env' v dl'.v
     rw [qfX _ _ _ hn (hφ _ (by simp))]
     exact this
   ·simp at e
 ·simp at e
theorem qoS [GT P] (hG : cx.Gok P) (hm : Mem cx bl w env) {d : Option Nat} {nm ver l : Nat} {r : Loop} {rc : Rc} {us : List Value} {as : List AV} {cr : CallRes} {ρ : List Nat} {φ : List Prop} {dl : Dl} (he : env nm = some (ver, .func (.yield l) #[] #[])) (hr : w.heap[l]? = some (.loop r)) (h : Rp w (qn cx env w) env us as) (e : qgd P R bl d nm rc as cr ρ = some (φ, dl)) (hφ : zo φ) (hnew : ∀ k, k < 16 → ¬ cx.hid (wi (d.getD 0) k)) :
  dl.dst = d ∧ us.length = rc.ps.length ∧ qlP P l r.fn ((r.params.zip us.toArray).foldl (fun tmps (t, a) => tmps.setIfInBounds t a) r.tmps) r.assign r.body w fun v w' => ∃ env', Trans cx w env (we bl dl.wr) w' env' ∧ Rep w' (qn cx env' w') env' v dl.v := by
 unfold qgd at e
 cases hlen : qy as.length rc.ps.length with
 | false => rw [hlen] at e; simp at e
 | true =>
 cases ρ with
 | nil => simp at e
 | cons n0 ρ' =>
 cases hhead : qy n0 nm with
 | false => simp [hlen, hhead] at e
 | true =>
  simp only [hlen, hhead, Bool.and_true, qj] at e
  have hlen := qk hlen
  have hhead := qk hhead
  generalize hρ : n0 :: ρ' = ρ at e
  have hρ0 : ρ[0]? = some nm := by rw [← hρ, ← hhead]; rfl
  split at e
  ·rename_i cargs hca
   split at e
   ·rename_i bin hbin
    cases hq : YU (d.getD 0) ρ (wt cr.modes as) cr <;> simp only [hq, qg, qj] at e
    ·simp at e
    simp at e; obtain ⟨rfl, rfl⟩ := e
    simp only [YU, qh] at hq
    obtain ⟨q1, q2, q3, q4, q5, q6⟩ := hq
    have q6 := wj q6
    have q2 := wj q2
    have q3 := wj q3
    have hcall : YC P cargs bin cr.res cr.bout := hφ _ (by simp)
    refine ⟨rfl, by rw [h.length]; exact hlen, fun c cs => ?_⟩
    have hns : ∀ n ∈ wt cr.modes as, (wt cr.modes as ≠ []) ∧ n ∉ ρ := fun n hn => by
     refine ⟨fun h => by rw [h] at hn; simp at hn, fun hρ => ?_⟩
     cases hs : wt cr.modes as with
     | nil => rw [hs] at hn; simp at hn
     | cons a l =>
      rw [hs] at q1 hn
      simp only [qh4, qh] at q1
      have := vB.1 q1.2.2 n hn
      rw [ww.2 hρ] at this
      simp at this
    have hargs := ZP (P := P) (R := R) hm (sn := wt cr.modes as ≠ []) h hca hns
    have hmem := qCJ hm q4 q3 hbin (wt cr.modes as ≠ [])
    obtain ⟨v, w', ⟨env', hm', hv⟩, hst⟩ := hcall (zs cx env w ρ (wt cr.modes as ≠ [])) (zI env ρ) us.toArray l r (qIw hm ρ _) (qCg hG hm ρ _) (by simp [zs]) (fun nm x => by
     constructor
     ·intro e
      obtain ⟨n, c, hj, he⟩ := Qa e
      exact Zg hj he
     ·intro e
      simp [zs, e]) hmem (Zg (hρ0) he) hr (by simpa using hargs.length) (fun i hi => by
     have hg := hargs.get Go.undef .undef i hi
     have e : us.toArray.getD i Go.undef = us.getD i Go.undef := by simp
     rw [e]
     exact hg) c cs
    refine ⟨v, w', ?_, hst⟩
    obtain ⟨o1, o2⟩ := qpt (d := d.getD 0) hm q4 (fun j n hj => by
     obtain ⟨v, b, hb, _⟩ := (qcm hbin).2 j n hj
     exact ⟨v, b, hb⟩) q5 q2 hm' hv (fun hs => by
      cases hs' : wt cr.modes as with
      | nil => exact absurd hs' hs
      | cons a l =>
       rw [hs'] at q1
       simp only [qh4, qh] at q1
       exact ⟨q1.1, fun x hx => vB.1 q1.2.1 x hx⟩) (fun k hk => hnew k (by omega))
    exact ⟨_, o1, o2⟩
   ·simp at e
  ·simp at e
theorem qqi [GT P] (hG : cx.Gok P) (hm : Mem cx bl w env) {d : Option Nat} {nm ver l : Nat} {r : Loop} {rc : Rc} {us : List Value} {as : List AV} {ora ora' : List Or} {φ : List Prop} {dl : Dl} (he : env nm = some (ver, .func (.yield l) #[] #[])) (hr : w.heap[l]? = some (.loop r)) (h : Rp w (qn cx env w) env us as) (e : qeX P R bl d nm rc as ora = some (φ, dl, ora')) (hφ : zo φ) (hnew : ∀ k, k < 16 → ¬ cx.hid (wi (d.getD 0) k)) :
  dl.dst = d ∧ us.length = rc.ps.length ∧ qlP P l r.fn ((r.params.zip us.toArray).foldl (fun tmps (t, a) => tmps.setIfInBounds t a) r.tmps) r.assign r.body w fun v w' => ∃ env', Trans cx w env (we bl dl.wr) w' env' ∧ Rep w' (qn cx env' w') env' v dl.v := by
 unfold qeX at e
 split at e
 ·split at e
  ·rename_i φ' dl' h'
   simp at e; obtain ⟨rfl, rfl, rfl⟩ := e
   exact qoS hG hm he hr h h' hφ hnew
  ·simp at e
 ·simp at e
end
end Go.AM
namespace Go.AM
open Go
def FR (ro : Option Nat) : Fence := { fn := fun _ => True, depth := none, alive := false, round := ro }
theorem qB9 (P : Program) (ro : Option Nat) (m : Machine) : m.fenced P (FR ro) := by
 intro g _
 refine ⟨fun h => ?_, Or.inl trivial, fun _ _ => trivial, fun _ h => ?_⟩
 ·simp [FR] at h
 ·simp [FR] at h
theorem qLN (ro : Option Nat) (n : Nat) : (FR ro).room n := fun _ h => by simp [FR] at h
theorem qaR {P : Program} {ro : Option Nat} {m m' : Machine} : StepsIn (Machine.fenced P (FR ro)) P m m' ↔ Steps P m m' :=
 ⟨StepsIn.steps, fun h => (StepsIn.of_steps h).mono fun m _ => qB9 P ro m⟩
section
variable {P : Program} {R : wT} {cx : Cx} {w : World} {env : Env}
theorem qw7 {ro : Option Nat} {n : Nat} {f : FuncId} {args : Array Value} {w : World} {Q : Ending → World → Prop} (hn : ∀ w', ¬ Q .outgrown w') (h : Calls P f args w Q) : CallsIn (FR ro) n P f args w Q :=
 ⟨trivial, fun cs _ => let ⟨e, w', fr, r, s, x⟩ := h cs; ⟨e, w', fr, r, by
   cases e with
   | returned v => exact qaR.2 s
   | panicked c => exact qaR.2 s
   | outgrown => exact absurd r (hn _), x⟩⟩
theorem qxJ {ro : Option Nat} {n l : Nat} {f : FuncId} {tmps : Array Value} {assign body : Code} {w : World} {Q : Value → World → Prop} {Q' : Ending → World → Prop} (hq : ∀ v w', Q v w' → Q' (.returned v) w') (h : qlP P l f tmps assign body w Q) : RoundIn (FR ro) n P l f tmps assign body w Q' :=
 ⟨trivial, fun c cs _ => let ⟨v, w', r, s⟩ := h c cs; ⟨.returned v, w', hq _ _ r, qaR.2 s⟩⟩
structure InvR (cx : Cx) (used : List Nat) (st : St) (a : Act) (w : World) (env : Env) : Prop extends Inv cx st a w env where
 gds : ∀ (i s : Nat) (b : Bool) (x : AV), st.slots[i]? = some (AV.gd s b x) → s ∈ used ∧ zi x = true
theorem Wj : ∀ (l : List AV) (k : Nat) (v : AV), qlk l k v = l.set k v
 | [], _, _ => rfl
 | _ :: _, 0, _ => rfl
 | x :: l, k + 1, v => by simp [qlk, Wj l k v]
theorem qeA {used used' : List Nat} {st : St} {a : Act} {w' : World} {env' : Env} (hi : InvR cx used st a w env) {dl : Dl} {v : Value} (T : Trans cx w env (we st.blks dl.wr) w' env') (hsub : ∀ s ∈ used, s ∈ used') (hfree : ∀ k, dl.dst = some k → k ∉ used')
  (hv : ∀ k, dl.dst = some k → W0 w' (qn cx env' w') env' (a.put dl.dst v).tmps v dl.v) (hg : ∀ k, dl.dst = some k → ∀ s b x, dl.v = .gd s b x → s ∈ used' ∧ zi x = true) : InvR cx used' (st.app dl) (a.put dl.dst v) w' env' := by
 have other : ∀ {tmps' : Array Value}, (∀ s ∈ used, tmps'[s]? = a.tmps[s]?) → ∀ i, i < st.slots.length → ∀ u, u = a.tmps.getD i Go.undef → W0 w' (qn cx env' w') env' tmps' u (st.slots.getD i .undef) := fun {tmps'} hs i hi' u hu => by
  subst hu
  have h := hi.slot i hi'
  have he : st.slots[i]? = some (st.slots.getD i .undef) := by simp [hi']
  cases hx : st.slots.getD i .undef with
  | gd s b x =>
   rw [hx] at h he
   have := hi.gds i s b x he
   simp only [W0] at h ⊢
   rw [hs s this.1]
   exact ⟨fun e => T.rep (h.1 e), h.2⟩
  | _ => rw [hx] at h; exact T.rep h
 cases hd : dl.dst with
 | none =>
  refine ⟨⟨hi.defers.mono (qR _) T.ok T.cell, by simpa [St.app, Act.put, hd] using hi.size, fun i h => ?_, T.mem⟩, fun i s b x e => ?_⟩
  ·simp only [St.app, hd, Act.put] at h ⊢
   exact other (fun _ _ => rfl) i h _ rfl
  ·simp only [St.app, hd] at e
   have := hi.gds i s b x e
   exact ⟨hsub s this.1, this.2⟩
 | some k =>
  have hv := hv k hd
  have hfree := hfree k hd
  rw [hd] at hv
  refine ⟨⟨hi.defers.mono (qR _) T.ok T.cell, by simp [St.app, Act.put, hd, Wj, hi.size], fun i h => ?_, T.mem⟩, fun i s b x e => ?_⟩
  ·simp only [St.app, hd, Wj, List.length_set] at h ⊢
   by_cases hk : i = k
   ·subst hk
    have h1 : (a.put (some i) v).tmps.getD i Go.undef = v := by simp [Act.put, hi.size, h]
    have h2 : (st.slots.set i dl.v).getD i .undef = dl.v := by simp [h]
    rw [h1, h2]
    exact hv
   ·have h1 : (a.put (some k) v).tmps.getD i Go.undef = a.tmps.getD i Go.undef := by
     simp [Act.put, Array.getElem?_setIfInBounds_ne (Ne.symm hk)]
    have h2 : (st.slots.set k dl.v).getD i .undef = st.slots.getD i .undef := by simp [Ne.symm hk]
    rw [h1, h2]
    refine other (fun s hs => ?_) i h _ rfl
    have : k ≠ s := fun e => hfree (e ▸ hsub s hs)
    simp [Act.put, Array.getElem?_setIfInBounds_ne this]
  ·simp only [St.app, hd, Wj] at e
   by_cases hk : i = k
   ·subst hk
    rw [List.getElem?_set] at e
    simp at e
    exact hg i hd s b x e.2
   ·rw [List.getElem?_set, qi (Ne.symm hk)] at e
    have := hi.gds i s b x e
    exact ⟨hsub s this.1, this.2⟩
def qgL (cx : Cx) (d : Nat) : Prop := QS cx (100 + d) ∧ ∀ k, k < 16 → ¬ cx.hid (wi d k)
theorem qOO {cx : Cx} (h : ∀ n, ¬ cx.hid n) (d : Nat) : qgL cx d := ⟨⟨by omega, h _⟩, fun _ _ => h _⟩
def Nxt (cx : Cx) (st : St) (a : Act) (w : World) (env : Env) (gs : List Nat) (dl : Dl) (K : Act → World → Prop) : Prop :=
 ∀ v w' env', Trans cx w env (we st.blks dl.wr) w' env' → W0 w' (qn cx env' w') env' (a.put dl.dst v).tmps v dl.v → (∀ s b x, dl.v = .gd s b x → s ∈ gs ∧ zi x = true) → K (a.put dl.dst v) w'
theorem Nxt.of_inv {used : List Nat} {st : St} {a : Act} (hi : InvR cx used st a w env) {gs : List Nat} {dl : Dl} {K : Act → World → Prop} (hfree : ∀ k, dl.dst = some k → k ∉ gs ++ used) (hK : ∀ a' w' env', InvR cx (gs ++ used) (st.app dl) a' w' env' → K a' w') : Nxt cx st a w env gs dl K :=
 fun v w' env' T hv hg => hK _ _ env' (qeA hi T (fun s hs => by simp [hs]) hfree (fun _ _ => hv) fun _ _ s b x e => ⟨by simp [(hg s b x e).1], (hg s b x e).2⟩)
theorem WC {st : St} {a : Act} (hi : Inv cx st a w env) (t : Nat) : W0 w (qn cx env w) env a.tmps (a.eval (.tmp t)) (st.slots.getD t .undef) := by
 by_cases h : t < st.slots.length
 ·exact hi.slot t h
 ·have : st.slots.getD t .undef = .undef := by simp [h]
  rw [this]
  exact Rep.undef _
theorem qcs {st : St} {a : Act} (hi : Inv cx st a w env) (x : Operand) : W0 w (qn cx env w) env a.tmps (a.eval x) (Ve st.slots [] x) := by
 cases x with
 | tmp t =>
  have h := WC hi t
  simp only [Ve]
  split
  ·rename_i s b y e
   rw [e] at h
   simpa [qbJ] using h
  ·exact h
 | const v => exact wn v
 | func f => exact wn _
 | global g => exact Rep.undef _
theorem qmp : ∀ {l : List (Nat × Bool)} {s : Nat} {b : Bool}, qbJ l s b = true → (s, b) ∈ l
 | [], s, b, h => by simp [qbJ] at h
 | (s', b') :: l, s, b, h => by
  simp only [qbJ, qGc, qh] at h
  rcases h with ⟨h1, h2⟩ | h
  ·have := qk h1
   have h2 : b' = b := by simpa using h2
   subst this; subst h2; simp
  ·exact List.mem_cons_of_mem _ (qmp h)
theorem qtx {a : Act} {t : Nat} {v : Value} (h : a.tmps.getD t Go.undef = v) (hv : v ≠ Go.undef) : a.tmps[t]? = some v := by
 cases e : a.tmps[t]? with
 | none => simp [e] at h; exact absurd h.symm hv
 | some x => simp [e] at h; rw [h]
theorem qjM {st : St} {a : Act} (hi : Inv cx st a w env) : ∀ (k s : Nat) (b : Bool), a.tmps[s]? = some (.bool b) → ∀ p ∈ qe7 st.slots k s b, a.tmps[p.1]? = some (.bool p.2)
 | 0, s, b, h, p, hp => by simp [qe7] at hp; subst hp; exact h
 | k + 1, s, b, h, p, hp => by
  simp only [qe7] at hp
  split at hp
  ·rename_i s' b' x e
   rcases qK.1 hp with e' | hp
   ·subst e'; exact h
   ·have hs := WC hi s
    rw [e] at hs
    by_cases hh : a.tmps[s']? = some (.bool b')
    ·exact qjM hi k s' b' hh p hp
    ·have := hs.2 hh
     simp only [Act.eval] at this
     rw [show a.tmps.getD s Go.undef = .bool b by simp [h]] at this
     exact absurd this (by simp [Go.undef])
  ·simp at hp; subst hp; exact h
theorem qmk {st : St} {a : Act} (hi : Inv cx st a w env) : ∀ (k s : Nat) (b : Bool), a.tmps[s]? = some (.bool b) → ∀ p, qxr st.slots k s b p → p
 | 0, s, b, h, p, hp => hp
 | k + 1, s, b, h, p, hp => by
  have hs := WC hi s
  have hse : a.eval (.tmp s) = .bool b := by simp [Act.eval, h]
  simp only [qxr] at hp
  split at hp
  ·rename_i b' e
   rw [e] at hs
   have := qN hs
   rw [hse] at this
   simp at this
   exact hp this.symm
  ·rename_i s' w' b' e
   rw [e] at hs
   by_cases hh : a.tmps[s']? = some (.bool w')
   ·have := qN (hs.1 hh)
    rw [hse] at this
    simp at this
    exact qmk hi k s' w' hh _ hp this.symm
   ·have := hs.2 hh
    rw [hse] at this
    simp [Go.undef] at this
  ·exact hp
theorem qJB {used : List Nat} {st : St} {a : Act} (hi : InvR cx used st a w env) {s : Nat} {b : Bool} (h : a.tmps[s]? = some (.bool b)) (x : Operand) : W0 w (qn cx env w) env a.tmps (a.eval x) (Ve st.slots (qe7 st.slots 3 s b) x) := by
 cases x with
 | tmp t =>
  have hs := WC hi.toInv t
  simp only [Ve]
  split
  ·rename_i s' b' y e
   rw [e] at hs
   cases hc : qbJ (qe7 st.slots 3 s b) s' b'
   ·simpa using hs
   ·have h2 := qjM hi.toInv 3 s b h _ (qmp hc)
    have ht : st.slots[t]? = some (.gd s' b' y) := by
     cases e2 : st.slots[t]? with
     | none => simp [e2] at e
     | some z => simp [e2] at e; rw [e]
    exact qeF (hi.gds t s' b' y ht).2 (hs.1 h2)
  ·exact hs
 | const v => exact wn v
 | func f => exact wn _
 | global g => exact Rep.undef _
theorem qxc {ops : Array Oper} {j s : Nat} (h : ql3 ops.toList j = some s) : (ops[j]?).bind (·.dst) = some s := by
 unfold ql3 at h
 split at h
 ·rename_i o ho
  have : ops[j]? = some o := by simpa using ho
  simp [this, h]
 ·simp at h
theorem qyu {ops : Array Oper} {o : Oper} {j s : Nat} {b : Bool} (hg : o.guard = some (j, b)) (hd : ql3 ops.toList j = some s) (a : Act) : Region.wanted o (yielded ops a.tmps) = true ↔ a.tmps[s]? = some (.bool b) := by
 unfold Region.wanted
 rw [hg]
 simp only
 unfold yielded
 rw [qxc hd]
 simp only [Option.bind_some]
 split
 ·rename_i b' e
  rw [e]
  simp
 ·rename_i hn
  constructor
  ·intro h; simp at h
  ·intro h; exact absurd h (hn _)
theorem qbj {g : Nat} {args : Array Value} (h : ∃ fn c, P.funcs[g]? = some fn ∧ fn.body = some c ∧ (fn.name == "runtime.NumGoroutine") = false) : (callFunc g args).run P w = .ok (.enter g args) w := by
 obtain ⟨fn, c, h1, h2, h3⟩ := h
 have h4 : ¬ fn.name = "runtime.NumGoroutine" := by simpa using h3
 simp [callFunc, h1, h2, h4]
theorem qke {P : Program} {R : wT} {bl : qL} {ev : Operand → AV} {dst : Nat} {op : Op} {e : Ef} (h : xop P R bl ev dst op = some e) : ∀ c, op ≠ .defer c := by
 intro c hc
 subst hc
 simp [xop] at h
variable [GT P] {ro : Option Nat}
theorem qt7 (hG : cx.Gok P) {used : List Nat} {st : St} {a : Act} (hi : InvR cx used st a w env) {o : Oper} {c : Call} (ho : o.op = .call c) {ora ora' : List Or} {φ : List Prop} {dl : Dl} (e : qqU P R st o.dst c ora = some (φ, dl, ora')) (hφ : zo φ) (hv : zi dl.v = true)
  (hnew : qgL cx (o.dst.getD 0)) {gs : List Nat} {K : Act → World → Prop} {Q : Exit → Act → World → Prop} (hK : Nxt cx st a w env gs dl K) : o.wpIn (FR ro) 0 P a w K Q := by
 have hr : ∀ x, Rep w (qn cx env w) env (a.eval x) (Ve st.slots [] x) := fun x => Q1 (qcs hi.toInv x)
 have go : ∀ {g : Nat} {us : List Value} {as : List AV}, Rp w (qn cx env w) env us as → YV P R st.blks o.dst g as ora = some (φ, dl, ora') → (∀ (_ : ∃ fn c, P.funcs[g]? = some fn ∧ fn.body = some c ∧ (fn.name == "runtime.NumGoroutine") = false), (execOp a.eval o).run P w = .ok (.enter g us.toArray) w) → o.wpIn (FR ro) 0 P a w K Q := fun {g us as} h1 h2 h3 => by
  obtain ⟨hd, hf, hc⟩ := qg0 hG hi.mem h1 h2 hφ hnew.2
  refine ⟨fun _ _ => trivial, ?_⟩
  rw [Oper.semAt_eq _ _ _ (by intro c; rw [ho]; simp), h3 hf, Oper.uponIn_enter]
  refine ⟨fun h => by simp [FR] at h, ?_⟩
  refine qw7 (Q := fun en w' => ∃ v env', en = .returned v ∧ Trans cx w env (we st.blks dl.wr) w' env' ∧ Rep w' (qn cx env' w') env' v dl.v) (fun w' h => by obtain ⟨v, env', h, _⟩ := h; simp at h) hc |>.mono fun en w' ⟨v, env', he, T, hr⟩ => ?_
  subst he
  rw [← hd]
  refine hK _ _ env' T (qeF hv hr) fun s b x hx => ?_
  rw [hx] at hv; simp [zi] at hv
 unfold qqU at e
 split at e
 ·rename_i f hcal
  split at e
  ·rename_i g first captured hf
   have hfv : a.eval f = .func (.func g) first captured := by
    have := hr f
    rw [hf] at this
    exact qN this
   refine go (us := first.toList ++ (c.args.toList.map a.eval ++ captured.toList)) ((zQ _).append ((ZE hr c.args.toList).append (zQ _))) e fun hfn => ?_
   obtain ⟨callee, args, ats⟩ := c
   simp only at hcal
   subst hcal
   have e1 : (first.toList ++ (args.toList.map a.eval ++ captured.toList)).toArray = first ++ (args.map a.eval ++ captured) := by
    simp [← Array.toList_map]
   rw [e1]
   have := qbj (w := w) (args := first ++ (args.map a.eval ++ captured)) hfn
   simp [execOp, ho, resolve, Deferred.ofValue, hfv, invoke, this]
  ·rename_i g first captured hf
   have hfr := hr f
   rw [hf] at hfr
   generalize hu : a.eval f = u at hfr
   cases hfr with
   | fn _ vf vc _ _ hs1 hs2 h1 h2 =>
    have a1 : Rp w (qn cx env w) env vf.toList first := All2.of_get Go.undef .undef (by simpa using hs1) fun i hi => by simpa using h1 i hi
    have a2 : Rp w (qn cx env w) env vc.toList captured := All2.of_get Go.undef .undef (by simpa using hs2) fun i hi => by simpa using h2 i hi
    refine go (us := vf.toList ++ (c.args.toList.map a.eval ++ vc.toList)) (a1.append ((ZE hr c.args.toList).append a2)) e fun hfn => ?_
    obtain ⟨callee, args, ats⟩ := c
    simp only at hcal
    subst hcal
    have e1 : (vf.toList ++ (args.toList.map a.eval ++ vc.toList)).toArray = vf ++ (args.map a.eval ++ vc) := by
     simp [← Array.toList_map]
    rw [e1]
    have := qbj (w := w) (args := vf ++ (args.map a.eval ++ vc)) hfn
    simp [execOp, ho, resolve, Deferred.ofValue, hu, invoke, this]
  ·rename_i nm ver hf
   split at e
   ·rename_i s p rc sl hcur
    have hfr := hr f
    rw [hf] at hfr
    obtain ⟨h, hE, hrep⟩ := hi.mem.blk _ _ _ (qZ hcur)
    have hval : a.eval f = h := by
     generalize a.eval f = u at hfr
     cases hfr with
     | own hfr => exact wu hfr hE
    cases hrep with
    | loop l r _ _ hb hp hasg hbd hs hsl =>
    obtain ⟨hd, hlen, hrnd⟩ := qqi hG hi.mem hE hb (ZE hr c.args.toList) e hφ hnew.2
    obtain ⟨callee, args, ats⟩ := c
    simp only at hcal
    subst hcal
    have hsz : (args.map a.eval).size = r.params.size := by
     rw [hp]
     simpa using hlen
    refine ⟨fun _ _ => trivial, ?_⟩
    have hy := run_yield (P := P) hb hsz
    have hrun : (execOp a.eval o).run P w = .ok (.round l r.fn ((r.params.zip (args.map a.eval)).foldl (fun tmps (t, a) => tmps.setIfInBounds t a) r.tmps) r.assign r.body) w := by
     simp only [Array.empty_append, Array.append_empty] at *
     simp [execOp, ho, resolve, Deferred.ofValue, hval, invoke, hy]
    rw [Oper.semAt_eq _ _ _ (by intro c; rw [ho]; simp), hrun, Oper.uponIn_round]
    refine ⟨fun h => by simp [FR] at h, ?_⟩
    have e1 : (args.toList.map a.eval).toArray = args.map a.eval := by simp [← Array.toList_map]
    rw [← e1]
    refine qxJ (fun v w' ⟨env', T, hr⟩ => ?_) hrnd
    show K (a.put o.dst v) w'
    rw [← hd]
    refine hK _ _ env' T (qeF hv hr) fun s b x hx => ?_
    rw [hx] at hv; simp [zi] at hv
   ·simp at e
  ·simp at e
 ·simp at e
theorem qpO (hG : cx.Gok P) {used : List Nat} {st : St} {a : Act} (hi : InvR cx used st a w env) {ops : List Oper} {i : Nat} {o : Oper} {ora ora' : List Or} {φ : List Prop} {dl : Dl} (e : xo1 P R ops i o st ora = some (φ, dl, ora')) (hφ : zo φ)
  (hnew : qgL cx (o.dst.getD 0)) {gs : List Nat} {K : Act → World → Prop} {Q : Exit → Act → World → Prop} (hK : Nxt cx st a w env gs dl K) : o.wpIn (FR ro) 0 P a w K Q := by
 unfold xo1 at e
 split at e
 ·rename_i c hc
  have ho : o.op = .call c := by
   unfold qrZ at hc
   split at hc
   ·split at hc
    ·simp at hc; subst hc; assumption
    ·simp at hc
   ·simp at hc
  split at e
  ·rename_i φ' dl' ora'' he
   cases hn : zi dl'.v <;> simp only [hn, qg, qj] at e
   ·simp at e
   simp at e; obtain ⟨rfl, rfl, rfl⟩ := e
   exact qt7 hG hi ho he hφ hn hnew hK
  ·simp at e
 ·split at e
  ·rename_i ef hef
   cases hn : zi ef.v <;> simp only [hn, qg, qj] at e
   ·simp at e
   have run : ∀ {φ0 : List Prop} {v0 : AV} {wr0 : List (Nat × Nat × Blk)}, zo ef.φ → wr0 = ef.wr → zi v0 = true → (∀ u w' env', Rep w' (qn cx env' w') env' u ef.v → Rep w' (qn cx env' w') env' u v0) → dl = ⟨o.dst, v0, wr0⟩ → o.wpIn (FR ro) 0 P a w K Q := fun {φ0 v0 wr0} h1 h2 h3 h4 h5 => by
    subst h2; subst h5
    obtain ⟨r, w', env', g1, g2, g3⟩ := qpP (P := P) (R := R) hi.mem (fun x => qcs hi.toInv x) hnew.1 (fun j hj => by rw [Nat.add_sub_cancel_left]; exact ⟨by unfold wi; omega, hnew.2 j hj⟩) hef h1
    refine ⟨fun _ _ => trivial, ?_⟩
    rw [Oper.semAt_eq _ _ _ (qke hef), g1]
    have fin : ∀ u, Rep w' (qn cx env' w') env' u v0 → K (a.put o.dst u) w' := fun u hu =>
     hK _ _ env' g2 (qeF h3 hu) fun s b x hx => by rw [show v0 = .gd s b x from hx] at h3; simp [zi] at h3
    rcases g3 with ⟨u, rfl, hu⟩ | ⟨rfl, hu⟩
    ·exact fin u (h4 _ _ _ hu)
    ·exact fin _ (h4 _ _ _ (by rw [hu]; exact .undef _))
   cases hl : vw i ops <;> simp only [hl, qg, qj] at e
   ·simp at e; obtain ⟨rfl, rfl, rfl⟩ := e
    exact run (φ0 := []) hφ rfl hn (fun _ _ _ h => h) rfl
   ·split at e
    ·rename_i dd ora0
     split at e
     ·rename_i b hv hwr
      simp at e; obtain ⟨rfl, rfl, rfl⟩ := e
      have hbd : b = dd := hφ _ (by simp)
      refine run (φ0 := []) (fun p hp => hφ p (by simp [hp])) hwr.symm rfl (fun u w' env' h => ?_) rfl
      rw [hv] at h
      rw [← hbd]; exact h
     ·simp at e
    ·simp at e
  ·simp at e
theorem qtC (hG : cx.Gok P) {used : List Nat} {st : St} {a : Act} (hi : InvR cx used st a w env) {ops : Array Oper} {i : Nat} {o : Oper} (ho : ops[i]? = some o) {ora ora' : List Or} {φ : List Prop} {dl : Dl} (e : xo P R ops.toList i o st ora = some (φ, dl, ora')) (hφ : zo φ)
  (hfree' : ∀ k, o.dst = some k → k ∉ wL ops.toList o) (hnew : qgL cx (o.dst.getD 0)) {K : Act → World → Prop} {Q : Exit → Act → World → Prop} (hK : Nxt cx st a w env (wL ops.toList o) dl K) : wpOpIn (FR ro) 0 P ops Q i K a w := by
 unfold wpOpIn
 simp only [ho]
 unfold xo at e
 split at e
 ·rename_i hg
  have hw : Region.wanted o (yielded ops a.tmps) = true := by simp [Region.wanted, hg]
  rw [qc hw]
  exact qpO hG hi e hφ hnew hK
 ·rename_i j b hg
  split at e
  ·rename_i s hs
   have hgs : wL ops.toList o = [s] := by simp [wL, hg, hs]
   have hwi := qyu (ops := ops) hg hs a
   split at e
   ·rename_i bv hbv
    cases hqo : (qjs o.op && !vw j ops.toList) <;> simp only [hqo, qg, qj] at e
    ·cases hng : zi (st.slots.getD s .undef) <;> simp only [hng, qg, qj] at e
     ·simp at e
     have hsv : a.tmps[s]? = some (.bool bv) := by
      have h := WC hi.toInv s
      unfold qE0 at hbv
      split at hbv
      ·rename_i b' e'
       simp at hbv; subst hbv
       rw [e'] at h
       exact qtx (qN h) (by simp [Go.undef])
      ·rename_i e'
       rw [e'] at hng; simp [zi] at hng
      ·simp at hbv
     have skip : bv ≠ b → some ([], (⟨o.dst, qcU, []⟩ : Dl), ora) = some (φ, dl, ora') → (if Region.wanted o (yielded ops a.tmps) = true then o.wpIn (FR ro) 0 P a w K Q else (∀ f, o.about P w a.eval = some f → (FR ro).fn f) ∧ K (a.put o.dst Go.undef) w) := fun hne e => by
      simp at e; obtain ⟨rfl, rfl, rfl⟩ := e
      have hw : ¬ Region.wanted o (yielded ops a.tmps) = true := fun h => by
       have := hwi.1 h
       rw [hsv] at this
       simp at this
       exact hne this
      rw [qi hw]
      refine ⟨fun _ _ => trivial, ?_⟩; exact hK _ _ env (.refl hi.mem) (show Rep w _ env Go.undef qcU from wn _) fun s b x hx => by simp [qcU] at hx
     have doit : bv = b → xo1 P R ops.toList i o st ora = some (φ, dl, ora') → (if Region.wanted o (yielded ops a.tmps) = true then o.wpIn (FR ro) 0 P a w K Q else (∀ f, o.about P w a.eval = some f → (FR ro).fn f) ∧ K (a.put o.dst Go.undef) w) := fun heq e => by
      have hw : Region.wanted o (yielded ops a.tmps) = true := hwi.2 (by rw [hsv, heq])
      rw [qc hw]
      exact qpO hG hi e hφ hnew hK
     cases bv <;> cases b <;> simp only at e
     ·exact doit rfl e
     ·exact skip (by simp) e
     ·exact skip (by simp) e
     ·exact doit rfl e
    ·split at e
     ·rename_i ef hef
      split at e
      ·rename_i hwr
       have hq : (vw i ops.toList || !zi ef.v) = false := by
        cases hq : (vw i ops.toList || !zi ef.v) with
        | false => rfl
        | true => rw [hq] at e; simp at e
       rw [hq] at e
       simp only [qg] at e
       simp only [v6, Bool.not_eq_false'] at hq
       simp at e; obtain ⟨rfl, rfl, rfl⟩ := e
       have sne : ∀ k, o.dst = some k → k ≠ s := fun k hk he => hfree' k hk (by rw [hgs, he]; simp)
       have tm : ∀ v, (a.put o.dst v).tmps[s]? = a.tmps[s]? := fun v => by
        cases hd : o.dst with
        | none => rfl
        | some k => simp [Act.put, Array.getElem?_setIfInBounds_ne (sne k hd)]
       by_cases hw : a.tmps[s]? = some (.bool b)
       ·rw [qc (hwi.2 hw)]
        have hbb : bv = b := by
         have h := WC hi.toInv s
         have hse : a.eval (.tmp s) = .bool b := by simp [Act.eval, hw]
         unfold qE0 at hbv
         split at hbv
         ·rename_i b' e'
          simp at hbv; subst hbv
          rw [e'] at h
          have := qN h
          rw [hse] at this
          simp at this; exact this.symm
         ·rename_i s' b' b'' e'
          simp at hbv; subst hbv
          rw [e'] at h
          by_cases hh : a.tmps[s']? = some (.bool b')
          ·have := qN (h.1 hh)
           rw [hse] at this
           simp at this; exact this.symm
          ·have := h.2 hh
           rw [hse] at this
           simp [Go.undef] at this
         ·simp at hbv
        have hφ' : zo ef.φ := fun p hp => qmk hi.toInv 3 s b hw p (hφ _ (List.mem_map.2 ⟨p, hp, rfl⟩))
        obtain ⟨r, w', env', g1, g2, g3⟩ := qpP (P := P) (R := R) hi.mem (fun x => qJB hi hw x) hnew.1 (fun j hj => by rw [Nat.add_sub_cancel_left]; exact ⟨by unfold wi; omega, hnew.2 j hj⟩) hef hφ'
        refine ⟨fun _ _ => trivial, ?_⟩
        rw [Oper.semAt_eq _ _ _ (qke hef), g1]
        rw [hwr] at g2
        have fin : ∀ u, Rep w' (qn cx env' w') env' u ef.v → K (a.put o.dst u) w' := fun u hu =>
         hK _ _ env' g2 (by
          simp only [W0]
          rw [tm u, hw]
          exact ⟨fun _ => hu, fun h => absurd rfl h⟩) fun s' b' x hx => by
           simp at hx; obtain ⟨rfl, rfl, rfl⟩ := hx
           exact ⟨by rw [hgs]; simp, hq.2⟩
        rcases g3 with ⟨u, rfl, hu⟩ | ⟨rfl, hu⟩
        ·exact fin u hu
        ·exact fin _ (by rw [hu]; exact .undef _)
       ·rw [qi (fun h => hw (hwi.1 h))]
        refine ⟨fun _ _ => trivial, ?_⟩
        refine hK _ _ env (.refl hi.mem) ?_ fun s' b' x hx => ?_
        ·simp only [W0]
         rw [tm Go.undef]
         refine ⟨fun h => absurd h hw, fun _ => ?_⟩
         first | rfl | trivial | simp [Act.put, Go.undef]
        ·simp at hx; obtain ⟨rfl, rfl, rfl⟩ := hx
         exact ⟨by rw [hgs]; simp, hq.2⟩
      ·simp at e
     ·simp at e
   ·cases hk : qbL (st.slots.getD s .undef) <;> simp only [hk, qg, qj] at e
    ·simp at e
    have hnw : ¬ Region.wanted o (yielded ops a.tmps) = true := fun h => by
     have h1 := hwi.1 h
     have h2 := WC hi.toInv s
     have h3 : a.eval (.tmp s) = .bool b := by simp [Act.eval, h1]
     unfold qbL at hk
     split at hk
     ·rename_i vs e'
      rw [e'] at h2
      have h4 := qN h2
      rw [h3] at h4
      simp at h4
     ·simp at hk
    simp at e; obtain ⟨rfl, rfl, rfl⟩ := e
    rw [qi hnw]
    refine ⟨fun _ _ => trivial, ?_⟩; exact hK _ _ env (.refl hi.mem) (show Rep w _ env Go.undef qcU from wn _) fun s b x hx => by simp [qcU] at hx
  ·simp at e
theorem qEs {ops : List Oper} {i : Nat} {o : Oper} {st : St} {ora ora' : List Or} {φ : List Prop} {dl : Dl} (e : xo P R ops i o st ora = some (φ, dl, ora')) : dl.dst = o.dst := by
 have h1 : ∀ {ora ora' : List Or} {φ : List Prop} {dl : Dl}, xo1 P R ops i o st ora = some (φ, dl, ora') → dl.dst = o.dst := fun {ora ora' φ dl} e => by
  unfold xo1 at e
  split at e
  ·split at e
   ·rename_i c _ φ' dl' ora'' he
    cases hn : zi dl'.v <;> simp only [hn, qg, qj] at e
    ·simp at e
    simp at e; obtain ⟨rfl, rfl, rfl⟩ := e
    have on1 : ∀ {g as ρ cr φ dl}, qa2 P R st.blks o.dst g as cr ρ = some (φ, dl) → dl.dst = o.dst := fun {g as ρ cr φ dl} e => by
     unfold qa2 at e
     repeat' split at e
     all_goals first
      | (simp at e; done)
      | (rename_i hb; revert e; cases YU (o.dst.getD 0) ρ (wt cr.modes as) cr <;> intro e
         ·simp at e
         ·simp at e; rw [← e.2])
    have on : ∀ {g as φ dl ora ora'}, YV P R st.blks o.dst g as ora = some (φ, dl, ora') → dl.dst = o.dst := fun {g as φ dl ora ora'} e => by
     unfold YV at e
     split at e
     ·split at e
      ·split at e
       ·rename_i h; simp at e; obtain ⟨rfl, rfl, rfl⟩ := e; exact on1 h
       ·simp at e
      ·split at e
       ·rename_i φ' dl' h
        revert e
        cases wZ (WW dl'.wr) <;> intro e
        ·simp at e
        ·simp only [qj, Option.some.injEq, Prod.mk.injEq] at e
         obtain ⟨rfl, rfl, rfl⟩ := e
         exact on1 (dl := dl') h
       ·simp at e
     ·simp at e
    have yn : ∀ {nm rc as φ dl ora ora'}, qeX P R st.blks o.dst nm rc as ora = some (φ, dl, ora') → dl.dst = o.dst := fun {nm rc as φ dl ora ora'} e => by
     unfold qeX at e
     split at e
     ·split at e
      ·rename_i φ' dl' h
       simp at e; obtain ⟨rfl, rfl, rfl⟩ := e
       unfold qgd at h
       generalize (qy as.length rc.ps.length && _) = bb at h
       cases bb
       ·simp at h
       ·simp only [qj] at h
        repeat' split at h
        all_goals first
         | (simp at h; done)
         | (revert h; cases YU (o.dst.getD 0) _ _ _ <;> intro h
            ·simp at h
            ·simp at h; rw [← h.2])
      ·simp at e
     ·simp at e
    unfold qqU at he
    split at he
    ·split at he
     ·exact on he
     ·exact on he
     ·split at he
      ·exact yn he
      ·simp at he
     ·simp at he
    ·simp at he
   ·simp at e
  ·split at e
   ·rename_i ef _
    cases hn : zi ef.v <;> simp only [hn, qg, qj] at e
    ·simp at e
    cases hl : vw i ops <;> simp only [hl, qg, qj] at e
    ·simp at e; obtain ⟨rfl, rfl, rfl⟩ := e; rfl
    ·split at e
     ·split at e
      ·simp at e; obtain ⟨rfl, rfl, rfl⟩ := e; rfl
      ·simp at e
     ·simp at e
   ·simp at e
 unfold xo at e
 split at e
 ·exact h1 e
 ·rename_i j w hg
  split at e
  ·rename_i s hs
   split at e
   ·rename_i b hb
    cases hq : (qjs o.op && !vw j ops) <;> simp only [hq, qg, qj] at e
    ·cases hn : zi (st.slots.getD s .undef) <;> simp only [hn, qg, qj] at e
     ·simp at e
     cases b <;> cases w <;> simp only at e
     ·exact h1 e
     ·simp at e; obtain ⟨rfl, rfl, rfl⟩ := e; rfl
     ·simp at e; obtain ⟨rfl, rfl, rfl⟩ := e; rfl
     ·exact h1 e
    ·split at e
     ·rename_i ef _
      split at e
      ·cases hq : (vw i ops || !zi ef.v) with
       | true => rw [hq] at e; simp at e
       | false => rw [hq] at e; simp at e; obtain ⟨rfl, rfl, rfl⟩ := e; rfl
      ·simp at e
     ·simp at e
   ·cases hk : qbL (st.slots.getD s .undef) <;> simp only [hk, qg, qj] at e
    ·simp at e
    simp at e; obtain ⟨rfl, rfl, rfl⟩ := e; rfl
  ·simp at e
theorem qnd (hG : cx.Gok P) (hh : ∀ n, ¬ cx.hid n) {ops : Array Oper} {Q : Exit → Act → World → Prop} : ∀ (rest : List Oper) (i : Nat) (used : List Nat) (st : St) (ora ora' : List Or) (φ : List Prop) (st' : St) (a : Act) (w : World) (env : Env), ops.toList.drop i = rest → InvR cx used st a w env →
  qtE P R ops.toList rest i used st ora = some (φ, st', ora') → zo φ → (∀ used' a' w' env', InvR cx used' st' a' w' env' → Q .normal a' w') → wpOpsIn (FR ro) 0 P ops Q (List.range' i rest.length) a w
 | [], i, used, st, ora, ora', φ, st', a, w, env, hr, hi, e, hφ, hQ => by
  simp [qtE] at e; obtain ⟨rfl, rfl, rfl⟩ := e
  exact hQ _ _ _ _ hi
 | o :: rest, i, used, st, ora, ora', φ, st', a, w, env, hr, hi, e, hφ, hQ => by
  simp only [qtE] at e
  split at e
  ·rename_i φ1 dl ora1 h1
   cases hfree : qnC (wL ops.toList o ++ used) o.dst <;> simp only [hfree, qg, qj] at e
   ·simp at e
   split at e
   ·rename_i φ2 st2 ora2 h2
    simp at e; obtain ⟨rfl, rfl, rfl⟩ := e
    have ho : ops[i]? = some o := by
     have : ops.toList[i]? = some o := by
      have := congrArg (·[0]?) hr
      simpa using this
     simpa using this
    rw [wB, List.range'_succ, wpOpsIn_cons]
    have hfree' : ∀ k, o.dst = some k → k ∉ wL ops.toList o ++ used := fun k hk hm => by
     rw [hk] at hfree
     simp only [qnC] at hfree
     rw [ww.2 hm] at hfree
     simp at hfree
    refine qtC hG hi ho h1 (fun p hp => hφ p (by simp [hp])) (fun k hk hm => hfree' k hk (by simp [hm])) (qOO hh _) (.of_inv hi (fun k hk => hfree' k (by rw [← qEs h1]; exact hk)) fun a' w' env' hi' => ?_)
    refine qnd hG hh rest (i + 1) _ _ _ _ _ _ _ _ _ ?_ hi' h2 (fun p hp => hφ p (by simp [hp])) hQ
    have := congrArg (Wm 1) hr
    simpa [List.drop_drop, Nat.add_comm] using this
   ·simp at e
  ·simp at e
end
end Go.AM
namespace Go.AM
open Go
def wJ (ancs : List (List Nat)) (k : Nat) : List Nat := ancs.getD k []
def qMK (n : Nat) (l : List Nat) : List Nat := bif wo n l then l else n :: l
def qEr : List Nat → List Nat → List Nat
 | [], m => m
 | n :: l, m => qMK n (qEr l m)
def qw1 (ancs : List (List Nat)) : List Edge → List Nat
 | [] => []
 | e :: r => bif Region.binds .any e then qMK e.on (qEr (wJ ancs e.on) (qw1 ancs r)) else qw1 ancs r
def qra : List Oper → List (List Nat) → List (List Nat)
 | [], acc => acc
 | o :: r, acc => qra r (acc ++ [qw1 acc o.after.toList])
def qq7 (p : Edge → Bool) : List Edge → Bool
 | [] => true
 | e :: r => p e && qq7 p r
def qrb (p : Edge → Bool) : List Edge → Bool
 | [] => false
 | e :: r => p e || qrb p r
def qng (p : Nat → Bool) : List Nat → Bool
 | [] => true
 | e :: r => p e && qng p r
def qq9 (ancs : List (List Nat)) (k : Nat) (o : Oper) : Bool :=
 qq7 (fun e => !Region.binds .any e || (Nat.blt e.on k && wo e.on (wJ ancs k))) o.after.toList &&
 qng (fun i => qrb (fun e => Region.binds .any e && (qy e.on i || wo i (wJ ancs e.on))) o.after.toList && Nat.blt i k) (wJ ancs k)
def qaU (ancs : List (List Nat)) (k j : Nat) : Bool := !Nat.beq j k && (!wo j (wJ ancs k) && !wo k (wJ ancs j))
def vo {α : Type} (p : Nat → Bool) (f : α → List Nat) : Nat → List α → List Nat
 | _, [] => []
 | j, x :: r => (bif p j then f x else []) ++ vo p f (j + 1) r
def qER (o : Oper) : List Nat := match o.dst with
 | some d => [d]
 | none => []
def qcN (ms : List Nat) : Nat → List AV → List AV
 | _, [] => []
 | i, x :: r => (bif wo i ms then .undef else x) :: qcN ms (i + 1) r
def qjk (hs : List Nat) : qL → qL
 | [] => []
 | (n, v, b) :: r => bif wo n hs then qjk hs r else (n, v, b) :: qjk hs r
def wp (L : Nat → Bool) : Nat → List Dl → St → St
 | _, [], st => st
 | k, d :: ds, st => wp L (k + 1) ds (bif L k then st.app d else st)
def wrN : List (Nat × Nat × Blk) → List Nat
 | [] => []
 | (n, _, _) :: r => n :: wrN r
def ZY (ancs nms : List (List Nat)) (k : Nat) : List Nat := vo (qaU ancs k) id 0 nms
def qfM (ops : List Oper) (ancs : List (List Nat)) (k : Nat) : List Nat := vo (qaU ancs k) qER 0 ops
def vD (ops : List Oper) (ancs nms : List (List Nat)) (k : Nat) (dls : List Dl) (st : St) : St :=
 {slots := qcN (qfM ops ancs k) 0 (wp (fun j => wo j (wJ ancs k)) 0 dls st).slots
  blks := qjk (ZY ancs nms k) (wp (fun j => wo j (wJ ancs k)) 0 dls st).blks }
def qjn (d : Nat) (hs : List Nat) : Nat → Bool
 | 0 => true
 | k + 1 => !wo (wi d k) hs && qjn d hs k
def qbI (ops : List Oper) (ancs : List (List Nat)) (k : Nat) (d : Nat) : Nat → List Oper → Bool
 | _, [] => true
 | j, o :: r => (!wo d (wL ops o) || wo k (wJ ancs j)) && qbI ops ancs k d (j + 1) r
def qkE (ops : List Oper) (ancs nms : List (List Nat)) (k : Nat) (o : Oper) (d : Dl) : Bool :=
 qq9 ancs k o && (qng (fun n => wo n (wJ nms k) && !wo n (ZY ancs nms k)) (wrN d.wr) &&
 (!wo (100 + o.dst.getD 0) (ZY ancs nms k) && (qjn (o.dst.getD 0) (ZY ancs nms k) 16 &&
 (match o.dst with
   | some s => qbI ops ancs k s 0 ops && !wo s (qfM ops ancs k)
   | none => true))))
def qtB (P : Program) [GT P] (R : wT) (ops : List Oper) (ancs nms : List (List Nat)) : List Oper → Nat → List Dl → St → List Or → Option (List Prop × List Dl × List Or)
 | [], _, dls, _, ora => some ([], dls, ora)
 | o :: r, k, dls, st, ora => match xo P R ops k o (vD ops ancs nms k dls st) ora with
  | some (φ, d, ora') => bif qkE ops ancs nms k o d then (match qtB P R ops ancs nms r (k + 1) (dls ++ [d]) st ora' with
   | some (φ', dls', ora'') => some (φ ++ φ', dls', ora'')
   | none => none) else none
  | none => none
def qn5 (P : Program) [GT P] (R : wT) (ops : List Oper) : List Oper → Nat → St → List Or → List (List Nat)
 | [], _, _, _ => []
 | o :: r, i, st, ora => match xo P R ops i o st ora with
  | some (_, d, ora') => wrN d.wr :: qn5 P R ops r (i + 1) (st.app d) ora'
  | none => []
def zq : List AV → Bool
 | [] => true
 | x :: r => zi x && zq r
theorem qe1 {p : Nat → Bool} : ∀ {l : List Nat}, qng p l = true ↔ ∀ n ∈ l, p n = true
 | [] => by simp [qng]
 | n :: l => by simp [qng, qe1 (l := l)]
theorem qq8 {p : Edge → Bool} : ∀ {l : List Edge}, qq7 p l = true ↔ ∀ n ∈ l, p n = true
 | [] => by simp [qq7]
 | n :: l => by simp [qq7, qq8 (l := l)]
theorem qrc {p : Edge → Bool} : ∀ {l : List Edge}, qrb p l = true ↔ ∃ n ∈ l, p n = true
 | [] => by simp [qrb]
 | n :: l => by simp [qrb, qrc (l := l)]
theorem QV {α : Type} {p : Nat → Bool} {f : α → List Nat} {n : Nat} : ∀ {l : List α} {k j : Nat} {x : α}, l[j]? = some x → p (k + j) = true → n ∈ f x → n ∈ vo p f k l
 | [], _, _, _, h, _, _ => by simp at h
 | y :: l, k, 0, x, h, hp, hn => by
  simp at h; subst h
  simp only [qS4] at hp
  simp [vo, hp, hn]
 | y :: l, k, j + 1, x, h, hp, hn => by
  have := QV (p := p) (f := f) (k := k + 1) (l := l) (j := j) (by simpa using h) (by rwa [show k + 1 + j = k + (j + 1) by omega]) hn
  simp [vo, this]
theorem qml (hs : List Nat) (nm : Nat) : ∀ bl : qL, qS (qjk hs bl) nm = if wo nm hs = true then none else qS bl nm
 | [] => by simp [qjk, qS]
 | (n, v, b) :: r => by
  have ih := qml hs nm r
  simp only [qjk]
  cases hn : wo n hs
  ·simp only [qg, qS]
   cases he : qy n nm
   ·simp [ih]
   ·have := qk he
    subst this
    simp [hn]
  ·simp only [qj, ih, qS]
   cases he : qy n nm
   ·simp
   ·have := qk he
    subst this
    simp [hn]
theorem qhK (ms : List Nat) : ∀ (l : List AV) (i : Nat), (qcN ms i l).length = l.length
 | [], _ => rfl
 | x :: l, i => by simp [qcN, qhK ms l]
theorem qpl (ms : List Nat) : ∀ (l : List AV) (i j : Nat), (qcN ms i l)[j]? = if wo (i + j) ms = true then l[j]?.map (fun _ => .undef) else l[j]?
 | [], _, _ => by simp [qcN]
 | x :: l, i, 0 => by
  simp only [qcN, qS4]
  cases wo i ms <;> simp
 | x :: l, i, j + 1 => by
  simp only [qcN, List.getElem?_cons_succ]
  rw [qpl ms l (i + 1) j, show i + 1 + j = i + (j + 1) by omega]
structure SameSt (s t : St) : Prop where
 slots : s.slots = t.slots
 blks : ∀ nm, qS s.blks nm = qS t.blks nm
theorem SameSt.refl (s : St) : SameSt s s := ⟨rfl, fun _ => rfl⟩
theorem SameSt.trans {s t u : St} (h : SameSt s t) (h' : SameSt t u) : SameSt s u := ⟨h.slots.trans h'.slots, fun nm => (h.blks nm).trans (h'.blks nm)⟩
theorem vL (nm : Nat) : ∀ (wr : List (Nat × Nat × Blk)) {bl bl' : qL}, qS bl nm = qS bl' nm → qS (we bl wr) nm = qS (we bl' wr) nm
 | [], _, _, h => h
 | (n, v, b) :: r, bl, bl', h => by
  simp only [we]
  refine vL nm r ?_
  rw [Qc, Qc, h]
theorem vr {nm : Nat} : ∀ (wr : List (Nat × Nat × Blk)) (bl : qL), nm ∉ wrN wr → qS (we bl wr) nm = qS bl nm
 | [], _, _ => rfl
 | (n, v, b) :: r, bl, h => by
  simp only [wrN, qK, not_or] at h
  simp only [we]
  rw [vr r _ h.2, Qc, qi h.1]
theorem SameSt.app {s t : St} (h : SameSt s t) (d : Dl) : SameSt (s.app d) (t.app d) :=
 ⟨by simp only [St.app, h.slots], fun nm => vL nm d.wr (h.blks nm)⟩
structure Apart (d d' : Dl) : Prop where
 dst : ∀ k, d.dst = some k → d'.dst ≠ some k
 wr : ∀ n, n ∈ wrN d.wr → n ∉ wrN d'.wr
theorem qEG (s : St) {d d' : Dl} (h : Apart d d') : SameSt ((s.app d).app d') ((s.app d').app d) := by
 constructor
 ·simp only [St.app]
  cases h1 : d.dst with
  | none => rfl
  | some k =>
   cases h2 : d'.dst with
   | none => rfl
   | some k' =>
    have hne : k ≠ k' := fun e => h.dst k h1 (by rw [h2, e])
    simp only [Wj]
    exact List.set_comm _ _ hne
 ·intro nm
  simp only [St.app]
  by_cases hn : nm ∈ wrN d.wr
  ·have hn' := h.wr nm hn
   rw [vr _ _ hn']
   exact vL nm d.wr (vr _ _ hn').symm
  ·rw [vr d.wr _ hn]
   exact vL nm d'.wr (vr _ _ hn)
theorem qoU {L : Nat → Bool} : ∀ (ds : List Dl) (b : Nat) {s t : St}, SameSt s t → SameSt (wp L b ds s) (wp L b ds t)
 | [], _, _, _, h => h
 | d :: ds, b, s, t, h => by
  simp only [wp]
  refine qoU ds (b + 1) ?_
  cases L b
  ·exact h
  ·exact h.app d
theorem qrd {L : Nat → Bool} {d : Dl} : ∀ (ds : List Dl) (b : Nat) (s : St), (∀ j e, ds[j]? = some e → L (b + j) = true → Apart d e) → SameSt (wp L b ds (s.app d)) ((wp L b ds s).app d)
 | [], _, s, _ => .refl _
 | e :: ds, b, s, h => by
  simp only [wp]
  have ih := fun s => qrd ds (b + 1) s fun j e' h1 h2 => h (j + 1) e' (by simpa using h1) (by rwa [show b + (j + 1) = b + 1 + j by omega])
  cases hb : L b
  ·exact ih s
  ·simp only [qj]
   exact (qoU ds (b + 1) (qEG s (h 0 e rfl (by simpa using hb)))).trans (ih (s.app e))
theorem qaE {L L' : Nat → Bool} : ∀ (ds : List Dl) (b : Nat) (s : St), (∀ j, j < ds.length → L (b + j) = L' (b + j)) → wp L b ds s = wp L' b ds s
 | [], _, _, _ => rfl
 | d :: ds, b, s, h => by
  simp only [wp]
  have h0 := h 0 (by simp)
  simp only [qS4] at h0
  rw [h0]
  exact qaE ds (b + 1) _ fun j hj => by
   have := h (j + 1) (by simpa using hj)
   rwa [show b + (j + 1) = b + 1 + j by omega] at this
theorem Yv {L : Nat → Bool} : ∀ (ds es : List Dl) (b : Nat) (s : St), wp L b (ds ++ es) s = wp L (b + ds.length) es (wp L b ds s)
 | [], _, _, _ => rfl
 | d :: ds, es, b, s => by
  simp only [qne, wp]
  rw [Yv ds es (b + 1), wB, show b + 1 + ds.length = b + (ds.length + 1) by omega]
theorem qgX {L : Nat → Bool} : ∀ (ds : List Dl) (b : Nat) (s : St), (∀ j, j < ds.length → L (b + j) = false) → wp L b ds s = s
 | [], _, _, _ => rfl
 | d :: ds, b, s, h => by
  have h0 := h 0 (by simp)
  simp only [qS4] at h0
  simp only [wp, h0, qg]
  exact qgX ds (b + 1) s fun j hj => by
   have := h (j + 1) (by simpa using hj)
   rwa [show b + (j + 1) = b + 1 + j by omega] at this
theorem qtJ {L L' : Nat → Bool} {ds : List Dl} {k : Nat} {d : Dl} (hk : ds[k]? = some d) (h0 : L k = false) (h1 : L' k = true) (hne : ∀ j, j ≠ k → L' j = L j)
  (hap : ∀ j e, ds[j]? = some e → k < j → L j = true → Apart d e) (s : St) : SameSt (wp L' 0 ds s) ((wp L 0 ds s).app d) := by
 have hlt := (List.getElem?_eq_some_iff.1 hk).1
 have hd : ds = ds.take k ++ d :: ds.drop (k + 1) := by
  conv => lhs; rw [← qlu k ds]
  congr 1
  rw [List.drop_eq_getElem_cons hlt]
  congr 1
  exact (List.getElem?_eq_some_iff.1 hk).2
 have hl : (ds.take k).length = k := by simp; omega
 have e1 : wp L' 0 ds s = wp L (k + 1) (ds.drop (k + 1)) ((wp L 0 (ds.take k) s).app d) := by
  rw [hd, Yv, hl, wX]
  simp only [wp, h1, qj]
  rw [qaE (L' := L) (ds.take k) 0 s fun j hj => hne _ (by omega)]
  rw [show (qS3 k ds ++ d :: Wm (k + 1) ds).drop (k + 1) = ds.drop (k + 1) by rw [← hd], show (qS3 k ds ++ d :: Wm (k + 1) ds).take k = ds.take k by rw [← hd]]
  exact qaE _ _ _ fun j _ => hne _ (by omega)
 have e2 : wp L 0 ds s = wp L (k + 1) (ds.drop (k + 1)) (wp L 0 (ds.take k) s) := by
  conv => lhs; rw [hd]
  rw [Yv, hl, wX]
  simp only [wp, h0, qg]
 rw [e1, e2]
 exact qrd _ _ _ fun j e h2 h3 => hap (k + 1 + j) e (by rw [List.getElem?_drop] at h2; exact h2) (by omega) h3
theorem qre (s : St) (d : Dl) (i : Nat) : (s.app d).slots[i]? = if d.dst = some i then s.slots[i]?.map (fun _ => d.v) else s.slots[i]? := by
 simp only [St.app]
 cases hd : d.dst with
 | none => simp
 | some k =>
  simp only [Wj, Option.some.injEq]
  by_cases h : k = i
  ·subst h
   by_cases hl : k < s.slots.length
   ·simp [hl]
   ·simp [hl]
  ·simp [h]
theorem qz1 {L L' : Nat → Bool} {i : Nat} : ∀ (ds : List Dl) (b : Nat) (s t : St), s.slots[i]? = t.slots[i]? → (∀ j d, ds[j]? = some d → d.dst = some i → L (b + j) = L' (b + j)) → (wp L b ds s).slots[i]? = (wp L' b ds t).slots[i]?
 | [], _, _, _, h, _ => h
 | d :: ds, b, s, t, h, hL => by
  simp only [wp]
  refine qz1 ds (b + 1) _ _ ?_ fun j e h1 h2 => by
   have := hL (j + 1) e (by simpa using h1) h2
   rwa [show b + (j + 1) = b + 1 + j by omega] at this
  by_cases hd : d.dst = some i
  ·have := hL 0 d rfl hd
   simp only [qS4] at this
   rw [this]
   cases L' b
   ·exact h
   ·simp only [qj, qre, hd, if_true, h]
  ·cases L b <;> cases L' b <;> simp only [qj, qg, qre, qi hd, h]
theorem qz0 {L L' : Nat → Bool} {nm : Nat} : ∀ (ds : List Dl) (b : Nat) (s t : St), qS s.blks nm = qS t.blks nm → (∀ j d, ds[j]? = some d → nm ∈ wrN d.wr → L (b + j) = L' (b + j)) → qS (wp L b ds s).blks nm = qS (wp L' b ds t).blks nm
 | [], _, _, _, h, _ => h
 | d :: ds, b, s, t, h, hL => by
  simp only [wp]
  refine qz0 ds (b + 1) _ _ ?_ fun j e h1 h2 => by
   have := hL (j + 1) e (by simpa using h1) h2
   rwa [show b + (j + 1) = b + 1 + j by omega] at this
  by_cases hd : nm ∈ wrN d.wr
  ·have := hL 0 d rfl hd
   simp only [qS4] at this
   rw [this]
   cases L' b
   ·exact h
   ·exact vL nm d.wr h
  ·cases L b <;> cases L' b <;> simp only [qj, qg, St.app, vr _ _ hd, h]
theorem qki {L : Nat → Bool} : ∀ (ds : List Dl) (b : Nat) (s : St), (wp L b ds s).slots.length = s.slots.length
 | [], _, _ => rfl
 | d :: ds, b, s => by
  simp only [wp]
  rw [qki ds]
  cases L b
  ·rfl
  ·simp only [qj, St.app]
   cases d.dst <;> simp [Wj]
end Go.AM
namespace Go.AM
open Go
section
variable {P : Program} [GT P] {R : wT} {cx : Cx} {w : World} {env : Env} {ro : Option Nat}
def Cx.hide (cx : Cx) (H : List Nat) : Cx := { cx with hid := fun n => n ∈ H }
theorem Mem.same {bl bl' : qL} (hm : Mem cx bl w env) (h : ∀ nm, qS bl' nm = qS bl nm) : Mem cx bl' w env :=
 ⟨fun nm v b e => hm.blk nm v b (by rw [← h]; exact e), fun nm e => hm.dom nm (by rw [← h]; exact e), fun nm e => by rw [h]; exact hm.vis nm e, hm.inj, hm.own, hm.gr, hm.frame, hm.vers, hm.ents⟩
theorem Mem.of_heap {bl : qL} {w' : World} (hw : w'.heap = w.heap) (ho : w'.os = w.os) (hp : w'.output = w.output) (hm : Mem cx bl w env) : Mem cx bl w' env := by
 have ok : ∀ B, qn cx env w B → qn cx env w' B := fun B h => ⟨h.1, by rw [hw]; exact h.2.1, h.2.2⟩
 refine ⟨fun nm v b e => ?_, hm.dom, hm.vis, hm.inj, fun nm v h B e q => ?_, ⟨by rw [hw]; exact hm.gr.size, ho.trans hm.gr.os, hp.trans hm.gr.out⟩, fun B h1 h2 => by rw [hw]; exact hm.frame B h1 h2, hm.vers, hm.ents⟩
 ·obtain ⟨h, e1, r⟩ := hm.blk nm v b e
  exact ⟨h, e1, r.mono ok (fun B o _ => zr (by rw [hw]) o) (Env.le_refl _) fun B _ => by rw [hw]⟩
 ·rw [hw]; exact hm.own nm v h B e q
theorem InvR.of_heap {used : List Nat} {st : St} {a : Act} {w' : World} (hw : w'.heap = w.heap) (ho : w'.os = w.os) (hp : w'.output = w.output) (hi : InvR cx used st a w env) : InvR cx used st a w' env := by
 have ok : ∀ B, qn cx env w B → qn cx env w' B := fun B h => ⟨h.1, by rw [hw]; exact h.2.1, h.2.2⟩
 have rep : ∀ {u x}, Rep w (qn cx env w) env u x → Rep w' (qn cx env w') env u x := fun h => h.mono ok (fun B o _ => zr (by rw [hw]) o) (Env.le_refl _)
 refine ⟨⟨hi.defers.mono (qR _) ok fun _ _ => by rw [hw], hi.size, fun i h => ?_, hi.mem.of_heap hw ho hp⟩, hi.gds⟩
 have := hi.slot i h
 revert this
 cases st.slots.getD i .undef <;> intro h
 case gd s b x => exact ⟨fun e => rep (h.1 e), h.2⟩
 all_goals exact rep h
theorem InvR.same {used used' : List Nat} {st st' : St} {a : Act} (hi : InvR cx used st a w env) (h : SameSt st' st) (hu : ∀ s ∈ used, s ∈ used') : InvR cx used' st' a w env := by
 obtain ⟨sl, bl⟩ := st
 obtain ⟨sl', bl'⟩ := st'
 obtain ⟨h1, h2⟩ := h
 simp only at h1 h2
 subst h1
 exact ⟨⟨hi.defers, hi.size, hi.slot, hi.mem.same h2⟩, fun i s b x e => ⟨hu s (hi.gds i s b x e).1, (hi.gds i s b x e).2⟩⟩
theorem qQB {bl blk : qL} {H : List Nat} (hm : Mem cx bl w env) (hh : ∀ n, ¬ cx.hid n) (hk : ∀ nm, qS blk nm = if wo nm H = true then none else qS bl nm) {wr : List (Nat × Nat × Blk)} {w' : World} {env' : Env}
  (T : Trans (cx.hide H) w env (we blk wr) w' env') (hw : ∀ n ∈ wrN wr, n ∉ H) : Trans cx w env (we bl wr) w' env' := by
 have hidden : ∀ nm, nm ∈ H → qS (we bl wr) nm = qS bl nm := fun nm h => vr _ _ fun e => hw nm e h
 have seen : ∀ nm, nm ∉ H → qS (we bl wr) nm = qS (we blk wr) nm := fun nm h => vL nm wr (by
  rw [hk, qi]; exact fun e => h (ww.1 e))
 refine ⟨⟨fun nm v b e => ?_, fun nm e _ => ?_, fun nm h => absurd h (hh nm), T.mem.inj, T.mem.own, T.mem.gr, T.mem.frame, T.mem.vers, T.mem.ents⟩, T.le, T.ok, T.cell, fun nm h => absurd h (hh nm)⟩
 ·by_cases h : nm ∈ H
  ·rw [hidden nm h] at e
   obtain ⟨x, hx, hr⟩ := hm.blk nm v b e
   obtain ⟨f1, f2⟩ := T.far nm h
   exact ⟨x, by rw [f1]; exact hx, hr.mono T.ok (fun B o hB => zr (T.cell B hB) o) T.le fun B q => f2 v x B hx q⟩
  ·rw [seen nm h] at e
   exact T.mem.blk nm v b e
 ·by_cases h : nm ∈ H
  ·rw [hidden nm h] at e
   rw [(T.far nm h).1]
   exact hm.dom nm e (hh nm)
  ·rw [seen nm h] at e
   exact T.mem.dom nm e h
theorem qe9 {α : Type} {p : Nat → Bool} {f : α → List Nat} {n : Nat} : ∀ {l : List α} {k : Nat}, n ∈ vo p f k l → ∃ j x, l[j]? = some x ∧ p (k + j) = true ∧ n ∈ f x
 | [], _, h => by simp [vo] at h
 | y :: l, k, h => by
  simp only [vo, zX] at h
  rcases h with h | h
  ·cases hp : p k
   ·simp [hp] at h
   ·rw [hp] at h
    exact ⟨0, y, rfl, by simpa using hp, h⟩
  ·obtain ⟨j, x, h1, h2, h3⟩ := qe9 h
   exact ⟨j + 1, x, by simpa using h1, by rwa [show k + (j + 1) = k + 1 + j by omega], h3⟩
theorem qhL {d : Nat} {hs : List Nat} : ∀ {n : Nat}, qjn d hs n = true → ∀ k, k < n → wi d k ∉ hs
 | 0, _, k, h => by omega
 | n + 1, e, k, h => by
  simp only [qjn, qh] at e
  by_cases hk : k = n
  ·subst hk
   intro hm
   rw [ww.2 hm] at e
   simp at e
  ·exact qhL e.2 k (by omega)
theorem qgk {ops : List Oper} {ancs : List (List Nat)} {k d : Nat} : ∀ {l : List Oper} {b j : Nat} {o : Oper}, qbI ops ancs k d b l = true → l[j]? = some o → d ∈ wL ops o → k ∈ wJ ancs (b + j)
 | [], _, _, _, _, h, _ => by simp at h
 | o' :: l, b, 0, o, e, h, hd => by
  simp at h; subst h
  simp only [qbI, qh, qGc] at e
  rw [ww.2 hd] at e
  simp at e
  exact ww.1 e.1
 | o' :: l, b, j + 1, o, e, h, hd => by
  simp only [qbI, qh] at e
  have := qgk e.2 (by simpa using h) hd
  rwa [show b + (j + 1) = b + 1 + j by omega]
structure Plan (P : Program) [GT P] (R : wT) (ops : Array Oper) (ancs nms : List (List Nat)) (dls : List Dl) (st : St) : Prop where
 len : dls.length = ops.size
 ok : ∀ k o, ops[k]? = some o → ∃ d φ ora ora', dls[k]? = some d ∧ qkE ops.toList ancs nms k o d = true ∧ xo P R ops.toList k o (vD ops.toList ancs nms k dls st) ora = some (φ, d, ora') ∧ zo φ
theorem qpM {ops : Array Oper} {ancs nms : List (List Nat)} {st : St} : ∀ (rest : List Oper) (k : Nat) (dls0 dls : List Dl) (ora ora' : List Or) (φ : List Prop), ops.toList.drop k = rest → dls0.length = k → qtB P R ops.toList ancs nms rest k dls0 st ora = some (φ, dls, ora') → zo φ →
  dls.length = k + rest.length ∧ dls.take k = dls0 ∧ ∀ j o, k ≤ j → ops[j]? = some o → ∃ d φ ora ora', dls[j]? = some d ∧ qkE ops.toList ancs nms j o d = true ∧ xo P R ops.toList j o (vD ops.toList ancs nms j dls st) ora = some (φ, d, ora') ∧ zo φ
 | [], k, dls0, dls, ora, ora', φ, hr, hl, e, hφ => by
  simp [qtB] at e; obtain ⟨rfl, rfl, rfl⟩ := e
  refine ⟨by simp [hl], by rw [← hl]; simp, fun j o hj ho => ?_⟩
  have : ops.size ≤ k := by
   have := congrArg qb hr
   simp at this; omega
  have := (Array.getElem?_eq_some_iff.1 ho).1
  omega
 | o :: rest, k, dls0, dls, ora, ora', φ, hr, hl, e, hφ => by
  simp only [qtB] at e
  split at e
  ·rename_i φ1 d ora1 h1
   cases hok : qkE ops.toList ancs nms k o d <;> simp only [hok, qg, qj] at e
   ·simp at e
   split at e
   ·rename_i φ2 dls2 ora2 h2
    simp at e; obtain ⟨rfl, rfl, rfl⟩ := e
    have hr' : ops.toList.drop (k + 1) = rest := by
     have := congrArg (Wm 1) hr
     simpa [List.drop_drop, Nat.add_comm] using this
    obtain ⟨i1, i2, i3⟩ := qpM rest (k + 1) (dls0 ++ [d]) dls2 ora1 ora2 φ2 hr' (by simp [hl]) h2 (fun p hp => hφ p (by simp [hp]))
    have hk : dls2[k]? = some d := by
     have := congrArg (·[k]?) i2
     simp only [List.getElem?_take] at this
     rw [qc (by omega)] at this
     rw [this, List.getElem?_append_right (by omega)]
     simp [hl]
    have ht : dls2.take k = dls0 := by
     have := congrArg (qS3 k) i2
     rw [List.take_take, Nat.min_eq_left (by omega)] at this
     rw [this, ← hl]; simp
    have hok' := hok
    refine ⟨by simp; omega, ht, fun j o' hj ho' => ?_⟩
    by_cases hjk : j = k
    ·subst hjk
     have : o' = o := by
      have h3 : ops.toList[j]? = some o := by
       have := congrArg (·[0]?) hr
       simpa using this
      rw [show ops.toList[j]? = ops[j]? by simp, ho'] at h3
      simpa using h3
     subst this
     have hlt : ∀ i, wo i (wJ ancs j) = true → i < j := fun i hi => by
      simp only [qkE, qq9, qh] at hok
      have := qe1.1 hok.1.2 i (ww.1 hi)
      simp only [qh] at this
      have := this.2
      simp [Nat.blt] at this
      omega
     have hb : vD ops.toList ancs nms j dls2 st = vD ops.toList ancs nms j dls0 st := by
      unfold vD
      have : wp (fun i => wo i (wJ ancs j)) 0 dls2 st = wp (fun i => wo i (wJ ancs j)) 0 dls0 st := by
       conv => lhs; rw [← qlu j dls2, ht]
       rw [Yv]
       refine qgX _ _ _ fun i _ => ?_
       cases h : wo (0 + dls0.length + i) (wJ ancs j) with
       | false => rfl
       | true => have := hlt _ h; omega
      rw [this]
     exact ⟨d, φ1, ora, ora1, hk, hok', by rw [hb]; exact h1, fun p hp => hφ p (by simp [hp])⟩
    ·exact i3 j o' (by omega) ho'
   ·simp at e
  ·simp at e
section
variable {ops : Array Oper} {ancs nms : List (List Nat)} {dls : List Dl} {st : St}
theorem Plan.anc (S : Plan P R ops ancs nms dls st) {k : Nat} {o : Oper} (ho : ops[k]? = some o) :
  (∀ e ∈ o.after, Region.binds .any e = true → e.on < k ∧ e.on ∈ wJ ancs k) ∧ ∀ i ∈ wJ ancs k, i < k ∧ ∃ e ∈ o.after, Region.binds .any e = true ∧ (e.on = i ∨ i ∈ wJ ancs e.on) := by
 obtain ⟨d, φ, ora, ora', h1, h2, h3, h4⟩ := S.ok k o ho
 simp only [qkE, qq9, qh] at h2
 refine ⟨fun e he hb => ?_, fun i hi => ?_⟩
 ·have := qq8.1 h2.1.1 e (Array.mem_toList_iff.2 he)
  simp only [hb, ve, vH, qh] at this
  exact ⟨by have := this.1; simp [Nat.blt] at this; omega, ww.1 this.2⟩
 ·have := qe1.1 h2.1.2 i hi
  simp only [qh] at this
  obtain ⟨e, he, hb⟩ := qrc.1 this.1
  simp only [qh, qGc] at hb
  refine ⟨by have := this.2; simp [Nat.blt] at this; omega, e, Array.mem_toList_iff.1 he, hb.1, hb.2.imp (fun h => qk h) ww.1⟩
theorem qpJ {k j : Nat} : qaU ancs k j = true ↔ j ≠ k ∧ j ∉ wJ ancs k ∧ k ∉ wJ ancs j := by
 unfold qaU
 simp only [qh, Bool.not_eq_true']
 constructor
 ·rintro ⟨h1, h2, h3⟩
  exact ⟨fun e => by rw [e, qe4] at h1; simp at h1, fun e => by rw [ww.2 e] at h2; simp at h2, fun e => by rw [ww.2 e] at h3; simp at h3⟩
 ·rintro ⟨h1, h2, h3⟩
  refine ⟨Vb h1, ?_, ?_⟩
  ·cases h : wo j (wJ ancs k) with
   | false => rfl
   | true => exact absurd (ww.1 h) h2
  ·cases h : wo k (wJ ancs j) with
   | false => rfl
   | true => exact absurd (ww.1 h) h3
theorem qgn {k n : Nat} {l : List (List Nat)} (h : n ∈ wJ l k) : ∃ m, l[k]? = some m ∧ n ∈ m := by
 unfold wJ at h
 rw [List.getD_eq_getElem?_getD] at h
 cases e : l[k]? with
 | none => simp [e] at h
 | some m => simp [e] at h; exact ⟨m, rfl, h⟩
structure OkOp (ops : Array Oper) (ancs nms : List (List Nat)) (k : Nat) (o : Oper) (d : Dl) : Prop where
 wrs : ∀ n ∈ wrN d.wr, n ∈ wJ nms k ∧ n ∉ ZY ancs nms k
 news : 100 + o.dst.getD 0 ∉ ZY ancs nms k ∧ ∀ i, i < 16 → wi (o.dst.getD 0) i ∉ ZY ancs nms k
 guards : ∀ s j oj, o.dst = some s → ops[j]? = some oj → s ∈ wL ops.toList oj → k ∈ wJ ancs j
 msk : ∀ s, o.dst = some s → s ∉ qfM ops.toList ancs k
theorem Plan.okOp (S : Plan P R ops ancs nms dls st) {k : Nat} {o : Oper} {d : Dl} (ho : ops[k]? = some o) (hd : dls[k]? = some d) : OkOp ops ancs nms k o d ∧ d.dst = o.dst := by
 obtain ⟨d', φ, ora, ora', h1, h2, h3, h4⟩ := S.ok k o ho
 rw [hd] at h1; simp at h1; subst h1
 refine ⟨?_, qEs h3⟩
 simp only [qkE, qh] at h2
 obtain ⟨_, g1, g2, g3, g4⟩ := h2
 have no : ∀ {n : Nat} {l : List Nat}, (!wo n l) = true → n ∉ l := fun {n l} h hm => by rw [ww.2 hm] at h; simp at h
 refine ⟨fun n hn => ?_, ⟨no g2, qhL g3⟩, fun s j oj hs hj hg => ?_, fun s hs => ?_⟩
 ·have := qe1.1 g1 n hn
  simp only [qh] at this
  exact ⟨ww.1 this.1, no this.2⟩
 ·rw [hs] at g4
  simp only [qh] at g4
  have := qgk g4.1 (show ops.toList[j]? = some oj by simpa using hj) hg
  rwa [wX] at this
 ·rw [hs] at g4
  simp only [qh] at g4
  exact no g4.2
theorem Plan.apart (S : Plan P R ops ancs nms dls st) {k j : Nat} {o oj : Oper} {d e : Dl} (ho : ops[k]? = some o) (hj : ops[j]? = some oj) (hd : dls[k]? = some d) (he : dls[j]? = some e) (hu : qaU ancs k j = true) : Apart d e := by
 obtain ⟨a1, a2⟩ := S.okOp ho hd
 obtain ⟨b1, b2⟩ := S.okOp hj he
 refine ⟨fun s hs hs' => ?_, fun n hn hn' => ?_⟩
 ·refine a1.msk s (by rw [← a2]; exact hs) (QV (k := 0) (l := ops.toList) (j := j) (x := oj) (by simpa using hj) (by simpa using hu) ?_)
  simp [qER, ← b2, hs']
 ·refine (a1.wrs n hn).2 ?_
  obtain ⟨m, hm, hnm⟩ := qgn (b1.wrs n hn').1
  exact QV (k := 0) (l := nms) (j := j) (x := m) hm (by simpa using hu) hnm
theorem qCU (S : Plan P R ops ancs nms dls st) {listed : Array Bool} (hs : listed.size = ops.size) (hr : Region.ready .any ops listed = []) : ∀ k, k < ops.size → listed.getD k false = true := by
 intro k
 induction k using Nat.strongRecOn with
 | ind k ih =>
  intro hk
  cases hl : listed.getD k false with
  | true => rfl
  | false =>
   have hk' : k < listed.size := by omega
   have ho : ops[k]? = some ops[k] := Array.getElem?_eq_getElem hk
   have : k ∈ Region.ready .any ops listed := mem_ready.2 ⟨by simp [hk'] at hl ⊢; exact hl, _, ho, fun e he hb => ih e.on ((S.anc ho).1 e he hb).1 (by have := ((S.anc ho).1 e he hb).1; omega)⟩
   rw [hr] at this; simp at this
theorem qz2 (hG : cx.Gok P) (hh : ∀ n, ¬ cx.hid n) (S : Plan P R ops ancs nms dls st) {Q : Exit → Act → World → Prop} (hQ : ∀ used a' w' env', InvR cx used (wp (fun _ => true) 0 dls st) a' w' env' → Q .normal a' w') :
  ∀ (fuel : Nat) (listed : Array Bool) (a : Act) (w : World) (env : Env), listed.size = ops.size → (∀ k, listed.getD k false = true → ∀ i ∈ wJ ancs k, listed.getD i false = true) → listed.countP (!·) ≤ fuel →
  InvR cx (vo (fun j => listed.getD j false) (wL ops.toList) 0 ops.toList) (wp (fun j => listed.getD j false) 0 dls st) a w env → wpAnyIn (FR ro) 0 P .any ops Q fuel listed a w := by
 have done : ∀ (listed : Array Bool) (a : Act) (w : World) (env : Env), listed.size = ops.size → InvR cx (vo (fun j => listed.getD j false) (wL ops.toList) 0 ops.toList) (wp (fun j => listed.getD j false) 0 dls st) a w env →
   Region.ready .any ops listed = [] → Q .normal a w := fun listed a w env hs hi hr => by
  refine hQ (vo (fun j => listed.getD j false) (wL ops.toList) 0 ops.toList) a w env ?_
  rw [qaE (L' := fun j => listed.getD j false) dls 0 st fun j hj => (qCU S hs hr (0 + j) (by rw [wX, ← S.len]; exact hj)).symm]
  exact hi
 intro fuel
 induction fuel with
 | zero =>
  intro listed a w env hs hc hn hi
  have hr : Region.ready .any ops listed = [] := by
   cases hr : Region.ready .any ops listed with
   | nil => rfl
   | cons k r =>
    have hk : k ∈ Region.ready .any ops listed := by rw [hr]; simp
    obtain ⟨h0, o, ho, _⟩ := mem_ready.1 hk
    have hlt : k < listed.size := by rw [hs]; exact (Array.getElem?_eq_some_iff.1 ho).1
    have : 0 < listed.countP (!·) := Array.countP_pos_iff.2 ⟨listed[k], Array.getElem_mem hlt, by simp [hlt] at h0; simp [h0]⟩
    omega
  exact ⟨hr, done listed a w env hs hi hr⟩
 | succ fuel ih =>
  intro listed a w env hs hc hn hi
  refine ⟨fun hr => done listed a w env hs hi hr, fun k hk => ?_⟩
  obtain ⟨h0, o, ho, hall⟩ := mem_ready.1 hk
  have hlt : k < listed.size := by rw [hs]; exact (Array.getElem?_eq_some_iff.1 ho).1
  have hk0 : listed.getD k false = false := by simp [hlt] at h0 ⊢; exact h0
  have hanc : ∀ i ∈ wJ ancs k, listed.getD i false = true := fun i hi => by
   obtain ⟨_, e, he, hb, h⟩ := (S.anc ho).2 i hi
   rcases h with h | h
   ·rw [← h]; exact hall e he hb
   ·exact hc e.on (hall e he hb) i h
  have hdes : ∀ j, listed.getD j false = true → k ∉ wJ ancs j := fun j hj hm => by
   have := hc j hj k hm
   rw [hk0] at this; simp at this
  obtain ⟨d, φ, ora, ora', hd, _, hxo, hφ⟩ := S.ok k o ho
  obtain ⟨ok1, hdst⟩ := S.okOp ho hd
  have set_k : (listed.setIfInBounds k true).getD k false = true := by simp [hlt]
  have set_ne : ∀ j, j ≠ k → (listed.setIfInBounds k true).getD j false = listed.getD j false := fun j hj => getD_set_ne false (Ne.symm hj)
  have other : ∀ j dj, dls[j]? = some dj → listed.getD j false = true → j ∉ wJ ancs k → Apart d dj := fun j dj hj hl hn => by
   have hjs : j < ops.size := by rw [← S.len]; exact (List.getElem?_eq_some_iff.1 hj).1
   exact S.apart ho (Array.getElem?_eq_getElem hjs) hd hj (qpJ.2 ⟨fun e => by rw [e, hk0] at hl; simp at hl, hn, hdes j hl⟩)
  have WK : SameSt (wp (fun j => (listed.setIfInBounds k true).getD j false) 0 dls st) ((wp (fun j => listed.getD j false) 0 dls st).app d) := by
   refine qtJ hd hk0 set_k set_ne (fun j e h1 h2 h3 => other j e h1 h3 fun hm => ?_) st
   have := ((S.anc ho).2 j hm).1
   omega
  have agree : ∀ j dj, dls[j]? = some dj → qaU ancs k j = false → wo j (wJ ancs k) = listed.getD j false := fun j dj hj hu => by
   cases hm : wo j (wJ ancs k) with
   | true => exact (hanc j (ww.1 hm)).symm
   | false =>
    cases hl : listed.getD j false with
    | false => rfl
    | true =>
     have : qaU ancs k j = true := qpJ.2 ⟨fun e => by rw [e, hk0] at hl; simp at hl, fun e => by rw [ww.2 e] at hm; simp at hm, hdes j hl⟩
     rw [hu] at this; simp at this
  have slots : ∀ i, i ∉ qfM ops.toList ancs k → (wp (fun j => wo j (wJ ancs k)) 0 dls st).slots[i]? = (wp (fun j => listed.getD j false) 0 dls st).slots[i]? := fun i hi => by
   refine qz1 dls 0 st st rfl fun j dj hj hdj => ?_
   rw [wX]
   refine agree j dj hj ?_
   cases hu : qaU ancs k j with
   | false => rfl
   | true =>
    have hjs : j < ops.size := by rw [← S.len]; exact (List.getElem?_eq_some_iff.1 hj).1
    have hoj : ops[j]? = some ops[j] := Array.getElem?_eq_getElem hjs
    exact absurd (QV (k := 0) (l := ops.toList) (j := j) (x := ops[j]) (by simp [hjs]) (by simpa using hu) (by simp [qER, ← (S.okOp hoj hj).2, hdj])) hi
  have blks : ∀ nm, nm ∉ ZY ancs nms k → qS (wp (fun j => wo j (wJ ancs k)) 0 dls st).blks nm = qS (wp (fun j => listed.getD j false) 0 dls st).blks nm := fun nm hn => by
   refine qz0 dls 0 st st rfl fun j dj hj hdj => ?_
   rw [wX]
   refine agree j dj hj ?_
   cases hu : qaU ancs k j with
   | false => rfl
   | true =>
    have hjs : j < ops.size := by rw [← S.len]; exact (List.getElem?_eq_some_iff.1 hj).1
    have hoj : ops[j]? = some ops[j] := Array.getElem?_eq_getElem hjs
    obtain ⟨m, hm, hnm⟩ := qgn ((S.okOp hoj hj).1.wrs nm hdj).1
    exact absurd (QV (k := 0) (l := nms) (j := j) (x := m) hm (by simpa using hu) hnm) hn
  have hbk : ∀ nm, qS (vD ops.toList ancs nms k dls st).blks nm = if wo nm (ZY ancs nms k) = true then none else qS (wp (fun j => listed.getD j false) 0 dls st).blks nm := fun nm => by
   unfold vD
   simp only
   rw [qml]
   by_cases h : wo nm (ZY ancs nms k) = true
   ·simp [h]
   ·simp only [h]
    exact blks nm fun e => h (ww.2 e)
  have inv : InvR (cx.hide (ZY ancs nms k)) (vo (fun j => listed.getD j false) (wL ops.toList) 0 ops.toList) (vD ops.toList ancs nms k dls st) a w env := by
   have hlen : (vD ops.toList ancs nms k dls st).slots.length = (wp (fun j => listed.getD j false) 0 dls st).slots.length := by
    unfold vD
    simp only
    rw [qhK, qki, qki]
   have hget : ∀ i, (vD ops.toList ancs nms k dls st).slots[i]? = if wo i (qfM ops.toList ancs k) = true then (wp (fun j => wo j (wJ ancs k)) 0 dls st).slots[i]?.map (fun _ => .undef) else (wp (fun j => listed.getD j false) 0 dls st).slots[i]? := fun i => by
    unfold vD
    simp only
    rw [qpl, wX]
    by_cases h : wo i (qfM ops.toList ancs k) = true
    ·simp [h]
    ·simp only [h]
     exact slots i fun e => h (ww.2 e)
   refine ⟨⟨hi.defers, by rw [hlen]; exact hi.size, fun i h => ?_, ⟨fun nm v b e => ?_, fun nm e hnh => ?_, fun nm hnh => ?_, hi.mem.inj, hi.mem.own, hi.mem.gr, hi.mem.frame, hi.mem.vers, hi.mem.ents⟩⟩, fun i s b x e => ?_⟩
   ·have hg := hget i
    rw [List.getD_eq_getElem?_getD, hg]
    by_cases hm : wo i (qfM ops.toList ancs k) = true
    ·rw [qc hm]
     cases (wp (fun j => wo j (wJ ancs k)) 0 dls st).slots[i]? <;> exact Rep.undef _
    ·rw [qi hm, ← List.getD_eq_getElem?_getD]
     exact hi.slot i (by rw [← hlen]; exact h)
   ·rw [hbk] at e
    split at e
    ·simp at e
    ·exact hi.mem.blk nm v b e
   ·rw [hbk, qi (fun h => hnh (ww.1 h))] at e
    exact hi.mem.dom nm e (hh nm)
   ·rw [hbk, qc (ww.2 hnh)]
   ·rw [hget] at e
    split at e
    ·cases he : (wp (fun j => wo j (wJ ancs k)) 0 dls st).slots[i]? <;> simp [he] at e
    ·exact hi.gds i s b x e
  have hnews : qgL (cx.hide (ZY ancs nms k)) (o.dst.getD 0) := ⟨⟨by omega, ok1.news.1⟩, fun i hi => ok1.news.2 i hi⟩
  have nog : ∀ s j oj, o.dst = some s → listed.getD j false = true ∨ j = k → ops[j]? = some oj → s ∉ wL ops.toList oj := fun s j oj hs hl hj hm => by
   have := ok1.guards s j oj hs hj hm
   rcases hl with hl | hl
   ·exact hdes j hl this
   ·subst hl
    have := ((S.anc ho).2 j this).1
    omega
  refine qtC (cx := cx.hide (ZY ancs nms k)) hG inv ho hxo hφ (fun s hs => nog s k o hs (.inr rfl) ho) hnews fun v w' env' T hv hg => ?_
  have T' : Trans cx w env (we (wp (fun j => listed.getD j false) 0 dls st).blks d.wr) w' env' := qQB hi.mem hh hbk T fun n hn => (ok1.wrs n hn).2
  have hfree : ∀ s, d.dst = some s → s ∉ wL ops.toList o ++ vo (fun j => listed.getD j false) (wL ops.toList) 0 ops.toList := fun s hs hm => by
   rw [hdst] at hs
   rcases zX.1 hm with hm | hm
   ·exact nog s k o hs (.inr rfl) ho hm
   ·obtain ⟨j, oj, h1, h2, h3⟩ := qe9 hm
    rw [wX] at h2
    exact nog s j oj hs (.inl h2) (by simpa using h1) h3
  have hi' : InvR cx (wL ops.toList o ++ vo (fun j => listed.getD j false) (wL ops.toList) 0 ops.toList) ((wp (fun j => listed.getD j false) 0 dls st).app d) (a.put d.dst v) w' env' :=
   qeA hi T' (fun s hs => zX.2 (.inr hs)) hfree (fun _ _ => hv) fun _ _ s b x e => ⟨by simp [(hg s b x e).1], (hg s b x e).2⟩
  refine ih (listed.setIfInBounds k true) _ w' env' (by simp [hs]) (fun j hj i hi => ?_) ?_ (hi'.same WK fun s hs => ?_)
  ·by_cases hik : i = k
   ·rw [hik]; exact set_k
   rw [set_ne i hik]
   by_cases hjk : j = k
   ·subst hjk; exact hanc i hi
   ·rw [set_ne j hjk] at hj
    exact hc j hj i hi
  ·have hlk : listed[k] = false := by simp [hlt] at h0; exact h0
   have : (listed.set k true hlt).countP (!·) = listed.countP (!·) - (if (!listed[k]) = true then 1 else 0) + (if (!true) = true then 1 else 0) := Array.countP_set hlt
   rw [Array.setIfInBounds, dif_pos hlt, this, hlk]
   simp
   omega
  ·rcases zX.1 hs with hs | hs
   ·exact QV (k := 0) (l := ops.toList) (j := k) (x := o) (by simpa using ho) (by simp [hlt]) hs
   ·obtain ⟨j, oj, h1, h2, h3⟩ := qe9 hs
    rw [wX] at h2
    refine QV (k := 0) (l := ops.toList) (j := j) (x := oj) h1 ?_ h3
    rw [wX]
    by_cases hjk : j = k
    ·subst hjk; exact set_k
    ·rw [set_ne j hjk]; exact h2
theorem qxI (hG : cx.Gok P) (hh : ∀ n, ¬ cx.hid n) (hm : P.follows .mixedOrders = true) {id : Nat} (S : Plan P R ops ancs nms dls st) {a : Act} (hi : Inv cx st a w env) (hng : zq st.slots = true) {Q : Exit → Act → World → Prop}
  (hQ : ∀ used a' w' env', InvR cx used (wp (fun _ => true) 0 dls st) a' w' env' → Q .normal a' w') : (Code.region id ops true).wpIn (FR ro) 0 P Q a w := by
 have f : ∀ j, (Array.replicate ops.size false).getD j false = false := fun j => by
  simp [Array.getElem?_replicate]
  split <;> rfl
 have nog : ∀ (l : List AV), zq l = true → ∀ (i s : Nat) (b : Bool) (x : AV), l[i]? ≠ some (AV.gd s b x) := by
  intro l
  induction l with
  | nil => intro _ i s b x; simp
  | cons y l ih =>
   intro h i s b x
   simp only [zq, qh] at h
   cases i with
   | zero => intro e; simp at e; rw [e] at h; simp [zi] at h
   | succ i => simpa using ih h.2 i s b x
 refine wpIn_region_any hm (qz2 hG hh S hQ ops.size _ a _ env (by simp) (fun k hk => by rw [f] at hk; simp at hk) ?_ ?_)
 ·have := Array.countP_le_size (p := (!·)) (xs := Array.replicate ops.size false)
  simpa using this
 ·have e : wp (fun j => (Array.replicate ops.size false).getD j false) 0 dls st = st := qgX _ _ _ fun j _ => f _
  rw [e]
  refine InvR.of_heap (w := w) rfl rfl rfl ⟨hi, fun i s b x e => absurd e (nog _ hng i s b x)⟩
end
end
end Go.AM
namespace Go.AM
open Go
def qoR (P : Program) [GT P] (R : wT) (ops : List Oper) (draw : Bool) (st : St) (ora : List Or) : Option (List Prop × St × List Or) :=
 bif zq st.slots then (match draw with
  | false => match qtE P R ops ops 0 [] st ora with
   | some (φ, s, ora') => some (φ, ⟨Qz s.slots, s.blks⟩, ora')
   | none => none
  | true => match qtB P R ops (qra ops []) (qn5 P R ops ops 0 st ora) ops 0 [] st ora with
   | some (φ, dls, ora') => match wp (fun _ => true) 0 dls st with
    | s => some (φ, ⟨Qz s.slots, s.blks⟩, ora')
   | none => none)
 else none
inductive Wy where
 | of (fn : Func)
 | round
def qjv : Func := { name := "", origin := "", params := #[], resultTypes := #[], nfree := 0, ntmps := 1, tmpNames := #[], results := #[.tmp 0], body := none, norace := false }
def Wy.fn : Wy → Func
 | .of f => f
 | .round => qjv
def Wy.rd : Wy → Bool
 | .of _ => false
 | .round => true
instance : Coe Func Wy := ⟨.of⟩
def vX : Code → Nat
 | .region id _ _ => id
 | .seq a b => match vX a with
  | 9999 => vX b
  | n => n
 | .block _ c => vX c
 | .loop c => vX c
 | _ => 9999
def qGa : Operand → List Nat
 | .tmp t => [t]
 | _ => []
def XI : Code → List Nat
 | .region _ ops _ => zB (fun o => zB qGa (Op.operands o.op).toList) ops.toList
 | .seq a b => XI a ++ XI b
 | .block _ c => XI c
 | .loop c => XI c
 | .scope c => XI c
 | .cond x a b => qGa x ++ (XI a ++ XI b)
 | .rangeFunc g _ a b => qGa g ++ (XI a ++ XI b)
 | _ => []
def Xq (us : List Nat) : Nat → List AV → List AV
 | _, [] => []
 | i, x :: l => (bif wo i us then ung x else .undef) :: Xq us (i + 1) l
def isNone {α : Type} : Option α → Bool
 | none => true
 | some _ => false
def qxd : Option Code → LoopState
 | none => .ready
 | some _ => .done
def qin (rd : Bool) (jump : Option Code) (st : St) : Option St := match rd with
 | false => (match jump with
  | none => some st
  | some c => match c with
   | .ret => some st
   | _ => none)
 | true => match qS st.blks 0 with
  | some (0, .loop _ _ rc sl) => some ⟨[.r (.v (.bool (isNone jump)))], z7 st.blks 0 0 (.loop (qxd jump) jump rc sl)⟩
  | _ => none
def Xs (st : St) (nm : Nat) (ps : Array Nat) (tys : List TypeId) (asg body : Code) : qL :=
 z7 st.blks nm (q7 st.blks nm) (.loop .ready none ⟨ps.toList, tys, asg, body⟩ (Xq (XI asg ++ XI body) 0 st.slots))
def qaa (rd : Bool) (bl : qL) : Bool := match rd with
 | false => true
 | true => match qS bl 0 with
  | some (0, .loop _ _ _ _) => true
  | _ => false
def qlr (P : Program) (f : Nat) (i : Nat) : List TypeId := match P.funcs.toList[f]? with
 | some fn => match fn.params.toList[i]? with
  | some t => match P.underlying t with
   | some (.func ps _ _) => ps.toList
   | _ => []
  | none => []
 | none => []
def qjK (P : Program) [GT P] (R : wT) (st : St) (nm : Nat) (f : Nat) (first captured : List AV) (ps : Array Nat) (asg body : Code) (ora : List Or) : Option (List Prop × St × Option Code × List Or) :=
 match YV P R (Xs st nm ps (qlr P f first.length) asg body) none f (first ++ (.own nm (q7 st.blks nm) :: captured)) ora with
 | some (φ, dl, ora') => match qS (we (Xs st nm ps (qlr P f first.length) asg body) dl.wr) nm with
  | some (v, .loop s p rc sl) => bif qy v (q7 st.blks nm) && (match s with
    | .busy => false
    | _ => true) then
    some (φ, ⟨st.slots, z7 (we (Xs st nm ps (qlr P f first.length) asg body) dl.wr) nm v (.loop .exhausted p rc sl)⟩, p, ora') else none
  | _ => none
 | none => none
def qtF (P : Program) [GT P] (R : wT) (rd : Bool) (st : St) (g : Operand) (ps : Array Nat) (asg body : Code) (ora : List Or) : Option (List Prop × St × Option Code × List Or) :=
 bif qaa rd st.blks && zq st.slots then (match Ve st.slots [] g with
  | .fn (.func f) first captured => qjK P R st (3000000 + vX (.seq asg body)) f first captured ps asg body ora
  | .r (.v (.func (.func f) first captured)) => qjK P R st (3000000 + vX (.seq asg body)) f (zd first.toList) (zd captured.toList) ps asg body ora
  | _ => none) else none
def qhE : Option Code → List Item
 | none => []
 | some c => [.code c]
inductive XRes where
 | at (todo : List Item) (st : St)
 | ret (st : St)
def vd (P : Program) [GT P] (R : wT) (rd : Bool) (todo : List Item) (st : St) (ora : List Or) : Option (List Prop × XRes × List Or) :=
 match todo with
 | [] => match qin rd none st with
  | some st' => some ([], .ret st', ora)
  | none => none
 | .inBlock _ :: k => some ([], .at k st, ora)
 | .inScope _ :: k => some ([], .at k st, ora)
 | .beginRound :: k => (match rd with
  | true => (match qS st.blks 0 with
   | some (0, .loop s p rc sl) => (match s with
    | .ready => some ([], .at k ⟨st.slots, z7 st.blks 0 0 (.loop .busy p rc sl)⟩, ora)
    | _ => none)
   | _ => none)
  | false => none)
 | .inLoop c :: k => some ([], .at (.code c :: .inLoop c :: k) st, ora)
 | .code c :: k => match c with
  | .skip => some ([], .at k st, ora)
  | .label _ => some ([], .at k st, ora)
  | .seq x y => some ([], .at (.code x :: .code y :: k) st, ora)
  | .block id c => some ([], .at (.code c :: .inBlock id :: k) st, ora)
  | .scope c => some ([], .at (.code c :: .inScope c :: k) st, ora)
  | .loop c => some ([], .at (.code c :: .inLoop c :: k) st, ora)
  | .exit id => match exitTo id k with
   | some k' => some ([], .at k' st, ora)
   | none => match rd with
    | true => (match qin true (some (.exit id)) st with
     | some st' => some ([], .ret st', ora)
     | none => none)
    | false => none
  | .ret => match qin rd (some .ret) st with
   | some st' => some ([], .ret st', ora)
   | none => none
  | .rangeFunc g ps asg body => match qtF P R rd st g ps asg body ora with
   | some (φ, st', p, ora') => some (φ, .at (qhE p ++ k) st', ora')
   | none => none
  | .cond x c1 c2 => match Ve st.slots [] x with
   | .r (.v (.bool b)) => match ora with
    | .d d :: ora' => some ([b = d], .at (.code (match d with
      | true => c1
      | false => c2) :: k) st, ora')
    | _ => none
   | _ => none
  | .region _ ops draw => match qoR P R ops.toList draw st ora with
   | some (φ, st', ora') => some (φ, .at k st', ora')
   | none => none
  | _ => none
 | _ => none
def qqL (ls : List Nat) (todo : List Item) : Bool := match todo with
 | [] => false
 | it :: _ => match it with
  | .inLoop _ => true
  | .code c => match c with
   | .loop _ => true
   | .region id _ _ => wo id ls
   | _ => false
  | _ => false
def qlq (P : Program) [GT P] (R : wT) (rd : Bool) (m : List Nat) : Nat → List Item → St → List Or → Option (List Prop × XRes × List Or)
 | 0, _, _, _ => none
 | n + 1, todo, st, ora => match vd P R rd todo st ora with
  | some (φ, .at todo' st', ora') => bif qqL m todo' then some (φ, .at todo' st', ora') else (match qlq P R rd m n todo' st' ora' with
   | some (φ', r, ora'') => some (φ ++ φ', r, ora'')
   | none => none)
  | some (φ, .ret st', ora') => some (φ, .ret st', ora')
  | none => none
theorem qtu {P : Program} {b : Frame} {a : Act} {k : List Item} {cs : List Frame} {w : World} {c : Code} : step P (lone (b.atR a (.code (.scope c) :: k)) cs w) = .next (lone (b.atR a (.code c :: .inScope c :: k)) cs w) :=
 step_lone_go (by simp [stepG, stepG.exec, Frame.atR])
theorem qoN {P : Program} {b : Frame} {a : Act} {k : List Item} {cs : List Frame} {w : World} {c : Code} : step P (lone (b.atR a (.inScope c :: k)) cs w) = .next (lone (b.atR a k) cs w) :=
 step_lone_go (by simp [stepG, stepG.exec, Frame.atR])
def Leaves (P : Program) [GT P] (fn : Wy) (cx : Cx) (res : AV) (bout : List (Nat × Blk)) (b : Frame) (cs : List Frame) (m : Machine) : Prop := match fn with
 | .of fn => b.roundOf = none → ∃ a' w' todo, Steps P m (lone { b.atR a' todo with mode := .returning } cs w') ∧ a'.defers = [] ∧ ∃ v env', (results fn a'.tmps).run P w' = .ok v w' ∧ Mem cx (z6 0 bout) w' env' ∧ Rep w' (qn cx env' w') env' v res
 | .round => ∀ l c cs', b.roundOf = some l → b.kind = .normal → cs = c :: cs' → cx.ent 0 = some (.func (.yield l) #[] #[]) → ∃ v w' env', Steps P m (lone (c.finish v) cs' w') ∧ Mem cx (z6 0 bout) w' env' ∧ Rep w' (qn cx env' w') env' v res
def Ev (P : Program) [GT P] (fn : Wy) (m : Nat) (todo : List Item) (st : St) (res : AV) (bout : List (Nat × Blk)) : Prop :=
 ∀ (cx : Cx), cx.Gok P → (∀ n, ¬ cx.hid n) → (∀ nm h, cx.ent nm = some h → nm < m) → ∀ (b : Frame) (cs : List Frame) (a : Act) (w : World) (env : Env), Inv cx st a w env → Leaves P fn cx res bout b cs (lone (b.atR a todo) cs w)
def EvR (P : Program) [GT P] (fn : Wy) (m : Nat) (st : St) (res : AV) (bout : List (Nat × Blk)) : Prop :=
 ∀ (cx : Cx), cx.Gok P → (∀ n, ¬ cx.hid n) → (∀ nm h, cx.ent nm = some h → nm < m) → ∀ (a : Act) (w : World) (env : Env), Inv cx st a w env →
  ∃ v env', (results fn.fn a.tmps).run P w = .ok v w ∧ Mem cx (z6 0 bout) w env' ∧ Rep w (qn cx env' w) env' v res
def XOk (P : Program) [GT P] (fn : Wy) (m : Nat) (r : XRes) (res : AV) (bout : List (Nat × Blk)) : Prop := match r with
 | .at todo st => Ev P fn m todo st res bout
 | .ret st => EvR P fn m st res bout
section
variable {P : Program} [GT P] {R : wT} {cx : Cx} {w : World} {env : Env} {ro : Option Nat}
theorem Leaves.of_steps {fn : Wy} {res : AV} {bout : List (Nat × Blk)} {b : Frame} {cs : List Frame} {m m' : Machine} (h : Steps P m m') (h' : Leaves P fn cx res bout b cs m') : Leaves P fn cx res bout b cs m := by
 cases fn with
 | of fn =>
  intro hb
  obtain ⟨a', w', todo, hs, h2⟩ := h' hb
  exact ⟨a', w', todo, h.trans hs, h2⟩
 | round =>
  intro l c cs' hb hk hc he
  obtain ⟨v, w', env', hs, h2⟩ := h' l c cs' hb hk hc he
  exact ⟨v, w', env', h.trans hs, h2⟩
theorem qJN {st : St} {a : Act} {w' : World} {D : Nat} (hi : Inv cx st a w env) (hD : qlv cx w env D) (hs : w'.heap.size = w.heap.size) (ho : w'.os = w.os) (hp : w'.output = w.output) (hk : ∀ B, B ≠ D → w'.heap[B]? = w.heap[B]?) (hc : ∀ o, w'.cell? ⟨D, o, none⟩ = w.cell? ⟨D, o, none⟩) {ds : List Deferred} (hds : Marks cx w' env ds) :
  Inv cx st { a with defers := ds } w' env := by
 obtain ⟨d1, d2, d3⟩ := hD
 have ok : ∀ B, qn cx env w B → qn cx env w' B := fun B h => ⟨h.1, by rw [hs]; exact h.2.1, h.2.2⟩
 have cell : ∀ B o, qn cx env w B → w'.cell? ⟨B, o, none⟩ = w.cell? ⟨B, o, none⟩ := fun B o _ => by
  by_cases e : B = D
  ·subst e; exact hc o
  ·exact zr (hk B e) o
 have rep : ∀ {u x}, Rep w (qn cx env w) env u x → Rep w' (qn cx env w') env u x := fun h => h.mono ok cell (Env.le_refl _)
 have hm := hi.mem
 refine ⟨hds, hi.size, fun i h => ?_, ⟨fun nm v b e => ?_, hm.dom, hm.vis, hm.inj, fun nm v h B e q => by rw [hs]; exact hm.own nm v h B e q, ⟨by rw [hs]; exact hm.gr.size, ho.trans hm.gr.os, hp.trans hm.gr.out⟩, fun B h1 h2 => ?_, hm.vers, hm.ents⟩⟩
 ·have := hi.slot i h
  revert this
  cases st.slots.getD i .undef <;> intro h
  case gd s b x => exact ⟨fun e => rep (h.1 e), h.2⟩
  all_goals exact rep h
 ·obtain ⟨h, e1, r⟩ := hm.blk nm v b e
  exact ⟨h, e1, r.mono ok cell (Env.le_refl _) fun B q => hk B fun e => d2.2.2 _ _ _ e1 (by rw [← e]; exact q)⟩
 ·rw [hk B (by omega)]; exact hm.frame B h1 h2
theorem qpk {st : St} {b : Frame} {cs : List Frame} {todo : List Item} : ∀ (Ds : List Nat) {a : Act} {w : World}, a.defers = Ds.map Vi → Ds.Nodup → (∀ D ∈ Ds, qlv cx w env D) → Inv cx st a w env →
  ∃ w', Steps P (lone { b.atR a todo with mode := .returning } cs w) (lone { b.atR { a with defers := [] } todo with mode := .returning } cs w') ∧ Inv cx st { a with defers := [] } w' env
 | [], a, w, he, _, _, hi => by
  have e : ({ a with defers := [] } : Act) = a := by cases a; simp at he; simp [he]
  exact ⟨w, by rw [e]; exact .refl _ _, by rw [e]; exact hi⟩
 | D :: Ds, a, w, he, hn, hk, hi => by
  obtain ⟨n1, n2⟩ := List.nodup_cons.1 hn
  have hD := hk D (by simp)
  have hlt : D < w.heap.size := hD.2.1.2.1
  have hk' : ∀ B, B ≠ D → (w.putObj D (.deferred none)).heap[B]? = w.heap[B]? := fun B h => World.putObj_heap_other h
  have hms : ∀ D' ∈ Ds, qlv cx (w.putObj D (.deferred none)) env D' := fun D' h => by
   have h1 := hk D' (by simp [h])
   have hne : D' ≠ D := fun e => n1 (e ▸ h)
   exact ⟨h1.1, ⟨h1.2.1.1, by rw [World.putObj_size]; exact h1.2.1.2.1, h1.2.1.2.2⟩, by rw [hk' D' hne]; exact h1.2.2⟩
  have hi' : Inv cx st { a with defers := Ds.map Vi } (w.putObj D (.deferred none)) env :=
   qJN hi hD World.putObj_size rfl rfl hk' (fun o => by simp [World.cell?, World.putObj_heap_same hlt, hD.2.2]) ⟨Ds, rfl, n2, hms⟩
  obtain ⟨w', hs, hi''⟩ := qpk Ds (a := { a with defers := Ds.map Vi }) rfl n2 hms hi'
  refine ⟨w', Steps.head ?_ hs, hi''⟩
  have := step_collected (P := P) (fr := { b.atR a todo with mode := .returning }) (cs := cs) (w := w) (d := Vi D) (ds := Ds.map Vi) (calls := []) (r := D) (by simp) (by simp [Frame.atR, he]) rfl (run_takeDeferred hD.2.2)
  rw [this]
  rfl
theorem qsc {fn : Func} {m : Nat} {st : St} {res : AV} {bout : List (Nat × Blk)} (hG : cx.Gok P) (hh : ∀ n, ¬ cx.hid n) (hent : ∀ nm h, cx.ent nm = some h → nm < m) (h : EvR P (.of fn) m st res bout) {b : Frame} {cs : List Frame} {a : Act} {todo : List Item} (hi : Inv cx st a w env) {mm : Machine} (hs : Steps P mm (lone { b.atR a todo with mode := .returning } cs w)) : 
  ∃ a' w' todo, Steps P mm (lone { b.atR a' todo with mode := .returning } cs w') ∧ a'.defers = [] ∧ ∃ v env', (results fn a'.tmps).run P w' = .ok v w' ∧ Mem cx (z6 0 bout) w' env' ∧ Rep w' (qn cx env' w') env' v res := by
 obtain ⟨Ds, he, hn, hk⟩ := hi.defers
 obtain ⟨w', h1, h2⟩ := qpk (P := P) (b := b) (cs := cs) (todo := todo) Ds he hn hk hi
 obtain ⟨v, env', h3, h4, h5⟩ := h cx hG hh hent _ _ _ h2
 exact ⟨_, w', todo, hs.trans h1, rfl, v, env', h3, h4, h5⟩
theorem qh1 {st : St} {a : Act} (hi : Inv cx st a w env) {l : Nat} (he : cx.ent 0 = some (.func (.yield l) #[] #[])) {s : LoopState} {p : Option Code} {rc : Rc} {sl : List AV} (hb : qS st.blks 0 = some (0, .loop s p rc sl)) :
  env 0 = some (0, .func (.yield l) #[] #[]) ∧ ∃ r, w.heap[l]? = some (.loop r) ∧ r.state = s ∧ r.pending = p ∧ r.params = rc.ps.toArray ∧ r.assign = rc.assign ∧ r.body = rc.body ∧ r.tmps.size = sl.length ∧ ∀ i, i < sl.length → Rep w (qn cx env w) env (r.tmps.getD i Go.undef) (sl.getD i .undef) := by
 obtain ⟨h, e1, hr⟩ := hi.mem.blk _ _ _ hb
 have := hi.mem.vers _ _ _ e1 he
 subst this
 refine ⟨e1, ?_⟩
 cases hr with
 | loop _ r _ _ hb' hp ha hc hs h => exact ⟨r, hb', rfl, rfl, hp, ha, hc, hs, h⟩
theorem qcM {st : St} {a : Act} (hi : Inv cx st a w env) {bl' : qL} {w' : World} {env' : Env} (T : Trans cx w env bl' w' env') : Inv cx ⟨st.slots, bl'⟩ a w' env' := by
 refine ⟨hi.defers.mono (qR _) T.ok T.cell, hi.size, fun i h => ?_, T.mem⟩
 have := hi.slot i h
 revert this
 cases st.slots.getD i .undef <;> intro h
 case gd s b x => exact ⟨fun e => T.rep (h.1 e), h.2⟩
 all_goals exact T.rep h
theorem qkM {st : St} {a : Act} (hh : ∀ n, ¬ cx.hid n) (hi : Inv cx st a w env) {nm v l : Nat} {r : Loop} {rc : Rc} {sl : List AV} (he : env nm = some (v, .func (.yield l) #[] #[])) (hr : w.heap[l]? = some (.loop r)) (hp : r.params = rc.ps.toArray) (ha : r.assign = rc.assign) (hc : r.body = rc.body) (hs : r.tmps.size = sl.length) (hsl : ∀ i, i < sl.length → Rep w (qn cx env w) env (r.tmps.getD i Go.undef) (sl.getD i .undef)) (s : LoopState) (p : Option Code) :
  ∃ env', Inv cx ⟨st.slots, z7 st.blks nm v (.loop s p rc sl)⟩ a (w.putObj l (.loop { r with state := s, pending := p })) env' := by
 have hlt : l < w.heap.size := (Array.getElem?_eq_some_iff.1 hr).1
 have u : Upd0 w env nm v (.func (.yield l) #[] #[]) (w.putObj l (.loop { r with state := s, pending := p })) :=
  ⟨.inr ⟨v, _, he, .inr ⟨rfl, rfl⟩⟩, ⟨by rw [World.putObj_size]; exact qR _, rfl, rfl⟩, fun B hB hne => World.putObj_heap_other fun e => hne _ _ he (by simp [wx, e]), fun B q => .inr ⟨v, _, he, q⟩⟩
 have T := wM hi.mem (hh nm) ⟨u, .loop l { r with state := s, pending := p } rc sl (World.putObj_heap_same hlt) hp ha hc hs fun i h => qeG u (hsl i h)⟩
 exact ⟨_, qcM hi T⟩
theorem qkc : ∀ (l : List AV) (i : Nat), (Qz l)[i]? = l[i]?.map ung
 | [], _ => by simp [Qz]
 | x :: l, 0 => by simp [Qz]
 | x :: l, i + 1 => by simp [Qz, qkc l i]
theorem Ys : ∀ l : List AV, (Qz l).length = l.length
 | [] => rfl
 | x :: l => by simp [Qz, Ys l]
theorem qjT {st : St} {a : Act} (hi : Inv cx st a w env) : Inv cx ⟨Qz st.slots, st.blks⟩ a w env := by
 refine ⟨hi.defers, by simp only [Ys]; exact hi.size, fun i h => ?_, hi.mem⟩
 simp only [Ys] at h
 have h1 := hi.slot i h
 have e : st.slots[i]? = some (st.slots.getD i .undef) := by simp [h]
 have e2 : (Qz st.slots).getD i .undef = ((Qz st.slots)[i]?).getD .undef := List.getD_eq_getElem?_getD ..
 simp only [e2]
 rw [qkc, e]
 revert h1
 intro h1
 generalize st.slots.getD i .undef = x at h1 ⊢
 show W0 w _ env a.tmps _ (ung x)
 unfold ung
 split
 ·exact Rep.undef _
 ·cases qbL x
  ·exact h1
  ·exact Rep.undef _
theorem ZG : ∀ {l : List AV}, zq l = true → ∀ (i s : Nat) (b : Bool) (x : AV), l[i]? ≠ some (AV.gd s b x)
 | [], _, i, s, b, x => by simp
 | y :: l, h, 0, s, b, x => by
  simp only [zq, qh] at h
  intro e; simp at e; rw [e] at h; simp [zi] at h
 | y :: l, h, i + 1, s, b, x => by
  simp only [zq, qh] at h
  simpa using ZG h.2 i s b x
theorem qFd (n : Nat) : List.range n = List.range' 0 n := List.range_eq_range'
theorem qqh (hG : cx.Gok P) (hh : ∀ n, ¬ cx.hid n) (hm : P.follows .mixedOrders = true) {id : Nat} {ops : Array Oper} {draw : Bool} {st st' : St} {ora ora' : List Or} {φ : List Prop} {a : Act} (hi : Inv cx st a w env) (e : qoR P R ops.toList draw st ora = some (φ, st', ora')) (hφ : zo φ)
  {Q : Exit → Act → World → Prop} (hQ : ∀ a' w' env', Inv cx st' a' w' env' → Q .normal a' w') : (Code.region id ops draw).wpIn (FR ro) 0 P Q a w := by
 unfold qoR at e
 cases hg : zq st.slots <;> simp only [hg, qg, qj] at e
 ·simp at e
 cases draw <;> simp only at e
 ·split at e
  ·rename_i φ' s ora'' he
   simp at e; obtain ⟨rfl, rfl, rfl⟩ := e
   refine wpIn_region ?_
   rw [qFd]
   have := qnd (ro := ro) hG hh (Q := Q) ops.toList 0 [] st ora ora'' φ' s a w env (by simp) ⟨hi, fun i s b x e => absurd e (ZG hg i s b x)⟩ he hφ fun used' a' w' env' hi' => hQ a' w' env' (qjT hi'.toInv)
   simpa using this
  ·simp at e
 ·split at e
  ·rename_i φ' dls ora'' he
   simp at e; obtain ⟨rfl, rfl, rfl⟩ := e
   obtain ⟨h1, h2, h3⟩ := qpM ops.toList 0 [] dls ora ora'' φ' (by simp) rfl he hφ
   have S : Plan P R ops (qra ops.toList []) (qn5 P R ops.toList ops.toList 0 st ora) dls st := ⟨by simpa using h1, fun k o ho => h3 k o (Q9 _) ho⟩
   exact qxI hG hh hm S hi hg fun used a' w' env' hi' => hQ a' w' env' (qjT hi'.toInv)
  ·simp at e
theorem qpg : ∀ (us : List Nat) (i : Nat) (l : List AV) (j : Nat), (Xq us i l)[j]? = l[j]?.map fun x => bif wo (i + j) us then ung x else .undef
 | us, i, [], j => by simp [Xq]
 | us, i, x :: l, 0 => by simp [Xq]
 | us, i, x :: l, j + 1 => by
  simp only [Xq, List.getElem?_cons_succ]
  rw [qpg us (i + 1) l j, show i + 1 + j = i + (j + 1) by omega]
theorem qbT : ∀ (us : List Nat) (i : Nat) (l : List AV), (Xq us i l).length = l.length
 | _, _, [] => rfl
 | us, i, x :: l => by simp [Xq, qbT us (i + 1) l]
theorem qCF {st : St} {a : Act} (hi : Inv cx st a w env) (us : List Nat) (i : Nat) (h : i < (Xq us 0 st.slots).length) : Rep w (qn cx env w) env (a.tmps.getD i Go.undef) ((Xq us 0 st.slots).getD i .undef) := by
 rw [qbT] at h
 have h1 := hi.slot i h
 have e : st.slots[i]? = some (st.slots.getD i .undef) := by simp [h]
 rw [List.getD_eq_getElem?_getD (l := Xq us 0 st.slots), qpg, e]
 revert h1
 generalize st.slots.getD i .undef = x
 intro h1
 simp only [Option.map_some, qMF]
 cases wo (0 + i) us
 ·exact .undef _
 ·show Rep w _ env _ (ung x)
  unfold ung
  split
  ·exact .undef _
  ·cases qbL x
   ·exact Q1 h1
   ·exact .undef _
theorem qtZ {st : St} {a : Act} (hh : ∀ n, ¬ cx.hid n) (hi : Inv cx st a w env) {b : Frame} {rd : Bool} (hrd : match rd with
   | false => b.roundOf = none
   | true => ∃ l, b.roundOf = some l ∧ cx.ent 0 = some (.func (.yield l) #[] #[])) (hin : qaa rd st.blks = true) {nm : Nat} (hnm : 100 ≤ nm) (ps : Array Nat) (tys : List TypeId) (asg body : Code) :
  ∃ (l : Nat) (mark : List Deferred) (w1 : World) (env1 : Env), (Instr.enterLoop b.fn a.tmps ps asg body b.roundOf).run P w = .ok (l, mark) w1 ∧
   Inv cx ⟨st.slots, Xs st nm ps tys asg body⟩ { a with defers := mark ++ a.defers } w1 env1 ∧ env1 nm = some (q7 st.blks nm, .func (.yield l) #[] #[]) ∧ Trans cx w env (Xs st nm ps tys asg body) w1 env1 := by
 have hm := hi.mem
 have hok : QS cx nm := ⟨hnm, hh nm⟩
 have hvv := QJ (bl := st.blks) hm hok
 have fin : ∀ (w1 : World) (l : Nat) (r : Loop), Grew w w1 → w.heap.size ≤ l → l < w1.heap.size → (∀ B, B < w.heap.size → w1.heap[B]? = w.heap[B]?) → w1.heap[l]? = some (.loop r) → r.state = .ready → r.pending = none → r.params = ps → r.assign = asg → r.body = body → r.tmps = a.tmps →
   Trans cx w env (Xs st nm ps tys asg body) w1 (env.put nm (q7 st.blks nm) (.func (.yield l) #[] #[])) := fun w1 l r hg h1 h2 hold hl q1 q2 q3 q4 q5 q6 => by
  have u : Upd0 w env nm (q7 st.blks nm) (.func (.yield l) #[] #[]) w1 := ⟨hvv.imp id fun ⟨cv, h0, e, lt⟩ => ⟨cv, h0, e, .inl lt⟩, hg, fun B hB _ => hold B hB, fun B q => by
   simp [wx] at q; subst q; exact .inl ⟨h1, h2⟩⟩
  refine wM hm (hh nm) ⟨u, ?_⟩
  rw [← q1, ← q2]
  refine .loop l r ⟨ps.toList, tys, asg, body⟩ _ hl (by simp [q3]) q4 q5 (by rw [q6, qbT]; exact hi.size) fun i h => ?_
  rw [q6]
  exact qeG u (qCF hi _ i h)
 cases rd with
 | false =>
  have hb : b.roundOf = none := hrd
  rw [hb]
  refine ⟨_, _, _, env.put nm (q7 st.blks nm) (.func (.yield (w.heap.size + 1)) #[] #[]), run_enterLoop_outer _ _ _ _ _, ?_⟩
  generalize hr : (⟨.ready, none, b.fn, a.tmps, ps, asg, body, w.heap.size⟩ : Loop) = r
  have s1 : (w.alloc (.deferred (some []))).heap.size = w.heap.size + 1 := by simp
  have T := fin ((w.alloc (.deferred (some []))).alloc (.loop r)) (w.heap.size + 1) r ⟨by rw [World.size_alloc, World.size_alloc]; omega, rfl, rfl⟩ (by omega) (by simp) (fun B hB => by
   rw [heap_alloc_old _ _ (by rw [s1]; omega), heap_alloc_old _ _ hB]) (by have := heap_alloc_new (w.alloc (.deferred (some []))) (.loop r); rw [s1] at this; exact this) (by rw [← hr]) (by rw [← hr]) (by rw [← hr]) (by rw [← hr]) (by rw [← hr]) (by rw [← hr])
  have hi1 := qcM hi T
  refine ⟨?_, by unfold Env.put; rw [qc rfl], T⟩
  refine ⟨?_, hi1.size, hi1.slot, hi1.mem⟩
  obtain ⟨Ds, he, hn, hk⟩ := hi1.defers
  have he : a.defers = Ds.map Vi := he
  obtain ⟨Ds', he', hn', hk'⟩ := hi.defers
  refine ⟨w.heap.size :: Ds, by simp [he, Vi], List.nodup_cons.2 ⟨fun hD => ?_, hn⟩, fun D hD => ?_⟩
  ·have : Vi w.heap.size ∈ a.defers := by rw [he]; exact List.mem_map.2 ⟨_, hD, rfl⟩
   rw [he'] at this
   obtain ⟨D', h1, h2⟩ := List.mem_map.1 this
   have h3 := (hk' D' h1).2.1.2.1
   simp [Vi] at h2
   omega
  ·rcases qK.1 hD with rfl | hD
   ·have hgr := hm.grow
    refine ⟨hgr, ⟨.inr hgr, by simp; omega, fun n ver h e q => ?_⟩, ?_⟩
    ·unfold Env.put at e
     split at e
     ·simp at e; obtain ⟨rfl, rfl⟩ := e
      simp [wx] at q
     ·have := hm.lt e q
      omega
    ·rw [heap_alloc_old _ _ (by rw [s1]; omega)]
     exact heap_alloc_new w _
   ·exact hk D hD
 | true =>
  obtain ⟨l0, hb, he0⟩ := hrd
  rw [hb]
  unfold qaa at hin
  simp only at hin
  split at hin
  rotate_left
  ·simp at hin
  rename_i s p rc sl h0
  obtain ⟨_, r0, hr0, _⟩ := qh1 hi he0 h0
  refine ⟨_, _, _, env.put nm (q7 st.blks nm) (.func (.yield w.heap.size) #[] #[]), run_enterLoop_inner hr0 _ _ _ _ _, ?_⟩
  generalize hr : (⟨.ready, none, b.fn, a.tmps, ps, asg, body, r0.defers⟩ : Loop) = r
  have T := fin (w.alloc (.loop r)) w.heap.size r ⟨by rw [World.size_alloc]; omega, rfl, rfl⟩ (by omega) (by simp) (fun B hB => heap_alloc_old _ _ hB) (heap_alloc_new _ _) (by rw [← hr]) (by rw [← hr]) (by rw [← hr]) (by rw [← hr]) (by rw [← hr]) (by rw [← hr])
  exact ⟨qcM hi T, by unfold Env.put; rw [qc rfl], T⟩
theorem qgG (hG : cx.Gok P) (hh : ∀ n, ¬ cx.hid n) {st st' : St} {a : Act} (hi : Inv cx st a w env) {b : Frame} {rd : Bool} (hrd : match rd with
   | false => b.roundOf = none
   | true => ∃ l, b.roundOf = some l ∧ cx.ent 0 = some (.func (.yield l) #[] #[])) (hin : qaa rd st.blks = true) {nm : Nat} (hnm : 100 ≤ nm) {f : Nat} {first captured : List AV} {vf vc : List Value} (r1 : ∀ {w' env' bl'}, Trans cx w env bl' w' env' → Rp w' (qn cx env' w') env' vf first) (r2 : ∀ {w' env' bl'}, Trans cx w env bl' w' env' → Rp w' (qn cx env' w') env' vc captured)
  {g : Operand} (hg : a.eval g = .func (.func f) vf.toArray vc.toArray) {ps : Array Nat} {asg body : Code} {ora ora' : List Or} {φ : List Prop} {p : Option Code} (e : qjK P R st nm f first captured ps asg body ora = some (φ, st', p, ora')) (hφ : zo φ) {k : List Item} {cs : List Frame} :
  ∃ a' w' env', Steps P (lone (b.atR a (.code (.rangeFunc g ps asg body) :: k)) cs w) (lone (b.atR a' (qhE p ++ k)) cs w') ∧ Inv cx st' a' w' env' := by
 unfold qjK at e
 split at e
 rotate_left
 ·cases e
 rename_i φ0 dl ora0 hcall
 split at e
 rotate_left
 ·cases e
 rename_i v s p0 rc sl hget
 cases hv : qy v (q7 st.blks nm) with
 | false => rw [hv] at e; cases e
 | true =>
 rw [hv] at e
 have hsb : s ≠ .busy := by
  intro h
  subst h
  cases e
 have e : some (φ0, (⟨st.slots, z7 (we (Xs st nm ps (qlr P f first.length) asg body) dl.wr) nm v (.loop .exhausted p0 rc sl)⟩ : St), p0, ora0) = some (φ, st', p, ora') := by
  cases s <;> first | exact e | exact absurd rfl hsb
 simp only [Option.some.injEq, Prod.mk.injEq] at e
 obtain ⟨rfl, rfl, rfl, rfl⟩ := e
 have hv := qk hv
 subst hv
 obtain ⟨l, mark, w1, env1, g1, hi1, g3, T⟩ := qtZ (P := P) hh hi hrd hin hnm ps (qlr P f first.length) asg body
 have hargs : Rp w1 (qn cx env1 w1) env1 (vf ++ (.func (.yield l) #[] #[] :: vc)) (first ++ (.own nm (q7 st.blks nm) :: captured)) := (r1 T).append (.cons (.own ⟨_, _, g3, qR _, fun _ => rfl⟩) (r2 T))
 obtain ⟨_, hfun, hc⟩ := qg0 hG hi1.mem hargs hcall hφ fun k hk => hh _
 obtain ⟨d, hres, hinv⟩ : ∃ d, (resolve a.eval (rangeCall g l) 0).run P w1 = .ok d w1 ∧ (invoke d.target d.args).run P w1 = .ok (.enter f (vf ++ (.func (.yield l) #[] #[] :: vc)).toArray) w1 := by
  have e1 : (vf ++ (Value.func (.yield l) #[] #[] :: vc)).toArray = vf.toArray ++ (#[Value.func (.yield l) #[] #[]] ++ vc.toArray) := by simp
  have hcf := qbj (w := w1) (args := vf.toArray ++ (#[Value.func (.yield l) #[] #[]] ++ vc.toArray)) hfun
  rw [e1]
  refine ⟨⟨.fn (.func f) vc.toArray, vf.toArray ++ #[Value.func (.yield l) #[] #[]]⟩, ?_, ?_⟩
  ·have hcst : ∀ v, a.eval (.const v) = v := fun _ => rfl
   clear hi1 hi g1
   generalize a.eval = ev at hg hcst
   simp [rangeCall, resolve, Deferred.ofValue, hg, hcst]
  ·rw [← Array.append_assoc] at hcf
   simp only [invoke]
   rw [← Array.append_assoc]
   exact hcf
 have henter := stepR_rangeFunc (P := P) (b := b) (a := a) (k := k) (cs := cs) (w := w) g1 hres hinv
 obtain ⟨en, w2, fr, ⟨u, env2, rfl, T2, _⟩, hsteps, hfn, hleave⟩ := hc (b.atR { a with defers := mark ++ a.defers } (.inRangeFunc l :: k) :: cs)
 have hsteps : Steps P _ _ := hsteps
 have hback := step_leave_returned (c := b.atR { a with defers := mark ++ a.defers } (.inRangeFunc l :: k)) (cs := cs) hleave
 rw [finish_atR_inRangeFunc] at hback
 have hi2 := qcM hi1 T2
 obtain ⟨h, hE, hrep⟩ := T2.mem.blk _ _ _ hget
 obtain ⟨cv', h', e1, e2, e3⟩ := T2.le _ _ _ g3
 rw [hE] at e1
 simp at e1
 obtain ⟨rfl, rfl⟩ := e1
 have e3 := e3 rfl
 subst e3
 cases hrep with
 | loop _ r _ _ hb hp ha hc' hs h =>
 have hend := run_endLoop (P := P) hb hsb
 obtain ⟨env3, hi3⟩ := qkM hh hi2 hE hb hp ha hc' hs h .exhausted r.pending
 refine ⟨_, _, env3, ?_, hi3⟩
 refine Steps.head henter (Steps.trans hsteps (Steps.head hback (Steps.one ?_)))
 have := stepR_endRangeFunc (P := P) (b := b) (a := { a with defers := mark ++ a.defers }) (k := k) (cs := cs) hend
 rw [this]
 cases r.pending <;> rfl
theorem qio (hG : cx.Gok P) (hh : ∀ n, ¬ cx.hid n) {st st' : St} {a : Act} (hi : Inv cx st a w env) {b : Frame} {rd : Bool} (hrd : match rd with
   | false => b.roundOf = none
   | true => ∃ l, b.roundOf = some l ∧ cx.ent 0 = some (.func (.yield l) #[] #[])) {g : Operand} {ps : Array Nat} {asg body : Code} {ora ora' : List Or} {φ : List Prop} {p : Option Code} (e : qtF P R rd st g ps asg body ora = some (φ, st', p, ora')) (hφ : zo φ) {k : List Item} {cs : List Frame} :
  ∃ a' w' env', Steps P (lone (b.atR a (.code (.rangeFunc g ps asg body) :: k)) cs w) (lone (b.atR a' (qhE p ++ k)) cs w') ∧ Inv cx st' a' w' env' := by
 unfold qtF at e
 cases hq : (qaa rd st.blks && zq st.slots) with
 | false => rw [hq] at e; cases e
 | true =>
 rw [hq] at e
 simp only [qj] at e
 simp only [qh] at hq
 have hr := Q1 (qcs hi g)
 split at e
 ·rename_i f first captured hf
  rw [hf] at hr
  generalize hu : a.eval g = u at hr
  cases hr with
  | fn _ vf vc _ _ hs1 hs2 h1 h2 =>
   have a1 : Rp w (qn cx env w) env vf.toList first := All2.of_get Go.undef .undef (by simpa using hs1) fun i hi => by simpa using h1 i hi
   have a2 : Rp w (qn cx env w) env vc.toList captured := All2.of_get Go.undef .undef (by simpa using hs2) fun i hi => by simpa using h2 i hi
   exact qgG hG hh hi hrd hq.1 (by omega) (fun T => T.rp a1) (fun T => T.rp a2) (vf := vf.toList) (vc := vc.toList) (by simpa using hu) e hφ
 ·rename_i f first captured hf
  have hfv : a.eval g = .func (.func f) first captured := by
   rw [hf] at hr
   exact qN hr
  exact qgG hG hh hi hrd hq.1 (by omega) (fun T => zQ _) (fun T => zQ _) (vf := first.toList) (vc := captured.toList) (by simpa using hfv) e hφ
 ·cases e
theorem qDb {st st' : St} {a : Act} (hh : ∀ n, ¬ cx.hid n) (hi : Inv cx st a w env) {l : Nat} (he : cx.ent 0 = some (.func (.yield l) #[] #[])) {jump : Option Code} (e : qin true jump st = some st') :
  ∃ w' env', (Instr.endRound l jump).run P w = .ok (.bool jump.isNone) w' ∧ Inv cx st' { tmps := #[.bool jump.isNone], defers := [] } w' env' := by
 unfold qin at e
 simp only at e
 split at e
 ·rename_i s p rc sl h0
  simp at e; subst e
  obtain ⟨e0, r, hr, _, _, hp, ha, hc, hs, hsl⟩ := qh1 hi he h0
  have hj : (if jump.isNone = true then LoopState.ready else .done) = qxd jump := by cases jump <;> rfl
  have := run_endRound (P := P) jump hr
  rw [hj] at this
  obtain ⟨env', hi'⟩ := qkM hh hi e0 hr hp ha hc hs hsl (qxd jump) jump
  refine ⟨_, env', this, Marks.nil _ _ _, rfl, fun i h => ?_, hi'.mem⟩
  have hi0 : i = 0 := by simpa using h
  subst hi0
  have : isNone jump = jump.isNone := by cases jump <;> rfl
  simp only [this]
  exact wn _
 ·cases e
theorem qdD {m : Nat} {st st' : St} {res : AV} {bout : List (Nat × Blk)} (hG : cx.Gok P) (hh : ∀ n, ¬ cx.hid n) (hent : ∀ nm h, cx.ent nm = some h → nm < m) {jump : Option Code} (e : qin true jump st = some st') (h : EvR P .round m st' res bout) {a : Act} (hi : Inv cx st a w env)
  {b : Frame} {cs : List Frame} {mm : Machine} (hs : ∀ (l : Nat) (c : Frame) (cs' : List Frame) (v : Value) (w' : World), b.roundOf = some l → b.kind = .normal → cs = c :: cs' → (Instr.endRound l jump).run P w = .ok v w' → step P mm = .next (lone (c.finish v) cs' w')) : Leaves P .round cx res bout b cs mm := by
 intro l c cs' hb hk hc he
 obtain ⟨w', env', h1, h2⟩ := qDb (P := P) hh hi he e
 obtain ⟨v, env2, h3, h4, h5⟩ := h cx hG hh hent _ _ _ h2
 have hv : v = .bool jump.isNone := by
  have h6 : (results qjv #[.bool jump.isNone]).run P w' = .ok (.bool jump.isNone) w' := by
   simp [results, qjv]
  have h3 : (results qjv #[.bool jump.isNone]).run P w' = .ok v w' := h3
  rw [h6] at h3
  simp at h3
  exact h3.symm
 subst hv
 exact ⟨_, w', env2, .one (hs l c cs' _ w' hb hk hc h1), h4, h5⟩
theorem Q3 (hm : P.follows .mixedOrders = true) {fn : Wy} {m : Nat} {todo : List Item} {st : St} {ora ora' : List Or} {φ : List Prop} {r : XRes} (e : vd P R fn.rd todo st ora = some (φ, r, ora')) (hφ : zo φ) {res : AV} {bout : List (Nat × Blk)}
  (h : XOk P fn m r res bout) : Ev P fn m todo st res bout := by
 intro cx hG hh hent b cs a w env hi
 cases todo with
 | nil =>
  simp only [vd] at e
  split at e
  rotate_left
  ·cases e
  rename_i st' hst
  simp at e; obtain ⟨rfl, rfl, rfl⟩ := e
  cases fn with
  | of fn =>
   simp only [Wy.rd, qin, Option.some.injEq] at hst
   subst hst
   exact fun hb => qsc hG hh hent h (b := b) (cs := cs) (todo := []) hi (.one (stepR_end hb))
  | round => exact qdD hG hh hent hst h hi fun l c cs' v w' hb hk hc hr => (by subst hc; exact stepR_round_end hb hk hr)
 | cons it k =>
 cases it with
 | inBlock id =>
  simp [vd] at e; obtain ⟨rfl, rfl, rfl⟩ := e
  exact .of_steps (.one stepR_inBlock) (h cx hG hh hent b cs a w env hi)
 | inScope c =>
  simp [vd] at e; obtain ⟨rfl, rfl, rfl⟩ := e
  exact .of_steps (.one qoN) (h cx hG hh hent b cs a w env hi)
 | beginRound =>
  simp only [vd] at e
  cases fn with
  | of fn => cases e
  | round =>
  simp only [Wy.rd] at e
  split at e
  ·rename_i s p rc sl h0
   cases s <;> simp only at e
   ·simp at e; obtain ⟨rfl, rfl, rfl⟩ := e
    intro l c cs' hb hk hc he
    obtain ⟨e0, r, hr, hst, hpd, hp, ha, hcd, hs, hsl⟩ := qh1 hi he h0
    have hbr := run_beginRound (P := P) hr hst
    obtain ⟨env', hi'⟩ := qkM hh hi e0 hr hp ha hcd hs hsl .busy p
    have hrr : ({ r with state := .busy, pending := p } : Loop) = { r with state := .busy } := by rw [← hpd]
    rw [hrr] at hi'
    exact Leaves.of_steps (fn := .round) (.one (stepR_beginRound hb hbr)) (h cx hG hh hent b cs a _ env' hi') l c cs' hb hk hc he
   all_goals cases e
  ·cases e
 | inLoop c =>
  simp [vd] at e; obtain ⟨rfl, rfl, rfl⟩ := e
  exact .of_steps (.one stepR_inLoop) (h cx hG hh hent b cs a w env hi)
 | code c =>
  cases c with
  | skip =>
   simp [vd] at e; obtain ⟨rfl, rfl, rfl⟩ := e
   exact .of_steps (.one stepR_skip) (h cx hG hh hent b cs a w env hi)
  | label l =>
   simp [vd] at e; obtain ⟨rfl, rfl, rfl⟩ := e
   exact .of_steps (.one stepR_label) (h cx hG hh hent b cs a w env hi)
  | seq x y =>
   simp [vd] at e; obtain ⟨rfl, rfl, rfl⟩ := e
   exact .of_steps (.one stepR_seq) (h cx hG hh hent b cs a w env hi)
  | block id c =>
   simp [vd] at e; obtain ⟨rfl, rfl, rfl⟩ := e
   exact .of_steps (.one stepR_block) (h cx hG hh hent b cs a w env hi)
  | scope c =>
   simp [vd] at e; obtain ⟨rfl, rfl, rfl⟩ := e
   exact .of_steps (.one qtu) (h cx hG hh hent b cs a w env hi)
  | loop c =>
   simp [vd] at e; obtain ⟨rfl, rfl, rfl⟩ := e
   exact .of_steps (.one stepR_loop) (h cx hG hh hent b cs a w env hi)
  | exit id =>
   simp only [vd] at e
   split at e
   ·rename_i k' hk
    simp at e; obtain ⟨rfl, rfl, rfl⟩ := e
    exact .of_steps (.one (stepR_exit hk)) (h cx hG hh hent b cs a w env hi)
   ·rename_i hx
    cases fn with
    | of fn => cases e
    | round =>
    simp only [Wy.rd] at e
    split at e
    ·rename_i st' hst
     simp at e; obtain ⟨rfl, rfl, rfl⟩ := e
     exact qdD hG hh hent hst h hi fun l c cs' v w' hb hk hc hr => (by subst hc; exact stepR_round_exit hb hk hx hr)
    ·cases e
  | ret =>
   simp only [vd] at e
   split at e
   rotate_left
   ·cases e
   rename_i st' hst
   simp at e; obtain ⟨rfl, rfl, rfl⟩ := e
   cases fn with
   | of fn =>
    simp only [Wy.rd, qin, Option.some.injEq] at hst
    subst hst
    exact fun hb => qsc hG hh hent h (b := b) (cs := cs) (todo := .code .ret :: k) hi (.one (stepR_ret hb))
   | round => exact qdD hG hh hent hst h hi fun l c cs' v w' hb hk hc hr => (by subst hc; exact stepR_round_ret hb hk hr)
  | rangeFunc g ps asg body =>
   simp only [vd] at e
   split at e
   ·rename_i φ1 st1 p1 ora1 hx
    simp at e; obtain ⟨rfl, rfl, rfl⟩ := e
    cases fn with
    | of fn =>
     intro hb
     obtain ⟨a', w', env', hs, hi'⟩ := qio (b := b) (k := k) (cs := cs) hG hh hi (rd := false) hb hx hφ
     exact Leaves.of_steps (fn := .of fn) hs (h cx hG hh hent b cs a' w' env' hi') hb
    | round =>
     intro l c cs' hb hk hc he
     obtain ⟨a', w', env', hs, hi'⟩ := qio (b := b) (k := k) (cs := cs) hG hh hi (rd := true) ⟨l, hb, he⟩ hx hφ
     exact Leaves.of_steps (fn := .round) hs (h cx hG hh hent b cs a' w' env' hi') l c cs' hb hk hc he
   ·cases e
  | cond x c1 c2 =>
   simp only [vd] at e
   split at e
   ·rename_i bv hbv
    split at e
    ·rename_i d ora0
     simp at e; obtain ⟨rfl, rfl, rfl⟩ := e
     have hbd : bv = d := hφ _ (by simp)
     subst hbd
     have hx : a.eval x = .bool bv := by
      have := Q1 (qcs hi x)
      rw [hbv] at this
      exact qN this
     have := stepR_cond (P := P) (b := b) (k := k) (cs := cs) (w := w) (x := c1) (y := c2) hx
     refine .of_steps (.one this) ?_
     have h := h cx hG hh hent b cs a w env hi
     cases bv <;> exact h
    ·simp at e
   ·simp at e
  | region id ops draw =>
   simp only [vd] at e
   split at e
   ·rename_i φ' st' ora'' he
    simp at e; obtain ⟨rfl, rfl, rfl⟩ := e
    have hw := qqh (cx := cx) (ro := b.roundOf) hG hh hm (id := id) hi he hφ (Q := fun e a' w' => match e with
     | .normal => ∃ env', Inv cx st' a' w' env'
     | _ => False) fun a' w' env' hi' => ⟨env', hi'⟩
    obtain ⟨e, a', w', hq, har⟩ := hw b k cs rfl trivial (qLN _ _)
    cases e <;> simp only at hq
    obtain ⟨env', hi'⟩ := hq
    have har : StepsIn (Machine.fenced P (FR b.roundOf)) P _ _ := har
    exact .of_steps (qaR.1 har) (h cx hG hh hent b cs a' w' env' hi')
   ·simp at e
  | _ => simp [vd] at e
 | _ => simp [vd] at e
theorem qgc (hm : P.follows .mixedOrders = true) {fn : Wy} {m : Nat} {l : List Nat} {res : AV} {bout : List (Nat × Blk)} : ∀ {n : Nat} {todo : List Item} {st : St} {ora ora' : List Or} {φ : List Prop} {r : XRes}, qlq P R fn.rd l n todo st ora = some (φ, r, ora') → zo φ →
  XOk P fn m r res bout → Ev P fn m todo st res bout
 | 0, _, _, _, _, _, _, e, _, _ => by simp [qlq] at e
 | n + 1, todo, st, ora, ora', φ, r, e, hφ, h => by
  simp only [qlq] at e
  split at e
  ·rename_i φ1 todo1 st1 ora1 h1
   cases hr : qqL l todo1 <;> simp only [hr, qg, qj] at e
   ·split at e
    ·rename_i φ2 r2 ora2 h2
     simp at e; obtain ⟨rfl, rfl, rfl⟩ := e
     exact Q3 hm h1 (fun p hp => hφ p (by simp [hp])) (qgc hm h2 (fun p hp => hφ p (by simp [hp])) h)
    ·simp at e
   ·simp at e; obtain ⟨rfl, rfl, rfl⟩ := e
    exact Q3 hm h1 hφ h
  ·rename_i φ1 st1 ora1 h1
   simp at e; obtain ⟨rfl, rfl, rfl⟩ := e
   exact Q3 hm h1 hφ h
  ·simp at e
theorem Ev.seg (hm : P.follows .mixedOrders = true) {fn : Wy} {m n : Nat} {l : List Nat} {res : AV} {bout : List (Nat × Blk)} {todo todo' : List Item} {st st' : St} {ora ora' : List Or} {φ : List Prop} (e : qlq P R fn.rd l n todo st ora = some (φ, .at todo' st', ora')) (hφ : zo φ) (h : Ev P fn m todo' st' res bout) : Ev P fn m todo st res bout :=
 qgc hm e hφ h
theorem Ev.ret (hm : P.follows .mixedOrders = true) {fn : Wy} {m n : Nat} {l : List Nat} {res : AV} {bout : List (Nat × Blk)} {todo : List Item} {st st' : St} {ora ora' : List Or} {φ : List Prop} (e : qlq P R fn.rd l n todo st ora = some (φ, .ret st', ora')) (hφ : zo φ) (h : EvR P fn m st' res bout) : Ev P fn m todo st res bout :=
 qgc hm e hφ h
end
end Go.AM
namespace Go.AM
open Go
def YA (n : Nat) : List (Nat × Nat × Nat) → Option (Nat × Nat)
 | [] => none
 | (o, k, v) :: r => bif qy o n then some (k, v) else YA n r
def qcl (n : Nat) : List (Nat × Nat × Nat) → Option (Nat × Nat)
 | [] => none
 | (o, k, v) :: r => bif qy k n then some (o, v) else qcl n r
def qfD (bl : qL) (M : List (Nat × Nat × Nat)) : AV → AV
 | .own nm ver => match wP bl nm ver with
  | some _ => match YA nm M with
   | some (k, v) => .own k v
   | none => .undef
  | none => .undef
 | .ptr nm ver o => match wP bl nm ver with
  | some _ => match YA nm M with
   | some (k, v) => .ptr k v o
   | none => .undef
  | none => .undef
 | .elt nm ver s i o => match wP bl nm ver with
  | some _ => match YA nm M with
   | some (k, v) => .elt k v s i o
   | none => .undef
  | none => .undef
 | .sub nm ver s lo n => match wP bl nm ver with
  | some _ => match YA nm M with
   | some (k, v) => .sub k v s lo n
   | none => .undef
  | none => .undef
 | _ => .undef
def qsR (bl : qL) (M : List (Nat × Nat × Nat)) : List (Nat × Nat × Nat) → Option qL
 | [] => some []
 | (o, k, v) :: r => match qS bl o with
  | some (_, b) => match qsR bl M r with
   | some l => some ((k, v, trB (qfD bl M) b) :: l)
   | none => none
  | none => none
def qkF : List (Nat × Nat × Nat) → List Nat
 | [] => []
 | (o, _, _) :: r => o :: qkF r
def news : List (Nat × Nat × Nat) → List Nat
 | [] => []
 | (_, k, _) :: r => k :: news r
def qhb (bl : qL) (M : List (Nat × Nat × Nat)) : Nat → Bool
 | 0 => true
 | i + 1 => (match YA i M with
  | some (k, v) => qy k i && (match v with
   | 0 => (match qS bl i with
    | some (0, _) => true
    | _ => false)
   | _ + 1 => true)
  | none => false) && qhb bl M i
def qdw (f : AV → AV) : List AV → List AV
 | [] => []
 | x :: r => f x :: qdw f r
def YD (live : List Nat) : Nat → List AV → List AV
 | _, [] => []
 | i, x :: r => (bif wo i live then x else .undef) :: YD live (i + 1) r
def qip (m : Nat) (live : List Nat) (M : List (Nat × Nat × Nat)) (st : St) : Option St :=
 bif wZ (qkF M) && (wZ (news M) && qhb st.blks M m) then (match qsR st.blks M M with
  | some bl => some ⟨YD live 0 (qdw (tr2 (qfD st.blks M)) st.slots), bl⟩
  | none => none) else none
section
variable {P : Program} [GT P] {cx : Cx} {w : World} {env : Env} {bl : qL}
theorem qsg (f : AV → AV) : ∀ (l : List AV) (i : Nat), (qdw f l)[i]? = l[i]?.map f
 | [], _ => by simp [qdw]
 | x :: l, 0 => by simp [qdw]
 | x :: l, i + 1 => by simp [qdw, qsg f l i]
theorem qdx (f : AV → AV) : ∀ l : List AV, (qdw f l).length = l.length
 | [] => rfl
 | x :: l => by simp [qdw, qdx f l]
theorem qpf (live : List Nat) : ∀ (l : List AV) (i j : Nat), (YD live i l)[j]? = if wo (i + j) live = true then l[j]? else l[j]?.map (fun _ => .undef)
 | [], _, _ => by simp [YD]
 | x :: l, i, 0 => by
  simp only [YD, qS4]
  cases wo i live <;> simp
 | x :: l, i, j + 1 => by
  simp only [YD, List.getElem?_cons_succ]
  rw [qpf live l (i + 1) j, show i + 1 + j = i + (j + 1) by omega]
theorem qbS (live : List Nat) : ∀ (l : List AV) (i : Nat), (YD live i l).length = l.length
 | [], _ => rfl
 | x :: l, i => by simp [YD, qbS live l]
theorem qhq {n : Nat} : ∀ {M : List (Nat × Nat × Nat)} {k v : Nat}, YA n M = some (k, v) → (n, k, v) ∈ M
 | [], _, _, h => by simp [YA] at h
 | (o, k', v') :: r, k, v, h => by
  simp only [YA] at h
  cases e : qy o n <;> simp only [e, qj, qg] at h
  ·exact List.mem_cons_of_mem _ (qhq h)
  ·have := qk e
   subst this
   simp at h; obtain ⟨rfl, rfl⟩ := h
   simp
theorem qkG {n : Nat} : ∀ {M : List (Nat × Nat × Nat)}, n ∈ qkF M ↔ ∃ k v, (n, k, v) ∈ M
 | [] => by simp [qkF]
 | (o, k', v') :: r => by
  simp only [qkF, qK, qkG (M := r)]
  constructor
  ·rintro (rfl | ⟨k, v, h⟩)
   ·exact ⟨k', v', .inl rfl⟩
   ·exact ⟨k, v, .inr h⟩
  ·rintro ⟨k, v, h | h⟩
   ·simp at h; exact .inl h.1
   ·exact .inr ⟨k, v, h⟩
theorem qfN {n : Nat} : ∀ {M : List (Nat × Nat × Nat)}, n ∈ news M ↔ ∃ o v, (o, n, v) ∈ M
 | [] => by simp [news]
 | (o', k', v') :: r => by
  simp only [news, qK, qfN (M := r)]
  constructor
  ·rintro (rfl | ⟨o, v, h⟩)
   ·exact ⟨o', v', .inl rfl⟩
   ·exact ⟨o, v, .inr h⟩
  ·rintro ⟨o, v, h | h⟩
   ·simp at h; exact .inl h.2.1
   ·exact .inr ⟨o, v, h⟩
theorem qjY {n : Nat} {l : List Nat} (h : wZ (n :: l) = true) : n ∉ l ∧ wZ l = true := by
 simp only [wZ, qh] at h
 refine ⟨fun hm => ?_, h.2⟩
 rw [ww.2 hm] at h
 simp at h
theorem qkH : ∀ {M : List (Nat × Nat × Nat)} {o k v k' v' : Nat}, wZ (qkF M) = true → (o, k, v) ∈ M → (o, k', v') ∈ M → k = k' ∧ v = v'
 | [], _, _, _, _, _, _, h, _ => by simp at h
 | (o0, k0, v0) :: r, o, k, v, k', v', hd, h, h' => by
  obtain ⟨h1, h2⟩ := qjY hd
  rcases qK.1 h with e | e <;> rcases qK.1 h' with e' | e'
  ·simp at e e'; exact ⟨e.2.1.trans e'.2.1.symm, e.2.2.trans e'.2.2.symm⟩
  ·simp at e; exact absurd (qkG.2 ⟨k', v', e.1 ▸ e'⟩) h1
  ·simp at e'; exact absurd (qkG.2 ⟨k, v, e'.1 ▸ e⟩) h1
  ·exact qkH h2 e e'
theorem qkA : ∀ {M : List (Nat × Nat × Nat)} {o k v o' v' : Nat}, wZ (news M) = true → (o, k, v) ∈ M → (o', k, v') ∈ M → o = o' ∧ v = v'
 | [], _, _, _, _, _, _, h, _ => by simp at h
 | (o0, k0, v0) :: r, o, k, v, o', v', hd, h, h' => by
  obtain ⟨h1, h2⟩ := qjY hd
  rcases qK.1 h with e | e <;> rcases qK.1 h' with e' | e'
  ·simp at e e'; exact ⟨e.1.trans e'.1.symm, e.2.2.trans e'.2.2.symm⟩
  ·simp at e; exact absurd (qfN.2 ⟨o', v', e.2.1 ▸ e'⟩) h1
  ·simp at e'; exact absurd (qfN.2 ⟨o, v, e'.2.1 ▸ e⟩) h1
  ·exact qkA h2 e e'
theorem qgY {n : Nat} : ∀ {M : List (Nat × Nat × Nat)} {o v : Nat}, qcl n M = some (o, v) → (o, n, v) ∈ M
 | [], _, _, h => by simp [qcl] at h
 | (o', k', v') :: r, o, v, h => by
  simp only [qcl] at h
  cases e : qy k' n <;> simp only [e, qj, qg] at h
  ·exact List.mem_cons_of_mem _ (qgY h)
  ·have := qk e
   subst this
   simp at h; obtain ⟨rfl, rfl⟩ := h
   simp
theorem qEH {M : List (Nat × Nat × Nat)} (hd : wZ (news M) = true) {o k v : Nat} (h : (o, k, v) ∈ M) : qcl k M = some (o, v) := by
 cases e : qcl k M with
 | some x =>
  obtain ⟨o', v'⟩ := x
  have := qkA hd (qgY e) h
  simp [this.1, this.2]
 | none =>
  exfalso
  clear hd
  induction M with
  | nil => simp at h
  | cons y r ih =>
   obtain ⟨o', k', v'⟩ := y
   simp only [qcl] at e
   cases e' : qy k' k <;> simp only [e', qj, qg] at e
   ·rcases qK.1 h with hh | hh
    ·simp at hh
     rw [hh.2.1, qe4] at e'; simp at e'
    ·exact ih hh e
   ·simp at e
def Zh (env : Env) (M : List (Nat × Nat × Nat)) : Env := fun n => match qcl n M with
 | some (o, v) => match env o with
  | some (_, h) => some (v, h)
  | none => none
 | none => none
theorem WR {M : List (Nat × Nat × Nat)} {n v : Nat} {h : Value} (e : Zh env M n = some (v, h)) : ∃ o c, (o, n, v) ∈ M ∧ env o = some (c, h) := by
 unfold Zh at e
 split at e
 ·rename_i o v' hb
  split at e
  ·rename_i c h' he
   simp at e; obtain ⟨rfl, rfl⟩ := e
   exact ⟨o, c, qgY hb, he⟩
  ·simp at e
 ·simp at e
theorem qhc {M : List (Nat × Nat × Nat)} (hd : wZ (news M) = true) {o n v c : Nat} {h : Value} (hm : (o, n, v) ∈ M) (he : env o = some (c, h)) : Zh env M n = some (v, h) := by
 unfold Zh
 rw [qEH hd hm]
 simp [he]
theorem qIq {M : List (Nat × Nat × Nat)} {B : Nat} (h : qn cx env w B) : qn cx (Zh env M) w B := by
 refine ⟨h.1, h.2.1, fun nm v x e q => ?_⟩
 obtain ⟨o, c, _, he⟩ := WR e
 exact h.2.2 _ _ _ he q
theorem qjt (hm : Mem cx bl w env) {M : List (Nat × Nat × Nat)} (hd : wZ (news M) = true) {nm ver k v : Nat} {b : Blk} {Q : Value → Prop} (hc : wP bl nm ver = some b) (hf : YA nm M = some (k, v)) (h : Ref env nm ver Q) : Ref (Zh env M) k v Q := by
 obtain ⟨x, hx, _⟩ := hm.blk _ _ _ (qZ hc)
 exact ⟨v, x, qhc hd (qhq hf) hx, qR _, fun _ => wu h hx⟩
theorem qsb (hm : Mem cx bl w env) {M : List (Nat × Nat × Nat)} (hd : wZ (news M) = true) : qgK w (qn cx env w) env w (qn cx (Zh env M) w) (Zh env M) (qfD bl M) := by
 refine ⟨fun u n v h => ?_, fun u n v o h => ?_, fun u n v s i o h => ?_, fun u n v s lo k h => ?_⟩ <;> simp only [qfD] <;> split <;> first
  | exact .undef _
  | (rename_i b hc
     split
     ·rename_i k' v' hf
      cases h with
      | own h => exact .own (qjt hm hd hc hf h)
     ·exact .undef _)
  | (rename_i b hc
     split
     ·rename_i k' v' hf
      cases h with
      | ptr h => exact .ptr (qjt hm hd hc hf h)
     ·exact .undef _)
  | (rename_i b hc
     split
     ·rename_i k' v' hf
      cases h with
      | elt h => exact .elt (qjt hm hd hc hf h)
     ·exact .undef _)
  | (rename_i b hc
     split
     ·rename_i k' v' hf
      cases h with
      | sub h => exact .sub (qjt hm hd hc hf h)
     ·exact .undef _)
theorem qDa {M : List (Nat × Nat × Nat)} : qe0 w (qn cx env w) w (qn cx (Zh env M) w) := fun _ _ h => h.mono (fun _ h => qIq h) fun _ _ _ => rfl
theorem qjO {M : List (Nat × Nat × Nat)} : ∀ {m : Nat}, qhb bl M m = true → ∀ i, i < m → ∃ v, (i, i, v) ∈ M ∧ (v = 0 → ∃ b, qS bl i = some (0, b))
 | 0, _, i, h => by omega
 | m + 1, e, i, h => by
  simp only [qhb, qh] at e
  by_cases hi : i = m
  ·subst hi
   have e := e.1
   split at e
   ·rename_i k v hf
    simp only [qh] at e
    have := qk e.1
    subst this
    refine ⟨v, qhq hf, fun h0 => ?_⟩
    subst h0
    have e := e.2
    simp only at e
    split at e
    ·rename_i b hb; exact ⟨b, hb⟩
    ·simp at e
   ·simp at e
  ·exact qjO e.2 i (by omega)
theorem qsS {M : List (Nat × Nat × Nat)} : ∀ {M' : List (Nat × Nat × Nat)} {l : qL}, qsR bl M M' = some l → (∀ n v b, qS l n = some (v, b) → ∃ o c b0, (o, n, v) ∈ M' ∧ qS bl o = some (c, b0) ∧ b = trB (qfD bl M) b0) ∧ (∀ n, qS l n = none → n ∉ news M') ∧ ∀ o k v, (o, k, v) ∈ M' → ∃ c b0, qS bl o = some (c, b0)
 | [], l, e => by
  simp [qsR] at e; subst e
  exact ⟨fun n v b h => by simp [qS] at h, fun n _ => by simp [news], fun o k v h => by simp at h⟩
 | (o, k, v) :: r, l, e => by
  simp only [qsR] at e
  split at e
  ·rename_i c b0 hb
   split at e
   ·rename_i l' hl
    simp at e; subst e
    obtain ⟨h1, h2, h3⟩ := qsS hl
    refine ⟨fun n v' b h => ?_, fun n h => ?_, fun o' k' v' h => ?_⟩
    ·simp only [qS] at h
     cases e : qy k n <;> simp only [e, qj, qg] at h
     ·obtain ⟨o', c', b', a1, a2⟩ := h1 n v' b h
      exact ⟨o', c', b', List.mem_cons_of_mem _ a1, a2⟩
     ·have := qk e
      subst this
      simp at h; obtain ⟨rfl, rfl⟩ := h
      exact ⟨o, c, b0, by simp, hb, rfl⟩
    ·simp only [qS] at h
     cases e : qy k n <;> simp only [e, qj, qg] at h
     ·simp only [news, qK, not_or]
      exact ⟨fun q => by rw [q, qe4] at e; simp at e, h2 n h⟩
     ·simp at h
    ·rcases qK.1 h with q | q
     ·simp at q; rw [q.1]; exact ⟨c, b0, hb⟩
     ·exact h3 o' k' v' q
   ·simp at e
  ·simp at e
theorem qgb (hh : ∀ n, ¬ cx.hid n) {m : Nat} (hent : ∀ nm h, cx.ent nm = some h → nm < m) {live : List Nat} {M : List (Nat × Nat × Nat)} {st st' : St} (e : qip m live M st = some st') {a : Act} (hi : Inv cx st a w env) : Inv cx st' a w (Zh env M) := by
 unfold qip at e
 cases hq : (wZ (qkF M) && (wZ (news M) && qhb st.blks M m)) <;> simp only [hq, qg, qj] at e
 ·simp at e
 simp only [qh] at hq
 obtain ⟨q1, q2, q3⟩ := hq
 split at e
 ·rename_i bl' hbl
  simp at e; subst e
  have hm := hi.mem
  obtain ⟨r1, r2, r3⟩ := qsS hbl
  have hents := qjO q3
  refine ⟨hi.defers.mono (qR _) (fun B hB => qIq hB) fun _ _ => rfl, by simp only [qbS, qdx]; exact hi.size, fun i h => ?_, ⟨fun nm v b e => ?_, fun nm e _ => ?_, fun nm h => absurd h (hh nm), fun nm nm' v v' h h' B e e' q q' => ?_, fun nm v h B e q => ?_, hm.gr, hm.frame, fun nm h h0 e e0 => ?_, fun nm h0 e0 => ?_⟩⟩
  ·simp only [qbS, qdx] at h
   have e1 : st.slots[i]? = some (st.slots.getD i .undef) := by simp [h]
   have e2 : (YD live 0 (qdw (tr2 (qfD st.blks M)) st.slots)).getD i .undef = ((YD live 0 (qdw (tr2 (qfD st.blks M)) st.slots))[i]?).getD .undef := List.getD_eq_getElem?_getD ..
   simp only [e2]
   rw [qpf, wX, qsg, e1]
   by_cases hl : wo i live = true
   ·simp only [hl, if_true, Option.map_some, qMF]
    have h1 := hi.slot i h
    have h2 := qwI (qsb hm q2) (.inl qDa) (Q1 h1)
    revert h2
    cases hx : tr2 (qfD st.blks M) (st.slots.getD i .undef) with
    | gd s b x =>
     intro _
     exfalso
     revert hx
     cases st.slots.getD i .undef <;> simp [tr2, tr1, trF, tr0, qfD] <;> (repeat' split) <;> simp
    | _ => intro h2; exact h2
   ·simp only [hl]
    exact Rep.undef _
  ·obtain ⟨o, c, b0, h1, h2, rfl⟩ := r1 nm v b e
   obtain ⟨x, hx, hr⟩ := hm.blk _ _ _ h2
   exact ⟨x, qhc q2 h1 hx, qoO (qsb hm q2) (.inl qDa) (fun _ _ => rfl) hr⟩
  ·have := r2 nm e
   cases he : Zh env M nm with
   | none => rfl
   | some x =>
    obtain ⟨v, h⟩ := x
    obtain ⟨o, c, h1, _⟩ := WR he
    exact absurd (qfN.2 ⟨o, v, h1⟩) this
  ·obtain ⟨o, c, h1, h2⟩ := WR e
   obtain ⟨o', c', h1', h2'⟩ := WR e'
   have := hm.inj _ _ _ _ _ _ _ h2 h2' q q'
   subst this
   exact (qkH q1 h1 h1').1
  ·obtain ⟨o, c, h1, h2⟩ := WR e
   obtain ⟨g1, g2⟩ := hm.own _ _ _ _ h2 q
   refine ⟨g1.imp id fun ⟨h0, e0, q0⟩ => ?_, g2⟩
   obtain ⟨v', hv', _⟩ := hents o (hent o h0 e0)
   have := (qkH q1 h1 hv').1
   rw [this]
   exact ⟨h0, e0, q0⟩
  ·obtain ⟨o, c, h1, h2⟩ := WR e
   obtain ⟨v', hv', hz⟩ := hents nm (hent nm h0 e0)
   obtain ⟨rfl, rfl⟩ := qkA q2 h1 hv'
   obtain ⟨b, hb⟩ := hz rfl
   obtain ⟨x, hx, _⟩ := hm.blk _ _ _ hb
   rw [h2] at hx; simp at hx
   exact hm.vers _ _ _ (by rw [h2, hx.1]) e0
  ·obtain ⟨g1, v, x, g2⟩ := hm.ents _ _ e0
   obtain ⟨v', hv', _⟩ := hents nm (hent nm h0 e0)
   exact ⟨g1, v', x, qhc q2 hv' g2⟩
 ·simp at e
theorem Ev.ren {fn : Wy} {m : Nat} {todo : List Item} {st st' : St} {res : AV} {bout : List (Nat × Blk)} (live : List Nat) (M : List (Nat × Nat × Nat)) (e : qip m live M st = some st') (h : Ev P fn m todo st' res bout) : Ev P fn m todo st res bout :=
 fun cx hG hh hent b cs a w _ hi => h cx hG hh hent b cs a w _ (qgb hh hent e hi)
theorem EvR.ren {fn : Wy} {m : Nat} {st st' : St} {res : AV} {bout : List (Nat × Blk)} (live : List Nat) (M : List (Nat × Nat × Nat)) (e : qip m live M st = some st') (h : EvR P fn m st' res bout) : EvR P fn m st res bout :=
 fun cx hG hh hent a w _ hi => h cx hG hh hent a w _ (qgb hh hent e hi)
def qoQ (s nm : Nat) (t : TypeId) (τ : RTy) (st : St) : Option St := match st.slots.getD s .undef with
 | .r (.v (.slice none 0 0)) => bif qtH 100 nm then some ⟨qlk st.slots s (.own nm (q7 st.blks nm)), z7 st.blks nm (q7 st.blks nm) (.row t τ [])⟩ else none
 | _ => none
theorem qnc (hh : ∀ n, ¬ cx.hid n) {s nm : Nat} {t : TypeId} {τ : RTy} {st st' : St} (e : qoQ s nm t τ st = some st') (hg : zq st.slots = true) {a : Act} (hi : Inv cx st a w env) : ∃ env', Inv cx st' a w env' := by
 unfold qoQ at e
 split at e
 ·rename_i hs
  cases hq : qtH 100 nm <;> simp only [hq, qg, qj] at e
  ·simp at e
  simp at e; subst e
  have hnm : QS cx nm := ⟨wj hq, hh nm⟩
  have hvv := QJ (bl := st.blks) hi.mem hnm
  have u : Upd0 w env nm (q7 st.blks nm) (.slice none 0 0) w := ⟨hvv.imp id fun ⟨cv, h0, e, l⟩ => ⟨cv, h0, e, .inl l⟩, Grew.refl _, fun _ _ _ => rfl, fun B q => by simp [wx] at q⟩
  have T := wM hi.mem (hh nm) ⟨u, RepB.rowNil t τ none⟩
  have hsl : s < st.slots.length := by
   rcases Nat.lt_or_ge s st.slots.length with h | h
   ·exact h
   ·simp [h] at hs
  have hv : a.tmps.getD s Go.undef = .slice none 0 0 := by
   have := hi.slot s hsl
   rw [hs] at this
   exact qN this
  have := qeA (used := []) (used' := []) (dl := ⟨some s, .own nm (q7 st.blks nm), [(nm, q7 st.blks nm, .row t τ [])]⟩) (v := .slice none 0 0) ⟨hi, fun i s b x e => absurd e (ZG hg i s b x)⟩ T (fun _ h => h) (fun k hk => by simp) (fun k hk => Rep.own (vg _ _ _ _ rfl)) fun k hk s b x hx => by simp at hx
  have ha : a.put (some s) (.slice none 0 0) = a := by
   have hlt : s < a.tmps.size := by rw [hi.size]; exact hsl
   simp only [Act.put]
   have : a.tmps.setIfInBounds s (.slice none 0 0) = a.tmps := by
    apply Array.ext
    ·simp
    ·intro i h1 h2
     by_cases hi' : s = i
     ·subst hi'
      simp [hlt] at hv
      simp [hv]
     ·rw [Array.getElem_setIfInBounds]
      rw [qi hi']
   rw [this]
  rw [ha] at this
  exact ⟨_, this.toInv⟩
 ·simp at e
theorem Ev.nil {fn : Wy} {m : Nat} {todo : List Item} {st st' : St} {res : AV} {bout : List (Nat × Blk)} (s nm : Nat) (t : TypeId) (τ : RTy) (e : qoQ s nm t τ st = some st') (hg : zq st.slots = true) (h : Ev P fn m todo st' res bout) : Ev P fn m todo st res bout :=
 fun cx hG hh hent b cs a w _ hi => let ⟨env', hi'⟩ := qnc hh e hg hi; h cx hG hh hent b cs a w env' hi'
theorem EvR.nil {fn : Wy} {m : Nat} {st st' : St} {res : AV} {bout : List (Nat × Blk)} (s nm : Nat) (t : TypeId) (τ : RTy) (e : qoQ s nm t τ st = some st') (hg : zq st.slots = true) (h : EvR P fn m st' res bout) : EvR P fn m st res bout :=
 fun cx hG hh hent a w _ hi => let ⟨env', hi'⟩ := qnc hh e hg hi; h cx hG hh hent a w env' hi'
end
end Go.AM
namespace Go.AM
open Go
def qcG (P : Program) (bl : qL) (slots : List AV) : List ResultVar → Option (List AV)
 | [] => some []
 | .tmp t :: r => match qcG P bl slots r with
  | some l => some (slots.getD t .undef :: l)
  | none => none
 | .cell p t :: r => match ZH bl (slots.getD p .undef) (P.cellsOf t) with
  | some cs => match Xu P t cs with
   | some v => match qcG P bl slots r with
    | some l => some (v :: l)
    | none => none
   | none => none
  | none => none
def qmZ : Nat → qL → Option (List (Nat × Blk))
 | _, [] => some []
 | j, (n, v, b) :: r => bif qy n j then (match qmZ (j + 1) r with
  | some l => some ((v, b) :: l)
  | none => none) else none
section
variable {P : Program} {cx : Cx} {w : World} {env : Env} {bl : qL}
theorem qm0 : ∀ {bl : qL} {j : Nat} {l : List (Nat × Blk)}, qmZ j bl = some l → z6 j l = bl
 | [], j, l, e => by simp [qmZ] at e; subst e; rfl
 | (n, v, b) :: r, j, l, e => by
  simp only [qmZ] at e
  cases h : qy n j <;> simp only [h, qj, qg] at e
  ·simp at e
  have := qk h
  subst this
  split at e
  ·rename_i l' hl
   simp at e; subst e
   simp [z6, qm0 hl]
  ·simp at e
theorem qhp {st : St} {a : Act} (hi : Inv cx st a w env) : ∀ {rs : List ResultVar} {vs : List AV}, qcG P st.blks st.slots rs = some vs → ∃ us, (∀ f : ResultVar → Sem Value, (∀ u, f (.tmp u) = pure (a.tmps.getD u Go.undef)) → (∀ p t, f (.cell p t) = (do loadVar t (← asAddr (a.tmps.getD p Go.undef)))) → (rs.mapM f).run P w = .ok us w) ∧ us.length = rs.length ∧ All2 (Rep w (qn cx env w) env) us vs
 | [], vs, e => by
  simp [qcG] at e; subst e
  exact ⟨[], fun f _ _ => by simp, rfl, .nil⟩
 | .tmp t :: r, vs, e => by
  simp only [qcG] at e
  split at e
  ·rename_i l hl
   simp at e; subst e
   obtain ⟨us, h1, h2, h3⟩ := qhp hi hl
   exact ⟨a.tmps.getD t Go.undef :: us, fun f hf hc => by simp [List.mapM_cons, hf, h1 f hf hc], by simp [h2], .cons (Q1 (WC hi t)) h3⟩
  ·simp at e
 | .cell p t :: r, vs, e => by
  simp only [qcG] at e
  split at e
  ·rename_i cs hcs
   split at e
   ·rename_i v hv
    split at e
    ·rename_i l hl
     simp at e; subst e
     obtain ⟨us, h1, h2, h3⟩ := qhp hi hl
     obtain ⟨B, o, ws, hp, g1, g2, g3⟩ := qmP hi.mem (Q1 (WC hi p)) hcs
     obtain ⟨u, hu, hur⟩ := qh2 (P := P) g1 g2 g3 hv
     have hp' : a.tmps.getD p Go.undef = .pointer (some ⟨B, o, none⟩) := hp
     exact ⟨u :: us, fun f hf hc => by rw [List.mapM_cons, hc, hp']; simp [asAddr, hu, h1 f hf hc], by simp [h2], .cons hur h3⟩
    ·simp at e
   ·simp at e
  ·simp at e
def qcO : List AV → AV
 | [x] => x
 | l => .tup l
theorem EvR.fin_val {fn : Func} {st : St} {a : Act} {vs : List AV} (hi : Inv cx st a w env) (hvs : qcG P st.blks st.slots fn.results.toList = some vs) : ∃ v, (results fn a.tmps).run P w = .ok v w ∧ Rep w (qn cx env w) env v (qcO vs) := by
 obtain ⟨us, h1, h2, h3⟩ := qhp (P := P) hi hvs
 have hr : (results fn a.tmps).run P w = .ok (if h : us.toArray.size = 1 then us.toArray[0] else .tuple us.toArray) w := by
  unfold results
  have e0 : fn.results = fn.results.toList.toArray := by simp
  rw [e0, List.mapM_toArray]
  simp only [Sem.run_bind, Sem.run_map]
  rw [h1 _ (fun _ => rfl) fun _ _ => rfl]
  simp
 refine ⟨_, hr, ?_⟩
 cases h3 with
 | nil => simp [qcO]; exact .tup #[] [] rfl (by simp)
 | cons h t =>
  cases t with
  | nil => simpa [qcO] using h
  | cons h' t' =>
   rename_i x1 y1 x2 y2 l1 l2
   have hs : ¬ (x1 :: x2 :: l1).toArray.size = 1 := by simp
   rw [dif_neg hs]
   exact qol (All2.cons h (All2.cons h' t'))
def qa3 (fn : Func) (args : List AV) (bin : List Blk) : St := ⟨args ++ List.replicate (fn.ntmps - args.length) .undef, z6 0 (Z3 bin)⟩
variable [GT P]
theorem CC.of_ev {f : FuncId} {fn : Func} {c : Code} {args : List AV} {bin : List Blk} {res : AV} {bout : List (Nat × Blk)} (hf : P.funcs[f]? = some fn) (hb : fn.body = some c) (hn : (fn.name == "runtime.NumGoroutine") = false) (hg : zq args = true)
  (h : Ev P fn bin.length [.code c] (qa3 fn args bin) res bout) : CC P f args bin res bout := by
 refine ⟨⟨fn, c, hf, hb, hn⟩, fun cx env vs hwf hG hh hent hm hs hargs cs => ?_⟩
 let b : Frame := { (default : Frame) with fn := f, kind := .normal, roundOf := none }
 let a : Act := { tmps := vs ++ Array.replicate (fn.ntmps - vs.size) Go.undef, defers := [] }
 have henter : Frame.enter P f vs .normal = b.atR a [.code c] := by
  simp [Frame.enter, Frame.atR, hf, hb, b, a, Go.undef]
 have hi : Inv cx (qa3 fn args bin) a cx.w0 env := by
  refine ⟨Marks.nil _ _ _, by simp [qa3, a, hs], fun i h => ?_, hm⟩
  simp only [qa3] at h ⊢
  by_cases hlt : i < args.length
  ·have e1 : (args ++ List.replicate (fn.ntmps - args.length) AV.undef).getD i .undef = args.getD i .undef := by
    simp [List.getElem?_append_left hlt]
   have e2 : a.tmps.getD i Go.undef = vs.getD i Go.undef := by
    have : i < vs.size := by omega
    simp [a, Array.getElem?_append_left this]
   rw [e1, e2]
   have h1 := hargs i hlt
   have hx : args[i]? = some (args.getD i .undef) := by simp [hlt]
   revert h1 hx
   cases args.getD i .undef with
   | gd s b x => intro _ hx; exact absurd hx (ZG hg i s b x)
   | _ => intro h1 _; exact h1
  ·have e1 : (args ++ List.replicate (fn.ntmps - args.length) AV.undef).getD i .undef = .undef := by
    rw [List.getD_eq_getElem?_getD, List.getElem?_append_right (Nat.le_of_not_lt hlt), List.getElem?_replicate]
    split <;> rfl
   rw [e1]
   exact Rep.undef _
 obtain ⟨a', w', todo, h1, h2, v, env', h3, h4, h5⟩ := h cx hG hh (fun nm h0 e => by
  have e' := (hent nm h0).1 e
  rcases Nat.lt_or_ge nm bin.length with h | h
  ·exact h
  ·have : qS (z6 0 (Z3 bin)) nm = none := by
    rw [QG, qc (Q9 _), Nat.sub_zero, qao]
    simp [List.getElem?_eq_none h]
   rw [hm.dom nm this (hh nm)] at e'
   simp at e') b cs a cx.w0 env hi rfl
 rw [← henter] at h1
 exact ⟨.returned v, w', _, ⟨v, env', rfl, h4, h5⟩, h1, rfl, rfl, h2, rfl, fn, hf, h3⟩
def qjr : List Nat → List AV → List AV → List AV
 | p :: ps, x :: xs, l => qjr ps xs (qlk l p x)
 | _, _, l => l
def Yp (args : List AV) (bin : List Blk) : St := match bin with
 | .loop _ _ rc sl :: _ => ⟨qjr rc.ps args sl, z6 0 (Z3 bin)⟩
 | _ => ⟨[], []⟩
def qpx (bin : List Blk) : List Item := match bin with
 | .loop _ _ rc _ :: _ => [.code rc.assign, .beginRound, .code rc.body]
 | _ => []
theorem qpu {ok : Nat → Prop} : ∀ (ps : List Nat) (args : List AV) (vs : List Value) (l : List AV) (t : Array Value), vs.length = args.length → t.size = l.length → (∀ i, i < args.length → Rep w ok env (vs.getD i Go.undef) (args.getD i .undef)) → (∀ i, i < l.length → Rep w ok env (t.getD i Go.undef) (l.getD i .undef)) →
  ((ps.zip vs).foldl (fun (tmps : Array Value) (p : Nat × Value) => tmps.setIfInBounds p.1 p.2) t).size = (qjr ps args l).length ∧ ∀ i, i < (qjr ps args l).length → Rep w ok env (((ps.zip vs).foldl (fun (tmps : Array Value) (p : Nat × Value) => tmps.setIfInBounds p.1 p.2) t).getD i Go.undef) ((qjr ps args l).getD i .undef)
 | [], args, vs, l, t, h1, h2, h3, h4 => ⟨h2, h4⟩
 | p :: ps, [], vs, l, t, h1, h2, h3, h4 => by
  have : vs = [] := by cases vs <;> simp_all
  subst this
  exact ⟨h2, h4⟩
 | p :: ps, x :: args, [], l, t, h1, h2, h3, h4 => by simp at h1
 | p :: ps, x :: args, v :: vs, l, t, h1, h2, h3, h4 => by
  simp only [List.zip_cons_cons, List.foldl_cons, qjr]
  refine qpu ps args vs _ _ (by simpa using h1) (by simp [Wj, h2]) (fun i hi => by simpa using h3 (i + 1) (by simpa using hi)) fun i hi => ?_
  rw [Wj, List.length_set] at hi
  by_cases e : p = i
  ·subst e
   have := h3 0 (by simp)
   simpa [Wj, h2, hi] using this
  ·have := h4 i hi
   simpa [Wj, e, Array.getElem?_setIfInBounds_ne e] using this
theorem YC.of {args : List AV} {bin : List Blk} {res : AV} {bout : List (Nat × Blk)} (hr : qpx bin ≠ []) (hg : zq (Yp args bin).slots = true)
  (h : Ev P .round bin.length (qpx bin) (Yp args bin) res bout) : YC P args bin res bout := by
 intro cx env vs l r hwf hG hh hent hm h0 hl hs hargs c cs
 cases bin with
 | nil => exact absurd rfl hr
 | cons b0 bin' =>
 cases b0 with
 | loop s p rc sl =>
  obtain ⟨x, hx, hrep⟩ := hm.blk 0 0 (.loop s p rc sl) (by simp [z6, Z3, qS])
  rw [h0] at hx
  simp at hx
  subst hx
  cases hrep with
  | loop _ r' _ _ hb hp ha hc hsz hsl =>
  rw [hl] at hb
  simp at hb
  subst hb
  let b : Frame := { (default : Frame) with fn := r.fn, kind := .normal, roundOf := some l }
  let a : Act := { tmps := (r.params.zip vs).foldl (fun tmps (t, a) => tmps.setIfInBounds t a) r.tmps, defers := [] }
  have hround : Frame.round l r.fn ((r.params.zip vs).foldl (fun tmps (t, a) => tmps.setIfInBounds t a) r.tmps) r.assign r.body .normal = b.atR a [.code rc.assign, .beginRound, .code rc.body] := by
   simp [Frame.round, Frame.atR, b, a, ha, hc]
  have htm : a.tmps = (rc.ps.zip vs.toList).foldl (fun (tmps : Array Value) (p : Nat × Value) => tmps.setIfInBounds p.1 p.2) r.tmps := by
   show (r.params.zip vs).foldl (fun (tmps : Array Value) (p : Nat × Value) => tmps.setIfInBounds p.1 p.2) r.tmps = _
   rw [hp]
   have : (rc.ps.toArray.zip vs) = (rc.ps.zip vs.toList).toArray := by
    apply Array.ext'
    simp
   rw [this]
   simp
  obtain ⟨k1, k2⟩ := qpu (w := cx.w0) (env := env) (ok := qn cx env cx.w0) rc.ps args vs.toList sl r.tmps (by simpa using hs) hsz (fun i hi => by simpa using hargs i hi) hsl
  have hi : Inv cx (Yp args (.loop r.state r.pending rc sl :: bin')) a cx.w0 env := by
   refine ⟨Marks.nil _ _ _, by rw [htm]; exact k1, fun i h => ?_, hm⟩
   have h2 := k2 i h
   rw [← htm] at h2
   have hx : (Yp args (.loop r.state r.pending rc sl :: bin')).slots[i]? = some ((Yp args (.loop r.state r.pending rc sl :: bin')).slots.getD i .undef) := by simp [h]
   have h2 : Rep cx.w0 (qn cx env cx.w0) env (a.tmps.getD i Go.undef) ((Yp args (.loop r.state r.pending rc sl :: bin')).slots.getD i .undef) := h2
   revert h2 hx
   generalize (Yp args (.loop r.state r.pending rc sl :: bin')).slots.getD i .undef = y
   cases y with
   | gd s b x => intro hx _; exact absurd hx (ZG hg i s b x)
   | _ => intro _ h1; exact h1
  rw [hround]
  obtain ⟨v, w', env', h1, h2, h3⟩ := h cx hG hh (fun nm h0 e => by
   have e' := (hent nm h0).1 e
   rcases Nat.lt_or_ge nm (Blk.loop r.state r.pending rc sl :: bin').length with h | h
   ·exact h
   ·have : qS (z6 0 (Z3 (Blk.loop r.state r.pending rc sl :: bin'))) nm = none := by
     rw [QG, qc (Q9 _), Nat.sub_zero, qao]
     simp [List.getElem?_eq_none h]
    rw [hm.dom nm this (hh nm)] at e'
    simp at e') b (c :: cs) a cx.w0 env hi l c cs rfl rfl rfl ((hent 0 _).2 h0)
  exact ⟨v, w', ⟨env', h2, h3⟩, h1⟩
 | _ => exact absurd rfl hr
end
end Go.AM
namespace Go.AM
open Go
inductive Cmd where
 | ren (live : List Nat) (M : List (Nat × Nat × Nat))
 | nil (s nm : Nat) (t : TypeId) (τ : RTy)
 | auto (live : List Nat) (fin : Bool)
 | row (s : Nat) (t : TypeId) (τ : RTy)
 | key (s : Nat)
 | autoB (live : List Nat) (fin : Bool) (bumps : List Nat)
 | frz (s : Nat) (ag : Bool) (τ : RTy)
def qst : AV → Bool
 | .agg _ => true
 | .r (.v (.agg _)) => true
 | _ => false
def qht (ag : Bool) (τ : RTy) (x : τ.T) : AV := match ag with
 | true => .agg (qB (qr τ x))
 | false => .r ((qr τ x).headD .undef)
def qqG (ag : Bool) (τ : RTy) (x : AV) : Bool := match ag with
 | true => qst x
 | false => qy τ.sz 1 && !qst x
def qGb (s : Nat) (ag : Bool) (τ : RTy) (st : St) : Option St := match WH st.blks (st.slots.getD s .undef) with
 | some cs => match qdf st.blks τ cs with
  | some (y, z) => bif zq st.slots && qqG ag τ (st.slots.getD s .undef) then some ⟨qlk st.slots s (qht ag τ y), we st.blks (vE z)⟩ else none
  | none => none
 | none => none
section
variable {P : Program} [GT P] {cx : Cx} {w : World} {env : Env}
theorem qyy (hh : ∀ n, ¬ cx.hid n) {s : Nat} {ag : Bool} {τ : RTy} {st st' : St} (e : qGb s ag τ st = some st') {a : Act} (hi : Inv cx st a w env) : ∃ env', Inv cx st' a w env' := by
 unfold qGb at e
 split at e
 ·rename_i cs hcs
  split at e
  ·rename_i y z hd
   cases hq : (zq st.slots && qqG ag τ (st.slots.getD s .undef))
   ·rw [hq] at e; simp at e
   rw [hq] at e
   simp only [qj] at e
   rw [qh] at hq
   obtain ⟨hg, hk⟩ := hq
   simp at e; subst e
   have hsl : s < st.slots.length := by
    rcases Nat.lt_or_ge s st.slots.length with h | h
    ·exact h
    ·simp [h, WH, Qj] at hcs
   have hrep : Rep w (qn cx env w) env (a.tmps.getD s Go.undef) (st.slots.getD s .undef) := Q1 (hi.slot s hsl)
   have hr := Zd hi.mem hrep hcs
   obtain ⟨env1, T1, G⟩ := qxs hi.mem (Xb hd)
   have hro := qdP hi.mem G hr hd fun p hp => hp
   have hnew : Rep w (qn cx env1 w) env1 (a.tmps.getD s Go.undef) (qht ag τ y) := by
    generalize a.tmps.getD s Go.undef = u at hrep hr hro
    generalize st.slots.getD s .undef = x at hrep hcs hk
    cases ag with
    | true =>
     have : ∃ vs, u = .agg vs := by
      simp only [qqG] at hk
      unfold qst at hk
      split at hk
      ·obtain ⟨vs, rfl, _⟩ := zM hrep; exact ⟨vs, rfl⟩
      ·rename_i vs; exact ⟨vs, qN hrep⟩
      ·cases hk
     obtain ⟨vs, rfl⟩ := this
     have h2 := Qn (env := env1) hro
     have := Wg h2
     simpa [qht, Value.cells] using this
    | false =>
     simp only [qqG, qh, Bool.not_eq_true'] at hk
     have h1 := qk hk.1
     have hc : u.cells = #[u] := by
      unfold WH at hcs
      split at hcs
      ·simp [qst] at hk
      ·simp [qst] at hk
      ·cases hco : Qj st.blks x <;> simp [hco] at hcs
       exact (qbn hi.mem hrep hco).2
     rw [hc] at hro
     have hl := wW τ y
     rw [h1] at hl
     cases he : qr τ y with
     | nil => rw [he] at hl; simp at hl
     | cons v r =>
      rw [he] at hro
      cases hro with
      | cons g1 g2 =>
       simp only [qht, he, List.headD_cons]
       exact .r g1
   have nog : ∀ (s0 : Nat) (b : Bool) (x : AV), qht ag τ y ≠ .gd s0 b x := fun s0 b x h => by
    unfold qht at h
    cases ag <;> simp at h
   have := qeA (used := []) (used' := []) (dl := ⟨some s, qht ag τ y, vE z⟩) (v := a.tmps.getD s Go.undef) ⟨hi, fun i s b x e => absurd e (ZG hg i s b x)⟩ T1 (fun _ h => h) (fun k hk => by simp) (fun k hk => by
    generalize hf : qht ag τ y = f at hnew
    cases f <;> first | exact hnew | exact absurd hf (nog _ _ _)) fun k hk s0 b x hx => absurd hx (nog _ _ _)
   have ha : a.put (some s) (a.tmps.getD s Go.undef) = a := by
    have hlt : s < a.tmps.size := by rw [hi.size]; exact hsl
    simp only [Act.put]
    have : a.tmps.setIfInBounds s (a.tmps.getD s Go.undef) = a.tmps := by
     apply Array.ext
     ·simp
     ·intro i h1 h2
      by_cases hi' : s = i
      ·subst hi'
       simp [hlt]
      ·rw [Array.getElem_setIfInBounds]
       rw [qi hi']
    rw [this]
   rw [ha] at this
   exact ⟨env1, this.toInv⟩
  ·simp at e
 ·simp at e
def qyx (nm ver : Nat) (τ : RTy) (st : St) : Option St := match qS st.blks nm with
 | some (v, b) => match b with
  | .var t cs => match qdf st.blks τ cs with
   | some (y, z) => bif zq st.slots && (qy v ver && (z.all fun p => !Nat.beq p.1 nm)) then some (st.app ⟨none, .undef, vE z ++ [(nm, v, .var t (qB (qr τ y)))]⟩) else none
   | none => none
  | _ => none
 | none => none
theorem qpL : ∀ (z : List (Nat × Nat)) (x : Nat × Nat × Blk), x ∈ vE z → ∃ p ∈ z, x.1 = p.1
 | [], x, h => by simp [vE] at h
 | (n, v) :: r, x, h => by
  simp only [vE, qK] at h
  rcases h with rfl | h
  ·exact ⟨(n, v), by simp, rfl⟩
  ·obtain ⟨p, hp, e⟩ := qpL r x h
   exact ⟨p, by simp [hp], e⟩
theorem qt8 (hh : ∀ n, ¬ cx.hid n) {nm ver : Nat} {τ : RTy} {st st' : St} (e : qyx nm ver τ st = some st') {a : Act} (hi : Inv cx st a w env) : ∃ env', Inv cx st' a w env' := by
 unfold qyx at e
 split at e
 ·rename_i v b hb
  split at e
  ·rename_i t cs
   split at e
   ·rename_i y z hd
    cases hq : (zq st.slots && (qy v ver && (z.all fun p => !Nat.beq p.1 nm)))
    ·rw [hq] at e; simp at e
    rw [hq] at e
    simp only [qj] at e
    rw [qh, qh] at hq
    obtain ⟨hg, _, hz⟩ := hq
    simp only [Option.some.injEq] at e
    subst e
    obtain ⟨h, he, hrep⟩ := hi.mem.blk nm v _ hb
    obtain ⟨env1, T1, G⟩ := qxs hi.mem (Xb hd)
    have hne : ∀ x ∈ vE z, x.1 ≠ nm := fun x hx q => by
     obtain ⟨p, hp, e1⟩ := qpL z x hx
     have := vB.1 hz p hp
     rw [← e1, q] at this
     simp [qe4] at this
    have hb1 : qS (we st.blks (vE z)) nm = some (v, .var t cs) := by rw [ZX _ _ _ hne]; exact hb
    obtain ⟨h1, he1, hrep1⟩ := T1.mem.blk nm v _ hb1
    have hh1 : h = h1 := by
     obtain ⟨cv', h', e2, l2, q2⟩ := T1.le nm v h he
     rw [he1] at e2
     simp at e2
     obtain ⟨rfl, rfl⟩ := e2
     exact q2 rfl
    subst hh1
    have T2 : Trans cx w env1 (z7 (we st.blks (vE z)) nm v (.var t (qB (qr τ y)))) w (env1.put nm v h) := by
     refine wM T1.mem (hh nm) ⟨⟨.inr ⟨v, h, he1, .inr ⟨rfl, rfl⟩⟩, Grew.refl _, fun _ _ _ => rfl, fun B q => .inr ⟨v, h, he1, q⟩⟩, ?_⟩
     have hokm : ∀ B, qn cx env1 w B → qn cx (env1.put nm v h) w B := fun B ⟨o1, o2, o3⟩ => ⟨o1, o2, fun n ver h2 e2 => by
      unfold Env.put at e2
      split at e2
      ·rename_i hn
       simp at e2
       obtain ⟨rfl, rfl⟩ := e2
       exact o3 _ _ _ he1
      ·exact o3 n ver h2 e2⟩
     cases hrep with
     | var B _ vs _ hB hs hc =>
      have a1 : Rp w (qn cx env w) env vs.toList cs := All2.of_get Go.undef .undef (by simpa using hs) fun i hi => by simpa using hc i hi
      have hro := qdP hi.mem G a1 hd fun p hp => hp
      have h2 := Qn (env := env1.put nm v (.pointer (some ⟨B, 0, none⟩))) (hro.mono fun _ _ q => q.mono hokm fun _ _ _ => rfl)
      have hl := h2.length
      exact .var B t vs _ hB (by simpa using hl) fun i hi => by simpa using h2.get Go.undef .undef i hi
     | varS B _ vs _ hB h0 hm hs hc =>
      have a1 : Rp w (qn cx env w) env vs.toList cs := All2.of_get Go.undef .undef (by simpa using hs) fun i hi => by simpa using hc i hi
      have hro := qdP hi.mem G a1 hd fun p hp => hp
      have h2 := Qn (env := env1.put nm v (.slice (some ⟨B, 0, none⟩) vs.size vs.size)) (hro.mono fun _ _ q => q.mono hokm fun _ _ _ => rfl)
      have hl := h2.length
      exact .varS B t vs _ hB h0 hm (by simpa using hl) fun i hi => by simpa using h2.get Go.undef .undef i hi
    have T : Trans cx w env (we st.blks (vE z ++ [(nm, v, .var t (qB (qr τ y)))])) w (env1.put nm v h) := by
     rw [Wi]
     exact T1.trans T2
    have := qeA (used := []) (used' := []) (dl := ⟨none, .undef, vE z ++ [(nm, v, .var t (qB (qr τ y)))]⟩) (v := Go.undef) ⟨hi, fun i s b x e => absurd e (ZG hg i s b x)⟩ T (fun _ h => h) (fun k hk => by simp at hk) (fun k hk => by simp at hk) fun k hk => by simp at hk
    exact ⟨_, this.toInv⟩
   ·cases e
  ·cases e
 ·cases e
def qnb (s : Nat) (ag : Bool) (τ : RTy) (st : St) : Option St := match st.slots.getD s .undef with
 | .ptr nm ver 0 => qyx nm ver τ st
 | _ => qGb s ag τ st
theorem qkd (hh : ∀ n, ¬ cx.hid n) {s : Nat} {ag : Bool} {τ : RTy} {st st' : St} (e : qnb s ag τ st = some st') {a : Act} (hi : Inv cx st a w env) : ∃ env', Inv cx st' a w env' := by
 unfold qnb at e
 split at e
 ·exact qt8 hh e hi
 ·exact qyy hh e hi
theorem Ev.frz {fn : Wy} {m : Nat} {todo : List Item} {st st' : St} {res : AV} {bout : List (Nat × Blk)} {s : Nat} {ag : Bool} {τ : RTy} (e : qnb s ag τ st = some st') (h : Ev P fn m todo st' res bout) : Ev P fn m todo st res bout :=
 fun cx hG hh hent b cs a w _ hi => let ⟨env', hi'⟩ := qkd hh e hi; h cx hG hh hent b cs a w env' hi'
theorem EvR.frz {fn : Wy} {m : Nat} {st st' : St} {res : AV} {bout : List (Nat × Blk)} {s : Nat} {ag : Bool} {τ : RTy} (e : qnb s ag τ st = some st') (h : EvR P fn m st' res bout) : EvR P fn m st res bout :=
 fun cx hG hh hent a w _ hi => let ⟨env', hi'⟩ := qkd hh e hi; h cx hG hh hent a w env' hi'
end
def qn4 (slots : List AV) : List Nat → List Nat
 | [] => []
 | i :: r => qCK (slots.getD i .undef) ++ qn4 slots r
def idM (bl : qL) : Nat → List (Nat × Nat × Nat)
 | 0 => []
 | i + 1 => idM bl i ++ [(i, i, match qS bl i with
  | some (0, _) => 0
  | _ => 1)]
def qNS (bl : qL) (bs : List Nat) : Nat → List (Nat × Nat × Nat)
 | 0 => []
 | i + 1 => qNS bl bs i ++ [(i, i, bif wo i bs then 1 else match qS bl i with
  | some (0, _) => 0
  | _ => 1)]
def qsm (m : Nat) : Nat → List Nat → List (Nat × Nat × Nat)
 | _, [] => []
 | k, n :: r => bif Nat.blt n m then qsm m k r else (n, k, 0) :: qsm m (k + 1) r
def qyw (P : Program) (m : Nat) (rs : List ResultVar) (st : St) : Option (AV × List (Nat × Blk)) := match qcG P st.blks st.slots rs with
 | some vs => bif zi (qcO vs) then (match qip m [0] (idM st.blks m ++ qsm m m (Xx st.blks 1000 (qCK (qcO vs)) [])) ⟨[qcO vs], st.blks⟩ with
  | some st' => match st'.slots with
   | [r] => match qmZ 0 st'.blks with
    | some bout => some (r, bout)
    | none => none
   | _ => none
  | none => none) else none
 | none => none
theorem EvR.fin2 {P : Program} [GT P] {fn : Wy} {m : Nat} {st : St} {res : AV} {bout : List (Nat × Blk)} (e : qyw P m fn.fn.results.toList st = some (res, bout)) : EvR P fn m st res bout := by
 intro cx hG hh hent a w env hi
 unfold qyw at e
 split at e
 ·rename_i vs hvs
  cases hn : zi (qcO vs) <;> simp only [hn, qj, qg] at e
  ·simp at e
  split at e
  ·rename_i st' hst
   split at e
   ·rename_i r hr
    split at e
    ·rename_i bout' hb
     simp only [Option.some.injEq, Prod.mk.injEq] at e
     obtain ⟨rfl, rfl⟩ := e
     obtain ⟨v, hv, hrep⟩ := EvR.fin_val (P := P) (fn := fn.fn) hi hvs
     have hi' : Inv cx ⟨[qcO vs], st.blks⟩ { tmps := #[v], defers := [] } w env := by
      refine ⟨Marks.nil _ _ _, rfl, fun i h => ?_, hi.mem⟩
      have : i = 0 := by simpa using h
      subst this
      exact qeF hn hrep
     have h2 := qgb hh hent hst hi'
     refine ⟨v, _, hv, by rw [qm0 hb]; exact h2.mem, ?_⟩
     have h3 := h2.slot 0 (by rw [hr]; simp)
     rw [hr] at h3
     exact Q1 h3
    ·simp at e
   ·simp at e
  ·simp at e
 ·simp at e
def YS (m : Nat) : List Cmd → St → Option St
 | [], st => some st
 | c :: r, st => match (match c with
   | .ren live M => qip m live M st
   | .nil s nm t τ => bif zq st.slots then qoQ s nm t τ st else none
   | .auto live fin => qip m live (idM st.blks m ++ qsm m (bif fin then m else 1000000) (Xx st.blks 1000 (qn4 st.slots live) [])) st
   | .row s t τ => match st.slots.getD s .undef with
    | .r (.v (.slice none 0 0)) => bif zq st.slots then qoQ s (2000000 + s) t τ st else none
    | _ => some st
   | .key _ => some st
   | .autoB live fin bs => qip m live (qNS st.blks bs m ++ qsm m (bif fin then m else 1000000) (Xx st.blks 1000 (qn4 st.slots live) [])) st
   | .frz s ag τ => qnb s ag τ st) with
  | some st' => YS m r st'
  | none => none
def qfH (todo : List Item) : List Item := match todo with
 | .inLoop c :: k => .code c :: .inLoop c :: k
 | .code (.loop c) :: k => .code c :: .inLoop c :: k
 | k => k
def qQE (P : Program) [GT P] (R : wT) (rd : Bool) (m : Nat) (l : List Nat) (todo : List Item) (st : St) (ora : List Or) (cs : List Cmd) : Option (List Prop × List Item × St) :=
 match qlq P R rd l 1000 todo st ora with
 | some (φ, .at todo' st', []) => match YS m cs st' with
  | some st'' => some (φ, qfH todo', st'')
  | none => none
 | _ => none
def qM : Nat → List (Nat × AV) → List AV
 | 0, _ => []
 | n + 1, l => qM n l ++ [(match l.find? (fun p => qy p.1 n) with
  | some p => p.2
  | none => .undef)]
def qru (fn : Func) : List Item := match fn.body with
 | some c => [.code c]
 | none => []
section
variable {P : Program} [GT P] {R : wT}
theorem Ev.inLoop {fn : Wy} {m : Nat} {todo : List Item} {st : St} {res : AV} {bout : List (Nat × Blk)} (h : Ev P fn m (qfH todo) st res bout) : Ev P fn m todo st res bout := by
 unfold qfH at h
 split at h
 ·exact fun cx hG hh hent b cs a w env hi => .of_steps (.one stepR_inLoop) (h cx hG hh hent b cs a w env hi)
 ·exact fun cx hG hh hent b cs a w env hi => .of_steps (.one stepR_loop) (h cx hG hh hent b cs a w env hi)
 ·exact h
theorem Ev.cmds {fn : Wy} {m : Nat} {todo : List Item} {res : AV} {bout : List (Nat × Blk)} : ∀ {cs : List Cmd} {st st' : St}, YS m cs st = some st' → Ev P fn m todo st' res bout → Ev P fn m todo st res bout
 | [], st, st', e, h => by simp [YS] at e; subst e; exact h
 | c :: r, st, st', e, h => by
  simp only [YS] at e
  split at e
  ·rename_i s hs
   have ih := Ev.cmds e h
   cases c with
   | ren live M => exact Ev.ren live M hs ih
   | nil s' nm t τ =>
    simp only at hs
    cases hg : zq st.slots <;> simp only [hg, qj, qg] at hs
    ·simp at hs
    ·exact Ev.nil s' nm t τ hs hg ih
   | auto live fin => exact Ev.ren live _ hs ih
   | autoB live fin bs => exact Ev.ren live _ hs ih
   | row s' t τ =>
    simp only at hs
    split at hs
    ·cases hg : zq st.slots <;> simp only [hg, qj, qg] at hs
     ·simp at hs
     ·exact Ev.nil s' _ t τ hs hg ih
    ·simp at hs; subst hs; exact ih
   | key s' => simp at hs; subst hs; exact ih
   | frz s' ag τ => exact Ev.frz hs ih
  ·simp at e
theorem EvR.cmds {fn : Wy} {m : Nat} {res : AV} {bout : List (Nat × Blk)} : ∀ {cs : List Cmd} {st st' : St}, YS m cs st = some st' → EvR P fn m st' res bout → EvR P fn m st res bout
 | [], st, st', e, h => by simp [YS] at e; subst e; exact h
 | c :: r, st, st', e, h => by
  simp only [YS] at e
  split at e
  ·rename_i s hs
   have ih := EvR.cmds e h
   cases c with
   | ren live M => exact EvR.ren live M hs ih
   | nil s' nm t τ =>
    simp only at hs
    cases hg : zq st.slots <;> simp only [hg, qj, qg] at hs
    ·simp at hs
    ·exact EvR.nil s' nm t τ hs hg ih
   | auto live fin => exact EvR.ren live _ hs ih
   | autoB live fin bs => exact EvR.ren live _ hs ih
   | row s' t τ =>
    simp only at hs
    split at hs
    ·cases hg : zq st.slots <;> simp only [hg, qj, qg] at hs
     ·simp at hs
     ·exact EvR.nil s' _ t τ hs hg ih
    ·simp at hs; subst hs; exact ih
   | key s' => simp at hs; subst hs; exact ih
   | frz s' ag τ => exact EvR.frz hs ih
  ·simp at e
theorem Ev.go (hm : P.follows .mixedOrders = true) {fn : Wy} {m : Nat} {l : List Nat} {todo todo' : List Item} {st st' : St} {ora : List Or} {cs : List Cmd} {φ : List Prop} {res : AV} {bout : List (Nat × Blk)}
  (e : qQE P R fn.rd m l todo st ora cs = some (φ, todo', st')) (hφ : zo φ) (h : Ev P fn m todo' st' res bout) : Ev P fn m todo st res bout := by
 unfold qQE at e
 split at e
 ·rename_i φ' t s hr
  split at e
  ·rename_i s' hs
   simp at e; obtain ⟨rfl, rfl, rfl⟩ := e
   exact Ev.seg hm hr hφ (Ev.inLoop (Ev.cmds hs h))
  ·simp at e
 ·simp at e
theorem CC.of {f : FuncId} {fn : Func} {args : List AV} {bin : List Blk} {res : AV} {bout : List (Nat × Blk)} (hf : P.funcs[f]? = some fn) (hb : fn.body.isSome = true) (hn : (fn.name == "runtime.NumGoroutine") = false) (hg : zq args = true)
  (h : Ev P fn bin.length (qru fn) (qa3 fn args bin) res bout) : CC P f args bin res bout := by
 cases hc : fn.body with
 | none => simp [hc] at hb
 | some c =>
  refine CC.of_ev hf hc hn hg ?_
  unfold qru at h
  rw [hc] at h
  exact h
theorem qP : zo [] := fun _ h => by simp at h
theorem qf {p : Prop} {l : List Prop} (h : p) (t : zo l) : zo (p :: l) := fun q hq => by
 rcases qK.1 hq with rfl | hq
 ·exact h
 ·exact t _ hq
end
end Go.AM
namespace Go.AM
open Go
inductive Tree where
 | stuck (why : Nat)
 | test (b : Bool) (t f : Tree)
 | need (p : List Prop) (t : Tree)
 | cut (key : Nat) (todo : List Item) (st : St)
 | leaf (res : AV) (bout : List (Nat × Blk))
inductive Alt where
 | one (p : AV × List (Nat × Blk))
 | two (b : Bool) (p q : AV × List (Nat × Blk))
structure Calld where
 modes : Nat → List AV → Option (List Bool)
 res : Nat → List AV → List Blk → Option Alt
def qlU (κ τ κ' τ' : RTy) (l : List (κ.T × τ.T)) : Option (List (κ'.T × τ'.T)) := if h : κ = κ' ∧ τ = τ' then some (h.1 ▸ h.2 ▸ l) else none
def qxa (P : Program) [GT P] (R : wT) (K : Calld) (bl : qL) (g : Nat) (as : List AV) : Option (List Bool × Alt) := match K.modes g as with
 | some ms0 => match P.funcs.toList[g]? with
  | some fn => match (match qxb as.length ms0 with
    | [] => ms0
    | _ :: _ => qqN as.length ms0) with
   | ms => match Xx bl 100 (VW ms as) [] with
   | ρ => match zY P R bl ρ (qmK fn.params.toList as) ms as with
    | some cargs => match qaG bl ρ ρ with
     | some bin => match K.res g cargs bin with
      | some a => some (ms0, a)
      | none => none
     | none => none
    | none => none
  | none => none
 | none => none
def qRj (P : Program) [GT P] (R : wT) (K : Calld) (bl : qL) (nm : Nat) (rc : Rc) (as : List AV) : Option (List Bool × Alt) := match K.modes 1000000 as with
 | some ms => match Xx bl 100 (nm :: VW ms as) [] with
  | ρ => match zY P R bl ρ rc.tys ms as with
   | some cargs => match qaG bl ρ ρ with
    | some bin => match K.res 1000000 cargs bin with
     | some a => some (ms, a)
     | none => none
    | none => none
   | none => none
 | none => none
def qJx (P : Program) [GT P] (R : wT) (K : Calld) (st : St) (g : Operand) (ps : Array Nat) (asg body : Code) : Option (List Bool × Alt) := match Ve st.slots [] g with
 | .fn (.func f) first captured => qxa P R K (Xs st (3000000 + vX (.seq asg body)) ps (qlr P f first.length) asg body) f (first ++ (.own (3000000 + vX (.seq asg body)) (q7 st.blks (3000000 + vX (.seq asg body))) :: captured))
 | .r (.v (.func (.func f) first captured)) => qxa P R K (Xs st (3000000 + vX (.seq asg body)) ps (qlr P f first.size) asg body) f (zd first.toList ++ (.own (3000000 + vX (.seq asg body)) (q7 st.blks (3000000 + vX (.seq asg body))) :: zd captured.toList))
 | _ => none
def qR2 (P : Program) [GT P] (R : wT) (K : Calld) (st : St) (c : Call) : Option (List Bool × Alt) := match c.callee with
 | .value f => match Ve st.slots [] f with
  | .r (.v (.func (.func g) first captured)) => qxa P R K st.blks g (zd first.toList ++ (c.args.toList.map (Ve st.slots []) ++ zd captured.toList))
  | .fn (.func g) first captured => qxa P R K st.blks g (first ++ (c.args.toList.map (Ve st.slots []) ++ captured))
  | .own nm ver => match wP st.blks nm ver with
   | some (.loop _ _ rc _) => qRj P R K st.blks nm rc (c.args.toList.map (Ve st.slots []))
   | _ => none
  | _ => none
 | _ => none
def qfT (P : Program) [GT P] (R : wT) (K : Calld) (ops : List Oper) : List Oper → Nat → St → List Or → (List Or → Tree) → Tree
 | [], _, _, acc, k => k acc
 | o :: r, i, st, acc, k => match xo P R ops i o st [] with
  | some (_, d, _) => qfT P R K ops r (i + 1) (st.app d) acc k
  | none => match qrZ o.op with
   | some c => match qR2 P R K st c with
    | some (ms, a) => match a with
     | .one p => match xo P R ops i o st [.c ⟨ms, p.1, p.2⟩] with
      | some (_, d, _) => qfT P R K ops r (i + 1) (st.app d) (acc ++ [.c ⟨ms, p.1, p.2⟩]) k
      | none => .stuck (1000 + i)
     | .two b p q => .test b
       (match xo P R ops i o st [.c ⟨ms, p.1, p.2⟩] with
       | some (_, d, _) => qfT P R K ops r (i + 1) (st.app d) (acc ++ [.c ⟨ms, p.1, p.2⟩]) k
       | none => .stuck (1000 + i))
       (match xo P R ops i o st [.c ⟨ms, q.1, q.2⟩] with
       | some (_, d, _) => qfT P R K ops r (i + 1) (st.app d) (acc ++ [.c ⟨ms, q.1, q.2⟩]) k
       | none => .stuck (1000 + i))
    | none => .stuck (2000 + i)
   | none => match xop P R st.blks (Ve st.slots []) (100 + o.dst.getD 0) o.op with
    | some e => match e.v with
     | .r (.v (.bool b)) => .test b
       (match xo P R ops i o st [.d true] with
         | some (_, d, _) => qfT P R K ops r (i + 1) (st.app d) (acc ++ [.d true]) k
         | none => .stuck (3000 + i))
       (match xo P R ops i o st [.d false] with
         | some (_, d, _) => qfT P R K ops r (i + 1) (st.app d) (acc ++ [.d false]) k
         | none => .stuck (3000 + i))
     | _ => .stuck (4000 + i)
    | none => .stuck (5000 + i)
def qrK (n : Nat) : List (Nat × List Cmd) → List Cmd
 | [] => []
 | (m, c) :: r => bif qy m n then c else qrK n r
def qxC (p : List Prop) (t : Tree) : Tree := match p with
 | [] => t
 | _ :: _ => .need p t
def qEI (P : Program) [GT P] (R : wT) (K : Calld) (todo : List Item) (st : St) (k : List Or → Tree) : Tree := match todo with
 | [] => k []
 | it :: _ => match it with
  | .code c => match c with
   | .cond x _ _ => match Ve st.slots [] x with
    | .r (.v (.bool b)) => .test b (k [.d true]) (k [.d false])
    | _ => .stuck 1
   | .region _ ops _ => qfT P R K ops.toList ops.toList 0 st [] k
   | .rangeFunc g ps asg body => match qJx P R K st g ps asg body with
    | some (ms, a) => (match a with
     | .one p => k [.c ⟨ms, p.1, p.2⟩]
     | .two b p q => .test b (k [.c ⟨ms, p.1, p.2⟩]) (k [.c ⟨ms, q.1, q.2⟩]))
    | none => .stuck 7
   | _ => k []
  | _ => k []
def qxw (todo : List Item) : Nat := match todo with
 | [] => 9998
 | it :: _ => match it with
  | .inLoop c => vX c
  | .code c => vX c
  | _ => 9997
def qaN (key : Nat) : Code → List Item → Option (List Item)
 | .seq a b, k => match qaN key a (.code b :: k) with
  | some r => some r
  | none => qaN key b k
 | .block id c, k => qaN key c (.inBlock id :: k)
 | .scope c, k => qaN key c (.inScope c :: k)
 | .loop c, k => bif qy (vX c) key then some (.code c :: .inLoop c :: k) else qaN key c (.inLoop c :: k)
 | .cond _ a b, k => match qaN key a k with
  | some r => some r
  | none => qaN key b k
 | .region id o d, k => bif qy id key then some (.code (.region id o d) :: k) else none
 | _, _ => none
def zK (fn : Func) (key : Nat) : List Item := match fn.body with
 | some c => match qaN key c [] with
  | some r => r
  | none => []
 | none => []
noncomputable def qQj (c : Code) (key : Nat) : List Item := match qaN key c [] with
 | some r => r
 | none => []
def YB (key : Nat) : Code → Option (List Nat × Code × Code)
 | .seq a b => match YB key a with
  | some r => some r
  | none => YB key b
 | .block _ c => YB key c
 | .scope c => YB key c
 | .loop c => YB key c
 | .cond _ a b => match YB key a with
  | some r => some r
  | none => YB key b
 | .rangeFunc _ ps a b => bif qy (vX (.seq a b)) key then some (ps.toList, a, b) else (match YB key a with
  | some r => some r
  | none => YB key b)
 | _ => none
noncomputable def qfV (fn : Func) (key : Nat) (tys : List TypeId) : Rc := match fn.body with
 | some c => match YB key c with
  | some (ps, a, b) => ⟨ps, tys, a, b⟩
  | none => ⟨[], [], .skip, .skip⟩
 | none => ⟨[], [], .skip, .skip⟩
def qOH (st : St) (key : Nat) : List Cmd → Nat
 | [] => key
 | c :: r => match c with
  | .key s => (match st.slots.getD s .undef with
   | .r (.v (.int _ n)) => key + 10000 * (n.toNat + 1)
   | _ => key)
  | _ => qOH st key r
def qmJ (m : Nat) (l : List Nat) (C : List (Nat × List Cmd)) (todo : List Item) (st : St) (t : Tree) : Tree := bif qqL l todo then (match YS m (qrK (qxw todo) C) st with
 | some st' => .cut (qOH st (qxw todo) (qrK (qxw todo) C)) (qfH todo) st'
 | none => .stuck 2) else t
def tree (P : Program) [GT P] (R : wT) (K : Calld) (rd : Bool) (m : Nat) (l : List Nat) (rs : List ResultVar) (C : List (Nat × List Cmd)) (E : List Cmd) : Nat → List Item → St → Tree
 | 0, _, _ => .stuck 0
 | n + 1, todo, st => match (match todo with
   | it :: k => match it with
    | .code c => match c with
     | .cond x c1 c2 => some (x, c1, c2, k)
     | _ => none
    | _ => none
   | [] => none) with
  | some (x, c1, c2, k) => match Ve st.slots [] x with
   | .r (.v (.bool b)) => .test b (qmJ m l C (.code c1 :: k) st (tree P R K rd m l rs C E n (.code c1 :: k) st)) (qmJ m l C (.code c2 :: k) st (tree P R K rd m l rs C E n (.code c2 :: k) st))
   | _ => .stuck 1
  | none => qEI P R K todo st fun ora => match vd P R rd todo st ora with
   | some (φ, .at todo' st', []) => qxC φ (qmJ m l C todo' st' (tree P R K rd m l rs C E n todo' st'))
   | some (φ, .ret st', []) => qxC φ (match YS m E st' with
     | some st'' => match qyw P m rs st'' with
      | some (res, bout) => .leaf res bout
      | none => .stuck 3
     | none => .stuck 4)
   | _ => .stuck 5
def Tree.gives (P : Program) [GT P] (fn : Wy) (m : Nat) (res : AV) (bout : List (Nat × Blk)) : Tree → Prop
 | .stuck _ => False
 | .test b t f => (b = true → t.gives P fn m res bout) ∧ (b = false → f.gives P fn m res bout)
 | .need p t => zo p ∧ t.gives P fn m res bout
 | .cut _ todo st => Ev P fn m todo st res bout
 | .leaf r b => r = res ∧ b = bout
section
variable {P : Program} [GT P] {R : wT} {K : Calld}
theorem qmm {fn : Wy} {m : Nat} {res : AV} {bout : List (Nat × Blk)} {p : List Prop} {t : Tree} (h : (qxC p t).gives P fn m res bout) : zo p ∧ t.gives P fn m res bout := by
 cases p with
 | nil => exact ⟨qP, h⟩
 | cons _ _ => exact h
theorem qmn {fn : Wy} {m : Nat} {res : AV} {bout : List (Nat × Blk)} {b : Bool} {t f : Tree} (h : (Tree.test b t f).gives P fn m res bout) : t.gives P fn m res bout ∨ f.gives P fn m res bout := by
 cases b
 ·exact .inr (h.2 rfl)
 ·exact .inl (h.1 rfl)
theorem WA {fn : Wy} {m : Nat} {res : AV} {bout : List (Nat × Blk)} {ops : List Oper} {k : List Or → Tree} {G : Prop} (hk : ∀ ora, (k ora).gives P fn m res bout → G) : ∀ {rest : List Oper} {i : Nat} {st : St} {acc : List Or}, (qfT P R K ops rest i st acc k).gives P fn m res bout → G
 | [], i, st, acc, h => hk acc h
 | o :: r, i, st, acc, h => by
  simp only [qfT] at h
  split at h
  ·exact WA hk h
  ·split at h
   ·split at h
    ·split at h
     ·split at h
      ·exact WA hk h
      ·exact h.elim
     ·rcases qmn h with h | h
      ·split at h
       ·exact WA hk h
       ·exact h.elim
      ·split at h
       ·exact WA hk h
       ·exact h.elim
    ·exact h.elim
   ·split at h
    ·split at h
     ·rename_i b _
      cases b
      ·have h := h.2 rfl
       split at h
       ·exact WA hk h
       ·exact h.elim
      ·have h := h.1 rfl
       split at h
       ·exact WA hk h
       ·exact h.elim
     ·exact h.elim
    ·exact h.elim
theorem qw6 {fn : Wy} {m : Nat} {res : AV} {bout : List (Nat × Blk)} {todo : List Item} {st : St} {k : List Or → Tree} {G : Prop} (hk : ∀ ora, (k ora).gives P fn m res bout → G) (h : (qEI P R K todo st k).gives P fn m res bout) : G := by
 unfold qEI at h
 split at h
 ·exact hk _ h
 ·split at h
  ·split at h
   ·split at h
    ·rename_i b _
     cases b
     ·exact hk _ (h.2 rfl)
     ·exact hk _ (h.1 rfl)
    ·exact h.elim
   ·exact WA hk h
   ·split at h
    ·split at h
     ·exact hk _ h
     ·rcases qmn h with h | h
      ·exact hk _ h
      ·exact hk _ h
    ·exact h.elim
   ·exact hk _ h
  ·exact hk _ h
theorem qdy {fn : Wy} {m : Nat} {l : List Nat} {C : List (Nat × List Cmd)} {res : AV} {bout : List (Nat × Blk)} {todo : List Item} {st : St} {t : Tree} (h : (qmJ m l C todo st t).gives P fn m res bout) (ht : t.gives P fn m res bout → Ev P fn m todo st res bout) : Ev P fn m todo st res bout := by
 unfold qmJ at h
 cases hr : qqL l todo <;> simp only [hr, qj, qg] at h
 ·exact ht h
 ·split at h
  ·rename_i st'' hs
   exact Ev.inLoop (Ev.cmds hs h)
  ·exact h.elim
theorem qaS (hm : P.follows .mixedOrders = true) {fn : Wy} {m : Nat} {l : List Nat} {C : List (Nat × List Cmd)} {E : List Cmd} {res : AV} {bout : List (Nat × Blk)} : ∀ {n : Nat} {todo : List Item} {st : St}, (tree P R K fn.rd m l fn.fn.results.toList C E n todo st).gives P fn m res bout → Ev P fn m todo st res bout
 | 0, _, _, h => h.elim
 | n + 1, todo, st, h => by
  simp only [tree] at h
  split at h
  ·rename_i x c1 c2 k he
   have ht : todo = .code (.cond x c1 c2) :: k := by
    split at he
    ·split at he
     ·split at he
      ·simp at he; obtain ⟨rfl, rfl, rfl, rfl⟩ := he; rfl
      ·simp at he
     ·simp at he
    ·simp at he
   subst ht
   split at h
   ·rename_i b hb
    cases b
    ·exact Q3 hm (R := R) (ora := [.d false]) (r := .at (.code c2 :: k) st) (ora' := []) (φ := [false = false]) (by simp [vd, hb]) (qf rfl qP) (show Ev P fn m _ _ res bout from qdy (h.2 rfl) (qaS hm))
    ·exact Q3 hm (R := R) (ora := [.d true]) (r := .at (.code c1 :: k) st) (ora' := []) (φ := [true = true]) (by simp [vd, hb]) (qf rfl qP) (show Ev P fn m _ _ res bout from qdy (h.1 rfl) (qaS hm))
   ·exact h.elim
  ·refine qw6 (fun ora h => ?_) h
   split at h
   ·rename_i φ todo' st' hx
    obtain ⟨hφ, h⟩ := qmm h
    exact Q3 hm hx hφ (show Ev P fn m todo' st' res bout from qdy h (qaS hm))
   ·rename_i φ st' hx
    obtain ⟨hφ, h⟩ := qmm h
    refine Q3 hm hx hφ ?_
    show EvR P fn m st' res bout
    split at h
    ·rename_i st'' hs
     split at h
     ·rename_i res' bout' hf
      obtain ⟨rfl, rfl⟩ := h
      exact EvR.cmds hs (EvR.fin2 hf)
     ·exact h.elim
    ·exact h.elim
   ·exact h.elim
theorem Ev.tree (hm : P.follows .mixedOrders = true) {fn : Wy} {m n : Nat} {l : List Nat} {C : List (Nat × List Cmd)} {E : List Cmd} {res : AV} {bout : List (Nat × Blk)} {todo : List Item} {st : St} {T : Tree} (e : tree P R K fn.rd m l fn.fn.results.toList C E n todo st = T) (h : T.gives P fn m res bout) : Ev P fn m todo st res bout :=
 qaS hm (R := R) (K := K) (by rw [e]; exact h)
end
end Go.AM
namespace Go.AM
open Go Go.ChangeShapes Go.WideShapes
def qh8 (P : Program) (f : TypeId → RTy → Bool) : Nat → List Field → RTy → Bool
 | _, [], τ => (match τ with
  | .unit => true
  | _ => false)
 | off, x :: r, τ => qy x.offset off && (match r with
  | [] => qy (P.cellsOf x.type) τ.sz && f x.type τ
  | _ :: _ => match τ with
   | .pair a b => qy (P.cellsOf x.type) a.sz && (f x.type a && qh8 P f (off + a.sz) r b)
   | _ => false)
def qjw (c : Nat) (f : RTy → Bool) : Nat → RTy → Bool
 | 0, τ => (match τ with
  | .unit => true
  | _ => false)
 | 1, τ => qy c τ.sz && f τ
 | n + 2, τ => (match τ with
  | .pair a b => qy c a.sz && (f a && qjw c f (n + 1) b)
  | _ => false)
def qf0 (P : Program) : Nat → TypeId → RTy → Bool
 | 0, _, _ => false
 | n + 1, t, τ => match P.underlying t with
  | some (.int k) => (match τ with
   | .int k' => k == k'
   | _ => false)
  | some .bool => (match τ with
   | .bool => true
   | _ => false)
  | some .string => (match τ with
   | .str => true
   | _ => false)
  | some (.struct fs) => qy (P.cellsOf t) τ.sz && qh8 P (qf0 P n) 0 fs.toList τ
  | some (.array m e) => qy (P.cellsOf t) τ.sz && qjw (P.cellsOf e) (qf0 P n e) m τ
  | some (.slice e) => (match τ with
   | .list a => qf0 P n e a && (qy (P.cellsOf e) a.sz && (qtH 1 a.sz && qtH 1 (P.bytesOf e)))
   | _ => false)
  | _ => false
def Wf : (τ : RTy) → τ.T → Prop
 | .int k, n => (Lit.int k n).wf = true
 | .bool, _ => True
 | .str, s => s.size ≤ 140737488351232
 | .fn, _ => True
 | .unit, _ => True
 | .pair a b, p => Wf a p.1 ∧ Wf b p.2
 | .list a, l => l.length ≤ 140737488351232 ∧ ∀ x ∈ l, Wf a x
def qbK (W : World) (B : Nat) : Prop := B < W.heap.size
theorem qv1 {α : Type} {p : Nat → α → Prop} : ∀ n, (∀ i, i < n → ∃ x, p i x) → ∃ l : List α, l.length = n ∧ ∀ i (h : i < l.length), p i l[i]
 | 0, _ => ⟨[], rfl, fun i h => by simp at h⟩
 | n + 1, h => by
  obtain ⟨l, hl, hp⟩ := qv1 n fun i hi => h i (by omega)
  obtain ⟨x, hx⟩ := h n (by omega)
  refine ⟨l ++ [x], by simp [hl], fun i hi => ?_⟩
  by_cases hn : i < l.length
  ·rw [List.getElem_append_left hn]; exact hp i hn
  ·have : i = n := by simp at hi; omega
   subst this
   rw [List.getElem_append_right (by omega)]
   simpa [hl] using hx
section
variable {H : Type} {enc0 : TypeId × Value → H} {P : Program} {W : World} {base : Nat} {spare : Nat → Bool} {held : Bool}
theorem qdb {e : TypeId} : ∀ {l : List (DataW H)} {d : DataW H}, d ∈ l → ∀ q ∈ d.weights P e, q ∈ DataW.weightsAll P e l
 | x :: l, d, h, q, hq => by
  simp only [DataW.weightsAll, zX]
  rcases qK.1 h with rfl | h
  ·exact .inl hq
  ·exact .inr (qdb h q hq)
def qwT (enc0 : TypeId × Value → H) (P : Program) (W : World) (base : Nat) (spare : Nat → Bool) (held : Bool) (t : TypeId) (τ : RTy) : Prop :=
 ∀ (fuel : Nat) (cs : List Value) (x : DataW H × List MemPlace), DataW.trod enc0 P W base spare held fuel t cs = some x → (∀ q ∈ x.1.weights P t, q ≤ reachBytes) →
  ∃ y : τ.T, Wf τ y ∧ All2 (RepR W (qbK W)) cs (qr τ y)
theorem qps {f : TypeId → RTy → Bool} (hf : ∀ t τ, f t τ = true → qwT enc0 P W base spare held t τ) {cs : List Value} {m : Nat} : ∀ (fs : List Field) (off : Nat) (τ : RTy) (xs : List (DataW H × List MemPlace)),
  qh8 P f off fs τ = true → (∀ (i : Nat) (g : Field), fs[i]? = some g → DataW.trod enc0 P W base spare held m g.type ((cs.drop g.offset).take (P.cellsOf g.type)) = xs[i]?) → xs.length = fs.length →
  (∀ q ∈ DataW.weightsEach P (fs.map (·.type)) (xs.map (·.1)), q ≤ reachBytes) → ∃ y : τ.T, Wf τ y ∧ All2 (RepR W (qbK W)) ((cs.drop off).take τ.sz) (qr τ y)
 | [], off, τ, xs, h, _, _, _ => by
  cases τ <;> simp [qh8] at h
  exact ⟨(), trivial, by simp [RTy.sz, qr]; exact .nil⟩
 | g :: r, off, τ, xs, h, hx, hl, hw => by
  obtain ⟨x, xs', rfl⟩ : ∃ x xs', xs = x :: xs' := by cases xs <;> simp at hl <;> exact ⟨_, _, rfl⟩
  have hx0 := hx 0 g rfl
  simp only [List.getElem?_cons_zero] at hx0
  simp only [qh8, qh] at h
  obtain ⟨ho, h⟩ := h
  have ho := qk ho
  cases r with
  | nil =>
   simp only [qh] at h
   have hc := qk h.1
   rw [ho, hc] at hx0
   exact hf _ _ h.2 m _ x hx0 fun q hq => hw q (by simp [DataW.weightsEach, hq])
  | cons g2 r2 =>
   cases τ <;> simp only [qh, qE] at h
   rename_i a b
   obtain ⟨hc, ha, hr⟩ := h
   have hc := qk hc
   rw [ho, hc] at hx0
   obtain ⟨y, hy, hy2⟩ := hf _ _ ha m _ x hx0 fun q hq => hw q (by simp [DataW.weightsEach, hq])
   obtain ⟨z, hz, hz2⟩ := qps hf (g2 :: r2) (off + a.sz) b xs' hr (fun i g' hg => by simpa using hx (i + 1) g' (by simpa using hg)) (by simpa using hl) fun q hq => hw q (by
    simp only [List.map_cons, DataW.weightsEach, zX] at hq ⊢
    exact .inr hq)
   refine ⟨(y, z), ⟨hy, hz⟩, ?_⟩
   have : (cs.drop off).take (a.sz + b.sz) = (cs.drop off).take a.sz ++ (cs.drop (off + a.sz)).take b.sz := by rw [List.take_add, List.drop_drop]
   show All2 _ ((cs.drop off).take (a.sz + b.sz)) _
   rw [this]
   exact hy2.append hz2
theorem qsu {c : Nat} {f : RTy → Bool} {e : TypeId} (hf : ∀ τ, f τ = true → qwT enc0 P W base spare held e τ) {cs : List Value} {m : Nat} : ∀ (n k : Nat) (τ : RTy) (xs : List (DataW H × List MemPlace)),
  qjw c f n τ = true → (∀ i, i < n → DataW.trod enc0 P W base spare held m e ((cs.drop ((k + i) * c)).take c) = xs[i]?) → xs.length = n →
  (∀ q ∈ DataW.weightsAll P e (xs.map (·.1)), q ≤ reachBytes) → ∃ y : τ.T, Wf τ y ∧ All2 (RepR W (qbK W)) ((cs.drop (k * c)).take τ.sz) (qr τ y)
 | 0, k, τ, xs, h, _, _, _ => by
  cases τ <;> simp [qjw] at h
  exact ⟨(), trivial, by simp [RTy.sz, qr]; exact .nil⟩
 | 1, k, τ, xs, h, hx, hl, hw => by
  obtain ⟨x, rfl⟩ := List.length_eq_one_iff.1 hl
  simp only [qjw, qh] at h
  have hc := qk h.1
  have hx0 := hx 0 (by omega)
  simp only [List.getElem?_cons_zero, qS4, hc] at hx0
  rw [hc]
  exact hf _ h.2 m _ x hx0 fun q hq => hw q (by simp [DataW.weightsAll, hq])
 | n + 2, k, τ, xs, h, hx, hl, hw => by
  obtain ⟨x, xs', rfl⟩ : ∃ x xs', xs = x :: xs' := by cases xs <;> simp at hl <;> exact ⟨_, _, rfl⟩
  cases τ <;> simp only [qjw, qh, qE] at h
  rename_i a b
  obtain ⟨hc, ha, hr⟩ := h
  have hc := qk hc
  have hx0 := hx 0 (by omega)
  simp only [List.getElem?_cons_zero, qS4] at hx0
  obtain ⟨y, hy, hy2⟩ := hf _ ha m _ x hx0 fun q hq => hw q (by simp [DataW.weightsAll, hq])
  obtain ⟨z, hz, hz2⟩ := qsu hf (n + 1) (k + 1) b xs' hr (fun i hi => by
   have := hx (i + 1) (by omega)
   rw [show k + (i + 1) = k + 1 + i by omega] at this
   simpa using this) (by simpa using hl) fun q hq => hw q (by simp [DataW.weightsAll] at hq ⊢; exact .inr hq)
  refine ⟨(y, z), ⟨hy, hz⟩, ?_⟩
  rw [hc] at hy2 hz2 ⊢
  have : (cs.drop (k * a.sz)).take (a.sz + b.sz) = (cs.drop (k * a.sz)).take a.sz ++ (cs.drop ((k + 1) * a.sz)).take b.sz := by rw [List.take_add, List.drop_drop, W9, Nat.one_mul]
  show All2 _ ((cs.drop (k * a.sz)).take (a.sz + b.sz)) _
  rw [this]
  exact hy2.append hz2
theorem qjq : ∀ (n : Nat) (t : TypeId) (τ : RTy), qf0 P n t τ = true → qwT enc0 P W base spare held t τ
 | 0, t, τ, h => by simp [qf0] at h
 | n + 1, t, τ, h => by
  intro fuel cs x hx hw
  unfold qf0 at h
  split at h
  ·rename_i k hu
   cases τ <;> simp at h
   subst h
   obtain ⟨i, rfl, rfl, hwf⟩ := DataW.trod_int hu hx
   exact ⟨i, hwf, .cons (.v _) .nil⟩
  ·rename_i hu
   cases τ <;> simp at h
   obtain ⟨b, rfl, rfl⟩ := DataW.trod_bool hu hx
   exact ⟨b, trivial, .cons (.v _) .nil⟩
  ·rename_i hu
   cases τ <;> simp at h
   obtain ⟨s, rfl, rfl, _⟩ := DataW.trod_string hu hx
   refine ⟨s, ?_, .cons (.v _) .nil⟩
   have := hw s.data.toList.length (by simp [DataW.weights])
   simp [reachBytes] at this
   exact this
  ·rename_i fs hu
   simp only [qh] at h
   obtain ⟨xs, m, rfl, rfl, hcl, hl, hall⟩ := DataW.trod_struct hu hx
   have hc := qk h.1
   obtain ⟨y, hy, hy2⟩ := qps (fun t τ => qjq n t τ) fs.toList 0 τ xs h.2 (fun i g hg => hall i g (by simpa using hg)) (by simpa using hl) fun q hq => hw q (by simpa [DataW.weights, hu] using hq)
   refine ⟨y, hy, ?_⟩
   rw [wv, zj (by omega)] at hy2
   exact hy2
  ·rename_i mm e hu
   simp only [qh] at h
   obtain ⟨xs, m, rfl, rfl, hcl, hl, hall⟩ := DataW.trod_array hu hx
   have hc := qk h.1
   obtain ⟨y, hy, hy2⟩ := qsu (fun τ => qjq n e τ) mm 0 τ xs h.2 (fun i hi => by rw [wX]; exact hall i hi) hl fun q hq => hw q (by simpa [DataW.weights, hu] using hq)
   refine ⟨y, hy, ?_⟩
   rw [Nat.zero_mul, wv, zj (by omega)] at hy2
   exact hy2
  ·rename_i e hu
   cases τ <;> simp only [qh, qE] at h
   rename_i a
   obtain ⟨ha, hc, hz, hb⟩ := h
   have hc := qk hc
   have hz := wj hz
   have hb := wj hb
   rcases DataW.trod_slice hu hx with ⟨rfl, rfl⟩ | ⟨A, len, cap, elems, rest, m, rfl, rfl, rfl, _, hlc, _, hel, hall, _, _⟩
   ·exact ⟨[], ⟨Q9 _, fun x hx => by simp at hx⟩, .cons (.nil a none 0) .nil⟩
   ·rw [hc] at hall
    have hwl : (elems.length + rest.length) * P.bytesOf e ≤ reachBytes := hw _ (by simp [DataW.weights, hu])
    have hlen : len ≤ 140737488351232 := by
     have h1 : elems.length + rest.length ≤ (elems.length + rest.length) * P.bytesOf e := Nat.le_mul_of_pos_right _ hb
     simp only [reachBytes] at hwl
     omega
    have each : ∀ i, i < len → ∃ y : a.T, Wf a y ∧ ∃ csi, W.cells? base (A.add (i * a.sz)) a.sz = some csi ∧ All2 (RepR W (qbK W)) csi (qr a y) := fun i hi => by
     have h1 := hall i hi
     have hi2 : i < elems.length := by omega
     rw [List.getElem?_eq_getElem hi2] at h1
     obtain ⟨csi, hcs, ht⟩ := Option.bind_eq_some_iff.1 h1
     obtain ⟨y, hy, hy2⟩ := qjq n e a ha m csi _ ht fun q hq => hw q (by
      simp only [DataW.weights, hu, qK, zX]
      exact .inr (.inl (qdb (List.mem_map_of_mem (List.getElem_mem hi2)) q hq)))
     exact ⟨y, hy, csi, hcs, hy2⟩
    obtain ⟨l, hl, hp⟩ := qv1 len each
    refine ⟨l, ⟨by omega, fun x hx => ?_⟩, ?_⟩
    ·obtain ⟨i, hi, rfl⟩ := List.mem_iff_getElem.1 hx
     exact (hp i hi).1
    by_cases hl0 : len = 0
    ·have : l = [] := List.length_eq_zero_iff.1 (by omega)
     subst this
     subst hl0
     exact .cons (.nil a _ cap) .nil
    have cellAt : ∀ i j, i < len → j < a.sz → ∃ (h : i < l.length) (csi : List Value) (hj : j < csi.length), W.cell? ((A.add (i * a.sz)).add j) = some csi[j] ∧ RepR W (qbK W) csi[j] ((qr a l[i]).getD j .undef) := fun i j hi hj => by
     have h : i < l.length := by omega
     obtain ⟨_, csi, hcs, hr⟩ := hp i h
     unfold World.cells? at hcs
     split at hcs
     ·have e1 := mapM_some_length hcs
      simp at e1
      have hj2 : j < csi.length := by omega
      have e2 := mapM_some_get hcs j j (by simp [hj])
      rw [List.getElem?_eq_getElem hj2] at e2
      have e3 := hr.get Go.undef .undef j (by rw [wW]; exact hj)
      rw [List.getD_eq_getElem?_getD, List.getElem?_eq_getElem hj2] at e3
      exact ⟨h, csi, hj2, e2, e3⟩
     ·simp at hcs
    obtain ⟨B, o, spot⟩ := A
    have hspot : spot = none := by
     obtain ⟨_, _, _, h1, _⟩ := cellAt 0 0 (by omega) (by omega)
     simpa [Addr.add] using World.cell?_spot h1
    subst hspot
    have hB : B < W.heap.size := by
     obtain ⟨_, _, _, h1, _⟩ := cellAt 0 0 (by omega) (by omega)
     by_cases hlt : B < W.heap.size
     ·exact hlt
     ·have hn : W.heap[B]? = none := by simp; omega
      simp [World.cell?, Addr.add, hn] at h1
    have split : ∀ k, k < l.length * a.sz → k / a.sz < l.length ∧ k % a.sz < a.sz ∧ k / a.sz * a.sz + k % a.sz = k := fun k hk =>
     ⟨(Nat.div_lt_iff_lt_mul hz).2 hk, Nat.mod_lt _ hz, by rw [Nat.mul_comm]; exact Nat.div_add_mod k a.sz⟩
    refine .cons ?_ .nil
    rw [← hl]
    refine .ro a l B o cap (fun k => (W.cell? ⟨B, o + k, none⟩).getD Go.undef) hB (by omega) (fun k hk => ?_) fun k hk => ?_
    ·obtain ⟨h1, h2, h3⟩ := split k hk
     obtain ⟨_, csi, hj, hc1, hr⟩ := cellAt _ _ (by omega : k / a.sz < len) h2
     simp only [add_plain, Nat.add_assoc, h3] at hc1
     rw [hc1]; rfl
    ·obtain ⟨h1, h2, h3⟩ := split k hk
     obtain ⟨hi, csi, hj, hc1, hr⟩ := cellAt _ _ (by omega : k / a.sz < len) h2
     simp only [add_plain, Nat.add_assoc, h3] at hc1
     rw [hc1]
     have e := XY a .undef l (k / a.sz) (k % a.sz) h1 h2
     rw [h3] at e
     rw [e]
     simp only [Va, List.getD_eq_getElem?_getD (i := k / a.sz), List.getElem?_eq_getElem hi, qMF]
     exact hr
  ·simp at h
end
end Go.AM
namespace Go.AM
open Go Go.ChangeShapes Go.WideShapes
@[reducible] def qiq : List (Bool × RTy) → Type
 | [] => Unit
 | p :: r => p.2.T × qiq r
def qw3 (ag : Bool) (τ : RTy) (x : τ.T) : AV := match ag with
 | true => .agg (qB (qr τ x))
 | false => .r ((qr τ x).headD .undef)
def avs : (l : List (Bool × RTy)) → qiq l → List AV
 | [], _ => []
 | p :: r, x => qw3 p.1 p.2 x.1 :: avs r x.2
def WfA : (l : List (Bool × RTy)) → qiq l → Prop
 | [], _ => True
 | p :: r, x => Wf p.2 x.1 ∧ WfA r x.2
def qaT (P : Program) : List TypeId → List (Bool × RTy) → Bool
 | [], [] => true
 | t :: ts, p :: l => qf0 P 20 t p.2 && (Wc P t p.1 && (P.readableRec t && (Nat.blt t P.types.size && qaT P ts l)))
 | _, _ => false
section
variable {H : Type} {enc0 : TypeId × Value → H} {P : Program} {W : World} {held : Bool} {spare : Nat → Bool}
def Z7 (W : World) : Cx := { okb := qbK W, w0 := W, ent := fun _ => none }
def Zf : Env := fun _ => none
theorem qJA : (Z7 W).Wf := ⟨fun B h => h, fun B _ ⟨_, _, h, _⟩ => by simp [Z7] at h⟩
theorem qLE {B : Nat} (h : qbK W B) : qn (Z7 W) Zf W B := ⟨.inl h, h, fun nm ver x e => by simp [Zf] at e⟩
theorem qR9 : Mem (Z7 W) [] W Zf := by
 refine ⟨fun nm ver b e => ?_, fun nm _ _ => rfl, fun nm h => ?_, fun nm nm' v v' h h' B e => ?_, fun nm v h B e => ?_, .refl _, fun B _ _ => rfl, fun nm h h0 e => ?_, fun nm h0 e => ?_⟩
 ·simp [qS] at e
 ·simp [Z7] at h
 ·simp [Zf] at e
 ·simp [Zf] at e
 ·simp [Zf] at e
 ·simp [Z7] at e
theorem qFi {ok : Nat → Prop} {env : Env} {cs : Array Value} {l : List AV} (h : Rp W ok env cs.toList l) : Rep W ok env (.agg cs) (.agg l) := by
 have hl := h.length
 refine .agg cs l (by simpa using hl) fun i hi => ?_
 have := h.get Go.undef .undef i hi
 have e : cs.getD i Go.undef = cs.toList.getD i Go.undef := by simp
 rw [e]; exact this
theorem qFc {t : TypeId} {ag : Bool} {τ : RTy} {base : Nat} {v : Value} {d : DataW H} {ps : List MemPlace} (hok : qf0 P 20 t τ = true) (hag : Wc P t ag = true) (hval : Value.okWide P W .any base t v)
  (h : DataW.Trod enc0 P W 0 spare held t v d ps) (hw : ∀ q ∈ d.weights P t, q ≤ reachBytes) : ∃ x : τ.T, Wf τ x ∧ Rep W (qn (Z7 W) Zf W) Zf v (qw3 ag τ x) := by
 obtain ⟨fuel, hf⟩ := h
 obtain ⟨x, hx, hr⟩ := qjq 20 t τ hok fuel _ _ hf hw
 have hr : All2 (RepR W (qn (Z7 W) Zf W)) v.cells.toList (qr τ x) := hr.mono fun _ _ h => h.mono (fun B hB => qLE hB) fun _ _ _ => rfl
 refine ⟨x, hx, ?_⟩
 have one : v.cells.toList = [v] → Rep W (qn (Z7 W) Zf W) Zf v (qw3 false τ x) := fun hc => by
  rw [hc] at hr
  generalize hl : qr τ x = l at hr
  cases hr with
  | cons a b =>
   cases b
   show Rep W _ _ v (.r ((qr τ x).headD .undef))
   rw [hl]
   exact .r a
 have many : ∀ cs, v = .agg cs → Rep W (qn (Z7 W) Zf W) Zf v (qw3 true τ x) := fun cs hc => by
  subst hc
  exact qFi (Qn hr)
 unfold qf0 at hok
 unfold Wc zm at hag
 split at hok
 ·rename_i hu; simp only [hu] at hag
  cases ag <;> simp at hag
  obtain ⟨n, rfl⟩ := okWide_int hu hval
  exact one rfl
 ·rename_i hu; simp only [hu] at hag
  cases ag <;> simp at hag
  obtain ⟨n, rfl⟩ := okWide_bool hu hval
  exact one rfl
 ·rename_i hu; simp only [hu] at hag
  cases ag <;> simp at hag
  obtain ⟨n, rfl⟩ := okWide_string hu hval
  exact one rfl
 ·rename_i hu; simp only [hu] at hag
  cases ag <;> simp at hag
  obtain ⟨cs, h1, _⟩ := okWide_struct hu hval
  exact many cs h1
 ·rename_i hu; simp only [hu] at hag
  cases ag <;> simp at hag
  simp only [Value.okWide, hu] at hval
  obtain ⟨cs, h1, _⟩ := hval
  exact many cs h1
 ·rename_i hu; simp only [hu] at hag
  cases ag <;> simp at hag
  obtain ⟨a, b, c, rfl⟩ := okWide_slice hu hval
  exact one rfl
 ·simp at hok
theorem qpr : ∀ {ts : List TypeId} {l : List (Bool × RTy)} {vs : List Value} {ds : List (DataW H)} {ps : List MemPlace}, qaT P ts l = true → DataW.TrodAll enc0 P W 0 spare held ts vs ds ps →
  (∀ (j : Nat) t v, ts[j]? = some t → vs[j]? = some v → ∃ base, Value.okWide P W .any base t v) → (∀ q ∈ DataW.weightsEach P ts ds, q ≤ reachBytes) →
  ds.length = ts.length ∧ ∃ xs : qiq l, WfA l xs ∧ Rp W (qn (Z7 W) Zf W) Zf vs (avs l xs)
 | [], l, vs, ds, ps, h, ht, _, _ => by
  cases l with
  | nil =>
   obtain ⟨rfl, rfl, rfl⟩ := trodAll_nil ht
   exact ⟨rfl, (), trivial, .nil⟩
  | cons _ _ => simp [qaT] at h
 | t :: ts, l, vs, ds, ps, h, ht, hv, hw => by
  cases l with
  | nil => simp [qaT] at h
  | cons p l =>
   obtain ⟨ag, τ⟩ := p
   simp only [qaT, qh] at h
   obtain ⟨v, vs', d, ds', p, q, rfl, rfl, rfl, hd, hr⟩ := trodAll_cons ht
   obtain ⟨base, hb⟩ := hv 0 t v rfl rfl
   obtain ⟨x, hx, hx2⟩ := qFc h.1 h.2.1 hb hd fun q hq => hw q (by simp [DataW.weightsEach, hq])
   obtain ⟨hl, xs, hxs, hxs2⟩ := qpr h.2.2.2.2 hr (fun j t v a b => hv (j + 1) t v (by simpa using a) (by simpa using b)) fun q hq => hw q (by simp [DataW.weightsEach, hq])
   exact ⟨by simp [hl], (x, xs), ⟨hx, hxs⟩, .cons hx2 hxs2⟩
theorem qoV {W' : World} (hl : laidOutB P = true) (hg : ∀ B, B < W.heap.size → W'.heap[B]? = W.heap[B]?) : ∀ {ts : List TypeId} {l : List (Bool × RTy)} {vs : List Value} {ds : List (DataW H)} {ps : List MemPlace}, qaT P ts l = true →
  DataW.TrodAll enc0 P W 0 (fun _ => true) true ts vs ds ps → ∃ qs, DataW.TrodAll enc0 P W' 0 (fun b => decide (b < W.heap.size)) true ts vs ds qs
 | [], l, vs, ds, ps, h, ht => by
  obtain ⟨rfl, rfl, rfl⟩ := trodAll_nil ht
  exact ⟨[], trodAll_mk0⟩
 | t :: ts, l, vs, ds, ps, h, ht => by
  cases l with
  | nil => simp [qaT] at h
  | cons p l =>
   simp only [qaT, qh] at h
   obtain ⟨v, vs', d, ds', p, q, rfl, rfl, rfl, hd, hr⟩ := trodAll_cons ht
   obtain ⟨qs, hq⟩ := qoV hl hg h.2.2.2.2 hr
   have lt : ∀ x ∈ p, x.block < W.heap.size := by obtain ⟨m, hm⟩ := hd; exact DataW.trod_lt m _ _ _ hm
   have := WideElems.Trod_stays hl h.2.2.1 (wj h.2.2.2.1) hd (W' := W') (sp' := fun b => decide (b < W.heap.size)) (fun x hx => by
    cases x with
    | cell b o => exact zr (hg b (lt _ hx)) o
    | map b => exact hg b (lt _ hx)) (fun x hx => by simpa using lt x hx)
   exact ⟨_, trodAll_cons_mk this hq⟩
theorem qR4 [GT P] (hG : GT.G P W) : (Z7 W).Gok P := ⟨W, hG, qR _, fun _ _ => rfl, fun B ⟨_, _, h, _⟩ => by simp [Z7] at h⟩
theorem qE5 [GT P] (hGT : GT.G P W) {f : FuncId} {fn : Func} {spec : ChangeSpec} {l : List (Bool × RTy)} {rt : TypeId} (hl : laidOutB P = true) (hts : qaT P fn.params.toList l = true) (hrt : fn.resultTypes = #[rt]) (hu : P.underlying rt = some .bool) (hvars : spec.vars = [])
  (hspec : ∀ ds : List (DataW H), ds.length = fn.params.toList.length → spec.fn H ds = { results := [.lit (.bool true)], args := ds }) (main : ∀ xs : qiq l, WfA l xs → CC P f (avs l xs) [] (.r (.v (.bool true))) []) {base : Nat} {args : Array Value} {ds gs : List (DataW H)} {vD : List MemPlace}
  (hval : ∀ (j : Nat) t v, fn.params[j]? = some t → args[j]? = some v → Value.okWide P W .any base t v) (hW : DataW.Whole enc0 P fn.params.toList spec.vars false W args.toList ds gs vD)
  (hsz : (DataW.weightsEach P (fn.params.toList ++ spec.plain.varTypes P) (ds ++ gs)).all (· ≤ reachBytes) = true) :
  Calls P f args W fun e W' => ∃ v, e = .returned v ∧ spec.post enc0 P fn false true false false W args v W' := by
 have hW' := hW
 obtain ⟨p, q, hA, hV, rfl, hfz, hnd⟩ := hW
 have hV' : DataW.TrodVars enc0 P W (fun _ => true) [] gs q := hvars ▸ hV
 obtain ⟨rfl, rfl⟩ := trodVars_none hV'
 have hwt : ∀ q ∈ DataW.weightsEach P fn.params.toList ds, q ≤ reachBytes := fun q hq => by
  have e : spec.plain.varTypes P = [] := by
   have : spec.plain.vars = [] := hvars
   simp [DataSpec.varTypes, this]
  rw [e, zH, zH] at hsz
  simpa using vB.1 hsz q hq
 obtain ⟨hlen, xs, hxs, hrep⟩ := qpr hts hA (fun j t v a b => ⟨base, hval j t v (by simpa using a) (by simpa using b)⟩) hwt
 obtain ⟨_, hcc⟩ := main xs hxs
 have hlen2 := hrep.length
 refine (hcc (Z7 W) Zf args qJA (qR4 hGT) (fun _ h => h) (fun nm h => by simp [Z7, Zf]) qR9 (by simpa using hlen2) fun i hi => ?_).mono fun e W' ⟨v, env', he, hm, hr⟩ => ?_
 ·have := hrep.get Go.undef .undef i hi
  have e : args.getD i Go.undef = args.toList.getD i Go.undef := by simp
  rw [e]; exact this
 have hv := qN hr
 subst hv
 have hg : ∀ B, B < W.heap.size → W'.heap[B]? = W.heap[B]? := fun B hB => hm.frame B hB fun ⟨_, _, h, _⟩ => by simp [Z7] at h
 obtain ⟨qs, hqs⟩ := qoV hl hg hts hA
 refine ⟨_, he, ds, [], _, [], qs, [], hW', ?_, ?_, ?_, ⟨hm.gr.os, hm.gr.out, fun i hi => ?_⟩, fun h => by cases h⟩
 ·rw [zH, hspec ds hlen, hrt]
  exact trodAll_mk1 (RowKit.shut_bool hu _)
 ·rw [zH, hspec ds hlen]
  exact hqs
 ·rw [zH, hspec ds hlen, hvars]
  rfl
 ·rw [hg i hi]
  split <;> simp_all
end
end Go.AM
namespace Go.AM
open Go
theorem qm {i : Int} (h0 : -9223372036854775808 ≤ i) (h1 : i < 9223372036854775808) : qa .i64 i = i := by
 simp [IntKind.wrap, IntKind.bits, IntKind.signed]
 omega
theorem qH (i : Nat) (h : i < 4611686018427387904) : qa .i64 ((i : Int) + 1) = ((i + 1 : Nat) : Int) := by
 rw [qm (by omega) (by omega)]; omega
theorem qt {α : Type} (l : List α) (i : Nat) (d : α) (h : i < l.length) : l.drop i = l.getD i d :: l.drop (i + 1) := by
 rw [List.drop_eq_getElem_cons h, List.getD_eq_getElem?_getD, List.getElem?_eq_getElem h]; rfl
theorem zh {α : Type} (l : List α) (i : Nat) (h : l.length ≤ i) : l.drop i = [] := qo h
theorem Z5 {a b : Int} (h : ¬ a = b) : (a == b) = false := beq_eq_false_iff_ne.2 h
theorem qpX (l : List (Int × Bool)) (a b : Int) (v : Bool) : wb (.int .i64) (β := Bool) b (zP (.int .i64) (β := Bool) a v l) = if b = a then some v else wb (.int .i64) (β := Bool) b l := by
 induction l with
 | nil => by_cases h : b = a <;> simp [zP, wb, Vc, h, Z5]
 | cons p r ih =>
  by_cases h : a = p.1
  ·subst h
   by_cases h2 : b = p.1 <;> simp [zP, wb, Vc, h2, Z5]
  ·by_cases h2 : b = p.1
   ·have h4 : ¬ b = a := fun e => h (e ▸ h2)
    have h3 : ¬ p.1 = a := fun e => h e.symm
    simp [zP, wb, Vc, h, h2, h3, Z5]
   ·simp [zP, wb, Vc, h, h2, Z5]
    simpa [wb, Vc] using ih
end Go.AM
namespace Go.AM
open Go
section
variable {P : Program}
end
end Go.AM
namespace Go.AM
open Go
variable {H : Type} {qr : TypeId × Value → H}
end Go.AM
namespace Go.AM
open Go Go.Proofs Go.RowKit
variable {P : Program}
end Go.AM
namespace Go.AM
open Go
abbrev Ke : Type := Nat × (List AV → Option (List Bool)) × (List AV → List Blk → Option Alt)
def kM (g : Nat) (xs : List AV) : List Ke → Option (List Bool)
 | [] => none
 | e :: r => bif qy e.1 g then (match e.2.1 xs with | some m => some m | none => kM g xs r) else kM g xs r
def kR (g : Nat) (xs : List AV) (bs : List Blk) : List Ke → Option Alt
 | [] => none
 | e :: r => bif qy e.1 g then (match e.2.2 xs bs with | some m => some m | none => kR g xs bs r) else kR g xs bs r
def qA (l : List Ke) : Calld := ⟨fun g xs => kM g xs l, fun g xs bs => kR g xs bs l⟩
theorem qJ {α : Type} {o : Option α} {d : α} {Φ : α → Prop} (h : o.isSome = true) (H : ∀ r, o = some r → Φ r) : Φ (o.getD d) := by
 cases o with
 | none => cases h
 | some r => exact H r rfl
def lft {α β : Type} (d : α) : α ⊕ β → α
 | .inl a => a
 | .inr _ => d
def rgt {α β : Type} (d : β) : α ⊕ β → β
 | .inr a => a
 | .inl _ => d
theorem qEJ {α β : Type} {o : α ⊕ β} {d : α} {Φ : α ⊕ β → Prop} (h : Φ o) (hb : o.isLeft = true) : Φ (.inl (lft d o)) := by
 cases o with
 | inl a => exact h
 | inr a => cases hb
theorem qEK {α β : Type} {o : α ⊕ β} {d : β} {Φ : α ⊕ β → Prop} (h : Φ o) (hb : o.isLeft = false) : Φ (.inr (rgt d o)) := by
 cases o with
 | inr a => exact h
 | inl a => cases hb
section
variable {P : Program} [GT P] {fn : Wy} {m : Nat} {res : AV} {bout : List (Nat × Blk)} {R : Type} {r : R}
theorem gT {c : Bool} {x y : Option R} {t f : Tree} (h : (bif c then x else y) = some r) (ht : c = true → x = some r → t.gives P fn m res bout) (hf : c = false → y = some r → f.gives P fn m res bout) : (Tree.test c t f).gives P fn m res bout := by
 cases c
 ·exact ⟨fun c => (nomatch c), fun c => hf c h⟩
 ·exact ⟨fun c => ht c h, fun c => (nomatch c)⟩
theorem gU1 {x : Option R} {t : Tree} (h : x = some r) (f : Tree) (ht : x = some r → t.gives P fn m res bout) : (Tree.test true t f).gives P fn m res bout := ⟨fun _ => ht h, fun c => (nomatch c)⟩
theorem gU2 {x : Option R} {f : Tree} (h : x = some r) (t : Tree) (ht : x = some r → f.gives P fn m res bout) : (Tree.test false t f).gives P fn m res bout := ⟨fun c => (nomatch c), fun _ => ht h⟩
theorem gN {q : Prop} {d : Decidable q} {x : Option R} {ps : List Prop} {t : Tree} (h : (if q then x else none) = some r) (hq : q → zo ps) (ht : x = some r → t.gives P fn m res bout) : (Tree.need ps t).gives P fn m res bout := by
 split at h
 ·rename_i c; exact ⟨hq c, ht h⟩
 ·cases h
theorem qv {q p : Prop} {d : Decidable q} {x : Option R} {t : Tree} (h : (if q then x else none) = some r) (hq : q → p) (ht : x = some r → t.gives P fn m res bout) : (Tree.need [p] t).gives P fn m res bout := gN h (fun c => qf (hq c) qP) ht
theorem qU {p q : Prop} {d : Decidable (p ∧ q)} {x : Option R} {t : Tree} (h : (if p ∧ q then x else none) = some r) (ht : x = some r → t.gives P fn m res bout) : (Tree.need [p, q] t).gives P fn m res bout := gN h (fun c => qf c.1 (qf c.2 qP)) ht
theorem gZ (h : (none : Option R) = some r) (t : Tree) : t.gives P fn m res bout := by cases h
theorem gC {o : Option R} {todo : List Item} {st : St} (h : o = some r) (key : Nat) (H : o = some r → Ev P fn m todo st res bout) : (Tree.cut key todo st).gives P fn m res bout := H h
theorem gL {s : R → AV} {b : R → List (Nat × Blk)} {x : R} (h : some x = some r) : (Tree.leaf (s x) (b x)).gives P fn m (s r) (b r) := by cases h; exact ⟨rfl, rfl⟩
end
end Go.AM
