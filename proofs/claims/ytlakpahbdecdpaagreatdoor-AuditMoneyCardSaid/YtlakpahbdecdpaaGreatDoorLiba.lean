/- An abstract machine for loaded code and its soundness. -/
import Derived.WalkKit
import Derived.KernelRfl
import Derived.Laws.CopyRow
import Derived.Laws.AppendOwn
import Derived.Laws.Tables
import Derived.Laws.Rows
import Derived.RangeFuncNested
import Derived.RangeFuncLeaves
import Derived.OrdersIn
import Derived.Laws.BytesString
import Derived.Laws.Cells
import Derived.Great.BuildSlice
import Derived.Laws.MakeOwn
import Derived.Laws.Slices
import Derived.Laws.StructEq
import Derived.Laws.Small
import Derived.MapKept
import Derived.WideMake
set_option linter.unusedVariables false
set_option linter.unusedSimpArgs false
set_option linter.unusedSectionVars false
open Bool renaming and_eq_true → qh, false_eq_true → qE
open List renaming all_eq_true → vB, append_assoc → qeY, append_nil → zH, getD → qI, length_append → qT, length_cons → wB, length_take → WZ, mem_append → zX, mem_cons → qK, nil_append → wk, take_of_length_le → zj
open Nat renaming add_mul → W9, add_zero → qS4, beq → qy, ble → qtH, eq_of_beq_eq_true → qk, le_of_ble_eq_true → wj, le_refl → qR, mul_le_mul_right → v7, zero_add → wX, zero_le → Q9
namespace Go.AM
open Go
theorem qg {α : Sort _} (a b : α) : (bif false then a else b) = b := rfl
theorem qj {α : Sort _} (a b : α) : (bif true then a else b) = a := rfl
theorem qq {p : Prop} [d : Decidable p] (h : ¬ p) : decide p = false := decide_eq_false h
theorem qw {p : Prop} [d : Decidable p] (h : p) : decide p = true := decide_eq_true h
theorem qc {c : Prop} {h : Decidable c} (hc : c) {α : Sort _} {t e : α} : (if c then t else e) = t := if_pos hc
theorem qi {c : Prop} {h : Decidable c} (hc : ¬ c) {α : Sort _} {t e : α} : (if c then t else e) = e := if_neg hc
theorem qW {j : Nat} (h : 0 < j) : ∃ q, j = q + 1 := ⟨j - 1, by omega⟩
inductive RTy where
 | int (k : IntKind) | bool | str | fn | unit
 | pair (a b : RTy)
 | list (a : RTy)
 deriving DecidableEq
@[reducible] def RTy.T : RTy → Type
 | .int _ => Int
 | .bool => Bool
 | .str => ByteArray
 | .fn => Fn × List Value × List Value
 | .unit => Unit
 | .pair a b => a.T × b.T
 | .list a => List a.T
def RTy.sz : RTy → Nat
 | .unit => 0
 | .pair a b => a.sz + b.sz
 | _ => 1
def RTy.dflt : (τ : RTy) → τ.T
 | .int _ => (0 : Int)
 | .bool => false
 | .str => ByteArray.empty
 | .fn => (.func 0, [], [])
 | .unit => ()
 | .pair a b => (a.dflt, b.dflt)
 | .list _ => []
inductive RV where
 | undef
 | v (x : Value)
 | ro (τ : RTy) (l : List τ.T)
def qr : (τ : RTy) → τ.T → List RV
 | .int k, n => [.v (.int k n)]
 | .bool, b => [.v (.bool b)]
 | .str, s => [.v (.string s)]
 | .fn, x => [.v (.func x.1 x.2.1.toArray x.2.2.toArray)]
 | .unit, _ => []
 | .pair a b, p => qr a p.1 ++ qr b p.2
 | .list a, l => [.ro a l]
def RTy.flat : RTy → Bool
 | .pair a b => a.flat && b.flat
 | .list _ => false
 | _ => true
def wy : (τ : RTy) → τ.T → List Value
 | .int k, n => [.int k n]
 | .bool, b => [.bool b]
 | .str, s => [.string s]
 | .fn, x => [.func x.1 x.2.1.toArray x.2.2.toArray]
 | .unit, _ => []
 | .pair a b, p => wy a p.1 ++ wy b p.2
 | .list _, _ => []
def zn (ag : Bool) (τ : RTy) (x : τ.T) : Value := match ag with
 | true => .agg (wy τ x).toArray
 | false => (wy τ x).headD (.tuple #[])
def Va (τ : RTy) (l : List τ.T) (i : Nat) : List RV := qr τ (l.getD i τ.dflt)
def wD (τ : RTy) : List τ.T → List RV
 | [] => []
 | x :: l => qr τ x ++ wD τ l
theorem wW : ∀ (τ : RTy) (x : τ.T), (qr τ x).length = τ.sz
 | .int _, _ => rfl
 | .bool, _ => rfl
 | .str, _ => rfl
 | .fn, _ => rfl
 | .unit, _ => rfl
 | .pair a b, p => by simp [qr, RTy.sz, wW a, wW b]
 | .list _, _ => rfl
theorem wF (τ : RTy) : ∀ l : List τ.T, (wD τ l).length = l.length * τ.sz
 | [] => by simp [wD]
 | x :: l => by simp [wD, wW, wF τ l, W9]; omega
theorem qdg (τ : RTy) : ∀ l m : List τ.T, wD τ (l ++ m) = wD τ l ++ wD τ m
 | [], m => rfl
 | x :: l, m => by simp [wD, qdg τ l m]
theorem XY (τ : RTy) (d : RV) : ∀ (l : List τ.T) (i j : Nat), i < l.length → j < τ.sz → (wD τ l).getD (i * τ.sz + j) d = (Va τ l i).getD j d
 | x :: l, 0, j, _, hj => by
  have : j < (qr τ x).length := by rw [wW]; exact hj
  simp [wD, Va, List.getElem?_append, this]
 | x :: l, i + 1, j, hi, hj => by
  have h1 : ¬ (i + 1) * τ.sz + j < (qr τ x).length := by rw [wW, W9]; omega
  have h2 : (i + 1) * τ.sz + j - (qr τ x).length = i * τ.sz + j := by rw [wW, W9]; omega
  have ih := XY τ d l i j (by simpa using hi) hj
  simp only [wD, List.getD_eq_getElem?_getD, List.getElem?_append, h1, if_false, h2]
  simpa [Va] using ih
inductive AV where
 | undef
 | r (x : RV)
 | agg (l : List AV)
 | tup (l : List AV)
 | own (nm ver : Nat)
 | ptr (nm ver o : Nat)
 | elt (nm ver sz i o : Nat)
 | rel (τ : RTy) (l : List τ.T) (i o : Nat)
 | sub (nm ver sz lo n : Nat)
 | gd (s : Nat) (w : Bool) (x : AV)
 | fn (f : Fn) (first captured : List AV)
structure Rc where
 ps : List Nat
 tys : List TypeId
 assign : Code
 body : Code
inductive Blk where
 | var (t : TypeId) (cs : List AV)
 | row (t : TypeId) (τ : RTy) (l : List τ.T)
 | map (ag : Bool) (κ τ : RTy) (l : List (κ.T × τ.T))
 | gone
 | loop (s : LoopState) (p : Option Code) (rc : Rc) (sl : List AV)
abbrev qL := List (Nat × Nat × Blk)
structure St where
 slots : List AV
 blks : qL
def qS : qL → Nat → Option (Nat × Blk)
 | [], _ => none
 | (n, v, b) :: r, m => bif qy n m then some (v, b) else qS r m
def z7 : qL → Nat → Nat → Blk → qL
 | [], m, v, b => [(m, v, b)]
 | (n, v', b') :: r, m, v, b => bif qy n m then (m, v, b) :: r else (n, v', b') :: z7 r m v b
theorem Vb {n m : Nat} (h : n ≠ m) : qy n m = false := by
 cases e : qy n m
 ·rfl
 ·exact absurd (qk e) h
theorem qe4 (n : Nat) : qy n n = true := Nat.beq_refl n
theorem Qc (l : qL) (m v : Nat) (b : Blk) (m' : Nat) : qS (z7 l m v b) m' = if m' = m then some (v, b) else qS l m' := by
 induction l with
 | nil =>
  by_cases h : m' = m
  ·subst h; simp [z7, qS]
  ·simp [z7, qS, Vb (Ne.symm h), h]
 | cons x r ih =>
  obtain ⟨n, v', b'⟩ := x
  by_cases hn : n = m
  ·subst hn
   by_cases h : m' = n
   ·subst h; simp [z7, qS]
   ·simp [z7, qS, Vb (Ne.symm h), h]
  ·by_cases h : m' = m
   ·subst h
    simp [z7, qS, Vb hn, ih]
   ·by_cases h2 : n = m'
    ·subst h2; simp [z7, qS, Vb hn, h]
    ·simp [z7, qS, Vb hn, Vb h2, ih, h]
inductive RepR (w : World) (ok : Nat → Prop) : Value → RV → Prop
 | undef (u : Value) : RepR w ok u .undef
 | v (x : Value) : RepR w ok x (.v x)
 | nil (τ : RTy) (a : Option Addr) (cap : Nat) : RepR w ok (.slice a 0 cap) (.ro τ [])
 | ro (τ : RTy) (l : List τ.T) (B o cap : Nat) (g : Nat → Value) (hB : ok B) (hcap : l.length ≤ cap)
   (hc : ∀ k, k < l.length * τ.sz → w.cell? ⟨B, o + k, none⟩ = some (g k))
   (hr : ∀ k, k < l.length * τ.sz → RepR w ok (g k) ((wD τ l).getD k .undef)) :
   RepR w ok (.slice (some ⟨B, o, none⟩) l.length cap) (.ro τ l)
theorem RepR.mono {w w' : World} {ok ok' : Nat → Prop} (h1 : ∀ B, ok B → ok' B) (h2 : ∀ B o, ok B → w'.cell? ⟨B, o, none⟩ = w.cell? ⟨B, o, none⟩)
  {u : Value} {x : RV} (h : RepR w ok u x) : RepR w' ok' u x := by
 induction h with
 | undef u => exact .undef u
 | v x => exact .v x
 | nil τ a cap => exact .nil τ a cap
 | ro τ l B o cap g hB hcap hc hr ih => exact .ro τ l B o cap g (h1 B hB) hcap (fun k hk => by rw [h2 B _ hB]; exact hc k hk) ih
abbrev Env := Nat → Option (Nat × Value)
def Ref (env : Env) (nm ver : Nat) (Q : Value → Prop) : Prop := ∃ cv h, env nm = some (cv, h) ∧ ver ≤ cv ∧ (ver = cv → Q h)
def qHM (v h : Value) (o : Nat) : Prop := ∃ B, h = .pointer (some ⟨B, 0, none⟩) ∧ v = .pointer (some ⟨B, o, none⟩)
def qHL (v h : Value) (sz i o : Nat) : Prop := ∃ B n cap, h = .slice (some ⟨B, 0, none⟩) n cap ∧ i < n ∧ v = .pointer (some ⟨B, i * sz + o, none⟩)
def qHN (v h : Value) (sz lo n : Nat) : Prop := (n = 0 ∧ ∃ a c, v = .slice a 0 c) ∨ ∃ B m cap c', h = .slice (some ⟨B, 0, none⟩) m cap ∧ lo + n ≤ m ∧ n ≤ c' ∧ v = .slice (some ⟨B, lo * sz, none⟩) n c'
inductive Rep (w : World) (ok : Nat → Prop) (env : Env) : Value → AV → Prop
 | undef (u : Value) : Rep w ok env u .undef
 | r {u : Value} {x : RV} (h : RepR w ok u x) : Rep w ok env u (.r x)
 | agg (vs : Array Value) (l : List AV) (hs : vs.size = l.length) (h : ∀ i, i < l.length → Rep w ok env (vs.getD i Go.undef) (l.getD i .undef)) : Rep w ok env (.agg vs) (.agg l)
 | tup (vs : Array Value) (l : List AV) (hs : vs.size = l.length) (h : ∀ i, i < l.length → Rep w ok env (vs.getD i Go.undef) (l.getD i .undef)) : Rep w ok env (.tuple vs) (.tup l)
 | own {u : Value} {nm ver : Nat} (h : Ref env nm ver fun x => u = x) : Rep w ok env u (.own nm ver)
 | ptr {u : Value} {nm ver o : Nat} (h : Ref env nm ver fun x => qHM u x o) : Rep w ok env u (.ptr nm ver o)
 | elt {u : Value} {nm ver sz i o : Nat} (h : Ref env nm ver fun x => qHL u x sz i o) : Rep w ok env u (.elt nm ver sz i o)
 | rel (τ : RTy) (l : List τ.T) (i o : Nat) (B b cap : Nat) (hi : i < l.length) (h : RepR w ok (.slice (some ⟨B, b, none⟩) l.length cap) (.ro τ l)) :
   Rep w ok env (.pointer (some ⟨B, b + (i * τ.sz + o), none⟩)) (.rel τ l i o)
 | sub {u : Value} {nm ver sz lo n : Nat} (h : Ref env nm ver fun x => qHN u x sz lo n) : Rep w ok env u (.sub nm ver sz lo n)
 | gd (u : Value) (s : Nat) (b : Bool) (x : AV) : Rep w ok env u (.gd s b x)
 | fn (f : Fn) (vf vc : Array Value) (lf lc : List AV) (hf : vf.size = lf.length) (hc : vc.size = lc.length) (h1 : ∀ i, i < lf.length → Rep w ok env (vf.getD i Go.undef) (lf.getD i .undef))
   (h2 : ∀ i, i < lc.length → Rep w ok env (vc.getD i Go.undef) (lc.getD i .undef)) : Rep w ok env (.func f vf vc) (.fn f lf lc)
def Env.le (env env' : Env) : Prop := ∀ nm cv h, env nm = some (cv, h) → ∃ cv' h', env' nm = some (cv', h') ∧ cv ≤ cv' ∧ (cv = cv' → h = h')
theorem Ref.mono {env env' : Env} {nm ver : Nat} {Q Q' : Value → Prop} (hl : env.le env') (hq : ∀ h, Q h → Q' h) (h : Ref env nm ver Q) : Ref env' nm ver Q' := by
 obtain ⟨cv, x, h1, h2, h3⟩ := h
 obtain ⟨cv', x', e1, e2, e3⟩ := hl nm cv x h1
 refine ⟨cv', x', e1, by omega, fun e => ?_⟩
 have : ver = cv := by omega
 have h4 := e3 (by omega)
 subst h4
 exact hq _ (h3 this)
theorem Rep.mono {w w' : World} {ok ok' : Nat → Prop} {env env' : Env} (h1 : ∀ B, ok B → ok' B) (h2 : ∀ B o, ok B → w'.cell? ⟨B, o, none⟩ = w.cell? ⟨B, o, none⟩) (hl : env.le env')
  {u : Value} {x : AV} (h : Rep w ok env u x) : Rep w' ok' env' u x := by
 induction h with
 | undef u => exact .undef u
 | r h => exact .r (h.mono h1 h2)
 | agg vs l hs _ ih => exact .agg vs l hs ih
 | tup vs l hs _ ih => exact .tup vs l hs ih
 | own h => exact .own (h.mono hl fun _ h => h)
 | ptr h => exact .ptr (h.mono hl fun _ h => h)
 | elt h => exact .elt (h.mono hl fun _ h => h)
 | rel τ l i o B b cap hi h => exact .rel τ l i o B b cap hi (h.mono h1 h2)
 | sub h => exact .sub (h.mono hl fun _ h => h)
 | gd u s b x => exact .gd u s b x
 | fn f vf vc lf lc hf hc _ _ ih1 ih2 => exact .fn f vf vc lf lc hf hc ih1 ih2
def wx : Value → Option Nat
 | .pointer (some a) => some a.block
 | .slice (some a) _ cap => match cap with
  | 0 => none
  | _ + 1 => some a.block
 | .map (some r) => some r
 | .func f _ _ => match f with
  | .yield l => some l
  | _ => none
 | _ => none
theorem zT {a : Addr} {n cap : Nat} (h : 0 < cap) : wx (.slice (some a) n cap) = some a.block := by
 cases cap with
 | zero => omega
 | succ c => rfl
theorem qNQ (a : Option Addr) : wx (.slice a 0 0) = none := by cases a <;> rfl
inductive RepB (w : World) (ok : Nat → Prop) (env : Env) : Value → Blk → Prop
 | var (B : Nat) (t : TypeId) (vs : Array Value) (cs : List AV) (hb : w.heap[B]? = some (.cells vs t (0, 0))) (hs : vs.size = cs.length)
   (h : ∀ i, i < cs.length → Rep w ok env (vs.getD i Go.undef) (cs.getD i .undef)) : RepB w ok env (.pointer (some ⟨B, 0, none⟩)) (.var t cs)
 | varS (B : Nat) (t : TypeId) (vs : Array Value) (cs : List AV) (hb : w.heap[B]? = some (.cells vs t (0, 0))) (h0 : 0 < vs.size) (hm : vs.size ≤ maxLen) (hs : vs.size = cs.length)
   (h : ∀ i, i < cs.length → Rep w ok env (vs.getD i Go.undef) (cs.getD i .undef)) : RepB w ok env (.slice (some ⟨B, 0, none⟩) vs.size vs.size) (.var t cs)
 | rowNil (t : TypeId) (τ : RTy) (a : Option Addr) : RepB w ok env (.slice a 0 0) (.row t τ [])
 | gone : RepB w ok env .nilFunc .gone
 | row (B : Nat) (t : TypeId) (τ : RTy) (l : List τ.T) (cap : Nat) (vs : Array Value) (hb : w.heap[B]? = some (.cells vs t (0, 0))) (hcap : l.length ≤ cap) (h0 : 0 < cap) (hm : cap ≤ maxLen) (hs : vs.size = cap * τ.sz)
   (h : ∀ k, k < l.length * τ.sz → RepR w ok (vs.getD k Go.undef) ((wD τ l).getD k .undef)) : RepB w ok env (.slice (some ⟨B, 0, none⟩) l.length cap) (.row t τ l)
 | map (r : Nat) (ag : Bool) (κ τ : RTy) (l : List (κ.T × τ.T)) (es : Array MapEntry) (clock : Nat) (hb : w.heap[r]? = some (.map es clock)) (hs : es.size = l.length)
   (hk : ∀ i, i < l.length → ∃ e x, es[i]? = some e ∧ l[i]? = some x ∧ e.key = zn false κ x.1 ∧ e.val = zn ag τ x.2) : RepB w ok env (.map (some r)) (.map ag κ τ l)
 | loop (l : Nat) (r : Loop) (rc : Rc) (sl : List AV) (hb : w.heap[l]? = some (.loop r)) (hp : r.params = rc.ps.toArray) (ha : r.assign = rc.assign) (hc : r.body = rc.body) (hs : r.tmps.size = sl.length)
   (h : ∀ i, i < sl.length → Rep w ok env (r.tmps.getD i Go.undef) (sl.getD i .undef)) : RepB w ok env (.func (.yield l) #[] #[]) (.loop r.state r.pending rc sl)
theorem qFg {w : World} {ok : Nat → Prop} {env : Env} {a : Addr} {n cap : Nat} {t : TypeId} {τ : RTy} {l : List τ.T} (h : RepB w ok env (.slice (some a) n cap) (.row t τ l)) (hn : 0 < n) : 0 < cap := by
 cases h with
 | rowNil => omega
 | row => assumption
theorem zr {w w' : World} {B : Nat} (h : w'.heap[B]? = w.heap[B]?) (o : Nat) : w'.cell? ⟨B, o, none⟩ = w.cell? ⟨B, o, none⟩ := by simp [World.cell?, h]
theorem RepB.mono {w w' : World} {ok ok' : Nat → Prop} {env env' : Env} (h1 : ∀ B, ok B → ok' B) (h2 : ∀ B o, ok B → w'.cell? ⟨B, o, none⟩ = w.cell? ⟨B, o, none⟩) (hl : env.le env')
  {u : Value} {b : Blk} (h : RepB w ok env u b) (hB : ∀ B, wx u = some B → w'.heap[B]? = w.heap[B]?) : RepB w' ok' env' u b := by
 cases h with
 | var B t vs cs hb hs h => exact .var B t vs cs (by rw [hB B rfl]; exact hb) hs fun i hi => (h i hi).mono h1 h2 hl
 | varS B t vs cs hb h0 hm hs h => exact .varS B t vs cs (by rw [hB B (zT h0)]; exact hb) h0 hm hs fun i hi => (h i hi).mono h1 h2 hl
 | rowNil t τ a => exact .rowNil t τ a
 | gone => exact .gone
 | row B t τ l cap vs hb hcap h0 hm hs h => exact .row B t τ l cap vs (by rw [hB B (zT h0)]; exact hb) hcap h0 hm hs fun k hk => (h k hk).mono h1 h2
 | map r ag κ τ l es clock hb hs hk => exact .map r ag κ τ l es clock (by rw [hB r rfl]; exact hb) hs hk
 | loop l r rc sl hb hp ha hc hs h => exact .loop l r rc sl (by rw [hB l rfl]; exact hb) hp ha hc hs fun i hi => (h i hi).mono h1 h2 hl
structure Cx where
 okb : Nat → Prop
 hid : Nat → Prop := fun _ => False
 w0 : World
 ent : Nat → Option Value
def Cx.refs (cx : Cx) (B : Nat) : Prop := ∃ nm h, cx.ent nm = some h ∧ wx h = some B
structure Cx.Wf (cx : Cx) : Prop where
 lt : ∀ B, cx.okb B → B < cx.w0.heap.size
 ne : ∀ B, cx.okb B → ¬ cx.refs B
def QS (cx : Cx) (n : Nat) : Prop := 100 ≤ n ∧ ¬ cx.hid n
def qn (cx : Cx) (env : Env) (w : World) (B : Nat) : Prop := (cx.okb B ∨ cx.w0.heap.size ≤ B) ∧ B < w.heap.size ∧ ∀ nm ver h, env nm = some (ver, h) → wx h ≠ some B
structure Grew (w w' : World) : Prop where
 size : w.heap.size ≤ w'.heap.size
 os : w'.os = w.os
 out : w'.output = w.output
theorem Grew.refl (w : World) : Grew w w := ⟨qR _, rfl, rfl⟩
theorem Grew.trans {a b c : World} (h : Grew a b) (k : Grew b c) : Grew a c := ⟨Nat.le_trans h.size k.size, k.os.trans h.os, k.out.trans h.out⟩
structure Mem (cx : Cx) (bl : qL) (w : World) (env : Env) : Prop where
 blk : ∀ nm ver b, qS bl nm = some (ver, b) → ∃ h, env nm = some (ver, h) ∧ RepB w (qn cx env w) env h b
 dom : ∀ nm, qS bl nm = none → ¬ cx.hid nm → env nm = none
 vis : ∀ nm, cx.hid nm → qS bl nm = none
 inj : ∀ nm nm' v v' h h' B, env nm = some (v, h) → env nm' = some (v', h') → wx h = some B → wx h' = some B → nm = nm'
 own : ∀ nm v h B, env nm = some (v, h) → wx h = some B → (cx.w0.heap.size ≤ B ∨ ∃ h0, cx.ent nm = some h0 ∧ wx h0 = some B) ∧ B < w.heap.size
 gr : Grew cx.w0 w
 frame : ∀ B, B < cx.w0.heap.size → ¬ cx.refs B → w.heap[B]? = cx.w0.heap[B]?
 vers : ∀ nm h h0, env nm = some (0, h) → cx.ent nm = some h0 → h = h0
 ents : ∀ nm h0, cx.ent nm = some h0 → nm < 100 ∧ ∃ v h, env nm = some (v, h)
theorem Mem.grow {cx : Cx} {bl : qL} {w : World} {env : Env} (hm : Mem cx bl w env) : cx.w0.heap.size ≤ w.heap.size := hm.gr.size
def W0 (w : World) (ok : Nat → Prop) (env : Env) (tmps : Array Value) (u : Value) : AV → Prop
 | .gd s b x => (tmps[s]? = some (.bool b) → Rep w ok env u x) ∧ (tmps[s]? ≠ some (.bool b) → u = Go.undef)
 | x => Rep w ok env u x
def qlv (cx : Cx) (w : World) (env : Env) (D : Nat) : Prop := cx.w0.heap.size ≤ D ∧ qn cx env w D ∧ w.heap[D]? = some (.deferred (some []))
def Vi (D : Nat) : Deferred := { target := .collected D, args := #[] }
def Marks (cx : Cx) (w : World) (env : Env) (ds : List Deferred) : Prop := ∃ Ds : List Nat, ds = Ds.map Vi ∧ Ds.Nodup ∧ ∀ D ∈ Ds, qlv cx w env D
theorem Marks.nil (cx : Cx) (w : World) (env : Env) : Marks cx w env [] := ⟨[], rfl, List.nodup_nil, fun _ h => by simp at h⟩
theorem Marks.mono {cx cx' : Cx} {w w' : World} {env env' : Env} {ds : List Deferred} (h : Marks cx w env ds) (h0 : cx'.w0.heap.size ≤ cx.w0.heap.size) (h1 : ∀ B, qn cx env w B → qn cx' env' w' B) (h2 : ∀ B, qn cx env w B → w'.heap[B]? = w.heap[B]?) : Marks cx' w' env' ds := by
 obtain ⟨Ds, e, n, k⟩ := h
 exact ⟨Ds, e, n, fun D hD => ⟨Nat.le_trans h0 (k D hD).1, h1 D (k D hD).2.1, by rw [h2 D (k D hD).2.1]; exact (k D hD).2.2⟩⟩
structure Inv (cx : Cx) (st : St) (a : Act) (w : World) (env : Env) : Prop where
 defers : Marks cx w env a.defers
 size : a.tmps.size = st.slots.length
 slot : ∀ i, i < st.slots.length → W0 w (qn cx env w) env a.tmps (a.tmps.getD i Go.undef) (st.slots.getD i .undef)
 mem : Mem cx st.blks w env
end Go.AM
namespace Go.AM
open Go
def qcH : AV → Option Value
 | .r (.v x) => some x
 | _ => none
def qje : List AV → Option (List Value)
 | [] => some []
 | a :: l => match qcH a with
  | some x => match qje l with
   | some r => some (x :: r)
   | none => none
  | none => none
def flat : AV → Option Value
 | .r (.v x) => some x
 | .agg l => match qje l with
  | some r => some (.agg r.toArray)
  | none => none
 | _ => none
def qjd : List AV → Option (List Value)
 | [] => some []
 | a :: l => match flat a with
  | some x => match qjd l with
   | some r => some (x :: r)
   | none => none
  | none => none
def vM {α : Type} (P : Program) : Sem α → Option α
 | .pure a => some a
 | .program k => vM P (k P)
 | .mark _ k => vM P k
 | _ => none
def qfZ {α : Type} : Nat → List α → Option (List α)
 | 0, _ => some []
 | _ + 1, [] => none
 | n + 1, x :: l => match qfZ n l with
  | some r => some (x :: r)
  | none => none
def cut {α : Type} : Nat → Nat → List α → Option (List α)
 | 0, n, l => qfZ n l
 | _ + 1, _, [] => none
 | o + 1, n, _ :: l => cut o n l
def lay {α : Type} : Nat → List α → List α → Option (List α)
 | 0, [], l => some l
 | 0, _ :: _, [] => none
 | 0, v :: vs, _ :: l => match lay 0 vs l with
  | some r => some (v :: r)
  | none => none
 | _ + 1, _, [] => none
 | o + 1, vs, x :: l => match lay o vs l with
  | some r => some (x :: r)
  | none => none
def zm (P : Program) (t : TypeId) : Option Bool :=
 match P.underlying t with
 | some (.struct _) => some true
 | some (.array _ _) => some true
 | some _ => some false
 | none => none
def Wc (P : Program) (t : TypeId) (b : Bool) : Bool := match zm P t with
 | some c => c == b
 | none => false
def Xu (P : Program) (t : TypeId) (cs : List AV) : Option AV :=
 match zm P t with
 | some true => some (.agg cs)
 | some false => match cs with
  | [c] => some c
  | _ => none
 | none => none
def qB : List RV → List AV
 | [] => []
 | x :: l => .r x :: qB l
def zd : List Value → List AV
 | [] => []
 | x :: l => .r (.v x) :: zd l
def wP (bl : qL) (nm ver : Nat) : Option Blk := match qS bl nm with
 | some (v', b) => bif qy v' ver then some b else none
 | none => none
def ZH (bl : qL) (a : AV) (k : Nat) : Option (List AV) :=
 match a with
 | .ptr nm ver o => match wP bl nm ver with
  | some (.var _ cs) => cut o k cs
  | _ => none
 | .elt nm ver sz i o => match wP bl nm ver with
  | some (.row _ τ l) => bif qy τ.sz sz then cut o k (qB (Va τ l i)) else none
  | some (.var _ cs) => bif qy sz 1 then cut (i + o) k cs else none
  | _ => none
 | .rel τ l i o => cut o k (qB (Va τ l i))
 | _ => none
def qC (a b : RTy) (l : List a.T) : Option (List b.T) := if h : a = b then some (h ▸ l) else none
def QH (bl : qL) (a : RTy) (x : AV) : Option (List a.T) := match x with
 | .r (.ro a' l) => qC a' a l
 | .r (.v (.slice none 0 0)) => some []
 | .own nm ver => match wP bl nm ver with
  | some (.row _ a' l) => qC a' a l
  | _ => none
 | .sub nm ver sz lo n => match wP bl nm ver with
  | some (.row _ a' l) => bif qy a'.sz sz then qC a' a ((l.drop lo).take n) else none
  | _ => none
 | _ => none
def Xr (bl : qL) (a : RTy) (x : AV) : Option (List a.T × List (Nat × Nat)) := match QH bl a x with
 | some l => match x with
  | .own nm ver => bif qtH 100 nm then some (l, [(nm, ver)]) else none
  | .sub nm ver _ _ _ => bif qtH 100 nm then some (l, [(nm, ver)]) else none
  | _ => some (l, [])
 | none => none
def qsf (bl : qL) (a : RTy) (x : AV) : Option (List a.T × List (Nat × Nat)) := match QH bl a x with
 | some l => some (l, [])
 | none => none
def zb (f : (a : RTy) → AV → Option (List a.T × List (Nat × Nat))) : (τ : RTy) → List AV → Option (τ.T × List AV × List (Nat × Nat))
 | .int k, cs => match cs with
  | .r (.v (.int k' n)) :: r => if k' = k then some (n, r, []) else none
  | _ => none
 | .bool, cs => match cs with
  | .r (.v (.bool b)) :: r => some (b, r, [])
  | _ => none
 | .str, cs => match cs with
  | .r (.v (.string s)) :: r => some (s, r, [])
  | _ => none
 | .fn, cs => match cs with
  | .r (.v (.func g a c)) :: r => some ((g, a.toList, c.toList), r, [])
  | _ => none
 | .unit, cs => some ((), cs, [])
 | .pair a b, cs => match zb f a cs with
  | some (x, r, z) => match zb f b r with
   | some (y, r', z') => some ((x, y), r', z ++ z')
   | none => none
  | none => none
 | .list a, cs => match cs with
  | x :: r => match f a x with
   | some (l, z) => some (l, r, z)
   | none => none
  | [] => none
def qdf (bl : qL) (τ : RTy) (cs : List AV) : Option (τ.T × List (Nat × Nat)) :=
 match zb (Xr bl) τ cs with
 | some (x, [], z) => some (x, z)
 | _ => none
def qX (bl : qL) (τ : RTy) (cs : List AV) : Option τ.T :=
 match zb (qsf bl) τ cs with
 | some (x, [], _) => some x
 | _ => none
def qfa (τ : RTy) (cs : List AV) : Option τ.T := match qdf [] τ cs with
 | some (x, _) => some x
 | none => none
def vE : List (Nat × Nat) → List (Nat × Nat × Blk)
 | [] => []
 | (n, v) :: r => (n, v + 1, .gone) :: vE r
abbrev wT := Nat → Option RTy
def qIp : List (Nat × RTy) → wT
 | [], _ => none
 | (n, τ) :: r, m => bif qy n m then some τ else qIp r m
structure Ef where
 φ : List Prop
 v : AV
 wr : List (Nat × Nat × Blk)
def qfy (P : Program) (s f : Nat) : Option (Nat × Nat) :=
 match P.underlying s with
 | some (.struct fs) => match fs.toList[f]? with
  | some x => bif qy (P.cellsOf x.type) 0 then none else some (x.offset, x.type)
  | none => none
 | _ => none
def q7 (bl : qL) (nm : Nat) : Nat := match qS bl nm with
 | some (v, _) => v + 1
 | none => 0
def Wq (P : Program) (t : TypeId) : Option TypeId := match P.underlying t with
 | some (.slice e) => some e
 | _ => none
def qq4 (a : AV) (k : Nat) : Option AV := match a with
 | .ptr nm ver o => some (.ptr nm ver (o + k))
 | .elt nm ver sz i o => some (.elt nm ver sz i (o + k))
 | .rel τ l i o => some (.rel τ l i (o + k))
 | _ => none
def Z9 : AV → Option (IntKind × Int)
 | .r (.v (.int k n)) => some (k, n)
 | _ => none
def zO (P : Program) (t : TypeId) : Option (List AV) := match P.info? t with
 | some i => match i.zero with
  | some z => some (zd z.cells.toList)
  | none => none
 | none => none
def Vc : (κ : RTy) → κ.T → κ.T → Bool
 | .int _, a, b => (show Int from a) == b
 | .bool, a, b => (show Bool from a) == b
 | .str, a, b => (show ByteArray from a) == b
 | _, _, _ => false
def qIm : RTy → Bool
 | .int _ | .bool | .str => true
 | _ => false
def wb (κ : RTy) {β : Type} (k : κ.T) : List (κ.T × β) → Option β
 | [] => none
 | p :: r => bif Vc κ k p.1 then some p.2 else wb κ k r
def zP (κ : RTy) {β : Type} (k : κ.T) (v : β) : List (κ.T × β) → List (κ.T × β)
 | [] => [(k, v)]
 | p :: r => bif Vc κ k p.1 then (k, v) :: r else p :: zP κ k v r
def Vd : (τ : RTy) → τ.T → τ.T → Bool
 | .int _, a, b => (show Int from a) == b
 | .bool, a, b => (show Bool from a) == b
 | .str, a, b => (show ByteArray from a).toList == (show ByteArray from b).toList
 | .pair a b, p, q => Vd a p.1 q.1 && Vd b p.2 q.2
 | _, _, _ => true
def bAt (s : ByteArray) (i : Int) : Int := ((s.data.toList.getD i.toNat 0).toNat : Int)
def zi : AV → Bool
 | .gd _ _ _ => false
 | _ => true
def Qj (bl : qL) : AV → Bool
 | .r (.v (.agg _)) | .r (.v (.tuple _)) => false
 | .r (.v _) => true
 | .r (.ro _ _) => true
 | .own nm ver => (wP bl nm ver).isSome
 | .ptr nm ver _ => (wP bl nm ver).isSome
 | .elt nm ver _ _ _ => (wP bl nm ver).isSome
 | .sub nm ver _ _ _ => (wP bl nm ver).isSome
 | .rel _ _ _ _ => true
 | .fn _ _ _ => true
 | _ => false
def WH (bl : qL) (x : AV) : Option (List AV) := match x with
 | .agg l => some l
 | .r (.v (.agg vs)) => some (zd vs.toList)
 | x => bif Qj bl x then some [x] else none
def qqK (x : AV) : Option Ef := some ⟨[], x, []⟩
def qJO : Operand → Bool
 | .const v => (match v with
  | .bool b => !b
  | _ => false)
 | _ => false
def qxE (sel : Bool) (c : Operand) (vc x y : AV) : Option Ef := match vc with
 | .r (.v (.bool b)) => (match sel with
  | true => match y with
   | .r (.v (.bool false)) => (match x with
    | .r (.v (.bool x')) => some ⟨[], .r (.v (.bool (b && x'))), []⟩
    | .gd s true (.r (.v (.bool x'))) => (match c with
     | .tmp c' => bif qy c' s then some ⟨[], .r (.v (.bool (b && x'))), []⟩ else none
     | _ => none)
    | .undef => (match b with
     | false => some ⟨[], .r (.v (.bool false)), []⟩
     | true => none)
    | .r (.v (.tuple _)) => (match b with
     | false => some ⟨[], .r (.v (.bool false)), []⟩
     | true => none)
    | _ => none)
   | _ => none
  | false => match x with
   | .r (.v (.bool true)) => (match y with
    | .r (.v (.bool z)) => some ⟨[], .r (.v (.bool (b || z))), []⟩
    | .gd s false (.r (.v (.bool z))) => (match c with
     | .tmp c' => bif qy c' s then some ⟨[], .r (.v (.bool (b || z))), []⟩ else none
     | _ => none)
    | .undef => (match b with
     | true => some ⟨[], .r (.v (.bool true)), []⟩
     | false => none)
    | .r (.v (.tuple _)) => (match b with
     | true => some ⟨[], .r (.v (.bool true)), []⟩
     | false => none)
    | _ => none)
   | _ => none)
 | _ => none
def qMR (f : TypeId → Option (List TypeId)) : List Field → Option (List TypeId)
 | [] => some []
 | x :: r => match f x.type with
  | some l => match qMR f r with
   | some m => some (l ++ m)
   | none => none
  | none => none
def qiz (P : Program) : Nat → TypeId → Option (List TypeId)
 | 0, _ => none
 | n + 1, t => match P.underlying t with
  | some (.struct fs) => qMR (qiz P n) fs.toList
  | some (.array _ _) => none
  | some _ => some [t]
  | none => none
def qv6 (P : Program) (R : wT) (x : AV) (t : TypeId) : Option (TypeId × RTy) := match x with
 | .r (.v (.slice none 0 0)) => match Wq P t with
  | some e => match R e with
   | some τ => some (e, τ)
   | none => none
  | none => none
 | _ => none
def wi (d j : Nat) : Nat := 10000 + 16 * d + j
def Qi (P : Program) (R : wT) (d : Nat) : qL → Nat → List AV → List TypeId → List AV × List (Nat × Nat × Blk)
 | _, _, [], _ => ([], [])
 | _, _, x :: cs, [] => (x :: cs, [])
 | bl, n, x :: cs, t :: ts => match n with
  | 0 => (x :: cs, [])
  | n' + 1 => match qv6 P R x t with
   | some (e, τ) => match Qi P R d (z7 bl (wi d n') (q7 bl (wi d n')) (.row e τ [])) n' cs ts with
    | (cs', wr) => (.own (wi d n') (q7 bl (wi d n')) :: cs', (wi d n', q7 bl (wi d n'), .row e τ []) :: wr)
   | none => match Qi P R d bl (n' + 1) cs ts with
    | (cs', wr) => (x :: cs', wr)
def we (bl : qL) : List (Nat × Nat × Blk) → qL
 | [] => bl
 | (n, v, b) :: r => we (z7 bl n v b) r
def qhM (P : Program) (R : wT) (bl : qL) (dst : Nat) (t : TypeId) (cs : List AV) : Ef := match Qi P R (dst - 100) bl 16 cs ((qiz P 8 t).getD []) with
 | (cs', wr) => ⟨[], .ptr dst (q7 (we bl wr) dst) 0, wr ++ [(dst, q7 (we bl wr) dst, .var t cs')]⟩
def qpq (bl : qL) (x : AV) : Option Ef := match x with
 | .ptr nm ver o => bif (wP bl nm ver).isSome then some ⟨[], .ptr nm ver o, []⟩ else none
 | _ => none
def qsn (P : Program) (R : wT) (bl : qL) (dst : Nat) (t : TypeId) : Option Ef := match zO P t with
 | some cs => some (qhM P R bl dst t cs)
 | none => none
def qFa (P : Program) (R : wT) (bl : qL) (dst : Nat) (t : TypeId) (x : AV) : Option Ef := match WH bl x with
 | some cs => some (qhM P R bl dst t cs)
 | none => none
def qjb (bl : qL) (place : Nat → Option (Nat × Nat)) : List (Nat × AV) → List AV → Option (List AV)
 | [], cs => some cs
 | (i, x) :: r, cs => match place i with
  | some (off, n) => match WH bl x with
   | some vs => bif qy vs.length n then (match lay off vs cs with
    | some cs' => qjb bl place r cs'
    | none => none) else none
   | none => none
  | none => none
def qbX (P : Program) : List Field → Option (List (Nat × Nat))
 | [] => some []
 | f :: r => match P.info? f.type with
  | some i => match qbX P r with
   | some l => some ((f.offset, i.size) :: l)
   | none => none
  | none => none
def qso (P : Program) (bl : qL) (t : TypeId) (ps : List (Nat × AV)) : Option Ef := match zO P t with
 | some z => match P.underlying t with
  | some (.struct fs) => match qbX P fs.toList with
   | some pl => match qjb bl (pl[·]?) ps z with
    | some cs => some ⟨[], .agg cs, []⟩
    | none => none
   | none => none
  | some (.array _ e) => match P.info? e with
   | some ie => match qjb bl (fun i => some (i * ie.size, ie.size)) ps z with
    | some cs => some ⟨[], .agg cs, []⟩
    | none => none
   | none => none
  | _ => none
 | none => none
def V5 (bl : qL) (τ : RTy) : List (Nat × AV) → Nat → Option (List τ.T × List (Nat × Nat))
 | [], _ => some ([], [])
 | (i, x) :: r, k => bif qy i k then (match WH bl x with
   | some cs => match qdf bl τ cs with
    | some (y, z) => match V5 bl τ r (k + 1) with
     | some (l, z') => some (y :: l, z ++ z')
     | none => none
    | none => none
   | none => none) else none
def qhP : List (Nat × AV) → Nat → Option (List AV)
 | [], _ => some []
 | (i, x) :: r, k => bif qy i k then (match x with
  | .fn f a b => (match qhP r (k + 1) with
   | some l => some (.fn f a b :: l)
   | none => none)
  | _ => none) else none
def qn8 (P : Program) (bl : qL) (dst : Nat) (e : TypeId) (n : Nat) (ps : List (Nat × AV)) : Option Ef := match qhP ps 0 with
 | some cs => match zO P e with
  | some zc => bif qy cs.length n && (qy 1 (P.cellsOf e) && (qtH n 16777216 && (qtH 1 n && qy zc.length 1))) then
    some ⟨[], .sub dst (q7 bl dst) 1 0 n, [(dst, q7 bl dst, .var e cs)]⟩ else none
  | none => none
 | none => none
def qdz (P : Program) (R : wT) (bl : qL) (dst : Nat) (t : TypeId) (n : Nat) (ps : List (Nat × AV)) : Option Ef := match Wq P t with
 | some e => match R e with
  | some τ => match V5 bl τ ps 0 with
   | some (l, z) => match zO P e with
    | some zc => bif qy l.length n && (qy τ.sz (P.cellsOf e) && (qtH (n * τ.sz) 16777216 && (qtH 1 τ.sz && (qy zc.length τ.sz && z.all fun p => !Nat.beq p.1 dst)))) then
     some ⟨[], .own dst (q7 bl dst), vE z ++ [(dst, q7 bl dst, .row e τ l)]⟩ else none
    | none => none
   | none => qn8 P bl dst e n ps
  | none => none
 | none => none
def qab (k : IntKind) : List AV → Option (List Int)
 | [] => some []
 | x :: r => match Z9 x with
  | some (k', n) => bif k' == k then (match qab k r with
   | some l => some (n :: l)
   | none => none) else none
  | none => none
def qxx (P : Program) (bl : qL) (t : TypeId) (a : AV) : Option Ef := match a with
 | .ptr nm ver o => match wP bl nm ver with
  | some (.var t' cs) => match P.underlying t' with
   | some (.array _ _) => match P.underlying t with
    | some (.int k) => match qab k cs with
     | some ns => bif qy (P.cellsOf t) 1 then some ⟨[o < ns.length], .r (.v (.int k (ns.getD o 0))), []⟩ else none
     | none => none
    | _ => none
   | _ => none
  | _ => none
 | _ => none
def qxD (P : Program) (bl : qL) (t : TypeId) (a : AV) : Option Ef := match qxx P bl t a with
 | some e => some e
 | none => match ZH bl a (P.cellsOf t) with
  | some cs => match Xu P t cs with
   | some v => some ⟨[], v, []⟩
   | none => none
  | none => none
def qEq (bl : qL) (a : AV) (vs : List AV) : Option (List (Nat × Nat × Blk)) :=
 match a with
 | .ptr nm ver o => match wP bl nm ver with
  | some (.var t cs) => match lay o vs cs with
   | some cs' => some [(nm, ver, .var t cs')]
   | none => none
  | _ => none
 | .elt nm ver sz i o => match wP bl nm ver with
  | some (.row t τ l) => bif qy τ.sz sz then (match lay o vs (qB (Va τ l i)) with
   | some cs => match qdf bl τ cs with
    | some (x, z) => bif z.all (fun p => !Nat.beq p.1 nm) then some (vE z ++ [(nm, ver, .row t τ (l.set i x))]) else none
    | none => none
   | none => none) else none
  | _ => none
 | _ => none
def qss (P : Program) (bl : qL) (t : TypeId) (a x : AV) : Option Ef := match WH bl x with
 | some vs => bif qy vs.length (P.cellsOf t) && (vs.all (Qj bl) && (P.info? t).isSome) then (match qEq bl a vs with
  | some b => some ⟨[], .undef, b⟩
  | none => none) else none
 | none => none
def qlQ (bl : qL) : AV → Bool
 | .ptr nm ver _ => (wP bl nm ver).isSome
 | .elt nm ver _ _ _ => (wP bl nm ver).isSome
 | .rel _ _ _ _ => true
 | _ => false
def qfP (P : Program) (bl : qL) (s : TypeId) (x : AV) (f : Nat) : Option Ef := match qfy P s f with
 | some (off, _) => match qq4 x off with
  | some a => bif qlQ bl x then some ⟨[], a, []⟩ else none
  | none => none
 | none => none
def qsp (P : Program) (s : TypeId) (x : AV) (f : Nat) : Option Ef := match qfy P s f with
 | some (off, t) => match x with
  | .agg l => match cut off (P.cellsOf t) l with
   | some cs => match Xu P t cs with
    | some v => some ⟨[], v, []⟩
    | none => none
   | none => none
  | _ => none
 | none => none
def qfQ (P : Program) (bl : qL) (t : TypeId) (x i : AV) : Option Ef := match Z9 i with
 | some (_, n) => match P.underlying t with
  | some (.slice e) => match x with
   | .own nm ver => match wP bl nm ver with
    | some (.row _ τ l) => bif qy τ.sz (P.cellsOf e) && (P.info? e).isSome then some ⟨[0 ≤ n, n < (l.length : Int)], .elt nm ver τ.sz n.toNat 0, []⟩ else none
    | _ => none
   | .r (.ro τ l) => bif qy τ.sz (P.cellsOf e) && (P.info? e).isSome then some ⟨[0 ≤ n, n < (l.length : Int)], .rel τ l n.toNat 0, []⟩ else none
   | .sub nm ver sz lo m => match wP bl nm ver with
    | some (.var _ _) => bif qy sz 1 && (qy 1 (P.cellsOf e) && (P.info? e).isSome) then some ⟨[0 ≤ n, n < (m : Int)], .elt nm ver sz (lo + n.toNat) 0, []⟩ else none
    | _ => none
   | _ => none
  | some (.array len e) => match x with
   | .ptr nm ver o => bif (wP bl nm ver).isSome && (P.info? e).isSome then some ⟨[0 ≤ n, n < (len : Int)], .ptr nm ver (o + n.toNat * P.cellsOf e), []⟩ else none
   | _ => none
  | _ => none
 | none => none
def qsq (P : Program) (t : TypeId) (x i : AV) : Option Ef := match Z9 i with
 | some (_, n) => match P.underlying t with
  | some .string => match x with
   | .r (.v (.string s)) => some ⟨[0 ≤ n, n < (s.size : Int)], .r (.v (.int .u8 (bAt s n))), []⟩
   | _ => none
  | some (.array len e) => match x with
   | .agg l => match cut (n.toNat * P.cellsOf e) (P.cellsOf e) l with
    | some cs => match Xu P e cs with
     | some v => bif (P.info? e).isSome then some ⟨[0 ≤ n, n < (len : Int)], v, []⟩ else none
     | none => none
    | none => none
   | _ => none
  | _ => none
 | none => none
def qkC (x : AV) (i : Nat) : Option Ef := match x with
 | .tup l => match l[i]? with
  | some v => some ⟨[], v, []⟩
  | none => none
 | _ => none
def qhO (f : Fn) (fs cs : List AV) : Option Ef := match qjd fs with
 | some a => match qjd cs with
  | some c => some ⟨[], .r (.v (.func f a.toArray c.toArray)), []⟩
  | none => bif fs.all zi && cs.all zi then some ⟨[], .fn f fs cs, []⟩ else none
 | none => bif fs.all zi && cs.all zi then some ⟨[], .fn f fs cs, []⟩ else none
def W3 (P : Program) (f : TypeId → RTy → Bool) : Nat → List Field → RTy → Bool
 | _, [], _ => false
 | off, x :: r, τ => !(x.name == "_") && (qy x.offset off && (match r with
  | [] => f x.type τ && qy (P.cellsOf x.type) τ.sz
  | _ :: _ => match τ with
   | .pair a b => f x.type a && (qy (P.cellsOf x.type) a.sz && W3 P f (off + a.sz) r b)
   | _ => false))
def qfb (P : Program) : Nat → TypeId → RTy → Bool
 | 0, _, _ => false
 | n + 1, t, τ => match P.underlying t with
  | some (.int k) => (match τ with
   | .int k' => k == k'
   | _ => false)
  | some .bool => (match τ with
   | .bool => true
   | _ => false)
  | some .string => (match τ with
   | .str => true
   | _ => false)
  | some (.struct fs) => !(P.stoodInHeld t) && W3 P (qfb P n) 0 fs.toList τ
  | _ => false
def qE9 (P : Program) (R : wT) (_bl : qL) (op : BinOp) (t : TypeId) (x y : AV) : Option Ef := match x with
 | .r (.v (.int k a)) => match y with
  | .r (.v (.int k' b)) => (match op with
   | .quo => if k = k' then some ⟨[b ≠ 0], .r (.v (.int k (k.wrap (a.tdiv b)))), []⟩ else none
   | .rem => if k = k' then some ⟨[b ≠ 0], .r (.v (.int k (a.tmod b))), []⟩ else none
   | .shl => some ⟨[0 ≤ b], .r (.v (.int k (k.wrap (a * 2 ^ min b.toNat k.bits)))), []⟩
   | .shr => some ⟨[0 ≤ b], .r (.v (.int k (a.fdiv (2 ^ min b.toNat k.bits)))), []⟩
   | _ => match vM P (binOp op t (.int k a) (.int k' b)) with
    | some v => some ⟨[], .r (.v v), []⟩
    | none => none)
  | _ => none
 | .r (.v (.bool a)) => match y with
  | .r (.v (.bool b)) => match P.underlying t with
   | some .bool => (match op with
    | .eql => some ⟨[], .r (.v (.bool (a == b))), []⟩
    | .neq => some ⟨[], .r (.v (.bool (!(a == b)))), []⟩
    | _ => none)
   | _ => none
  | _ => none
 | .r (.v (.string a)) => match y with
  | .r (.v (.string b)) => (match op with
   | .add => some ⟨[((a.size + b.size : Nat) : Int) ≤ IntKind.i64.max], .r (.v (.string (a ++ b))), []⟩
   | _ => match vM P (binOp op t (.string a) (.string b)) with
    | some v => some ⟨[], .r (.v v), []⟩
    | none => none)
  | _ => none
 | .agg l => match y with
  | .agg m => match R t with
   | some τ => match qfa τ l with
    | some p => match qfa τ m with
     | some q => bif qfb P 8 t τ && Wc P t true then (match op with
      | .eql => some ⟨[], .r (.v (.bool (Vd τ p q))), []⟩
      | .neq => some ⟨[], .r (.v (.bool (!(Vd τ p q)))), []⟩
      | _ => none) else none
     | none => none
    | none => none
   | none => none
  | _ => none
 | .ptr nm ver _ => match y with
  | .r (.v (.pointer none)) => match P.underlying t with
   | some (.pointer _) => bif (wP _bl nm ver).isSome then (match op with
    | .eql => some ⟨[], .r (.v (.bool false)), []⟩
    | .neq => some ⟨[], .r (.v (.bool true)), []⟩
    | _ => none) else none
   | _ => none
  | _ => none
 | _ => none
def oUn (P : Program) (op : UnOp) (x : AV) : Option Ef := match qcH x with
 | some v => match vM P (Op.unary op v) with
  | some v => some ⟨[], .r (.v v), []⟩
  | none => none
 | none => none
def qrA (l : List Int) : ByteArray := l.foldl (fun r n => r.push (UInt8.ofNat n.toNat)) ByteArray.empty
def qkB (P : Program) (bl : qL) (s d : TypeId) (x : AV) : Option Ef := match qcH x with
 | some v => match vM P (convert s d v) with
  | some v => some ⟨[], .r (.v v), []⟩
  | none => none
 | none => match P.underlying d with
  | some .string => match P.underlying s with
   | some (.slice e) => match P.underlying e with
    | some (.int .u8) => match QH bl (.int .u8) x with
     | some l => some ⟨[], .r (.v (.string (qrA l))), []⟩
     | none => none
    | _ => none
   | _ => none
  | _ => none
def qFb (P : Program) (bl : qL) (t : TypeId) (x : AV) : Option Ef := match P.underlying t with
 | some .string => match x with
  | .r (.v (.string s)) => some ⟨[], .r (.v (.int .i64 (s.size : Int))), []⟩
  | _ => none
 | some (.slice _) => match x with
  | .own nm ver => match wP bl nm ver with
   | some (.row _ _ l) => some ⟨[], .r (.v (.int .i64 (l.length : Int))), []⟩
   | _ => none
  | .r (.ro _ l) => some ⟨[], .r (.v (.int .i64 (l.length : Int))), []⟩
  | .r (.v (.slice none 0 0)) => some ⟨[], .r (.v (.int .i64 0)), []⟩
  | .sub nm ver _ _ n => match wP bl nm ver with
   | some _ => some ⟨[], .r (.v (.int .i64 (n : Int))), []⟩
   | none => none
  | _ => none
 | some (.map _ _) => match x with
  | .own nm ver => match wP bl nm ver with
   | some (.map _ _ _ l) => some ⟨[], .r (.v (.int .i64 (l.length : Int))), []⟩
   | _ => none
  | _ => none
 | some (.array n _) => some ⟨[], .r (.v (.int .i64 (n : Int))), []⟩
 | _ => none
def qx (a b : Int) : Int := if b > a then b else a
def imn (a b : Int) : Int := if b < a then b else a
def qfC (mx : Bool) : Int → List Value → Option Int
 | a, [] => some a
 | a, .int .i64 b :: t => (match mx with
  | true => qfC mx (qx a b) t
  | false => qfC mx (imn a b) t)
 | _, _ :: _ => none
def qxy (mx : Bool) : List Value → Option Int
 | .int .i64 a :: x :: y :: t => qfC mx a (x :: y :: t)
 | _ => none
def qjp (P : Program) (mx : Bool) (xs : List AV) : Option Ef := match qje xs with
 | some vs => match qxy mx vs with
  | some m => some ⟨[], .r (.v (.int .i64 m)), []⟩
  | none => match vM P (if mx then Builtin.max_ #[] 0 vs.toArray else Builtin.min_ #[] 0 vs.toArray) with
   | some v => some ⟨[], .r (.v v), []⟩
   | none => none
 | none => none
def qn7 (P : Program) (R : wT) (bl : qL) (dst : Nat) (t t2 : TypeId) (s x : AV) : Option Ef := match Wq P t with
 | some e => match R e with
  | some τ => match QH bl τ x with
   | some l2 => match zO P e with
    | some zc => bif qy t t2 && (qy τ.sz (P.cellsOf e) && (qtH 1 τ.sz && (qtH 1 (P.bytesOf e) && qy zc.length τ.sz))) then (match s with
     | .own nm ver => match wP bl nm ver with
      | some (.row t' τ' l1) => bif qy t' e then (match qC τ' τ l1 with
       | some l1 => some ⟨[(l1.length + l2.length) * P.bytesOf e ≤ 140737488355328], .own nm (ver + 1), [(nm, ver + 1, .row e τ (l1 ++ l2))]⟩
       | none => none) else none
      | _ => none
     | .r (.v (.slice none 0 0)) => some ⟨[l2.length * P.bytesOf e ≤ 140737488355328], .own dst (q7 bl dst), [(dst, q7 bl dst, .row e τ l2)]⟩
     | _ => none) else none
    | none => none
   | none => none
  | none => none
 | none => none
def qfR (P : Program) (R : wT) (bl : qL) (dst : Nat) (t : TypeId) (l c : AV) : Option Ef := match Wq P t with
 | some e => match R e with
  | some τ => match Z9 l with
   | some (_, n) => match Z9 c with
    | some (_, m) => match zO P e with
     | some z => match qfa τ z with
      | some d => bif qy τ.sz (P.cellsOf e) && qtH 1 τ.sz then
        some ⟨[0 ≤ n, n ≤ m, m * (P.bytesOf e : Int) ≤ 140737488355328, m ≤ 9223372036854775807], .own dst (q7 bl dst), [(dst, q7 bl dst, .row e τ (List.replicate n.toNat d))]⟩ else none
      | none => none
     | none => none
    | none => none
   | none => none
  | none => none
 | none => none
def VU (x : Option AV) (d : Int) : Option Int := match x with
 | none => some d
 | some a => match Z9 a with
  | some (_, n) => some n
  | none => none
def is0 : Option Int → Bool
 | some n => (match n with
  | .ofNat k => qy k 0
  | .negSucc _ => false)
 | none => false
def qsr (P : Program) (R : wT) (bl : qL) (dst : Nat) (t : TypeId) (x : AV) (lo hi mx : Option AV) : Option Ef := match mx with
 | some m => match Wq P t with
  | some e => match R e with
   | some τ => match QH bl τ x with
    | some _ => bif is0 (VU lo 0) && (is0 (VU hi 1) && (is0 (VU (some m) 1) && (P.info? e).isSome)) then some ⟨[], .own dst (q7 bl dst), [(dst, q7 bl dst, .row e τ [])]⟩ else none
    | none => none
   | none => none
  | none => none
 | none => match P.underlying t with
  | some .string => match x with
   | .r (.v (.string s)) => match VU lo 0 with
    | some l => match VU hi s.size with
     | some h => some ⟨[0 ≤ l, l ≤ h, h ≤ (s.size : Int)], .r (.v (.string (s.extract l.toNat h.toNat))), []⟩
     | none => none
    | none => none
   | _ => none
  | some (.slice e) => match x with
   | .r (.ro τ l) => match VU lo 0 with
    | some a => match VU hi l.length with
     | some b => bif qy τ.sz (P.cellsOf e) && (P.info? e).isSome then some ⟨[0 ≤ a, a ≤ b, b ≤ (l.length : Int)], .r (.ro τ ((l.drop a.toNat).take (b.toNat - a.toNat))), []⟩ else none
     | none => none
    | none => none
   | .own nm ver => match wP bl nm ver with
    | some (.row _ τ l) => match VU lo 0 with
     | some a => match VU hi l.length with
      | some b => bif qy τ.sz (P.cellsOf e) && (P.info? e).isSome then some ⟨[0 ≤ a, a ≤ b, b ≤ (l.length : Int)], .sub nm ver τ.sz a.toNat (b.toNat - a.toNat), []⟩ else none
      | none => none
     | none => none
    | _ => none
   | _ => none
  | _ => none
def qhJ (P : Program) (t : TypeId) : Option (TypeId × TypeId) := match P.underlying t with
 | some (.map k e) => some (k, e)
 | _ => none
def qkD (P : Program) (R : wT) (bl : qL) (dst : Nat) (t : TypeId) : Option Ef := match qhJ P t with
 | some (k, e) => match R k with
  | some κ => match R e with
   | some τ => match zm P e with
    | some ag => bif qIm κ && τ.flat then some ⟨[], .own dst (q7 bl dst), [(dst, q7 bl dst, .map ag κ τ [])]⟩ else none
    | none => none
   | none => none
  | none => none
 | none => none
def qr9 (P : Program) (κ : RTy) (k : TypeId) : Bool := match κ with
 | .int q => (match P.underlying k with
  | some (.int q') => q == q'
  | _ => false)
 | .bool => (match P.underlying k with
  | some .bool => true
  | _ => false)
 | .str => (match P.underlying k with
  | some .string => true
  | _ => false)
 | _ => false
def qqJ (P : Program) (κ : RTy) (k : TypeId) (x : AV) : Option κ.T := bif qr9 P κ k then qfa κ [x] else none
def YE (ag : Bool) : AV → Bool
 | .agg _ => ag
 | .r (.v (.agg _)) => ag
 | .r (.v _) => !ag
 | _ => false
def qfS (P : Program) (bl : qL) (t : TypeId) (m k x : AV) : Option Ef := match qhJ P t with
 | some (kt, et) => match m with
  | .own nm ver => match wP bl nm ver with
   | some (.map ag κ τ l) => match qqJ P κ kt k with
    | some key => match WH [] x with
     | some cs => match qfa τ cs with
      | some y => bif τ.flat && (Wc P et ag && YE ag x) then some ⟨[], .undef, [(nm, ver, .map ag κ τ (zP κ key y l))]⟩ else none
      | none => none
     | none => none
    | none => none
   | _ => none
  | _ => none
 | none => none
def qtG (P : Program) (t : TypeId) (ag : Bool) : Bool := match P.info? t with
 | some i => match i.zero with
  | some z => YE ag (.r (.v z))
  | none => false
 | none => false
def qn9 (P : Program) (bl : qL) (t : TypeId) (m k : AV) (ok : Bool) : Option Ef := match qhJ P t with
 | some (kt, et) => match m with
  | .own nm ver => match wP bl nm ver with
   | some (.map ag κ τ l) => match qqJ P κ kt k with
    | some key => match zO P et with
     | some z => match qfa τ z with
      | some d => match Xu P et (qB (qr τ ((wb κ key l).getD d))) with
       | some v => bif τ.flat && (Wc P et ag && qtG P et ag) then some ⟨[], match ok with
        | true => .tup [v, .r (.v (.bool (wb κ key l).isSome))]
        | false => v, []⟩ else none
       | none => none
      | none => none
     | none => none
    | none => none
   | _ => none
  | _ => none
 | none => none
def evP (ev : Operand → AV) : List (Nat × Operand) → List (Nat × AV)
 | [] => []
 | (i, x) :: r => (i, ev x) :: evP ev r
def xop (P : Program) (R : wT) (bl : qL) (ev : Operand → AV) (dst : Nat) (o : Op) : Option Ef :=
 match o with
 | .move x => qqK (ev x)
 | .assign x => qqK (ev x)
 | .nilCheck x => qpq bl (ev x)
 | .pick c x y => qxE (qJO y) c (ev c) (ev x) (ev y)
 | .alloc t => qsn P R bl dst t
 | .box t x => qFa P R bl dst t (ev x)
 | .build t ps => qso P bl t (evP ev ps.toList)
 | .buildSlice t n ps => qdz P R bl dst t n (evP ev ps.toList)
 | .load t a => qxD P bl t (ev a)
 | .store t a x => qss P bl t (ev a) (ev x)
 | .fieldAddr s x f => qfP P bl s (ev x) f
 | .field s x f => qsp P s (ev x) f
 | .indexAddr t x i => qfQ P bl t (ev x) (ev i)
 | .index t x i => qsq P t (ev x) (ev i)
 | .extract x i => qkC (ev x) i
 | .makeFunc f fs cs => qhO f (fs.toList.map ev) (cs.toList.map ev)
 | .binOp op t x y _ => qE9 P R bl op t (ev x) (ev y)
 | .unOp op _ x => oUn P op (ev x)
 | .convert s d x => qkB P bl s d (ev x)
 | .slice t x lo hi mx => qsr P R bl dst t (ev x) (lo.map ev) (hi.map ev) (mx.map ev)
 | .makeSlice t l c => qfR P R bl dst t (ev l) (ev c)
 | .makeMap t r => match r with
  | none => qkD P R bl dst t
  | some _ => none
 | .mapUpdate t m k x => qfS P bl t (ev m) (ev k) (ev x)
 | .lookup t m k ok => qn9 P bl t (ev m) (ev k) ok
 | .call c => match c.callee with
  | .builtin .len => match c.args.toList, c.argTypes.toList with
   | [x], [t] => qFb P bl t (ev x)
   | _, _ => none
  | .builtin .min => qjp P false (c.args.toList.map ev)
  | .builtin .max => qjp P true (c.args.toList.map ev)
  | .builtin .append => match c.args.toList, c.argTypes.toList with
   | [s, x], [t, t2] => qn7 P R bl dst t t2 (ev s) (ev x)
   | _, _ => none
  | _ => none
 | _ => none
end Go.AM
namespace Go.AM
open Go
def wo (n : Nat) : List Nat → Bool
 | [] => false
 | m :: l => qy m n || wo n l
def qdu (n : Nat) : List Nat → Option Nat
 | [] => none
 | m :: l => bif qy m n then some 0 else (match qdu n l with
  | some j => some (j + 1)
  | none => none)
def trL (g : AV → AV) : List AV → List AV
 | [] => []
 | x :: l => g x :: trL g l
def tr0 (g : AV → AV) : AV → AV
 | .r x => .r x
 | .own n v => g (.own n v)
 | .ptr n v o => g (.ptr n v o)
 | .elt n v s i o => g (.elt n v s i o)
 | .sub n v s lo k => g (.sub n v s lo k)
 | .rel τ l i o => .rel τ l i o
 | _ => .undef
def trF (g : AV → AV) : AV → AV
 | .fn f a c => .fn f (trL (tr0 g) a) (trL (tr0 g) c)
 | x => tr0 g x
def tr1 (g : AV → AV) : AV → AV
 | .agg l => .agg (trL (trF g) l)
 | .fn f a c => .fn f (trL (tr0 g) a) (trL (tr0 g) c)
 | x => tr0 g x
def tr2 (g : AV → AV) : AV → AV
 | .tup l => .tup (trL (tr1 g) l)
 | x => tr1 g x
def trB (g : AV → AV) : Blk → Blk
 | .var t cs => .var t (trL (tr1 g) cs)
 | .loop s p rc sl => .loop s p rc (trL (tr1 g) sl)
 | b => b
def zB {α : Type} (f : α → List Nat) : List α → List Nat
 | [] => []
 | x :: l => f x ++ zB f l
def vF : AV → List Nat
 | .own n _ => [n]
 | .ptr n _ _ => [n]
 | .elt n _ _ _ _ => [n]
 | .sub n _ _ _ _ => [n]
 | _ => []
def qsk : AV → List Nat
 | .fn _ a c => zB vF a ++ zB vF c
 | x => vF x
def ZF : AV → List Nat
 | .agg l => zB qsk l
 | .fn _ a c => zB vF a ++ zB vF c
 | x => vF x
def qCK : AV → List Nat
 | .tup l => zB ZF l
 | .gd _ _ x => ZF x
 | x => ZF x
def qON : Blk → List Nat
 | .var _ cs => zB ZF cs
 | .loop _ _ _ sl => zB ZF sl
 | _ => []
def Xx (bl : qL) : Nat → List Nat → List Nat → List Nat
 | 0, _, acc => acc
 | _ + 1, [], acc => acc
 | k + 1, n :: w, acc => bif wo n acc then Xx bl k w acc else match qS bl n with
  | some (_, b) => Xx bl k (qON b ++ w) (acc ++ [n])
  | none => Xx bl k w acc
structure CallRes where
 modes : List Bool
 res : AV
 bout : List (Nat × Blk)
inductive Or where
 | d (b : Bool)
 | c (cr : CallRes)
def z6 : Nat → List (Nat × Blk) → qL
 | _, [] => []
 | j, (v, b) :: r => (j, v, b) :: z6 (j + 1) r
def Z3 : List Blk → List (Nat × Blk)
 | [] => []
 | b :: r => (0, b) :: Z3 r
class GT (P : Program) where
 G : World → Prop
 keep : ∀ w w' : World, (∀ B, B < w.heap.size → w'.heap[B]? = w.heap[B]?) → G w → G w'
def Cx.Gok (cx : Cx) (P : Program) [GT P] : Prop := ∃ top : World, GT.G P top ∧ top.heap.size ≤ cx.w0.heap.size ∧ (∀ B, B < top.heap.size → cx.w0.heap[B]? = top.heap[B]?) ∧ ∀ B, cx.refs B → top.heap.size ≤ B
def CC (P : Program) [GT P] (f : FuncId) (args : List AV) (bin : List Blk) (res : AV) (bout : List (Nat × Blk)) : Prop :=
 (∃ fn c, P.funcs[f]? = some fn ∧ fn.body = some c ∧ (fn.name == "runtime.NumGoroutine") = false) ∧
 ∀ (cx : Cx) (env : Env) (vs : Array Value), cx.Wf → cx.Gok P → (∀ n, ¬ cx.hid n) → (∀ nm h, cx.ent nm = some h ↔ env nm = some (0, h)) → Mem cx (z6 0 (Z3 bin)) cx.w0 env →
  vs.size = args.length → (∀ i, i < args.length → Rep cx.w0 (qn cx env cx.w0) env (vs.getD i Go.undef) (args.getD i .undef)) →
  Calls P f vs cx.w0 fun e w' => ∃ v env', e = .returned v ∧ Mem cx (z6 0 bout) w' env' ∧ Rep w' (qn cx env' w') env' v res
def qlP (P : Program) (l : Nat) (f : FuncId) (tmps : Array Value) (assign body : Code) (w : World) (Q : Value → World → Prop) : Prop :=
 ∀ (c : Frame) (cs : List Frame), ∃ v w', Q v w' ∧ Steps P (lone (Frame.round l f tmps assign body .normal) (c :: cs) w) (lone (c.finish v) cs w')
def YC (P : Program) [GT P] (args : List AV) (bin : List Blk) (res : AV) (bout : List (Nat × Blk)) : Prop :=
 ∀ (cx : Cx) (env : Env) (vs : Array Value) (l : Nat) (r : Loop), cx.Wf → cx.Gok P → (∀ n, ¬ cx.hid n) → (∀ nm h, cx.ent nm = some h ↔ env nm = some (0, h)) → Mem cx (z6 0 (Z3 bin)) cx.w0 env →
  env 0 = some (0, .func (.yield l) #[] #[]) → cx.w0.heap[l]? = some (.loop r) →
  vs.size = args.length → (∀ i, i < args.length → Rep cx.w0 (qn cx env cx.w0) env (vs.getD i Go.undef) (args.getD i .undef)) →
  qlP P l r.fn ((r.params.zip vs).foldl (fun tmps (t, a) => tmps.setIfInBounds t a) r.tmps) r.assign r.body cx.w0 fun v w' => ∃ env', Mem cx (z6 0 bout) w' env' ∧ Rep w' (qn cx env' w') env' v res
def qw2 (P : Program) (R : wT) (bl : qL) (t : TypeId) (x : AV) : Option AV :=
 match P.underlying t with
 | some (.slice _) => match R t with
  | some (.list τ) => match QH bl τ x with
   | some l => some (.r (.ro τ l))
   | none => none
  | _ => none
 | some (.struct _) => match R t with
  | some τ => match (match x with
    | .r (.v (.agg vs)) => qX bl τ (zd vs.toList)
    | .agg l => qX bl τ l
    | _ => none) with
   | some y => some (.agg (qB (qr τ y)))
   | none => none
  | none => none
 | some (.array _ _) => match R t with
  | some τ => match (match x with
    | .r (.v (.agg vs)) => qX bl τ (zd vs.toList)
    | .agg l => qX bl τ l
    | _ => none) with
   | some y => some (.agg (qB (qr τ y)))
   | none => none
  | none => none
 | some _ => match x with
  | .r (.v v) => some (.r (.v v))
  | _ => none
 | none => none
def gIn (bl : qL) (ρ : List Nat) : AV → AV
 | .own nm ver => match wP bl nm ver, qdu nm ρ with
  | some _, some j => .own j 0
  | _, _ => .undef
 | .ptr nm ver o => match wP bl nm ver, qdu nm ρ with
  | some _, some j => .ptr j 0 o
  | _, _ => .undef
 | .elt nm ver s i o => match wP bl nm ver, qdu nm ρ with
  | some _, some j => .elt j 0 s i o
  | _, _ => .undef
 | .sub nm ver s lo k => match wP bl nm ver, qdu nm ρ with
  | some _, some j => .sub j 0 s lo k
  | _, _ => .undef
 | _ => .undef
def zY (P : Program) (R : wT) (bl : qL) (ρ : List Nat) : List TypeId → List Bool → List AV → Option (List AV)
 | [], [], [] => some []
 | t :: ts, m :: ms, x :: xs => match (match m with
   | true => some (tr1 (gIn bl ρ) x)
   | false => qw2 P R bl t x) with
  | some y => match zY P R bl ρ ts ms xs with
   | some r => some (y :: r)
   | none => none
  | none => none
 | _, _, _ => none
def qmK : List TypeId → List AV → List TypeId
 | t :: ts, _ :: xs => t :: qmK ts xs
 | [], _ :: xs => 0 :: qmK [] xs
 | ts, [] => ts
def VW : List Bool → List AV → List Nat
 | true :: ms, x :: xs => ZF x ++ VW ms xs
 | false :: ms, _ :: xs => VW ms xs
 | _, _ => []
def wt : List Bool → List AV → List Nat
 | false :: ms, x :: xs => ZF x ++ wt ms xs
 | true :: ms, _ :: xs => wt ms xs
 | _, _ => []
def qaG (bl : qL) (ρ : List Nat) : List Nat → Option (List Blk)
 | [] => some []
 | n :: r => match qS bl n with
  | some (_, b) => match qaG bl ρ r with
   | some l => some (trB (gIn bl ρ) b :: l)
   | none => none
  | none => none
def wN (bl : qL) (d : Nat) (ρ : List Nat) (j v : Nat) : Nat × Nat := match ρ[j]? with
 | some n => (n, match qS bl n with
  | some (c, _) => c + v
  | none => v)
 | none => (wi d (j - ρ.length), q7 bl (wi d (j - ρ.length)))
def qhu (bl : qL) (d : Nat) (ρ : List Nat) (bout : List (Nat × Blk)) : AV → AV
 | .own j v => match bout[j]? with
  | some (v', _) => bif qy v' v then .own (wN bl d ρ j v).1 (wN bl d ρ j v).2 else .undef
  | none => .undef
 | .ptr j v o => match bout[j]? with
  | some (v', _) => bif qy v' v then .ptr (wN bl d ρ j v).1 (wN bl d ρ j v).2 o else .undef
  | none => .undef
 | .elt j v s i o => match bout[j]? with
  | some (v', _) => bif qy v' v then .elt (wN bl d ρ j v).1 (wN bl d ρ j v).2 s i o else .undef
  | none => .undef
 | .sub j v s lo k => match bout[j]? with
  | some (v', _) => bif qy v' v then .sub (wN bl d ρ j v).1 (wN bl d ρ j v).2 s lo k else .undef
  | none => .undef
 | _ => .undef
def XS (bl : qL) (d : Nat) (ρ : List Nat) (bout : List (Nat × Blk)) : List (Nat × Blk) → Nat → List (Nat × Nat × Blk)
 | [], _ => []
 | (v, b) :: r, j => ((wN bl d ρ j v).1, (wN bl d ρ j v).2, trB (qhu bl d ρ bout) b) :: XS bl d ρ bout r (j + 1)
def Wa : AV → Bool
 | .r (.ro _ _) => false
 | .rel _ _ _ _ => false
 | .agg _ => false
 | .tup _ => false
 | .fn _ _ _ => false
 | _ => true
def Y9 : AV → Bool
 | .agg l => l.all Wa
 | x => Wa x
def qeq : AV → Bool
 | .tup l => l.all Y9
 | x => Y9 x
def qfB : Blk → Bool
 | .var _ cs => cs.all Wa
 | .row _ τ _ => τ.flat
 | .map _ _ _ _ => true
 | .gone => true
 | .loop _ _ _ sl => sl.all Wa
structure Dl where
 dst : Option Nat
 v : AV
 wr : List (Nat × Nat × Blk)
def qlk : List AV → Nat → AV → List AV
 | [], _, _ => []
 | x :: l, i, v => match i with
  | 0 => v :: l
  | i + 1 => x :: qlk l i v
def St.app (st : St) (d : Dl) : St :=
 {slots := match d.dst with
   | some k => qlk st.slots k d.v
   | none => st.slots
  blks := we st.blks d.wr }
def qbJ : List (Nat × Bool) → Nat → Bool → Bool
 | [], _, _ => false
 | (s', w') :: r, s, w => (qy s' s && (w' == w)) || qbJ r s w
def Ve (slots : List AV) (ctx : List (Nat × Bool)) : Operand → AV
 | .tmp t => match slots.getD t .undef with
  | .gd s w x => bif qbJ ctx s w then x else .gd s w x
  | x => x
 | .const v => .r (.v v)
 | .func f => .r (.v (.func (.func f) #[] #[]))
 | .global _ => .undef
def qe7 (slots : List AV) : Nat → Nat → Bool → List (Nat × Bool)
 | 0, s, w => [(s, w)]
 | k + 1, s, w => match slots.getD s .undef with
  | .gd s' w' _ => (s, w) :: qe7 slots k s' w'
  | _ => [(s, w)]
def qjs : Op → Bool
 | .move _ | .assign _ | .nilCheck _ | .pick .. | .load .. | .fieldAddr .. | .field .. | .indexAddr .. | .extract .. | .binOp .. | .unOp .. | .makeFunc .. | .build .. | .index .. | .lookup .. | .slice .. | .convert .. => true
 | .call c => match c.callee with
  | .builtin .len => true
  | .builtin .min => true
  | .builtin .max => true
  | _ => false
 | _ => false
def ql3 (ops : List Oper) (j : Nat) : Option Nat := match ops[j]? with
 | some o => o.dst
 | none => none
def qhy (f : Nat → Bool) (j : Nat) : Nat → List Oper → Bool
 | _, [] => false
 | i, o :: r => (match o.guard with
  | some (g, _) => qy g j && (!qjs o.op || f i)
  | none => false) || qhy f j (i + 1) r
def qjS : Nat → List Oper → Nat → Bool
 | 0, ops, j => qhy (fun _ => false) j 0 ops
 | n + 1, ops, j => qhy (qjS n ops) j 0 ops
def vw (j : Nat) (ops : List Oper) : Bool := qjS 3 ops j
def qcU : AV := .r (.v (.tuple #[]))
def qbL : AV → Bool
 | .r (.v (.tuple vs)) => qy vs.size 0
 | _ => false
def wZ : List Nat → Bool
 | [] => true
 | n :: l => !wo n l && wZ l
def VT (d : Nat) (ρ : List Nat) : Nat → Bool
 | 0 => true
 | k + 1 => !wo (wi d k) ρ && VT d ρ k
def qh4 (ρ : List Nat) (res : AV) (bout : List (Nat × Blk)) : List Nat → Bool
 | [] => true
 | l => qeq res && ((bout.all fun b => qfB b.2) && l.all fun n => !wo n ρ)
def YU (d : Nat) (ρ : List Nat) (ns : List Nat) (cr : CallRes) : Bool :=
 qh4 ρ cr.res cr.bout ns && (qtH ρ.length cr.bout.length && (qtH ρ.length 99 && (wZ ρ && (VT d ρ (cr.bout.length - ρ.length) && qtH (cr.bout.length - ρ.length) 16))))
def qa2 (P : Program) [GT P] (R : wT) (bl : qL) (d : Option Nat) (g : Nat) (as : List AV) (cr : CallRes) (ρ : List Nat) : Option (List Prop × Dl) :=
 match P.funcs.toList[g]? with
 | some fn => match zY P R bl ρ (qmK fn.params.toList as) cr.modes as with
  | some cargs => match qaG bl ρ ρ with
   | some bin => bif YU (d.getD 0) ρ (wt cr.modes as) cr then
     some ([CC P g cargs bin cr.res cr.bout], ⟨d, tr2 (qhu bl (d.getD 0) ρ cr.bout) cr.res, XS bl (d.getD 0) ρ cr.bout cr.bout 0⟩)
    else none
   | none => none
  | none => none
 | none => none
def qqN : Nat → List Bool → List Bool
 | 0, _ => []
 | _ + 1, [] => []
 | n + 1, x :: l => x :: qqN n l
def qxb : Nat → List Bool → List Bool
 | 0, l => l
 | _ + 1, [] => []
 | n + 1, _ :: l => qxb n l
def Vh : List Bool → List (Nat × Nat × Blk) → List (Nat × Nat × Blk)
 | [], wr => wr
 | _ :: _, [] => []
 | true :: ks, _ :: r => Vh ks r
 | false :: ks, x :: r => x :: Vh ks r
def Z0 (bl : qL) : List Bool → List (Nat × Nat × Blk) → Prop
 | true :: ks, (n, v, b) :: r => qS bl n = some (v, b) ∧ Z0 bl ks r
 | false :: ks, _ :: r => Z0 bl ks r
 | _, _ => True
def QL (x : Nat × Blk) : Prop := some x = some x
def WW : List (Nat × Nat × Blk) → List Nat
 | [] => []
 | (n, _, _) :: r => n :: WW r
def YV (P : Program) [GT P] (R : wT) (bl : qL) (d : Option Nat) (g : Nat) (as : List AV) (ora : List Or) : Option (List Prop × Dl × List Or) :=
 match ora with
 | .c cr :: ora' => match qxb as.length cr.modes with
  | [] => (match qa2 P R bl d g as cr (Xx bl 100 (VW cr.modes as) []) with
   | some (φ, dl) => some (φ, dl, ora')
   | none => none)
  | f :: ks => match qa2 P R bl d g as ⟨qqN as.length cr.modes, cr.res, cr.bout⟩ (Xx bl 100 (VW (qqN as.length cr.modes) as) []) with
   | some (φ, dl) => bif wZ (WW dl.wr) then some (Z0 bl (f :: ks) dl.wr :: φ, ⟨dl.dst, dl.v, Vh (f :: ks) dl.wr⟩, ora') else none
   | none => none
 | _ => none
def qgd (P : Program) [GT P] (R : wT) (bl : qL) (d : Option Nat) (nm : Nat) (rc : Rc) (as : List AV) (cr : CallRes) (ρ : List Nat) : Option (List Prop × Dl) :=
 bif qy as.length rc.ps.length && (match ρ with
  | n :: _ => qy n nm
  | [] => false) then (match zY P R bl ρ rc.tys cr.modes as with
  | some cargs => match qaG bl ρ ρ with
   | some bin => bif YU (d.getD 0) ρ (wt cr.modes as) cr then
     some ([YC P cargs bin cr.res cr.bout], ⟨d, tr2 (qhu bl (d.getD 0) ρ cr.bout) cr.res, XS bl (d.getD 0) ρ cr.bout cr.bout 0⟩)
    else none
   | none => none
  | none => none) else none
def qeX (P : Program) [GT P] (R : wT) (bl : qL) (d : Option Nat) (nm : Nat) (rc : Rc) (as : List AV) (ora : List Or) : Option (List Prop × Dl × List Or) :=
 match ora with
 | .c cr :: ora' => match qgd P R bl d nm rc as cr (Xx bl 100 (nm :: VW cr.modes as) []) with
  | some (φ, dl) => some (φ, dl, ora')
  | none => none
 | _ => none
def qqU (P : Program) [GT P] (R : wT) (st : St) (d : Option Nat) (c : Call) (ora : List Or) : Option (List Prop × Dl × List Or) :=
 match c.callee with
 | .value f => match Ve st.slots [] f with
  | .r (.v (.func (.func g) first captured)) => YV P R st.blks d g (zd first.toList ++ (c.args.toList.map (Ve st.slots []) ++ zd captured.toList)) ora
  | .fn (.func g) first captured => YV P R st.blks d g (first ++ (c.args.toList.map (Ve st.slots []) ++ captured)) ora
  | .own nm ver => match wP st.blks nm ver with
   | some (.loop _ _ rc _) => qeX P R st.blks d nm rc (c.args.toList.map (Ve st.slots [])) ora
   | _ => none
  | _ => none
 | _ => none
def qrZ : Op → Option Call
 | .call c => match c.callee with
  | .value _ => some c
  | _ => none
 | _ => none
def qE0 (slots : List AV) (s : Nat) : Option Bool := match slots.getD s .undef with
 | .r (.v (.bool b)) => some b
 | .gd _ _ (.r (.v (.bool b))) => some b
 | _ => none
def qxr (slots : List AV) : Nat → Nat → Bool → Prop → Prop
 | 0, _, _, p => p
 | k + 1, s, w, p => match slots.getD s .undef with
  | .r (.v (.bool b)) => b = w → p
  | .gd s' w' (.r (.v (.bool b))) => qxr slots k s' w' (b = w → p)
  | _ => p
def xo1 (P : Program) [GT P] (R : wT) (ops : List Oper) (i : Nat) (o : Oper) (st : St) (ora : List Or) : Option (List Prop × Dl × List Or) :=
 match qrZ o.op with
 | some c => match qqU P R st o.dst c ora with
  | some (φ, dl, ora') => bif zi dl.v then some (φ, dl, ora') else none
  | none => none
 | none => match xop P R st.blks (Ve st.slots []) (100 + o.dst.getD 0) o.op with
  | some e => bif zi e.v then (bif vw i ops then (match ora with
    | .d d :: ora' => match e.v, e.wr with
     | .r (.v (.bool b)), [] => some (e.φ ++ [b = d], ⟨o.dst, .r (.v (.bool d)), []⟩, ora')
     | _, _ => none
    | _ => none)
   else some (e.φ, ⟨o.dst, e.v, e.wr⟩, ora)) else none
  | none => none
def xo (P : Program) [GT P] (R : wT) (ops : List Oper) (i : Nat) (o : Oper) (st : St) (ora : List Or) : Option (List Prop × Dl × List Or) :=
 match o.guard with
 | none => xo1 P R ops i o st ora
 | some (j, w) => match ql3 ops j with
  | some s => match qE0 st.slots s with
   | some b => bif qjs o.op && !vw j ops then (match xop P R st.blks (Ve st.slots (qe7 st.slots 3 s w)) (100 + o.dst.getD 0) o.op with
     | some e => match e.wr with
      | [] => bif vw i ops || !zi e.v then none else some (e.φ.map (qxr st.slots 3 s w), ⟨o.dst, .gd s w e.v, []⟩, ora)
      | _ :: _ => none
     | none => none)
    else bif zi (st.slots.getD s .undef) then (match b with
     | true => match w with
      | true => xo1 P R ops i o st ora
      | false => some ([], ⟨o.dst, qcU, []⟩, ora)
     | false => match w with
      | false => xo1 P R ops i o st ora
      | true => some ([], ⟨o.dst, qcU, []⟩, ora)) else none
   | none => bif qbL (st.slots.getD s .undef) then some ([], ⟨o.dst, qcU, []⟩, ora) else none
  | none => none
def wL (ops : List Oper) (o : Oper) : List Nat := match o.guard with
 | some (j, _) => (match ql3 ops j with
  | some s => [s]
  | none => [])
 | none => []
def qnC (used : List Nat) (d : Option Nat) : Bool := match d with
 | some k => !wo k used
 | none => true
def qtE (P : Program) [GT P] (R : wT) (ops : List Oper) : List Oper → Nat → List Nat → St → List Or → Option (List Prop × St × List Or)
 | [], _, _, st, ora => some ([], st, ora)
 | o :: r, i, used, st, ora => match xo P R ops i o st ora with
  | some (φ, d, ora') => bif qnC (wL ops o ++ used) o.dst then (match qtE P R ops r (i + 1) (wL ops o ++ used) (st.app d) ora' with
   | some (φ', st', ora'') => some (φ ++ φ', st', ora'')
   | none => none) else none
  | none => none
def ung : AV → AV
 | .gd _ _ _ => .undef
 | x => bif qbL x then .undef else x
def Qz : List AV → List AV
 | [] => []
 | x :: l => ung x :: Qz l
end Go.AM
namespace Go.AM
open Go
inductive All2 {α β : Type} (R : α → β → Prop) : List α → List β → Prop
 | nil : All2 R [] []
 | cons {a b l m} (h : R a b) (t : All2 R l m) : All2 R (a :: l) (b :: m)
section
variable {α β : Type} {R : α → β → Prop}
theorem All2.length {l : List α} {m : List β} (h : All2 R l m) : l.length = m.length := by induction h <;> simp [*]
theorem All2.append {l l' : List α} {m m' : List β} (h : All2 R l m) (h' : All2 R l' m') : All2 R (l ++ l') (m ++ m') := by
 induction h with
 | nil => exact h'
 | cons h _ ih => exact .cons h ih
theorem All2.mono {R' : α → β → Prop} (hr : ∀ a b, R a b → R' a b) {l : List α} {m : List β} (h : All2 R l m) : All2 R' l m := by
 induction h with
 | nil => exact .nil
 | cons h _ ih => exact .cons (hr _ _ h) ih
theorem All2.get {l : List α} {m : List β} (h : All2 R l m) (d : α) (e : β) : ∀ i, i < m.length → R (l.getD i d) (m.getD i e) := by
 induction h with
 | nil => intro i hi; simp at hi
 | cons h _ ih =>
  intro i hi
  cases i with
  | zero => exact h
  | succ i => simpa using ih i (by simpa using hi)
theorem All2.of_get (d : α) (e : β) : ∀ {l : List α} {m : List β}, l.length = m.length → (∀ i, i < m.length → R (l.getD i d) (m.getD i e)) → All2 R l m
 | [], [], _, _ => .nil
 | a :: l, b :: m, hl, h => .cons (h 0 (by simp)) (All2.of_get d e (by simpa using hl) fun i hi => by simpa using h (i + 1) (by simpa using hi))
 | [], _ :: _, hl, _ => by simp at hl
 | _ :: _, [], hl, _ => by simp at hl
theorem All2.cut {l : List α} {m : List β} (h : All2 R l m) : ∀ (o n : Nat) {m' : List β}, cut o n m = some m' → m'.length = n ∧ o + n ≤ m.length ∧ All2 R ((l.drop o).take n) m' := by
 have take : ∀ {l : List α} {m : List β}, All2 R l m → ∀ n m', qfZ n m = some m' → m'.length = n ∧ n ≤ m.length ∧ All2 R (l.take n) m' := by
  intro l m h
  induction h with
  | nil =>
   intro n m' e
   cases n with
   | zero => simp [qfZ] at e; subst e; exact ⟨rfl, qR _, .nil⟩
   | succ n => simp [qfZ] at e
  | cons h _ ih =>
   intro n m' e
   cases n with
   | zero => simp [qfZ] at e; subst e; exact ⟨rfl, Q9 _, .nil⟩
   | succ n =>
    simp only [qfZ] at e
    split at e
    ·rename_i r hr
     obtain ⟨a, b, c⟩ := ih n r hr
     simp at e; subst e
     exact ⟨by simp [a], by simp; omega, .cons h c⟩
    ·simp at e
 induction h with
 | nil =>
  intro o n m' e
  cases o with
  | zero =>
   obtain ⟨a, b, c⟩ := take .nil n m' e
   exact ⟨a, by omega, by simpa using c⟩
  | succ o => simp [AM.cut] at e
 | cons h ht ih =>
  intro o n m' e
  cases o with
  | zero =>
   obtain ⟨a, b, c⟩ := take (.cons h ht) n m' e
   exact ⟨a, by omega, c⟩
  | succ o =>
   obtain ⟨a, b, c⟩ := ih o n e
   exact ⟨a, by simp; omega, by simpa using c⟩
theorem All2.lay {vs : List α} {ws : List β} (hv : All2 R vs ws) : ∀ (o : Nat) {l : List α} {m m' : List β}, All2 R l m → lay o ws m = some m' →
  o + ws.length ≤ m.length ∧ All2 R (l.take o ++ vs ++ l.drop (o + vs.length)) m' := by
 have z : ∀ {vs : List α} {ws : List β}, All2 R vs ws → ∀ {l : List α} {m m' : List β}, All2 R l m → AM.lay 0 ws m = some m' → ws.length ≤ m.length ∧ All2 R (vs ++ l.drop vs.length) m' := by
  intro vs ws hv
  induction hv with
  | nil =>
   intro l m m' h e
   have : m' = m := by cases m <;> simp [AM.lay] at e <;> first | exact e.symm | exact e
   subst this
   exact ⟨Q9 _, by simpa using h⟩
  | cons h _ ih =>
   intro l m m' hl e
   cases hl with
   | nil => simp [AM.lay] at e
   | cons h2 t2 =>
    simp only [AM.lay] at e
    split at e
    ·rename_i r hr
     obtain ⟨a, b⟩ := ih t2 hr
     simp at e; subst e
     exact ⟨by simp; omega, .cons h (by simpa using b)⟩
    ·simp at e
 intro o
 induction o with
 | zero =>
  intro l m m' h e
  obtain ⟨a, b⟩ := z hv h e
  exact ⟨by omega, by simpa using b⟩
 | succ o ih =>
  intro l m m' h e
  cases h with
  | nil => simp [AM.lay] at e
  | cons h2 t2 =>
   simp only [AM.lay] at e
   split at e
   ·rename_i r hr
    obtain ⟨a, b⟩ := ih t2 hr
    simp at e; subst e
    refine ⟨by simp; omega, ?_⟩
    have : o + 1 + vs.length = (o + vs.length) + 1 := by omega
    rw [this]
    exact .cons h2 (by simpa using b)
   ·simp at e
end
section
variable {w : World} {ok : Nat → Prop} {env : Env}
abbrev Rp (w : World) (ok : Nat → Prop) (env : Env) : List Value → List AV → Prop := All2 (Rep w ok env)
theorem zM {u : Value} {l : List AV} (h : Rep w ok env u (.agg l)) : ∃ vs : Array Value, u = .agg vs ∧ Rp w ok env vs.toList l := by
 cases h with
 | agg vs _ hs h => exact ⟨vs, rfl, All2.of_get Go.undef .undef (by simpa using hs) fun i hi => by simpa using h i hi⟩
theorem qj6 {u : Value} {l : List AV} (h : Rep w ok env u (.tup l)) : ∃ vs : Array Value, u = .tuple vs ∧ Rp w ok env vs.toList l := by
 cases h with
 | tup vs _ hs h => exact ⟨vs, rfl, All2.of_get Go.undef .undef (by simpa using hs) fun i hi => by simpa using h i hi⟩
theorem Wg {vs : List Value} {l : List AV} (h : Rp w ok env vs l) : Rep w ok env (.agg vs.toArray) (.agg l) :=
 .agg _ _ (by simpa using h.length) fun i hi => by simpa using h.get Go.undef .undef i hi
theorem qol {vs : List Value} {l : List AV} (h : Rp w ok env vs l) : Rep w ok env (.tuple vs.toArray) (.tup l) :=
 .tup _ _ (by simpa using h.length) fun i hi => by simpa using h.get Go.undef .undef i hi
theorem qN {u x : Value} (h : Rep w ok env u (.r (.v x))) : u = x := by
 cases h with
 | r h => cases h with
  | v => rfl
theorem wn (x : Value) : Rep w ok env x (.r (.v x)) := .r (.v x)
theorem Qn {us : List Value} {rs : List RV} (h : All2 (RepR w ok) us rs) : Rp w ok env us (qB rs) := by
 induction h with
 | nil => exact .nil
 | cons h _ ih => exact .cons (.r h) ih
theorem zQ : ∀ (vs : List Value), Rp w ok env vs (zd vs)
 | [] => .nil
 | x :: l => .cons (wn x) (zQ l)
theorem qfW : ∀ {us : List Value} {l : List AV} {vs : List Value}, Rp w ok env us l → qje l = some vs → us = vs
 | _, _, _, .nil, h => by simp [qje] at h; exact h.symm
 | _, a :: l, vs, .cons h t, e => by
  simp only [qje] at e
  split at e
  ·rename_i x hx
   split at e
   ·rename_i r hr
    simp at e; subst e
    have := qfW t hr
    subst this
    cases a with
    | r y => cases y <;> simp [qcH] at hx; subst hx; rw [qN h]
    | _ => simp [qcH] at hx
   ·simp at e
  ·simp at e
theorem qFj {u x : Value} {a : AV} (h : Rep w ok env u a) (e : flat a = some x) : u = x := by
 cases a with
 | r y => cases y <;> simp [flat] at e; subst e; exact qN h
 | agg l =>
  simp only [flat] at e
  split at e
  ·rename_i r hr
   simp at e; subst e
   obtain ⟨vs, rfl, hvs⟩ := zM h
   rw [← qfW hvs hr]
  ·simp at e
 | _ => simp [flat] at e
theorem qlj : ∀ {us : List Value} {l : List AV} {vs : List Value}, Rp w ok env us l → qjd l = some vs → us = vs
 | _, _, _, .nil, h => by simp [qjd] at h; exact h.symm
 | _, a :: l, vs, .cons h t, e => by
  simp only [qjd] at e
  split at e
  ·rename_i x hx
   split at e
   ·rename_i r hr
    simp at e; subst e
    rw [qlj t hr, qFj h hx]
   ·simp at e
  ·simp at e
theorem qpv {u x : Value} {a : AV} (h : Rep w ok env u a) (e : qcH a = some x) : u = x := by
 cases a with
 | r y => cases y <;> simp [qcH] at e; subst e; exact qN h
 | _ => simp [qcH] at e
theorem WY {α : Type} (P : Program) (s : Sem α) (a : α) (h : vM P s = some a) (w : World) : s.run P w = .ok a w := by
 induction s with
 | pure x => simp [vM] at h; subst h; rfl
 | program k ih => simp only [vM] at h; simp only [Sem.run]; exact ih P h
 | mark m k ih => simp only [vM] at h; simp only [Sem.run]; exact ih h
 | _ => simp [vM] at h
theorem We {α : Type} (g : Nat → α) (n k : Nat) (d : α) (h : k < n) : ((List.range n).map g).getD k d = g k := by simp [h]
theorem qaQ {τ : RTy} {l : List τ.T} {B o cap n : Nat} (h : RepR w ok (.slice (some ⟨B, o, none⟩) n cap) (.ro τ l)) :
  ∃ us : List Value, us.length = l.length * τ.sz ∧ (∀ k, k < l.length * τ.sz → w.cell? ⟨B, o + k, none⟩ = some (us.getD k Go.undef)) ∧ All2 (RepR w ok) us (wD τ l) := by
 cases h with
 | nil => exact ⟨[], by simp, fun k hk => by simp at hk, .nil⟩
 | ro _ _ _ _ _ g hB hcap hc hr =>
  refine ⟨(List.range (l.length * τ.sz)).map g, by simp, fun k hk => ?_, All2.of_get Go.undef .undef (by simp [wF]) fun k hk => ?_⟩
  ·rw [We _ _ _ _ hk]; exact hc k hk
  ·rw [wF] at hk
   rw [We _ _ _ _ hk]; exact hr k hk
theorem qli {us : List Value} {τ : RTy} {l : List τ.T} (h : ∀ k, k < l.length * τ.sz → RepR w ok (us.getD k Go.undef) ((wD τ l).getD k .undef)) (i : Nat) (hi : i < l.length) :
  All2 (RepR w ok) ((List.range τ.sz).map fun j => us.getD (i * τ.sz + j) Go.undef) (Va τ l i) :=
 All2.of_get Go.undef .undef (by simp [Va, wW]) fun j hj => by
  have hj' : j < τ.sz := by simpa [Va, wW] using hj
  have hlt : i * τ.sz + j < l.length * τ.sz := by
   have : (i + 1) * τ.sz ≤ l.length * τ.sz := v7 _ (by omega)
   rw [W9] at this; omega
  rw [We _ _ _ _ hj', ← XY τ .undef l i j hi hj']
  exact h _ hlt
theorem qCZ {τ : RTy} {l : List τ.T} {B o : Nat} {cap : Nat} {n : Nat} (h : RepR w ok (.slice (some ⟨B, o, none⟩) n cap) (.ro τ l)) (i : Nat) (hi : i < l.length) :
  ∃ us : List Value, us.length = τ.sz ∧ (∀ j, j < τ.sz → w.cell? ⟨B, o + (i * τ.sz + j), none⟩ = some (us.getD j Go.undef)) ∧ All2 (RepR w ok) us (Va τ l i) := by
 obtain ⟨us, h1, h2, h3⟩ := qaQ h
 refine ⟨_, by simp, fun j hj => ?_, qli (us := us) (fun k hk => h3.get Go.undef .undef k (by rw [wF]; exact hk)) i hi⟩
 have hlt : i * τ.sz + j < l.length * τ.sz := by
  have : (i + 1) * τ.sz ≤ l.length * τ.sz := v7 _ (by omega)
  rw [W9] at this; omega
 rw [We _ _ _ _ hj]
 exact h2 _ hlt
theorem qZ {bl : qL} {nm ver : Nat} {b : Blk} (h : wP bl nm ver = some b) : qS bl nm = some (ver, b) := by
 unfold wP at h
 split at h
 ·rename_i v' b' e
  cases hb : qy v' ver <;> simp [hb] at h
  subst h
  rw [e, qk hb]
 ·simp at h
theorem wu {nm ver : Nat} {Q : Value → Prop} {h : Value} (hr : Ref env nm ver Q) (he : env nm = some (ver, h)) : Q h := by
 obtain ⟨cv, x, h1, _, h3⟩ := hr
 rw [he] at h1
 simp at h1
 obtain ⟨rfl, rfl⟩ := h1
 exact h3 rfl
theorem qmP {cx : Cx} {bl : qL} (hm : Mem cx bl w env) {v : Value} {a : AV} (h : Rep w (qn cx env w) env v a) {k : Nat} {cs : List AV} (e : ZH bl a k = some cs) :
  ∃ B o us, v = .pointer (some ⟨B, o, none⟩) ∧ us.length = k ∧ (∀ j, j < k → w.cell? ⟨B, o + j, none⟩ = some (us.getD j Go.undef)) ∧ Rp w (qn cx env w) env us cs := by
 cases a with
 | ptr nm ver o =>
  simp only [ZH] at e
  split at e
  ·rename_i t cs' hc
   obtain ⟨x, hx, hb⟩ := hm.blk _ _ _ (qZ hc)
   cases h with
   | ptr hr =>
    obtain ⟨B, rfl, rfl⟩ := wu hr hx
    cases hb with
    | var _ _ vs _ hb hs hv =>
     have h2 : Rp w (qn cx env w) env vs.toList cs' := All2.of_get Go.undef .undef (by simpa using hs) fun i hi => by simpa using hv i hi
     obtain ⟨a, b, c⟩ := h2.cut o k e
     refine ⟨B, o, (vs.toList.drop o).take k, rfl, by rw [c.length, a], fun j hj => ?_, c⟩
     have hlt : o + j < vs.size := by omega
     simp [World.cell?, hb, hlt, hj, List.getElem?_drop]
  ·simp at e
 | elt nm ver sz i o =>
  simp only [ZH] at e
  split at e
  ·rename_i t τ l hc
   obtain ⟨x, hx, hb⟩ := hm.blk _ _ _ (qZ hc)
   cases hq : qy τ.sz sz <;> simp [hq] at e
   have hsz := qk hq
   subst hsz
   cases h with
   | elt hr =>
    obtain ⟨B, n, cap, rfl, hi, rfl⟩ := wu hr hx
    cases hb with
    | rowNil => simp at hi
    | row _ _ _ _ _ vs hb hcap _ _ hs hv =>
     have h2 := qli (us := vs.toList) (by simpa using hv) i hi
     have h3 := Qn (env := env) h2
     obtain ⟨a, b, c⟩ := h3.cut o k e
     have hb' : o + k ≤ τ.sz := by
      have := h3.length
      simp at this
      omega
     refine ⟨B, i * τ.sz + o, _, rfl, by rw [c.length, a], fun j hj => ?_, c⟩
     have hlt : i * τ.sz + o + j < vs.size := by
      rw [hs]
      have : (i + 1) * τ.sz ≤ cap * τ.sz := v7 _ (by omega)
      rw [W9] at this
      omega
     have hoj : o + j < τ.sz := by omega
     simp [World.cell?, hb, hj, List.getElem?_drop, hoj, Nat.add_assoc]
     have hlt' : i * τ.sz + (o + j) < vs.size := by omega
     simp [hlt']
  ·rename_i t cs' hc
   obtain ⟨x, hx, hb⟩ := hm.blk _ _ _ (qZ hc)
   cases hq : qy sz 1
   ·rw [hq] at e; cases e
   rw [hq, qj] at e
   have hsz := qk hq
   subst hsz
   cases h with
   | elt hr =>
    obtain ⟨B, n, cap, rfl, hi, rfl⟩ := wu hr hx
    cases hb with
    | varS _ _ vs _ hb h0 hmx hs hv =>
     have h2 : Rp w (qn cx env w) env vs.toList cs' := All2.of_get Go.undef .undef (by simpa using hs) fun i hi => by simpa using hv i hi
     obtain ⟨a, b, c⟩ := h2.cut (i + o) k e
     refine ⟨B, i * 1 + o, (vs.toList.drop (i + o)).take k, rfl, by rw [c.length, a], fun j hj => ?_, c⟩
     have hlt : i + o + j < vs.size := by omega
     simp [World.cell?, hb, hlt, hj, List.getElem?_drop]
  ·simp at e
 | rel τ l i o =>
  simp only [ZH] at e
  cases h with
  | rel _ _ _ _ B b cap hi h =>
   obtain ⟨us, h1, h2, h3⟩ := qCZ h i hi
   have h3 := Qn (env := env) h3
   obtain ⟨a, c, d⟩ := h3.cut o k e
   have hb' : o + k ≤ τ.sz := by
    have := h3.length
    omega
   refine ⟨B, b + (i * τ.sz + o), _, rfl, by rw [d.length, a], fun j hj => ?_, d⟩
   have hoj : o + j < τ.sz := by omega
   have := h2 (o + j) hoj
   rw [show b + (i * τ.sz + o) + j = b + (i * τ.sz + (o + j)) by omega, this]
   simp [hj, List.getElem?_drop]
 | _ => simp [ZH] at e
end
end Go.AM
namespace Go.AM
open Go
def Env.put (env : Env) (nm ver : Nat) (h : Value) : Env := fun n => if n = nm then some (ver, h) else env n
structure Upd0 (w : World) (env : Env) (nm ver : Nat) (h : Value) (w' : World) : Prop where
 hv : (env nm = none ∧ 100 ≤ nm) ∨ ∃ cv h0, env nm = some (cv, h0) ∧ (cv < ver ∨ (cv = ver ∧ h0 = h))
 gr : Grew w w'
 keep : ∀ B, B < w.heap.size → (∀ cv h0, env nm = some (cv, h0) → wx h0 ≠ some B) → w'.heap[B]? = w.heap[B]?
 blk : ∀ B, wx h = some B → (w.heap.size ≤ B ∧ B < w'.heap.size) ∨ ∃ cv h0, env nm = some (cv, h0) ∧ wx h0 = some B
theorem Upd0.size {w w' : World} {env : Env} {nm ver : Nat} {h : Value} (u : Upd0 w env nm ver h w') : w.heap.size ≤ w'.heap.size := u.gr.size
structure Upd (cx : Cx) (w : World) (env : Env) (nm ver : Nat) (b : Blk) (h : Value) (w' : World) : Prop extends Upd0 w env nm ver h w' where
 rep : RepB w' (qn cx (env.put nm ver h) w') (env.put nm ver h) h b
structure Trans (cx : Cx) (w : World) (env : Env) (bl' : qL) (w' : World) (env' : Env) : Prop where
 mem : Mem cx bl' w' env'
 le : env.le env'
 ok : ∀ B, qn cx env w B → qn cx env' w' B
 cell : ∀ B, qn cx env w B → w'.heap[B]? = w.heap[B]?
 far : ∀ nm, cx.hid nm → env' nm = env nm ∧ ∀ v h B, env nm = some (v, h) → wx h = some B → w'.heap[B]? = w.heap[B]?
theorem Mem.see {cx : Cx} {bl : qL} {w : World} {env : Env} (hm : Mem cx bl w env) {nm v : Nat} {b : Blk} (e : qS bl nm = some (v, b)) : ¬ cx.hid nm := fun h => by
 rw [hm.vis nm h] at e; simp at e
theorem Env.le_refl (env : Env) : env.le env := fun _ cv h e => ⟨cv, h, e, qR _, fun _ => rfl⟩
theorem Env.le_trans {a b c : Env} (h1 : a.le b) (h2 : b.le c) : a.le c := fun nm cv h e => by
 obtain ⟨cv1, h1', e1, l1, q1⟩ := h1 nm cv h e
 obtain ⟨cv2, h2', e2, l2, q2⟩ := h2 nm cv1 h1' e1
 exact ⟨cv2, h2', e2, by omega, fun q => (q1 (by omega)).trans (q2 (by omega))⟩
theorem Trans.refl {cx : Cx} {w : World} {env : Env} {bl : qL} (hm : Mem cx bl w env) : Trans cx w env bl w env := ⟨hm, Env.le_refl _, fun _ h => h, fun _ _ => rfl, fun _ _ => ⟨rfl, fun _ _ _ _ _ => rfl⟩⟩
theorem Trans.trans {cx : Cx} {w w1 w2 : World} {env env1 env2 : Env} {bl1 bl2 : qL} (h1 : Trans cx w env bl1 w1 env1) (h2 : Trans cx w1 env1 bl2 w2 env2) : Trans cx w env bl2 w2 env2 :=
 ⟨h2.mem, Env.le_trans h1.le h2.le, fun B h => h2.ok B (h1.ok B h), fun B h => (h2.cell B (h1.ok B h)).trans (h1.cell B h), fun nm hh => by
   obtain ⟨e1, c1⟩ := h1.far nm hh
   obtain ⟨e2, c2⟩ := h2.far nm hh
   exact ⟨e2.trans e1, fun v h B e q => (c2 v h B (e1.trans e) q).trans (c1 v h B e q)⟩⟩
theorem Trans.rep {cx : Cx} {w w' : World} {env env' : Env} {bl' : qL} (h : Trans cx w env bl' w' env') {u : Value} {x : AV} (hr : Rep w (qn cx env w) env u x) : Rep w' (qn cx env' w') env' u x :=
 hr.mono h.ok (fun B o hB => zr (h.cell B hB) o) h.le
theorem Trans.rp {cx : Cx} {w w' : World} {env env' : Env} {bl' : qL} (h : Trans cx w env bl' w' env') {us : List Value} {xs : List AV} (hr : Rp w (qn cx env w) env us xs) : Rp w' (qn cx env' w') env' us xs :=
 hr.mono fun _ _ => h.rep
theorem qmO {w w' : World} {env : Env} {nm ver : Nat} {h : Value} (u : Upd0 w env nm ver h w') : env.le (env.put nm ver h) := by
 intro n cv x e
 by_cases hn : n = nm
 ·subst hn
  rcases u.hv with ⟨h1, _⟩ | ⟨cv', h0, h1, h2⟩
  ·rw [e] at h1; simp at h1
  ·rw [e] at h1; simp at h1
   obtain ⟨rfl, rfl⟩ := h1
   exact ⟨ver, h, by simp [Env.put], by omega, fun q => by
    rcases h2 with h2 | h2
    ·omega
    ·exact h2.2⟩
 ·exact ⟨cv, x, by simp [Env.put, hn, e], qR _, fun _ => rfl⟩
theorem qh9 {cx : Cx} {w w' : World} {env : Env} {nm ver : Nat} {h : Value} (u : Upd0 w env nm ver h w') {B : Nat} (hB : qn cx env w B) : qn cx (env.put nm ver h) w' B := by
 obtain ⟨h1, h2, h3⟩ := hB
 refine ⟨h1, by have := u.size; omega, fun n v x e q => ?_⟩
 by_cases hn : n = nm
 ·subst hn
  simp [Env.put] at e
  obtain ⟨rfl, rfl⟩ := e
  rcases u.blk B q with h | ⟨cv, h0, e0, q0⟩
  ·omega
  ·exact h3 _ _ _ e0 q0
 ·simp [Env.put, hn] at e
  exact h3 _ _ _ e q
theorem qty {cx : Cx} {w w' : World} {env : Env} {nm ver : Nat} {h : Value} (u : Upd0 w env nm ver h w') {B : Nat} (hB : qn cx env w B) : w'.heap[B]? = w.heap[B]? := u.keep B hB.2.1 fun _cv _h0 e => hB.2.2 _ _ _ e
theorem qeG {cx : Cx} {w w' : World} {env : Env} {nm ver : Nat} {h : Value} (u : Upd0 w env nm ver h w') {v : Value} {x : AV} (hr : Rep w (qn cx env w) env v x) : Rep w' (qn cx (env.put nm ver h) w') (env.put nm ver h) v x :=
 hr.mono (fun _ hB => qh9 u hB) (fun _ o hB => zr (qty u hB) o) (qmO u)
theorem qln {cx : Cx} {w w' : World} {env : Env} {nm ver : Nat} {h : Value} (u : Upd0 w env nm ver h w') {v : Value} {x : RV} (hr : RepR w (qn cx env w) v x) : RepR w' (qn cx (env.put nm ver h) w') v x :=
 hr.mono (fun _ hB => qh9 u hB) (fun _ o hB => zr (qty u hB) o)
theorem Mem.lt {cx : Cx} {bl : qL} {w : World} {env : Env} (hm : Mem cx bl w env) {nm v : Nat} {h : Value} {B : Nat} (e : env nm = some (v, h)) (q : wx h = some B) : B < w.heap.size := (hm.own _ _ _ _ e q).2
theorem wM {cx : Cx} {bl : qL} {w w' : World} {env : Env} {nm ver : Nat} {b : Blk} {h : Value} (hm : Mem cx bl w env) (hh : ¬ cx.hid nm) (u : Upd cx w env nm ver b h w') :
  Trans cx w env (z7 bl nm ver b) w' (env.put nm ver h) := by
 have hcell : ∀ B, qn cx env w B → w'.heap[B]? = w.heap[B]? := fun B hB => u.keep B hB.2.1 fun cv h0 e => hB.2.2 _ _ _ e
 refine ⟨?_, qmO u.toUpd0, fun B hB => qh9 u.toUpd0 hB, hcell, fun n hn => ?_⟩
 rotate_left
 ·have hne : n ≠ nm := fun q => hh (by rw [← q]; exact hn)
  refine ⟨by simp [Env.put, hne], fun v x B e q => u.keep B (hm.lt e q) fun cv h0 e0 q0 => hne (hm.inj _ _ _ _ _ _ _ e e0 q q0)⟩
 constructor
 ·intro n v b' e
  rw [Qc] at e
  by_cases hn : n = nm
  ·subst hn
   simp at e
   obtain ⟨rfl, rfl⟩ := e
   exact ⟨h, by simp [Env.put], u.rep⟩
  ·simp [hn] at e
   obtain ⟨x, hx, hr⟩ := hm.blk n v b' e
   refine ⟨x, by simp [Env.put, hn, hx], hr.mono (fun B hB => qh9 u.toUpd0 hB) (fun B o hB => zr (hcell B hB) o) (qmO u.toUpd0) fun B q => ?_⟩
   exact u.keep B (hm.lt hx q) fun cv h0 e0 q0 => hn (hm.inj _ _ _ _ _ _ _ hx e0 q q0)
 ·intro n e hnh
  rw [Qc] at e
  by_cases hn : n = nm
  ·simp [hn] at e
  ·simp [hn] at e
   simp [Env.put, hn, hm.dom n e hnh]
 ·intro n hn
  rw [Qc, qi (fun q => hh (by rw [← q]; exact hn))]
  exact hm.vis n hn
 ·intro n n' v v' x x' B e e' q q'
  by_cases hn : n = nm
  ·subst hn
   simp [Env.put] at e
   obtain ⟨rfl, rfl⟩ := e
   by_cases hn' : n' = n
   ·exact hn'.symm
   ·simp [Env.put, hn'] at e'
    rcases u.blk B q with hf | ⟨cv, h0, e0, q0⟩
    ·have := hm.lt e' q'; omega
    ·exact hm.inj _ _ _ _ _ _ _ e0 e' q0 q'
  ·simp [Env.put, hn] at e
   by_cases hn' : n' = nm
   ·subst hn'
    simp [Env.put] at e'
    obtain ⟨rfl, rfl⟩ := e'
    rcases u.blk B q' with hf | ⟨cv, h0, e0, q0⟩
    ·have := hm.lt e q; omega
    ·exact hm.inj _ _ _ _ _ _ _ e e0 q q0
   ·simp [Env.put, hn'] at e'
    exact hm.inj _ _ _ _ _ _ _ e e' q q'
 ·intro n v x B e q
  by_cases hn : n = nm
  ·subst hn
   simp [Env.put] at e
   obtain ⟨rfl, rfl⟩ := e
   rcases u.blk B q with hf | ⟨cv, h0, e0, q0⟩
   ·exact ⟨.inl (by have := hm.grow; omega), hf.2⟩
   ·obtain ⟨a, c⟩ := hm.own _ _ _ _ e0 q0
    exact ⟨a, by have := u.size; omega⟩
  ·simp [Env.put, hn] at e
   obtain ⟨a, c⟩ := hm.own _ _ _ _ e q
   exact ⟨a, by have := u.size; omega⟩
 ·exact hm.gr.trans u.gr
 ·intro B hB hr
  rw [← hm.frame B hB hr]
  refine u.keep B (by have := hm.grow; omega) fun cv h0 e q => ?_
  rcases (hm.own _ _ _ _ e q).1 with h1 | h1
  ·omega
  ·obtain ⟨h0, e0, q0⟩ := h1
   exact hr ⟨_, h0, e0, q0⟩
 ·intro n x x0 e e0
  by_cases hn : n = nm
  ·subst hn
   simp [Env.put] at e
   obtain ⟨rfl, rfl⟩ := e
   obtain ⟨hlt, v1, h1, e1⟩ := hm.ents _ _ e0
   rcases u.hv with ⟨h2, h3⟩ | ⟨cv, h2, e2, h3⟩
   ·omega
   ·rw [e1] at e2; simp at e2
    obtain ⟨rfl, rfl⟩ := e2
    rcases h3 with h3 | ⟨h3, rfl⟩
    ·omega
    ·subst h3; exact hm.vers _ _ _ e1 e0
  ·simp [Env.put, hn] at e
   exact hm.vers _ _ _ e e0
 ·intro n x0 e0
  obtain ⟨h1, v, x, h2⟩ := hm.ents _ _ e0
  refine ⟨h1, ?_⟩
  by_cases hn : n = nm
  ·exact ⟨ver, h, by simp [Env.put, hn]⟩
  ·exact ⟨v, x, by simp [Env.put, hn, h2]⟩
theorem qEX {cx : Cx} {bl : qL} {w : World} {env : Env} (hm : Mem cx bl w env) {nm ver : Nat} {b : Blk} (e : qS bl nm = some (ver, b)) :
  Trans cx w env (z7 bl nm (ver + 1) .gone) w (env.put nm (ver + 1) .nilFunc) := by
 obtain ⟨h, eh, _⟩ := hm.blk _ _ _ e
 exact wM hm (hm.see e) ⟨⟨.inr ⟨ver, h, eh, .inl (by omega)⟩, Grew.refl _, fun _ _ _ => rfl, fun B q => by simp [wx] at q⟩, .gone⟩
end Go.AM
namespace Go.AM
open Go
theorem qnN (bl : qL) (nm v : Nat) (b : Blk) : qS (z7 bl nm v b) nm = some (v, b) := by rw [Qc]; simp
structure Given (cx : Cx) (w : World) (env env' : Env) (z : List (Nat × Nat)) : Prop where
 ok : ∀ B, qn cx env w B → qn cx env' w B
 alt : ∀ n, env' n = env n ∨ ∃ v, (n, v) ∈ z ∧ env' n = some (v + 1, .nilFunc)
 all : ∀ p ∈ z, env' p.1 = some (p.2 + 1, .nilFunc)
theorem qrU {cx : Cx} {w : World} (bl0 : qL) : ∀ (z : List (Nat × Nat)) (bl : qL) (env : Env), Mem cx bl w env →
  (∀ p ∈ z, (∃ b, qS bl0 p.1 = some (p.2, b)) ∧ (qS bl p.1 = qS bl0 p.1 ∨ qS bl p.1 = some (p.2 + 1, .gone))) →
  ∃ env', Trans cx w env (we bl (vE z)) w env' ∧ (∀ n, env' n = env n ∨ ∃ v, (n, v) ∈ z ∧ env' n = some (v + 1, .nilFunc)) ∧ ∀ p ∈ z, env' p.1 = some (p.2 + 1, .nilFunc)
 | [], bl, env, hm, _ => ⟨env, .refl hm, fun _ => .inl rfl, fun p hp => by simp at hp⟩
 | (n, v) :: z, bl, env, hm, hz => by
  obtain ⟨⟨b0, hb0⟩, hg⟩ := hz (n, v) (by simp)
  simp only at hb0 hg
  have step : Trans cx w env (z7 bl n (v + 1) .gone) w (env.put n (v + 1) .nilFunc) := by
   rcases hg with hb | hb
   ·rw [hb0] at hb; exact qEX hm hb
   ·obtain ⟨h, eh, hr⟩ := hm.blk _ _ _ hb
    cases hr
    exact wM hm (hm.see hb) ⟨⟨.inr ⟨v + 1, _, eh, .inr ⟨rfl, rfl⟩⟩, Grew.refl _, fun _ _ _ => rfl, fun B q => by simp [wx] at q⟩, .gone⟩
  obtain ⟨env', h1, h2, h3⟩ := qrU bl0 z (z7 bl n (v + 1) .gone) (env.put n (v + 1) .nilFunc) step.mem (fun p hp => by
   obtain ⟨⟨b, hb⟩, c⟩ := hz p (by simp [hp])
   refine ⟨⟨b, hb⟩, ?_⟩
   rw [Qc]
   by_cases hn : p.1 = n
   ·right
    rw [hn, hb0] at hb
    simp at hb
    simp [hn, hb.1]
   ·simp [hn, c])
  refine ⟨env', step.trans h1, fun m => ?_, fun p hp => ?_⟩
  ·rcases h2 m with e | ⟨v', hv', e⟩
   ·by_cases hm : m = n
    ·subst hm
     refine .inr ⟨v, by simp, ?_⟩
     rw [e]; simp [Env.put]
    ·left; rw [e]; simp [Env.put, hm]
   ·exact .inr ⟨v', by simp [hv'], e⟩
  ·rcases qK.1 hp with e | hp
   ·subst e
    rcases h2 n with e | ⟨v', hv', e⟩
    ·show env' n = _
     rw [e]; simp [Env.put]
    ·obtain ⟨⟨b', hb'⟩, _⟩ := hz (n, v') (by simp [hv'])
     rw [hb0] at hb'
     simp at hb'
     show env' n = _
     rw [e, hb'.1]
   ·exact h3 p hp
end Go.AM
namespace Go.AM
open Go
section
variable {P : Program} {R : wT} {cx : Cx} {bl : qL} {w : World} {env : Env}
def VOk (P : Program) (cx : Cx) (bl : qL) (w : World) (env : Env) (s : Sem Value) (e : Ef) : Prop :=
 ∃ u w' env', s.run P w = .ok u w' ∧ Trans cx w env (we bl e.wr) w' env' ∧ Rep w' (qn cx env' w') env' u e.v
def UOk (P : Program) (cx : Cx) (bl : qL) (w : World) (env : Env) (s : Sem Unit) (e : Ef) : Prop :=
 ∃ w' env', s.run P w = .ok () w' ∧ Trans cx w env (we bl e.wr) w' env' ∧ e.v = .undef
theorem VOk.still (hm : Mem cx bl w env) {s : Sem Value} {u : Value} {φ : List Prop} {v : AV} (h : s.run P w = .ok u w) (hr : Rep w (qn cx env w) env u v) : VOk P cx bl w env s ⟨φ, v, []⟩ :=
 ⟨u, w, env, h, .refl hm, hr⟩
theorem qpV {t : TypeId} {d : TypeDesc} (h : P.underlying t = some d) : ∃ i, P.info? t = some i := by
 unfold Program.underlying at h
 split at h
 ·rename_i he; exact ⟨_, he⟩
 ·rename_i i _ he; exact ⟨_, he⟩
 ·simp at h
theorem w5 {t : TypeId} {i : TypeInfo} (h : P.info? t = some i) (w : World) : (sizeOf t).run P w = .ok (P.cellsOf t) w := by
 simp [sizeOf, typeInfo, h, Program.cellsOf]
theorem qb6 {t : TypeId} {d : TypeDesc} (h : P.underlying t = some d) (w : World) : (sizeOf t).run P w = .ok (P.cellsOf t) w := by
 obtain ⟨i, hi⟩ := qpV h
 exact w5 hi w
theorem WB {t : TypeId} {b : Bool} (h : zm P t = some b) (w : World) : (isAgg t).run P w = .ok b w := by
 unfold zm at h
 unfold isAgg
 split at h
 ·rename_i hu; simp at h; subst h; simp [run_underlying hu]
 ·rename_i hu; simp at h; subst h; simp [run_underlying hu]
 ·rename_i d h1 h2 hu
  simp at h; subst h
  simp only [Sem.run_bind, run_underlying hu, Result.andThen_ok]
  cases d <;> simp_all
 ·simp at h
theorem Yr {t : TypeId} {b : Bool} (h : zm P t = some b) : ∃ d, P.underlying t = some d := by
 unfold zm at h
 split at h
 ·exact ⟨_, by assumption⟩
 ·exact ⟨_, by assumption⟩
 ·exact ⟨_, by assumption⟩
 ·simp at h
theorem QT (B o n : Nat) : (⟨B, o, none⟩ : Addr).add n = ⟨B, o + n, none⟩ := by unfold Addr.add; split <;> simp_all
theorem qDd {B o n : Nat} {us : List Value} (hl : us.length = n) (h : ∀ j, j < n → w.cell? ⟨B, o + j, none⟩ = some (us.getD j Go.undef)) : (loadCells ⟨B, o, none⟩ n).run P w = .ok us.toArray w := by
 subst hl
 refine run_loadCells_list (P := P) w ⟨B, o, none⟩ us fun j v hv => ?_
 obtain ⟨hj, hv⟩ := List.getElem?_eq_some_iff.1 hv
 rw [QT, h j hj]
 simp [hj, hv]
theorem qh2 {t : TypeId} {B o : Nat} {us : List Value} {cs : List AV} {v : AV} (hl : us.length = P.cellsOf t) (h : ∀ j, j < P.cellsOf t → w.cell? ⟨B, o + j, none⟩ = some (us.getD j Go.undef))
  (hr : Rp w (qn cx env w) env us cs) (hv : Xu P t cs = some v) : ∃ u, (loadVar t ⟨B, o, none⟩).run P w = .ok u w ∧ Rep w (qn cx env w) env u v := by
 unfold Xu at hv
 split at hv
 ·rename_i ha
  simp at hv; subst hv
  obtain ⟨d, hd⟩ := Yr ha
  refine ⟨.agg us.toArray, ?_, Wg hr⟩
  simp [loadVar, WB ha, qb6 hd, qDd hl h]
 ·rename_i ha
  split at hv
  ·rename_i c
   simp at hv; subst hv
   cases hr with
   | cons h1 t1 =>
    cases t1
    rename_i u
    refine ⟨u, ?_, h1⟩
    have h0 := h 0 (by rw [← hl]; simp)
    simp at h0
    simp [loadVar, WB ha, h0]
  ·simp at hv
 ·simp at hv
theorem qmt {k : IntKind} : ∀ {cs : List AV} {ns : List Int}, qab k cs = some ns → ns.length = cs.length
 | [], ns, h => by simp [qab] at h; subst h; rfl
 | x :: r, ns, h => by
  unfold qab at h
  split at h
  ·rename_i k' n hx
   cases hb : (k' == k) <;> simp only [hb, qg, qj] at h
   ·cases h
   ·split at h
    ·rename_i l hl
     cases h
     rw [wB, wB, qmt hl]
    ·cases h
  ·cases h
theorem qms {k : IntKind} {ok : Nat → Prop} : ∀ {cs : List AV} {ns : List Int} {us : List Value}, qab k cs = some ns → Rp w ok env us cs → ∀ o, o < ns.length → us[o]? = some (.int k (ns.getD o 0))
 | [], ns, us, h, _, o, ho => by simp [qab] at h; subst h; simp at ho
 | x :: r, ns, us, h, hr, o, ho => by
  unfold qab at h
  split at h
  ·rename_i k' n hx
   cases hb : (k' == k) <;> simp only [hb, qg, qj] at h
   ·cases h
   ·have hk : k' = k := eq_of_beq hb
    subst hk
    split at h
    ·rename_i l hl
     cases h
     cases hr with
     | cons h1 h2 =>
      cases o with
      | zero =>
       have : Z9 x = some (k', n) := hx
       unfold Z9 at this
       split at this
       ·simp at this; obtain ⟨rfl, rfl⟩ := this
        rw [qN h1]; rfl
       ·simp at this
      | succ o =>
       have := qms hl h2 o (by simpa using ho)
       simpa using this
    ·cases h
  ·cases h
theorem qFm (hm : Mem cx bl w env) {v : Value} {x : AV} {t : TypeId} {e : Ef} (h : Rep w (qn cx env w) env v x) (he : qxx P bl t x = some e) (hφ : ∀ p ∈ e.φ, p) : VOk P cx bl w env (Instr.loadAt t v) e := by
 unfold qxx at he
 split at he
 ·rename_i nm ver o
  split at he
  ·rename_i t' cs hc
   split at he
   ·split at he
    ·rename_i k hu
     split at he
     ·rename_i ns hn
      cases hb : qy (P.cellsOf t) 1 <;> simp only [hb, qg, qj] at he
      ·cases he
      ·cases he
       have ho : o < ns.length := hφ _ (by simp)
       obtain ⟨y, hy, hbk⟩ := hm.blk _ _ _ (qZ hc)
       cases h with
       | ptr hr =>
        obtain ⟨B, rfl, rfl⟩ := wu hr hy
        cases hbk with
        | var _ _ vs _ hb2 hs hv =>
         have h2 : Rp w (qn cx env w) env vs.toList cs := All2.of_get Go.undef .undef (by simpa using hs) fun i hi => by simpa using hv i hi
         have hg := qms hn h2 o ho
         have hlt : o < vs.size := by rw [hs, ← qmt hn]; exact ho
         have hcell : w.cell? ⟨B, o, none⟩ = some (.int k (ns.getD o 0)) := by
          have : vs[o]? = some (.int k (ns.getD o 0)) := by simpa using hg
          simp [World.cell?, hb2, hlt]
          have h3 := Array.getElem?_eq_getElem hlt
          rw [h3] at this
          simpa using this
         have hag : zm P t = some false := by simp [zm, hu]
         exact VOk.still hm (u := .int k (ns.getD o 0)) (by simp [Instr.loadAt, Instr.sureAddr, loadVar, WB hag, hcell]) (.r (.v _))
     ·cases he
    ·cases he
   ·cases he
  ·cases he
 ·cases he
theorem qRR (hm : Mem cx bl w env) {v : Value} {x : AV} {t : TypeId} {e : Ef} (h : Rep w (qn cx env w) env v x) (he : qxD P bl t x = some e) (hφ : ∀ p ∈ e.φ, p) : VOk P cx bl w env (Instr.loadAt t v) e := by
 unfold qxD at he
 split at he
 ·rename_i e' hq
  cases he
  exact qFm hm h hq hφ
 split at he
 ·rename_i cs hcs
  split at he
  ·rename_i v' hv'
   simp at he; subst he
   obtain ⟨B, o, us, rfl, hl, hc, hr⟩ := qmP hm h hcs
   obtain ⟨u, h1, h2⟩ := qh2 (P := P) hl hc hr hv'
   exact VOk.still hm (by simp [Instr.loadAt, Instr.sureAddr, h1]) h2
  ·simp at he
 ·simp at he
theorem qLV (hm : Mem cx bl w env) {nm : Nat} (h100 : QS cx nm) (h : Value) (o : Obj) (hb : wx h = some w.heap.size) : Upd0 w env nm (q7 bl nm) h (w.alloc o) := by
 refine ⟨?_, ⟨by simp, rfl, rfl⟩, fun B hB _ => heap_alloc_old w o hB, fun B q => ?_⟩
 ·unfold q7
  cases hg : qS bl nm with
  | none => exact .inl ⟨hm.dom _ hg h100.2, h100.1⟩
  | some x =>
   obtain ⟨v, b⟩ := x
   obtain ⟨h, eh, _⟩ := hm.blk _ _ _ hg
   exact .inr ⟨v, h, eh, .inl (by simp)⟩
 ·rw [hb] at q; simp at q; subst q
  exact .inl ⟨qR _, by simp⟩
theorem qKx (hm : Mem cx bl w env) {nm : Nat} (h100 : QS cx nm) (t : TypeId) {us : List Value} {cs : List AV} (hr : Rp w (qn cx env w) env us cs) :
  Trans cx w env (z7 bl nm (q7 bl nm) (.var t cs)) (w.alloc (.cells us.toArray t)) (env.put nm (q7 bl nm) (.pointer (some ⟨w.heap.size, 0, none⟩))) := by
 have u := qLV hm h100 (.pointer (some ⟨w.heap.size, 0, none⟩)) (.cells us.toArray t) rfl
 refine wM hm h100.2 ⟨u, .var w.heap.size t us.toArray cs (heap_alloc_new w _) (by simpa using hr.length) fun i hi => ?_⟩
 have := qeG u (hr.get Go.undef .undef i hi)
 simpa using this
theorem vg (nm ver : Nat) (h : Value) (Q : Value → Prop) (hq : Q h) : Ref (env.put nm ver h) nm ver Q := ⟨ver, h, by simp [Env.put], qR _, fun _ => hq⟩
theorem qLO {t : TypeId} {cs : List AV} (h : zO P t = some cs) : ∃ z, (zeroValue t).run P w = .ok z w ∧ cs = zd z.cells.toList := by
 unfold zO at h
 split at h
 ·rename_i i hi
  split at h
  ·rename_i z hz
   simp at h
   exact ⟨z, by simp [zeroValue, typeInfo, hi, hz], h.symm⟩
  ·simp at h
 ·simp at h
theorem Wi : ∀ (a b : List (Nat × Nat × Blk)) (bl : qL), we bl (a ++ b) = we (we bl a) b
 | [], b, bl => rfl
 | (n, v, x) :: a, b, bl => by simp [we, Wi a b]
theorem QJ (hm : Mem cx bl w env) {nm : Nat} (h100 : QS cx nm) : (env nm = none ∧ 100 ≤ nm) ∨ ∃ cv h0, env nm = some (cv, h0) ∧ cv < q7 bl nm := by
 unfold q7
 cases hg : qS bl nm with
 | none => exact .inl ⟨hm.dom _ hg h100.2, h100.1⟩
 | some x =>
  obtain ⟨v, b⟩ := x
  obtain ⟨h, eh, _⟩ := hm.blk _ _ _ hg
  exact .inr ⟨v, h, eh, by simp⟩
theorem qaq {d : Nat} (hn : ∀ j, j < 16 → QS cx (wi d j)) : ∀ (cs : List AV) (ts : List TypeId) (bl : qL) (n : Nat) (env : Env) (us : List Value), Mem cx bl w env → n ≤ 16 → Rp w (qn cx env w) env us cs →
  ∃ env', Trans cx w env (we bl (Qi P R d bl n cs ts).2) w env' ∧ Rp w (qn cx env' w) env' us (Qi P R d bl n cs ts).1
 | [], ts, bl, n, env, us, hm, _, h => ⟨env, by simp only [Qi]; exact .refl hm, by simp only [Qi]; exact h⟩
 | x :: cs, [], bl, n, env, us, hm, _, h => ⟨env, by simp only [Qi]; exact .refl hm, by simp only [Qi]; exact h⟩
 | x :: cs, t :: ts, bl, 0, env, us, hm, _, h => ⟨env, by simp only [Qi]; exact .refl hm, by simp only [Qi]; exact h⟩
 | x :: cs, t :: ts, bl, n' + 1, env, us, hm, h16, h => by
  cases h with
  | cons h1 h2 =>
   rename_i u us
   simp only [Qi]
   split
   ·rename_i e τ hx
    have hu : u = .slice none 0 0 := by
     unfold qv6 at hx
     split at hx
     ·exact qN h1
     ·simp at hx
    subst hu
    have hok := hn n' (by omega)
    have u0 : Upd0 w env (wi d n') (q7 bl (wi d n')) (.slice none 0 0) w := ⟨(QJ hm hok).imp id fun ⟨cv, h0, e, l⟩ => ⟨cv, h0, e, .inl l⟩, Grew.refl _, fun _ _ _ => rfl, fun B q => by simp [wx] at q⟩
    have T1 := wM hm hok.2 ⟨u0, .rowNil e τ none⟩
    obtain ⟨env', T2, h3⟩ := qaq hn cs ts (z7 bl (wi d n') (q7 bl (wi d n')) (.row e τ [])) n' _ us T1.mem (by omega) (T1.rp h2)
    exact ⟨env', by simp only [we]; exact T1.trans T2, .cons (T2.rep (.own (vg _ _ _ _ rfl))) h3⟩
   ·obtain ⟨env', T2, h3⟩ := qaq hn cs ts bl (n' + 1) env us hm h16 h2
    exact ⟨env', T2, .cons (T2.rep h1) h3⟩
theorem qhN (hm : Mem cx bl w env) {dst : Nat} (h100 : QS cx dst) (hn : ∀ j, j < 16 → QS cx (wi (dst - 100) j)) (t : TypeId) {us : List Value} {cs : List AV} (hr : Rp w (qn cx env w) env us cs) :
  ∃ env', Trans cx w env (we bl (qhM P R bl dst t cs).wr) (w.alloc (.cells us.toArray t)) env' ∧ Rep (w.alloc (.cells us.toArray t)) (qn cx env' (w.alloc (.cells us.toArray t))) env' (.pointer (some ⟨w.heap.size, 0, none⟩)) (qhM P R bl dst t cs).v := by
 obtain ⟨env1, T1, h1⟩ := qaq (P := P) (R := R) hn cs ((qiz P 8 t).getD []) bl 16 env us hm (qR _) hr
 unfold qhM
 generalize Qi P R (dst - 100) bl 16 cs ((qiz P 8 t).getD []) = q at T1 h1
 obtain ⟨cs', wr⟩ := q
 have T2 := qKx T1.mem h100 t h1
 refine ⟨env1.put dst (q7 (we bl wr) dst) (.pointer (some ⟨w.heap.size, 0, none⟩)), ?_, .ptr (vg _ _ _ _ ⟨_, rfl, rfl⟩)⟩
 simp only [Wi]
 exact T1.trans T2
theorem qQs (hm : Mem cx bl w env) {dst : Nat} (h100 : QS cx dst) (hn : ∀ j, j < 16 → QS cx (wi (dst - 100) j)) {t : TypeId} {e : Ef} (he : qsn P R bl dst t = some e) : VOk P cx bl w env (Instr.alloc t true (.tuple #[])) e := by
 unfold qsn at he
 split at he
 ·rename_i cs hcs
  simp at he; subst he
  obtain ⟨z, hz, rfl⟩ := qLO (w := w) hcs
  obtain ⟨env', T, hr⟩ := qhN (P := P) (R := R) hm h100 hn t (zQ z.cells.toList)
  refine ⟨_, _, env', ?_, T, hr⟩
  simp [Instr.alloc, hz, newVar, newRow]
 ·simp at he
end
end Go.AM
namespace Go.AM
open Go
section
variable {P : Program} {R : wT} {cx : Cx} {bl : qL} {w : World} {env : Env}
theorem zx {α : Type} {o : Option α} (h : o.isSome = true) : ∃ x, o = some x := Option.isSome_iff_exists.1 h
theorem qbn (hm : Mem cx bl w env) {v : Value} {x : AV} (h : Rep w (qn cx env w) env v x) (hc : Qj bl x = true) : v.oneCell' = true ∧ v.cells = #[v] := by
 have handle : ∀ {nm ver : Nat}, (wP bl nm ver).isSome = true → ∃ h b, env nm = some (ver, h) ∧ RepB w (qn cx env w) env h b := fun hs => by
  obtain ⟨b, hb⟩ := zx hs
  obtain ⟨x, hx, hr⟩ := hm.blk _ _ _ (qZ hb)
  exact ⟨x, b, hx, hr⟩
 cases h with
 | undef => simp [Qj] at hc
 | r h =>
  cases h with
  | undef => simp [Qj] at hc
  | v => cases v <;> first | exact ⟨rfl, rfl⟩ | simp [Qj] at hc
  | nil => exact ⟨rfl, rfl⟩
  | ro => exact ⟨rfl, rfl⟩
 | agg => simp [Qj] at hc
 | gd => simp [Qj] at hc
 | tup => simp [Qj] at hc
 | own hr =>
  obtain ⟨x, b, hx, hb⟩ := handle hc
  have := wu hr hx
  subst this
  cases hb <;> exact ⟨rfl, rfl⟩
 | ptr hr =>
  obtain ⟨x, b, hx, hb⟩ := handle hc
  obtain ⟨B, _, rfl⟩ := wu hr hx
  exact ⟨rfl, rfl⟩
 | elt hr =>
  obtain ⟨x, b, hx, hb⟩ := handle hc
  obtain ⟨B, n, cap, _, _, rfl⟩ := wu hr hx
  exact ⟨rfl, rfl⟩
 | rel => exact ⟨rfl, rfl⟩
 | sub hr =>
  obtain ⟨x, b, hx, hb⟩ := handle hc
  rcases wu hr hx with ⟨_, a, c, rfl⟩ | ⟨B, m, cap, c', _, _, _, rfl⟩ <;> exact ⟨rfl, rfl⟩
 | fn => exact ⟨rfl, rfl⟩
theorem Zd (hm : Mem cx bl w env) {v : Value} {x : AV} {cs : List AV} (h : Rep w (qn cx env w) env v x) (hc : WH bl x = some cs) : Rp w (qn cx env w) env v.cells.toList cs := by
 unfold WH at hc
 split at hc
 ·simp at hc; subst hc
  obtain ⟨vs, rfl, hv⟩ := zM h
  exact hv
 ·simp at hc; subst hc
  rw [qN h]
  exact zQ _
 ·cases hk : Qj bl x <;> simp [hk] at hc
  subst hc
  rw [(qbn hm h hk).2]
  exact .cons h .nil
theorem qmT (hm : Mem cx bl w env) : ∀ {us : List Value} {cs : List AV}, Rp w (qn cx env w) env us cs → cs.all (Qj bl) = true → ∀ u ∈ us, u.oneCell' = true
 | _, _, .nil, _ => fun u hu => by simp at hu
 | _, _, .cons h t, hc => fun u hu => by
  simp only [List.all_cons, qh] at hc
  rcases qK.1 hu with e | hu
  ·subst e; exact (qbn hm h hc.1).1
  ·exact qmT hm t hc.2 u hu
theorem qSb (hm : Mem cx bl w env) {dst : Nat} (h100 : QS cx dst) (hn : ∀ j, j < 16 → QS cx (wi (dst - 100) j)) {t : TypeId} {v : Value} {x : AV} {e : Ef} (h : Rep w (qn cx env w) env v x) (he : qFa P R bl dst t x = some e) : VOk P cx bl w env (Instr.box t v) e := by
 unfold qFa at he
 split at he
 ·rename_i cs hcs
  simp at he; subst he
  have hr := Zd hm h hcs
  obtain ⟨env', T, hr'⟩ := qhN (P := P) (R := R) hm h100 hn t hr
  refine ⟨_, _, env', ?_, by simpa using T, by simpa using hr'⟩
  simp [Instr.box, newVar, newRow]
 ·simp at he
theorem qj1 : ∀ {fs : List Field} {pl : List (Nat × Nat)}, qbX P fs = some pl → fs.mapM (fun f => (P.info? f.type).map fun i => (f.offset, i.size)) = some pl
 | [], pl, h => by simp [qbX] at h; subst h; simp
 | f :: fs, pl, h => by
  simp only [qbX] at h
  split at h
  ·rename_i i hi
   split at h
   ·rename_i l hl
    simp at h; subst h
    simp [List.mapM_cons, hi, qj1 hl]
   ·simp at h
  ·simp at h
theorem qcI : ∀ (vs : List Value) (k o : Nat) (cells : List Value), o + k + vs.length ≤ cells.length →
  (vs.zipIdx k).foldl (fun (cs : Array Value) (p : Value × Nat) => cs.setIfInBounds (o + p.2) p.1) cells.toArray = (cells.take (o + k) ++ vs ++ cells.drop (o + k + vs.length)).toArray
 | [], k, o, cells, _ => by simp
 | v :: vs, k, o, cells, h => by
  have ih := qcI vs (k + 1) o (cells.set (o + k) v) (by simp at h ⊢; omega)
  simp only [List.zipIdx_cons, List.foldl_cons]
  have e : cells.toArray.setIfInBounds (o + k) v = (cells.set (o + k) v).toArray := by simp
  rw [e, ih]
  have := list_seg_step cells (o + k) v vs (by simp at h; omega)
  rw [show o + (k + 1) = o + k + 1 by omega]
  simpa [Nat.add_assoc, Nat.add_comm, Nat.add_left_comm] using congrArg List.toArray this
theorem qfz (hm : Mem cx bl w env) (place : Nat → Option (Nat × Nat)) : ∀ (ps : List (Nat × AV)) (qs : List (Nat × Value)) (cs r : List AV) (us : List Value), All2 (fun (q : Nat × Value) (p : Nat × AV) => q.1 = p.1 ∧ Rep w (qn cx env w) env q.2 p.2) qs ps →
  Rp w (qn cx env w) env us cs → qjb bl place ps cs = some r → ∃ out, Instr.fill place us.toArray qs = some out ∧ Rp w (qn cx env w) env out.toList r
 | [], _, cs, r, us, .nil, hu, e => by simp [qjb] at e; subst e; exact ⟨us.toArray, rfl, hu⟩
 | (i, x) :: ps, _, cs, r, us, .cons (a := q) h t, hu, e => by
  obtain ⟨j, v⟩ := q
  obtain ⟨rfl, hv⟩ := h
  simp only [qjb] at e
  split at e
  ·rename_i off n hp
   split at e
   ·rename_i vs hvs
    cases hq : qy vs.length n <;> simp [hq] at e
    have hn := qk hq
    split at e
    ·rename_i cs' hl
     have h1 := Zd hm hv hvs
     obtain ⟨h2, h3⟩ := h1.lay off hu hl
     obtain ⟨out, h4, h5⟩ := qfz hm place ps _ cs' r _ t h3 e
     refine ⟨out, ?_, h5⟩
     have hlen := h1.length
     have hul := hu.length
     simp only [Instr.fill]
     rw [hp]
     have hsz : v.cells.size = n := by rw [← hn, ← hlen]; simp
     have hle : ¬ (decide (v.cells.size ≠ n) || decide (off + v.cells.size > us.toArray.size)) = true := by
      have : v.cells.size = vs.length := by rw [← hlen]; simp
      simp [hsz]; omega
     have hf : v.cells.zipIdx.foldl (fun cs (c, j) => cs.setIfInBounds (off + j) c) us.toArray = (us.take off ++ v.cells.toList ++ us.drop (off + v.cells.toList.length)).toArray := by
      have := qcI v.cells.toList 0 off us (by rw [hlen]; omega)
      simp only [qS4] at this
      rw [← this]
      rw [← Array.foldl_toList]
      simp
     simp only
     rw [qi hle]
     first
     | (rw [hf]; exact h4)
     | (simp only [hf]; exact h4)
    ·simp at e
   ·simp at e
  ·simp at e
end
end Go.AM
namespace Go.AM
open Go
section
variable {P : Program} {R : wT} {cx : Cx} {bl : qL} {w : World} {env : Env}
theorem ZO {a b : RTy} {l : List a.T} {l' : List b.T} (h : qC a b l = some l') : ∃ e : a = b, l' = e ▸ l := by
 unfold qC at h
 split at h
 ·rename_i e; simp at h; exact ⟨e, h.symm⟩
 ·simp at h
theorem qaD {α β : Type} {Q : α → β → Prop} : ∀ {m1 m2 : List β} {l : List α}, All2 Q l (m1 ++ m2) → ∃ l1 l2, l = l1 ++ l2 ∧ All2 Q l1 m1 ∧ All2 Q l2 m2
 | [], m2, l, h => ⟨[], l, rfl, .nil, h⟩
 | b :: m1, m2, _, .cons h t => by
  obtain ⟨l1, l2, rfl, h1, h2⟩ := qaD t
  exact ⟨_ :: l1, l2, rfl, .cons h h1, h2⟩
theorem qdh {ok : Nat → Prop} : ∀ (τ : RTy) (x : τ.T) (us : List Value), All2 (RepR w ok) us (qr τ x) → ∀ u ∈ us, u.oneCell' = true
 | .int _, _, _, .cons h .nil => fun u hu => by simp at hu; subst hu; cases h; rfl
 | .bool, _, _, .cons h .nil => fun u hu => by simp at hu; subst hu; cases h; rfl
 | .str, _, _, .cons h .nil => fun u hu => by simp at hu; subst hu; cases h; rfl
 | .fn, _, _, .cons h .nil => fun u hu => by simp at hu; subst hu; cases h; rfl
 | .list _, _, _, .cons h .nil => fun u hu => by simp at hu; subst hu; cases h <;> rfl
 | .unit, _, _, .nil => fun u hu => by simp at hu
 | .pair a b, p, us, h => fun u hu => by
  obtain ⟨u1, u2, rfl, h1, h2⟩ := qaD (m1 := qr a p.1) h
  rcases zX.1 hu with hu | hu
  ·exact qdh a p.1 _ h1 u hu
  ·exact qdh b p.2 _ h2 u hu
theorem qbp {ok : Nat → Prop} (τ : RTy) : ∀ (l : List τ.T) (us : List Value), All2 (RepR w ok) us (wD τ l) → ∀ u ∈ us, u.oneCell' = true
 | [], _, .nil => fun u hu => by simp at hu
 | x :: l, us, h => fun u hu => by
  obtain ⟨u1, u2, rfl, h1, h2⟩ := qaD (m1 := qr τ x) h
  rcases zX.1 hu with hu | hu
  ·exact qdh τ x u1 h1 u hu
  ·exact qbp τ l u2 h2 u hu
theorem qg6 (τ : RTy) : ∀ (l : List τ.T) (n : Nat), wD τ (l.drop n) = (wD τ l).drop (n * τ.sz)
 | l, 0 => by simp
 | [], n + 1 => by simp [wD]
 | x :: l, n + 1 => by
  have : (n + 1) * τ.sz = (qr τ x).length + n * τ.sz := by rw [wW, W9]; omega
  simp only [List.drop_succ_cons, qg6 τ l n, wD, this]
  rw [← List.drop_drop]
  simp
theorem qg7 (τ : RTy) : ∀ (l : List τ.T) (n : Nat), wD τ (l.take n) = (wD τ l).take (n * τ.sz)
 | l, 0 => by simp [wD]
 | [], n + 1 => by simp [wD]
 | x :: l, n + 1 => by
  have : (n + 1) * τ.sz = (qr τ x).length + n * τ.sz := by rw [wW, W9]; omega
  simp only [List.take_succ_cons, wD, qg7 τ l n, this]
  rw [List.take_append, zj (l := qr τ x) (by omega)]
  simp
theorem qaO (hm : Mem cx bl w env) {u : Value} {x : AV} {τ : RTy} {l : List τ.T} (h : Rep w (qn cx env w) env u x) (e : QH bl τ x = some l) :
  ∃ A cap, u = .slice A l.length cap ∧ l.length ≤ cap ∧ ((l = []) ∨ ∃ B o, A = some ⟨B, o, none⟩) ∧
   ∃ us : List Value, us.length = l.length * τ.sz ∧ All2 (RepR w (qn cx env w)) us (wD τ l) ∧
    ∀ B o, A = some ⟨B, o, none⟩ → ∀ k, k < l.length * τ.sz → w.cell? ⟨B, o + k, none⟩ = some (us.getD k Go.undef) := by
 unfold QH at e
 split at e
 ·rename_i a' l'
  obtain ⟨rfl, rfl⟩ := ZO e
  cases h with
  | r h =>
   cases h with
   | nil _ a c => exact ⟨a, c, rfl, Q9 _, .inl rfl, [], by simp, .nil, fun _ _ _ k hk => by simp at hk⟩
   | ro _ _ B o cap g hB hcap hc hr =>
    obtain ⟨us, h1, h2, h3⟩ := qaQ (RepR.ro a' l B o cap g hB hcap hc hr)
    exact ⟨_, cap, rfl, hcap, .inr ⟨B, o, rfl⟩, us, h1, h3, fun B' o' e k hk => by simp at e; obtain ⟨rfl, rfl⟩ := e; exact h2 k hk⟩
 ·simp at e; subst e
  rw [qN h]
  exact ⟨none, 0, rfl, Q9 _, .inl rfl, [], by simp, .nil, fun _ _ _ k hk => by simp at hk⟩
 ·rename_i nm ver
  split at e
  ·rename_i t a' l' hc
   obtain ⟨rfl, rfl⟩ := ZO e
   obtain ⟨x, hx, hb⟩ := hm.blk _ _ _ (qZ hc)
   cases h with
   | own hr =>
    have := wu hr hx
    subst this
    cases hb with
    | rowNil _ _ a => exact ⟨a, 0, rfl, Q9 _, .inl rfl, [], by simp, .nil, fun _ _ _ k hk => by simp at hk⟩
    | row B _ _ _ cap vs hb hcap hc0 _ hs hv =>
     have hlen : l.length * a'.sz ≤ vs.size := by rw [hs]; exact v7 _ hcap
     refine ⟨_, cap, rfl, hcap, .inr ⟨B, 0, rfl⟩, vs.toList.take (l.length * a'.sz), by simp; omega, All2.of_get Go.undef .undef (by simp [wF]; omega) fun k hk => ?_, fun B' o' e k hk => ?_⟩
     ·rw [wF] at hk
      have := hv k hk
      simpa [List.getElem?_take, hk] using this
     ·simp at e; obtain ⟨rfl, rfl⟩ := e
      have hlt : k < vs.size := by omega
      simp [World.cell?, hb, hlt, hk]
  ·simp at e
 ·rename_i nm ver sz lo n
  split at e
  ·rename_i t a' l' hc
   cases hq : qy a'.sz sz <;> simp [hq] at e
   have := qk hq
   subst this
   obtain ⟨rfl, rfl⟩ := ZO e
   obtain ⟨x, hx, hb⟩ := hm.blk _ _ _ (qZ hc)
   cases h with
   | sub hr =>
    rcases wu hr hx with ⟨rfl, a, c, rfl⟩ | ⟨B, m, cap, c', rfl, hle, hn, rfl⟩
    ·exact ⟨a, c, by simp, by simp, .inl (by simp), [], by simp, by simpa [wD] using All2.nil, fun _ _ _ k hk => by simp at hk⟩
    ·cases hb with
     | rowNil =>
      have hn0 : n = 0 := by omega
      subst hn0
      exact ⟨some ⟨B, lo * a'.sz, none⟩, c', by simp, by simp, .inl (by simp), [], by simp, by simpa [wD] using All2.nil, fun _ _ _ k hk => by simp at hk⟩
     | row _ _ _ _ _ vs hb hcap _ _ hs hv =>
      have hln : ((l'.drop lo).take n).length = n := by simp; omega
      have hlen : l'.length * a'.sz ≤ vs.size := by rw [hs]; exact v7 _ hcap
      have hle' : lo * a'.sz + n * a'.sz ≤ l'.length * a'.sz := by rw [← W9]; exact v7 _ hle
      show ∃ A cap, Value.slice (some ⟨B, lo * a'.sz, none⟩) n c' = _ ∧ _
      refine ⟨some ⟨B, lo * a'.sz, none⟩, c', by rw [hln], by rw [hln]; exact hn, .inr ⟨B, _, rfl⟩, (vs.toList.drop (lo * a'.sz)).take (n * a'.sz), ?_, ?_, ?_⟩
      ·rw [hln]; simp; omega
      ·show All2 _ _ (wD a' ((l'.drop lo).take n))
       rw [qg7, qg6]
       refine All2.of_get Go.undef .undef (by simp [wF]; omega) fun k hk => ?_
       have hk' : k < n * a'.sz := by simp [wF] at hk; omega
       have := hv (lo * a'.sz + k) (by omega)
       simpa [List.getElem?_take, List.getElem?_drop, hk'] using this
      ·intro B' o' e k hk
       rw [hln] at hk
       simp at e; obtain ⟨rfl, rfl⟩ := e
       have hlt : lo * a'.sz + k < vs.size := by omega
       simp [World.cell?, hb, hlt, List.getElem?_drop, hk]
  ·simp at e
 ·simp at e
theorem qn3 (hm : Mem cx bl w env) {ok' : Nat → Prop} (hle : ∀ B, qn cx env w B → ok' B) {u : Value} {x : AV} {τ : RTy} {l : List τ.T} (h : Rep w (qn cx env w) env u x) (e : QH bl τ x = some l)
  (hok : ∀ nm ver, (x = .own nm ver ∨ ∃ sz lo n, x = .sub nm ver sz lo n) → ∀ h B, env nm = some (ver, h) → wx h = some B → ok' B) : RepR w ok' u (.ro τ l) := by
 obtain ⟨A, cap, rfl, hcap, hA, us, h1, h2, h3⟩ := qaO hm h e
 rcases hA with rfl | ⟨B, o, rfl⟩
 ·exact .nil _ _ _
 ·by_cases hl : l = []
  ·subst hl; exact .nil _ _ _
  ·refine .ro τ l B o cap (fun k => us.getD k Go.undef) ?_ hcap (fun k hk => h3 B o rfl k hk) fun k hk => (h2.get Go.undef .undef k (by rw [wF]; exact hk)).mono hle fun _ _ _ => rfl
   unfold QH at e
   split at e
   ·rename_i a' l'
    obtain ⟨rfl, rfl⟩ := ZO e
    have aux : ∀ {u : Value}, Rep w (qn cx env w) env u (.r (.ro a' l)) → ∀ {n}, u = .slice (some ⟨B, o, none⟩) n cap → ok' B := fun h n e => by
     cases h with
     | r h =>
      cases h with
      | nil => exact absurd rfl hl
      | ro _ _ B' o' cap' g hB => simp at e; rw [← e.1.1]; exact hle _ hB
    exact aux h rfl
   ·simp at e; exact absurd e hl
   ·rename_i nm ver
    split at e
    ·rename_i t a' l' hc
     obtain ⟨x, hx, hb⟩ := hm.blk _ _ _ (qZ hc)
     refine hok nm ver (.inl rfl) x B hx ?_
     have aux : ∀ {u : Value}, Rep w (qn cx env w) env u (.own nm ver) → ∀ {n}, u = .slice (some ⟨B, o, none⟩) n cap → wx x = some B := fun h n e => by
      cases h with
      | own hr => rw [← wu hr hx, e]; exact zT (by have := List.length_pos_iff.2 hl; omega)
     exact aux h rfl
    ·simp at e
   ·rename_i nm ver sz lo n
    split at e
    ·rename_i t a' l' hc
     obtain ⟨x, hx, hb⟩ := hm.blk _ _ _ (qZ hc)
     refine hok nm ver (.inr ⟨sz, lo, n, rfl⟩) x B hx ?_
     have aux : ∀ {u : Value}, Rep w (qn cx env w) env u (.sub nm ver sz lo n) → ∀ {m}, m ≠ 0 → u = .slice (some ⟨B, o, none⟩) m cap → wx x = some B := fun h m hm e => by
      cases h with
      | sub hr =>
       rcases wu hr hx with ⟨rfl, a, c, rfl⟩ | ⟨B', m', cap', c', rfl, hle, hn, rfl⟩
       ·simp at e; exact absurd e.2.1.symm hm
       ·simp at e; rw [← e.1.1]; exact zT (qFg hb (by omega))
     exact aux h (by simpa using hl) rfl
    ·simp at e
   ·simp at e
theorem qco {ok' : Nat → Prop} {f : (a : RTy) → AV → Option (List a.T × List (Nat × Nat))} {Z : Nat × Nat → Prop}
  (hf : ∀ a x u l z, Rep w (qn cx env w) env u x → f a x = some (l, z) → (∀ p ∈ z, Z p) → RepR w ok' u (.ro a l)) :
  ∀ (τ : RTy) (cs r : List AV) (us : List Value) (x : τ.T) (z : List (Nat × Nat)), Rp w (qn cx env w) env us cs → zb f τ cs = some (x, r, z) → (∀ p ∈ z, Z p) →
   ∃ u1 u2, us = u1 ++ u2 ∧ All2 (RepR w ok') u1 (qr τ x) ∧ Rp w (qn cx env w) env u2 r
 | .int k, cs, r, us, x, z, h, e, _ => by
  simp only [zb] at e
  split at e
  ·rename_i k' n r'
   split at e
   ·simp at e; obtain ⟨rfl, rfl, rfl⟩ := e
    rename_i hk _
    subst hk
    cases h with
    | cons h t => exact ⟨[_], _, rfl, .cons (by rw [qN h]; exact .v _) .nil, t⟩
   ·simp at e
  ·simp at e
 | .bool, cs, r, us, x, z, h, e, _ => by
  simp only [zb] at e
  split at e
  ·simp at e; obtain ⟨rfl, rfl, rfl⟩ := e
   cases h with
   | cons h t => exact ⟨[_], _, rfl, .cons (by rw [qN h]; exact .v _) .nil, t⟩
  ·simp at e
 | .str, cs, r, us, x, z, h, e, _ => by
  simp only [zb] at e
  split at e
  ·simp at e; obtain ⟨rfl, rfl, rfl⟩ := e
   cases h with
   | cons h t => exact ⟨[_], _, rfl, .cons (by rw [qN h]; exact .v _) .nil, t⟩
  ·simp at e
 | .fn, cs, r, us, x, z, h, e, _ => by
  simp only [zb] at e
  split at e
  ·simp at e; obtain ⟨rfl, rfl, rfl⟩ := e
   cases h with
   | cons h t => exact ⟨[_], _, rfl, .cons (by rw [qN h]; simp; exact .v _) .nil, t⟩
  ·simp at e
 | .unit, cs, r, us, x, z, h, e, _ => by
  simp [zb] at e; obtain ⟨rfl, rfl⟩ := e
  exact ⟨[], us, rfl, .nil, h⟩
 | .pair a b, cs, r, us, x, z, h, e, hz => by
  simp only [zb] at e
  split at e
  ·rename_i x1 r1 z1 h1
   split at e
   ·rename_i y r2 z2 h2
    simp at e; obtain ⟨rfl, rfl, rfl⟩ := e
    obtain ⟨u1, u2, rfl, a1, a2⟩ := qco hf a cs r1 us x1 z1 h h1 fun p hp => hz p (by simp [hp])
    obtain ⟨u3, u4, rfl, a3, a4⟩ := qco hf b r1 r2 u2 y z2 a2 h2 fun p hp => hz p (by simp [hp])
    exact ⟨u1 ++ u3, u4, by simp, a1.append a3, a4⟩
   ·simp at e
  ·simp at e
 | .list a, cs, r, us, x, z, h, e, hz => by
  simp only [zb] at e
  split at e
  ·rename_i y r'
   split at e
   ·rename_i l z' hl
    simp at e; obtain ⟨rfl, rfl, rfl⟩ := e
    cases h with
    | cons h t => exact ⟨[_], _, rfl, .cons (hf a y _ l z' h hl hz) .nil, t⟩
   ·simp at e
  ·simp at e
theorem qg5 {f : (a : RTy) → AV → Option (List a.T × List (Nat × Nat))} {Q : Nat × Nat → Prop} (hf : ∀ a x l z, f a x = some (l, z) → ∀ p ∈ z, Q p) :
  ∀ (τ : RTy) (cs r : List AV) (x : τ.T) (z : List (Nat × Nat)), zb f τ cs = some (x, r, z) → ∀ p ∈ z, Q p
 | .int k, cs, r, x, z, e => by
  simp only [zb] at e
  split at e
  ·split at e
   ·simp at e; obtain ⟨rfl, rfl, rfl⟩ := e; simp
   ·simp at e
  ·simp at e
 | .bool, cs, r, x, z, e => by
  simp only [zb] at e
  split at e
  ·simp at e; obtain ⟨rfl, rfl, rfl⟩ := e; simp
  ·simp at e
 | .str, cs, r, x, z, e => by
  simp only [zb] at e
  split at e
  ·simp at e; obtain ⟨rfl, rfl, rfl⟩ := e; simp
  ·simp at e
 | .fn, cs, r, x, z, e => by
  simp only [zb] at e
  split at e
  ·simp at e; obtain ⟨rfl, rfl, rfl⟩ := e; simp
  ·simp at e
 | .unit, cs, r, x, z, e => by simp [zb] at e; obtain ⟨rfl, rfl⟩ := e; simp
 | .pair a b, cs, r, x, z, e => by
  simp only [zb] at e
  split at e
  ·rename_i x1 r1 z1 h1
   split at e
   ·rename_i y r2 z2 h2
    simp at e; obtain ⟨rfl, rfl, rfl⟩ := e
    intro p hp
    rcases zX.1 hp with hp | hp
    ·exact qg5 hf a cs r1 x1 z1 h1 p hp
    ·exact qg5 hf b r1 r2 y z2 h2 p hp
   ·simp at e
  ·simp at e
 | .list a, cs, r, x, z, e => by
  simp only [zb] at e
  split at e
  ·rename_i y r'
   split at e
   ·rename_i l z' hl
    simp at e; obtain ⟨rfl, rfl, rfl⟩ := e
    exact hf a y l z' hl
   ·simp at e
  ·simp at e
end
end Go.AM
namespace Go.AM
open Go
section
variable {P : Program} {R : wT} {cx : Cx} {bl : qL} {w : World} {env : Env}
theorem qse {a : RTy} {x : AV} {l : List a.T} {z : List (Nat × Nat)} (e : Xr bl a x = some (l, z)) : ∀ p ∈ z, 100 ≤ p.1 ∧ ∃ b, qS bl p.1 = some (p.2, b) := by
 unfold Xr at e
 split at e
 ·rename_i l' hl
  split at e
  ·rename_i nm ver
   cases hb : qtH 100 nm <;> simp [hb] at e
   obtain ⟨rfl, rfl⟩ := e
   intro p hp
   simp at hp; subst hp
   refine ⟨wj hb, ?_⟩
   unfold QH at hl
   simp only at hl
   split at hl
   ·rename_i hc; exact ⟨_, qZ hc⟩
   ·simp at hl
  ·rename_i nm ver sz lo n
   cases hb : qtH 100 nm <;> simp [hb] at e
   obtain ⟨rfl, rfl⟩ := e
   intro p hp
   simp at hp; subst hp
   refine ⟨wj hb, ?_⟩
   unfold QH at hl
   simp only at hl
   split at hl
   ·rename_i hc; exact ⟨_, qZ hc⟩
   ·simp at hl
  ·simp at e; obtain ⟨rfl, rfl⟩ := e; simp
 ·simp at e
theorem Xb {τ : RTy} {cs : List AV} {x : τ.T} {z : List (Nat × Nat)} (e : qdf bl τ cs = some (x, z)) : ∀ p ∈ z, 100 ≤ p.1 ∧ ∃ b, qS bl p.1 = some (p.2, b) := by
 unfold qdf at e
 split at e
 ·rename_i h
  simp at e; obtain ⟨rfl, rfl⟩ := e
  exact qg5 (fun a x l z => qse) _ _ _ _ _ h
 ·simp at e
theorem qJE (hm : Mem cx bl w env) {env' : Env} {z : List (Nat × Nat)} (g : Given cx w env env' z) {p : Nat × Nat} (hp : p ∈ z) (h100 : 100 ≤ p.1) {h : Value} {B : Nat} (eh : env p.1 = some (p.2, h)) (q : wx h = some B) : qn cx env' w B := by
 obtain ⟨h1, h2⟩ := hm.own _ _ _ _ eh q
 refine ⟨.inr (by
  rcases h1 with h1 | ⟨h0, e0, _⟩
  ·exact h1
  ·have := (hm.ents _ _ e0).1; omega), h2, fun n v x e q' => ?_⟩
 rcases g.alt n with e' | ⟨v', _, e'⟩
 ·by_cases hn : n = p.1
  ·rw [hn, g.all p hp] at e
   simp at e
   rw [← e.2] at q'; simp [wx] at q'
  ·rw [e'] at e
   exact hn (hm.inj _ _ _ _ _ _ _ e eh q' q)
 ·rw [e'] at e
  simp at e
  rw [← e.2] at q'; simp [wx] at q'
theorem qdP (hm : Mem cx bl w env) {env' : Env} {z0 : List (Nat × Nat)} (g : Given cx w env env' z0) {τ : RTy} {cs : List AV} {us : List Value} {x : τ.T} {z : List (Nat × Nat)}
  (h : Rp w (qn cx env w) env us cs) (e : qdf bl τ cs = some (x, z)) (hz : ∀ p ∈ z, p ∈ z0) : All2 (RepR w (qn cx env' w)) us (qr τ x) := by
 have hn := Xb e
 unfold qdf at e
 split at e
 ·rename_i x' z' hd
  simp at e; obtain ⟨rfl, rfl⟩ := e
  obtain ⟨u1, u2, rfl, a1, a2⟩ := qco (cx := cx) (w := w) (env := env) (ok' := qn cx env' w) (Z := fun p => p ∈ z0 ∧ 100 ≤ p.1) (f := Xr bl) (fun a x u l z hr hl hz => by
   refine qn3 (bl := bl) hm g.ok hr ?_ fun nm ver hx h B eh q => ?_
   ·unfold Xr at hl
    split at hl
    ·rename_i l' hl'
     split at hl
     ·rename_i nm' ver'
      cases hb : qtH 100 nm' <;> simp [hb] at hl
      rw [← hl.1]; exact hl'
     ·rename_i nm' ver' _ _ _
      cases hb : qtH 100 nm' <;> simp [hb] at hl
      rw [← hl.1]; exact hl'
     ·simp at hl; rw [← hl.1]; exact hl'
    ·simp at hl
   ·have hp : (nm, ver) ∈ z := by
     unfold Xr at hl
     split at hl
     ·rcases hx with rfl | ⟨sz, lo, n, rfl⟩
      ·simp only at hl
       cases hb : qtH 100 nm <;> simp [hb] at hl
       rw [← hl.2]; simp
      ·simp only at hl
       cases hb : qtH 100 nm <;> simp [hb] at hl
       rw [← hl.2]; simp
     ·simp at hl
    obtain ⟨p1, p2⟩ := hz _ hp
    exact qJE hm g p1 p2 eh q) τ cs [] us x' z' h hd fun p hp => ⟨hz p hp, (hn p hp).1⟩
  cases a2
  simpa using a1
 ·simp at e
theorem qxs (hm : Mem cx bl w env) {z : List (Nat × Nat)} (hz : ∀ p ∈ z, 100 ≤ p.1 ∧ ∃ b, qS bl p.1 = some (p.2, b)) :
  ∃ env', Trans cx w env (we bl (vE z)) w env' ∧ Given cx w env env' z := by
 obtain ⟨env', h1, h2, h3⟩ := qrU bl z bl env hm fun p hp => ⟨(hz p hp).2, .inl rfl⟩
 exact ⟨env', h1, h1.ok, h2, h3⟩
theorem qj8 (w : World) (g : Nat) (cs : Array Value) : (w.setRow g cs).heap.size = w.heap.size := by simp [World.setRow]
theorem qwJ {nm ver : Nat} {h : Value} {B : Nat} (hx : env nm = some (ver, h)) (hB : wx h = some B) (cs : Array Value) : Upd0 w env nm ver h (w.setRow B cs) :=
 ⟨.inr ⟨ver, h, hx, .inr ⟨rfl, rfl⟩⟩, ⟨by rw [qj8]; exact qR _, rfl, rfl⟩, fun B' _ hne => setRow_other w B B' cs fun e => hne _ _ hx (e ▸ hB), fun B' q => .inr ⟨ver, h, hx, q⟩⟩
theorem qcT {t t' : TypeId} {B o : Nat} {cur : Array Value} {v : Value} {i : TypeInfo} (hi : P.info? t = some i) (hs : v.cells.size = P.cellsOf t) (hb : w.heap[B]? = some (.cells cur t' (0, 0)))
  (hfit : o + v.cells.toList.length ≤ cur.size) (h1 : ∀ u ∈ v.cells.toList, u.oneCell' = true) :
  (storeVar t ⟨B, o, none⟩ v).run P w = .ok () (w.setRow B (cur.toList.take o ++ v.cells.toList ++ cur.toList.drop (o + v.cells.toList.length)).toArray) := by
 have hst := run_storeCells_at P B o t' v.cells.toList 0 cur w hb (by simpa using hfit) h1
 simp only [qS4] at hst
 simp [storeVar, w5 hi, hs, hst]
theorem qsa {α : Type} (A V : List α) (o k : Nat) (d : α) (h : o + V.length ≤ A.length) :
  (A.take o ++ V ++ A.drop (o + V.length)).getD k d = if k < o then A.getD k d else if k < o + V.length then V.getD (k - o) d else A.getD k d := by
 have hto : (A.take o).length = o := by simp; omega
 simp only [List.getD_eq_getElem?_getD, List.getElem?_append, qT, hto]
 by_cases h1 : k < o
 ·have : k < o + V.length := by omega
  simp [h1, this]
 ·by_cases h2 : k < o + V.length
  ·simp [h1, h2]
  ·have e : o + V.length + (k - (o + V.length)) = k := by omega
   simp [h1, h2, List.getElem?_drop, e]
theorem qML {τ : RTy} (l : List τ.T) (i j : Nat) (x : τ.T) (hi : i < l.length) : Va τ (l.set i x) j = if j = i then qr τ x else Va τ l j := by
 unfold Va
 by_cases h : j = i
 ·subst h; simp [hi]
 ·simp [Ne.symm h, h]
theorem qQx (hm : Mem cx bl w env) {t : TypeId} {av xv : Value} {a x : AV} {e : Ef} (ha : Rep w (qn cx env w) env av a) (hx : Rep w (qn cx env w) env xv x) (he : qss P bl t a x = some e) :
  UOk P cx bl w env (Instr.storeAt t av xv) e := by
 unfold qss at he
 split at he
 ·rename_i vs hvs
  cases hq : (qy vs.length (P.cellsOf t) && (vs.all (Qj bl) && (P.info? t).isSome)) <;> simp only [hq, qg, qj] at he
  ·simp at he
  simp only [qh] at hq
  obtain ⟨hlen, hall, hinfo⟩ := hq
  have hlen := qk hlen
  obtain ⟨i, hi⟩ := zx hinfo
  have hr := Zd hm hx hvs
  have h1 := qmT hm hr hall
  have hsz : xv.cells.size = P.cellsOf t := by have := hr.length; simp at this; omega
  split at he
  ·rename_i wr hwr
   simp at he; subst he
   unfold qEq at hwr
   split at hwr
   ·rename_i nm ver o
    split at hwr
    ·rename_i t' cs hc
     split at hwr
     ·rename_i cs' hl
      simp at hwr; subst hwr
      obtain ⟨h, hh, hb⟩ := hm.blk _ _ _ (qZ hc)
      have aux : ∃ B, h = .pointer (some ⟨B, 0, none⟩) ∧ av = .pointer (some ⟨B, o, none⟩) := by
       cases ha with
       | ptr hr => exact wu hr hh
      obtain ⟨B, rfl, rfl⟩ := aux
      cases hb with
      | var _ _ cur _ hb hs hv =>
       have h2 : Rp w (qn cx env w) env cur.toList cs := All2.of_get Go.undef .undef (by simpa using hs) fun i hi => by simpa using hv i hi
       obtain ⟨h3, h4⟩ := hr.lay o h2 hl
       have hfit : o + xv.cells.toList.length ≤ cur.size := by rw [hr.length]; rw [hs]; exact h3
       have u := qwJ (w := w) hh (B := B) rfl (cur.toList.take o ++ xv.cells.toList ++ cur.toList.drop (o + xv.cells.toList.length)).toArray
       refine ⟨_, _, ?_, wM hm (hm.see (qZ hc)) ⟨u, .var B t' _ cs' (setRow_heap w B cur _ t' (0, 0) hb) (by simpa using h4.length) fun i hi => ?_⟩, rfl⟩
       ·simp [Instr.storeAt, Instr.sureAddr, qcT hi hsz hb hfit h1]
       ·have := qeG u (h4.get Go.undef .undef i hi)
        simpa using this
     ·simp at hwr
    ·simp at hwr
   ·rename_i nm ver sz i' o
    split at hwr
    ·rename_i t' τ l hc
     cases hq : qy τ.sz sz <;> simp only [hq, qg, qj] at hwr
     ·simp at hwr
     have := qk hq
     subst this
     split at hwr
     ·rename_i cs hl
      split at hwr
      ·rename_i x' z hd
       cases hzn : z.all (fun p => !Nat.beq p.1 nm) <;> simp only [hzn, qg, qj] at hwr
       ·simp at hwr
       simp at hwr; subst hwr
       obtain ⟨h, hh, hb⟩ := hm.blk _ _ _ (qZ hc)
       have aux : qHL av h τ.sz i' o := by
        cases ha with
        | elt hr => exact wu hr hh
       obtain ⟨B, n, cap, rfl, hin, rfl⟩ := aux
       cases hb with
       | rowNil => simp at hin
       | row _ _ _ _ _ cur hb hcap hc0 hmx hs hv =>
        have h2 := Qn (env := env) (qli (us := cur.toList) (by simpa using hv) i' hin)
        obtain ⟨h3, h4⟩ := hr.lay o h2 hl
        have hsz1 : o + xv.cells.toList.length ≤ τ.sz := by
         have := h2.length
         rw [hr.length]; simp at this; omega
        obtain ⟨env1, T1, G⟩ := qxs hm (Xb hd)
        have hh1 : env1 nm = some (ver, .slice (some ⟨B, 0, none⟩) l.length cap) := by
         rcases G.alt nm with e | ⟨v, hv', e⟩
         ·rw [e]; exact hh
         ·have := vB.1 hzn (nm, v) hv'
          simp at this
        have hro := qdP hm G h4 hd fun p hp => hp
        have hb' : cur.size = cap * τ.sz := hs
        have hin' : (i' + 1) * τ.sz ≤ cap * τ.sz := v7 _ (by omega)
        have hadd : (i' + 1) * τ.sz = i' * τ.sz + τ.sz := by rw [W9]; omega
        have hfit : i' * τ.sz + o + xv.cells.toList.length ≤ cur.size := by omega
        have u := qwJ (w := w) hh1 (B := B) (zT hc0) (cur.toList.take (i' * τ.sz + o) ++ xv.cells.toList ++ cur.toList.drop (i' * τ.sz + o + xv.cells.toList.length)).toArray
        have hset : (l.set i' x').length = l.length := by simp
        have T2 := wM T1.mem (b := .row t' τ (l.set i' x')) (hm.see (qZ hc)) ⟨u, by
         have := RepB.row (w := w.setRow B (cur.toList.take (i' * τ.sz + o) ++ xv.cells.toList ++ cur.toList.drop (i' * τ.sz + o + xv.cells.toList.length)).toArray) (ok := qn cx (env1.put nm ver (.slice (some ⟨B, 0, none⟩) l.length cap)) (w.setRow B (cur.toList.take (i' * τ.sz + o) ++ xv.cells.toList ++ cur.toList.drop (i' * τ.sz + o + xv.cells.toList.length)).toArray)) (env := env1.put nm ver (.slice (some ⟨B, 0, none⟩) l.length cap)) B t' τ (l.set i' x') cap _ (setRow_heap w B cur _ t' (0, 0) hb) (by simp; exact hcap) hc0 hmx (by simp at hfit ⊢; omega) (fun k hk => by
          rw [hset] at hk
          refine qln u ?_
          have hpos : 0 < τ.sz := by
           rcases Nat.eq_zero_or_pos τ.sz with h | h
           ·rw [h] at hk; simp at hk
           ·exact h
          have hk' : k = k / τ.sz * τ.sz + k % τ.sz := by have := Nat.div_add_mod k τ.sz; rw [Nat.mul_comm] at this; exact this.symm
          have hmod : k % τ.sz < τ.sz := Nat.mod_lt _ hpos
          have hdiv : k / τ.sz < l.length := (Nat.div_lt_iff_lt_mul hpos).2 hk
          have e1 : (wD τ (l.set i' x')).getD k .undef = (Va τ (l.set i' x') (k / τ.sz)).getD (k % τ.sz) .undef := by
           conv => lhs; rw [hk']
           exact XY τ .undef _ _ _ (by simpa using hdiv) hmod
          have e2 : ((cur.toList.take (i' * τ.sz + o) ++ xv.cells.toList ++ cur.toList.drop (i' * τ.sz + o + xv.cells.toList.length)).toArray).getD k Go.undef = (cur.toList.take (i' * τ.sz + o) ++ xv.cells.toList ++ cur.toList.drop (i' * τ.sz + o + xv.cells.toList.length)).getD k Go.undef := by simp
          rw [e1, e2, qsa _ _ _ _ _ (by simpa using hfit), qML _ _ _ _ hin]
          by_cases hki : k / τ.sz = i'
          ·rw [qc hki]
           have hkk : k = i' * τ.sz + k % τ.sz := by rw [← hki]; exact hk'
           have hg := hro.get Go.undef .undef (k % τ.sz) (by rw [wW]; exact hmod)
           rw [qsa _ _ _ _ _ (by simpa using hsz1), We _ _ _ _ hmod] at hg
           have c1 : (k < i' * τ.sz + o) = (k % τ.sz < o) := by apply propext; omega
           have c2 : (k < i' * τ.sz + o + xv.cells.toList.length) = (k % τ.sz < o + xv.cells.toList.length) := by apply propext; omega
           have c3 : k - (i' * τ.sz + o) = k % τ.sz - o := by omega
           simp only [c1, c2, c3]
           rw [← hkk] at hg
           exact hg
          ·rw [qi hki]
           have hout : ¬ (i' * τ.sz ≤ k ∧ k < (i' + 1) * τ.sz) := fun ⟨a, b⟩ => hki (by
            have h1 : i' ≤ k / τ.sz := (Nat.le_div_iff_mul_le hpos).2 a
            have h2 : k / τ.sz < i' + 1 := (Nat.div_lt_iff_lt_mul hpos).2 b
            omega)
           have hold := (hv k hk).mono G.ok fun _ _ _ => rfl
           have e3 : (wD τ l).getD k .undef = (Va τ l (k / τ.sz)).getD (k % τ.sz) .undef := by
            conv => lhs; rw [hk']
            exact XY τ .undef _ _ _ hdiv hmod
           rw [e3] at hold
           have c : (if k < i' * τ.sz + o then cur.toList.getD k Go.undef else if k < i' * τ.sz + o + xv.cells.toList.length then xv.cells.toList.getD (k - (i' * τ.sz + o)) Go.undef else cur.toList.getD k Go.undef) = cur.toList.getD k Go.undef := by
            split
            ·rfl
            ·split
             ·exfalso; omega
             ·rfl
           rw [c]
           simpa using hold)
         rw [hset] at this
         exact this⟩
        refine ⟨_, _, ?_, by rw [Wi]; exact T1.trans T2, rfl⟩
        simp [Instr.storeAt, Instr.sureAddr, qcT hi hsz hb hfit h1]
      ·simp at hwr
     ·simp at hwr
    ·simp at hwr
   ·simp at hwr
  ·simp at he
 ·simp at he
end
end Go.AM
namespace Go.AM
open Go
section
variable {P : Program} {R : wT} {cx : Cx} {bl : qL} {w : World} {env : Env}
def zo (φ : List Prop) : Prop := ∀ p ∈ φ, p
theorem qQt (hm : Mem cx bl w env) {t : TypeId} {ps : List (Nat × AV)} {qs : List (Nat × Value)} {e : Ef} (h : All2 (fun (q : Nat × Value) (p : Nat × AV) => q.1 = p.1 ∧ Rep w (qn cx env w) env q.2 p.2) qs ps)
  (he : qso P bl t ps = some e) : VOk P cx bl w env (Instr.build t qs.toArray) e := by
 unfold qso at he
 split at he
 ·rename_i z hz
  have hz' := hz
  unfold zO at hz'
  split at hz'
  ·rename_i it hit
   split at hz'
   ·rename_i zv hzv
    simp at hz'; subst hz'
    split at he
    ·rename_i fs hu
     split at he
     ·rename_i pl hpl
      split at he
      ·rename_i cs hcs
       simp at he; subst he
       obtain ⟨out, h1, h2⟩ := qfz hm _ ps qs _ cs zv.cells.toList h (zQ _) hcs
       refine VOk.still hm (run_build w t qs.toArray out ?_) (by simpa using Wg h2)
       unfold Program.built
       have hpm := qj1 hpl
       simp only [hit, hu, hzv, hpm]
       simpa using h1
      ·simp at he
     ·simp at he
    ·rename_i n e' hu
     split at he
     ·rename_i ie hie
      split at he
      ·rename_i cs hcs
       simp at he; subst he
       obtain ⟨out, h1, h2⟩ := qfz hm _ ps qs _ cs zv.cells.toList h (zQ _) hcs
       refine VOk.still hm (run_build w t qs.toArray out ?_) (by simpa using Wg h2)
       unfold Program.built
       simp only [hit, hu, hzv, hie]
       simpa using h1
      ·simp at he
     ·simp at he
    ·simp at he
   ·simp at hz'
  ·simp at hz'
 ·simp at he
theorem qho {s f off t : Nat} (h : qfy P s f = some (off, t)) : ∃ fs fld, P.underlying s = some (.struct fs) ∧ fs[f]? = some fld ∧ fld.offset = off ∧ fld.type = t ∧ P.cellsOf t ≠ 0 := by
 unfold qfy at h
 split at h
 ·rename_i fs hu
  split at h
  ·rename_i x hx
   cases hb : qy (P.cellsOf x.type) 0 <;> simp [hb] at h
   obtain ⟨rfl, rfl⟩ := h
   exact ⟨fs, x, hu, by simpa using hx, rfl, rfl, fun e => by rw [e] at hb; simp at hb⟩
  ·simp at h
 ·simp at h
theorem qpU {t : TypeId} (h : P.cellsOf t ≠ 0) : ∃ i, P.info? t = some i := by
 unfold Program.cellsOf at h
 cases hi : P.info? t with
 | none => simp [hi] at h
 | some i => exact ⟨i, rfl⟩
theorem qq5 {av : Value} {a a' : AV} {k : Nat} (h : Rep w (qn cx env w) env av a) (e : qq4 a k = some a') (hc : (∃ nm ver, (∃ o, a = .ptr nm ver o) ∨ ∃ s i o, a = .elt nm ver s i o) → ∃ ad, av = .pointer (some ad)) :
  ∀ {B o : Nat}, av = .pointer (some ⟨B, o, none⟩) → Rep w (qn cx env w) env (.pointer (some ⟨B, o + k, none⟩)) a' := by
 intro B o hav
 subst hav
 unfold qq4 at e
 split at e
 ·simp at e; subst e
  cases h with
  | ptr hr =>
   obtain ⟨cv, x, h1, h2, h3⟩ := hr
   exact .ptr ⟨cv, x, h1, h2, fun q => by
    obtain ⟨B', rfl, e⟩ := h3 q
    simp at e
    exact ⟨B', rfl, by simp [e.1, e.2]⟩⟩
 ·simp at e; subst e
  cases h with
  | elt hr =>
   obtain ⟨cv, x, h1, h2, h3⟩ := hr
   exact .elt ⟨cv, x, h1, h2, fun q => by
    obtain ⟨B', n, cap, rfl, hi, e⟩ := h3 q
    simp at e
    exact ⟨B', n, cap, rfl, hi, by simp [e.1, e.2, Nat.add_assoc]⟩⟩
 ·rename_i τ l i o'
  simp at e; subst e
  cases h with
  | rel _ _ _ _ B' b cap hi h =>
   rw [show b + (i * τ.sz + o') + k = b + (i * τ.sz + (o' + k)) by omega]
   exact .rel τ l i (o' + k) _ _ _ hi h
 ·simp at e
theorem qw0 (hm : Mem cx bl w env) {av : Value} {a : AV} (h : Rep w (qn cx env w) env av a) (hk : qlQ bl a = true) : ∃ B o, av = .pointer (some ⟨B, o, none⟩) := by
 cases a <;> simp [qlQ] at hk
 ·obtain ⟨b, hb⟩ := zx hk
  obtain ⟨x, hx, _⟩ := hm.blk _ _ _ (qZ hb)
  cases h with
  | ptr hr => obtain ⟨B, _, rfl⟩ := wu hr hx; exact ⟨_, _, rfl⟩
 ·obtain ⟨b, hb⟩ := zx hk
  obtain ⟨x, hx, _⟩ := hm.blk _ _ _ (qZ hb)
  cases h with
  | elt hr => obtain ⟨B, n, cap, _, _, rfl⟩ := wu hr hx; exact ⟨_, _, rfl⟩
 ·cases h with
  | rel => exact ⟨_, _, rfl⟩
theorem qxK (hm : Mem cx bl w env) {s f : Nat} {av : Value} {a : AV} {e : Ef} (ha : Rep w (qn cx env w) env av a) (he : qfP P bl s a f = some e) : VOk P cx bl w env (Instr.fieldAt s av f) e := by
 unfold qfP at he
 split at he
 ·rename_i off t hf
  split at he
  ·rename_i a' ha'
   cases hk : qlQ bl a <;> simp [hk] at he
   subst he
   obtain ⟨fs, fld, hu, hx, rfl, rfl, hnz⟩ := qho hf
   obtain ⟨B, o, rfl⟩ := qw0 hm ha hk
   obtain ⟨i, hi⟩ := qpU hnz
   refine VOk.still hm (u := .pointer (some ⟨B, o + fld.offset, none⟩)) ?_ (qq5 ha ha' (fun _ => ⟨_, rfl⟩) rfl)
   simp [Instr.fieldAt, run_underlying hu, hx, Instr.sureAddr, fieldPlace, w5 hi, hnz, QT]
  ·simp at he
 ·simp at he
theorem qpy {t off : Nat} {us : List Value} {cs l : List AV} {v : AV} (hr : Rp w (qn cx env w) env us l) (hc : cut off (P.cellsOf t) l = some cs) (hv : Xu P t cs = some v) :
  ∃ u, (part t us.toArray off).run P w = .ok u w ∧ Rep w (qn cx env w) env u v := by
 obtain ⟨h1, h2, h3⟩ := hr.cut off _ hc
 have hl := hr.length
 unfold Xu at hv
 split at hv
 ·rename_i ha
  simp at hv; subst hv
  obtain ⟨d, hd⟩ := Yr ha
  refine ⟨.agg (us.toArray.extract off (off + P.cellsOf t)), by simp [part, WB ha, qb6 hd], ?_⟩
  have := Wg h3
  have e : (us.toArray.extract off (off + P.cellsOf t)) = ((us.drop off).take (P.cellsOf t)).toArray := by
   simp [List.extract_eq_take_drop]
  rw [e]; exact this
 ·rename_i ha
  split at hv
  ·rename_i c
   simp at hv; subst hv
   have hlt : off < us.length := by simp at h1; omega
   have hn : P.cellsOf t = 1 := by simpa using h1.symm
   rw [hn] at h3
   have hg := h3.get Go.undef .undef 0 (by simp)
   refine ⟨us[off], by simp [part, WB ha, hlt], ?_⟩
   simpa [List.getElem?_take, List.getElem?_drop, hlt] using hg
  ·simp at hv
 ·simp at hv
theorem qQu (hm : Mem cx bl w env) {s f : Nat} {xv : Value} {x : AV} {e : Ef} (hx : Rep w (qn cx env w) env xv x) (he : qsp P s x f = some e) : VOk P cx bl w env (Instr.field s xv f) e := by
 unfold qsp at he
 split at he
 ·rename_i off t hf
  split at he
  ·rename_i l
   split at he
   ·rename_i cs hcs
    split at he
    ·rename_i v hv
     simp at he; subst he
     obtain ⟨fs, fld, hu, hg, rfl, rfl, hnz⟩ := qho hf
     obtain ⟨vs, rfl, hr⟩ := zM hx
     obtain ⟨u, h1, h2⟩ := qpy (P := P) hr hcs hv
     refine VOk.still hm (u := u) ?_ h2
     simp at h1
     simp [Instr.field, run_underlying hu, hg, asAgg, h1]
    ·simp at he
   ·simp at he
  ·simp at he
 ·simp at he
theorem WX (k : IntKind) (n : Int) : (asIntOf (.int k n)).run P w = .ok (k, n) w := rfl
theorem Zb {u : Value} {a : AV} {k : IntKind} {n : Int} (h : Rep w (qn cx env w) env u a) (e : Z9 a = some (k, n)) : u = .int k n := by
 unfold Z9 at e
 split at e
 ·simp at e; obtain ⟨rfl, rfl⟩ := e; exact qN h
 ·simp at e
theorem qll {n : Int} {k : Nat} (h0 : 0 ≤ n) (h : n < (k : Int)) : n.toNat < k := by omega
theorem qxL (hm : Mem cx bl w env) {t : TypeId} {xv iv : Value} {x i : AV} {e : Ef} (hx : Rep w (qn cx env w) env xv x) (hi : Rep w (qn cx env w) env iv i) (he : qfQ P bl t x i = some e) (hφ : zo e.φ) :
  VOk P cx bl w env (Instr.indexAt t xv iv) e := by
 unfold qfQ at he
 split at he
 ·rename_i k n hn
  have := Zb hi hn
  subst this
  split at he
  ·rename_i el hu
   split at he
   ·rename_i nm ver
    split at he
    ·rename_i t' τ l hc
     cases hq : (qy τ.sz (P.cellsOf el) && (P.info? el).isSome) <;> simp only [hq, qg, qj] at he
     ·simp at he
     simp only [qh] at hq
     have hsz := qk hq.1
     obtain ⟨ie, hie⟩ := zx hq.2
     simp at he; subst he
     have h0 : 0 ≤ n := hφ _ (by simp)
     have h1 : n < (l.length : Int) := hφ _ (by simp)
     obtain ⟨h, hh, hb⟩ := hm.blk _ _ _ (qZ hc)
     have hxe : xv = h := by
      cases hx with
      | own hr => exact wu hr hh
     subst hxe
     cases hb with
     | rowNil => simp at h1; omega
     | row B _ _ _ cap vs hb hcap hc0 hmx hs hv =>
      refine VOk.still hm (u := .pointer (some ⟨B, 0 + n.toNat * τ.sz, none⟩)) ?_ (.elt ⟨ver, _, hh, qR _, fun _ => ⟨B, l.length, cap, rfl, qll h0 h1, by simp⟩⟩)
      simp [Instr.indexAt, WX, run_underlying hu, h0, h1, w5 hie, QT, hsz]
    ·simp at he
   ·rename_i τ l
    cases hq : (qy τ.sz (P.cellsOf el) && (P.info? el).isSome) <;> simp only [hq, qg, qj] at he
    ·simp at he
    simp only [qh] at hq
    have hsz := qk hq.1
    obtain ⟨ie, hie⟩ := zx hq.2
    simp at he; subst he
    have h0 : 0 ≤ n := hφ _ (by simp)
    have h1 : n < (l.length : Int) := hφ _ (by simp)
    cases hx with
    | r h =>
     cases h with
     | nil => simp at h1; omega
     | ro _ _ B o cap g hB hcap hc hr =>
      refine VOk.still hm (u := .pointer (some ⟨B, o + (n.toNat * τ.sz + 0), none⟩)) ?_ (.rel τ l n.toNat 0 B o cap (qll h0 h1) (.ro τ l B o cap g hB hcap hc hr))
      simp [Instr.indexAt, WX, run_underlying hu, h0, h1, w5 hie, QT, hsz]
   ·rename_i nm ver sz lo m
    split at he
    ·rename_i t' cs hc
     cases hq : (qy sz 1 && (qy 1 (P.cellsOf el) && (P.info? el).isSome)) <;> simp only [hq, qg, qj] at he
     ·simp at he
     simp only [qh] at hq
     have hs1 := qk hq.1
     have hsz := qk hq.2.1
     obtain ⟨ie, hie⟩ := zx hq.2.2
     subst hs1
     simp at he; subst he
     have h0 : 0 ≤ n := hφ _ (by simp)
     have h1 : n < (m : Int) := hφ _ (by simp)
     obtain ⟨h, hh, hb⟩ := hm.blk _ _ _ (qZ hc)
     have hxe : qHN xv h 1 lo m := by
      cases hx with
      | sub hr => exact wu hr hh
     rcases hxe with ⟨q, _⟩ | ⟨B, m', cap, c', rfl, hlm, hmc, rfl⟩
     ·omega
     ·refine VOk.still hm (u := .pointer (some ⟨B, lo * 1 + n.toNat * 1, none⟩)) ?_ (.elt ⟨ver, _, hh, qR _, fun _ => ⟨B, m', cap, rfl, by omega, by simp [W9]⟩⟩)
      simp [Instr.indexAt, WX, run_underlying hu, h0, h1, w5 hie, QT, ← hsz]
    ·simp at he
   ·simp at he
  ·rename_i len el hu
   split at he
   ·rename_i nm ver o
    cases hq : ((wP bl nm ver).isSome && (P.info? el).isSome) <;> simp only [hq, qg, qj] at he
    ·simp at he
    simp only [qh] at hq
    obtain ⟨ie, hie⟩ := zx hq.2
    obtain ⟨b, hb⟩ := zx hq.1
    simp at he; subst he
    have h0 : 0 ≤ n := hφ _ (by simp)
    have h1 : n < (len : Int) := hφ _ (by simp)
    obtain ⟨h, hh, _⟩ := hm.blk _ _ _ (qZ hb)
    have hxe : qHM xv h o := by
     cases hx with
     | ptr hr => exact wu hr hh
    obtain ⟨B, rfl, rfl⟩ := hxe
    refine VOk.still hm (u := .pointer (some ⟨B, o + n.toNat * P.cellsOf el, none⟩)) ?_ (.ptr ⟨ver, _, hh, qR _, fun _ => ⟨B, rfl, rfl⟩⟩)
    simp [Instr.indexAt, WX, run_underlying hu, Instr.sureAddr, h0, h1, w5 hie, QT]
   ·simp at he
  ·simp at he
 ·simp at he
theorem qMN {s : ByteArray} {n : Int} (h0 : 0 ≤ n) (h1 : n < (s.size : Int)) : ∃ b, s[n.toNat]? = some b ∧ ((b.toNat : Nat) : Int) = bAt s n := by
 have hlt : n.toNat < s.size := qll h0 h1
 refine ⟨s[n.toNat], by simp [hlt], ?_⟩
 unfold bAt
 have : s.data.toList.getD n.toNat 0 = s[n.toNat] := by
  have h2 : n.toNat < s.data.size := hlt
  rw [List.getD_eq_getElem?_getD, Array.getElem?_toList, Array.getElem?_eq_getElem h2]
  rfl
 rw [this]
theorem qQv (hm : Mem cx bl w env) {t : TypeId} {xv iv : Value} {x i : AV} {e : Ef} (hx : Rep w (qn cx env w) env xv x) (hi : Rep w (qn cx env w) env iv i) (he : qsq P t x i = some e) (hφ : zo e.φ) :
  VOk P cx bl w env (Instr.index t xv iv) e := by
 unfold qsq at he
 split at he
 ·rename_i k n hn
  have := Zb hi hn
  subst this
  split at he
  ·rename_i hu
   split at he
   ·rename_i s
    simp at he; subst he
    have h0 : 0 ≤ n := hφ _ (by simp)
    have h1 : n < (s.size : Int) := hφ _ (by simp)
    obtain ⟨b, hb, hbe⟩ := qMN h0 h1
    rw [qN hx]
    refine VOk.still hm (u := .int .u8 b.toNat) ?_ (by rw [hbe]; exact wn _)
    simp only [Instr.index, Sem.run_bind, WX, Result.andThen_ok, run_underlying hu]
    rw [qc h0, hb]
    rfl
   ·simp at he
  ·rename_i len el hu
   split at he
   ·rename_i l
    split at he
    ·rename_i cs hcs
     split at he
     ·rename_i v hv
      cases hq : (P.info? el).isSome <;> simp only [hq, qg, qj] at he
      ·simp at he
      simp at he; subst he
      obtain ⟨ie, hie⟩ := zx hq
      have h0 : 0 ≤ n := hφ _ (by simp)
      have h1 : n < (len : Int) := hφ _ (by simp)
      obtain ⟨vs, rfl, hr⟩ := zM hx
      obtain ⟨u, e1, e2⟩ := qpy (P := P) hr hcs hv
      refine VOk.still hm (u := u) ?_ e2
      simp at e1
      simp [Instr.index, WX, run_underlying hu, h0, h1, w5 hie, e1]
     ·simp at he
    ·simp at he
   ·simp at he
  ·simp at he
 ·simp at he
theorem qFl (hm : Mem cx bl w env) {xv : Value} {x : AV} {i : Nat} {e : Ef} (hx : Rep w (qn cx env w) env xv x) (he : qkC x i = some e) : VOk P cx bl w env (Instr.extract xv i) e := by
 unfold qkC at he
 split at he
 ·rename_i l
  split at he
  ·rename_i v hv
   simp at he; subst he
   obtain ⟨vs, rfl, hr⟩ := qj6 hx
   obtain ⟨hi, hv⟩ := List.getElem?_eq_some_iff.1 hv
   have hlt : i < vs.size := by have := hr.length; simp at this; omega
   have hg := hr.get Go.undef .undef i hi
   refine VOk.still hm (u := vs[i]) (by simp [Instr.extract, hlt]) ?_
   simpa [hlt, hi, hv] using hg
  ·simp at he
 ·simp at he
theorem qDe (hm : Mem cx bl w env) {f : Fn} {us vs : List Value} {fs cs : List AV} {e : Ef} (h1 : Rp w (qn cx env w) env us fs) (h2 : Rp w (qn cx env w) env vs cs) (he : qhO f fs cs = some e) :
  VOk P cx bl w env (Instr.makeFunc f us.toArray vs.toArray) e := by
 have rest : ∀ {e : Ef}, some ⟨[], AV.fn f fs cs, []⟩ = some e → VOk P cx bl w env (Instr.makeFunc f us.toArray vs.toArray) e := fun he => by
  simp at he; subst he
  exact VOk.still hm rfl (.fn f _ _ _ _ (by simpa using h1.length) (by simpa using h2.length) (fun i hi => by simpa using h1.get Go.undef .undef i hi) fun i hi => by simpa using h2.get Go.undef .undef i hi)
 unfold qhO at he
 split at he
 ·rename_i a ha
  split at he
  ·rename_i c hc
   simp at he; subst he
   rw [qlj h1 ha, qlj h2 hc]
   exact VOk.still hm rfl (wn _)
  ·cases hq : (fs.all zi && cs.all zi) <;> simp only [hq, qg, qj] at he
   ·simp at he
   exact rest he
 ·cases hq : (fs.all zi && cs.all zi) <;> simp only [hq, qg, qj] at he
  ·simp at he
  exact rest he
theorem sUn (hm : Mem cx bl w env) {op : UnOp} {xv : Value} {x : AV} {e : Ef} (hx : Rep w (qn cx env w) env xv x) (he : oUn P op x = some e) : VOk P cx bl w env (Op.unary op xv) e := by
 unfold oUn at he
 split at he
 ·rename_i v hv
  split at he
  ·rename_i v' hv'
   simp at he; subst he
   rw [qpv hx hv]
   exact VOk.still hm (WY P _ _ hv' w) (wn _)
  ·simp at he
 ·simp at he
theorem qlR {w : World} {ok : Nat → Prop} : ∀ {us : List Value} {vs : List Value}, All2 (RepR w ok) us (vs.map RV.v) → us = vs
 | [], [], _ => rfl
 | u :: us, v :: vs, h => by
  cases h with
  | cons h hs => rw [show u = v by cases h; rfl, qlR hs]
theorem qva : ∀ (l : List Int), wD (.int .u8) l = (l.map (Value.int .u8)).map RV.v
 | [] => rfl
 | x :: l => by rw [wD, qva l]; rfl
theorem qFk (hm : Mem cx bl w env) {s d : TypeId} {xv : Value} {x : AV} {e : Ef} (hx : Rep w (qn cx env w) env xv x) (he : qkB P bl s d x = some e) : VOk P cx bl w env (convert s d xv) e := by
 unfold qkB at he
 split at he
 ·rename_i v hv
  split at he
  ·rename_i v' hv'
   simp at he; subst he
   rw [qpv hx hv]
   exact VOk.still hm (WY P _ _ hv' w) (wn _)
  ·simp at he
 ·split at he
  ·rename_i hd
   split at he
   ·rename_i e' hs
    split at he
    ·rename_i hu
     split at he
     ·rename_i l hl
      simp at he; subst he
      obtain ⟨A, cap, rfl, hcap, hA, us, h1, h2, h3⟩ := qaO hm hx hl
      rw [qva] at h2
      have hus := qlR h2
      subst hus
      refine VOk.still hm ?_ (wn _)
      rw [run_convert_bytes_string w s d e' A _ _ hs hu hd]
      rcases hA with rfl | ⟨B, o, rfl⟩
      ·cases A with
       | none => simp [Conv.bytesToString, Sem.run_pure, qrA]
       | some a => 
        refine (run_bytesToString w a 0 cap [] ?_)
        simpa using run_loadCells_list w a []
      ·refine run_bytesToString w _ _ _ l ?_
       have := run_loadCells_list (P := P) w ⟨B, o, none⟩ (l.map (Value.int .u8)) (fun j v hj => by
        have hj' : j < l.length := by
         rcases Nat.lt_or_ge j l.length with h | h
         ·exact h
         ·rw [List.getElem?_eq_none (by simpa using h)] at hj; simp at hj
        have := h3 B o rfl j (by simpa [RTy.sz] using hj')
        simp only [qI, hj, Option.getD] at this
        rw [Addr.add_lit]
        exact this)
       simpa using this
     ·simp at he
    ·simp at he
   ·simp at he
  ·simp at he
theorem qhs (P : Program) : ∀ (l : List Value) (mx : Bool) (a m : Int), qfC mx a l = some m →
  vM P (l.foldlM (if mx then Builtin.max2 else Builtin.min2) (.int .i64 a)) = some (.int .i64 m)
 | [], mx, a, m, h => by simp only [qfC, Option.some.injEq] at h; subst h; rfl
 | v :: t, mx, a, m, h => by
  cases v with
  | int k b =>
   cases k <;> simp only [qfC] at h <;> first | (cases h; done) | skip
   cases mx with
   | true => exact qhs P t true (qx a b) m h
   | false => exact qhs P t false (imn a b) m h
  | _ => simp only [qfC] at h; cases h
theorem qCH (P : Program) {vs : List Value} {mx : Bool} {m : Int} (h : qxy mx vs = some m) : vM P (if mx then Builtin.max_ #[] 0 vs.toArray else Builtin.min_ #[] 0 vs.toArray) = some (.int .i64 m) := by
 unfold qxy at h
 split at h
 ·rename_i a x y t
  have := qhs P (x :: y :: t) mx a m h
  cases mx <;> exact this
 ·cases h
theorem qwC (hm : Mem cx bl w env) {mx : Bool} {us : List Value} {xs : List AV} {e : Ef} (h : Rp w (qn cx env w) env us xs) (he : qjp P mx xs = some e) (ats : Array TypeId) (ty : TypeId) :
  VOk P cx bl w env (if mx then Builtin.max_ ats ty us.toArray else Builtin.min_ ats ty us.toArray) e := by
 unfold qjp at he
 split at he
 ·rename_i vs hvs
  split at he
  ·rename_i m hv
   simp at he; subst he
   rw [qfW h hvs]
   refine VOk.still hm ?_ (wn _)
   have := WY P _ _ (qCH P hv) w
   cases mx <;> exact this
  ·split at he
   ·rename_i v hv
    simp at he; subst he
    rw [qfW h hvs]
    refine VOk.still hm ?_ (wn v)
    have := WY P _ _ hv w
    cases mx <;> exact this
   ·simp at he
 ·simp at he
end
end Go.AM
namespace Go.AM
open Go
section
variable {P : Program} {R : wT} {cx : Cx} {bl : qL} {w : World} {env : Env}
theorem qSc (hm : Mem cx bl w env) {t : TypeId} {xv : Value} {x : AV} {e : Ef} (hx : Rep w (qn cx env w) env xv x) (he : qFb P bl t x = some e) (ty : TypeId) : VOk P cx bl w env (Builtin.len_ #[t] ty #[xv]) e := by
 unfold qFb at he
 split at he
 ·rename_i hu
  split at he
  ·simp at he; subst he
   rw [qN hx]
   exact VOk.still hm (by simp [Builtin.len_, run_underlying hu, goInt]) (wn _)
  ·simp at he
 ·rename_i el hu
  split at he
  ·rename_i nm ver
   split at he
   ·rename_i t' τ l hc
    simp at he; subst he
    obtain ⟨h, hh, hb⟩ := hm.blk _ _ _ (qZ hc)
    have hxe : xv = h := by
     cases hx with
     | own hr => exact wu hr hh
    subst hxe
    cases hb with
    | rowNil => exact VOk.still hm (by simp [Builtin.len_, run_underlying hu, goInt]) (wn _)
    | row => exact VOk.still hm (by simp [Builtin.len_, run_underlying hu, goInt]) (wn _)
   ·simp at he
  ·rename_i τ l
   simp at he; subst he
   cases hx with
   | r h =>
    cases h with
    | nil => exact VOk.still hm (by simp [Builtin.len_, run_underlying hu, goInt]) (wn _)
    | ro => exact VOk.still hm (by simp [Builtin.len_, run_underlying hu, goInt]) (wn _)
  ·simp at he; subst he
   rw [qN hx]
   exact VOk.still hm (by simp [Builtin.len_, run_underlying hu, goInt]) (wn _)
  ·rename_i nm ver sz lo n
   split at he
   ·rename_i b hc
    simp at he; subst he
    obtain ⟨h, hh, _⟩ := hm.blk _ _ _ (qZ hc)
    cases hx with
    | sub hr =>
     rcases wu hr hh with ⟨rfl, a, c, rfl⟩ | ⟨B, m, cap, c', _, _, _, rfl⟩
     ·exact VOk.still hm (by simp [Builtin.len_, run_underlying hu, goInt]) (wn _)
     ·exact VOk.still hm (by simp [Builtin.len_, run_underlying hu, goInt]) (wn _)
   ·simp at he
  ·simp at he
 ·rename_i kt et hu
  split at he
  ·rename_i nm ver
   split at he
   ·rename_i ag κ τ l hc
    simp at he; subst he
    obtain ⟨h, hh, hb⟩ := hm.blk _ _ _ (qZ hc)
    have hxe : xv = h := by
     cases hx with
     | own hr => exact wu hr hh
    subst hxe
    cases hb with
    | map r _ _ _ _ es clock hb hs hk => exact VOk.still hm (by simp [Builtin.len_, run_underlying hu, goInt, getObj, Sem.run, hb, hs]) (wn _)
   ·simp at he
  ·simp at he
 ·rename_i n el hu
  simp at he; subst he
  exact VOk.still hm (by simp [Builtin.len_, run_underlying hu, goInt]) (wn _)
 ·simp at he
theorem VX {t t2 e : TypeId} {i : TypeInfo} (ht : P.underlying t = some (.slice e)) (ht2 : P.underlying t2 = some (.slice e)) (hi : P.info? e = some i) (ty : TypeId) (base A : Option Addr) (n cap c : Nat) (h : n ≤ cap) :
  (Builtin.append_ #[t, t2] ty #[.slice base n cap, .slice A 0 c]).run P w = .ok (.slice base n cap) w := by
 have hf : (Builtin.firstCells i.size 0 (.slice A 0 c)).run P w = .ok #[] w := by cases A <;> simp [Builtin.firstCells, loadCells, loadCellsFrom]
 cases base <;> simp [Builtin.append_, run_underlying ht, run_underlying ht2, sizeOf, typeInfo, hi, Builtin.lenOf, h, hf, storeCells]
theorem qoW {B o n : Nat} {us : List Value} (hl : us.length = n) (h : ∀ k, k < n → w.cell? ⟨B, o + k, none⟩ = some (us.getD k Go.undef)) : ∀ j v, us[j]? = some v → w.cell? ((⟨B, o, none⟩ : Addr).add j) = some v := by
 intro j v hv
 obtain ⟨hj, hv⟩ := List.getElem?_eq_some_iff.1 hv
 rw [QT, h j (by omega)]
 simp [hj, hv]
theorem VY (_hm : Mem cx bl w env) {w' : World} {nm ver : Nat} (hv : (env nm = none ∧ 100 ≤ nm) ∨ ∃ cv h0, env nm = some (cv, h0) ∧ cv < ver) (h : Value) (o : Obj) (hw : w'.heap = w.heap.push o) (ho : w'.os = w.os) (hp : w'.output = w.output) (hb : wx h = some w.heap.size) : Upd0 w env nm ver h w' := by
 refine ⟨hv.imp id fun ⟨cv, h0, e, l⟩ => ⟨cv, h0, e, .inl l⟩, ⟨by rw [hw]; simp, ho, hp⟩, fun B hB _ => ?_, fun B q => ?_⟩
 ·rw [hw, Array.getElem?_push]; simp; omega
 ·rw [hb] at q; simp at q; subst q
  exact .inl ⟨qR _, by rw [hw]; simp⟩
theorem qtz (_hm : Mem cx bl w env) {w' : World} {nm ver : Nat} (hv : (env nm = none ∧ 100 ≤ nm) ∨ ∃ cv h0, env nm = some (cv, h0) ∧ cv < ver) (h : Value) (o : Obj) (hw : w'.heap = w.heap.push o) (ho : w'.os = w.os) (hp : w'.output = w.output) (hb : wx h = none) : Upd0 w env nm ver h w' := by
 refine ⟨hv.imp id fun ⟨cv, h0, e, l⟩ => ⟨cv, h0, e, .inl l⟩, ⟨by rw [hw]; simp, ho, hp⟩, fun B hB _ => ?_, fun B q => ?_⟩
 ·rw [hw, Array.getElem?_push]; simp; omega
 ·rw [hb] at q; cases q
theorem Vl {w' : World} {ok : Nat → Prop} {env' : Env} {B : Nat} {t : TypeId} {τ : RTy} {l : List τ.T} {n cap : Nat} {vs : Array Value} {us rest : List Value} (hn : l.length = n) (hb : w'.heap[B]? = some (.cells vs t (0, 0))) (hcap : n ≤ cap) (h0 : 0 < cap) (hmx : cap ≤ maxLen)
  (hs : vs.size = cap * τ.sz) (hu : vs.toList = us ++ rest) (hr : All2 (RepR w' ok) us (wD τ l)) : RepB w' ok env' (.slice (some ⟨B, 0, none⟩) n cap) (.row t τ l) := by
 subst hn
 refine .row B t τ l cap vs hb hcap h0 hmx hs fun k hk => ?_
 have hl := hr.length
 rw [wF] at hl
 have e : vs.getD k Go.undef = us.getD k Go.undef := by
  have h1 : vs.getD k Go.undef = vs.toList.getD k Go.undef := by simp
  rw [h1, hu, List.getD_eq_getElem?_getD, List.getElem?_append_left (by omega), List.getD_eq_getElem?_getD]
 rw [e]
 exact hr.get Go.undef .undef k (by rw [wF]; exact hk)
theorem WG {w' : World} {nm ver : Nat} {h : Value} (u : Upd0 w env nm ver h w') {us : List Value} {rs : List RV} (hr : All2 (RepR w (qn cx env w)) us rs) : All2 (RepR w' (qn cx (env.put nm ver h) w')) us rs :=
 hr.mono fun _ _ => qln u
theorem Yq {t e : TypeId} (h : Wq P t = some e) : P.underlying t = some (.slice e) := by
 unfold Wq at h
 split at h
 ·simp at h; subst h; assumption
 ·simp at h
theorem Wk {t : TypeId} {cs : List AV} (h : zO P t = some cs) : ∃ i z, P.info? t = some i ∧ i.zero = some z ∧ cs = zd z.cells.toList := by
 unfold zO at h
 split at h
 ·rename_i i hi
  split at h
  ·rename_i z hz
   simp at h
   exact ⟨i, z, hi, hz, h.symm⟩
  ·simp at h
 ·simp at h
theorem qh3 : ∀ l : List Value, (zd l).length = l.length
 | [] => rfl
 | _ :: l => by simp [zd, qh3 l]
theorem V8 {t : TypeId} {i : TypeInfo} (h : P.info? t = some i) : P.cellsOf t = i.size := by simp [Program.cellsOf, h]
theorem qgZ {t : TypeId} {i : TypeInfo} (h : P.info? t = some i) : P.bytesOf t = i.bytes := by simp [Program.bytesOf, h]
set_option maxHeartbeats 2000000 in
theorem qLP (hm : Mem cx bl w env) {dst : Nat} (h100 : QS cx dst) {t t2 : TypeId} {sv xv : Value} {s x : AV} {e : Ef} (hs : Rep w (qn cx env w) env sv s) (hx : Rep w (qn cx env w) env xv x)
  (he : qn7 P R bl dst t t2 s x = some e) (hφ : zo e.φ) (ty : TypeId) : VOk P cx bl w env (Builtin.append_ #[t, t2] ty #[sv, xv]) e := by
 unfold qn7 at he
 split at he
 ·rename_i el hel
  have hu := Yq hel
  split at he
  ·rename_i τ hτ
   split at he
   ·rename_i l2 hl2
    split at he
    ·rename_i zc hzc
     obtain ⟨i, z, hi, hz, rfl⟩ := Wk hzc
     cases hq : (qy t t2 && (qy τ.sz (P.cellsOf el) && (qtH 1 τ.sz && (qtH 1 (P.bytesOf el) && qy (zd z.cells.toList).length τ.sz)))) <;> simp only [hq, qg, qj] at he
     ·simp at he
     simp only [qh] at hq
     obtain ⟨q1, q2, q3, q4, q5⟩ := hq
     have := qk q1
     subst this
     have hsz := qk q2
     have hpos := wj q3
     have hby := wj q4
     have hzs := qk q5
     rw [qh3] at hzs
     have hzs : z.cells.size = τ.sz := by simpa using hzs
     have hisz : i.size = τ.sz := by rw [← V8 hi]; exact hsz.symm
     have hib : i.bytes = P.bytesOf el := (qgZ hi).symm
     obtain ⟨A, c, rfl, hc, hA, us, hu1, hu2, hu3⟩ := qaO hm hx hl2
     have hone := qbp τ l2 us hu2
     have grow : ∀ (n : Nat), n * P.bytesOf el ≤ 140737488355328 → (n : Int) ≤ 9223372036854775807 ∧ n ≤ maxLen := fun n hn => by
      have : n ≤ n * P.bytesOf el := Nat.le_mul_of_pos_right _ hby
      unfold maxLen; omega
     split at he
     ·rename_i nm ver
      split at he
      ·rename_i t' τ' l0 hcb
       cases hq2 : qy t' el <;> simp only [hq2, qg, qj] at he
       ·simp at he
       have := qk hq2
       subst this
       split at he
       ·rename_i l1 hl1
        obtain ⟨rfl, rfl⟩ := ZO hl1
        simp at he; subst he
        have hbound : (l1.length + l2.length) * P.bytesOf t' ≤ 140737488355328 := hφ _ (by simp)
        obtain ⟨g1, g2⟩ := grow _ hbound
        obtain ⟨h, hh, hb⟩ := hm.blk _ _ _ (qZ hcb)
        have hse : sv = h := by
         cases hs with
         | own hr => exact wu hr hh
        subst hse
        have hvv : (env nm = none ∧ 100 ≤ nm) ∨ ∃ cv h0, env nm = some (cv, h0) ∧ cv < ver + 1 := .inr ⟨ver, _, hh, by omega⟩
        by_cases hl2e : l2 = []
        ·subst hl2e
         simp only [List.length_nil] at *
         have hrun : (Builtin.append_ #[t, t] ty #[sv, .slice A 0 c]).run P w = .ok sv w := by
          cases hb with
          | rowNil => exact VX hu hu hi ty _ _ _ _ _ (qR _)
          | row B _ _ _ cap vs hb hcap _ _ hs' hv => exact VX hu hu hi ty _ _ _ _ _ hcap
         have u : Upd0 w env nm (ver + 1) sv w := ⟨.inr ⟨ver, _, hh, .inl (by omega)⟩, Grew.refl _, fun _ _ _ => rfl, fun B q => .inr ⟨ver, _, hh, q⟩⟩
         refine ⟨_, _, _, hrun, wM hm (hm.see (qZ hcb)) ⟨u, ?_⟩, .own (vg _ _ _ _ rfl)⟩
         rw [zH]
         exact hb.mono (fun B hB => qh9 u hB) (fun _ _ _ => rfl) (qmO u) fun _ _ => rfl
        ·obtain ⟨B2, o2, rfl⟩ := hA.resolve_left hl2e
         have hn2 : 0 < l2.length := List.length_pos_iff.2 hl2e
         have hnews := qoW hu1 (hu3 B2 o2 rfl)
         cases hb with
         | rowNil _ _ a0 =>
          have hr : (Builtin.append_ #[t, t] ty #[.slice a0 0 0, .slice (some ⟨B2, o2, none⟩) l2.length c]).run P w = .ok (.slice (some ⟨w.heap.size, 0, none⟩) l2.length (grownCap w l2.length 0 t')) (w.drew.alloc (.cells (us.toArray ++ Builtin.zeroCells z.cells (grownCap w l2.length 0 t' - l2.length)) t')) := by
           cases a0 with
           | none => exact run_append_nil (P := P) w t ty t' i z hu hi hz ⟨B2, o2, none⟩ l2.length c us (by rw [hisz]; exact hu1) hnews hn2 (by simpa using g1) (by rw [hib]; simp at hbound; omega)
           | some a0 =>
            have := run_append_grow (P := P) w t ty t' i z hu hi hz a0 0 0 [] (by simp) (by simp) ⟨B2, o2, none⟩ l2.length c us (by rw [hisz]; exact hu1) hnews (by omega) (by simpa using g1) (growslice_fits (by omega) (by rw [hib]; simpa using hbound))
            simpa using this
          have u := VY (w' := w.drew.alloc (.cells (us.toArray ++ Builtin.zeroCells z.cells (grownCap w l2.length 0 t' - l2.length)) t')) hm hvv (.slice (some ⟨w.heap.size, 0, none⟩) l2.length (grownCap w l2.length 0 t')) _ rfl rfl rfl (zT (Nat.lt_of_lt_of_le hn2 (grownCap_ge w l2.length 0 t')))
          refine ⟨_, _, _, hr, wM hm (hm.see (qZ hcb)) ⟨u, ?_⟩, .own (vg _ _ _ _ rfl)⟩
          rw [wk]
          have hge := grownCap_ge w l2.length 0 t'
          refine Vl (us := us) (rest := (Builtin.zeroCells z.cells (grownCap w l2.length 0 t' - l2.length)).toList) rfl (heap_alloc_new w.drew _) hge (by omega) (grownCap_le_maxLen w _ _ t' (by simpa using g2)) ?_ (by simp) (WG u hu2)
          simp only [Array.size_append, List.size_toArray, size_zeroCells, hzs, hu1, ← W9]; congr 1; omega
         | row B _ _ _ cap vs hb hcap hc0 hmx hs' hv =>
          have hold : All2 (RepR w (qn cx env w)) (vs.toList.take (l1.length * τ'.sz)) (wD τ' l1) := All2.of_get Go.undef .undef (by simp [wF]; have := v7 τ'.sz hcap; omega) fun k hk => by
           rw [wF] at hk
           have := hv k hk
           simpa [List.getElem?_take, hk] using this
          by_cases hroom : l1.length + l2.length ≤ cap
          ·have hfit : l1.length * i.size + us.length ≤ vs.size := by rw [hu1, hs', hisz, ← W9]; exact v7 _ hroom
           have hr := run_append_room (P := P) w t ty t' i hu hi B l1.length cap vs hb ⟨B2, o2, none⟩ l2.length c us (by rw [hisz]; exact hu1) hnews hone hroom hfit
           rw [hisz] at hr hfit
           have u : Upd0 w env nm (ver + 1) (.slice (some ⟨B, 0, none⟩) (l1.length + l2.length) cap) (w.setRow B (vs.toList.take (l1.length * τ'.sz) ++ us ++ vs.toList.drop (l1.length * τ'.sz + us.length)).toArray) :=
            ⟨.inr ⟨ver, _, hh, .inl (by omega)⟩, ⟨by rw [qj8]; exact qR _, rfl, rfl⟩, fun B' _ hne => setRow_other w B B' _ fun e => hne _ _ hh (e ▸ zT hc0), fun B' q => .inr ⟨ver, _, hh, q⟩⟩
           refine ⟨_, _, _, hr, wM hm (hm.see (qZ hcb)) ⟨u, ?_⟩, .own (vg _ _ _ _ rfl)⟩
           exact Vl (us := vs.toList.take (l1.length * τ'.sz) ++ us) (rest := vs.toList.drop (l1.length * τ'.sz + us.length)) (by simp) (setRow_heap w B vs _ t' (0, 0) hb) hroom hc0 hmx (by simp only [List.size_toArray, qT, WZ, List.length_drop, Array.length_toList]; omega) (by simp) (by rw [qdg]; exact WG u (hold.append hu2))
          ·have holds : ∀ j v, (vs.toList.take (l1.length * τ'.sz))[j]? = some v → w.cell? ((⟨B, 0, none⟩ : Addr).add j) = some v := fun j v hv => by
            obtain ⟨hj, hv⟩ := List.getElem?_eq_some_iff.1 hv
            simp at hj
            rw [QT]
            simp at hv
            have hj2 : j < vs.size := by omega
            simp [World.cell?, hb, hj2, hv]
           have hlo : (vs.toList.take (l1.length * τ'.sz)).length = l1.length * τ'.sz := by simp; have := v7 τ'.sz hcap; omega
           have hr := run_append_grow (P := P) w t ty t' i z hu hi hz ⟨B, 0, none⟩ l1.length cap _ (by rw [hisz]; exact hlo) holds ⟨B2, o2, none⟩ l2.length c us (by rw [hisz]; exact hu1) hnews (by omega) (by exact g1) (growslice_fits (by omega) (by rw [hib]; exact hbound))
           have u := VY (w' := w.drew.alloc (.cells ((vs.toList.take (l1.length * τ'.sz)).toArray ++ us.toArray ++ Builtin.zeroCells z.cells (grownCap w (l1.length + l2.length) cap t' - (l1.length + l2.length))) t')) hm hvv (.slice (some ⟨w.heap.size, 0, none⟩) (l1.length + l2.length) (grownCap w (l1.length + l2.length) cap t')) _ rfl rfl rfl (zT (by have := grownCap_ge w (l1.length + l2.length) cap t'; omega))
           refine ⟨_, _, _, hr, wM hm (hm.see (qZ hcb)) ⟨u, ?_⟩, .own (vg _ _ _ _ rfl)⟩
           have hge := grownCap_ge w (l1.length + l2.length) cap t'
           exact Vl (us := vs.toList.take (l1.length * τ'.sz) ++ us) (rest := (Builtin.zeroCells z.cells (grownCap w (l1.length + l2.length) cap t' - (l1.length + l2.length))).toList) (by simp) (heap_alloc_new w.drew _) hge (by omega) (grownCap_le_maxLen w _ _ t' g2) (by
             simp only [Array.size_append, List.size_toArray, size_zeroCells, hzs, hu1, hlo, ← W9]; congr 1; omega) (by simp) (by rw [qdg]; exact WG u (hold.append hu2))
       ·simp at he
      ·simp at he
     ·simp at he; subst he
      have hbound : l2.length * P.bytesOf el ≤ 140737488355328 := hφ _ (by simp)
      obtain ⟨g1, g2⟩ := grow _ hbound
      have := qN hs
      subst this
      have hvv := QJ (bl := bl) hm h100
      by_cases hl2e : l2 = []
      ·subst hl2e
       have hrun : (Builtin.append_ #[t, t] ty #[.slice none 0 0, .slice A 0 c]).run P w = .ok (.slice none 0 0) w := VX hu hu hi ty _ _ _ _ _ (qR _)
       have u : Upd0 w env dst (q7 bl dst) (.slice none 0 0) w := ⟨hvv.imp id fun ⟨cv, h0, e, l⟩ => ⟨cv, h0, e, .inl l⟩, Grew.refl _, fun _ _ _ => rfl, fun B q => by simp [wx] at q⟩
       exact ⟨_, _, _, hrun, wM hm h100.2 ⟨u, .rowNil _ _ _⟩, .own (vg _ _ _ _ rfl)⟩
      ·obtain ⟨B2, o2, rfl⟩ := hA.resolve_left hl2e
       have hn2 : 0 < l2.length := List.length_pos_iff.2 hl2e
       have hnews := qoW hu1 (hu3 B2 o2 rfl)
       have hr := run_append_nil (P := P) w t ty el i z hu hi hz ⟨B2, o2, none⟩ l2.length c us (by rw [hisz]; exact hu1) hnews hn2 g1 (by rw [hib]; omega)
       have u := VY (w' := w.drew.alloc (.cells (us.toArray ++ Builtin.zeroCells z.cells (grownCap w l2.length 0 el - l2.length)) el)) hm hvv (.slice (some ⟨w.heap.size, 0, none⟩) l2.length (grownCap w l2.length 0 el)) _ rfl rfl rfl (zT (by have := grownCap_ge w l2.length 0 el; omega))
       refine ⟨_, _, _, hr, wM hm h100.2 ⟨u, ?_⟩, .own (vg _ _ _ _ rfl)⟩
       have hge := grownCap_ge w l2.length 0 el
       refine Vl (us := us) (rest := (Builtin.zeroCells z.cells (grownCap w l2.length 0 el - l2.length)).toList) rfl (heap_alloc_new w.drew _) hge (by omega) (grownCap_le_maxLen w _ _ el g2) ?_ (by simp) (WG u hu2)
       simp only [Array.size_append, List.size_toArray, size_zeroCells, hzs, hu1, ← W9]; congr 1; omega
     ·simp at he
    ·simp at he
   ·simp at he
  ·simp at he
 ·simp at he
end
end Go.AM
namespace Go.AM
open Go
section
variable {P : Program} {R : wT} {cx : Cx} {bl : qL} {w : World} {env : Env}
inductive OptR (w : World) (ok : Nat → Prop) (env : Env) : Option Value → Option AV → Prop
 | none : OptR w ok env none none
 | some {u x} (h : Rep w ok env u x) : OptR w ok env (some u) (some x)
def IsI (v : Option Value) (d n : Int) : Prop := (v = none ∧ n = d) ∨ ∃ k, v = some (.int k n)
theorem zC {v : Option Value} {x : Option AV} {d n : Int} (h : OptR w (qn cx env w) env v x) (e : VU x d = some n) : IsI v d n := by
 cases h with
 | none => simp [VU] at e; exact .inl ⟨rfl, e.symm⟩
 | some h =>
  simp only [VU] at e
  split at e
  ·rename_i k n' hn
   simp at e; subst e
   exact .inr ⟨k, by rw [Zb h hn]⟩
  ·simp at e
theorem XE {isS : Bool} {len cap : Nat} {lo hi : Option Value} {l h : Int} (hl : IsI lo 0 l) (hh : IsI hi len h) (h0 : 0 ≤ l) (h1 : l ≤ h) (h2 : h ≤ (cap : Int)) :
  (Instr.sliceBounds isS len cap lo hi none).run P w = .ok (l.toNat, h.toNat, cap) w := by
 have hnn : 0 ≤ h := by omega
 have hcast : ((h.toNat : Nat) : Int) = h := by omega
 rcases hl with ⟨rfl, rfl⟩ | ⟨k, rfl⟩ <;> rcases hh with ⟨rfl, rfl⟩ | ⟨k', rfl⟩ <;>
  simp [Instr.sliceBounds, run_sliceBound, h0, h1, h2, hnn, hcast]
theorem qFh {ok : Nat → Prop} {τ : RTy} {l : List τ.T} {B o cap a b : Nat} (h : RepR w ok (.slice (some ⟨B, o, none⟩) l.length cap) (.ro τ l)) (hok : l ≠ [] → ok B) (hab : a ≤ b) (hb : b ≤ l.length) (hbc : b ≤ cap) :
  RepR w ok (.slice (if cap = a then some ⟨B, o, none⟩ else some ⟨B, o + a * τ.sz, none⟩) (b - a) (cap - a)) (.ro τ ((l.drop a).take (b - a))) := by
 have hln : ((l.drop a).take (b - a)).length = b - a := by simp; omega
 by_cases hz : b - a = 0
 ·rw [hz]; simp; exact .nil _ _ _
 ·have hne : ¬ cap = a := by omega
  rw [qi hne]
  obtain ⟨us, h1, h2, h3⟩ := qaQ h
  have hl0 : l ≠ [] := fun e => by subst e; simp at hb; omega
  have hsub : ∀ k, k < (b - a) * τ.sz → a * τ.sz + k < l.length * τ.sz := fun k hk => by
   have : b * τ.sz ≤ l.length * τ.sz := v7 _ hb
   rw [show b = a + (b - a) by omega, W9] at this
   omega
  have := RepR.ro (w := w) (ok := ok) τ ((l.drop a).take (b - a)) B (o + a * τ.sz) (cap - a) (fun k => us.getD (a * τ.sz + k) Go.undef) (hok hl0) (by rw [hln]; omega) (fun k hk => by
   rw [hln] at hk
   rw [show o + a * τ.sz + k = o + (a * τ.sz + k) by omega]
   exact h2 _ (hsub k hk)) (fun k hk => by
   rw [hln] at hk
   rw [qg7, qg6]
   have := h3.get Go.undef .undef (a * τ.sz + k) (by rw [wF]; exact hsub k hk)
   simpa [List.getElem?_take, List.getElem?_drop, hk] using this)
  rw [hln] at this
  exact this
theorem qku {o : Option Int} (h : is0 o = true) : o = some 0 := by
 unfold is0 at h
 split at h
 ·split at h
  ·have := qk h
   subst this; rfl
  ·cases h
 ·cases h
theorem qQw (hm : Mem cx bl w env) {dst : Nat} (h100 : QS cx dst) {t : TypeId} {xv : Value} {x : AV} {lov hiv mxv : Option Value} {lo hi mx : Option AV} {e : Ef} (hmx : OptR w (qn cx env w) env mxv mx) (hx : Rep w (qn cx env w) env xv x) (hlo : OptR w (qn cx env w) env lov lo) (hhi : OptR w (qn cx env w) env hiv hi)
  (he : qsr P R bl dst t x lo hi mx = some e) (hφ : zo e.φ) : VOk P cx bl w env (Instr.sliceAt t xv lov hiv mxv) e := by
 unfold qsr at he
 split at he
 ·rename_i m
  split at he
  ·rename_i el hel
   split at he
   ·rename_i τ _
    split at he
    ·rename_i l hl
     cases hq : (is0 (VU lo 0) && (is0 (VU hi 1) && (is0 (VU (some m) 1) && (P.info? el).isSome))) <;> simp only [hq, qg, qj] at he
     ·simp at he
     simp only [qh] at hq
     obtain ⟨q1, q2, q3, q4⟩ := hq
     obtain ⟨ie, hie⟩ := zx q4
     have hu : P.underlying t = some (.slice el) := by
      unfold Wq at hel
      split at hel
      ·rename_i h; simp at hel; rw [h, hel]
      ·simp at hel
     simp at he; subst he
     have i1 := zC hlo (qku q1)
     have i2 := zC hhi (qku q2)
     have i3 := zC hmx (qku q3)
     obtain ⟨A, cap, rfl, _⟩ := qaO hm hx hl
     have hrun : (Instr.sliceAt t (.slice A l.length cap) lov hiv mxv).run P w = .ok (.slice A 0 0) w := by
      rcases i2 with ⟨_, h⟩ | ⟨k2, rfl⟩
      ·omega
      rcases i3 with ⟨_, h⟩ | ⟨k3, rfl⟩
      ·omega
      rcases i1 with ⟨rfl, _⟩ | ⟨k1, rfl⟩ <;>
       simp [Instr.sliceAt, Instr.slice, Instr.sliceBounds, run_sliceBound, run_underlying hu, w5 hie]
     have u0 : Upd0 w env dst (q7 bl dst) (.slice A 0 0) w := ⟨(QJ hm h100).imp id fun ⟨cv, h0, e, l⟩ => ⟨cv, h0, e, .inl l⟩, Grew.refl _, fun _ _ _ => rfl, fun B q => by rw [qNQ] at q; cases q⟩
     exact ⟨_, _, _, hrun, wM hm h100.2 ⟨u0, .rowNil _ _ _⟩, .own (vg _ _ _ _ rfl)⟩
    ·simp at he
   ·simp at he
  ·simp at he
 ·have hmn : mxv = none := by
   cases hmx with
   | none => rfl
  subst hmn
  clear hmx
  split at he
  ·rename_i hu
   split at he
   ·rename_i s
    split at he
    ·rename_i l hl
     split at he
     ·rename_i h hh
      simp at he; subst he
      have h0 : 0 ≤ l := hφ _ (by simp)
      have h1 : l ≤ h := hφ _ (by simp)
      have h2 : h ≤ (s.size : Int) := hφ _ (by simp)
      rw [qN hx]
      refine VOk.still hm ?_ (wn _)
      simp [Instr.sliceAt, Instr.slice, run_underlying hu, XE (zC hlo hl) (zC hhi hh) h0 h1 h2]
     ·simp at he
    ·simp at he
   ·simp at he
  ·rename_i el hu
   split at he
   ·rename_i τ l
    split at he
    ·rename_i a ha
     split at he
     ·rename_i b hb
      cases hq : (qy τ.sz (P.cellsOf el) && (P.info? el).isSome) <;> simp only [hq, qg, qj] at he
      ·simp at he
      simp only [qh] at hq
      have hsz := qk hq.1
      obtain ⟨ie, hie⟩ := zx hq.2
      simp at he; subst he
      have h0 : 0 ≤ a := hφ _ (by simp)
      have h1 : a ≤ b := hφ _ (by simp)
      have h2 : b ≤ (l.length : Int) := hφ _ (by simp)
      cases hx with
      | r h =>
       cases h with
       | nil _ A cap =>
        have hbb : b = 0 := by simp at h2; omega
        have haa : a = 0 := by omega
        subst hbb; subst haa
        have hbd := XE (P := P) (w := w) (isS := true) (len := 0) (cap := cap) (zC hlo ha) (zC hhi hb) (by omega) (by omega) (by omega)
        refine VOk.still hm (u := .slice (if cap = 0 then A else A.map (·.add (0 * P.cellsOf el))) 0 cap) ?_ (.r (.nil _ _ _))
        simp at hbd
        simp [Instr.sliceAt, Instr.slice, run_underlying hu, w5 hie, hbd]
       | ro _ _ B o cap g hB hcap hc hr =>
        have hbd := XE (P := P) (w := w) (isS := true) (len := l.length) (cap := cap) (zC hlo ha) (zC hhi hb) h0 h1 (by omega)
        have hs := qFh (RepR.ro τ l B o cap g hB hcap hc hr) (fun _ => hB) (a := a.toNat) (b := b.toNat) (by omega) (by omega) (by omega)
        refine VOk.still hm (u := .slice (if cap = a.toNat then some ⟨B, o, none⟩ else some ⟨B, o + a.toNat * τ.sz, none⟩) (b.toNat - a.toNat) (cap - a.toNat)) ?_ (.r hs)
        simp [Instr.sliceAt, Instr.slice, run_underlying hu, w5 hie, hbd, hsz, QT]
     ·simp at he
    ·simp at he
   ·rename_i nm ver
    split at he
    ·rename_i t' τ l hc
     split at he
     ·rename_i a ha
      split at he
      ·rename_i b hb
       cases hq : (qy τ.sz (P.cellsOf el) && (P.info? el).isSome) <;> simp only [hq, qg, qj] at he
       ·simp at he
       simp only [qh] at hq
       have hsz := qk hq.1
       obtain ⟨ie, hie⟩ := zx hq.2
       simp at he; subst he
       have h0 : 0 ≤ a := hφ _ (by simp)
       have h1 : a ≤ b := hφ _ (by simp)
       have h2 : b ≤ (l.length : Int) := hφ _ (by simp)
       obtain ⟨h, hh, hbk⟩ := hm.blk _ _ _ (qZ hc)
       have hxe : xv = h := by
        cases hx with
        | own hr => exact wu hr hh
       subst hxe
       cases hbk with
       | rowNil _ _ a0 =>
        have hbb : b = 0 := by simp at h2; omega
        have haa : a = 0 := by omega
        subst hbb; subst haa
        have hbd := XE (P := P) (w := w) (isS := true) (len := 0) (cap := 0) (zC hlo ha) (zC hhi hb) (by omega) (by omega) (by omega)
        refine VOk.still hm (u := .slice a0 0 0) ?_ (.sub ⟨ver, _, hh, qR _, fun _ => .inl ⟨by simp, a0, 0, rfl⟩⟩)
        simp at hbd
        simp [Instr.sliceAt, Instr.slice, run_underlying hu, w5 hie, hbd]
       | row B _ _ _ cap vs hb' hcap hc0 hmx hs hv =>
        have hbd := XE (P := P) (w := w) (isS := true) (len := l.length) (cap := cap) (zC hlo ha) (zC hhi hb) h0 h1 (by omega)
        refine VOk.still hm (u := .slice (if cap = a.toNat then some ⟨B, 0, none⟩ else some ⟨B, 0 + a.toNat * τ.sz, none⟩) (b.toNat - a.toNat) (cap - a.toNat)) ?_ (.sub ⟨ver, _, hh, qR _, fun _ => ?_⟩)
        ·simp [Instr.sliceAt, Instr.slice, run_underlying hu, w5 hie, hbd, hsz, QT]
        ·by_cases hz : cap = a.toNat
         ·left
          refine ⟨by omega, some ⟨B, 0, none⟩, cap - a.toNat, ?_⟩
          rw [qc hz]
          congr 1; omega
         ·right
          refine ⟨B, l.length, cap, cap - a.toNat, rfl, by omega, by omega, ?_⟩
          rw [qi hz]; simp
      ·simp at he
     ·simp at he
    ·simp at he
   ·simp at he
  ·simp at he
theorem qE6 {ok' : Nat → Prop} (hle : ∀ B, qn cx env w B → ok' B) {a : RTy} {x : AV} {u : Value} {l : List a.T} {z : List (Nat × Nat)} (h : Rep w (qn cx env w) env u x) (e : Xr [] a x = some (l, z)) : RepR w ok' u (.ro a l) := by
 unfold Xr at e
 split at e
 ·rename_i l' hl
  unfold QH at hl
  split at hl
  ·rename_i a' l0
   simp at e; obtain ⟨rfl, rfl⟩ := e
   obtain ⟨rfl, rfl⟩ := ZO hl
   cases h with
   | r h => exact h.mono hle fun _ _ _ => rfl
  ·simp at e; obtain ⟨rfl, rfl⟩ := e
   simp at hl; subst hl
   rw [qN h]
   exact .nil _ _ _
  ·simp [wP, qS] at hl
  ·simp [wP, qS] at hl
  ·simp at hl
 ·simp at e
theorem ZQ {ok' : Nat → Prop} (hle : ∀ B, qn cx env w B → ok' B) {τ : RTy} {cs : List AV} {us : List Value} {x : τ.T} (h : Rp w (qn cx env w) env us cs) (e : qfa τ cs = some x) : All2 (RepR w ok') us (qr τ x) := by
 unfold qfa at e
 split at e
 ·rename_i x' z hd
  simp at e; subst e
  unfold qdf at hd
  split at hd
  ·rename_i x'' z' hd'
   simp at hd; obtain ⟨rfl, rfl⟩ := hd
   obtain ⟨u1, u2, rfl, a1, a2⟩ := qco (cx := cx) (w := w) (env := env) (ok' := ok') (Z := fun _ => True) (f := Xr []) (fun a x u l z hr hl _ => qE6 hle hr hl) τ cs [] us x'' z' h hd' fun _ _ => trivial
   cases a2
   simpa using a1
  ·simp at hd
 ·simp at e
theorem qnD {τ : RTy} (d : τ.T) (n k : Nat) (x : RV) (hk : k < n * τ.sz) (hpos : 0 < τ.sz) : (wD τ (List.replicate n d)).getD k x = (qr τ d).getD (k % τ.sz) x := by
 have hmod : k % τ.sz < τ.sz := Nat.mod_lt _ hpos
 have hdiv : k / τ.sz < n := (Nat.div_lt_iff_lt_mul hpos).2 hk
 have hk' : k = k / τ.sz * τ.sz + k % τ.sz := by have := Nat.div_add_mod k τ.sz; rw [Nat.mul_comm] at this; exact this.symm
 conv => lhs; rw [hk']
 rw [XY τ x _ _ _ (by simpa using hdiv) hmod]
 simp [Va, hdiv]
theorem qxM (hm : Mem cx bl w env) {dst : Nat} (h100 : QS cx dst) {t : TypeId} {lv cv : Value} {l c : AV} {e : Ef} (hl : Rep w (qn cx env w) env lv l) (hc : Rep w (qn cx env w) env cv c)
  (he : qfR P R bl dst t l c = some e) (hφ : zo e.φ) : VOk P cx bl w env (Instr.makeSlice t lv cv) e := by
 unfold qfR at he
 split at he
 ·rename_i el hel
  have hu := Yq hel
  split at he
  ·rename_i τ hτ
   split at he
   ·rename_i kl n hn
    split at he
    ·rename_i kc m hmm
     split at he
     ·rename_i zc hzc
      split at he
      ·rename_i d hd
       cases hq : (qy τ.sz (P.cellsOf el) && qtH 1 τ.sz) <;> simp only [hq, qg, qj] at he
       ·simp at he
       simp only [qh] at hq
       have hsz := qk hq.1
       have hpos := wj hq.2
       simp at he; subst he
       have h0 : 0 ≤ n := hφ _ (by simp)
       have h1 : n ≤ m := hφ _ (by simp)
       have h2 : m * (P.bytesOf el : Int) ≤ 140737488355328 := hφ _ (by simp)
       have h3 : m ≤ 9223372036854775807 := hφ _ (by simp)
       obtain ⟨i, z, hi, hz, rfl⟩ := Wk hzc
       rw [Zb hl hn, Zb hc hmm]
       have hib := qgZ hi
       have hisz : i.size = τ.sz := by rw [← V8 hi]; exact hsz.symm
       have hr := run_make w t el i z hu hi hz kl kc n m h0 h1 (by rw [← hib, Int.mul_comm]; omega) h3
       rw [hisz] at hr
       have hzr : All2 (RepR w (qn cx env w)) z.cells.toList (qr τ d) := ZQ (fun _ h => h) (zQ _) hd
       have hzl : z.cells.size = τ.sz := by have := hzr.length; rw [wW] at this; simpa using this
       have hvv := QJ (bl := bl) hm h100
       by_cases hm0 : m.toNat = 0
       ·have hn0 : n.toNat = 0 := by omega
        have u := qtz (w' := w.alloc (.cells (madeCells z.cells (m.toNat * τ.sz)) el)) hm hvv (.slice (some ⟨w.heap.size, 0, none⟩) n.toNat m.toNat) _ rfl rfl rfl (by rw [hn0, hm0]; rfl)
        refine ⟨_, _, _, hr, wM hm h100.2 ⟨u, ?_⟩, .own (vg _ _ _ _ rfl)⟩
        rw [hn0, hm0]
        exact .rowNil _ _ _
       have u := VY (w' := w.alloc (.cells (madeCells z.cells (m.toNat * τ.sz)) el)) hm hvv (.slice (some ⟨w.heap.size, 0, none⟩) n.toNat m.toNat) _ rfl rfl rfl (zT (by omega))
       refine ⟨_, _, _, hr, wM hm h100.2 ⟨u, ?_⟩, .own (vg _ _ _ _ rfl)⟩
       have hrep := RepB.row (w := w.alloc (.cells (madeCells z.cells (m.toNat * τ.sz)) el)) (ok := qn cx (env.put dst (q7 bl dst) (.slice (some ⟨w.heap.size, 0, none⟩) n.toNat m.toNat)) (w.alloc (.cells (madeCells z.cells (m.toNat * τ.sz)) el))) (env := env.put dst (q7 bl dst) (.slice (some ⟨w.heap.size, 0, none⟩) n.toNat m.toNat))
        w.heap.size el τ (List.replicate n.toNat d) m.toNat _ (heap_alloc_new w _) (by simp; omega) (by omega) (by unfold maxLen; omega) (by rw [size_madeCells]) (fun k hk => by
         rw [List.length_replicate] at hk
         rw [qnD d _ _ _ hk hpos]
         have hmod : k % τ.sz < τ.sz := Nat.mod_lt _ hpos
         have hg := hzr.get Go.undef .undef (k % τ.sz) (by rw [wW]; exact hmod)
         have hlt : k < m.toNat * τ.sz := Nat.lt_of_lt_of_le hk (v7 _ (by omega))
         have e : (madeCells z.cells (m.toNat * τ.sz)).getD k Go.undef = z.cells.toList.getD (k % τ.sz) Go.undef := by
          have h5 : k % z.cells.size < z.cells.size := by rw [hzl]; exact hmod
          simp [madeCells, hlt, hzl, hmod]
         rw [e]
         exact qln u hg)
       rw [List.length_replicate] at hrep
       exact hrep
      ·simp at he
     ·simp at he
    ·simp at he
   ·simp at he
  ·simp at he
 ·simp at he
theorem qmL (hm : Mem cx bl w env) {τ : RTy} {env' : Env} {z0 : List (Nat × Nat)} (g : Given cx w env env' z0) : ∀ (qs : List (Nat × Value)) (ps : List (Nat × AV)) (k : Nat) (l : List τ.T) (z : List (Nat × Nat)) (pre suf : List Value),
  All2 (fun (q : Nat × Value) (p : Nat × AV) => q.1 = p.1 ∧ Rep w (qn cx env w) env q.2 p.2) qs ps → V5 bl τ ps k = some (l, z) → (∀ p ∈ z, p ∈ z0) → pre.length = k * τ.sz → suf.length = l.length * τ.sz →
  ∃ us : List Value, us.length = l.length * τ.sz ∧ All2 (RepR w (qn cx env' w)) us (wD τ l) ∧ Instr.fill (fun i => some (i * τ.sz, τ.sz)) (pre ++ suf).toArray qs = some (pre ++ us).toArray
 | _, [], k, l, z, pre, suf, .nil, e, _, _, hs => by
  simp [V5] at e; obtain ⟨rfl, rfl⟩ := e
  have : suf = [] := List.eq_nil_of_length_eq_zero (by simpa using hs)
  subst this
  exact ⟨[], by simp, .nil, by simp [Instr.fill]⟩
 | _, (i, x) :: ps, k, l, z, pre, suf, .cons (a := q) h t, e, hz, hp, hs => by
  obtain ⟨j, v⟩ := q
  obtain ⟨rfl, hv⟩ := h
  simp only [V5] at e
  cases hq : qy j k <;> simp only [hq, qg, qj] at e
  ·simp at e
  have hjk := qk hq
  subst hjk
  split at e
  ·rename_i cs hcs
   split at e
   ·rename_i y z1 hd
    split at e
    ·rename_i l2 z2 hp2
     simp at e; obtain ⟨rfl, rfl⟩ := e
     have h1 := qdP hm g (Zd hm hv hcs) hd fun p hp => hz p (by simp [hp])
     have hvl : v.cells.toList.length = τ.sz := by rw [h1.length, wW]
     have hsl : suf.length = τ.sz + l2.length * τ.sz := by rw [hs, wB, W9]; omega
     obtain ⟨us, u1, u2, u3⟩ := qmL hm g _ ps (j + 1) l2 z2 (pre ++ v.cells.toList) (suf.drop τ.sz) t hp2 (fun p hp => hz p (by simp [hp])) (by rw [qT, hp, hvl, W9]; omega) (by simp; omega)
     refine ⟨v.cells.toList ++ us, by rw [qT, hvl, u1, wB, W9]; omega, h1.append u2, ?_⟩
     have hvs : v.cells.size = τ.sz := by simpa using hvl
     have hle : ¬ (decide (v.cells.size ≠ τ.sz) || decide (j * τ.sz + v.cells.size > (pre ++ suf).toArray.size)) = true := by
      simp [hvs]; omega
     have hf : v.cells.zipIdx.foldl (fun cs (c, i) => cs.setIfInBounds (j * τ.sz + i) c) (pre ++ suf).toArray = ((pre ++ v.cells.toList) ++ suf.drop τ.sz).toArray := by
      have := qcI v.cells.toList 0 (j * τ.sz) (pre ++ suf) (by simp; omega)
      simp only [qS4] at this
      rw [hvl, ← hp] at this
      rw [← hp]
      have e1 : (pre ++ suf).take pre.length = pre := by simp
      have e2 : (pre ++ suf).drop (pre.length + τ.sz) = suf.drop τ.sz := by rw [← List.drop_drop]; simp
      rw [e1, e2] at this
      rw [← this, ← Array.foldl_toList]
      simp
     simp only [Instr.fill]
     rw [qi hle]
     first
     | (rw [hf]; rw [u3]; simp)
     | (simp only [hf]; rw [u3]; simp)
    ·simp at e
   ·simp at e
  ·simp at e
theorem qj0 {τ : RTy} : ∀ (ps : List (Nat × AV)) (k : Nat) (l : List τ.T) (z : List (Nat × Nat)), V5 bl τ ps k = some (l, z) → ∀ p ∈ z, 100 ≤ p.1 ∧ ∃ b, qS bl p.1 = some (p.2, b)
 | [], k, l, z, e => by simp [V5] at e; obtain ⟨rfl, rfl⟩ := e; simp
 | (i, x) :: ps, k, l, z, e => by
  simp only [V5] at e
  cases hq : qy i k <;> simp only [hq, qg, qj] at e
  ·simp at e
  split at e
  ·split at e
   ·rename_i y z1 hd
    split at e
    ·rename_i l2 z2 hp2
     simp at e; obtain ⟨rfl, rfl⟩ := e
     intro p hp
     rcases zX.1 hp with hp | hp
     ·exact Xb hd p hp
     ·exact qj0 ps (k + 1) l2 z2 hp2 p hp
    ·simp at e
   ·simp at e
  ·simp at e
theorem qjZ : ∀ (qs : List (Nat × Value)) (ps : List (Nat × AV)) (k : Nat) (cs : List AV) (pre suf : List Value),
  All2 (fun (q : Nat × Value) (p : Nat × AV) => q.1 = p.1 ∧ Rep w (qn cx env w) env q.2 p.2) qs ps → qhP ps k = some cs → pre.length = k → suf.length = cs.length →
  ∃ us : List Value, us.length = cs.length ∧ Rp w (qn cx env w) env us cs ∧ Instr.fill (fun i => some (i * 1, 1)) (pre ++ suf).toArray qs = some (pre ++ us).toArray
 | _, [], k, l, pre, suf, .nil, e, _, hs => by
  simp [qhP] at e; subst e
  have : suf = [] := List.eq_nil_of_length_eq_zero (by simpa using hs)
  subst this
  exact ⟨[], by simp, .nil, by simp [Instr.fill]⟩
 | _, (i, x) :: ps, k, l, pre, suf, .cons (a := q) h t, e, hp, hs => by
  obtain ⟨j, v⟩ := q
  obtain ⟨rfl, hv⟩ := h
  simp only [qhP] at e
  cases hq : qy j k <;> simp only [hq, qg, qj] at e
  ·simp at e
  have hjk := qk hq
  subst hjk
  split at e
  ·rename_i f a b
   split at e
   ·rename_i l2 hp2
    simp at e; subst e
    have hv1 : v.cells = #[v] := by
     cases hv with
     | fn => rfl
    have hsl : suf.length = 1 + l2.length := by rw [hs, wB]; omega
    obtain ⟨us, u1, u2, u3⟩ := qjZ _ ps (j + 1) l2 (pre ++ [v]) (suf.drop 1) t hp2 (by rw [qT, hp]; rfl) (by simp; omega)
    refine ⟨v :: us, by rw [wB, wB, u1], .cons hv u2, ?_⟩
    have hle : ¬ (decide (v.cells.size ≠ 1) || decide (j * 1 + v.cells.size > (pre ++ suf).toArray.size)) = true := by
     simp [hv1]; omega
    have hf : v.cells.zipIdx.foldl (fun cs (c, i) => cs.setIfInBounds (j * 1 + i) c) (pre ++ suf).toArray = ((pre ++ [v]) ++ suf.drop 1).toArray := by
     have := qcI v.cells.toList 0 (j * 1) (pre ++ suf) (by simp [hv1]; omega)
     simp only [qS4] at this
     rw [hv1, Nat.mul_one, ← hp] at this
     rw [Nat.mul_one, ← hp, hv1]
     have e1 : (pre ++ suf).take pre.length = pre := by simp
     have e2 : (pre ++ suf).drop (pre.length + 1) = suf.drop 1 := by rw [← List.drop_drop]; simp
     simp only [wB, List.length_nil, wX] at this
     rw [e1, e2] at this
     rw [← this, ← Array.foldl_toList]
     simp
    simp only [Instr.fill]
    rw [qi hle]
    first
    | (rw [hf]; rw [u3]; simp)
    | (simp only [hf]; rw [u3]; simp)
   ·simp at e
  ·simp at e
theorem qLQ (hm : Mem cx bl w env) {dst : Nat} (h100 : QS cx dst) {t el : TypeId} {n : Nat} {ps : List (Nat × AV)} {qs : List (Nat × Value)} {e : Ef} (h : All2 (fun (q : Nat × Value) (p : Nat × AV) => q.1 = p.1 ∧ Rep w (qn cx env w) env q.2 p.2) qs ps)
  (hu : P.underlying t = some (.slice el)) (he : qn8 P bl dst el n ps = some e) : VOk P cx bl w env (Instr.buildSlice t n qs.toArray) e := by
 unfold qn8 at he
 split at he
 ·rename_i cs hp
  split at he
  ·rename_i zc hzc
   cases hq : (qy cs.length n && (qy 1 (P.cellsOf el) && (qtH n 16777216 && (qtH 1 n && qy zc.length 1)))) <;> simp only [hq, qg, qj] at he
   ·simp at he
   simp only [qh] at hq
   obtain ⟨q1, q2, q3, q4, q5⟩ := hq
   have hln := qk q1
   have hsz := qk q2
   have hsm := wj q3
   have hpos := wj q4
   obtain ⟨i, zv, hi, hz, rfl⟩ := Wk hzc
   simp at he; subst he
   have hisz : i.size = 1 := by rw [← V8 hi]; exact hsz.symm
   subst hln
   obtain ⟨us, u1, u2, u3⟩ := qjZ (cx := cx) (w := w) (env := env) qs ps 0 cs [] ((Array.range (cs.length * i.size)).map (zv.cells[· % zv.cells.size]!)).toList h hp (by simp) (by simp [hisz])
   rw [wk, wk, Array.toArray_toList] at u3
   have hrun : (Instr.buildSlice t cs.length qs.toArray).run P w = .ok (.slice (some ⟨w.heap.size, 0, none⟩) cs.length cs.length) (w.alloc (.cells us.toArray el)) := by
    refine run_buildSlice w t el cs.length qs.toArray us.toArray i zv hu hi hz (by rw [hisz]; omega) (by rw [hisz]; omega) ?_
    rw [hisz] at u3 ⊢
    exact u3
   have u := VY (w' := w.alloc (.cells us.toArray el)) hm (QJ hm h100) (.slice (some ⟨w.heap.size, 0, none⟩) cs.length cs.length) _ rfl rfl rfl (zT (by omega))
   have hus : us.toArray.size = cs.length := by simpa using u1
   have hb := RepB.varS (w := w.alloc (.cells us.toArray el)) (ok := qn cx (env.put dst (q7 bl dst) (.slice (some ⟨w.heap.size, 0, none⟩) cs.length cs.length)) (w.alloc (.cells us.toArray el))) (env := env.put dst (q7 bl dst) (.slice (some ⟨w.heap.size, 0, none⟩) cs.length cs.length)) w.heap.size el us.toArray cs (heap_alloc_new w _) (by omega) (by unfold maxLen; omega) hus fun i hi => by
    have := qeG u (u2.get Go.undef .undef i hi)
    simpa using this
   rw [hus] at hb
   have T2 := wM hm (b := .var el cs) h100.2 ⟨u, hb⟩
   exact ⟨_, _, _, hrun, T2, .sub (vg _ _ _ _ (.inr ⟨_, _, _, _, rfl, by omega, qR _, by simp⟩))⟩
  ·simp at he
 ·simp at he
theorem qt6 (hm : Mem cx bl w env) {dst : Nat} (h100 : QS cx dst) {t : TypeId} {n : Nat} {ps : List (Nat × AV)} {qs : List (Nat × Value)} {e : Ef} (h : All2 (fun (q : Nat × Value) (p : Nat × AV) => q.1 = p.1 ∧ Rep w (qn cx env w) env q.2 p.2) qs ps)
  (he : qdz P R bl dst t n ps = some e) : VOk P cx bl w env (Instr.buildSlice t n qs.toArray) e := by
 unfold qdz at he
 split at he
 ·rename_i el hel
  have hu := Yq hel
  split at he
  ·rename_i τ hτ
   split at he
   ·rename_i l z hp
    split at he
    ·rename_i zc hzc
     cases hq : (qy l.length n && (qy τ.sz (P.cellsOf el) && (qtH (n * τ.sz) 16777216 && (qtH 1 τ.sz && (qy zc.length τ.sz && z.all fun p => !Nat.beq p.1 dst))))) <;> simp only [hq, qg, qj] at he
     ·simp at he
     simp only [qh] at hq
     obtain ⟨q1, q2, q3, q4, q5, q6⟩ := hq
     have hln := qk q1
     have hsz := qk q2
     have hsm := wj q3
     have hpos := wj q4
     have hzl := qk q5
     obtain ⟨i, zv, hi, hz, rfl⟩ := Wk hzc
     simp at he; subst he
     have hisz : i.size = τ.sz := by rw [← V8 hi]; exact hsz.symm
     obtain ⟨env1, T1, G⟩ := qxs hm (qj0 ps 0 l z hp)
     have run : ∃ us : List Value, us.length = l.length * τ.sz ∧ All2 (RepR w (qn cx env1 w)) us (wD τ l) ∧ (Instr.buildSlice t n qs.toArray).run P w = .ok (.slice (some ⟨w.heap.size, 0, none⟩) n n) (w.alloc (.cells us.toArray el)) := by
      subst hln
      obtain ⟨us, u1, u2, u3⟩ := qmL hm G qs ps 0 l z [] ((Array.range (l.length * i.size)).map (zv.cells[· % zv.cells.size]!)).toList h hp (fun p hp => hp) (by simp) (by simp [hisz])
      refine ⟨us, u1, u2, ?_⟩
      rw [wk, wk, Array.toArray_toList] at u3
      by_cases h0 : l.length * i.size = 0
      ·have hl0 : l.length = 0 := by
        rcases Nat.mul_eq_zero.1 h0 with h | h
        ·exact h
        ·omega
       have hle : l = [] := List.eq_nil_of_length_eq_zero hl0
       subst hle
       have hus : us = [] := List.eq_nil_of_length_eq_zero (by simpa using u1)
       subst hus
       have ha : ∀ f : Nat → Value, Array.map f (Array.range 0) = #[] := fun f => by simp [Array.range_zero']
       simp only [List.length_nil, Nat.zero_mul, ha] at u3
       rw [← hisz] at u3
       simp [Instr.buildSlice, run_underlying hu, sizeOf, typeInfo, hi, newRow, ha, u3]
      ·refine run_buildSlice w t el l.length qs.toArray us.toArray i zv hu hi hz (by rw [hisz]; omega) h0 ?_
       rw [hisz] at u3 ⊢
       exact u3
     obtain ⟨us, u1, u2, hrun⟩ := run
     have hnv : q7 (we bl (vE z)) dst = q7 bl dst ∨ True := .inr trivial
     have hvv : (env1 dst = none ∧ 100 ≤ dst) ∨ ∃ cv h0, env1 dst = some (cv, h0) ∧ cv < q7 bl dst := by
      have hd : env1 dst = env dst := by
       rcases G.alt dst with e | ⟨v, hv, e⟩
       ·exact e
       ·have := vB.1 q6 (dst, v) hv
        simp at this
      rw [hd]
      exact QJ hm h100
     by_cases hn0 : n = 0
     ·have hl0 : l = [] := List.length_eq_zero_iff.1 (by omega)
      have u := qtz (w' := w.alloc (.cells us.toArray el)) T1.mem hvv (.slice (some ⟨w.heap.size, 0, none⟩) n n) _ rfl rfl rfl (by rw [hn0]; rfl)
      have T2 := wM T1.mem (b := .row el τ l) h100.2 ⟨u, by rw [hn0, hl0]; exact .rowNil _ _ _⟩
      exact ⟨_, _, _, hrun, by rw [Wi]; exact T1.trans T2, .own (vg _ _ _ _ rfl)⟩
     have u := VY (w' := w.alloc (.cells us.toArray el)) T1.mem hvv (.slice (some ⟨w.heap.size, 0, none⟩) n n) _ rfl rfl rfl (zT (by omega))
     have T2 := wM T1.mem (b := .row el τ l) h100.2 ⟨u, Vl (us := us) (rest := []) hln (heap_alloc_new w _) (qR _) (by omega) (by
      have : n ≤ n * τ.sz := Nat.le_mul_of_pos_right _ hpos
      unfold maxLen; omega) (by simp [u1, hln]) (by simp) (WG u u2)⟩
     exact ⟨_, _, _, hrun, by rw [Wi]; exact T1.trans T2, .own (vg _ _ _ _ rfl)⟩
    ·simp at he
   ·exact qLQ hm h100 h hu he
  ·simp at he
 ·simp at he
end
end Go.AM
namespace Go.AM
open Go
section
variable {P : Program} {R : wT} {cx : Cx} {bl : qL} {w : World} {env : Env}
theorem V4 {ok : Nat → Prop} : ∀ (τ : RTy) (x : τ.T) (us : List Value), τ.flat = true → All2 (RepR w ok) us (qr τ x) → us = wy τ x
 | .int _, _, _, _, .cons h .nil => by cases h; rfl
 | .bool, _, _, _, .cons h .nil => by cases h; rfl
 | .str, _, _, _, .cons h .nil => by cases h; rfl
 | .fn, _, _, _, .cons h .nil => by cases h; rfl
 | .unit, _, _, _, .nil => rfl
 | .pair a b, p, us, hf, h => by
  simp only [RTy.flat, qh] at hf
  obtain ⟨u1, u2, rfl, h1, h2⟩ := qaD (m1 := qr a p.1) h
  rw [V4 a _ _ hf.1 h1, V4 b _ _ hf.2 h2]; rfl
theorem Qe : ∀ (τ : RTy) (x : τ.T), τ.flat = true → (wy τ x).length = τ.sz
 | .int _, _, _ => rfl
 | .bool, _, _ => rfl
 | .str, _, _ => rfl
 | .fn, _, _ => rfl
 | .unit, _, _ => rfl
 | .pair a b, p, h => by
  simp only [RTy.flat, qh] at h
  simp [wy, RTy.sz, Qe a _ h.1, Qe b _ h.2]
def qdG (P : Program) (t : TypeId) (τ : RTy) (x : τ.T) : Value := match zm P t with
 | some true => .agg (wy τ x).toArray
 | _ => (wy τ x).headD Go.undef
def qHK (P : Program) (n : Nat) (t : TypeId) (τ : RTy) : Prop :=
 τ.flat = true ∧ (∃ b, zm P t = some b ∧ (b = false → τ.sz = 1)) ∧ ∀ (d : Nat) (x y : τ.T) (w : World), n ≤ d → (Op.equalIn d t (qdG P t τ x) (qdG P t τ y)).run P w = .ok (Vd τ x y) w
theorem qcR {t : TypeId} {τ : RTy} (hf : τ.flat = true) {b : Bool} (ha : zm P t = some b) (hb : b = false → τ.sz = 1) (hc : P.cellsOf t = τ.sz) (x : τ.T) (pre suf : List Value) (w : World) :
  (part t (pre ++ wy τ x ++ suf).toArray pre.length).run P w = .ok (qdG P t τ x) w := by
 have hl := Qe τ x hf
 cases b with
 | true =>
  obtain ⟨d, hd⟩ := Yr ha
  have e : (pre ++ wy τ x ++ suf).toArray.extract pre.length (pre.length + P.cellsOf t) = (wy τ x).toArray := by
   rw [hc]
   simp [List.extract_eq_take_drop, qeY, hl]
  simp only [part, Sem.run_bind, WB ha, Result.andThen_ok, if_true, qb6 hd, e, Sem.run_pure]
  simp [qdG, ha]
 | false =>
  have h1 := hb rfl
  rw [h1] at hl
  have hh : ∃ u, wy τ x = [u] := by
   cases hv : wy τ x with
   | nil => rw [hv] at hl; simp at hl
   | cons u r =>
    rw [hv] at hl
    simp at hl
    exact ⟨u, by rw [hl]⟩
  obtain ⟨u, hu⟩ := hh
  simp only [part, Sem.run_bind, WB ha, Result.andThen_ok, qE, if_false]
  simp [hu, qdG, ha]
theorem qjP {f : TypeId → RTy → Bool} {n : Nat} (hf : ∀ t τ, f t τ = true → qHK P n t τ) : ∀ (fs : List Field) (off : Nat) (τ : RTy), W3 P f off fs τ = true →
  τ.flat = true ∧ ∀ (d : Nat) (x y : τ.T) (pre pre' suf suf' : List Value) (w : World), n ≤ d → pre.length = off → pre'.length = off →
   (Op.eqFields d (pre ++ wy τ x ++ suf).toArray (pre' ++ wy τ y ++ suf').toArray fs).run P w = .ok (Vd τ x y) w
 | [], off, τ, h => by simp [W3] at h
 | [x], off, τ, h => by
  simp only [W3, qh] at h
  obtain ⟨h1, h2, h3, h4⟩ := h
  have h1 : x.name ≠ "_" := by simpa using h1
  have h2 := qk h2
  have h4 := qk h4
  obtain ⟨hfl, ⟨b, ha, hb⟩, he⟩ := hf _ _ h3
  refine ⟨hfl, fun d a c pre pre' suf suf' w hd hp hp' => ?_⟩
  have p1 := qcR (P := P) hfl ha hb h4 a pre suf w
  have p2 := qcR (P := P) hfl ha hb h4 c pre' suf' w
  rw [hp] at p1
  rw [hp'] at p2
  simp only [Op.eqFields, h1, ne_eq, not_false_eq_true, if_true, Sem.run_bind, h2, p1, p2, Result.andThen_ok, he d a c w hd, Sem.run_ite, Sem.run_pure]
  cases Vd τ a c <;> simp
 | x :: y :: r, off, τ, h => by
  simp only [W3, qh] at h
  obtain ⟨h1, h2, h3⟩ := h
  have h1 : x.name ≠ "_" := by simpa using h1
  have h2 := qk h2
  cases τ with
  | pair a b =>
   simp only [qh] at h3
   obtain ⟨h3, h4, h5⟩ := h3
   have h4 := qk h4
   obtain ⟨hfl, ⟨bb, ha, hb⟩, he⟩ := hf _ _ h3
   have h5' : W3 P f (off + a.sz) (y :: r) b = true := by simpa only [W3, qh] using h5
   obtain ⟨hfl2, ih⟩ := qjP hf (y :: r) (off + a.sz) b h5'
   refine ⟨by simp [RTy.flat, hfl, hfl2], fun d u v pre pre' suf suf' w hd hp hp' => ?_⟩
   have p1 := qcR (P := P) hfl ha hb h4 u.1 pre (wy b u.2 ++ suf) w
   have p2 := qcR (P := P) hfl ha hb h4 v.1 pre' (wy b v.2 ++ suf') w
   rw [hp] at p1
   rw [hp'] at p2
   have e1 : pre ++ wy (.pair a b) u ++ suf = pre ++ wy a u.1 ++ (wy b u.2 ++ suf) := by simp [wy]
   have e2 : pre' ++ wy (.pair a b) v ++ suf' = pre' ++ wy a v.1 ++ (wy b v.2 ++ suf') := by simp [wy]
   have i := ih d u.2 v.2 (pre ++ wy a u.1) (pre' ++ wy a v.1) suf suf' w hd (by simp [hp, Qe a _ hfl]) (by simp [hp', Qe a _ hfl])
   rw [e1, e2]
   simp only [qeY] at i p1 p2 ⊢
   rw [Op.eqFields]
   simp only [h1, ne_eq, not_false_eq_true, if_true, Sem.run_bind, h2, p1, p2, Result.andThen_ok, he d u.1 v.1 w hd, Sem.run_ite, Sem.run_pure]
   simp only [Vd]
   cases Vd a u.1 v.1
   ·simp
   ·simpa using i
  | _ => simp at h3
theorem ql6 : ∀ (n : Nat) (t : TypeId) (τ : RTy), qfb P n t τ = true → qHK P n t τ
 | 0, t, τ, h => by simp [qfb] at h
 | n + 1, t, τ, h => by
  simp only [qfb] at h
  split at h
  ·rename_i k hu
   cases τ <;> simp at h
   subst h
   have ha : zm P t = some false := by simp [zm, hu]
   refine ⟨rfl, ⟨false, ha, fun _ => rfl⟩, fun d x y w hd => ?_⟩
   obtain ⟨d, rfl⟩ := qW (by omega : 0 < d)
   simp only [qdG, ha]
   exact run_equalIn_int (P := P) w d t _ _ x y hu
  ·rename_i hu
   cases τ <;> simp at h
   have ha : zm P t = some false := by simp [zm, hu]
   refine ⟨rfl, ⟨false, ha, fun _ => rfl⟩, fun d x y w hd => ?_⟩
   obtain ⟨d, rfl⟩ := qW (by omega : 0 < d)
   simp only [qdG, ha]
   exact run_equalIn_bool' (P := P) w d t x y hu
  ·rename_i hu
   cases τ <;> simp at h
   have ha : zm P t = some false := by simp [zm, hu]
   refine ⟨rfl, ⟨false, ha, fun _ => rfl⟩, fun d x y w hd => ?_⟩
   obtain ⟨d, rfl⟩ := qW (by omega : 0 < d)
   simp only [qdG, ha]
   exact run_equalIn_string (P := P) w d t x y hu
  ·rename_i fs hu
   simp only [qh] at h
   obtain ⟨h1, h2⟩ := h
   have ha : zm P t = some true := by simp [zm, hu]
   obtain ⟨hfl, ih⟩ := qjP (fun t τ h => ql6 n t τ h) _ _ _ h2
   refine ⟨hfl, ⟨true, ha, fun h => by simp at h⟩, fun d x y w hd => ?_⟩
   obtain ⟨d, rfl⟩ := qW (by omega : 0 < d)
   have hfo : P.fieldsOf t = fs := by simp [Program.fieldsOf, hu]
   simp only [qdG, ha]
   rw [run_equalIn_struct (P := P) w d t _ _ (by rw [hfo]; exact hu) (by simpa using h1), hfo]
   simpa using ih d x y [] [] [] [] w (by omega) rfl rfl
  ·simp at h
theorem qbq {f : TypeId → RTy → Bool} (d : Nat) (hf : ∀ t τ, f t τ = true → P.eqGuardType d t = false) : ∀ (fs : List Field) (off : Nat) (τ : RTy), W3 P f off fs τ = true → ∀ x ∈ fs, P.eqGuardType d x.type = false
 | [], off, τ, h => by simp [W3] at h
 | [x], off, τ, h => by
  simp only [W3, qh] at h
  intro y hy
  simp at hy; subst hy
  exact hf _ _ h.2.2.1
 | x :: y :: r, off, τ, h => by
  simp only [W3, qh] at h
  obtain ⟨h1, h2, h3⟩ := h
  cases τ with
  | pair a b =>
   simp only [qh] at h3
   obtain ⟨h3, h4, h5⟩ := h3
   have h5' : W3 P f (off + a.sz) (y :: r) b = true := by simpa only [W3, qh] using h5
   intro z hz
   rcases qK.1 hz with e | hz
   ·subst e; exact hf _ _ h3
   ·exact qbq d hf (y :: r) _ b h5' z hz
  | _ => simp at h3
theorem ql5 : ∀ (n d : Nat) (t : TypeId) (τ : RTy), qfb P n t τ = true → n ≤ d → P.eqGuardType d t = false
 | 0, d, t, τ, h, _ => by simp [qfb] at h
 | n + 1, d, t, τ, h, hd => by
  obtain ⟨d, rfl⟩ := qW (by omega : 0 < d)
  simp only [qfb] at h
  simp only [Program.eqGuardType]
  split at h
  ·rename_i hu; simp [hu]
  ·rename_i hu; simp [hu]
  ·rename_i hu; simp [hu]
  ·rename_i fs hu
   simp only [qh] at h
   have := qbq d (fun t τ h => ql5 n d t τ h (by omega)) _ _ _ h.2
   rw [hu]
   simp only
   rw [← Array.any_toList]
   rw [List.any_eq_false]
   intro x hx
   simp [this x hx]
  ·simp at h
theorem qEP (P : Program) : 8 ≤ P.depth := by
 unfold Program.depth
 have : 8 ≤ 2 * Made.depth := by decide
 omega
theorem qSa (hm : Mem cx bl w env) {op : BinOp} {t : TypeId} {xo yo : Operand} {xv yv : Value} {x y : AV} {e : Ef} (hx : Rep w (qn cx env w) env xv x) (hy : Rep w (qn cx env w) env yv y) (he : qE9 P R bl op t x y = some e) (hφ : zo e.φ) :
  VOk P cx bl w env (do eqGuard op t xo yo xv yv; binOp op t xv yv) e := by
 have guard : ∀ {u v : Value} {s : Sem Value} {r : Value}, (∀ a b, (u, v) ≠ (.agg a, .agg b)) → (u, v) ≠ (.nilIface, .nilIface) → s.run P w = .ok r w → (do eqGuard op t xo yo u v; s : Sem Value).run P w = .ok r w := fun {u v s r} h1 h2 h3 => by
  have : (eqGuard op t xo yo u v).run P w = .ok () w := by
   unfold eqGuard
   cases op <;> first | rfl | (cases u <;> cases v <;> first | rfl | exact absurd rfl (h1 _ _) | exact absurd rfl h2)
  rw [Sem.run_bind, this]
  exact h3
 unfold qE9 at he
 split at he
 ·rename_i k a
  split at he
  ·rename_i k' b
   have := qN hx; subst this
   have := qN hy; subst this
   split at he
   ·split at he
    ·rename_i hk
     subst hk
     simp at he; subst he
     have h0 : b ≠ 0 := hφ _ (by simp)
     exact VOk.still hm (guard (by simp) (by simp) (by simp [binOp, Op.intDiv, h0])) (wn _)
    ·simp at he
   ·split at he
    ·rename_i hk
     subst hk
     simp at he; subst he
     have h0 : b ≠ 0 := hφ _ (by simp)
     exact VOk.still hm (guard (by simp) (by simp) (by simp [binOp, Op.intDiv, h0])) (wn _)
    ·simp at he
   ·simp at he; subst he
    have h0 : 0 ≤ b := hφ _ (by simp)
    have h1 : ¬ b < 0 := by omega
    exact VOk.still hm (guard (by simp) (by simp) (by simp [binOp, Op.shift, h1])) (wn _)
   ·simp at he; subst he
    have h0 : 0 ≤ b := hφ _ (by simp)
    have h1 : ¬ b < 0 := by omega
    exact VOk.still hm (guard (by simp) (by simp) (by simp [binOp, Op.shift, h1])) (wn _)
   ·split at he
    ·rename_i v hv
     simp at he; subst he
     exact VOk.still hm (guard (by simp) (by simp) (WY P _ _ hv w)) (wn _)
    ·simp at he
  ·simp at he
 ·rename_i a
  split at he
  ·rename_i b
   have := qN hx; subst this
   have := qN hy; subst this
   split at he
   ·rename_i hu
    split at he
    ·simp at he; subst he
     exact VOk.still hm (guard (by simp) (by simp) (by simp [binOp, run_equal_bool w t a b hu])) (wn _)
    ·simp at he; subst he
     exact VOk.still hm (guard (by simp) (by simp) (by simp [binOp, run_equal_bool w t a b hu])) (wn _)
    ·simp at he
   ·simp at he
  ·simp at he
 ·rename_i a
  split at he
  ·rename_i b
   have := qN hx; subst this
   have := qN hy; subst this
   split at he
   ·simp at he; subst he
    have h0 : ((a.size + b.size : Nat) : Int) ≤ IntKind.i64.max := hφ _ (by simp)
    have h1 : ¬ ((a.size + b.size : Nat) : Int) > IntKind.i64.max := by omega
    exact VOk.still hm (guard (by simp) (by simp) (by
     show (Op.stringOp .add a b).run P w = _
     unfold Op.stringOp
     simp only
     rw [qi h1]
     rfl)) (wn _)
   ·split at he
    ·rename_i v hv
     simp at he; subst he
     exact VOk.still hm (guard (by simp) (by simp) (WY P _ _ hv w)) (wn _)
    ·simp at he
  ·simp at he
 ·rename_i l
  split at he
  ·rename_i m
   split at he
   ·rename_i τ hτ
    split at he
    ·rename_i p hp
     split at he
     ·rename_i q hq
      cases hc : (qfb P 8 t τ && Wc P t true) <;> simp only [hc, qg, qj] at he
      ·simp at he
      simp only [qh] at hc
      obtain ⟨c1, c2⟩ := hc
      have ha : zm P t = some true := by
       unfold Wc at c2
       split at c2
       ·rename_i b hb; rw [hb]; simp at c2; rw [c2]
       ·simp at c2
      obtain ⟨hfl, _, heq⟩ := ql6 8 t τ c1
      have hg := ql5 8 P.depth t τ c1 (qEP P)
      obtain ⟨us, rfl, hu⟩ := zM hx
      obtain ⟨vs, rfl, hv⟩ := zM hy
      have e1 := V4 τ p _ hfl (ZQ (ok' := qn cx env w) (fun _ h => h) hu hp)
      have e2 := V4 τ q _ hfl (ZQ (ok' := qn cx env w) (fun _ h => h) hv hq)
      have e1 : us = (wy τ p).toArray := by rw [← e1]
      have e2 : vs = (wy τ q).toArray := by rw [← e2]
      have hgr : (eqGuard op t xo yo (.agg us) (.agg vs)).run P w = .ok () w := by
       unfold eqGuard
       cases op <;> simp [hg]
      have hr := heq 10000 p q w (by omega)
      simp only [qdG, ha, ← e1, ← e2] at hr
      have hr : (Op.equal t (.agg us) (.agg vs)).run P w = .ok (Vd τ p q) w := hr
      split at he
      ·simp at he; subst he
       refine VOk.still hm (u := .bool (Vd τ p q)) ?_ (wn _)
       rw [Sem.run_bind, hgr, Result.andThen_ok]
       simp [binOp, hr]
      ·simp at he; subst he
       refine VOk.still hm (u := .bool (!(Vd τ p q))) ?_ (wn _)
       rw [Sem.run_bind, hgr, Result.andThen_ok]
       simp [binOp, hr]
      ·simp at he
     ·simp at he
    ·simp at he
   ·simp at he
  ·simp at he
 ·rename_i nm ver o
  split at he
  ·have := qN hy; subst this
   split at he
   ·rename_i el hu
    cases hq : (wP bl nm ver).isSome <;> simp only [hq, qg, qj] at he
    ·simp at he
    obtain ⟨b, hb⟩ := zx hq
    obtain ⟨h, hh, _⟩ := hm.blk _ _ _ (qZ hb)
    have aux : ∃ B, xv = .pointer (some ⟨B, o, none⟩) := by
     cases hx with
     | ptr hr => obtain ⟨B, _, e⟩ := wu hr hh; exact ⟨B, e⟩
    obtain ⟨B, rfl⟩ := aux
    have heq : (Op.equal t (.pointer (some ⟨B, o, none⟩)) (.pointer none)).run P w = .ok false w := by
     have h1 : ∀ d, (Op.equalIn (d + 1) t (.pointer (some ⟨B, o, none⟩)) (.pointer none)).run P w = .ok false w := fun d => by
      rw [Op.equalIn, Sem.run_bind, run_underlying hu]
      rfl
     exact h1 9999
    split at he
    ·simp at he; subst he
     exact VOk.still hm (guard (by simp) (by simp) (by simp [binOp, heq])) (wn _)
    ·simp at he; subst he
     exact VOk.still hm (guard (by simp) (by simp) (by simp [binOp, heq])) (wn _)
    ·simp at he
   ·simp at he
  ·simp at he
 ·simp at he
end
end Go.AM
namespace Go.AM
open Go MapKept
section
variable {P : Program} {R : wT} {cx : Cx} {bl : qL} {w : World} {env : Env}
def qwR (ag : Bool) (κ τ : RTy) (e : MapEntry) (p : κ.T × τ.T) : Prop := e.key = zn false κ p.1 ∧ e.val = zn ag τ p.2
theorem qkx {κ : RTy} {k : TypeId} (h : qr9 P κ k = true) : ∃ d, P.underlying k = some d ∧ (∀ a : κ.T, IsKey d (zn false κ a)) ∧ (∀ a : κ.T, ∃ u, qr κ a = [.v u] ∧ zn false κ a = u ∧ wy κ a = [u]) ∧
  ∀ a b : κ.T, Instr.sameNow d (zn false κ a) (zn false κ b) = some (Vc κ a b) ∧ (Vc κ a b = true → zn false κ a = zn false κ b) := by
 cases κ <;> simp only [qr9] at h
 ·split at h
  ·rename_i q _ q' hu
   simp at h; subst h
   refine ⟨_, hu, fun a => rfl, fun a => ⟨_, rfl, rfl, rfl⟩, fun a b => ⟨by simp [zn, wy, Instr.sameNow, Vc], fun e => ?_⟩⟩
   simp [Vc] at e
   simp [zn, wy, e]
  ·simp at h
 ·split at h
  ·rename_i hu
   refine ⟨_, hu, fun a => trivial, fun a => ⟨_, rfl, rfl, rfl⟩, fun a b => ⟨by simp [zn, wy, Instr.sameNow, Vc], fun e => ?_⟩⟩
   simp [Vc] at e
   simp [zn, wy, e]
  ·simp at h
 ·split at h
  ·rename_i hu
   refine ⟨_, hu, fun a => trivial, fun a => ⟨_, rfl, rfl, rfl⟩, fun a b => ⟨by simp [zn, wy, Instr.sameNow, Vc], fun e => ?_⟩⟩
   have : a = b := by
    simp only [Vc] at e
    rw [beq_toListBytes] at e
    have := eq_of_beq e
    rw [ByteArray.toList_eq, ByteArray.toList_eq] at this
    obtain ⟨⟨x⟩⟩ := a
    obtain ⟨⟨y⟩⟩ := b
    simp at this
    rw [this]
   rw [this]
  ·simp at h
 ·simp at h
 ·simp at h
 ·simp at h
 ·simp at h
theorem qds {ag : Bool} {κ τ : RTy} {d : TypeDesc} (key : κ.T) (hs : ∀ a b : κ.T, Instr.sameNow d (zn false κ a) (zn false κ b) = some (Vc κ a b) ∧ (Vc κ a b = true → zn false κ a = zn false κ b)) :
  ∀ (es : List MapEntry) (l : List (κ.T × τ.T)), All2 (qwR ag κ τ) es l → ∀ j, (Instr.findNow d (zn false κ key) es j = some none ∧ wb κ key l = none ∧ ∀ y, zP κ key y l = l ++ [(key, y)]) ∨
   ∃ i p, Instr.findNow d (zn false κ key) es j = some (some (j + i, zn ag τ p.2)) ∧ l[i]? = some p ∧ wb κ key l = some p.2 ∧ (∀ y, zP κ key y l = l.set i (key, y)) ∧ zn false κ key = zn false κ p.1
 | [], [], .nil, j => .inl ⟨rfl, rfl, fun _ => rfl⟩
 | e :: es, p :: l, .cons h t, j => by
  obtain ⟨s1, s2⟩ := hs key p.1
  cases hq : Vc κ key p.1 with
  | true =>
   right
   rw [hq] at s1
   refine ⟨0, p, ?_, rfl, by simp [wb, hq], fun y => by simp [zP, hq], s2 hq⟩
   simp [Instr.findNow, h.1, s1, h.2]
  | false =>
   rw [hq] at s1
   rcases qds key hs es l t (j + 1) with ⟨a, b, c⟩ | ⟨i, p', a, b, c, d', e'⟩
   ·left
    refine ⟨by simp [Instr.findNow, h.1, s1, a], by simp [wb, hq, b], fun y => by simp [zP, hq, c]⟩
   ·right
    refine ⟨i + 1, p', ?_, by simpa using b, by simp [wb, hq, c], fun y => by simp [zP, hq, d'], e'⟩
    simp only [Instr.findNow, h.1, s1, a]
    congr 3; omega
theorem qsh {h : Value} {ag : Bool} {κ τ : RTy} {l : List (κ.T × τ.T)} (hb : RepB w (qn cx env w) env h (.map ag κ τ l)) :
  ∃ r es clock, h = .map (some r) ∧ w.heap[r]? = some (.map es clock) ∧ All2 (qwR ag κ τ) es.toList l := by
 cases hb with
 | map r _ _ _ _ es clock hb hs hk =>
  refine ⟨r, es, clock, rfl, hb, All2.of_get default (κ.dflt, τ.dflt) (by simpa using hs) fun i hi => ?_⟩
  obtain ⟨e, x, e1, e2, e3, e4⟩ := hk i hi
  have h1 : es.toList.getD i default = e := by simp [List.getD_eq_getElem?_getD, e1]
  have h2 : l.getD i (κ.dflt, τ.dflt) = x := by simp [List.getD_eq_getElem?_getD, e2]
  rw [h1, h2]
  exact ⟨e3, e4⟩
theorem qkP {w' : World} {ok : Nat → Prop} {env' : Env} {r : Nat} {ag : Bool} {κ τ : RTy} {l : List (κ.T × τ.T)} {es : Array MapEntry} {clock : Nat} (hb : w'.heap[r]? = some (.map es clock)) (h : All2 (qwR ag κ τ) es.toList l) : RepB w' ok env' (.map (some r)) (.map ag κ τ l) := by
 refine .map r ag κ τ l es clock hb (by simpa using h.length) fun i hi => ?_
 have hlt : i < es.size := by have := h.length; simp at this; omega
 have hg := h.get default (κ.dflt, τ.dflt) i hi
 refine ⟨es[i], l[i], by simp [hlt], by simp [hi], ?_⟩
 simpa [qwR, hlt, hi] using hg
theorem qq6 {α β : Type} {Q : α → β → Prop} : ∀ {l : List α} {m : List β} (i : Nat) {a : α} {b : β}, All2 Q l m → Q a b → All2 Q (l.set i a) (m.set i b)
 | _, _, i, _, _, .nil, _ => by simpa using All2.nil
 | _, _, 0, _, _, .cons h t, q => .cons q t
 | _, _, i + 1, _, _, .cons h t, q => .cons h (qq6 i t q)
theorem qjW {κ : RTy} {kt : TypeId} {kv : Value} {k : AV} {key : κ.T} (hk : Rep w (qn cx env w) env kv k) (e : qqJ P κ kt k = some key) : qr9 P κ kt = true ∧ kv = zn false κ key := by
 unfold qqJ at e
 cases hd : qr9 P κ kt <;> simp only [hd, qg, qj] at e
 ·simp at e
 refine ⟨rfl, ?_⟩
 obtain ⟨d, _, _, h2, _⟩ := qkx hd
 obtain ⟨u, hu, hm, _⟩ := h2 key
 have := ZQ (ok' := qn cx env w) (fun _ h => h) (.cons hk .nil) e
 rw [hu] at this
 cases this with
 | cons h _ =>
  cases h
  exact hm.symm
theorem qtY {ag : Bool} {τ : RTy} {v : Value} {x : AV} {cs : List AV} {y : τ.T} (hx : Rep w (qn cx env w) env v x) (hf : τ.flat = true) (hc : WH [] x = some cs) (hd : qfa τ cs = some y) (ho : YE ag x = true) : v = zn ag τ y := by
 have fin : ∀ {us : List Value}, Rp w (qn cx env w) env us cs → us = wy τ y := fun h => V4 τ y _ hf (ZQ (ok' := qn cx env w) (fun _ h => h) h hd)
 unfold WH at hc
 split at hc
 ·simp at hc; subst hc
  obtain ⟨vs, rfl, hv⟩ := zM hx
  have := fin hv
  simp [YE] at ho
  subst ho
  simp [zn, ← this]
 ·simp at hc; subst hc
  rename_i vs
  have hr := qN hx
  subst hr
  have := fin (zQ vs.toList)
  simp [YE] at ho
  subst ho
  simp [zn, ← this]
 ·rename_i h1 h2
  cases hk : Qj [] x <;> simp only [hk, qg, qj] at hc
  ·simp at hc
  simp at hc; subst hc
  have := fin (.cons hx .nil)
  cases x with
  | r x =>
   cases x with
   | v x =>
    cases ag with
    | false => simp [zn, ← this]
    | true =>
     cases x <;> simp [YE] at ho
     exact absurd rfl (h2 _)
   | _ => simp [YE] at ho
  | agg => exact absurd rfl (h1 _)
  | _ => simp [YE] at ho
theorem qjX {t k e : TypeId} (h : qhJ P t = some (k, e)) : P.underlying t = some (.map k e) := by
 unfold qhJ at h
 split at h
 ·simp at h; obtain ⟨rfl, rfl⟩ := h; assumption
 ·simp at h
theorem qFn (hm : Mem cx bl w env) {dst : Nat} (h100 : QS cx dst) {t : TypeId} {e : Ef} (he : qkD P R bl dst t = some e) : VOk P cx bl w env (Instr.makeMap t none) e := by
 unfold qkD at he
 split at he
 ·rename_i k el hmt
  split at he
  ·rename_i κ hκ
   split at he
   ·rename_i τ hτ
    split at he
    ·rename_i ag hag
     cases hq : (qIm κ && τ.flat) <;> simp only [hq, qg, qj] at he
     ·simp at he
     simp at he; subst he
     have hvv := QJ (bl := bl) hm h100
     have u := VY (w' := w.alloc (.map #[] 0)) hm hvv (.map (some w.heap.size)) _ rfl rfl rfl rfl
     exact ⟨_, _, _, run_makeMap_plain w t, wM hm h100.2 ⟨u, qkP (heap_alloc_new w _) .nil⟩, .own (vg _ _ _ _ rfl)⟩
    ·simp at he
   ·simp at he
  ·simp at he
 ·simp at he
theorem qxN (hm : Mem cx bl w env) {t : TypeId} {mv kv xv : Value} {m k x : AV} {e : Ef} (hmv : Rep w (qn cx env w) env mv m) (hkv : Rep w (qn cx env w) env kv k) (hxv : Rep w (qn cx env w) env xv x) (he : qfS P bl t m k x = some e) :
  UOk P cx bl w env (Instr.mapUpdate t mv kv xv) e := by
 unfold qfS at he
 split at he
 ·rename_i kt et hmt
  have hu := qjX hmt
  split at he
  ·rename_i nm ver
   split at he
   ·rename_i ag κ τ l hc
    split at he
    ·rename_i key hkey
     split at he
     ·rename_i cs hcs
      split at he
      ·rename_i y hy
       cases hq : (τ.flat && (Wc P et ag && YE ag x)) <;> simp only [hq, qg, qj] at he
       ·simp at he
       simp only [qh] at hq
       obtain ⟨q1, q2, q3⟩ := hq
       simp at he; subst he
       obtain ⟨h, hh, hb⟩ := hm.blk _ _ _ (qZ hc)
       have hxe : mv = h := by
        cases hmv with
        | own hr => exact wu hr hh
       subst hxe
       obtain ⟨r, es, clock, rfl, hr, hents⟩ := qsh hb
       obtain ⟨hkd, rfl⟩ := qjW hkv hkey
       have hval := qtY hxv q1 hcs hy q3
       subst hval
       obtain ⟨d, hd, hik, _, hsame⟩ := qkx hkd
       have hck := run_checkKey (P := P) (w := w) hd (hik key) false 9999
       have hlt : r < w.heap.size := (Array.getElem?_eq_some_iff.1 hr).1
       have updh : ∀ o : Obj, Upd0 w env nm ver (.map (some r)) { w with heap := w.heap.setIfInBounds r o } := fun o =>
        ⟨.inr ⟨ver, _, hh, .inr ⟨rfl, rfl⟩⟩, ⟨by simp, rfl, rfl⟩, fun B _ hne => by
          have : r ≠ B := fun e => hne _ _ hh (by simp [wx, e])
          simp [this], fun B q => .inr ⟨ver, _, hh, q⟩⟩
       rcases qds key hsame es.toList l hents 0 with ⟨f1, f2, f3⟩ | ⟨i, p, f1, f2, f3, f4, f5⟩
       ·have hf := run_findKey (w := w) hd f1
        have u := updh (.map (es.push { key := zn false κ key, val := zn ag τ y, born := clock }) (clock + 1))
        refine ⟨_, _, ?_, wM hm (hm.see (qZ hc)) ⟨u, qkP (es := es.push { key := zn false κ key, val := zn ag τ y, born := clock }) (clock := clock + 1) (by simp [hlt]) ?_⟩, rfl⟩
        ·simp [Instr.mapUpdate, run_underlying hu, MapKept.run_getObj_map hr, hck, hf, MapKept.run_setObj_map _ hr]
        ·rw [f3]
         simp only [Array.toList_push]
         exact hents.append (.cons ⟨rfl, rfl⟩ .nil)
       ·simp only [wX] at f1
        have hf := run_findKey (w := w) hd f1
        have hil : i < l.length := (List.getElem?_eq_some_iff.1 f2).1
        have hie : i < es.size := by have := hents.length; simp at this; omega
        have hkk : es[i].key = zn false κ key := by
         have hg := hents.get default (κ.dflt, τ.dflt) i hil
         have h2 := (List.getElem?_eq_some_iff.1 f2).2
         simp [hie, hil, h2] at hg
         rw [hg.1, f5]
        have u := updh (.map (es.modify i fun e => { e with key := zn false κ key, val := zn ag τ y }) clock)
        refine ⟨_, _, ?_, wM hm (hm.see (qZ hc)) ⟨u, qkP (es := es.modify i fun e => { e with key := zn false κ key, val := zn ag τ y }) (clock := clock) (by simp [hlt]) ?_⟩, rfl⟩
        ·have hks := run_keyThatStays (P := P) (w := w) (hik key)
         simp [Instr.mapUpdate, run_underlying hu, MapKept.run_getObj_map hr, hck, hf, hie, hkk, hks, MapKept.run_setObj_map _ hr]
        ·rw [f4]
         have e : (es.modify i fun e => { e with key := zn false κ key, val := zn ag τ y }).toList = es.toList.set i { es[i] with key := zn false κ key, val := zn ag τ y } := by
          apply List.ext_getElem?
          intro j
          by_cases hj : i = j
          ·subst hj
           simp [hie]
          ·simp [hj]
         rw [e]
         exact qq6 i hents ⟨rfl, rfl⟩
      ·simp at he
     ·simp at he
    ·simp at he
   ·simp at he
  ·simp at he
 ·simp at he
theorem ZJ : ∀ (τ : RTy) (x : τ.T), τ.flat = true → qr τ x = (wy τ x).map .v
 | .int _, _, _ => rfl
 | .bool, _, _ => rfl
 | .str, _, _ => rfl
 | .fn, _, _ => rfl
 | .unit, _, _ => rfl
 | .pair a b, p, h => by
  simp only [RTy.flat, qh] at h
  simp [qr, wy, ZJ a _ h.1, ZJ b _ h.2]
theorem qKv {ag : Bool} {et : TypeId} {τ : RTy} (hf : τ.flat = true) (ha : zm P et = some ag) (x : τ.T) {v : AV} (e : Xu P et (qB (qr τ x)) = some v) : Rep w (qn cx env w) env (zn ag τ x) v := by
 have hr : Rp w (qn cx env w) env (wy τ x) (qB (qr τ x)) := by
  rw [ZJ τ x hf]
  have : ∀ l : List Value, qB (l.map .v) = zd l := fun l => by induction l <;> simp [qB, zd, *]
  rw [this]
  exact zQ _
 unfold Xu at e
 rw [ha] at e
 cases ag with
 | true =>
  simp at e; subst e
  exact Wg hr
 | false =>
  simp only at e
  split at e
  ·rename_i c hc
   simp at e; subst e
   rw [hc] at hr
   generalize hv : wy τ x = us at hr
   cases hr with
   | cons h t =>
    cases t
    simp [zn, hv]
    exact h
  ·simp at e
theorem qLR (hm : Mem cx bl w env) {t : TypeId} {mv kv : Value} {m k : AV} {ok : Bool} {e : Ef} (hmv : Rep w (qn cx env w) env mv m) (hkv : Rep w (qn cx env w) env kv k) (he : qn9 P bl t m k ok = some e) :
  VOk P cx bl w env (Instr.lookup t mv kv ok) e := by
 unfold qn9 at he
 split at he
 ·rename_i kt et hmt
  have hu := qjX hmt
  split at he
  ·rename_i nm ver
   split at he
   ·rename_i ag κ τ l hc
    split at he
    ·rename_i key hkey
     split at he
     ·rename_i zc hzc
      split at he
      ·rename_i d hd
       split at he
       ·rename_i v hv
        cases hq : (τ.flat && (Wc P et ag && qtG P et ag)) <;> simp only [hq, qg, qj] at he
        ·simp at he
        simp only [qh] at hq
        obtain ⟨q1, q2, q3⟩ := hq
        have ha : zm P et = some ag := by
         unfold Wc at q2
         split at q2
         ·rename_i b hb; rw [hb]; simp at q2; rw [q2]
         ·simp at q2
        simp at he; subst he
        obtain ⟨h, hh, hb⟩ := hm.blk _ _ _ (qZ hc)
        have hxe : mv = h := by
         cases hmv with
         | own hr => exact wu hr hh
        subst hxe
        obtain ⟨r, es, clock, rfl, hr, hents⟩ := qsh hb
        obtain ⟨hkd, rfl⟩ := qjW hkv hkey
        obtain ⟨dd, hdd, hik, _, hsame⟩ := qkx hkd
        have hck := run_checkKey (P := P) (w := w) hdd (hik key) es.isEmpty 9999
        obtain ⟨i, z, hi, hz, rfl⟩ := Wk hzc
        have hzero : (zeroValue et).run P w = .ok z w := by simp [zeroValue, typeInfo, hi, hz]
        have zv : z = zn ag τ d := by
         have h1 := V4 τ d _ q1 (ZQ (ok' := qn cx env w) (cx := cx) (w := w) (env := env) (fun _ h => h) (zQ z.cells.toList) hd)
         simp only [qtG, hi, hz] at q3
         cases z <;> simp [YE] at q3 <;> subst q3 <;> simp [zn, ← h1, Value.cells]
        have fin : ∀ (u : Value) (b : Bool), u = zn ag τ ((wb κ key l).getD d) → b = (wb κ key l).isSome → Rep w (qn cx env w) env (if ok then .tuple #[u, .bool b] else u) (match ok with | true => .tup [v, .r (.v (.bool (wb κ key l).isSome))] | false => v) := fun u b hu' hb' => by
         subst hu'; subst hb'
         have hrep := qKv (P := P) (cx := cx) (w := w) (env := env) q1 ha _ hv
         cases ok with
         | true => exact qol (vs := [_, _]) (.cons hrep (.cons (wn _) .nil))
         | false => exact hrep
        rcases qds key hsame es.toList l hents 0 with ⟨f1, f2, f3⟩ | ⟨i, p, f1, f2, f3, f4, f5⟩
        ·have hf := run_findKey (w := w) hdd f1
         refine VOk.still hm (u := if ok then .tuple #[z, .bool false] else z) ?_ (fin z false (by rw [f2]; exact zv) (by rw [f2]; rfl))
         simp [Instr.lookup, run_underlying hu, MapKept.run_getObj_map hr, hck, hf, hzero]
        ·simp only [wX] at f1
         have hf := run_findKey (w := w) hdd f1
         refine VOk.still hm (u := if ok then .tuple #[zn ag τ p.2, .bool true] else zn ag τ p.2) ?_ (fin _ true (by rw [f3]; rfl) (by rw [f3]; rfl))
         simp [Instr.lookup, run_underlying hu, MapKept.run_getObj_map hr, hck, hf]
       ·simp at he
      ·simp at he
     ·simp at he
    ·simp at he
   ·simp at he
  ·simp at he
 ·simp at he
end
end Go.AM
namespace Go.AM
open Go
section
variable {P : Program} {R : wT} {cx : Cx} {bl : qL} {w : World} {env : Env}
theorem Q1 {ok : Nat → Prop} {tmps : Array Value} {u : Value} {x : AV} (h : W0 w ok env tmps u x) : Rep w ok env u x := by
 cases x <;> first | exact h | exact .gd _ _ _ _
theorem qeF {ok : Nat → Prop} {tmps : Array Value} {u : Value} {x : AV} (hn : zi x = true) (h : Rep w ok env u x) : W0 w ok env tmps u x := by
 cases x <;> first | exact h | simp [zi] at hn
theorem qRS (hm : Mem cx bl w env) {a : Act} {sel : Bool} {c x y : Operand} {vc vx vy : AV} {e : Ef} (hc : W0 w (qn cx env w) env a.tmps (a.eval c) vc) (hx : W0 w (qn cx env w) env a.tmps (a.eval x) vx) (hy : W0 w (qn cx env w) env a.tmps (a.eval y) vy)
  (he : qxE sel c vc vx vy = some e) : VOk P cx bl w env (do pure (if ← asBool (a.eval c) then a.eval x else a.eval y)) e := by
 unfold qxE at he
 split at he
 ·rename_i b
  have hcv : a.eval c = .bool b := qN hc
  have run : ∀ {u : Value} {φ : List Prop} {v : AV}, (if b then a.eval x else a.eval y) = u → Rep w (qn cx env w) env u v → VOk P cx bl w env (do pure (if ← asBool (a.eval c) then a.eval x else a.eval y)) ⟨φ, v, []⟩ := fun h hr => by
   subst h
   exact VOk.still hm (by simp [hcv, asBool]) hr
  have gdv : ∀ {s : Nat} {d z : Bool} {o : Operand}, c = .tmp s → b = d → W0 w (qn cx env w) env a.tmps (a.eval o) (.gd s d (.r (.v (.bool z)))) → a.eval o = .bool z := fun {s d z o} hcs hd h => by
   refine qN (h.1 ?_)
   subst hcs
   simp only [Act.eval] at hcv
   have : a.tmps[s]? = some (.bool b) := by
    cases hs : a.tmps[s]? with
    | none => simp [hs] at hcv; exact absurd hcv (by simp [Go.undef])
    | some q => simp [hs] at hcv; rw [hcv]
   rw [this, hd]
  cases sel <;> simp only at he
  ·split at he
   ·have hxv : a.eval x = .bool true := qN hx
    split at he
    ·rename_i z
     simp at he; subst he
     have hyv : a.eval y = .bool z := qN hy
     exact run (u := .bool (b || z)) (by cases b <;> simp [hxv, hyv]) (wn _)
    ·rename_i s z
     split at he
     ·rename_i c'
      cases hq : qy c' s <;> simp only [hq, qg, qj] at he
      ·simp at he
      have := qk hq
      subst this
      simp at he; subst he
      refine run (u := .bool (b || z)) ?_ (wn _)
      cases b with
      | true => simp [hxv]
      | false => simp [gdv rfl rfl hy]
     ·simp at he
    ·cases b <;> simp only at he
     ·simp at he
     ·simp at he; subst he
      exact run (u := .bool true) (by simp [hxv]) (wn _)
    ·cases b <;> simp only at he
     ·simp at he
     ·simp at he; subst he
      exact run (u := .bool true) (by simp [hxv]) (wn _)
    ·simp at he
   ·simp at he
  ·split at he
   ·have hyv : a.eval y = .bool false := qN hy
    split at he
    ·rename_i x'
     simp at he; subst he
     have hxv : a.eval x = .bool x' := qN hx
     exact run (u := .bool (b && x')) (by cases b <;> simp [hxv, hyv]) (wn _)
    ·rename_i s x'
     split at he
     ·rename_i c'
      cases hq : qy c' s <;> simp only [hq, qg, qj] at he
      ·simp at he
      have := qk hq
      subst this
      simp at he; subst he
      refine run (u := .bool (b && x')) ?_ (wn _)
      cases b with
      | false => simp [hyv]
      | true => simp [gdv rfl rfl hx]
     ·simp at he
    ·cases b <;> simp only at he
     ·simp at he; subst he
      exact run (u := .bool false) (by simp [hyv]) (wn _)
     ·simp at he
    ·cases b <;> simp only at he
     ·simp at he; subst he
      exact run (u := .bool false) (by simp [hyv]) (wn _)
     ·simp at he
    ·simp at he
   ·simp at he
 ·simp at he
theorem qko {a : Act} {ev : Operand → AV} (h : ∀ x, Rep w (qn cx env w) env (a.eval x) (ev x)) : ∀ ps : List (Nat × Operand),
  All2 (fun (q : Nat × Value) (p : Nat × AV) => q.1 = p.1 ∧ Rep w (qn cx env w) env q.2 p.2) (ps.map fun (i, x) => (i, a.eval x)) (evP ev ps)
 | [] => .nil
 | (_, x) :: r => .cons ⟨rfl, h x⟩ (qko h r)
theorem ZE {a : Act} {ev : Operand → AV} (h : ∀ x, Rep w (qn cx env w) env (a.eval x) (ev x)) : ∀ xs : List Operand, Rp w (qn cx env w) env (xs.map a.eval) (xs.map ev)
 | [] => .nil
 | x :: r => .cons (h x) (ZE h r)
theorem qoa {a : Act} {ev : Operand → AV} (h : ∀ x, Rep w (qn cx env w) env (a.eval x) (ev x)) (x : Option Operand) : OptR w (qn cx env w) env (x.map a.eval) (x.map ev) := by
 cases x with
 | none => exact .none
 | some x => exact .some (h x)
def OpOk (P : Program) (cx : Cx) (bl : qL) (w : World) (env : Env) (s : Sem Next) (e : Ef) : Prop :=
 ∃ r w' env', s.run P w = .ok r w' ∧ Trans cx w env (we bl e.wr) w' env' ∧ ((∃ u, r = .value u ∧ Rep w' (qn cx env' w') env' u e.v) ∨ (r = .skip ∧ e.v = .undef))
theorem OpOk.ofV {s : Sem Value} {e : Ef} (h : VOk P cx bl w env s e) : OpOk P cx bl w env (do pure (.value (← s))) e := by
 obtain ⟨u, w', env', h1, h2, h3⟩ := h
 exact ⟨.value u, w', env', by simp [h1], h2, .inl ⟨u, rfl, h3⟩⟩
theorem OpOk.ofU {s : Sem Unit} {e : Ef} (h : UOk P cx bl w env s e) : OpOk P cx bl w env (do s; pure .skip) e := by
 obtain ⟨w', env', h1, h2, h3⟩ := h
 exact ⟨.skip, w', env', by simp [h1], h2, .inr ⟨rfl, h3⟩⟩
theorem qpP (hm : Mem cx bl w env) {a : Act} {ev : Operand → AV} (hev : ∀ x, W0 w (qn cx env w) env a.tmps (a.eval x) (ev x)) {dst : Nat} (h100 : QS cx dst) (hn : ∀ j, j < 16 → QS cx (wi (dst - 100) j)) {o : Oper} {e : Ef} (he : xop P R bl ev dst o.op = some e) (hφ : zo e.φ) :
  OpOk P cx bl w env (execOp a.eval o) e := by
 have hr : ∀ x, Rep w (qn cx env w) env (a.eval x) (ev x) := fun x => Q1 (hev x)
 unfold execOp
 unfold xop at he
 generalize o.op = op at he ⊢
 cases op <;> simp only at he ⊢
 case move x => simp [qqK] at he; subst he; exact OpOk.ofV (s := pure (a.eval x)) (VOk.still hm rfl (hr x))
 case assign x => simp [qqK] at he; subst he; exact OpOk.ofV (s := pure (a.eval x)) (VOk.still hm rfl (hr x))
 case pick c x y => 
  have := OpOk.ofV (qRS (P := P) hm (hev c) (hev x) (hev y) he)
  obtain ⟨r, w', env', h1, h2, h3⟩ := this
  refine ⟨r, w', env', ?_, h2, h3⟩
  rw [← h1]
  simp
 case nilCheck x =>
  unfold qpq at he
  split at he
  ·rename_i nm ver o hx
   cases hq : (wP bl nm ver).isSome <;> simp only [hq, qg, qj] at he
   ·simp at he
   simp at he; subst he
   obtain ⟨b, hb⟩ := zx hq
   obtain ⟨h, hh, _⟩ := hm.blk _ _ _ (qZ hb)
   have h1 := hr x
   rw [hx] at h1
   have aux : ∃ B, a.eval x = .pointer (some ⟨B, o, none⟩) := by
    generalize a.eval x = u at h1
    cases h1 with
    | ptr hr => obtain ⟨B, _, e⟩ := wu hr hh; exact ⟨B, e⟩
   obtain ⟨B, e⟩ := aux
   rw [e]
   rw [e] at h1
   exact ⟨.value (.pointer (some ⟨B, o, none⟩)), w, env, rfl, .refl hm, .inl ⟨_, rfl, h1⟩⟩
  ·simp at he
 case alloc t => exact OpOk.ofV (qQs hm h100 hn he)
 case box t x => exact OpOk.ofV (qSb hm h100 hn (hr x) he)
 case build t ps =>
  have := qQt (P := P) hm (qko hr ps.toList) he
  have e1 : (ps.toList.map fun (i, x) => (i, a.eval x)).toArray = ps.map fun (i, x) => (i, a.eval x) := by simp [← Array.toList_map]
  rw [e1] at this
  exact OpOk.ofV this
 case buildSlice t n ps =>
  have := qt6 (P := P) (R := R) hm h100 (qko hr ps.toList) he
  have e1 : (ps.toList.map fun (i, x) => (i, a.eval x)).toArray = ps.map fun (i, x) => (i, a.eval x) := by simp [← Array.toList_map]
  rw [e1] at this
  exact OpOk.ofV this
 case load t x => exact OpOk.ofV (qRR hm (hr x) he hφ)
 case store t x y => exact OpOk.ofU (qQx hm (hr x) (hr y) he)
 case fieldAddr t x f => exact OpOk.ofV (qxK hm (hr x) he)
 case field t x f => exact OpOk.ofV (qQu hm (hr x) he)
 case indexAddr t x i => exact OpOk.ofV (qxL hm (hr x) (hr i) he hφ)
 case index t x i => exact OpOk.ofV (qQv hm (hr x) (hr i) he hφ)
 case extract x i => exact OpOk.ofV (qFl hm (hr x) he)
 case makeFunc f fs cs =>
  have := qDe (P := P) hm (ZE hr fs.toList) (ZE hr cs.toList) he
  simp only [← Array.toList_map, Array.toArray_toList] at this
  exact OpOk.ofV this
 case binOp op t x y t2 => exact OpOk.ofV (qSa hm (hr x) (hr y) he hφ)
 case unOp op t x => exact OpOk.ofV (sUn hm (hr x) he)
 case convert s d x => exact OpOk.ofV (qFk hm (hr x) he)
 case slice t x lo hi mx =>
  exact OpOk.ofV (qQw hm h100 (qoa hr mx) (hr x) (qoa hr lo) (qoa hr hi) he hφ)
 case makeSlice t l c => exact OpOk.ofV (qxM hm h100 (hr l) (hr c) he hφ)
 case makeMap t r =>
  cases r with
  | none => exact OpOk.ofV (qFn hm h100 he)
  | some x => simp at he
 case mapUpdate t m k x => exact OpOk.ofU (qxN hm (hr m) (hr k) (hr x) he)
 case lookup t m k ok => exact OpOk.ofV (qLR hm (hr m) (hr k) he)
 case call c =>
  obtain ⟨callee, args, ats⟩ := c
  cases callee with
  | value f => simp at he
  | invoke r m => simp at he
  | builtin b =>
   cases b <;> simp only at he <;> try (simp at he; done)
   case append =>
    split at he
    ·rename_i s x t t2 h1 h2
     have hargs : args = #[s, x] := by rw [← Array.toArray_toList (xs := args), h1]
     have hats : ats = #[t, t2] := by rw [← Array.toArray_toList (xs := ats), h2]
     subst hargs; subst hats
     have := OpOk.ofV (qLP hm h100 (hr s) (hr x) he hφ o.type)
     obtain ⟨r, w', env', g1, g2, g3⟩ := this
     refine ⟨r, w', env', ?_, g2, g3⟩
     rw [← g1]
     simp [resolve, invoke, builtin]
    ·simp at he
   case len =>
    split at he
    ·rename_i x t h1 h2
     have hargs : args = #[x] := by rw [← Array.toArray_toList (xs := args), h1]
     have hats : ats = #[t] := by rw [← Array.toArray_toList (xs := ats), h2]
     subst hargs; subst hats
     have := OpOk.ofV (qSc hm (hr x) he o.type)
     obtain ⟨r, w', env', g1, g2, g3⟩ := this
     refine ⟨r, w', env', ?_, g2, g3⟩
     rw [← g1]
     simp [resolve, invoke, builtin]
    ·simp at he
   case max =>
    have := OpOk.ofV (qwC (P := P) hm (ZE hr args.toList) he ats o.type)
    obtain ⟨r, w', env', g1, g2, g3⟩ := this
    refine ⟨r, w', env', ?_, g2, g3⟩
    rw [← g1]
    simp only [← Array.toList_map, Array.toArray_toList]
    simp [resolve, invoke, builtin]
   case min =>
    have := OpOk.ofV (qwC (P := P) hm (ZE hr args.toList) he ats o.type)
    obtain ⟨r, w', env', g1, g2, g3⟩ := this
    refine ⟨r, w', env', ?_, g2, g3⟩
    rw [← g1]
    simp only [← Array.toList_map, Array.toArray_toList]
    simp [resolve, invoke, builtin]
 all_goals (simp at he)
end
end Go.AM
