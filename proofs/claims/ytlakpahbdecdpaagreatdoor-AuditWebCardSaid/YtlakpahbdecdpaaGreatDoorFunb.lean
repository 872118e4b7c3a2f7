/- Contracts of the functions that the law reaches, and the plain law. -/
import Derived.Test.YtlakpahbdecdpaaGreatDoorFuna
import Derived.Laws.RangeAny
import Derived.Lib.IndexAny
import Derived.Shelf.Strings.IndexAnyAll
import Derived.Shelf.Small.Utf8
import Derived.Shelf.SlicesE.Clone
import Derived.Shelf.SlSortCmp.WholeK
import Derived.Shelf.SlSortCmp.NoneTotal
import Derived.Shelf.Sort.Plain
import Derived.Shelf.Slices.In.SortNone
import Derived.Shelf.Spec.SlicesGrow
import Derived.Shelf.SlGeneric
import Derived.Shelf.Small.Bits
import Derived.Ground.NamesProg
import Derived.Ground.Names2Prog
import Derived.Ground.Names8Prog
import Derived.Ground.SlgnProg
import Derived.Ground.SlsfProg
import Derived.Test.YtlakpahbdecdpaaGreatDoorProg
set_option linter.unusedVariables false
set_option linter.unusedSimpArgs false
set_option linter.unusedSectionVars false
namespace Go.AM
open Go Go.Proofs
noncomputable section
abbrev R_u30 : Type := Int × Int
def res_u30 (r : R_u30) : AV := .tup [.r (.v (.int .i64 r.1)), .r (.v (.int .i64 r.2))]
def bo_u30 (g_0 : Int) (g_1 : Int) (g_2 : List (T5).T) (g_3 : List ((I).T × (I).T)) (id_ : Int) (r : R_u30) : List (Nat × Blk) := [(0, .var 135 [.r (.v (.int .i64 g_0)), .r (.v (.int .i64 g_1)), .r (.ro T5 g_2), .own 1 0]), (0, .map false I I g_3)]
def args_u30 (g_0 : Int) (g_1 : Int) (g_2 : List (T5).T) (g_3 : List ((I).T × (I).T)) (id_ : Int) : List AV := [.ptr 0 0 0, .r (.v (.int .i64 id_))]
def bin_u30 (g_0 : Int) (g_1 : Int) (g_2 : List (T5).T) (g_3 : List ((I).T × (I).T)) (id_ : Int) : List Blk := [.var 135 [.r (.v (.int .i64 g_0)), .r (.v (.int .i64 g_1)), .r (.ro T5 g_2), .own 1 0], .map false I I g_3]
abbrev C_u30 (g_0 : Int) (g_1 : Int) (g_2 : List (T5).T) (g_3 : List ((I).T × (I).T)) (id_ : Int) (r : R_u30) : Prop := CC Tryz.prog 118 (args_u30 g_0 g_1 g_2 g_3 id_) (bin_u30 g_0 g_1 g_2 g_3 id_) (res_u30 r) (bo_u30 g_0 g_1 g_2 g_3 id_ r)
def f_u30 (k : Nat) (g_0 : Int) (g_1 : Int) (g_2 : List (T5).T) (g_3 : List ((I).T × (I).T)) (id_ : Int) : Option R_u30 :=
  bif (id_ == (0 : Int)) then
  some ((g_0, g_1))
  else
  if ((0 : Int) ≤ (mget I id_ g_3).getD (0 : Int)) ∧ ((mget I id_ g_3).getD (0 : Int) < (↑g_2.length : Int)) then
  if ((f_u36 k (g_2.getD (Int.toNat ((mget I id_ g_3).getD 0)) T5.dflt).2.2.2.2.2).isSome = true) then
  some (((g_2.getD (Int.toNat ((mget I id_ g_3).getD 0)) T5.dflt).2.2.2.1, (v_u36 k (g_2.getD (Int.toNat ((mget I id_ g_3).getD 0)) T5.dflt).2.2.2.2.2).1))
  else none
  else none
def v_u30 (k : Nat) (g_0 : Int) (g_1 : Int) (g_2 : List (T5).T) (g_3 : List ((I).T × (I).T)) (id_ : Int) : R_u30 := (f_u30 k g_0 g_1 g_2 g_3 id_).getD (0, 0)
def ke_u30 (k : Nat) : Ke := (118, fun xs => match xs with
  | [.ptr _ _ _, _] => some [true, false]
  | _ => none, fun xs bs => match xs, bs with
  | [.ptr 0 0 0, .r (.v (.int .i64 id_))], [.var 135 [.r (.v (.int .i64 g_0)), .r (.v (.int .i64 g_1)), .r (.ro tg_2_ qg_2), .own 1 0], .map false kg_3_ tg_3_ qg_3] => (castL tg_2_ T5 qg_2).bind fun g_2 => (castM kg_3_ tg_3_ I I qg_3).bind fun g_3 => some (.one (res_u30 (v_u30 k g_0 g_1 g_2 g_3 id_), bo_u30 g_0 g_1 g_2 g_3 id_ (v_u30 k g_0 g_1 g_2 g_3 id_)))
  | _, _ => none)
theorem of_u30 (k : Nat) (g_0 : Int) (g_1 : Int) (g_2 : List (T5).T) (g_3 : List ((I).T × (I).T)) (id_ : Int) (r : R_u30) (h : f_u30 k g_0 g_1 g_2 g_3 id_ = some r) : C_u30 g_0 g_1 g_2 g_3 id_ r := by
  refine CC.of (fn := Tryz.f118) (by kernel_rfl) (by kernel_rfl) (by kernel_rfl) (by kernel_rfl) ?_
  unfold f_u30 at h
  exact go (mkK [ke_u36 k]) [] [] [.autoB [4, 5] true []] (gT h (fun c h => gL h) fun c h => gN2 h fun h => gN1 h (fun q => cc_u36 q) fun h => gL h) (by kernel_rfl)
theorem cc_u30 {k : Nat} {g_0 : Int} {g_1 : Int} {g_2 : List (T5).T} {g_3 : List ((I).T × (I).T)} {id_ : Int} (h : (f_u30 k g_0 g_1 g_2 g_3 id_).isSome = true) : C_u30 g_0 g_1 g_2 g_3 id_ (v_u30 k g_0 g_1 g_2 g_3 id_) := ccG (Φ := C_u30 g_0 g_1 g_2 g_3 id_) h (of_u30 k g_0 g_1 g_2 g_3 id_)
abbrev R_u69 : Type := Int
def res_u69 (r : R_u69) : AV := .r (.v (.int .i64 r))
def bo_u69 (l_ : List (T21).T) (r : R_u69) : List (Nat × Blk) := []
def args_u69 (l_ : List (T21).T) : List AV := [.r (.ro T21 l_)]
def bin_u69 (l_ : List (T21).T) : List Blk := []
abbrev C_u69 (l_ : List (T21).T) (r : R_u69) : Prop := CC Tryz.prog 116 (args_u69 l_) (bin_u69 l_) (res_u69 r) (bo_u69 l_ r)
def st_u69_4 (y0 : List (T21).T) (y1 : Int) (y2 : Int) : St := ⟨mkS 30 [(8, .r (.ro T21 y0)), (9, .r (.v (.int .i64 y1))), (10, .r (.v (.int .i64 y2)))], []⟩
def f_u69_4 (k : Nat) : Nat → List (T21).T → Int → Int → Option R_u69
  | 0, _, _, _ => none
  | j + 1, y0, y1, y2 =>
  bif (decide (y2 < y1)) then
  if (0 ≤ y2) ∧ (y2 < (↑y0.length : Int)) then
  bif (decide ((y0.getD y2.toNat T21.dflt).1 < (0 : Int)) || decide ((y0.getD y2.toNat T21.dflt).1 > (y0.getD y2.toNat T21.dflt).2) || decide ((y0.getD y2.toNat T21.dflt).2 > (17179869184 : Int))) then
  some 1
  else
  f_u69_4 k j y0 y1 ((IntKind.i64.wrap (y2 + 1)))
  else none
  else
  some 0
def f_u69 (k : Nat) (l_ : List (T21).T) : Option R_u69 :=
  bif (decide ((↑l_.length : Int) > (256 : Int))) then
  some 8
  else
  f_u69_4 k k l_ ((↑l_.length : Int)) 0
def v_u69 (k : Nat) (l_ : List (T21).T) : R_u69 := (f_u69 k l_).getD 0
def ke_u69 (k : Nat) : Ke := (116, fun xs => match xs with
  | [_] => some [false]
  | _ => none, fun xs bs => match xs, bs with
  | [.r (.ro tl__ ql_)], [] => (castL tl__ T21 ql_).bind fun l_ => some (.one (res_u69 (v_u69 k l_), bo_u69 l_ (v_u69 k l_)))
  | _, _ => none)
def cs_u69 : List (Nat × List Cmd) := [(4, [.autoB [8, 9, 10] false []])]
abbrev E_u69 (l_ : List (T21).T) (todo : List Item) (st : St) (o : Option R_u69) : Prop := ∀ r, o = some r → Ev Tryz.prog Tryz.f116 0 todo st (res_u69 r) (bo_u69 l_ r)
theorem ev_u69 (k : Nat) (l_ : List (T21).T) : ∀ j, (∀ (y0 : List (T21).T) (y1 : Int) (y2 : Int), E_u69 l_ (placeAt Tryz.f116 4) (st_u69_4 y0 y1 y2) (f_u69_4 k j y0 y1 y2))
  | 0 => fun _ _ _ _ h => (nomatch h)
  | j + 1 => by
    have ih := @ev_u69 k l_ j
    · intro y0 y1 y2 r h
      rw [f_u69_4] at h
      exact go (mkK []) [] cs_u69 [.autoB [2] true []] (gT h (fun c h => gN2 h fun h => gT h (fun c h => gL h) fun c h => gC h 4 (ih _ _ _ _)) fun c h => gL h) (by kernel_rfl)
theorem of_u69 (k : Nat) (l_ : List (T21).T) (r : R_u69) (h : f_u69 k l_ = some r) : C_u69 l_ r := by
  refine CC.of (fn := Tryz.f116) (by kernel_rfl) (by kernel_rfl) (by kernel_rfl) (by kernel_rfl) ?_
  unfold f_u69 at h
  exact go (mkK []) [] cs_u69 [.autoB [2] true []] (gT h (fun c h => gL h) fun c h => gC h 4 ((ev_u69 k l_ k) _ _ _ _)) (by kernel_rfl)
theorem cc_u69 {k : Nat} {l_ : List (T21).T} (h : (f_u69 k l_).isSome = true) : C_u69 l_ (v_u69 k l_) := ccG (Φ := C_u69 l_) h (of_u69 k l_)

end
end Go.AM
namespace Go.AM
open Go

end Go.AM
namespace Go.AM
open Go Go.Proofs Go.Shelf Go.RowKit Go.Lib
variable {P : Program} {ρ : Ren}

/-- the memory has grown, and what lay there lies as it lay -/
structure Ext (w w' : World) : Prop where
  grew : Grew w w'
  frame : ∀ B, B < w.heap.size → w'.heap[B]? = w.heap[B]?
theorem Ext.refl (w : World) : Ext w w := ⟨.refl w, fun _ _ => rfl⟩
theorem Ext.trans {a b c : World} (h : Ext a b) (k : Ext b c) : Ext a c := ⟨h.grew.trans k.grew, fun B hB => (k.frame B (Nat.lt_of_lt_of_le hB h.grew.size)).trans (h.frame B hB)⟩
theorem Ext.turn {w W : World} (h : Ext w W) {B : Nat} (hB : w.heap.size ≤ B) (o : Obj) : Ext w { W with heap := W.heap.setIfInBounds B o } :=
  ⟨⟨by simpa using h.grew.size, h.grew.os, h.grew.out⟩, fun C hC => by
    show (W.heap.setIfInBounds B o)[C]? = _
    rw [Array.getElem?_setIfInBounds_ne (by omega)]
    exact h.frame C hC⟩

end Go.AM
namespace Go.AM
open Go Go.Proofs Go.Shelf Go.RowKit

section
variable {P : Program}
/-- nothing came in by reference; one block comes out -/
theorem mem_one {cx : Cx} {env : Env} {b : Blk} {h : Value} {w' : World} (hn : ∀ n, env n = none) (hh : ∀ n, ¬ cx.hid n) (hent : ∀ nm h, cx.ent nm = some h ↔ env nm = some (0, h))
    (hg : Grew cx.w0 w') (hfr : ∀ B, B < cx.w0.heap.size → w'.heap[B]? = cx.w0.heap[B]?) (hb : ∀ B, hblk h = some B → cx.w0.heap.size ≤ B ∧ B < w'.heap.size)
    (hr : RepB w' (okOf cx (env.put 0 0 h) w') (env.put 0 0 h) h b) : Mem cx (numB 0 [(0, b)]) w' (env.put 0 0 h) := by
  have nent : ∀ nm h0, cx.ent nm = some h0 → False := fun nm h0 e => by
    have := (hent nm h0).1 e
    rw [hn] at this; cases this
  have hput : ∀ nm v x, env.put 0 0 h nm = some (v, x) → nm = 0 ∧ v = 0 ∧ x = h := fun nm v x e => by
    unfold Env.put at e
    split at e
    · rename_i hn
      simp at e
      exact ⟨hn, e.1.symm, e.2.symm⟩
    · rw [hn] at e; cases e
  refine ⟨fun nm ver b' e => ?_, fun nm e _ => ?_, fun nm h => absurd h (hh nm), fun nm nm' v v' h h' B e e' _ _ => ?_, fun nm v h' B e hq => ?_, hg, fun B hB _ => hfr B hB, fun nm h h0 _ e0 => (nent nm h0 e0).elim, fun nm h0 e0 => (nent nm h0 e0).elim⟩
  · have hn : nm = 0 ∧ ver = 0 ∧ b' = b := by
      simp only [numB, getB] at e
      cases hq : Nat.beq 0 nm <;> simp only [hq, cond_true, cond_false] at e
      · cases e
      · have := Nat.eq_of_beq_eq_true hq
        simp at e
        exact ⟨this.symm, e.1.symm, e.2.symm⟩
    obtain ⟨rfl, rfl, rfl⟩ := hn
    exact ⟨h, by simp [Env.put], hr⟩
  · unfold Env.put
    split
    · rename_i hn
      subst hn
      simp [numB, getB] at e
    · exact hn nm
  · rw [(hput _ _ _ e).1, (hput _ _ _ e').1]
  · obtain ⟨rfl, rfl, rfl⟩ := hput _ _ _ e
    exact ⟨.inl (hb B hq).1, (hb B hq).2⟩

/-- a row of one's own, as the kit tells it -/
theorem repB_of_owns {w : World} {ok : Nat → Prop} {env : Env} {base : Nat} {e : TypeId} {τ : RTy} {l : List τ.T} {v : Value} {us : List Value} (hpos : 0 < τ.sz) (h : w.ownsRow base e τ.sz v l.length us) (hu : All2 (RepR w ok) us (encL τ l)) : RepB w ok env v (.row e τ l) ∧ ∀ B, hblk v = some B → base ≤ B ∧ B < w.heap.size := by
  obtain ⟨hl, ⟨rfl, h0⟩ | ⟨g, cap, cur, rfl, hg, hh, hcap, hmx, hs, ht⟩⟩ := h
  · have : l = [] := List.length_eq_zero_iff.1 h0
    subst this
    exact ⟨.rowNil _ _ _, fun B hB => by simp [hblk] at hB⟩
  · by_cases hc : cap = 0
    · have hl0 : l.length = 0 := by omega
      have : l = [] := List.length_eq_zero_iff.1 hl0
      subst this; subst hc
      exact ⟨.rowNil _ _ _, fun B hB => by simp [hblk] at hB⟩
    · refine ⟨.row g e τ l cap cur hh hcap (by omega) hmx hs fun k hk => ?_, fun B hB => ?_⟩
      · have := hu.get Go.undef .undef k (by rw [encL_length]; exact hk)
        rw [← ht] at this
        simpa [List.getElem?_take, hk] using this
      · rw [hblk_sl (by omega)] at hB
        simp at hB; subst hB
        exact ⟨hg, (Array.getElem?_eq_some_iff.1 hh).1⟩

open Go.RowKit Go.Lib in
set_option maxHeartbeats 2000000 in
set_option maxRecDepth 100000 in
/-- Clone of a slice of no elements, wherever it stands -/
theorem clone_empty {ρ : Ren} (L : SlLaysE0.n41 P ρ) (i0 : TypeInfo) (z : Value) (size bytes : Nat) (hi : P.info? (ρ.t 23) = some i0) (hz0 : i0.zero = some z) (hz1 : i0.size = size) (hz2 : i0.bytes = bytes) (hzs : z.cells.size = size) (hsz : 0 < size)
    (z23 : ∀ w, (Go.sizeOf (ρ.t 23)).run P w = .ok size w) (ad : Addr) (c : Nat) (w : World) :
    Calls P (ρ.f 41) #[.slice (some ad) 0 c] w fun e w' => ∃ v', e = .returned v' ∧ w'.ownsRow w.heap.size (ρ.t 23) size v' 0 [] ∧ Below w.heap.size w w' := by
  have mixed := L.mixed; have t4 := L.t4; have a4 := L.a4; have z4 := L.z4; have v4 := L.v4; have t22 := L.t22; have a22 := L.a22; have z22 := L.z22; have v22 := L.v22
  have q22 : ∀ (w : World) (a : Option Addr) (n c n' c' : Nat), (binOp .eql (ρ.t 22) (.slice a n c) (.slice none n' c')).run P w = .ok (.bool a.isNone) w := fun w a n c n' c' => Lib.run_eql_slice_nil w _ _ a n c n' c' L.t22
  have u22 : ∀ w, Sem.run P (underlying (ρ.t 22)) w = .ok (TypeDesc.slice (ρ.t 23)) w := run_underlying t22
  obtain ⟨_, _, FG⟩ := L.f41
  go_enter FG, SlBodyN.n41_ntmps ρ
  go_wp2_with (at_builtin; refine wpList_append_own _ rfl _ _ (ρ.t 22) rfl w.heap.size (ρ.t 23) i0 z size bytes t22 hi hz0 hz1 hz2 hzs hsz _ _ _ rfl (World.ownsRow_made w #[] 0 (Nat.le_refl _) (Nat.zero_le _) (by simp)) ad 0 c [] rfl ?qc1 ?qc2 ?qc3 ?qc4 ?qc5 ?qc6 ?_)
  case qc1 => simp
  case qc2 => intro j u hj; simp at hj
  case qc3 => intro u hu; simp at hu
  case qc4 => simp [maxLen]
  case qc5 => simp
  case qc6 => simp
  intro v' w1 hown hgrow hnil
  go_wp2
  go_ret
  refine ⟨v', rfl, by simpa using hown, ?_⟩
  exact ((Below.refl _ w).alloc (Nat.le_refl _) _).grown hgrow (by simp) (by intro k hk; simp [Value.ownBlock] at hk; omega)

theorem cc_clone [GT P] {ρ : Ren} (L : SlLaysE0.n41 P ρ) {τ : RTy} {i0 : TypeInfo} {z : Value} (hi : P.info? (ρ.t 23) = some i0) (hz0 : i0.zero = some z) (hz1 : i0.size = τ.sz) (hzs : z.cells.size = τ.sz) (hpos : 0 < τ.sz) (hby : 0 < i0.bytes) (z23 : ∀ w, (Go.sizeOf (ρ.t 23)).run P w = .ok τ.sz w)
    (hf : ∃ fn c, P.funcs[ρ.f 41]? = some fn ∧ fn.body = some c ∧ (fn.name == "runtime.NumGoroutine") = false) (l : List τ.T) (hbig : l.length * i0.bytes ≤ 140737488355328) : CC P (ρ.f 41) [.r (.ro τ l)] [] (.own 0 0) [(0, .row (ρ.t 23) τ l)] := by
  refine ⟨hf, fun cx env vs hwf hG hh hent hm hs hargs => ?_⟩
  have none : ∀ n, env n = none := fun n => hm.dom n rfl (hh n)
  have hvs : vs = #[vs.getD 0 Go.undef] := by
    refine Array.ext (by rw [hs]; rfl) fun i hi1 hi2 => ?_
    have : i = 0 := by simpa using hi2
    subst this
    simp [hi1]
  have hr := hargs 0 (by simp)
  simp only [List.getD_cons_zero] at hr
  rw [hvs]
  generalize vs.getD 0 Go.undef = u at hr
  have hlen : l.length ≤ maxLen := by
    have : l.length ≤ l.length * i0.bytes := Nat.le_mul_of_pos_right _ hby
    unfold maxLen; omega
  have fin : ∀ {v' : Value} {w' : World} {us : List Value}, w'.ownsRow cx.w0.heap.size (ρ.t 23) τ.sz v' l.length us → Below cx.w0.heap.size cx.w0 w' → All2 (RepR cx.w0 (okOf cx env cx.w0)) us (encL τ l) →
      ∃ v env', (Ending.returned v' : Ending) = .returned v ∧ Mem cx (numB 0 [(0, .row (ρ.t 23) τ l)]) w' env' ∧ Rep w' (okOf cx env' w') env' v (.own 0 0) := fun {v' w' us} ho hB hu => by
    have ok' : ∀ B, okOf cx env cx.w0 B → okOf cx (env.put 0 0 v') w' B := fun B ⟨h1, h2, h3⟩ => by
      refine ⟨h1, Nat.lt_of_lt_of_le h2 hB.size, fun nm ver h e q => ?_⟩
      unfold Env.put at e
      split at e
      · simp at e
        obtain ⟨rfl, rfl⟩ := e
        obtain ⟨_, ⟨rfl, _⟩ | ⟨g, cap, cur, rfl, hg, _⟩⟩ := ho
        · simp [hblk] at q
        · cases cap with
          | zero => simp [hblk] at q
          | succ c => simp [hblk] at q; omega
      · rw [none] at e; cases e
    have hu' : All2 (RepR w' (okOf cx (env.put 0 0 v') w')) us (encL τ l) := hu.mono fun _ _ h => h.mono ok' fun B o hB' => cell_of_heap (hB.block B hB'.2.1) o
    obtain ⟨h1, h2⟩ := repB_of_owns (env := env.put 0 0 v') hpos ho hu'
    exact ⟨v', env.put 0 0 v', rfl, mem_one none hh hent ⟨hB.size, hB.os, hB.output⟩ (fun B hB' => hB.block B hB') h2 h1, .own ⟨0, _, by simp [Env.put], Nat.le_refl _, fun _ => rfl⟩⟩
  have nilC : ∀ cap, l = [] → Calls P (ρ.f 41) #[.slice Option.none 0 cap] cx.w0 fun e w' => ∃ v env', e = .returned v ∧ Mem cx (numB 0 [(0, .row (ρ.t 23) τ l)]) w' env' ∧ Rep w' (okOf cx env' w') env' v (.own 0 0) := fun cap h0 => by
    refine (AnyE.slices_Clone_nil L 0 cap cx.w0).mono fun e w' ⟨he, hw⟩ => ?_
    subst hw; subst h0; subst he
    exact fin (us := []) ⟨by simp, .inl ⟨rfl, rfl⟩⟩ (Below.refl _ _) .nil
  have some_ : ∀ (B o cap : Nat) (us : List Value), us.length = l.length * τ.sz → (∀ k, k < l.length * τ.sz → cx.w0.cell? ⟨B, o + k, Option.none⟩ = some (us.getD k Go.undef)) → All2 (RepR cx.w0 (okOf cx env cx.w0)) us (encL τ l) →
      Calls P (ρ.f 41) #[.slice (some ⟨B, o, Option.none⟩) l.length cap] cx.w0 fun e w' => ∃ v env', e = .returned v ∧ Mem cx (numB 0 [(0, .row (ρ.t 23) τ l)]) w' env' ∧ Rep w' (okOf cx env' w') env' v (.own 0 0) := fun B o cap us h1 h2 h3 => by
    refine (AnyE.slices_Clone L i0 z τ.sz i0.bytes hi hz0 hz1 rfl hzs hpos z23 B o l.length cap us cx.w0 h1 hlen hbig (fun j u hu => ?_) (encL_oneCell τ l us h3)).mono fun e w' ⟨v', he, ho, _, hB⟩ => ?_
    · obtain ⟨hj, hv⟩ := List.getElem?_eq_some_iff.1 hu
      rw [h2 j (by omega)]
      simp [hj, hv]
    · subst he
      exact fin ho hB h3
  cases hr with
  | r h =>
    cases h with
    | nil _ a cap =>
      cases a with
      | none => exact nilC cap rfl
      | some a =>
        obtain ⟨B, o, q⟩ := a
        cases q with
        | none => exact some_ B o cap [] (by simp) (fun k hk => by simp at hk) .nil
        | some q =>
          refine (clone_empty L i0 z τ.sz i0.bytes hi hz0 hz1 rfl hzs hpos z23 ⟨B, o, some q⟩ cap cx.w0).mono fun e w' ⟨v', he, ho, hB⟩ => ?_
          subst he
          exact fin ho hB .nil
    | ro _ _ B o cap g hB hcap hc hr =>
      obtain ⟨us, h1, h2, h3⟩ := repR_cells (RepR.ro τ l B o cap g hB hcap hc hr)
      exact some_ B o cap us h1 h2 h3
end
end Go.AM
namespace Go.AM
open Go Go.Proofs Go.Shelf Go.RowKit Go.Sort

def valsL (τ : RTy) : List τ.T → List Value
  | [] => []
  | x :: l => vals τ x ++ valsL τ l
theorem encL_flat {τ : RTy} (hf : τ.flat = true) : ∀ l : List τ.T, encL τ l = (valsL τ l).map .v
  | [] => rfl
  | x :: l => by simp [encL, valsL, rvs_enc_flat τ x hf, encL_flat hf l]
theorem valsL_length {τ : RTy} (hf : τ.flat = true) (l : List τ.T) : (valsL τ l).length = l.length * τ.sz := by
  rw [← encL_length, encL_flat hf]; simp

theorem repR_v_inv' {w : World} {ok : Nat → Prop} {u x : Value} (h : RepR w ok u (.v x)) : u = x := by
  cases h; rfl

section
variable {P : Program}

/-- what a row of one's own may be, to a function that changes it where it stands -/
def InPlace (P : Program) [GT P] (f : FuncId) (τ : RTy) (e : TypeId) (l l' : List τ.T) (ys : List Value) : Prop :=
  (l = [] → ∀ (w : World) (a : Option Addr), GT.G P w → Calls P f (.slice a 0 0 :: ys).toArray w fun en w' => en = .returned (.tuple #[]) ∧ Grew w w' ∧ ∀ B, B < w.heap.size → w'.heap[B]? = w.heap[B]?) ∧
  ∀ (w : World) (B cap : Nat) (cur : Array Value), GT.G P w → w.heap[B]? = some (.cells cur e (0, 0)) → l.length ≤ cap → 0 < cap → cap ≤ maxLen → cur.size = cap * τ.sz → (∀ k, k < l.length * τ.sz → cur.getD k Go.undef = (valsL τ l).getD k Go.undef) →
    Calls P f (.slice (some ⟨B, 0, none⟩) l.length cap :: ys).toArray w fun en w' => en = .returned (.tuple #[]) ∧ Grew w w' ∧ (∀ B', B' < w.heap.size → B' ≠ B → w'.heap[B']? = w.heap[B']?) ∧
      ∃ cur', w'.heap[B]? = some (.cells cur' e (0, 0)) ∧ cur'.size = cur.size ∧ ∀ k, k < l.length * τ.sz → cur'.getD k Go.undef = (valsL τ l').getD k Go.undef

theorem cc_inplace [GT P] {f : FuncId} {τ : RTy} {e : TypeId} {l l' : List τ.T} (hflat : τ.flat = true) (hlen : l'.length = l.length) {xs : List AV} {ys : List Value} (hxl : xs.length = ys.length)
    (hx : ∀ (w : World) (ok : Nat → Prop) (env : Env) (u : Value) (i : Nat), i < xs.length → Rep w ok env u (xs.getD i .undef) → u = ys.getD i Go.undef)
    (hf : ∃ fn c, P.funcs[f]? = some fn ∧ fn.body = some c ∧ (fn.name == "runtime.NumGoroutine") = false) (h : InPlace P f τ e l l' ys) :
    CC P f (.own 0 0 :: xs) [.row e τ l] (.tup []) [(0, .row e τ l')] := by
  refine ⟨hf, fun cx env vs hwf hG hh hent hm hs hargs => ?_⟩
  obtain ⟨top, h1, h2, h3, h4⟩ := hG
  have hG := GT.keep _ _ h3 h1
  obtain ⟨u, heu, hrep⟩ := hm.blk 0 0 (.row e τ l) rfl
  have hvs : vs = (u :: ys).toArray := by
    refine Array.ext (by rw [hs]; simp [hxl]) fun i hi hi2 => ?_
    have hi3 : i < xs.length + 1 := by rw [hs] at hi; simpa using hi
    have hr := hargs i (by simpa using hi3)
    cases i with
    | zero =>
      simp only [List.getD_cons_zero] at hr
      have : vs.getD 0 Go.undef = u := by
        generalize vs.getD 0 Go.undef = z at hr
        cases hr with
        | own hR =>
          obtain ⟨cv, x, e1, e2, e3⟩ := hR
          rw [heu] at e1
          simp at e1
          obtain ⟨rfl, rfl⟩ := e1
          exact e3 rfl
      simp [hi] at this
      simpa using this
    | succ i =>
      simp only [List.getD_cons_succ] at hr
      have := hx _ _ _ _ i (by omega) hr
      have hi4 : i < ys.length := by omega
      simp [hi, hi4] at this
      simpa using this
  subst hvs
  have upd : ∀ {w' : World}, Grew cx.w0 w' → (∀ B, B < cx.w0.heap.size → hblk u ≠ some B → w'.heap[B]? = cx.w0.heap[B]?) → RepB w' (okOf cx (env.put 0 0 u) w') (env.put 0 0 u) u (.row e τ l') →
      ∃ v env', (Ending.returned (.tuple #[]) : Ending) = .returned v ∧ Mem cx (numB 0 [(0, .row e τ l')]) w' env' ∧ Rep w' (okOf cx env' w') env' v (.tup []) := fun {w'} hg hk hr => by
    have T := mem_upd (ver := 0) (b := .row e τ l') hm (hh 0) ⟨⟨.inr ⟨0, u, heu, .inr ⟨rfl, rfl⟩⟩, hg, fun B hB hq => hk B hB (hq 0 u heu), fun B q => .inr ⟨0, u, heu, q⟩⟩, hr⟩
    exact ⟨_, _, rfl, T.mem, .tup _ _ rfl fun i hi => by simp at hi⟩
  generalize hb : Blk.row e τ l = b at hrep
  cases hrep with
  | rowNil _ _ a =>
    cases hb
    refine (h.1 rfl cx.w0 a hG).mono fun en w' ⟨he, hg, hk⟩ => ?_
    subst he
    refine upd hg (fun B hB _ => hk B hB) ?_
    have : l' = [] := List.length_eq_zero_iff.1 hlen
    subst this
    exact .rowNil _ _ _
  | row B _ _ _ cap cur hB hcap h0 hmx hsz hc =>
    cases hb
    refine (h.2 cx.w0 B cap cur hG hB hcap h0 hmx hsz fun k hk => ?_).mono fun en w' ⟨he, hg, hk, cur', hB', hs', hc'⟩ => ?_
    · have := hc k hk
      rw [encL_flat hflat] at this
      have hk2 : k < (valsL τ l).length := by rw [valsL_length hflat]; exact hk
      have e1 : ((valsL τ l).map RV.v).getD k .undef = .v ((valsL τ l).getD k Go.undef) := by simp [hk2]
      rw [e1] at this
      exact repR_v_inv' this
    · subst he
      have hhb : hblk (.slice (some ⟨B, 0, none⟩) l.length cap) = some B := hblk_sl h0
      refine upd hg (fun B' hB2 hq => hk B' hB2 fun q => hq (by rw [hhb, q])) ?_
      have R := RepB.row (env := env.put 0 0 (.slice (some ⟨B, 0, none⟩) l.length cap)) (ok := okOf cx (env.put 0 0 (.slice (some ⟨B, 0, none⟩) l.length cap)) w') B e τ l' cap cur' hB' (by omega) h0 hmx (by rw [hs', hsz]) fun k hk => by
        rw [hlen] at hk
        rw [hc' k hk, encL_flat hflat]
        have hk2 : k < (valsL τ l').length := by rw [valsL_length hflat, hlen]; exact hk
        simp [hk2]
        exact .v _
      rw [hlen] at R
      exact R
  | _ => cases hb

theorem cell_holds {w : World} {B : Nat} {cur : Array Value} {e : TypeId} (hB : w.heap[B]? = some (.cells cur e (0, 0))) {F : Array Value} (hs : F.size ≤ cur.size) (h : ∀ k, k < F.size → cur.getD k Go.undef = F.getD k Go.undef) : Holds id w B 0 F := fun j hj => by
  have hj2 : j < cur.size := by omega
  refine ⟨?_, ?_⟩
  · have := h j hj
    simp [hj, hj2] at this
    unfold World.cell?
    simp [hB, hj2, this, hj]
  · unfold World.frozen?
    simp [hB]

theorem putRow_block {w : World} {B : Nat} {cur : Array Value} {e : TypeId} (n : Nat) (hB : w.heap[B]? = some (.cells cur e (0, 0))) (F : Array Value) (os : Array Obj) (hs : F.size ≤ cur.size) :
    let w' := grow (putRow id (Sort.ahead w n) B 0 F) os
    Grew w w' ∧ (∀ B', B' < w.heap.size → B' ≠ B → w'.heap[B']? = w.heap[B']?) ∧ ∃ cur', w'.heap[B]? = some (.cells cur' e (0, 0)) ∧ cur'.size = cur.size ∧ ∀ k, k < F.size → cur'.getD k Go.undef = F.getD k Go.undef := by
  have hlt : B < w.heap.size := (Array.getElem?_eq_some_iff.1 hB).1
  have hsz : (putRow id (Sort.ahead w n) B 0 F).heap.size = w.heap.size := by simp [putRow, mapBlock, Sort.ahead]
  have hget : ∀ B', B' < w.heap.size → (grow (putRow id (Sort.ahead w n) B 0 F) os).heap[B']? = (w.heap.modify B (onCells (putCells id 0 F)))[B']? := fun B' hB' => by
    show (_ ++ os)[B']? = _
    rw [Array.getElem?_append_left (by rw [hsz]; exact hB')]
    rfl
  refine ⟨⟨?_, rfl, rfl⟩, fun B' hB' hne => ?_, putCells id 0 F cur, ?_, by simp [putCells], fun k hk => ?_⟩
  · show _ ≤ (_ ++ os).size
    simp [hsz]
  · rw [hget B' hB', Array.getElem?_modify]
    simp [Ne.symm hne]
  · rw [hget B hlt, Array.getElem?_modify]
    simp [hB, onCells]
  · have : k < cur.size := by omega
    simp [putCells, this, hk]

/-- slices.Sort at ints -/
theorem cc_sort_int [GT P] {ρ : Ren} (L : Lays.n189 P ρ) (hf : ∃ fn c, P.funcs[ρ.f 189]? = some fn ∧ fn.body = some c ∧ (fn.name == "runtime.NumGoroutine") = false) (e : TypeId) (l : List Int) (hb : l.length < 4611686018427387904) :
    CC P (ρ.f 189) [.own 0 0] [.row e (.int .i64) l] (.tup []) [(0, .row e (.int .i64) (l.mergeSort fun x y => decide (x ≤ y)))] := by
  have hv : ∀ l : List Int, valsL (.int .i64) l = l.map (Value.int .i64) := fun l => by
    induction l with
    | nil => rfl
    | cons x l ih => simp [valsL, vals, ih]
  refine cc_inplace (τ := .int .i64) (e := e) (l := l) (xs := []) (ys := []) rfl (List.length_mergeSort l) rfl (fun _ _ _ _ i hi => by simp at hi) hf ⟨fun _ w a _ => ?_, fun w B cap cur hG hB hcap h0 hmx hsz hc => ?_⟩
  · refine (Any.slices_Sort_int_none L a 0 w).mono fun en w' ⟨he, hw⟩ => ⟨he, ?_⟩
    subst hw
    exact ⟨Grew.refl _, fun _ _ => rfl⟩
  · have hsz' : cur.size = cap := by rw [hsz]; simp [RTy.sz]
    have hF : Holds (Value.int .i64) w B 0 l.toArray := fun j hj => by
      have hj : j < l.length := by simpa using hj
      have := (cell_holds hB (F := (l.map (Value.int .i64)).toArray) (by simp; omega) fun k hk => by
        have hk : k < l.length := by simpa using hk
        have := hc k (by simpa [RTy.sz] using hk)
        rw [hv] at this
        simpa using this) j (by simpa using hj)
      simpa [hj] using this
    refine (Any.slices_Sort_int L B 0 cap l w hF (Array.getElem?_eq_some_iff.1 hB).1 hb).mono fun en w' ⟨he, n, os, hw⟩ => ⟨he, ?_⟩
    have e0 : ∀ m : List Int, putRow (Value.int .i64) (Sort.ahead w n) B 0 m.toArray = putRow id (Sort.ahead w n) B 0 (m.map (Value.int .i64)).toArray := fun m => by
      unfold putRow
      congr 1
      funext c
      unfold putCells
      refine Array.ext (by simp) fun i h1 h2 => ?_
      by_cases q : i < m.length
      · simp [q]
      · simp [q]
    rw [e0] at hw
    subst hw
    have := putRow_block n hB ((l.mergeSort fun x y => decide (x ≤ y)).map (Value.int .i64)).toArray os (by simp; omega)
    refine ⟨this.1, this.2.1, ?_⟩
    obtain ⟨cur', h1, h2, h3⟩ := this.2.2
    refine ⟨cur', h1, h2, fun k hk => ?_⟩
    rw [h3 k (by simpa [RTy.sz] using hk), hv]
    simp
end
end Go.AM
namespace Go.AM
open Go Go.Proofs Go.Shelf Go.RowKit Go.Sort
section
variable {P : Program}

theorem flatK_valsL {α : Type} [Inhabited α] {τ : RTy} (hf : τ.flat = true) (dec : α → τ.T) (hpos : 0 < τ.sz) (d : Array α) :
    Sort.flatK (fun a => vals τ (dec a)) τ.sz d = (valsL τ (d.toList.map dec)).toArray := by
  have hl : ∀ (l : List α) (j i : Nat), j < l.length → i < τ.sz → (valsL τ (l.map dec)).getD (j * τ.sz + i) Go.undef = (vals τ (dec (l.getD j default))).getD i Go.undef := fun l => by
    induction l with
    | nil => intro j i h; simp at h
    | cons x l ih =>
      intro j i hj hi
      have hv := vals_length τ (dec x) hf
      cases j with
      | zero => simp [valsL, List.getElem?_append, hv, hi]
      | succ j =>
        have := ih j i (by simpa using hj) hi
        have e1 : (j + 1) * τ.sz + i - τ.sz = j * τ.sz + i := by rw [Nat.succ_mul]; omega
        have e2 : ¬ (j + 1) * τ.sz + i < τ.sz := by rw [Nat.succ_mul]; omega
        simpa [valsL, List.getElem?_append, hv, e1, e2] using this
  refine ext_get! (by simp [Sort.size_flatK, valsL_length hf]) fun t ht => ?_
  have ht' : t < d.size * τ.sz := by simpa using ht
  rw [Sort.get_flatK _ _ _ _ ht']
  have hd : t / τ.sz < d.size := Nat.div_lt_of_lt_mul (by rw [Nat.mul_comm]; exact ht')
  have := hl d.toList (t / τ.sz) (t % τ.sz) (by simpa using hd) (Nat.mod_lt _ hpos)
  rw [Nat.mul_comm, Nat.div_add_mod] at this
  have h2 : t < (valsL τ (d.toList.map dec)).length := by rw [valsL_length hf]; simpa using ht'
  have h3 : t % τ.sz < (vals τ (dec (d.toList.getD (t / τ.sz) default))).length := by rw [vals_length _ _ hf]; exact Nat.mod_lt _ hpos
  have e4 : d[t / τ.sz]! = d.toList.getD (t / τ.sz) default := by simp [hd]
  rw [e4, getElem!_pos (valsL τ (d.toList.map dec)).toArray t (by simpa using h2)]
  show (vals τ (dec (d.toList.getD (t / τ.sz) default)))[t % τ.sz]! = _
  rw [getElem!_pos (vals τ (dec (d.toList.getD (t / τ.sz) default))) (t % τ.sz) h3]
  rw [List.getD_eq_getElem?_getD, List.getD_eq_getElem?_getD, List.getElem?_eq_getElem h2, List.getElem?_eq_getElem h3] at this
  simpa using this.symm

/-- slices.SortFunc at structs of plain data -/
theorem cc_sortFunc [GT P] {ρ : Ren} (L : SlLaysF0.n6 P ρ) (hf : ∃ fn c, P.funcs[ρ.f 6]? = some fn ∧ fn.body = some c ∧ (fn.name == "runtime.NumGoroutine") = false) {τ : RTy} (hflat : τ.flat = true) (hpos : 0 < τ.sz)
    (aE : ∀ w, (isAgg (ρ.t 24)).run P w = .ok true w) (zE : ∀ w, (Go.sizeOf (ρ.t 24)).run P w = .ok τ.sz w) (e : TypeId) {α : Type} [Inhabited α] (dec : α → τ.T) (cf : α → α → Int) (hO : SWO (ltOf cf)) (g : Nat)
    (eg : ∀ args w, (callFunc g args).run P w = .ok (.enter g args) w) (hcmp : ∀ blk n w, CmpLays P g #[] (fun a => vals τ (dec a)) τ.sz cf blk 0 n w) (d : Array α) (hsz : d.size < 4611686018427387904) (h1 : ∀ x, ∀ v ∈ vals τ (dec x), v.oneCell' = true) :
    CC P (ρ.f 6) [.own 0 0, .r (.v (.func (.func g) #[] #[]))] [.row e τ (d.toList.map dec)] (.tup []) [(0, .row e τ ((pdq (ltOf cf) d 0 d.size (Lib.bitLen d.size) true true).toList.map dec))] := by
  have hp := pdq_sorts (ltOf cf) hO d 0 d.size (Lib.bitLen d.size) true true (Nat.zero_le _) (Nat.le_refl _) (Or.inl rfl)
  have hps : (pdq (ltOf cf) d 0 d.size (Lib.bitLen d.size) true true).size = d.size := hp.1.1
  refine cc_inplace (τ := τ) (e := e) (xs := [.r (.v (.func (.func g) #[] #[]))]) (ys := [.func (.func g) #[] #[]]) hflat (by simp [hps]) rfl (fun _ _ _ u i hi hr => ?_) hf ⟨fun h0 w a _ => ?_, fun w B cap cur hG hB hcap h0 hmx hs hc => ?_⟩
  · have : i = 0 := by simpa using hi
    subst this
    simp only [List.getD_cons_zero] at hr ⊢
    exact rep_v_inv hr
  · refine (AnyF.slices_SortFunc_none L a 0 _ w).mono fun en w' ⟨he, hw⟩ => ⟨he, ?_⟩
    subst hw
    exact ⟨Grew.refl _, fun _ _ => rfl⟩
  · have hl : (d.toList.map dec).length = d.size := by simp
    rw [hl] at hc hcap ⊢
    have hle : d.size * τ.sz ≤ cur.size := by rw [hs]; exact Nat.mul_le_mul_right _ hcap
    have hF : HoldsK (fun a => vals τ (dec a)) τ.sz w B 0 d := by
      unfold HoldsK
      rw [flatK_valsL hflat dec hpos]
      refine cell_holds hB (by simp [valsL_length hflat]; exact hle) fun k hk => ?_
      have hk : k < d.size * τ.sz := by simpa [valsL_length hflat] using hk
      rw [hc k hk]
      simp
    refine (AnyQ.slices_SortFunc_eq L τ.sz aE zE (fun a => vals τ (dec a)) (fun x => vals_length _ _ hflat) h1 cf hO g #[] B 0 cap d w eg (hcmp _ _ _) hF (Array.getElem?_eq_some_iff.1 hB).1 hsz).mono fun en w' ⟨he, n, os, hw⟩ => ⟨he, ?_⟩
    unfold sortWorldK putRowK at hw
    rw [flatK_valsL hflat dec hpos] at hw
    subst hw
    have hls : (valsL τ ((pdq (ltOf cf) d 0 d.size (Lib.bitLen d.size) true true).toList.map dec)).length = d.size * τ.sz := by rw [valsL_length hflat]; simp [hps]
    have := putRow_block n hB (valsL τ ((pdq (ltOf cf) d 0 d.size (Lib.bitLen d.size) true true).toList.map dec)).toArray os (by simp [hls]; exact hle)
    refine ⟨this.1, this.2.1, ?_⟩
    obtain ⟨cur', h1, h2, h3⟩ := this.2.2
    refine ⟨cur', h1, h2, fun k hk => ?_⟩
    rw [h3 k (by simpa [hls] using hk)]
    simp
end
end Go.AM
namespace Go.AM
open Go Go.Proofs Go.Shelf Go.RowKit Go.Sort
section
variable {P : Program}
/-- plain arguments; a fresh row of one's own comes out -/
theorem cc_fresh [GT P] {f : FuncId} {xs : List Value} {e : TypeId} {τ : RTy} {l : List τ.T} (hf : ∃ fn c, P.funcs[f]? = some fn ∧ fn.body = some c ∧ (fn.name == "runtime.NumGoroutine") = false)
    (h : ∀ w : World, GT.G P w → Calls P f xs.toArray w fun en w' => ∃ v, en = .returned v ∧ Grew w w' ∧ (∀ B, B < w.heap.size → w'.heap[B]? = w.heap[B]?) ∧ (∀ ok env, RepB w' ok env v (.row e τ l)) ∧ ∀ B, hblk v = some B → w.heap.size ≤ B ∧ B < w'.heap.size) :
    CC P f (rvals xs) [] (.own 0 0) [(0, .row e τ l)] := by
  refine ⟨hf, fun cx env vs hwf hG hh hent hm hs hargs => ?_⟩
  obtain ⟨top, h1, h2, h3, h4⟩ := hG
  have hlen : ∀ l : List Value, (rvals l).length = l.length := fun l => by induction l <;> simp [rvals, *]
  have hget : ∀ (l : List Value) (i : Nat), i < l.length → (rvals l).getD i .undef = .r (.v (l.getD i Go.undef)) := fun l => by
    induction l with
    | nil => intro i h; simp at h
    | cons x l ih =>
      intro i h
      cases i with
      | zero => rfl
      | succ i => simpa [rvals] using ih i (by simpa using h)
  have hvs : vs = xs.toArray := by
    refine Array.ext (by rw [hs, hlen]; simp) fun i hi hi2 => ?_
    have hi3 : i < xs.length := by simpa using hi2
    have := hargs i (by rw [hlen]; exact hi3)
    rw [hget xs i hi3] at this
    have := rep_v_inv this
    simpa [hi, hi3] using this
  subst hvs
  have none : ∀ n, env n = none := fun n => hm.dom n rfl (hh n)
  refine (h cx.w0 (GT.keep _ _ h3 h1)).mono fun en w' ⟨v, he, hg, hfr, hr, hb⟩ => ?_
  exact ⟨v, env.put 0 0 v, he, mem_one none hh hent hg hfr hb (hr _ _), .own ⟨0, _, by simp [Env.put], Nat.le_refl _, fun _ => rfl⟩⟩

/-- slices.Grow of nil -/
theorem cc_grow [GT P] {ρ : Ren} (L : Lays8.n4 P ρ) (hf : ∃ fn c, P.funcs[ρ.f 4]? = some fn ∧ fn.body = some c ∧ (fn.name == "runtime.NumGoroutine") = false) (i0 : TypeInfo) (z : Value) (hi0 : P.info? (ρ.t 25) = some i0) (hz0 : i0.zero = some z) (τ : RTy) (hs : i0.size = τ.sz) (hzs : z.cells.size = τ.sz) (hpos : 0 < τ.sz) (hby : 0 < i0.bytes)
    (n : Nat) (hbig : n * i0.bytes ≤ 140737488355328) : CC P (ρ.f 4) [.r (.v (.slice none 0 0)), .r (.v (.int .i64 n))] [] (.own 0 0) [(0, .row (ρ.t 25) τ [])] := by
  have hn : n ≤ 140737488355328 := Nat.le_trans (Nat.le_mul_of_pos_right _ hby) hbig
  refine cc_fresh (xs := [.slice none 0 0, .int .i64 n]) hf fun w _ => ?_
  by_cases h0 : n = 0
  · subst h0
    refine (Any8.slices_Grow_room L none 0 0 0 w (Nat.le_refl _) (by omega) (by omega) (by omega)).mono fun en w' ⟨he, hw⟩ => ?_
    subst hw
    exact ⟨_, he, Grew.refl _, fun _ _ => rfl, fun _ _ => .rowNil _ _ _, fun B hB => by simp [hblk] at hB⟩
  · refine (Any8.slices_Grow_grow L i0 z hi0 hz0 (by omega) none 0 0 n [] w (Nat.le_refl _) (by omega) (by simpa using hbig) (by omega) (by simp) (fun _ => rfl) (fun a ha => by cases ha)).mono fun en w' ⟨he, hw⟩ => ?_
    have hge := grownCap_ge w (0 + n) 0 (ρ.t 25)
    have hm := grownCap_le_maxLen w (0 + n) 0 (ρ.t 25) (by unfold maxLen; omega)
    subst hw
    refine ⟨_, he, ⟨?_, rfl, rfl⟩, fun B hB => ?_, fun ok env => ?_, fun B hB => ?_⟩
    · show w.heap.size ≤ (w.heap.push _).size
      simp
    · show (w.heap.push _)[B]? = _
      rw [Array.getElem?_push]
      simp; omega
    · refine .row w.heap.size (ρ.t 25) τ [] _ _ (heap_alloc_new w.drew _) (Nat.zero_le _) (by omega) hm ?_ fun k hk => by simp at hk
      simp only [Nat.zero_add] at hge ⊢
      simp [size_zeroCells, hzs, ← Nat.add_mul]
      congr 1
      omega
    · rw [hblk_sl (by omega)] at hB
      simp at hB
      subst hB
      refine ⟨Nat.le_refl _, ?_⟩
      show _ < (w.heap.push _).size
      simp
end
end Go.AM
namespace Go.AM
open Go Go.Proofs Go.Shelf Go.RowKit Go.Sort

/-- what is asked of an element's type -/
def elemOk (P : Program) (t : TypeId) (sz b : Nat) : Bool :=
  match P.info? t with
  | some i => match i.zero with
    | some z => Nat.beq i.size sz && (Nat.beq z.cells.size sz && (Nat.beq i.bytes b && (Nat.blt 0 sz && Nat.blt 0 b)))
    | none => false
  | none => false
theorem elemOk_spec {P : Program} {t : TypeId} {sz b : Nat} (h : elemOk P t sz b = true) : ∃ i z, P.info? t = some i ∧ i.zero = some z ∧ i.size = sz ∧ z.cells.size = sz ∧ i.bytes = b ∧ 0 < sz ∧ 0 < b := by
  unfold elemOk at h
  split at h
  · rename_i i hi
    split at h
    · rename_i z hz
      simp only [Bool.and_eq_true] at h
      exact ⟨i, z, hi, hz, Nat.eq_of_beq_eq_true h.1, Nat.eq_of_beq_eq_true h.2.1, Nat.eq_of_beq_eq_true h.2.2.1, Nat.le_of_ble_eq_true h.2.2.2.1, Nat.le_of_ble_eq_true h.2.2.2.2⟩
    · cases h
  · cases h

section
variable {P : Program}
theorem cc_clone' [GT P] {ρ : Ren} (L : SlLaysE0.n41 P ρ) {τ : RTy} {b : Nat} (he : elemOk P (ρ.t 23) τ.sz b = true) (z23 : ∀ w, (Go.sizeOf (ρ.t 23)).run P w = .ok τ.sz w)
    (hf : ∃ fn c, P.funcs[ρ.f 41]? = some fn ∧ fn.body = some c ∧ (fn.name == "runtime.NumGoroutine") = false) (l : List τ.T) (hbig : l.length * b ≤ 140737488355328) : CC P (ρ.f 41) [.r (.ro τ l)] [] (.own 0 0) [(0, .row (ρ.t 23) τ l)] := by
  obtain ⟨i, z, h1, h2, h3, h4, h5, h6, h7⟩ := elemOk_spec he
  subst h5
  exact cc_clone L h1 h2 h3 h4 h6 h7 z23 hf l hbig
theorem cc_grow' [GT P] {ρ : Ren} (L : Lays8.n4 P ρ) (hf : ∃ fn c, P.funcs[ρ.f 4]? = some fn ∧ fn.body = some c ∧ (fn.name == "runtime.NumGoroutine") = false) (τ : RTy) {b : Nat} (he : elemOk P (ρ.t 25) τ.sz b = true)
    (n : Int) (h0 : 0 ≤ n) (hbig : n.toNat * b ≤ 140737488355328) : CC P (ρ.f 4) [.r (.v (.slice none 0 0)), .r (.v (.int .i64 n))] [] (.own 0 0) [(0, .row (ρ.t 25) τ [])] := by
  obtain ⟨i, z, h1, h2, h3, h4, h5, h6, h7⟩ := elemOk_spec he
  subst h5
  obtain ⟨m, rfl⟩ := Int.eq_ofNat_of_zero_le h0
  exact cc_grow L hf i z h1 h2 τ h3 h4 h6 h7 m (by simpa using hbig)

/-- ints that a comparison by difference takes -/
def SmallI (x : Int) : Prop := 0 ≤ x ∧ x ≤ 4611686018427387904
instance (x : Int) : Decidable (SmallI x) := inferInstanceAs (Decidable (_ ∧ _))
abbrev SPair : Type := {x : Int × Int // SmallI x.1}
instance : Inhabited SPair := ⟨⟨(0, 0), by decide⟩⟩
def toSP : List (Int × Int) → List SPair
  | [] => []
  | x :: l => if h : SmallI x.1 then ⟨x, h⟩ :: toSP l else toSP l
theorem toSP_val : ∀ l : List (Int × Int), (∀ x ∈ l, SmallI x.1) → (toSP l).map (·.1) = l
  | [], _ => rfl
  | x :: l, h => by
    have h1 : SmallI x.1 := h x (by simp)
    simp [toSP, h1, toSP_val l fun y hy => h y (by simp [hy])]
def spCmp (x y : SPair) : Int := x.1.1 - y.1.1
theorem spCmp_lt (x y : SPair) : ltOf spCmp x y = decide (x.1.1 < y.1.1) := by
  unfold ltOf spCmp
  by_cases h : x.1.1 < y.1.1
  · rw [decide_eq_true h, decide_eq_true (by omega)]
  · rw [decide_eq_false h, decide_eq_false (by omega)]
theorem spCmp_swo : SWO (ltOf spCmp) where
  irrefl x := by rw [spCmp_lt]; simp
  trans x y z h1 h2 := by rw [spCmp_lt] at *; rw [decide_eq_true_iff] at *; omega
  ntrans x y z h1 h2 := by rw [spCmp_lt] at *; rw [decide_eq_false_iff_not] at *; omega
/-- pairs by their first numbers, as Go's sort lays them -/
def sortSP (l : List (Int × Int)) : List (Int × Int) := (pdq (ltOf spCmp) (toSP l).toArray 0 (toSP l).toArray.size (Lib.bitLen (toSP l).toArray.size) true true).toList.map (·.1)
end

theorem perm_sortSP {l : List (Int × Int)} (h : ∀ x ∈ l, SmallI x.1) : (sortSP l).Perm l := by
  have hp := (pdq_sorts (ltOf spCmp) spCmp_swo (toSP l).toArray 0 (toSP l).toArray.size (Lib.bitLen (toSP l).toArray.size) true true (Nat.zero_le _) (Nat.le_refl _) (Or.inl rfl)).1
  have h3 := hp.2.2
  have e1 : ∀ (d : Array SPair) (n : Nat), d.size = n → d.extract 0 n = d := fun d n hn => by subst hn; exact Array.extract_size
  rw [e1 _ _ hp.1, e1 _ _ rfl] at h3
  have := h3.map (fun x : SPair => x.1)
  unfold sortSP
  refine this.trans ?_
  show (List.map (fun x : SPair => x.1) (toSP l)).Perm l
  rw [toSP_val l h]

/-! ### sorting of few, so that the kernel can run it -/
def srtI (l : List Int) : List Int := match l with
  | [] => []
  | [a] => [a]
  | [a, b] => bif decide (a ≤ b) then [a, b] else [b, a]
  | l => l.mergeSort fun x y => decide (x ≤ y)
theorem srtI_eq (l : List Int) : srtI l = l.mergeSort fun x y => decide (x ≤ y) := by
  unfold srtI
  split
  · simp
  · simp
  · rename_i a b
    have hp := List.mergeSort_perm [a, b] (fun x y => decide (x ≤ y))
    have hs := List.pairwise_mergeSort (le := fun x y : Int => decide (x ≤ y)) (fun a b c h1 h2 => by simp at h1 h2 ⊢; omega) (fun a b => by simp; omega) [a, b]
    generalize List.mergeSort [a, b] (fun x y => decide (x ≤ y)) = q at hp hs
    have hl := hp.length_eq
    match q, hl with
    | [c, d], _ =>
      simp at hs
      have h1 : c = a ∨ c = b := by simpa using hp.subset (by simp : c ∈ [c, d])
      have h2 : d = a ∨ d = b := by simpa using hp.subset (by simp : d ∈ [c, d])
      have h3 : a = c ∨ a = d := by simpa using hp.symm.subset (by simp : a ∈ [a, b])
      have h4 : b = c ∨ b = d := by simpa using hp.symm.subset (by simp : b ∈ [a, b])
      cases h : decide (a ≤ b)
      · have h' := of_decide_eq_false h
        rw [cond_false]
        have : c = b ∧ d = a := by omega
        rw [this.1, this.2]
      · have h' := of_decide_eq_true h
        rw [cond_true]
        have : c = a ∧ d = b := by omega
        rw [this.1, this.2]
  · rfl
def srtSP (l : List (Int × Int)) : List (Int × Int) := match l with
  | [] => []
  | [a] => [a]
  | l => sortSP l
theorem srtSP_eq {l : List (Int × Int)} (h : ∀ x ∈ l, SmallI x.1) : srtSP l = sortSP l := by
  unfold srtSP
  split
  · have := (perm_sortSP (l := []) (by simp)).length_eq
    exact (List.length_eq_zero_iff.1 this).symm
  · rename_i a
    exact (List.perm_singleton.1 (perm_sortSP h)).symm
  · rfl
end Go.AM
/-
  DERIVED: THE SHELF's CONTRACTS AT THIS DUMP, IN PLAIN WORDS (tools/lay-plain.mjs out of 'TryShelf.lean', which tools/lay-shelf.mjs wrote): THE SAME DECLARATIONS UNDER THE SAME NAMES: 'import', 'namespace', 'open', 'def', 'theorem' AND NOTHING ELSE: no command of the shelf's: FOR A HAND-IN. Each laying: the table of numbers ('.._ren') and one theorem, a field a fact of the dump's own or the kernel's comparison; each contract: ONE APPLICATION.
-/
namespace Go.Proofs
open Go.Shelf
def Tryz.sort_int_ren : Go.Shelf.Ren := ⟨fun | 189 => 246 | 125 => 213 | 257 => 274 | 128 => 255 | 129 => 236 | 294 => 282 | 295 => 283 | 296 => 284 | 297 => 285 | 298 => 286 | 299 => 287 | 216 => 288 | 300 => 289 | 301 => 290 | 328 => 292 | 329 => 276 | 330 => 277 | 331 => 293 | 332 => 294 | 215 => 269 | 343 => 295 | n => n, fun | 28 => 25 | 3 => 3 | 46 => 270 | 0 => 0 | 51 => 284 | 53 => 254 | 4 => 4 | 183 => 296 | 182 => 295 | 131 => 190 | 5 => 5 | 9 => 9 | 218 => 312 | 222 => 316 | 228 => 326 | 229 => 181 | n => n, fun | n => n⟩
theorem Tryz.sort_int : Go.Proofs.Lays.n189 Tryz.prog Tryz.sort_int_ren := {
  mixed := by kernel_rfl
  f125 := Tryz.func213.trans (congrArg some (by kernel_rfl))
  f128 := Tryz.func255.trans (congrArg some (by kernel_rfl))
  f129 := Tryz.func236.trans (congrArg some (by kernel_rfl))
  f189 := Tryz.func246.trans (congrArg some (by kernel_rfl))
  f215 := Tryz.func269.trans (congrArg some (by kernel_rfl))
  f216 := Tryz.func288.trans (congrArg some (by kernel_rfl))
  f257 := Tryz.func274.trans (congrArg some (by kernel_rfl))
  f294 := Tryz.func282.trans (congrArg some (by kernel_rfl))
  f295 := Tryz.func283.trans (congrArg some (by kernel_rfl))
  f296 := Tryz.func284.trans (congrArg some (by kernel_rfl))
  f297 := Tryz.func285.trans (congrArg some (by kernel_rfl))
  f298 := Tryz.func286.trans (congrArg some (by kernel_rfl))
  f299 := Tryz.func287.trans (congrArg some (by kernel_rfl))
  f300 := Tryz.func289.trans (congrArg some (by kernel_rfl))
  f301 := Tryz.func290.trans (congrArg some (by kernel_rfl))
  f328 := Tryz.func292.trans (congrArg some (by kernel_rfl))
  f329 := Tryz.func276.trans (congrArg some (by kernel_rfl))
  f330 := Tryz.func277.trans (congrArg some (by kernel_rfl))
  f331 := Tryz.func293.trans (congrArg some (by kernel_rfl))
  f332 := Tryz.func294.trans (congrArg some (by kernel_rfl))
  f343 := Tryz.func295.trans (congrArg some (by kernel_rfl))
  t0 := Tryz.underlying0
  a0 := Tryz.isAgg0
  z0 := Tryz.sizeOf0
  v0 := Tryz.zeroValue0
  t3 := Tryz.underlying3
  a3 := Tryz.isAgg3
  z3 := Tryz.sizeOf3
  v3 := Tryz.zeroValue3
  t4 := Tryz.underlying4
  a4 := Tryz.isAgg4
  z4 := Tryz.sizeOf4
  v4 := Tryz.zeroValue4
  t5 := Tryz.underlying5
  a5 := Tryz.isAgg5
  z5 := Tryz.sizeOf5
  v5 := Tryz.zeroValue5
  t9 := Tryz.underlying9
  a9 := Tryz.isAgg9
  z9 := Tryz.sizeOf9
  v9 := Tryz.zeroValue9
  t28 := Tryz.underlying25
  a28 := Tryz.isAgg25
  z28 := Tryz.sizeOf25
  v28 := Tryz.zeroValue25
  t46 := Tryz.underlying270
  a46 := Tryz.isAgg270
  z46 := Tryz.sizeOf270
  v46 := Tryz.zeroValue270
  t51 := Tryz.underlying284
  a51 := Tryz.isAgg284
  z51 := Tryz.sizeOf284
  v51 := Tryz.zeroValue284
  t53 := Tryz.underlying254
  a53 := Tryz.isAgg254
  z53 := Tryz.sizeOf254
  v53 := Tryz.zeroValue254
  t131 := Tryz.underlying190
  a131 := Tryz.isAgg190
  z131 := Tryz.sizeOf190
  v131 := Tryz.zeroValue190
  t182 := Tryz.underlying295
  a182 := Tryz.isAgg295
  z182 := Tryz.sizeOf295
  v182 := Tryz.zeroValue295
  t183 := Tryz.underlying296
  a183 := Tryz.isAgg296
  z183 := Tryz.sizeOf296
  v183 := Tryz.zeroValue296
  t218 := Tryz.underlying312
  a218 := Tryz.isAgg312
  z218 := Tryz.sizeOf312
  v218 := Tryz.zeroValue312
  t222 := Tryz.underlying316
  a222 := Tryz.isAgg316
  z222 := Tryz.sizeOf316
  v222 := Tryz.zeroValue316
  t228 := Tryz.underlying326
  a228 := Tryz.isAgg326
  z228 := Tryz.sizeOf326
  v228 := Tryz.zeroValue326
  t229 := Tryz.underlying181
  a229 := Tryz.isAgg181
  z229 := Tryz.sizeOf181
  v229 := Tryz.zeroValue181 }
def Tryz.clone_span_ren : Go.Shelf.Ren := ⟨fun | 41 => 167 | n => n, fun | 22 => 92 | 23 => 91 | 4 => 4 | n => n, fun | n => n⟩
theorem Tryz.clone_span : Go.Proofs.SlLaysE0.n41 Tryz.prog Tryz.clone_span_ren := {
  mixed := by kernel_rfl
  f41 := ⟨Tryz.f167.name, by decide, Tryz.func167.trans (congrArg some (by kernel_rfl))⟩
  t4 := Tryz.underlying4
  a4 := Tryz.isAgg4
  z4 := Tryz.sizeOf4
  v4 := Tryz.zeroValue4
  t22 := Tryz.underlying92
  a22 := Tryz.isAgg92
  z22 := Tryz.sizeOf92
  v22 := Tryz.zeroValue92 }
def Tryz.sort_span_ren : Go.Shelf.Ren := ⟨fun | 6 => 168 | 15 => 213 | 14 => 212 | 28 => 255 | 29 => 236 | 20 => 247 | 21 => 248 | 22 => 249 | 23 => 250 | 24 => 251 | 25 => 252 | 26 => 253 | 27 => 254 | 46 => 275 | 47 => 276 | 48 => 277 | 49 => 278 | 50 => 279 | 57 => 291 | n => n, fun | 22 => 92 | 24 => 91 | 25 => 232 | 3 => 3 | 39 => 270 | 0 => 0 | 53 => 284 | 55 => 254 | 4 => 4 | 46 => 296 | 45 => 295 | 50 => 190 | 5 => 5 | 9 => 9 | 66 => 312 | 70 => 316 | 76 => 326 | 77 => 181 | n => n, fun | n => n⟩
theorem Tryz.sort_span : Go.Proofs.SlLaysF0.n6 Tryz.prog Tryz.sort_span_ren := {
  mixed := by kernel_rfl
  f6 := ⟨Tryz.f168.name, by decide, Tryz.func168.trans (congrArg some (by kernel_rfl))⟩
  f14 := ⟨Tryz.f212.name, by decide, Tryz.func212.trans (congrArg some (by kernel_rfl))⟩
  f15 := Tryz.func213.trans (congrArg some (by kernel_rfl))
  f20 := ⟨Tryz.f247.name, by decide, Tryz.func247.trans (congrArg some (by kernel_rfl))⟩
  f21 := ⟨Tryz.f248.name, by decide, Tryz.func248.trans (congrArg some (by kernel_rfl))⟩
  f22 := ⟨Tryz.f249.name, by decide, Tryz.func249.trans (congrArg some (by kernel_rfl))⟩
  f23 := ⟨Tryz.f250.name, by decide, Tryz.func250.trans (congrArg some (by kernel_rfl))⟩
  f24 := ⟨Tryz.f251.name, by decide, Tryz.func251.trans (congrArg some (by kernel_rfl))⟩
  f25 := ⟨Tryz.f252.name, by decide, Tryz.func252.trans (congrArg some (by kernel_rfl))⟩
  f26 := ⟨Tryz.f253.name, by decide, Tryz.func253.trans (congrArg some (by kernel_rfl))⟩
  f27 := ⟨Tryz.f254.name, by decide, Tryz.func254.trans (congrArg some (by kernel_rfl))⟩
  f28 := Tryz.func255.trans (congrArg some (by kernel_rfl))
  f29 := Tryz.func236.trans (congrArg some (by kernel_rfl))
  f46 := ⟨Tryz.f275.name, by decide, Tryz.func275.trans (congrArg some (by kernel_rfl))⟩
  f47 := Tryz.func276.trans (congrArg some (by kernel_rfl))
  f48 := Tryz.func277.trans (congrArg some (by kernel_rfl))
  f49 := ⟨Tryz.f278.name, by decide, Tryz.func278.trans (congrArg some (by kernel_rfl))⟩
  f50 := ⟨Tryz.f279.name, by decide, Tryz.func279.trans (congrArg some (by kernel_rfl))⟩
  f57 := ⟨Tryz.f291.name, by decide, Tryz.func291.trans (congrArg some (by kernel_rfl))⟩
  t0 := Tryz.underlying0
  a0 := Tryz.isAgg0
  z0 := Tryz.sizeOf0
  v0 := Tryz.zeroValue0
  t3 := Tryz.underlying3
  a3 := Tryz.isAgg3
  z3 := Tryz.sizeOf3
  v3 := Tryz.zeroValue3
  t4 := Tryz.underlying4
  a4 := Tryz.isAgg4
  z4 := Tryz.sizeOf4
  v4 := Tryz.zeroValue4
  t5 := Tryz.underlying5
  a5 := Tryz.isAgg5
  z5 := Tryz.sizeOf5
  v5 := Tryz.zeroValue5
  t9 := Tryz.underlying9
  a9 := Tryz.isAgg9
  z9 := Tryz.sizeOf9
  v9 := Tryz.zeroValue9
  t22 := Tryz.underlying92
  a22 := Tryz.isAgg92
  z22 := Tryz.sizeOf92
  v22 := Tryz.zeroValue92
  t25 := Tryz.underlying232
  a25 := Tryz.isAgg232
  z25 := Tryz.sizeOf232
  v25 := Tryz.zeroValue232
  t39 := Tryz.underlying270
  a39 := Tryz.isAgg270
  z39 := Tryz.sizeOf270
  v39 := Tryz.zeroValue270
  t45 := Tryz.underlying295
  a45 := Tryz.isAgg295
  z45 := Tryz.sizeOf295
  v45 := Tryz.zeroValue295
  t46 := Tryz.underlying296
  a46 := Tryz.isAgg296
  z46 := Tryz.sizeOf296
  v46 := Tryz.zeroValue296
  t50 := Tryz.underlying190
  a50 := Tryz.isAgg190
  z50 := Tryz.sizeOf190
  v50 := Tryz.zeroValue190
  t53 := Tryz.underlying284
  a53 := Tryz.isAgg284
  z53 := Tryz.sizeOf284
  v53 := Tryz.zeroValue284
  t55 := Tryz.underlying254
  a55 := Tryz.isAgg254
  z55 := Tryz.sizeOf254
  v55 := Tryz.zeroValue254
  t66 := Tryz.underlying312
  a66 := Tryz.isAgg312
  z66 := Tryz.sizeOf312
  v66 := Tryz.zeroValue312
  t70 := Tryz.underlying316
  a70 := Tryz.isAgg316
  z70 := Tryz.sizeOf316
  v70 := Tryz.zeroValue316
  t76 := Tryz.underlying326
  a76 := Tryz.isAgg326
  z76 := Tryz.sizeOf326
  v76 := Tryz.zeroValue326
  t77 := Tryz.underlying181
  a77 := Tryz.isAgg181
  z77 := Tryz.sizeOf181
  v77 := Tryz.zeroValue181 }
def Tryz.grow_span_ren : Go.Shelf.Ren := ⟨fun | 4 => 273 | n => n, fun | 22 => 92 | 25 => 91 | 3 => 3 | 4 => 4 | 9 => 9 | 20 => 20 | 0 => 0 | 2 => 3 | n => n, fun | n => n⟩
theorem Tryz.grow_span : Go.Proofs.Lays8.n4 Tryz.prog Tryz.grow_span_ren := {
  mixed := by kernel_rfl
  f4 := ⟨Tryz.f273.name, by decide, Tryz.func273.trans (congrArg some (by kernel_rfl))⟩
  t0 := Tryz.underlying0
  a0 := Tryz.isAgg0
  z0 := Tryz.sizeOf0
  v0 := Tryz.zeroValue0
  t3 := Tryz.underlying3
  a3 := Tryz.isAgg3
  z3 := Tryz.sizeOf3
  v3 := Tryz.zeroValue3
  t4 := Tryz.underlying4
  a4 := Tryz.isAgg4
  z4 := Tryz.sizeOf4
  v4 := Tryz.zeroValue4
  t9 := Tryz.underlying9
  a9 := Tryz.isAgg9
  z9 := Tryz.sizeOf9
  v9 := Tryz.zeroValue9
  t20 := Tryz.underlying20
  a20 := Tryz.isAgg20
  z20 := Tryz.sizeOf20
  v20 := Tryz.zeroValue20
  t22 := Tryz.underlying92
  a22 := Tryz.isAgg92
  z22 := Tryz.sizeOf92
  v22 := Tryz.zeroValue92 }
end Go.Proofs
namespace Go.AM
open Go Go.Proofs
noncomputable section
abbrev R_u64 : Type := List (T21).T
def res_u64 (r : R_u64) : AV := .own 0 0
def bo_u64 (s_ : List (T21).T) (r : R_u64) : List (Nat × Blk) := [(0, .row 91 T21 r)]
def args_u64 (s_ : List (T21).T) : List AV := [.r (.ro T21 s_)]
def bin_u64 (s_ : List (T21).T) : List Blk := []
abbrev C_u64 (s_ : List (T21).T) (r : R_u64) : Prop := CC Tryz.prog 167 (args_u64 s_) (bin_u64 s_) (res_u64 r) (bo_u64 s_ r)
def f_u64 (k : Nat) (s_ : List (T21).T) : Option R_u64 := if s_.length * 16 ≤ 140737488355328 then some s_ else none
def v_u64 (k : Nat) (s_ : List (T21).T) : R_u64 := (f_u64 k s_).getD []
def ke_u64 (k : Nat) : Ke := (167, fun xs => match xs with
  | [_] => some [false]
  | _ => none, fun xs bs => match xs, bs with
  | [.r (.ro ts__ qs_)], [] => (castL ts__ T21 qs_).bind fun s_ => some (.one (res_u64 (v_u64 k s_), bo_u64 s_ (v_u64 k s_)))
  | _, _ => none)
theorem of_u64 (k : Nat) (s_ : List (T21).T) (r : R_u64) (h : f_u64 k s_ = some r) : CC Tryz.prog 167 (args_u64 s_) (bin_u64 s_) (res_u64 r) (bo_u64 s_ r) := by
  unfold f_u64 at h
  split at h
  · rename_i q
    cases h
    exact cc_clone' (τ := T21) Tryz.clone_span (by kernel_rfl) Tryz.sizeOf91 ⟨Tryz.f167, _, Tryz.func167, rfl, by kernel_rfl⟩ s_ q
  · cases h
theorem cc_u64 {k : Nat} {s_ : List (T21).T} (h : (f_u64 k s_).isSome = true) : C_u64 s_ (v_u64 k s_) := ccG (Φ := C_u64 s_) h (of_u64 k s_)
abbrev R_u67 : Type := List (T21).T
def res_u67 (r : R_u67) : AV := .tup []
def bo_u67 (x_ : List (T21).T) (r : R_u67) : List (Nat × Blk) := [(0, .row 91 T21 r)]
def args_u67 (x_ : List (T21).T) : List AV := [.own 0 0, .r (.v (.func (.func 169) #[] #[]))]
def bin_u67 (x_ : List (T21).T) : List Blk := [.row 91 T21 x_]
abbrev C_u67 (x_ : List (T21).T) (r : R_u67) : Prop := CC Tryz.prog 168 (args_u67 x_) (bin_u67 x_) (res_u67 r) (bo_u67 x_ r)
theorem cmp_ (x y : SPair) (W : World) : Calls Tryz.prog 169 #[.agg #[.int .i64 x.1.1, .int .i64 x.1.2], .agg #[.int .i64 y.1.1, .int .i64 y.1.2]] W fun e w' => e = .returned (.int .i64 (spCmp x y)) ∧ ∃ q os', w' = Sort.grow (W.drewN q) os' := by
  have hw : RowKit.wrap64 (x.1.1 - y.1.1) = spCmp x y := by
    have h1 := x.2; have h2 := y.2
    unfold SmallI at h1 h2
    unfold RowKit.wrap64 spCmp
    omega
  go_enter Tryz.func169, Tryz.ntmps169
  go_wp2
  go_ret
  exact ⟨by rw [← hw]; rfl, 0, _, by rw [Sort.alloc_eq_grow, Sort.alloc_eq_grow, Sort.grow_grow]; rfl⟩
def f_u67 (k : Nat) (x_ : List (T21).T) : Option R_u67 := if (x_.all fun x => decide (SmallI x.1)) = true ∧ x_.length < 4611686018427387904 then some (srtSP x_) else none
def v_u67 (k : Nat) (x_ : List (T21).T) : R_u67 := (f_u67 k x_).getD []
def ke_u67 (k : Nat) : Ke := (168, fun xs => match xs with
  | [.own _ _, .r (.v (.func (.func 169) _ _))] => some [true, false]
  | _ => none, fun xs bs => match xs, bs with
  | [.own 0 0, .r (.v (.func (.func 169) _ _))], [.row 91 tx__ qx_] => (castL tx__ T21 qx_).bind fun x_ => some (.one (res_u67 (v_u67 k x_), bo_u67 x_ (v_u67 k x_)))
  | _, _ => none)
theorem of_u67 (k : Nat) (x_ : List (T21).T) (r : R_u67) (h : f_u67 k x_ = some r) : CC Tryz.prog 168 (args_u67 x_) (bin_u67 x_) (res_u67 r) (bo_u67 x_ r) := by
  unfold f_u67 at h
  split at h
  · rename_i q
    cases h
    rw [srtSP_eq (fun x hx => by simpa using List.all_eq_true.1 q.1 x hx)]
    have h1 : (toSP x_).map (·.1) = x_ := toSP_val x_ fun x hx => by simpa using List.all_eq_true.1 q.1 x hx
    have hl : (toSP x_).toArray.size = x_.length := by
      have := congrArg List.length h1
      simpa using this
    have := cc_sortFunc (P := Tryz.prog) Tryz.sort_span ⟨Tryz.f168, _, Tryz.func168, rfl, by kernel_rfl⟩ (τ := T21) rfl (by decide) Tryz.isAgg91 Tryz.sizeOf91 91 (α := SPair) (fun x => x.1) spCmp spCmp_swo 169 (enters_of Tryz.func169 (by kernel_rfl) rfl) (fun blk n w => fun _ _ _ _ x y => cmp_ x y _) (toSP x_).toArray (by rw [hl]; exact q.2) (fun x v hv => by simp [vals] at hv; rcases hv with rfl | rfl <;> rfl)
    have e2 : (toSP x_).toArray.toList.map (fun x : SPair => x.1) = x_ := h1
    rw [e2] at this
    exact this
  · cases h
theorem cc_u67 {k : Nat} {x_ : List (T21).T} (h : (f_u67 k x_).isSome = true) : C_u67 x_ (v_u67 k x_) := ccG (Φ := C_u67 x_) h (of_u67 k x_)
abbrev R_u74 : Type := Int
def res_u74 (r : R_u74) : AV := .r (.v (.int .i64 r))
def bo_u74 (a_ : T21.T) (b_ : T21.T) (r : R_u74) : List (Nat × Blk) := []
def f_u74 (k : Nat) (a_ : T21.T) (b_ : T21.T) : Option R_u74 :=
  some (IntKind.i64.wrap (a_.1 - b_.1))
def v_u74 (k : Nat) (a_ : T21.T) (b_ : T21.T) : R_u74 := (f_u74 k a_ b_).getD 0
def ke_u74 (k : Nat) : Ke := (169, fun xs => match xs with
  | [_, _] => some [false, false]
  | _ => none, fun xs bs => match xs, bs with
  | [.agg qa_, .agg qb_], [] => (decS [] T21 qa_).bind fun a_ => (decS [] T21 qb_).bind fun b_ => some (.one (res_u74 (v_u74 k a_ b_), bo_u74 a_ b_ (v_u74 k a_ b_)))
  | _, _ => none)
end
end Go.AM
namespace Go.AM
open Go Go.Proofs
noncomputable section
abbrev R_u73 : Type := List (T21).T
def res_u73 (r : R_u73) : AV := .r (.ro T21 r)
def bo_u73 (l_ : List (T21).T) (r : R_u73) : List (Nat × Blk) := []
def args_u73 (l_ : List (T21).T) : List AV := [.r (.ro T21 l_)]
def bin_u73 (l_ : List (T21).T) : List Blk := []
abbrev C_u73 (l_ : List (T21).T) (r : R_u73) : Prop := CC Tryz.prog 117 (args_u73 l_) (bin_u73 l_) (res_u73 r) (bo_u73 l_ r)
def st_u73_6 (y0 : Int) (y1 : Int) (y2 : List (T21).T) (y3 : T21.T) (y4 : List (T21).T) : St := ⟨mkS 66 [(3, .own 1000000 0), (4, .ptr 1000001 0 0), (12, .own 1000002 0), (13, .r (.v (.int .i64 y0))), (14, .r (.v (.int .i64 y1)))], [(1000000, 0, .row 91 T21 y2), (1000001, 0, .var 91 (rvs (enc T21 y3))), (1000002, 0, .row 91 T21 y4)]⟩
def f_u73_6 (k : Nat) : Nat → Int → Int → List (T21).T → T21.T → List (T21).T → Option R_u73
  | 0, _, _, _, _, _ => none
  | j + 1, y0, y1, y2, y3, y4 =>
  bif (decide (y1 < y0)) then
  if (0 ≤ y1) ∧ (y1 < (↑y4.length : Int)) then
  bif (decide ((y4.getD y1.toNat T21.dflt).1 ≥ (y4.getD y1.toNat T21.dflt).2) || eqT T21 (y4.getD y1.toNat T21.dflt) y3) then
  f_u73_6 k j y0 ((IntKind.i64.wrap (y1 + 1))) y2 ((y4.getD y1.toNat T21.dflt)) y4
  else
  if (decide ((↑y2.length : Int) > (0 : Int)) = true → (0 : Int) ≤ IntKind.i64.wrap ((↑y2.length : Int) - (1 : Int))) ∧ (decide ((↑y2.length : Int) > (0 : Int)) = true → IntKind.i64.wrap ((↑y2.length : Int) - (1 : Int)) < (↑y2.length : Int)) then
  bif (decide ((↑y2.length : Int) > (0 : Int)) && decide ((y4.getD y1.toNat T21.dflt).1 ≤ (y2.getD (IntKind.i64.wrap ((↑y2.length : Int) - (1 : Int))).toNat T21.dflt).2)) then
  if ((0 : Int) ≤ IntKind.i64.wrap ((↑y2.length : Int) - (1 : Int))) ∧ (IntKind.i64.wrap ((↑y2.length : Int) - (1 : Int)) < (↑y2.length : Int)) ∧ ((0 : Int) ≤ IntKind.i64.wrap ((↑y2.length : Int) - (1 : Int))) ∧ (IntKind.i64.wrap ((↑y2.length : Int) - (1 : Int)) < (↑y2.length : Int)) then
  f_u73_6 k j y0 ((IntKind.i64.wrap (y1 + 1))) ((y2.set (IntKind.i64.wrap ((↑y2.length : Int) - 1)).toNat ((y2.getD (IntKind.i64.wrap ((↑y2.length : Int) - 1)).toNat T21.dflt).1, if (y4.getD y1.toNat T21.dflt).2 > (y2.getD (IntKind.i64.wrap ((↑y2.length : Int) - 1)).toNat T21.dflt).2 then (y4.getD y1.toNat T21.dflt).2 else (y2.getD (IntKind.i64.wrap ((↑y2.length : Int) - 1)).toNat T21.dflt).2))) ((y4.getD y1.toNat T21.dflt)) y4
  else none
  else
  if ((y2.length + [y4.getD y1.toNat T21.dflt].length) * (16 : Nat) ≤ (140737488355328 : Nat)) then
  f_u73_6 k j y0 ((IntKind.i64.wrap (y1 + 1))) ((y2 ++ [y4.getD y1.toNat T21.dflt])) ((y4.getD y1.toNat T21.dflt)) y4
  else none
  else none
  else none
  else
  some y2
def f_u73 (k : Nat) (l_ : List (T21).T) : Option R_u73 :=
  if ((f_u64 k l_).isSome = true) then
  if ((f_u67 k (v_u64 k l_)).isSome = true) then
  f_u73_6 k k ((↑ (List.length (v_u67 k (v_u64 k l_))) : Int)) 0 ([]) ((0, 0)) ((v_u67 k (v_u64 k l_)))
  else none
  else none
def v_u73 (k : Nat) (l_ : List (T21).T) : R_u73 := (f_u73 k l_).getD []
def ke_u73 (k : Nat) : Ke := (117, fun xs => match xs with
  | [_] => some [false]
  | _ => none, fun xs bs => match xs, bs with
  | [.r (.ro tl__ ql_)], [] => (castL tl__ T21 ql_).bind fun l_ => some (.one (res_u73 (v_u73 k l_), bo_u73 l_ (v_u73 k l_)))
  | _, _ => none)
def K_u73 (k : Nat) : Calld := mkK [ke_u64 k, ke_u67 k, ke_u74 k]
def cs_u73 : List (Nat × List Cmd) := [(6, [.row 3 91 T21, .autoB [3, 4, 12, 13, 14] false []])]
abbrev E_u73 (l_ : List (T21).T) (todo : List Item) (st : St) (o : Option R_u73) : Prop := ∀ r, o = some r → Ev Tryz.prog Tryz.f117 0 todo st (res_u73 r) (bo_u73 l_ r)
theorem ev_u73 (k : Nat) (l_ : List (T21).T) : ∀ j, (∀ (y0 : Int) (y1 : Int) (y2 : List (T21).T) (y3 : T21.T) (y4 : List (T21).T), E_u73 l_ (placeAt Tryz.f117 6) (st_u73_6 y0 y1 y2 y3 y4) (f_u73_6 k j y0 y1 y2 y3 y4))
  | 0 => fun _ _ _ _ _ _ h => (nomatch h)
  | j + 1 => by
    have ih := @ev_u73 k l_ j
    · intro y0 y1 y2 y3 y4 r h
      rw [f_u73_6] at h
      exact go (K_u73 k) [] cs_u73 [.frz 2 false (RTy.list T21), .autoB [2] true []] (gT h (fun c h => gN2 h fun h => gT h (fun c h => gC h 6 (ih _ _ _ _ _ _)) fun c h => gN2 h fun h => gT h (fun c h => gN h (fun q => conjC q.1 (conjC q.2.1 (conjC q.2.2.1 (conjC q.2.2.2 conj0)))) fun h => gC h 6 (ih _ _ _ _ _ _)) fun c h => gN1 h id fun h => gC h 6 (ih _ _ _ _ _ _)) fun c h => gL h) (by kernel_rfl)
theorem of_u73 (k : Nat) (l_ : List (T21).T) (r : R_u73) (h : f_u73 k l_ = some r) : C_u73 l_ r := by
  refine CC.of (fn := Tryz.f117) (by kernel_rfl) (by kernel_rfl) (by kernel_rfl) (by kernel_rfl) ?_
  unfold f_u73 at h
  exact go (K_u73 k) [] cs_u73 [.frz 2 false (RTy.list T21), .autoB [2] true []] (gN1 h (fun q => cc_u64 q) fun h => gN1 h (fun q => cc_u67 q) fun h => gC h 6 ((ev_u73 k l_ k) _ _ _ _ _ _)) (by kernel_rfl)
theorem cc_u73 {k : Nat} {l_ : List (T21).T} (h : (f_u73 k l_).isSome = true) : C_u73 l_ (v_u73 k l_) := ccG (Φ := C_u73 l_) h (of_u73 k l_)
abbrev R_u72 : Type := Int × Int
def res_u72 (r : R_u72) : AV := .tup [.r (.v (.int .i64 r.1)), .r (.v (.int .i64 r.2))]
def bo_u72 (l_ : List (T21).T) (r : R_u72) : List (Nat × Blk) := []
def args_u72 (l_ : List (T21).T) : List AV := [.r (.ro T21 l_)]
def bin_u72 (l_ : List (T21).T) : List Blk := []
abbrev C_u72 (l_ : List (T21).T) (r : R_u72) : Prop := CC Tryz.prog 69 (args_u72 l_) (bin_u72 l_) (res_u72 r) (bo_u72 l_ r)
def st_u72_6 (y0 : Int) (y1 : List (T21).T) (y2 : Int) (y3 : Int) : St := ⟨mkS 29 [(5, .r (.v (.int .i64 y0))), (14, .r (.ro T21 y1)), (15, .r (.v (.int .i64 y2))), (16, .r (.v (.int .i64 y3)))], []⟩
def f_u72_6 (k : Nat) : Nat → Int → List (T21).T → Int → Int → Option R_u72
  | 0, _, _, _, _ => none
  | j + 1, y0, y1, y2, y3 =>
  bif (decide (y3 < y2)) then
  if (0 ≤ y3) ∧ (y3 < (↑y1.length : Int)) then
  f_u72_6 k j ((IntKind.i64.wrap (y0 + IntKind.i64.wrap ((y1.getD y3.toNat T21.dflt).2 - (y1.getD y3.toNat T21.dflt).1)))) y1 y2 ((IntKind.i64.wrap (y3 + 1)))
  else none
  else
  some ((y0, 0))
def f_u72 (k : Nat) (l_ : List (T21).T) : Option R_u72 :=
  if ((f_u69 k l_).isSome = true) then
  bif (v_u69 k l_ != (0 : Int)) then
  some ((0, v_u69 k l_))
  else
  if ((f_u73 k l_).isSome = true) then
  f_u72_6 k k 0 ((v_u73 k l_)) ((↑ (List.length (v_u73 k l_)) : Int)) 0
  else none
  else none
def v_u72 (k : Nat) (l_ : List (T21).T) : R_u72 := (f_u72 k l_).getD (0, 0)
def ke_u72 (k : Nat) : Ke := (69, fun xs => match xs with
  | [_] => some [false]
  | _ => none, fun xs bs => match xs, bs with
  | [.r (.ro tl__ ql_)], [] => (castL tl__ T21 ql_).bind fun l_ => some (.one (res_u72 (v_u72 k l_), bo_u72 l_ (v_u72 k l_)))
  | _, _ => none)
def cs_u72 : List (Nat × List Cmd) := [(6, [.autoB [5, 14, 15, 16] false []])]
abbrev E_u72 (l_ : List (T21).T) (todo : List Item) (st : St) (o : Option R_u72) : Prop := ∀ r, o = some r → Ev Tryz.prog Tryz.f69 0 todo st (res_u72 r) (bo_u72 l_ r)
theorem ev_u72 (k : Nat) (l_ : List (T21).T) : ∀ j, (∀ (y0 : Int) (y1 : List (T21).T) (y2 : Int) (y3 : Int), E_u72 l_ (placeAt Tryz.f69 6) (st_u72_6 y0 y1 y2 y3) (f_u72_6 k j y0 y1 y2 y3))
  | 0 => fun _ _ _ _ _ h => (nomatch h)
  | j + 1 => by
    have ih := @ev_u72 k l_ j
    · intro y0 y1 y2 y3 r h
      rw [f_u72_6] at h
      exact go (mkK [ke_u69 k, ke_u73 k]) [] cs_u72 [.autoB [2, 3] true []] (gT h (fun c h => gN2 h fun h => gC h 6 (ih _ _ _ _ _)) fun c h => gL h) (by kernel_rfl)
theorem of_u72 (k : Nat) (l_ : List (T21).T) (r : R_u72) (h : f_u72 k l_ = some r) : C_u72 l_ r := by
  refine CC.of (fn := Tryz.f69) (by kernel_rfl) (by kernel_rfl) (by kernel_rfl) (by kernel_rfl) ?_
  unfold f_u72 at h
  exact go (mkK [ke_u69 k, ke_u73 k]) [] cs_u72 [.autoB [2, 3] true []] (gN1 h (fun q => cc_u69 q) fun h => gT h (fun c h => gL h) fun c h => gN1 h (fun q => cc_u73 q) fun h => gC h 6 ((ev_u72 k l_ k) _ _ _ _ _)) (by kernel_rfl)
theorem cc_u72 {k : Nat} {l_ : List (T21).T} (h : (f_u72 k l_).isSome = true) : C_u72 l_ (v_u72 k l_) := ccG (Φ := C_u72 l_) h (of_u72 k l_)
abbrev R_u38 : Type := Int
def res_u38 (r : R_u38) : AV := .r (.v (.int .i64 r))
def bo_u38 (r_ : T3.T) (x_ : Int) (r : R_u38) : List (Nat × Blk) := []
def args_u38 (r_ : T3.T) (x_ : Int) : List AV := [.agg (rvs (enc T3 r_)), .r (.v (.int .i64 x_))]
def bin_u38 (r_ : T3.T) (x_ : Int) : List Blk := []
abbrev C_u38 (r_ : T3.T) (x_ : Int) (r : R_u38) : Prop := CC Tryz.prog 209 (args_u38 r_ x_) (bin_u38 r_ x_) (res_u38 r) (bo_u38 r_ x_ r)
def f_u38 (k : Nat) (r_ : T3.T) (x_ : Int) : Option R_u38 :=
  bif r_.2.2 then
  some (IntKind.i64.wrap (r_.1 - x_))
  else
  some (IntKind.i64.wrap (r_.1 + x_))
def v_u38 (k : Nat) (r_ : T3.T) (x_ : Int) : R_u38 := (f_u38 k r_ x_).getD 0
def ke_u38 (k : Nat) : Ke := (209, fun xs => match xs with
  | [_, _] => some [false, false]
  | _ => none, fun xs bs => match xs, bs with
  | [.agg qr_, .r (.v (.int .i64 x_))], [] => (decS [] T3 qr_).bind fun r_ => some (.one (res_u38 (v_u38 k r_ x_), bo_u38 r_ x_ (v_u38 k r_ x_)))
  | _, _ => none)
theorem of_u38 (k : Nat) (r_ : T3.T) (x_ : Int) (r : R_u38) (h : f_u38 k r_ x_ = some r) : C_u38 r_ x_ r := by
  refine CC.of (fn := Tryz.f209) (by kernel_rfl) (by kernel_rfl) (by kernel_rfl) (by kernel_rfl) ?_
  unfold f_u38 at h
  exact go (mkK []) [] [] [.autoB [4] true []] (gT h (fun c h => gL h) fun c h => gL h) (by kernel_rfl)
theorem cc_u38 {k : Nat} {r_ : T3.T} {x_ : Int} (h : (f_u38 k r_ x_).isSome = true) : C_u38 r_ x_ (v_u38 k r_ x_) := ccG (Φ := C_u38 r_ x_) h (of_u38 k r_ x_)
abbrev R_u39 : Type := T21.T
def res_u39 (r : R_u39) : AV := .agg (rvs (enc T21 r))
def bo_u39 (r_ : T3.T) (r : R_u39) : List (Nat × Blk) := []
def args_u39 (r_ : T3.T) : List AV := [.agg (rvs (enc T3 r_))]
def bin_u39 (r_ : T3.T) : List Blk := []
abbrev C_u39 (r_ : T3.T) (r : R_u39) : Prop := CC Tryz.prog 165 (args_u39 r_) (bin_u39 r_) (res_u39 r) (bo_u39 r_ r)
def f_u39 (k : Nat) (r_ : T3.T) : Option R_u39 :=
  if ((f_u38 k r_ (IntKind.i64.wrap (r_.2.1 - 1))).isSome = true) then
  some ((if v_u38 k r_ (IntKind.i64.wrap (r_.2.1 - 1)) < r_.1 then v_u38 k r_ (IntKind.i64.wrap (r_.2.1 - 1)) else r_.1, IntKind.i64.wrap ((if v_u38 k r_ (IntKind.i64.wrap (r_.2.1 - 1)) > r_.1 then v_u38 k r_ (IntKind.i64.wrap (r_.2.1 - 1)) else r_.1) + 1)))
  else none
def v_u39 (k : Nat) (r_ : T3.T) : R_u39 := (f_u39 k r_).getD (T21).dflt
def ke_u39 (k : Nat) : Ke := (165, fun xs => match xs with
  | [_] => some [false]
  | _ => none, fun xs bs => match xs, bs with
  | [.agg qr_], [] => (decS [] T3 qr_).bind fun r_ => some (.one (res_u39 (v_u39 k r_), bo_u39 r_ (v_u39 k r_)))
  | _, _ => none)
theorem of_u39 (k : Nat) (r_ : T3.T) (r : R_u39) (h : f_u39 k r_ = some r) : C_u39 r_ r := by
  refine CC.of (fn := Tryz.f165) (by kernel_rfl) (by kernel_rfl) (by kernel_rfl) (by kernel_rfl) ?_
  unfold f_u39 at h
  exact go (mkK [ke_u38 k]) [] [] [.autoB [2] true []] (gN1 h (fun q => cc_u38 q) fun h => gL h) (by kernel_rfl)
theorem cc_u39 {k : Nat} {r_ : T3.T} (h : (f_u39 k r_).isSome = true) : C_u39 r_ (v_u39 k r_) := ccG (Φ := C_u39 r_) h (of_u39 k r_)
abbrev R_u71 : Type := Bool
def res_u71 (r : R_u71) : AV := .r (.v (.bool r))
def bo_u71 (a_ : Bool) (b_ : Bool) (r : R_u71) : List (Nat × Blk) := []
def args_u71 (a_ : Bool) (b_ : Bool) : List AV := [.r (.v (.bool a_)), .r (.v (.bool b_))]
def bin_u71 (a_ : Bool) (b_ : Bool) : List Blk := []
abbrev C_u71 (a_ : Bool) (b_ : Bool) (r : R_u71) : Prop := CC Tryz.prog 211 (args_u71 a_ b_) (bin_u71 a_ b_) (res_u71 r) (bo_u71 a_ b_ r)
def f_u71 (k : Nat) (a_ : Bool) (b_ : Bool) : Option R_u71 :=
  some a_
def v_u71 (k : Nat) (a_ : Bool) (b_ : Bool) : R_u71 := (f_u71 k a_ b_).getD false
def ke_u71 (k : Nat) : Ke := (211, fun xs => match xs with
  | [_, _] => some [false, false]
  | _ => none, fun xs bs => match xs, bs with
  | [.r (.v (.bool a_)), .r (.v (.bool b_))], [] => some (.one (res_u71 (v_u71 k a_ b_), bo_u71 a_ b_ (v_u71 k a_ b_)))
  | _, _ => none)
theorem of_u71 (k : Nat) (a_ : Bool) (b_ : Bool) (r : R_u71) (h : f_u71 k a_ b_ = some r) : C_u71 a_ b_ r := by
  refine CC.of (fn := Tryz.f211) (by kernel_rfl) (by kernel_rfl) (by kernel_rfl) (by kernel_rfl) ?_
  unfold f_u71 at h
  exact go (mkK []) [] [] [.autoB [4] true []] (gL h) (by kernel_rfl)
theorem cc_u71 {k : Nat} {a_ : Bool} {b_ : Bool} (h : (f_u71 k a_ b_).isSome = true) : C_u71 a_ b_ (v_u71 k a_ b_) := ccG (Φ := C_u71 a_ b_) h (of_u71 k a_ b_)
abbrev R_u66 : Type := List (T21).T
def res_u66 (r : R_u66) : AV := .own 0 0
def bo_u66 (n_ : Int) (r : R_u66) : List (Nat × Blk) := [(0, .row 91 T21 r)]
def args_u66 (n_ : Int) : List AV := [.r (.v (Value.slice none 0 0)), .r (.v (.int .i64 n_))]
def bin_u66 (n_ : Int) : List Blk := []
abbrev C_u66 (n_ : Int) (r : R_u66) : Prop := CC Tryz.prog 273 (args_u66 n_) (bin_u66 n_) (res_u66 r) (bo_u66 n_ r)
def f_u66 (k : Nat) (n_ : Int) : Option R_u66 := if 0 ≤ n_ ∧ n_.toNat * 16 ≤ 140737488355328 then some [] else none
def v_u66 (k : Nat) (n_ : Int) : R_u66 := (f_u66 k n_).getD []
def ke_u66 (k : Nat) : Ke := (273, fun xs => match xs with
  | [.r (.v (Value.slice none 0 0)), _] => some [true, false]
  | _ => none, fun xs bs => match xs, bs with
  | [.r (.v (Value.slice none 0 0)), .r (.v (.int .i64 n_))], [] => some (.one (res_u66 (v_u66 k n_), bo_u66 n_ (v_u66 k n_)))
  | _, _ => none)
theorem of_u66 (k : Nat) (n_ : Int) (r : R_u66) (h : f_u66 k n_ = some r) : CC Tryz.prog 273 (args_u66 n_) (bin_u66 n_) (res_u66 r) (bo_u66 n_ r) := by
  unfold f_u66 at h
  split at h
  · rename_i q
    cases h
    exact cc_grow' Tryz.grow_span ⟨Tryz.f273, _, Tryz.func273, rfl, by kernel_rfl⟩ T21 (by kernel_rfl) n_ q.1 q.2
  · cases h
theorem cc_u66 {k : Nat} {n_ : Int} (h : (f_u66 k n_).isSome = true) : C_u66 n_ (v_u66 k n_) := ccG (Φ := C_u66 n_) h (of_u66 k n_)
abbrev R_u65 : Type := List (T21).T
def res_u65 (r : R_u65) : AV := .own 0 0
def bo_u65 (slices_ : List (RTy.list T21).T) (r : R_u65) : List (Nat × Blk) := [(0, .row 91 T21 r)]
def args_u65 (slices_ : List (RTy.list T21).T) : List AV := [.r (.ro (RTy.list T21) slices_)]
def bin_u65 (slices_ : List (RTy.list T21).T) : List Blk := []
abbrev C_u65 (slices_ : List (RTy.list T21).T) (r : R_u65) : Prop := CC Tryz.prog 245 (args_u65 slices_) (bin_u65 slices_) (res_u65 r) (bo_u65 slices_ r)
def st_u65_3 (y0 : List (T21.list).T) (y1 : Int) (y2 : List (T21.list).T) (y3 : Int) (y4 : Int) : St := ⟨mkS 36 [(0, .r (.ro T21.list y0)), (3, .r (.v (.int .i64 y1))), (9, .r (.ro T21.list y2)), (10, .r (.v (.int .i64 y3))), (11, .r (.v (.int .i64 y4)))], []⟩
def st_u65_11 (y0 : List (T21.list).T) (y1 : Int) (y2 : Int) (y3 : List (T21).T) : St := ⟨mkS 36 [(6, .own 1000000 0), (25, .r (.ro T21.list y0)), (26, .r (.v (.int .i64 y1))), (27, .r (.v (.int .i64 y2)))], [(1000000, 0, .row 91 T21 y3)]⟩
mutual
def f_u65_3 (k : Nat) : Nat → List (T21.list).T → Int → List (T21.list).T → Int → Int → Option R_u65
  | 0, _, _, _, _, _ => none
  | j + 1, y0, y1, y2, y3, y4 =>
  bif (decide (y4 < y3)) then
  if (0 ≤ y4) ∧ (y4 < (↑y2.length : Int)) then
  bif (decide (IntKind.i64.wrap (y1 + (↑ (List.length (y2.getD y4.toNat T21.list.dflt)) : Int)) < (0 : Int))) then
  none
  else
  f_u65_3 k j y0 ((IntKind.i64.wrap (y1 + (↑ (List.length (y2.getD y4.toNat T21.list.dflt)) : Int)))) y2 y3 ((IntKind.i64.wrap (y4 + 1)))
  else none
  else
  if ((f_u66 k y1).isSome = true) then
  f_u65_11 k j y0 ((↑y0.length : Int)) 0 ((v_u66 k y1))
  else none
def f_u65_11 (k : Nat) : Nat → List (T21.list).T → Int → Int → List (T21).T → Option R_u65
  | 0, _, _, _, _ => none
  | j + 1, y0, y1, y2, y3 =>
  bif (decide (y2 < y1)) then
  if (0 ≤ y2) ∧ (y2 < (↑y0.length : Int)) then
  if ((y3.length + List.length (y0.getD y2.toNat T21.list.dflt)) * (16 : Nat) ≤ (140737488355328 : Nat)) then
  f_u65_11 k j y0 y1 ((IntKind.i64.wrap (y2 + 1))) ((y3 ++ y0.getD y2.toNat T21.list.dflt))
  else none
  else none
  else
  some y3
end
def f_u65 (k : Nat) (slices_ : List (RTy.list T21).T) : Option R_u65 :=
  f_u65_3 k k slices_ 0 slices_ ((↑slices_.length : Int)) 0
def v_u65 (k : Nat) (slices_ : List (RTy.list T21).T) : R_u65 := (f_u65 k slices_).getD []
def ke_u65 (k : Nat) : Ke := (245, fun xs => match xs with
  | [_] => some [false]
  | _ => none, fun xs bs => match xs, bs with
  | [.r (.ro tslices__ qslices_)], [] => (castL tslices__ (RTy.list T21) qslices_).bind fun slices_ => some (.one (res_u65 (v_u65 k slices_), bo_u65 slices_ (v_u65 k slices_)))
  | _, _ => none)
def cs_u65 : List (Nat × List Cmd) := [(3, [.autoB [0, 3, 9, 10, 11] false []]), (11, [.autoB [6, 25, 26, 27] false []])]
abbrev E_u65 (slices_ : List (RTy.list T21).T) (todo : List Item) (st : St) (o : Option R_u65) : Prop := ∀ r, o = some r → Ev Tryz.prog Tryz.f245 0 todo st (res_u65 r) (bo_u65 slices_ r)
theorem ev_u65 (k : Nat) (slices_ : List (RTy.list T21).T) : ∀ j, (∀ (y0 : List (T21.list).T) (y1 : Int) (y2 : List (T21.list).T) (y3 : Int) (y4 : Int), E_u65 slices_ (placeAt Tryz.f245 3) (st_u65_3 y0 y1 y2 y3 y4) (f_u65_3 k j y0 y1 y2 y3 y4)) ∧ (∀ (y0 : List (T21.list).T) (y1 : Int) (y2 : Int) (y3 : List (T21).T), E_u65 slices_ (placeAt Tryz.f245 11) (st_u65_11 y0 y1 y2 y3) (f_u65_11 k j y0 y1 y2 y3))
  | 0 => ⟨fun _ _ _ _ _ _ h => (nomatch h), fun _ _ _ _ _ h => (nomatch h)⟩
  | j + 1 => by
    have ih := @ev_u65 k slices_ j
    refine ⟨?_, ?_⟩
    · intro y0 y1 y2 y3 y4 r h
      rw [f_u65_3] at h
      exact go (mkK [ke_u66 k]) [] cs_u65 [.autoB [2] true []] (gT h (fun c h => gN2 h fun h => gT h (fun c h => gZ h (.stuck 5000)) fun c h => gC h 3 (ih.1 _ _ _ _ _ _)) fun c h => gN1 h (fun q => cc_u66 q) fun h => gC h 11 (ih.2 _ _ _ _ _)) (by kernel_rfl)
    · intro y0 y1 y2 y3 r h
      rw [f_u65_11] at h
      exact go (mkK [ke_u66 k]) [] cs_u65 [.autoB [2] true []] (gT h (fun c h => gN2 h fun h => gN1 h id fun h => gC h 11 (ih.2 _ _ _ _ _)) fun c h => gL h) (by kernel_rfl)
theorem of_u65 (k : Nat) (slices_ : List (RTy.list T21).T) (r : R_u65) (h : f_u65 k slices_ = some r) : C_u65 slices_ r := by
  refine CC.of (fn := Tryz.f245) (by kernel_rfl) (by kernel_rfl) (by kernel_rfl) (by kernel_rfl) ?_
  unfold f_u65 at h
  exact go (mkK [ke_u66 k]) [] cs_u65 [.autoB [2] true []] (gC h 3 ((ev_u65 k slices_ k).1 _ _ _ _ _ _)) (by kernel_rfl)
theorem cc_u65 {k : Nat} {slices_ : List (RTy.list T21).T} (h : (f_u65 k slices_).isSome = true) : C_u65 slices_ (v_u65 k slices_) := ccG (Φ := C_u65 slices_) h (of_u65 k slices_)
abbrev R_u68 : Type := List Int
def res_u68 (r : R_u68) : AV := .tup []
def bo_u68 (x_ : List (I).T) (r : R_u68) : List (Nat × Blk) := [(0, .row 3 (RTy.int .i64) r)]
def args_u68 (x_ : List (I).T) : List AV := [.own 0 0]
def bin_u68 (x_ : List (I).T) : List Blk := [.row 3 I x_]
abbrev C_u68 (x_ : List (I).T) (r : R_u68) : Prop := CC Tryz.prog 246 (args_u68 x_) (bin_u68 x_) (res_u68 r) (bo_u68 x_ r)
def f_u68 (k : Nat) (x_ : List Int) : Option R_u68 := if x_.length < 4611686018427387904 then some (srtI x_) else none
def v_u68 (k : Nat) (x_ : List (I).T) : R_u68 := (f_u68 k x_).getD []
def ke_u68 (k : Nat) : Ke := (246, fun xs => match xs with
  | [.own _ _] => some [true]
  | _ => none, fun xs bs => match xs, bs with
  | [.own 0 0], [.row 3 tx__ qx_] => (castL tx__ I qx_).bind fun x_ => some (.one (res_u68 (v_u68 k x_), bo_u68 x_ (v_u68 k x_)))
  | _, _ => none)
theorem of_u68 (k : Nat) (x_ : List Int) (r : R_u68) (h : f_u68 k x_ = some r) : CC Tryz.prog 246 (args_u68 x_) (bin_u68 x_) (res_u68 r) (bo_u68 x_ r) := by
  unfold f_u68 at h
  split at h
  · rename_i q
    cases h
    rw [srtI_eq x_]
    exact cc_sort_int Tryz.sort_int ⟨Tryz.f246, _, Tryz.func246, rfl, by kernel_rfl⟩ 3 x_ q
  · cases h
theorem cc_u68 {k : Nat} {x_ : List (I).T} (h : (f_u68 k x_).isSome = true) : C_u68 x_ (v_u68 k x_) := ccG (Φ := C_u68 x_) h (of_u68 k x_)
abbrev R_u75 : Type := List (T21).T × Int
def res_u75 (r : R_u75) : AV := .tup [.r (.ro T21 r.1), .r (.v (.int .i64 r.2))]
def bo_u75 (t_ : List (T21).T) (o_ : List (T21).T) (r : R_u75) : List (Nat × Blk) := []
def args_u75 (t_ : List (T21).T) (o_ : List (T21).T) : List AV := [.r (.ro T21 t_), .r (.ro T21 o_), .r (.v (.func (.func 211) #[] #[]))]
def bin_u75 (t_ : List (T21).T) (o_ : List (T21).T) : List Blk := []
abbrev C_u75 (t_ : List (T21).T) (o_ : List (T21).T) (r : R_u75) : Prop := CC Tryz.prog 210 (args_u75 t_ o_) (bin_u75 t_ o_) (res_u75 r) (bo_u75 t_ o_ r)
def st_u75_10 (y0 : List (T21).T) (y1 : List (T21).T) (y2 : Int) (y3 : Int) (y4 : List (I).T) (y5 : List (T21).T) : St := ⟨mkS 147 [(0, .r (.ro T21 y0)), (1, .r (.ro T21 y1)), (2, .r (.v (Value.func (Fn.func 211) #[] #[]))), (10, .own 1000000 0), (35, .own 1000001 0), (36, .r (.v (.int .i64 y2))), (37, .r (.v (.int .i64 y3)))], [(1000000, 0, .row 3 I y4), (1000001, 0, .row 91 T21 y5)]⟩
def st_u75_18 (y0 : List (T21).T) (y1 : List (T21).T) (y2 : Int) (y3 : Int) (y4 : Int) (y5 : Int) (y6 : List (RTy.int IntKind.i64).T) (y7 : List (T21).T) : St := ⟨mkS 147 [(0, .r (.ro T21 y0)), (1, .r (.ro T21 y1)), (2, .r (.v (Value.func (Fn.func 211) #[] #[]))), (10, .own 1000000 0), (13, .own 1000001 0), (14, .r (.v (.int .i64 y2))), (15, .r (.v (.int .i64 y3))), (51, .own 1000000 0), (52, .r (.v (.int .i64 y4))), (53, .r (.v (.int .i64 y5)))], [(1000000, 0, .row 3 ((RTy.int IntKind.i64)) y6), (1000001, 0, .row 91 T21 y7)]⟩
def st_u75_20 (y0 : List (T21).T) (y1 : List (T21).T) (y2 : Int) (y3 : Int) (y4 : Int) (y5 : Int) (y6 : Int) (y7 : Int) (y8 : List (RTy.int IntKind.i64).T) (y9 : List (T21).T) : St := ⟨mkS 147 [(0, .r (.ro T21 y0)), (1, .r (.ro T21 y1)), (2, .r (.v (Value.func (Fn.func 211) #[] #[]))), (10, .own 1000000 0), (13, .own 1000001 0), (14, .r (.v (.int .i64 y2))), (15, .r (.v (.int .i64 y3))), (16, .r (.v (.int .i64 y4))), (17, .r (.v (.int .i64 y5))), (51, .own 1000000 0), (52, .r (.v (.int .i64 y6))), (53, .r (.v (.int .i64 y7)))], [(1000000, 0, .row 3 ((RTy.int IntKind.i64)) y8), (1000001, 0, .row 91 T21 y9)]⟩
def st_u75_22 (y0 : List (T21).T) (y1 : List (T21).T) (y2 : Int) (y3 : Int) (y4 : Int) (y5 : Int) (y6 : Int) (y7 : Int) (y8 : List (RTy.int IntKind.i64).T) (y9 : List (T21).T) : St := ⟨mkS 147 [(0, .r (.ro T21 y0)), (1, .r (.ro T21 y1)), (2, .r (.v (Value.func (Fn.func 211) #[] #[]))), (10, .own 1000000 0), (13, .own 1000001 0), (14, .r (.v (.int .i64 y2))), (15, .r (.v (.int .i64 y3))), (16, .r (.v (.int .i64 y4))), (17, .r (.v (.int .i64 y5))), (51, .own 1000000 0), (52, .r (.v (.int .i64 y6))), (53, .r (.v (.int .i64 y7)))], [(1000000, 0, .row 3 ((RTy.int IntKind.i64)) y8), (1000001, 0, .row 91 T21 y9)]⟩
def st_u75_28 (y0 : List (T21).T) : St := ⟨mkS 147 [(13, .r (.ro T21 y0))], []⟩
mutual
def f_u75_10 (k : Nat) : Nat → List (T21).T → List (T21).T → Int → Int → List (I).T → List (T21).T → Option R_u75
  | 0, _, _, _, _, _, _ => none
  | j + 1, y0, y1, y2, y3, y4, y5 =>
  bif (decide (y3 < y2)) then
  if (0 ≤ y3) ∧ (y3 < (↑y5.length : Int)) then
  if ((y4.length + [(y5.getD y3.toNat T21.dflt).1, (y5.getD y3.toNat T21.dflt).2].length) * (8 : Nat) ≤ (140737488355328 : Nat)) then
  f_u75_10 k j y0 y1 y2 ((IntKind.i64.wrap (y3 + 1))) ((y4 ++ [(y5.getD y3.toNat T21.dflt).1, (y5.getD y3.toNat T21.dflt).2])) y5
  else none
  else none
  else
  if ((f_u68 k y4).isSome = true) then
  f_u75_18 k j y0 y1 0 0 ((↑ (List.length (v_u68 k y4)) : Int)) 0 ((v_u68 k y4)) ([])
  else none
def f_u75_18 (k : Nat) : Nat → List (T21).T → List (T21).T → Int → Int → Int → Int → List (RTy.int IntKind.i64).T → List (T21).T → Option R_u75
  | 0, _, _, _, _, _, _, _, _ => none
  | j + 1, y0, y1, y2, y3, y4, y5, y6, y7 =>
  bif (decide (y5 < y4)) then
  if (0 ≤ y5) ∧ (y5 < (↑y6.length : Int)) then
  f_u75_20 k j y0 y1 y2 y3 y5 ((y6.getD y5.toNat (RTy.int IntKind.i64).dflt)) y4 y5 y6 y7
  else none
  else
  f_u75_28 k j y7
def f_u75_20 (k : Nat) : Nat → List (T21).T → List (T21).T → Int → Int → Int → Int → Int → Int → List (RTy.int IntKind.i64).T → List (T21).T → Option R_u75
  | 0, _, _, _, _, _, _, _, _, _, _ => none
  | j + 1, y0, y1, y2, y3, y4, y5, y6, y7, y8, y9 =>
  if (decide (y2 < (↑y0.length : Int)) = true → 0 ≤ y2) ∧ (decide (y2 < (↑y0.length : Int)) = true → y2 < (↑y0.length : Int)) then
  bif (decide (y2 < (↑y0.length : Int)) && decide ((y0.getD y2.toNat T21.dflt).2 ≤ y5)) then
  f_u75_20 k j y0 y1 ((IntKind.i64.wrap (y2 + 1))) y3 y4 y5 y6 y7 y8 y9
  else
  f_u75_22 k j y0 y1 y2 y3 y4 y5 y6 y7 y8 y9
  else none
def f_u75_22 (k : Nat) : Nat → List (T21).T → List (T21).T → Int → Int → Int → Int → Int → Int → List (RTy.int IntKind.i64).T → List (T21).T → Option R_u75
  | 0, _, _, _, _, _, _, _, _, _, _ => none
  | j + 1, y0, y1, y2, y3, y4, y5, y6, y7, y8, y9 =>
  if (decide (y3 < (↑y1.length : Int)) = true → 0 ≤ y3) ∧ (decide (y3 < (↑y1.length : Int)) = true → y3 < (↑y1.length : Int)) then
  bif (decide (y3 < (↑y1.length : Int)) && decide ((y1.getD y3.toNat T21.dflt).2 ≤ y5)) then
  f_u75_22 k j y0 y1 y2 ((IntKind.i64.wrap (y3 + 1))) y4 y5 y6 y7 y8 y9
  else
  if ((IntKind.i64.wrap (y4 + (1 : Int)) == (↑y8.length : Int)) = false → (0 : Int) ≤ IntKind.i64.wrap (y4 + (1 : Int))) ∧ ((IntKind.i64.wrap (y4 + (1 : Int)) == (↑y8.length : Int)) = false → IntKind.i64.wrap (y4 + (1 : Int)) < (↑y8.length : Int)) then
  bif (IntKind.i64.wrap (y4 + (1 : Int)) == (↑y8.length : Int) || y8.getD (IntKind.i64.wrap (y4 + (1 : Int))).toNat (RTy.int IntKind.i64).dflt == y5) then
  f_u75_18 k j y0 y1 y2 y3 y6 ((IntKind.i64.wrap (y7 + 1))) y8 y9
  else
  if (decide (y2 < (↑y0.length : Int)) = true → 0 ≤ y2) ∧ (decide (y2 < (↑y0.length : Int)) = true → y2 < (↑y0.length : Int)) ∧ (decide (y3 < (↑y1.length : Int)) = true → 0 ≤ y3) ∧ (decide (y3 < (↑y1.length : Int)) = true → y3 < (↑y1.length : Int)) ∧ ((f_u71 k (decide (y2 < (↑y0.length : Int)) && decide ((y0.getD y2.toNat T21.dflt).1 ≤ y5)) (decide (y3 < (↑y1.length : Int)) && decide ((y1.getD y3.toNat T21.dflt).1 ≤ y5))).isSome = true) then
  bif (v_u71 k (decide (y2 < (↑y0.length : Int)) && decide ((y0.getD y2.toNat T21.dflt).1 ≤ y5)) (decide (y3 < (↑y1.length : Int)) && decide ((y1.getD y3.toNat T21.dflt).1 ≤ y5))) then
  if ((0 : Int) ≤ IntKind.i64.wrap (y4 + (1 : Int))) ∧ (IntKind.i64.wrap (y4 + (1 : Int)) < (↑y8.length : Int)) ∧ ((y9.length + [(y5, y8.getD (IntKind.i64.wrap (y4 + (1 : Int))).toNat (RTy.int IntKind.i64).dflt)].length) * (16 : Nat) ≤ (140737488355328 : Nat)) then
  f_u75_18 k j y0 y1 y2 y3 y6 ((IntKind.i64.wrap (y7 + 1))) y8 ((y9 ++ [(y5, y8.getD (IntKind.i64.wrap (y4 + 1)).toNat (RTy.int IntKind.i64).dflt)]))
  else none
  else
  f_u75_18 k j y0 y1 y2 y3 y6 ((IntKind.i64.wrap (y7 + 1))) y8 y9
  else none
  else none
  else none
def f_u75_28 (k : Nat) : Nat → List (T21).T → Option R_u75
  | 0, _ => none
  | j + 1, y0 =>
  if ((f_u73 k y0).isSome = true) then
  bif (decide ((↑ (List.length (v_u73 k y0)) : Int) > (256 : Int))) then
  some (([], 8))
  else
  some ((v_u73 k y0, 0))
  else none
end
def f_u75 (k : Nat) (t_ : List (T21).T) (o_ : List (T21).T) : Option R_u75 :=
  if ((f_u69 k t_).isSome = true) then
  bif (v_u69 k t_ != (0 : Int)) then
  some (([], v_u69 k t_))
  else
  if ((f_u69 k o_).isSome = true) then
  bif (v_u69 k o_ != (0 : Int)) then
  some (([], v_u69 k o_))
  else
  if ((f_u73 k t_).isSome = true) ∧ ((f_u73 k o_).isSome = true) then
  if ((f_u65 k [v_u73 k t_, v_u73 k o_]).isSome = true) then
  f_u75_10 k k ((v_u73 k t_)) ((v_u73 k o_)) ((↑ (List.length (v_u65 k [v_u73 k t_, v_u73 k o_])) : Int)) 0 ([]) ((v_u65 k [v_u73 k t_, v_u73 k o_]))
  else none
  else none
  else none
  else none
def v_u75 (k : Nat) (t_ : List (T21).T) (o_ : List (T21).T) : R_u75 := (f_u75 k t_ o_).getD ([], 0)
def ke_u75 (k : Nat) : Ke := (210, fun xs => match xs with
  | [_, _, .r (.v (.func (.func 211) _ _))] => some [false, false, false]
  | _ => none, fun xs bs => match xs, bs with
  | [.r (.ro tt__ qt_), .r (.ro to__ qo_), .r (.v (.func (.func 211) _ _))], [] => (castL tt__ T21 qt_).bind fun t_ => (castL to__ T21 qo_).bind fun o_ => some (.one (res_u75 (v_u75 k t_ o_), bo_u75 t_ o_ (v_u75 k t_ o_)))
  | _, _ => none)
def K_u75 (k : Nat) : Calld := mkK [ke_u69 k, ke_u73 k, ke_u65 k, ke_u68 k, ke_u71 k]
def cs_u75 : List (Nat × List Cmd) := [(10, [.row 10 3 I, .autoB [0, 1, 2, 10, 35, 36, 37] false []]), (18, [.row 13 91 T21, .autoB [0, 1, 2, 10, 13, 14, 15, 51, 52, 53] false []]), (20, [.autoB [0, 1, 2, 10, 13, 14, 15, 16, 17, 51, 52, 53] false []]), (22, [.autoB [0, 1, 2, 10, 13, 14, 15, 16, 17, 51, 52, 53] false []]), (28, [.frz 13 false (RTy.list T21), .autoB [13] false []])]
abbrev E_u75 (t_ : List (T21).T) (o_ : List (T21).T) (todo : List Item) (st : St) (o : Option R_u75) : Prop := ∀ r, o = some r → Ev Tryz.prog Tryz.f210 0 todo st (res_u75 r) (bo_u75 t_ o_ r)
theorem ev_u75 (k : Nat) (t_ : List (T21).T) (o_ : List (T21).T) : ∀ j, (∀ (y0 : List (T21).T) (y1 : List (T21).T) (y2 : Int) (y3 : Int) (y4 : List (I).T) (y5 : List (T21).T), E_u75 t_ o_ (placeAt Tryz.f210 10) (st_u75_10 y0 y1 y2 y3 y4 y5) (f_u75_10 k j y0 y1 y2 y3 y4 y5)) ∧ (∀ (y0 : List (T21).T) (y1 : List (T21).T) (y2 : Int) (y3 : Int) (y4 : Int) (y5 : Int) (y6 : List (RTy.int IntKind.i64).T) (y7 : List (T21).T), E_u75 t_ o_ (placeAt Tryz.f210 18) (st_u75_18 y0 y1 y2 y3 y4 y5 y6 y7) (f_u75_18 k j y0 y1 y2 y3 y4 y5 y6 y7)) ∧ (∀ (y0 : List (T21).T) (y1 : List (T21).T) (y2 : Int) (y3 : Int) (y4 : Int) (y5 : Int) (y6 : Int) (y7 : Int) (y8 : List (RTy.int IntKind.i64).T) (y9 : List (T21).T), E_u75 t_ o_ (placeAt Tryz.f210 20) (st_u75_20 y0 y1 y2 y3 y4 y5 y6 y7 y8 y9) (f_u75_20 k j y0 y1 y2 y3 y4 y5 y6 y7 y8 y9)) ∧ (∀ (y0 : List (T21).T) (y1 : List (T21).T) (y2 : Int) (y3 : Int) (y4 : Int) (y5 : Int) (y6 : Int) (y7 : Int) (y8 : List (RTy.int IntKind.i64).T) (y9 : List (T21).T), E_u75 t_ o_ (placeAt Tryz.f210 22) (st_u75_22 y0 y1 y2 y3 y4 y5 y6 y7 y8 y9) (f_u75_22 k j y0 y1 y2 y3 y4 y5 y6 y7 y8 y9)) ∧ (∀ (y0 : List (T21).T), E_u75 t_ o_ (placeAt Tryz.f210 28) (st_u75_28 y0) (f_u75_28 k j y0))
  | 0 => ⟨fun _ _ _ _ _ _ _ h => (nomatch h), fun _ _ _ _ _ _ _ _ _ h => (nomatch h), fun _ _ _ _ _ _ _ _ _ _ _ h => (nomatch h), fun _ _ _ _ _ _ _ _ _ _ _ h => (nomatch h), fun _ _ h => (nomatch h)⟩
  | j + 1 => by
    have ih := @ev_u75 k t_ o_ j
    refine ⟨?_, ?_, ?_, ?_, ?_⟩
    · intro y0 y1 y2 y3 y4 y5 r h
      rw [f_u75_10] at h
      exact go (K_u75 k) [28] cs_u75 [.frz 6 false (RTy.list T21), .autoB [6, 7] true []] (gT h (fun c h => gN2 h fun h => gN1 h id fun h => gC h 10 (ih.1 _ _ _ _ _ _ _)) fun c h => gN1 h (fun q => cc_u68 q) fun h => gC h 18 (ih.2.1 _ _ _ _ _ _ _ _ _)) (by kernel_rfl)
    · intro y0 y1 y2 y3 y4 y5 y6 y7 r h
      rw [f_u75_18] at h
      exact go (K_u75 k) [28] cs_u75 [.frz 6 false (RTy.list T21), .autoB [6, 7] true []] (gT h (fun c h => gN2 h fun h => gC h 20 (ih.2.2.1 _ _ _ _ _ _ _ _ _ _ _)) fun c h => gC h 28 (ih.2.2.2.2 _ _)) (by kernel_rfl)
    · intro y0 y1 y2 y3 y4 y5 y6 y7 y8 y9 r h
      rw [f_u75_20] at h
      exact go (K_u75 k) [28] cs_u75 [.frz 6 false (RTy.list T21), .autoB [6, 7] true []] (gN2 h fun h => gT h (fun c h => gC h 20 (ih.2.2.1 _ _ _ _ _ _ _ _ _ _ _)) fun c h => gC h 22 (ih.2.2.2.1 _ _ _ _ _ _ _ _ _ _ _)) (by kernel_rfl)
    · intro y0 y1 y2 y3 y4 y5 y6 y7 y8 y9 r h
      rw [f_u75_22] at h
      exact go (K_u75 k) [28] cs_u75 [.frz 6 false (RTy.list T21), .autoB [6, 7] true []] (gN2 h fun h => gT h (fun c h => gC h 22 (ih.2.2.2.1 _ _ _ _ _ _ _ _ _ _ _)) fun c h => gN2 h fun h => gT h (fun c h => gC h 18 (ih.2.1 _ _ _ _ _ _ _ _ _)) fun c h => gN h (fun q => conjC q.1 (conjC q.2.1 (conjC q.2.2.1 (conjC q.2.2.2.1 (conjC (cc_u71 q.2.2.2.2) conj0))))) fun h => gT h (fun c h => gN h (fun q => conjC q.1 (conjC q.2.1 (conjC q.2.2 conj0))) fun h => gC h 18 (ih.2.1 _ _ _ _ _ _ _ _ _)) fun c h => gC h 18 (ih.2.1 _ _ _ _ _ _ _ _ _)) (by kernel_rfl)
    · intro y0 r h
      rw [f_u75_28] at h
      exact go (K_u75 k) [28] cs_u75 [.frz 6 false (RTy.list T21), .autoB [6, 7] true []] (gN1 h (fun q => cc_u73 q) fun h => gT h (fun c h => gL h) fun c h => gL h) (by kernel_rfl)
theorem of_u75 (k : Nat) (t_ : List (T21).T) (o_ : List (T21).T) (r : R_u75) (h : f_u75 k t_ o_ = some r) : C_u75 t_ o_ r := by
  refine CC.of (fn := Tryz.f210) (by kernel_rfl) (by kernel_rfl) (by kernel_rfl) (by kernel_rfl) ?_
  unfold f_u75 at h
  exact go (K_u75 k) [28] cs_u75 [.frz 6 false (RTy.list T21), .autoB [6, 7] true []] (gN1 h (fun q => cc_u69 q) fun h => gT h (fun c h => gL h) fun c h => gN1 h (fun q => cc_u69 q) fun h => gT h (fun c h => gL h) fun c h => gN h (fun q => conjC (cc_u73 q.1) (conjC (cc_u73 q.2) conj0)) fun h => gN1 h (fun q => cc_u65 q) fun h => gC h 10 ((ev_u75 k t_ o_ k).1 _ _ _ _ _ _ _)) (by kernel_rfl)
theorem cc_u75 {k : Nat} {t_ : List (T21).T} {o_ : List (T21).T} (h : (f_u75 k t_ o_).isSome = true) : C_u75 t_ o_ (v_u75 k t_ o_) := ccG (Φ := C_u75 t_ o_) h (of_u75 k t_ o_)
abbrev R_u70 : Type := List (T21).T × Int
def res_u70 (r : R_u70) : AV := .tup [.r (.ro T21 r.1), .r (.v (.int .i64 r.2))]
def bo_u70 (l_ : List (T21).T) (r : R_u70) : List (Nat × Blk) := []
def args_u70 (l_ : List (T21).T) : List AV := [.r (.ro T21 l_)]
def bin_u70 (l_ : List (T21).T) : List Blk := []
abbrev C_u70 (l_ : List (T21).T) (r : R_u70) : Prop := CC Tryz.prog 166 (args_u70 l_) (bin_u70 l_) (res_u70 r) (bo_u70 l_ r)
def f_u70 (k : Nat) (l_ : List (T21).T) : Option R_u70 :=
  if ((f_u75 k l_ []).isSome = true) then
  some (((v_u75 k l_ []).1, (v_u75 k l_ []).2))
  else none
def v_u70 (k : Nat) (l_ : List (T21).T) : R_u70 := (f_u70 k l_).getD ([], 0)
def ke_u70 (k : Nat) : Ke := (166, fun xs => match xs with
  | [_] => some [false]
  | _ => none, fun xs bs => match xs, bs with
  | [.r (.ro tl__ ql_)], [] => (castL tl__ T21 ql_).bind fun l_ => some (.one (res_u70 (v_u70 k l_), bo_u70 l_ (v_u70 k l_)))
  | _, _ => none)
theorem of_u70 (k : Nat) (l_ : List (T21).T) (r : R_u70) (h : f_u70 k l_ = some r) : C_u70 l_ r := by
  refine CC.of (fn := Tryz.f166) (by kernel_rfl) (by kernel_rfl) (by kernel_rfl) (by kernel_rfl) ?_
  unfold f_u70 at h
  exact go (mkK [ke_u71 k, ke_u75 k]) [] [] [.frz 2 false (RTy.list T21), .autoB [2, 3] true []] (gN1 h (fun q => cc_u75 q) fun h => gL h) (by kernel_rfl)
theorem cc_u70 {k : Nat} {l_ : List (T21).T} (h : (f_u70 k l_).isSome = true) : C_u70 l_ (v_u70 k l_) := ccG (Φ := C_u70 l_) h (of_u70 k l_)
abbrev R_u35 : Type := List (T21).T × Int
def res_u35 (r : R_u35) : AV := .tup [.r (.ro T21 r.1), .r (.v (.int .i64 r.2))]
def bo_u35 (m_ : List (T3).T) (r : R_u35) : List (Nat × Blk) := []
def args_u35 (m_ : List (T3).T) : List AV := [.r (.ro T3 m_)]
def bin_u35 (m_ : List (T3).T) : List Blk := []
abbrev C_u35 (m_ : List (T3).T) (r : R_u35) : Prop := CC Tryz.prog 170 (args_u35 m_) (bin_u35 m_) (res_u35 r) (bo_u35 m_ r)
def st_u35_6 (y0 : List (T3).T) (y1 : Int) (y2 : Int) (y3 : List (T21).T) : St := ⟨mkS 29 [(5, .own 1000000 0), (13, .r (.ro T3 y0)), (14, .r (.v (.int .i64 y1))), (15, .r (.v (.int .i64 y2)))], [(1000000, 0, .row 91 T21 y3)]⟩
def st_u35_10 (y0 : List (T21).T) : St := ⟨mkS 29 [(5, .r (.ro T21 y0))], []⟩
mutual
def f_u35_6 (k : Nat) : Nat → List (T3).T → Int → Int → List (T21).T → Option R_u35
  | 0, _, _, _, _ => none
  | j + 1, y0, y1, y2, y3 =>
  bif (decide (y2 < y1)) then
  if (0 ≤ y2) ∧ (y2 < (↑y0.length : Int)) then
  if ((f_u39 k (y0.getD y2.toNat T3.dflt)).isSome = true) ∧ ((y3.length + [v_u39 k (y0.getD y2.toNat T3.dflt)].length) * (16 : Nat) ≤ (140737488355328 : Nat)) then
  f_u35_6 k j y0 y1 ((IntKind.i64.wrap (y2 + 1))) ((y3 ++ [v_u39 k (y0.getD y2.toNat T3.dflt)]))
  else none
  else none
  else
  f_u35_10 k j y3
def f_u35_10 (k : Nat) : Nat → List (T21).T → Option R_u35
  | 0, _ => none
  | j + 1, y0 =>
  if ((f_u70 k y0).isSome = true) then
  some (((v_u70 k y0).1, (v_u70 k y0).2))
  else none
end
def f_u35 (k : Nat) (m_ : List (T3).T) : Option R_u35 :=
  if ((f_u34 k m_).isSome = true) then
  bif (v_u34 k m_ != (0 : Int)) then
  some (([], v_u34 k m_))
  else
  f_u35_6 k k m_ ((↑m_.length : Int)) 0 ([])
  else none
def v_u35 (k : Nat) (m_ : List (T3).T) : R_u35 := (f_u35 k m_).getD ([], 0)
def ke_u35 (k : Nat) : Ke := (170, fun xs => match xs with
  | [_] => some [false]
  | _ => none, fun xs bs => match xs, bs with
  | [.r (.ro tm__ qm_)], [] => (castL tm__ T3 qm_).bind fun m_ => some (.one (res_u35 (v_u35 k m_), bo_u35 m_ (v_u35 k m_)))
  | _, _ => none)
def cs_u35 : List (Nat × List Cmd) := [(6, [.row 5 91 T21, .autoB [5, 13, 14, 15] false []]), (10, [.frz 5 false (RTy.list T21), .autoB [5] false []])]
abbrev E_u35 (m_ : List (T3).T) (todo : List Item) (st : St) (o : Option R_u35) : Prop := ∀ r, o = some r → Ev Tryz.prog Tryz.f170 0 todo st (res_u35 r) (bo_u35 m_ r)
theorem ev_u35 (k : Nat) (m_ : List (T3).T) : ∀ j, (∀ (y0 : List (T3).T) (y1 : Int) (y2 : Int) (y3 : List (T21).T), E_u35 m_ (placeAt Tryz.f170 6) (st_u35_6 y0 y1 y2 y3) (f_u35_6 k j y0 y1 y2 y3)) ∧ (∀ (y0 : List (T21).T), E_u35 m_ (placeAt Tryz.f170 10) (st_u35_10 y0) (f_u35_10 k j y0))
  | 0 => ⟨fun _ _ _ _ _ h => (nomatch h), fun _ _ h => (nomatch h)⟩
  | j + 1 => by
    have ih := @ev_u35 k m_ j
    refine ⟨?_, ?_⟩
    · intro y0 y1 y2 y3 r h
      rw [f_u35_6] at h
      exact go (mkK [ke_u34 k, ke_u39 k, ke_u70 k]) [10] cs_u35 [.frz 2 false (RTy.list T21), .autoB [2, 3] true []] (gT h (fun c h => gN2 h fun h => gN h (fun q => conjC (cc_u39 q.1) (conjC q.2 conj0)) fun h => gC h 6 (ih.1 _ _ _ _ _)) fun c h => gC h 10 (ih.2 _ _)) (by kernel_rfl)
    · intro y0 r h
      rw [f_u35_10] at h
      exact go (mkK [ke_u34 k, ke_u39 k, ke_u70 k]) [10] cs_u35 [.frz 2 false (RTy.list T21), .autoB [2, 3] true []] (gN1 h (fun q => cc_u70 q) fun h => gL h) (by kernel_rfl)
theorem of_u35 (k : Nat) (m_ : List (T3).T) (r : R_u35) (h : f_u35 k m_ = some r) : C_u35 m_ r := by
  refine CC.of (fn := Tryz.f170) (by kernel_rfl) (by kernel_rfl) (by kernel_rfl) (by kernel_rfl) ?_
  unfold f_u35 at h
  exact go (mkK [ke_u34 k, ke_u39 k, ke_u70 k]) [10] cs_u35 [.frz 2 false (RTy.list T21), .autoB [2, 3] true []] (gN1 h (fun q => cc_u34 q) fun h => gT h (fun c h => gL h) fun c h => gC h 6 ((ev_u35 k m_ k).1 _ _ _ _ _)) (by kernel_rfl)
theorem cc_u35 {k : Nat} {m_ : List (T3).T} (h : (f_u35 k m_).isSome = true) : C_u35 m_ (v_u35 k m_) := ccG (Φ := C_u35 m_) h (of_u35 k m_)
abbrev R_u37 : Type := Bool
def res_u37 (r : R_u37) : AV := .r (.v (.bool r))
def bo_u37 (m_ : List (T3).T) (r : R_u37) : List (Nat × Blk) := []
def args_u37 (m_ : List (T3).T) : List AV := [.r (.ro T3 m_)]
def bin_u37 (m_ : List (T3).T) : List Blk := []
abbrev C_u37 (m_ : List (T3).T) (r : R_u37) : Prop := CC Tryz.prog 120 (args_u37 m_) (bin_u37 m_) (res_u37 r) (bo_u37 m_ r)
def f_u37 (k : Nat) (m_ : List (T3).T) : Option R_u37 :=
  if ((f_u35 k m_).isSome = true) then
  bif ((v_u35 k m_).2 != (0 : Int)) then
  some false
  else
  if ((f_u72 k (v_u35 k m_).1).isSome = true) then
  bif ((v_u72 k (v_u35 k m_).1).2 == (0 : Int)) then
  if (((v_u72 k (v_u35 k m_).1).2 == (0 : Int)) = true) ∧ ((f_u40 k m_).isSome = true) then
  some (true && (v_u72 k (v_u35 k m_).1).1 == v_u40 k m_)
  else none
  else
  if (((v_u72 k (v_u35 k m_).1).2 == (0 : Int)) = false) then
  some false
  else none
  else none
  else none
def v_u37 (k : Nat) (m_ : List (T3).T) : R_u37 := (f_u37 k m_).getD false
def ke_u37 (k : Nat) : Ke := (120, fun xs => match xs with
  | [_] => some [false]
  | _ => none, fun xs bs => match xs, bs with
  | [.r (.ro tm__ qm_)], [] => (castL tm__ T3 qm_).bind fun m_ => some (.one (res_u37 (v_u37 k m_), bo_u37 m_ (v_u37 k m_)))
  | _, _ => none)
theorem of_u37 (k : Nat) (m_ : List (T3).T) (r : R_u37) (h : f_u37 k m_ = some r) : C_u37 m_ r := by
  refine CC.of (fn := Tryz.f120) (by kernel_rfl) (by kernel_rfl) (by kernel_rfl) (by kernel_rfl) ?_
  unfold f_u37 at h
  exact go (mkK [ke_u40 k, ke_u72 k, ke_u35 k]) [] [] [.autoB [2] true []] (gN1 h (fun q => cc_u35 q) fun h => gT h (fun c h => gL h) fun c h => gN1 h (fun q => cc_u72 q) fun h => gT h (fun c h => gN h (fun q => conjC q.1 (conjC (cc_u40 q.2) conj0)) fun h => gL h) fun c h => gN1 h id fun h => gL h) (by kernel_rfl)
theorem cc_u37 {k : Nat} {m_ : List (T3).T} (h : (f_u37 k m_).isSome = true) : C_u37 m_ (v_u37 k m_) := ccG (Φ := C_u37 m_) h (of_u37 k m_)
abbrev R_u25 : Type := Int × Int
def res_u25 (r : R_u25) : AV := .tup [.r (.v (.int .i64 r.1)), .r (.v (.int .i64 r.2))]
def bo_u25 (x_ : T3.T) (r : R_u25) : List (Nat × Blk) := []
def args_u25 (x_ : T3.T) : List AV := [.agg (rvs (enc T3 x_))]
def bin_u25 (x_ : T3.T) : List Blk := []
abbrev C_u25 (x_ : T3.T) (r : R_u25) : Prop := CC Tryz.prog 121 (args_u25 x_) (bin_u25 x_) (res_u25 r) (bo_u25 x_ r)
def f_u25 (k : Nat) (x_ : T3.T) : Option R_u25 :=
  bif x_.2.2 then
  some ((IntKind.i64.wrap (IntKind.i64.wrap (x_.1 - x_.2.1) + 1), x_.1))
  else
  some ((x_.1, IntKind.i64.wrap (IntKind.i64.wrap (x_.1 + x_.2.1) - 1)))
def v_u25 (k : Nat) (x_ : T3.T) : R_u25 := (f_u25 k x_).getD (0, 0)
def ke_u25 (k : Nat) : Ke := (121, fun xs => match xs with
  | [_] => some [false]
  | _ => none, fun xs bs => match xs, bs with
  | [.agg qx_], [] => (decS [] T3 qx_).bind fun x_ => some (.one (res_u25 (v_u25 k x_), bo_u25 x_ (v_u25 k x_)))
  | _, _ => none)
theorem of_u25 (k : Nat) (x_ : T3.T) (r : R_u25) (h : f_u25 k x_ = some r) : C_u25 x_ r := by
  refine CC.of (fn := Tryz.f121) (by kernel_rfl) (by kernel_rfl) (by kernel_rfl) (by kernel_rfl) ?_
  unfold f_u25 at h
  exact go (mkK []) [] [] [.autoB [2, 3] true []] (gT h (fun c h => gL h) fun c h => gL h) (by kernel_rfl)
theorem cc_u25 {k : Nat} {x_ : T3.T} (h : (f_u25 k x_).isSome = true) : C_u25 x_ (v_u25 k x_) := ccG (Φ := C_u25 x_) h (of_u25 k x_)
abbrev R_u28 : Type := Int
def res_u28 (r : R_u28) : AV := .r (.v (.int .i64 r))
def bo_u28 (g_0 : Int) (g_1 : Int) (g_2 : List (T5).T) (g_3 : List ((I).T × (I).T)) (r_ : T5.T) (r : R_u28) : List (Nat × Blk) := [(0, .var 135 [.r (.v (.int .i64 g_0)), .r (.v (.int .i64 g_1)), .r (.ro T5 g_2), .own 1 0]), (0, .map false I I g_3)]
def args_u28 (g_0 : Int) (g_1 : Int) (g_2 : List (T5).T) (g_3 : List ((I).T × (I).T)) (r_ : T5.T) : List AV := [.ptr 0 0 0, .agg (rvs (enc T5 r_))]
def bin_u28 (g_0 : Int) (g_1 : Int) (g_2 : List (T5).T) (g_3 : List ((I).T × (I).T)) (r_ : T5.T) : List Blk := [.var 135 [.r (.v (.int .i64 g_0)), .r (.v (.int .i64 g_1)), .r (.ro T5 g_2), .own 1 0], .map false I I g_3]
abbrev C_u28 (g_0 : Int) (g_1 : Int) (g_2 : List (T5).T) (g_3 : List ((I).T × (I).T)) (r_ : T5.T) (r : R_u28) : Prop := CC Tryz.prog 71 (args_u28 g_0 g_1 g_2 g_3 r_) (bin_u28 g_0 g_1 g_2 g_3 r_) (res_u28 r) (bo_u28 g_0 g_1 g_2 g_3 r_ r)
def st_u28_17 (g_0 : Int) (g_1 : Int) (g_2 : List (T5).T) (g_3 : List ((I).T × (I).T)) (r_ : T5.T) (y0 : Int) (y1 : List (T3).T) (y2 : Int) (y3 : Int) : St := ⟨mkS 93 [(6, .r (.v (.int .i64 y0))), (78, .r (.ro T3 y1)), (79, .r (.v (.int .i64 y2))), (80, .r (.v (.int .i64 y3)))], [(0, 0, .var 135 [.r (.v (.int .i64 g_0)), .r (.v (.int .i64 g_1)), .r (.ro T5 g_2), .own 1 0]), (1, 0, .map false I I g_3)]⟩
def f_u28_17 (k : Nat) (g_0 : Int) (g_1 : Int) (g_2 : List (T5).T) (g_3 : List ((I).T × (I).T)) (r_ : T5.T) : Nat → Int → List (T3).T → Int → Int → Option R_u28
  | 0, _, _, _, _ => none
  | j + 1, y0, y1, y2, y3 =>
  bif (decide (y3 < y2)) then
  if (0 ≤ y3) ∧ (y3 < (↑y1.length : Int)) then
  if ((f_u25 k (y1.getD y3.toNat T3.dflt)).isSome = true) then
  bif (decide ((v_u25 k (y1.getD y3.toNat T3.dflt)).2 ≥ y0)) then
  some 21
  else
  f_u28_17 k g_0 g_1 g_2 g_3 r_ j y0 y1 y2 ((IntKind.i64.wrap (y3 + 1)))
  else none
  else none
  else
  some 0
def f_u28 (k : Nat) (g_0 : Int) (g_1 : Int) (g_2 : List (T5).T) (g_3 : List ((I).T × (I).T)) (r_ : T5.T) : Option R_u28 :=
  bif (decide (r_.1 < (1 : Int)) || decide (r_.1 > (1000000 : Int))) then
  some 1
  else
  bif (r_.2.1 != (0 : Int)) then
  if ((r_.2.1 != (0 : Int)) = true) ∧ ((f_u29 k g_0 g_1 g_2 g_3 r_.2.1).isSome = true) then
  bif (true && (!v_u29 k g_0 g_1 g_2 g_3 r_.2.1)) then
  some 7
  else
  if ((f_u30 k g_0 g_1 g_2 g_3 r_.2.1).isSome = true) then
  bif (decide (r_.2.2.1 < (0 : Int)) || decide (r_.2.2.2.1 < (1 : Int)) || decide (r_.2.2.1 > (v_u30 k g_0 g_1 g_2 g_3 r_.2.1).1) || decide (r_.2.2.2.1 > IntKind.i64.wrap ((v_u30 k g_0 g_1 g_2 g_3 r_.2.1).1 - r_.2.2.1))) then
  some 20
  else
  if ((f_u34 k r_.2.2.2.2.2).isSome = true) then
  bif (v_u34 k r_.2.2.2.2.2 != (0 : Int)) then
  some (v_u34 k r_.2.2.2.2.2)
  else
  bif ((↑ (List.length r_.2.2.2.2.2) : Int) == (0 : Int)) then
  some 10
  else
  if ((f_u37 k r_.2.2.2.2.2).isSome = true) then
  bif (!v_u37 k r_.2.2.2.2.2) then
  some 12
  else
  f_u28_17 k g_0 g_1 g_2 g_3 r_ k ((v_u30 k g_0 g_1 g_2 g_3 r_.2.1).2) r_.2.2.2.2.2 ((↑ (List.length r_.2.2.2.2.2) : Int)) 0
  else none
  else none
  else none
  else none
  else
  if ((r_.2.1 != (0 : Int)) = false) then
  if ((f_u30 k g_0 g_1 g_2 g_3 r_.2.1).isSome = true) then
  bif (decide (r_.2.2.1 < (0 : Int)) || decide (r_.2.2.2.1 < (1 : Int)) || decide (r_.2.2.1 > (v_u30 k g_0 g_1 g_2 g_3 r_.2.1).1) || decide (r_.2.2.2.1 > IntKind.i64.wrap ((v_u30 k g_0 g_1 g_2 g_3 r_.2.1).1 - r_.2.2.1))) then
  some 20
  else
  if ((f_u34 k r_.2.2.2.2.2).isSome = true) then
  bif (v_u34 k r_.2.2.2.2.2 != (0 : Int)) then
  some (v_u34 k r_.2.2.2.2.2)
  else
  bif ((↑ (List.length r_.2.2.2.2.2) : Int) == (0 : Int)) then
  some 10
  else
  if ((f_u37 k r_.2.2.2.2.2).isSome = true) then
  bif (!v_u37 k r_.2.2.2.2.2) then
  some 12
  else
  f_u28_17 k g_0 g_1 g_2 g_3 r_ k ((v_u30 k g_0 g_1 g_2 g_3 r_.2.1).2) r_.2.2.2.2.2 ((↑ (List.length r_.2.2.2.2.2) : Int)) 0
  else none
  else none
  else none
  else none
def v_u28 (k : Nat) (g_0 : Int) (g_1 : Int) (g_2 : List (T5).T) (g_3 : List ((I).T × (I).T)) (r_ : T5.T) : R_u28 := (f_u28 k g_0 g_1 g_2 g_3 r_).getD 0
def ke_u28 (k : Nat) : Ke := (71, fun xs => match xs with
  | [.ptr _ _ _, _] => some [true, false]
  | _ => none, fun xs bs => match xs, bs with
  | [.ptr 0 0 0, .agg qr_], [.var 135 [.r (.v (.int .i64 g_0)), .r (.v (.int .i64 g_1)), .r (.ro tg_2_ qg_2), .own 1 0], .map false kg_3_ tg_3_ qg_3] => (decS [] T5 qr_).bind fun r_ => (castL tg_2_ T5 qg_2).bind fun g_2 => (castM kg_3_ tg_3_ I I qg_3).bind fun g_3 => some (.one (res_u28 (v_u28 k g_0 g_1 g_2 g_3 r_), bo_u28 g_0 g_1 g_2 g_3 r_ (v_u28 k g_0 g_1 g_2 g_3 r_)))
  | _, _ => none)
def K_u28 (k : Nat) : Calld := mkK [ke_u29 k, ke_u34 k, ke_u30 k, ke_u37 k, ke_u25 k]
def cs_u28 : List (Nat × List Cmd) := [(17, [.autoB [6, 78, 79, 80] false []])]
abbrev E_u28 (g_0 : Int) (g_1 : Int) (g_2 : List (T5).T) (g_3 : List ((I).T × (I).T)) (r_ : T5.T) (todo : List Item) (st : St) (o : Option R_u28) : Prop := ∀ r, o = some r → Ev Tryz.prog Tryz.f71 2 todo st (res_u28 r) (bo_u28 g_0 g_1 g_2 g_3 r_ r)
theorem ev_u28 (k : Nat) (g_0 : Int) (g_1 : Int) (g_2 : List (T5).T) (g_3 : List ((I).T × (I).T)) (r_ : T5.T) : ∀ j, (∀ (y0 : Int) (y1 : List (T3).T) (y2 : Int) (y3 : Int), E_u28 g_0 g_1 g_2 g_3 r_ (placeAt Tryz.f71 17) (st_u28_17 g_0 g_1 g_2 g_3 r_ y0 y1 y2 y3) (f_u28_17 k g_0 g_1 g_2 g_3 r_ j y0 y1 y2 y3))
  | 0 => fun _ _ _ _ _ h => (nomatch h)
  | j + 1 => by
    have ih := @ev_u28 k g_0 g_1 g_2 g_3 r_ j
    · intro y0 y1 y2 y3 r h
      rw [f_u28_17] at h
      exact go (K_u28 k) [] cs_u28 [.autoB [4] true []] (gT h (fun c h => gN2 h fun h => gN1 h (fun q => cc_u25 q) fun h => gT h (fun c h => gL h) fun c h => gC h 17 (ih _ _ _ _ _)) fun c h => gL h) (by kernel_rfl)
theorem of_u28 (k : Nat) (g_0 : Int) (g_1 : Int) (g_2 : List (T5).T) (g_3 : List ((I).T × (I).T)) (r_ : T5.T) (r : R_u28) (h : f_u28 k g_0 g_1 g_2 g_3 r_ = some r) : C_u28 g_0 g_1 g_2 g_3 r_ r := by
  refine CC.of (fn := Tryz.f71) (by kernel_rfl) (by kernel_rfl) (by kernel_rfl) (by kernel_rfl) ?_
  unfold f_u28 at h
  exact go (K_u28 k) [] cs_u28 [.autoB [4] true []] (gT h (fun c h => gL h) fun c h => gT h (fun c h => gN h (fun q => conjC q.1 (conjC (cc_u29 q.2) conj0)) fun h => gT h (fun c h => gL h) fun c h => gN1 h (fun q => cc_u30 q) fun h => gT h (fun c h => gL h) fun c h => gN1 h (fun q => cc_u34 q) fun h => gT h (fun c h => gL h) fun c h => gT h (fun c h => gL h) fun c h => gN1 h (fun q => cc_u37 q) fun h => gT h (fun c h => gL h) fun c h => gC h 17 ((ev_u28 k g_0 g_1 g_2 g_3 r_ k) _ _ _ _ _)) fun c h => gN1 h id fun h => gU2 h (.leaf (.r (.v (.int .i64 7))) [(0, .var 135 [.r (.v (.int .i64 g_0)), .r (.v (.int .i64 g_1)), .r (.ro T5 g_2), .own 1 0]), (0, .map false I I g_3)]) fun h => gN1 h (fun q => cc_u30 q) fun h => gT h (fun c h => gL h) fun c h => gN1 h (fun q => cc_u34 q) fun h => gT h (fun c h => gL h) fun c h => gT h (fun c h => gL h) fun c h => gN1 h (fun q => cc_u37 q) fun h => gT h (fun c h => gL h) fun c h => gC h 17 ((ev_u28 k g_0 g_1 g_2 g_3 r_ k) _ _ _ _ _)) (by kernel_rfl)
theorem cc_u28 {k : Nat} {g_0 : Int} {g_1 : Int} {g_2 : List (T5).T} {g_3 : List ((I).T × (I).T)} {r_ : T5.T} (h : (f_u28 k g_0 g_1 g_2 g_3 r_).isSome = true) : C_u28 g_0 g_1 g_2 g_3 r_ (v_u28 k g_0 g_1 g_2 g_3 r_) := ccG (Φ := C_u28 g_0 g_1 g_2 g_3 r_) h (of_u28 k g_0 g_1 g_2 g_3 r_)
abbrev R_u27 : Type := Bool
def res_u27 (r : R_u27) : AV := .r (.v (.bool r))
def bo_u27 (a_ : T4.T) (b_ : T4.T) (r : R_u27) : List (Nat × Blk) := []
def args_u27 (a_ : T4.T) (b_ : T4.T) : List AV := [.agg (rvs (enc T4 a_)), .agg (rvs (enc T4 b_))]
def bin_u27 (a_ : T4.T) (b_ : T4.T) : List Blk := []
abbrev C_u27 (a_ : T4.T) (b_ : T4.T) (r : R_u27) : Prop := CC Tryz.prog 73 (args_u27 a_ b_) (bin_u27 a_ b_) (res_u27 r) (bo_u27 a_ b_ r)
def st_u27_4 (y0 : List (T3).T) (y1 : Int) (y2 : Int) (y3 : T4.T) : St := ⟨mkS 65 [(3, .ptr 1000000 0 0), (32, .r (.ro T3 y0)), (33, .r (.v (.int .i64 y1))), (34, .r (.v (.int .i64 y2)))], [(1000000, 0, .var 45 (rvs (enc T4 y3)))]⟩
def st_u27_8 (y0 : Int) (y1 : Int) (y2 : List (T3).T) (y3 : Int) (y4 : Int) (y5 : List (T3).T) (y6 : Int) (y7 : Int) (y8 : T4.T) : St := ⟨mkS 65 [(3, .ptr 1000000 0 0), (7, .r (.v (.int .i64 y0))), (8, .r (.v (.int .i64 y1))), (32, .r (.ro T3 y2)), (33, .r (.v (.int .i64 y3))), (34, .r (.v (.int .i64 y4))), (44, .r (.ro T3 y5)), (45, .r (.v (.int .i64 y6))), (46, .r (.v (.int .i64 y7)))], [(1000000, 0, .var 45 (rvs (enc T4 y8)))]⟩
mutual
def f_u27_4 (k : Nat) : Nat → List (T3).T → Int → Int → T4.T → Option R_u27
  | 0, _, _, _, _ => none
  | j + 1, y0, y1, y2, y3 =>
  bif (decide (y2 < y1)) then
  if (0 ≤ y2) ∧ (y2 < (↑y0.length : Int)) then
  if ((f_u25 k (y0.getD y2.toNat T3.dflt)).isSome = true) then
  f_u27_8 k j ((v_u25 k (y0.getD y2.toNat T3.dflt)).1) ((v_u25 k (y0.getD y2.toNat T3.dflt)).2) y0 y1 y2 y3.2.2.2 ((↑ (List.length y3.2.2.2) : Int)) 0 y3
  else none
  else none
  else
  some false
def f_u27_8 (k : Nat) : Nat → Int → Int → List (T3).T → Int → Int → List (T3).T → Int → Int → T4.T → Option R_u27
  | 0, _, _, _, _, _, _, _, _, _ => none
  | j + 1, y0, y1, y2, y3, y4, y5, y6, y7, y8 =>
  bif (decide (y7 < y6)) then
  if (0 ≤ y7) ∧ (y7 < (↑y5.length : Int)) then
  if ((f_u25 k (y5.getD y7.toNat T3.dflt)).isSome = true) then
  bif (decide (y0 ≤ (v_u25 k (y5.getD y7.toNat T3.dflt)).2) && decide ((v_u25 k (y5.getD y7.toNat T3.dflt)).1 ≤ y1)) then
  some true
  else
  f_u27_8 k j y0 y1 y2 y3 y4 y5 y6 ((IntKind.i64.wrap (y7 + 1))) y8
  else none
  else none
  else
  f_u27_4 k j y2 y3 ((IntKind.i64.wrap (y4 + 1))) y8
end
def f_u27 (k : Nat) (a_ : T4.T) (b_ : T4.T) : Option R_u27 :=
  bif (decide (IntKind.i64.wrap (a_.1 + a_.2.1) ≤ b_.1) || decide (IntKind.i64.wrap (b_.1 + b_.2.1) ≤ a_.1)) then
  some false
  else
  f_u27_4 k k a_.2.2.2 ((↑ (List.length a_.2.2.2) : Int)) 0 b_
def v_u27 (k : Nat) (a_ : T4.T) (b_ : T4.T) : R_u27 := (f_u27 k a_ b_).getD false
def ke_u27 (k : Nat) : Ke := (73, fun xs => match xs with
  | [_, _] => some [false, false]
  | _ => none, fun xs bs => match xs, bs with
  | [.agg qa_, .agg qb_], [] => (decS [] T4 qa_).bind fun a_ => (decS [] T4 qb_).bind fun b_ => some (.one (res_u27 (v_u27 k a_ b_), bo_u27 a_ b_ (v_u27 k a_ b_)))
  | _, _ => none)
def cs_u27 : List (Nat × List Cmd) := [(4, [.autoB [3, 32, 33, 34] false []]), (8, [.autoB [3, 7, 8, 32, 33, 34, 44, 45, 46] false []])]
abbrev E_u27 (a_ : T4.T) (b_ : T4.T) (todo : List Item) (st : St) (o : Option R_u27) : Prop := ∀ r, o = some r → Ev Tryz.prog Tryz.f73 0 todo st (res_u27 r) (bo_u27 a_ b_ r)
theorem ev_u27 (k : Nat) (a_ : T4.T) (b_ : T4.T) : ∀ j, (∀ (y0 : List (T3).T) (y1 : Int) (y2 : Int) (y3 : T4.T), E_u27 a_ b_ (placeAt Tryz.f73 4) (st_u27_4 y0 y1 y2 y3) (f_u27_4 k j y0 y1 y2 y3)) ∧ (∀ (y0 : Int) (y1 : Int) (y2 : List (T3).T) (y3 : Int) (y4 : Int) (y5 : List (T3).T) (y6 : Int) (y7 : Int) (y8 : T4.T), E_u27 a_ b_ (placeAt Tryz.f73 8) (st_u27_8 y0 y1 y2 y3 y4 y5 y6 y7 y8) (f_u27_8 k j y0 y1 y2 y3 y4 y5 y6 y7 y8))
  | 0 => ⟨fun _ _ _ _ _ h => (nomatch h), fun _ _ _ _ _ _ _ _ _ _ h => (nomatch h)⟩
  | j + 1 => by
    have ih := @ev_u27 k a_ b_ j
    refine ⟨?_, ?_⟩
    · intro y0 y1 y2 y3 r h
      rw [f_u27_4] at h
      exact go (mkK [ke_u25 k]) [] cs_u27 [.autoB [4] true []] (gT h (fun c h => gN2 h fun h => gN1 h (fun q => cc_u25 q) fun h => gC h 8 (ih.2 _ _ _ _ _ _ _ _ _ _)) fun c h => gL h) (by kernel_rfl)
    · intro y0 y1 y2 y3 y4 y5 y6 y7 y8 r h
      rw [f_u27_8] at h
      exact go (mkK [ke_u25 k]) [] cs_u27 [.autoB [4] true []] (gT h (fun c h => gN2 h fun h => gN1 h (fun q => cc_u25 q) fun h => gT h (fun c h => gL h) fun c h => gC h 8 (ih.2 _ _ _ _ _ _ _ _ _ _)) fun c h => gC h 4 (ih.1 _ _ _ _ _)) (by kernel_rfl)
theorem of_u27 (k : Nat) (a_ : T4.T) (b_ : T4.T) (r : R_u27) (h : f_u27 k a_ b_ = some r) : C_u27 a_ b_ r := by
  refine CC.of (fn := Tryz.f73) (by kernel_rfl) (by kernel_rfl) (by kernel_rfl) (by kernel_rfl) ?_
  unfold f_u27 at h
  exact go (mkK [ke_u25 k]) [] cs_u27 [.autoB [4] true []] (gT h (fun c h => gL h) fun c h => gC h 4 ((ev_u27 k a_ b_ k).1 _ _ _ _ _)) (by kernel_rfl)
theorem cc_u27 {k : Nat} {a_ : T4.T} {b_ : T4.T} (h : (f_u27 k a_ b_).isSome = true) : C_u27 a_ b_ (v_u27 k a_ b_) := ccG (Φ := C_u27 a_ b_) h (of_u27 k a_ b_)
abbrev RA_u26 : Type := Int
def resA_u26 (r : RA_u26) : AV := .tup [.r (.v (Value.pointer none)), .r (.v (.int .i64 r))]
def boA_u26 (l_ : List (T5).T) (web_ : T19.T) (r : RA_u26) : List (Nat × Blk) := []
abbrev RB_u26 : Type := Int × Int × Int × List (T5).T × (List ((I).T × (I).T))
def resB_u26 (r : RB_u26) : AV := .tup [.ptr 0 0 0, .r (.v (.int .i64 r.1))]
def boB_u26 (l_ : List (T5).T) (web_ : T19.T) (r : RB_u26) : List (Nat × Blk) := [(0, .var 135 [.r (.v (.int .i64 r.2.1)), .r (.v (.int .i64 r.2.2.1)), .r (.ro T5 r.2.2.2.1), .own 1 0]), (0, .map false I I r.2.2.2.2)]
abbrev R_u26 : Type := RA_u26 ⊕ RB_u26
def res_u26 (r : R_u26) : AV := match r with
  | .inl a => resA_u26 a
  | .inr a => resB_u26 a
def bo_u26 (l_ : List (T5).T) (web_ : T19.T) (r : R_u26) : List (Nat × Blk) := match r with
  | .inl a => boA_u26 l_ web_ a
  | .inr a => boB_u26 l_ web_ a
def args_u26 (l_ : List (T5).T) (web_ : T19.T) : List AV := [.r (.ro T5 l_), .agg (rvs (enc T19 web_))]
def bin_u26 (l_ : List (T5).T) (web_ : T19.T) : List Blk := []
abbrev C_u26 (l_ : List (T5).T) (web_ : T19.T) (r : R_u26) : Prop := CC Tryz.prog 31 (args_u26 l_ web_) (bin_u26 l_ web_) (res_u26 r) (bo_u26 l_ web_ r)
abbrev CA_u26 (l_ : List (T5).T) (web_ : T19.T) (r : RA_u26) : Prop := CC Tryz.prog 31 (args_u26 l_ web_) (bin_u26 l_ web_) (resA_u26 r) (boA_u26 l_ web_ r)
abbrev CB_u26 (l_ : List (T5).T) (web_ : T19.T) (r : RB_u26) : Prop := CC Tryz.prog 31 (args_u26 l_ web_) (bin_u26 l_ web_) (resB_u26 r) (boB_u26 l_ web_ r)
def st_u26_8 (y0 : List (T5).T) (y1 : Bool) (y2 : List (T5).T) (y3 : Int) (y4 : Int) (y5 : Int) (y6 : Int) (y7 : List (T5).T) (y8 : List ((I).T × (I).T)) : St := ⟨mkS 97 [(0, .r (.ro T5 y0)), (6, .ptr 1000000 0 0), (7, .r (.v (.bool y1))), (41, .r (.ro T5 y2)), (42, .r (.v (.int .i64 y3))), (43, .r (.v (.int .i64 y4)))], [(1000000, 0, .var 135 [.r (.v (.int .i64 y5)), .r (.v (.int .i64 y6)), .r (.ro T5 y7), .own 1000001 0]), (1000001, 0, .map false I I y8)]⟩
def st_u26_20 (y0 : List (T5).T) (y1 : List (T5).T) (y2 : Int) (y3 : Int) (y4 : Int) (y5 : Int) (y6 : List (T5).T) (y7 : List ((I).T × (I).T)) : St := ⟨mkS 97 [(0, .r (.ro T5 y0)), (6, .ptr 1000000 0 0), (67, .r (.ro T5 y1)), (68, .r (.v (.int .i64 y2))), (69, .r (.v (.int .i64 y3)))], [(1000000, 0, .var 135 [.r (.v (.int .i64 y4)), .r (.v (.int .i64 y5)), .r (.ro T5 y6), .own 1000001 0]), (1000001, 0, .map false I I y7)]⟩
def st_u26_23 (y0 : List (T5).T) (y1 : List (T5).T) (y2 : Int) (y3 : Int) (y4 : List (T5).T) (y5 : Int) (y6 : Int) (y7 : Int) (y8 : Int) (y9 : List (T5).T) (y10 : List ((I).T × (I).T)) (y11 : T5.T) : St := ⟨mkS 97 [(0, .r (.ro T5 y0)), (6, .ptr 1000000 0 0), (12, .ptr 1000002 0 0), (67, .r (.ro T5 y1)), (68, .r (.v (.int .i64 y2))), (69, .r (.v (.int .i64 y3))), (76, .r (.ro T5 y4)), (77, .r (.v (.int .i64 y5))), (78, .r (.v (.int .i64 y6)))], [(1000000, 0, .var 135 [.r (.v (.int .i64 y7)), .r (.v (.int .i64 y8)), .r (.ro T5 y9), .own 1000001 0]), (1000001, 0, .map false I I y10), (1000002, 0, .var 47 (rvs (enc T5 y11)))]⟩
mutual
def f_u26_8 (k : Nat) : Nat → List (T5).T → Bool → List (T5).T → Int → Int → Int → Int → List (T5).T → (List ((I).T × (I).T)) → Option R_u26
  | 0, _, _, _, _, _, _, _, _, _ => none
  | j + 1, y0, y1, y2, y3, y4, y5, y6, y7, y8 =>
  bif (decide (y4 < y3)) then
  if (0 ≤ y4) ∧ (y4 < (↑y2.length : Int)) then
  if ((f_u28 k y5 y6 y7 y8 (y2.getD y4.toNat T5.dflt)).isSome = true) then
  bif (v_u28 k y5 y6 y7 y8 (y2.getD y4.toNat T5.dflt) != (0 : Int)) then
  some ((.inl (v_u28 k y5 y6 y7 y8 (y2.getD y4.toNat T5.dflt))))
  else
  if ((f_u29 k y5 y6 y7 y8 (y2.getD y4.toNat T5.dflt).1).isSome = true) then
  bif (v_u29 k y5 y6 y7 y8 (y2.getD y4.toNat T5.dflt).1) then
  f_u26_8 k j y0 true y2 y3 ((IntKind.i64.wrap (y4 + 1))) y5 y6 y7 y8
  else
  f_u26_8 k j y0 y1 y2 y3 ((IntKind.i64.wrap (y4 + 1))) y5 y6 y7 ((mset I (y2.getD y4.toNat T5.dflt).1 y4 y8))
  else none
  else none
  else none
  else
  bif y1 then
  some ((.inl 6))
  else
  f_u26_20 k j y0 y0 ((↑y0.length : Int)) 0 y5 y6 y7 y8
def f_u26_20 (k : Nat) : Nat → List (T5).T → List (T5).T → Int → Int → Int → Int → List (T5).T → (List ((I).T × (I).T)) → Option R_u26
  | 0, _, _, _, _, _, _, _, _ => none
  | j + 1, y0, y1, y2, y3, y4, y5, y6, y7 =>
  bif (decide (y3 < y2)) then
  if (0 ≤ y3) ∧ (y3 < (↑y1.length : Int)) then
  if ((0 : Int) ≤ (0 : Int)) ∧ (0 ≤ y3) ∧ (y3 ≤ (↑y0.length : Int)) then
  f_u26_23 k j y0 y1 y2 y3 ((List.take (y3.toNat - Int.toNat 0) (List.drop (Int.toNat 0) y0))) ((↑ (List.take (y3.toNat - Int.toNat 0) (List.drop (Int.toNat 0) y0)).length : Int)) 0 y4 y5 y6 y7 ((y1.getD y3.toNat T5.dflt))
  else none
  else none
  else
  some ((.inr ((0, y4, y5, y6, y7))))
def f_u26_23 (k : Nat) : Nat → List (T5).T → List (T5).T → Int → Int → List (T5).T → Int → Int → Int → Int → List (T5).T → (List ((I).T × (I).T)) → T5.T → Option R_u26
  | 0, _, _, _, _, _, _, _, _, _, _, _, _ => none
  | j + 1, y0, y1, y2, y3, y4, y5, y6, y7, y8, y9, y10, y11 =>
  bif (decide (y6 < y5)) then
  if (0 ≤ y6) ∧ (y6 < (↑y4.length : Int)) then
  bif (y11.2.1 == (y4.getD y6.toNat T5.dflt).2.1) then
  if ((y11.2.1 == (y4.getD y6.toNat T5.dflt).2.1) = true) ∧ ((f_u27 k y11.2.2 (y4.getD y6.toNat T5.dflt).2.2).isSome = true) then
  bif (true && v_u27 k y11.2.2 (y4.getD y6.toNat T5.dflt).2.2) then
  some ((.inl 12))
  else
  f_u26_23 k j y0 y1 y2 y3 y4 y5 ((IntKind.i64.wrap (y6 + 1))) y7 y8 y9 y10 y11
  else none
  else
  if ((y11.2.1 == (y4.getD y6.toNat T5.dflt).2.1) = false) then
  f_u26_23 k j y0 y1 y2 y3 y4 y5 ((IntKind.i64.wrap (y6 + 1))) y7 y8 y9 y10 y11
  else none
  else none
  else
  f_u26_20 k j y0 y1 y2 ((IntKind.i64.wrap (y3 + 1))) y7 y8 y9 y10
end
def f_u26 (k : Nat) (l_ : List (T5).T) (web_ : T19.T) : Option R_u26 :=
  bif (decide (web_.1 < (1 : Int)) || decide (web_.1 > (12000 : Int)) || decide (web_.2 < (0 : Int)) || decide (web_.2 > (17179869184 : Int))) then
  some ((.inl 1))
  else
  bif (decide ((↑l_.length : Int) > (512 : Int))) then
  some ((.inl 8))
  else
  f_u26_8 k k l_ false l_ ((↑l_.length : Int)) 0 web_.1 web_.2 l_ ([])
def v_u26 (k : Nat) (l_ : List (T5).T) (web_ : T19.T) : R_u26 := (f_u26 k l_ web_).getD (.inl 0)
def vA_u26 (k : Nat) (l_ : List (T5).T) (web_ : T19.T) : RA_u26 := lft 0 (v_u26 k l_ web_)
def vB_u26 (k : Nat) (l_ : List (T5).T) (web_ : T19.T) : RB_u26 := rgt ((0, 0, 0, [], [])) (v_u26 k l_ web_)
def ke_u26 (k : Nat) : Ke := (31, fun xs => match xs with
  | [_, _] => some [false, false]
  | _ => none, fun xs bs => match xs, bs with
  | [.r (.ro tl__ ql_), .agg qweb_], [] => (castL tl__ T5 ql_).bind fun l_ => (decS [] T19 qweb_).bind fun web_ => some (.two (v_u26 k l_ web_).isLeft (resA_u26 (vA_u26 k l_ web_), boA_u26 l_ web_ (vA_u26 k l_ web_)) (resB_u26 (vB_u26 k l_ web_), boB_u26 l_ web_ (vB_u26 k l_ web_)))
  | _, _ => none)
def K_u26 (k : Nat) : Calld := mkK [ke_u29 k, ke_u28 k, ke_u27 k]
def cs_u26 : List (Nat × List Cmd) := [(8, [.autoB [0, 6, 7, 41, 42, 43] false []]), (20, [.autoB [0, 6, 67, 68, 69] false []]), (23, [.autoB [0, 6, 12, 67, 68, 69, 76, 77, 78] false []])]
abbrev E_u26 (l_ : List (T5).T) (web_ : T19.T) (todo : List Item) (st : St) (o : Option R_u26) : Prop := ∀ r, o = some r → Ev Tryz.prog Tryz.f31 0 todo st (res_u26 r) (bo_u26 l_ web_ r)
theorem ev_u26 (k : Nat) (l_ : List (T5).T) (web_ : T19.T) : ∀ j, (∀ (y0 : List (T5).T) (y1 : Bool) (y2 : List (T5).T) (y3 : Int) (y4 : Int) (y5 : Int) (y6 : Int) (y7 : List (T5).T) (y8 : List ((I).T × (I).T)), E_u26 l_ web_ (placeAt Tryz.f31 8) (st_u26_8 y0 y1 y2 y3 y4 y5 y6 y7 y8) (f_u26_8 k j y0 y1 y2 y3 y4 y5 y6 y7 y8)) ∧ (∀ (y0 : List (T5).T) (y1 : List (T5).T) (y2 : Int) (y3 : Int) (y4 : Int) (y5 : Int) (y6 : List (T5).T) (y7 : List ((I).T × (I).T)), E_u26 l_ web_ (placeAt Tryz.f31 20) (st_u26_20 y0 y1 y2 y3 y4 y5 y6 y7) (f_u26_20 k j y0 y1 y2 y3 y4 y5 y6 y7)) ∧ (∀ (y0 : List (T5).T) (y1 : List (T5).T) (y2 : Int) (y3 : Int) (y4 : List (T5).T) (y5 : Int) (y6 : Int) (y7 : Int) (y8 : Int) (y9 : List (T5).T) (y10 : List ((I).T × (I).T)) (y11 : T5.T), E_u26 l_ web_ (placeAt Tryz.f31 23) (st_u26_23 y0 y1 y2 y3 y4 y5 y6 y7 y8 y9 y10 y11) (f_u26_23 k j y0 y1 y2 y3 y4 y5 y6 y7 y8 y9 y10 y11))
  | 0 => ⟨fun _ _ _ _ _ _ _ _ _ _ h => (nomatch h), fun _ _ _ _ _ _ _ _ _ h => (nomatch h), fun _ _ _ _ _ _ _ _ _ _ _ _ _ h => (nomatch h)⟩
  | j + 1 => by
    have ih := @ev_u26 k l_ web_ j
    refine ⟨?_, ?_, ?_⟩
    · intro y0 y1 y2 y3 y4 y5 y6 y7 y8 r h
      rw [f_u26_8] at h
      exact go (K_u26 k) [] cs_u26 [.autoB [4, 5] true []] (gT h (fun c h => gN2 h fun h => gN1 h (fun q => cc_u28 q) fun h => gT h (fun c h => gL h) fun c h => gN1 h (fun q => cc_u29 q) fun h => gT h (fun c h => gC h 8 (ih.1 _ _ _ _ _ _ _ _ _ _)) fun c h => gC h 8 (ih.1 _ _ _ _ _ _ _ _ _ _)) fun c h => gT h (fun c h => gL h) fun c h => gC h 20 (ih.2.1 _ _ _ _ _ _ _ _ _)) (by kernel_rfl)
    · intro y0 y1 y2 y3 y4 y5 y6 y7 r h
      rw [f_u26_20] at h
      exact go (K_u26 k) [] cs_u26 [.autoB [4, 5] true []] (gT h (fun c h => gN2 h fun h => gN h (fun q => conjC q.1 (conjC q.2.1 (conjC q.2.2 conj0))) fun h => gC h 23 (ih.2.2 _ _ _ _ _ _ _ _ _ _ _ _ _)) fun c h => gL h) (by kernel_rfl)
    · intro y0 y1 y2 y3 y4 y5 y6 y7 y8 y9 y10 y11 r h
      rw [f_u26_23] at h
      exact go (K_u26 k) [] cs_u26 [.autoB [4, 5] true []] (gT h (fun c h => gN2 h fun h => gT h (fun c h => gN h (fun q => conjC q.1 (conjC (cc_u27 q.2) conj0)) fun h => gT h (fun c h => gL h) fun c h => gC h 23 (ih.2.2 _ _ _ _ _ _ _ _ _ _ _ _ _)) fun c h => gN1 h id fun h => gU2 h (.leaf (.tup [.r (.v (Value.pointer none)), .r (.v (.int .i64 12))]) []) fun h => gC h 23 (ih.2.2 _ _ _ _ _ _ _ _ _ _ _ _ _)) fun c h => gC h 20 (ih.2.1 _ _ _ _ _ _ _ _ _)) (by kernel_rfl)
theorem of_u26 (k : Nat) (l_ : List (T5).T) (web_ : T19.T) (r : R_u26) (h : f_u26 k l_ web_ = some r) : C_u26 l_ web_ r := by
  refine CC.of (fn := Tryz.f31) (by kernel_rfl) (by kernel_rfl) (by kernel_rfl) (by kernel_rfl) ?_
  unfold f_u26 at h
  exact go (K_u26 k) [] cs_u26 [.autoB [4, 5] true []] (gT h (fun c h => gL h) fun c h => gT h (fun c h => gL h) fun c h => gC h 8 ((ev_u26 k l_ web_ k).1 _ _ _ _ _ _ _ _ _ _)) (by kernel_rfl)
theorem cc_u26 {k : Nat} {l_ : List (T5).T} {web_ : T19.T} (h : (f_u26 k l_ web_).isSome = true) : C_u26 l_ web_ (v_u26 k l_ web_) := ccG (Φ := C_u26 l_ web_) h (of_u26 k l_ web_)
theorem ccA_u26 {k : Nat} {l_ : List (T5).T} {web_ : T19.T} (h : (f_u26 k l_ web_).isSome = true) (hb : (v_u26 k l_ web_).isLeft = true) : CA_u26 l_ web_ (vA_u26 k l_ web_) := ccAG (Φ := C_u26 l_ web_) (cc_u26 h) hb
theorem ccB_u26 {k : Nat} {l_ : List (T5).T} {web_ : T19.T} (h : (f_u26 k l_ web_).isSome = true) (hb : (v_u26 k l_ web_).isLeft = false) : CB_u26 l_ web_ (vB_u26 k l_ web_) := ccBG (Φ := C_u26 l_ web_) (cc_u26 h) hb
abbrev R_u24 : Type := Int
def res_u24 (r : R_u24) : AV := .r (.v (.int .i64 r))
def bo_u24 (l_ : List (T5).T) (width_ : Int) (length_ : Int) (r : R_u24) : List (Nat × Blk) := []
def args_u24 (l_ : List (T5).T) (width_ : Int) (length_ : Int) : List AV := [.r (.ro T5 l_), .r (.v (.int .i64 width_)), .r (.v (.int .i64 length_))]
def bin_u24 (l_ : List (T5).T) (width_ : Int) (length_ : Int) : List Blk := []
abbrev C_u24 (l_ : List (T5).T) (width_ : Int) (length_ : Int) (r : R_u24) : Prop := CC Tryz.prog 12 (args_u24 l_ width_ length_) (bin_u24 l_ width_ length_) (res_u24 r) (bo_u24 l_ width_ length_ r)
def f_u24 (k : Nat) (l_ : List (T5).T) (width_ : Int) (length_ : Int) : Option R_u24 :=
  bif (Sum.isLeft (v_u26 k l_ (width_, length_))) then
  if ((f_u26 k l_ (width_, length_)).isSome = true) then
  some (vA_u26 k l_ (width_, length_))
  else none
  else
  if ((f_u26 k l_ (width_, length_)).isSome = true) then
  some ((vB_u26 k l_ (width_, length_)).1)
  else none
def v_u24 (k : Nat) (l_ : List (T5).T) (width_ : Int) (length_ : Int) : R_u24 := (f_u24 k l_ width_ length_).getD 0
def ke_u24 (k : Nat) : Ke := (12, fun xs => match xs with
  | [_, _, _] => some [false, false, false]
  | _ => none, fun xs bs => match xs, bs with
  | [.r (.ro tl__ ql_), .r (.v (.int .i64 width_)), .r (.v (.int .i64 length_))], [] => (castL tl__ T5 ql_).bind fun l_ => some (.one (res_u24 (v_u24 k l_ width_ length_), bo_u24 l_ width_ length_ (v_u24 k l_ width_ length_)))
  | _, _ => none)
theorem of_u24 (k : Nat) (l_ : List (T5).T) (width_ : Int) (length_ : Int) (r : R_u24) (h : f_u24 k l_ width_ length_ = some r) : C_u24 l_ width_ length_ r := by
  refine CC.of (fn := Tryz.f12) (by kernel_rfl) (by kernel_rfl) (by kernel_rfl) (by kernel_rfl) ?_
  unfold f_u24 at h
  exact go (mkK [ke_u26 k]) [] [] [.autoB [6] true []] (gT h (fun c h => gN1 h (fun q => ccA_u26 q (by assumption)) fun h => gL h) fun c h => gN1 h (fun q => ccB_u26 q (by assumption)) fun h => gL h) (by kernel_rfl)
theorem cc_u24 {k : Nat} {l_ : List (T5).T} {width_ : Int} {length_ : Int} (h : (f_u24 k l_ width_ length_).isSome = true) : C_u24 l_ width_ length_ (v_u24 k l_ width_ length_) := ccG (Φ := C_u24 l_ width_ length_) h (of_u24 k l_ width_ length_)
abbrev R_u18 : Type := Int
def res_u18 (r : R_u18) : AV := .r (.v (.int .i64 r))
def bo_u18 (r_ : T5.T) (r : R_u18) : List (Nat × Blk) := []
def args_u18 (r_ : T5.T) : List AV := [.agg (rvs (enc T5 r_))]
def bin_u18 (r_ : T5.T) : List Blk := []
abbrev C_u18 (r_ : T5.T) (r : R_u18) : Prop := CC Tryz.prog 76 (args_u18 r_) (bin_u18 r_) (res_u18 r) (bo_u18 r_ r)
def f_u18 (k : Nat) (r_ : T5.T) : Option R_u18 :=
  if ((f_u36 k r_.2.2.2.2.2).isSome = true) then
  some ((v_u36 k r_.2.2.2.2.2).1)
  else none
def v_u18 (k : Nat) (r_ : T5.T) : R_u18 := (f_u18 k r_).getD 0
def ke_u18 (k : Nat) : Ke := (76, fun xs => match xs with
  | [_] => some [false]
  | _ => none, fun xs bs => match xs, bs with
  | [.agg qr_], [] => (decS [] T5 qr_).bind fun r_ => some (.one (res_u18 (v_u18 k r_), bo_u18 r_ (v_u18 k r_)))
  | _, _ => none)
theorem of_u18 (k : Nat) (r_ : T5.T) (r : R_u18) (h : f_u18 k r_ = some r) : C_u18 r_ r := by
  refine CC.of (fn := Tryz.f76) (by kernel_rfl) (by kernel_rfl) (by kernel_rfl) (by kernel_rfl) ?_
  unfold f_u18 at h
  exact go (mkK [ke_u36 k]) [] [] [.autoB [2] true []] (gN1 h (fun q => cc_u36 q) fun h => gL h) (by kernel_rfl)
theorem cc_u18 {k : Nat} {r_ : T5.T} (h : (f_u18 k r_).isSome = true) : C_u18 r_ (v_u18 k r_) := ccG (Φ := C_u18 r_) h (of_u18 k r_)
abbrev R_u19 : Type := Int
def res_u19 (r : R_u19) : AV := .r (.v (.int .i64 r))
def bo_u19 (r_ : T5.T) (r : R_u19) : List (Nat × Blk) := []
def args_u19 (r_ : T5.T) : List AV := [.agg (rvs (enc T5 r_))]
def bin_u19 (r_ : T5.T) : List Blk := []
abbrev C_u19 (r_ : T5.T) (r : R_u19) : Prop := CC Tryz.prog 77 (args_u19 r_) (bin_u19 r_) (res_u19 r) (bo_u19 r_ r)
def st_u19_3 (y0 : Int) (y1 : List (T3).T) (y2 : Int) (y3 : Int) : St := ⟨mkS 30 [(3, .r (.v (.int .i64 y0))), (8, .r (.ro T3 y1)), (9, .r (.v (.int .i64 y2))), (10, .r (.v (.int .i64 y3)))], []⟩
def f_u19_3 (k : Nat) : Nat → Int → List (T3).T → Int → Int → Option R_u19
  | 0, _, _, _, _ => none
  | j + 1, y0, y1, y2, y3 =>
  bif (decide (y3 < y2)) then
  if (0 ≤ y3) ∧ (y3 < (↑y1.length : Int)) then
  bif (y1.getD y3.toNat T3.dflt).2.2 then
  f_u19_3 k j ((if IntKind.i64.wrap (IntKind.i64.wrap ((y1.getD y3.toNat T3.dflt).1 - (y1.getD y3.toNat T3.dflt).2.1) + 1) < if (y1.getD y3.toNat T3.dflt).1 < y0 then (y1.getD y3.toNat T3.dflt).1 else y0 then IntKind.i64.wrap (IntKind.i64.wrap ((y1.getD y3.toNat T3.dflt).1 - (y1.getD y3.toNat T3.dflt).2.1) + 1) else if (y1.getD y3.toNat T3.dflt).1 < y0 then (y1.getD y3.toNat T3.dflt).1 else y0)) y1 y2 ((IntKind.i64.wrap (y3 + 1)))
  else
  f_u19_3 k j ((if (y1.getD y3.toNat T3.dflt).1 < y0 then (y1.getD y3.toNat T3.dflt).1 else y0)) y1 y2 ((IntKind.i64.wrap (y3 + 1)))
  else none
  else
  some y0
def f_u19 (k : Nat) (r_ : T5.T) : Option R_u19 :=
  f_u19_3 k k 17179869184 r_.2.2.2.2.2 ((↑ (List.length r_.2.2.2.2.2) : Int)) 0
def v_u19 (k : Nat) (r_ : T5.T) : R_u19 := (f_u19 k r_).getD 0
def ke_u19 (k : Nat) : Ke := (77, fun xs => match xs with
  | [_] => some [false]
  | _ => none, fun xs bs => match xs, bs with
  | [.agg qr_], [] => (decS [] T5 qr_).bind fun r_ => some (.one (res_u19 (v_u19 k r_), bo_u19 r_ (v_u19 k r_)))
  | _, _ => none)
def cs_u19 : List (Nat × List Cmd) := [(3, [.autoB [3, 8, 9, 10] false []])]
abbrev E_u19 (r_ : T5.T) (todo : List Item) (st : St) (o : Option R_u19) : Prop := ∀ r, o = some r → Ev Tryz.prog Tryz.f77 0 todo st (res_u19 r) (bo_u19 r_ r)
theorem ev_u19 (k : Nat) (r_ : T5.T) : ∀ j, (∀ (y0 : Int) (y1 : List (T3).T) (y2 : Int) (y3 : Int), E_u19 r_ (placeAt Tryz.f77 3) (st_u19_3 y0 y1 y2 y3) (f_u19_3 k j y0 y1 y2 y3))
  | 0 => fun _ _ _ _ _ h => (nomatch h)
  | j + 1 => by
    have ih := @ev_u19 k r_ j
    · intro y0 y1 y2 y3 r h
      rw [f_u19_3] at h
      exact go (mkK []) [] cs_u19 [.autoB [2] true []] (gT h (fun c h => gN2 h fun h => gT h (fun c h => gC h 3 (ih _ _ _ _ _)) fun c h => gC h 3 (ih _ _ _ _ _)) fun c h => gL h) (by kernel_rfl)
theorem of_u19 (k : Nat) (r_ : T5.T) (r : R_u19) (h : f_u19 k r_ = some r) : C_u19 r_ r := by
  refine CC.of (fn := Tryz.f77) (by kernel_rfl) (by kernel_rfl) (by kernel_rfl) (by kernel_rfl) ?_
  unfold f_u19 at h
  exact go (mkK []) [] cs_u19 [.autoB [2] true []] (gC h 3 ((ev_u19 k r_ k) _ _ _ _ _)) (by kernel_rfl)
theorem cc_u19 {k : Nat} {r_ : T5.T} (h : (f_u19 k r_).isSome = true) : C_u19 r_ (v_u19 k r_) := ccG (Φ := C_u19 r_) h (of_u19 k r_)
abbrev R_u10 : Type := Int
def res_u10 (r : R_u10) : AV := .r (.v (.int .i64 r))
def bo_u10 (b_ : T17.T) (b_22 : List (T18).T) (scrapped_ : List ((I).T × (RTy.bool).T)) (r : R_u10) : List (Nat × Blk) := [(0, .var 140 (rvs (enc T17 b_) ++ [.own 1 0])), (0, .row 54 T18 b_22), (0, .map false I RTy.bool scrapped_)]
def args_u10 (b_ : T17.T) (b_22 : List (T18).T) (scrapped_ : List ((I).T × (RTy.bool).T)) : List AV := [.ptr 0 0 0, .own 2 0]
def bin_u10 (b_ : T17.T) (b_22 : List (T18).T) (scrapped_ : List ((I).T × (RTy.bool).T)) : List Blk := [.var 140 (rvs (enc T17 b_) ++ [.own 1 0]), .row 54 T18 b_22, .map false I RTy.bool scrapped_]
abbrev C_u10 (b_ : T17.T) (b_22 : List (T18).T) (scrapped_ : List ((I).T × (RTy.bool).T)) (r : R_u10) : Prop := CC Tryz.prog 78 (args_u10 b_ b_22 scrapped_) (bin_u10 b_ b_22 scrapped_) (res_u10 r) (bo_u10 b_ b_22 scrapped_ r)
def st_u10_3 (b_ : T17.T) (b_22 : List (T18).T) (scrapped_ : List ((I).T × (RTy.bool).T)) (y0 : Int) (y1 : List (T5).T) (y2 : Int) (y3 : Int) : St := ⟨mkS 67 [(0, .ptr 0 0 0), (1, .own 2 0), (5, .r (.v (.int .i64 y0))), (15, .r (.ro T5 y1)), (16, .r (.v (.int .i64 y2))), (17, .r (.v (.int .i64 y3)))], [(0, 0, .var 140 (rvs (enc T17 b_) ++ [.own 1 0])), (1, 0, .row 54 T18 b_22), (2, 0, .map false I RTy.bool scrapped_)]⟩
def st_u10_10 (b_ : T17.T) (b_22 : List (T18).T) (scrapped_ : List ((I).T × (RTy.bool).T)) (y0 : Int) (y1 : List (T14).T) (y2 : Int) (y3 : Int) : St := ⟨mkS 67 [(5, .r (.v (.int .i64 y0))), (53, .r (.ro T14 y1)), (54, .r (.v (.int .i64 y2))), (55, .r (.v (.int .i64 y3)))], [(0, 0, .var 140 (rvs (enc T17 b_) ++ [.own 1 0])), (1, 0, .row 54 T18 b_22), (2, 0, .map false I RTy.bool scrapped_)]⟩
mutual
def f_u10_3 (k : Nat) (b_ : T17.T) (b_22 : List (T18).T) (scrapped_ : List ((I).T × (RTy.bool).T)) : Nat → Int → List (T5).T → Int → Int → Option R_u10
  | 0, _, _, _, _ => none
  | j + 1, y0, y1, y2, y3 =>
  bif (decide (y3 < y2)) then
  if (0 ≤ y3) ∧ (y3 < (↑y1.length : Int)) then
  if ((f_u18 k (y1.getD y3.toNat T5.dflt)).isSome = true) then
  bif (! (mget I (y1.getD y3.toNat T5.dflt).1 scrapped_).getD false) then
  if (0 ≤ y3) ∧ (y3 < (↑ (List.length b_.2.2.2.2.2.2.2.2.2.2.2.2.1) : Int)) then
  f_u10_3 k b_ b_22 scrapped_ j ((IntKind.i64.wrap (y0 + IntKind.i64.wrap ((y1.getD y3.toNat T5.dflt).2.2.2.1 * IntKind.i64.wrap (v_u18 k (y1.getD y3.toNat T5.dflt) - if (if v_u18 k (y1.getD y3.toNat T5.dflt) < List.getD b_.2.2.2.2.2.2.2.2.2.2.2.2.1 y3.toNat I.dflt then v_u18 k (y1.getD y3.toNat T5.dflt) else List.getD b_.2.2.2.2.2.2.2.2.2.2.2.2.1 y3.toNat I.dflt) > 0 then if v_u18 k (y1.getD y3.toNat T5.dflt) < List.getD b_.2.2.2.2.2.2.2.2.2.2.2.2.1 y3.toNat I.dflt then v_u18 k (y1.getD y3.toNat T5.dflt) else List.getD b_.2.2.2.2.2.2.2.2.2.2.2.2.1 y3.toNat I.dflt else 0))))) y1 y2 ((IntKind.i64.wrap (y3 + 1)))
  else none
  else
  f_u10_3 k b_ b_22 scrapped_ j y0 y1 y2 ((IntKind.i64.wrap (y3 + 1)))
  else none
  else none
  else
  f_u10_10 k b_ b_22 scrapped_ j y0 b_.2.2.2.2.2.2.2.2.2.2.2.2.2.2.2.2.2.2.2.2.1 ((↑ (List.length b_.2.2.2.2.2.2.2.2.2.2.2.2.2.2.2.2.2.2.2.2.1) : Int)) 0
def f_u10_10 (k : Nat) (b_ : T17.T) (b_22 : List (T18).T) (scrapped_ : List ((I).T × (RTy.bool).T)) : Nat → Int → List (T14).T → Int → Int → Option R_u10
  | 0, _, _, _, _ => none
  | j + 1, y0, y1, y2, y3 =>
  bif (decide (y3 < y2)) then
  if (0 ≤ y3) ∧ (y3 < (↑y1.length : Int)) then
  f_u10_10 k b_ b_22 scrapped_ j ((IntKind.i64.wrap (y0 + if (if 206158430208000 < (y1.getD y3.toNat T14.dflt).2.2.2 then 206158430208000 else (y1.getD y3.toNat T14.dflt).2.2.2) > 0 then if 206158430208000 < (y1.getD y3.toNat T14.dflt).2.2.2 then 206158430208000 else (y1.getD y3.toNat T14.dflt).2.2.2 else 0))) y1 y2 ((IntKind.i64.wrap (y3 + 1)))
  else none
  else
  some y0
end
def f_u10 (k : Nat) (b_ : T17.T) (b_22 : List (T18).T) (scrapped_ : List ((I).T × (RTy.bool).T)) : Option R_u10 :=
  f_u10_3 k b_ b_22 scrapped_ k 0 b_.2.2.2.2.2.2.2.2.2.2.2.1 ((↑ (List.length b_.2.2.2.2.2.2.2.2.2.2.2.1) : Int)) 0
def v_u10 (k : Nat) (b_ : T17.T) (b_22 : List (T18).T) (scrapped_ : List ((I).T × (RTy.bool).T)) : R_u10 := (f_u10 k b_ b_22 scrapped_).getD 0
def ke_u10 (k : Nat) : Ke := (78, fun xs => match xs with
  | [.ptr _ _ _, .own _ _] => some [true, true, true, true, true]
  | _ => none, fun xs bs => match xs, bs with
  | [.ptr 0 0 0, .own 2 0], [.var 140 qb_, .row 54 tb_22_ qb_22, .map false kscrapped__ tscrapped__ qscrapped_] => (decS [] T17 (qb_.take 22)).bind fun b_ => (castL tb_22_ T18 qb_22).bind fun b_22 => (castM kscrapped__ tscrapped__ I RTy.bool qscrapped_).bind fun scrapped_ => some (.one (res_u10 (v_u10 k b_ b_22 scrapped_), bo_u10 b_ b_22 scrapped_ (v_u10 k b_ b_22 scrapped_)))
  | _, _ => none)
def cs_u10 : List (Nat × List Cmd) := [(3, [.autoB [0, 1, 5, 15, 16, 17] false []]), (10, [.autoB [5, 53, 54, 55] false []])]
abbrev E_u10 (b_ : T17.T) (b_22 : List (T18).T) (scrapped_ : List ((I).T × (RTy.bool).T)) (todo : List Item) (st : St) (o : Option R_u10) : Prop := ∀ r, o = some r → Ev Tryz.prog Tryz.f78 3 todo st (res_u10 r) (bo_u10 b_ b_22 scrapped_ r)
theorem ev_u10 (k : Nat) (b_ : T17.T) (b_22 : List (T18).T) (scrapped_ : List ((I).T × (RTy.bool).T)) : ∀ j, (∀ (y0 : Int) (y1 : List (T5).T) (y2 : Int) (y3 : Int), E_u10 b_ b_22 scrapped_ (placeAt Tryz.f78 3) (st_u10_3 b_ b_22 scrapped_ y0 y1 y2 y3) (f_u10_3 k b_ b_22 scrapped_ j y0 y1 y2 y3)) ∧ (∀ (y0 : Int) (y1 : List (T14).T) (y2 : Int) (y3 : Int), E_u10 b_ b_22 scrapped_ (placeAt Tryz.f78 10) (st_u10_10 b_ b_22 scrapped_ y0 y1 y2 y3) (f_u10_10 k b_ b_22 scrapped_ j y0 y1 y2 y3))
  | 0 => ⟨fun _ _ _ _ _ h => (nomatch h), fun _ _ _ _ _ h => (nomatch h)⟩
  | j + 1 => by
    have ih := @ev_u10 k b_ b_22 scrapped_ j
    refine ⟨?_, ?_⟩
    · intro y0 y1 y2 y3 r h
      rw [f_u10_3] at h
      exact go (mkK [ke_u18 k]) [] cs_u10 [.autoB [4] true []] (gT h (fun c h => gN2 h fun h => gN1 h (fun q => cc_u18 q) fun h => gT h (fun c h => gN2 h fun h => gC h 3 (ih.1 _ _ _ _ _)) fun c h => gC h 3 (ih.1 _ _ _ _ _)) fun c h => gC h 10 (ih.2 _ _ _ _ _)) (by kernel_rfl)
    · intro y0 y1 y2 y3 r h
      rw [f_u10_10] at h
      exact go (mkK [ke_u18 k]) [] cs_u10 [.autoB [4] true []] (gT h (fun c h => gN2 h fun h => gC h 10 (ih.2 _ _ _ _ _)) fun c h => gL h) (by kernel_rfl)
theorem of_u10 (k : Nat) (b_ : T17.T) (b_22 : List (T18).T) (scrapped_ : List ((I).T × (RTy.bool).T)) (r : R_u10) (h : f_u10 k b_ b_22 scrapped_ = some r) : C_u10 b_ b_22 scrapped_ r := by
  refine CC.of (fn := Tryz.f78) (by kernel_rfl) (by kernel_rfl) (by kernel_rfl) (by kernel_rfl) ?_
  unfold f_u10 at h
  exact go (mkK [ke_u18 k]) [] cs_u10 [.autoB [4] true []] (gC h 3 ((ev_u10 k b_ b_22 scrapped_ k).1 _ _ _ _ _)) (by kernel_rfl)
theorem cc_u10 {k : Nat} {b_ : T17.T} {b_22 : List (T18).T} {scrapped_ : List ((I).T × (RTy.bool).T)} (h : (f_u10 k b_ b_22 scrapped_).isSome = true) : C_u10 b_ b_22 scrapped_ (v_u10 k b_ b_22 scrapped_) := ccG (Φ := C_u10 b_ b_22 scrapped_) h (of_u10 k b_ b_22 scrapped_)
abbrev R_u14 : Type := T17.T × List (T18).T
def res_u14 (r : R_u14) : AV := .tup []
def bo_u14 (t_ : T17.T) (t_22 : List (T18).T) (r : R_u14) : List (Nat × Blk) := [(0, .var 140 ((rvs (enc T17 r.1)) ++ [.own 1 1])), (1, .row 54 T18 r.2)]
def args_u14 (t_ : T17.T) (t_22 : List (T18).T) : List AV := [.ptr 0 0 0]
def bin_u14 (t_ : T17.T) (t_22 : List (T18).T) : List Blk := [.var 140 (rvs (enc T17 t_) ++ [.own 1 0]), .row 54 T18 t_22]
abbrev C_u14 (t_ : T17.T) (t_22 : List (T18).T) (r : R_u14) : Prop := CC Tryz.prog 35 (args_u14 t_ t_22) (bin_u14 t_ t_22) (res_u14 r) (bo_u14 t_ t_22 r)
def st_u14_6 (t_ : T17.T) (t_22 : List (T18).T) (y0 : List (T5).T) (y1 : Int) (y2 : Int) (y3 : T17.T) (y4 : List (T18).T) : St := ⟨mkS 209 [(0, .ptr 0 0 0), (56, .r (.ro T5 y0)), (57, .r (.v (.int .i64 y1))), (58, .r (.v (.int .i64 y2)))], [(0, 0, .var 140 ((rvs (enc T17 y3)) ++ [.own 1 1])), (1, 1, .row 54 T18 y4)]⟩
def st_u14_11 (t_ : T17.T) (t_22 : List (T18).T) (y0 : Int) (y1 : Int) (y2 : Bool) (y3 : List (T5).T) (y4 : Int) (y5 : Int) (y6 : List (T5).T) (y7 : Int) (y8 : Int) (y9 : T17.T) (y10 : List (T18).T) (y11 : T5.T) : St := ⟨mkS 209 [(0, .ptr 0 0 0), (3, .r (.v (.int .i64 y0))), (4, .ptr 1000000 0 0), (5, .r (.v (.int .i64 y1))), (6, .r (.v (.bool y2))), (56, .r (.ro T5 y3)), (57, .r (.v (.int .i64 y4))), (58, .r (.v (.int .i64 y5))), (90, .r (.ro T5 y6)), (91, .r (.v (.int .i64 y7))), (92, .r (.v (.int .i64 y8)))], [(0, 0, .var 140 ((rvs (enc T17 y9)) ++ [.own 1 1])), (1, 1, .row 54 T18 y10), (1000000, 0, .var 47 (rvs (enc T5 y11)))]⟩
def st_u14_20 (t_ : T17.T) (t_22 : List (T18).T) (y0 : List (T5).T) (y1 : Int) (y2 : Int) (y3 : T17.T) (y4 : List (T18).T) (y5 : List ((I).T × (RTy.bool).T)) : St := ⟨mkS 209 [(0, .ptr 0 0 0), (9, .own 1000000 0), (132, .r (.ro T5 y0)), (133, .r (.v (.int .i64 y1))), (134, .r (.v (.int .i64 y2)))], [(0, 0, .var 140 ((rvs (enc T17 y3)) ++ [.own 1 1])), (1, 1, .row 54 T18 y4), (1000000, 0, .map false I RTy.bool y5)]⟩
def st_u14_26 (t_ : T17.T) (t_22 : List (T18).T) (y0 : List (I).T) (y1 : Int) (y2 : Int) (y3 : T17.T) (y4 : List (T18).T) (y5 : List ((I).T × (RTy.bool).T)) (y6 : List ((I).T × (RTy.bool).T)) : St := ⟨mkS 209 [(0, .ptr 0 0 0), (9, .own 1000000 0), (12, .own 1000001 0), (147, .r (.ro I y0)), (148, .r (.v (.int .i64 y1))), (149, .r (.v (.int .i64 y2)))], [(0, 0, .var 140 ((rvs (enc T17 y3)) ++ [.own 1 1])), (1, 1, .row 54 T18 y4), (1000000, 0, .map false I RTy.bool y5), (1000001, 0, .map false I RTy.bool y6)]⟩
mutual
def f_u14_6 (k : Nat) (t_ : T17.T) (t_22 : List (T18).T) : Nat → List (T5).T → Int → Int → T17.T → List (T18).T → Option R_u14
  | 0, _, _, _, _, _ => none
  | j + 1, y0, y1, y2, y3, y4 =>
  bif (decide (y2 < y1)) then
  if (0 ≤ y2) ∧ (y2 < (↑y0.length : Int)) then
  if ((f_u18 k (y0.getD y2.toNat T5.dflt)).isSome = true) then
  if (0 ≤ y2) ∧ (y2 < (↑ (List.length y3.2.2.2.2.2.2.2.2.2.2.2.2.1) : Int)) ∧ (decide (List.getD y3.2.2.2.2.2.2.2.2.2.2.2.2.1 y2.toNat I.dflt ≥ (0 : Int)) = true → 0 ≤ y2) ∧ (decide (List.getD y3.2.2.2.2.2.2.2.2.2.2.2.2.1 y2.toNat I.dflt ≥ (0 : Int)) = true → y2 < (↑ (List.length y3.2.2.2.2.2.2.2.2.2.2.2.2.1) : Int)) then
  f_u14_11 k t_ t_22 j y2 ((v_u18 k (y0.getD y2.toNat T5.dflt))) ((decide (List.getD y3.2.2.2.2.2.2.2.2.2.2.2.2.1 y2.toNat I.dflt ≥ 0) && decide (List.getD y3.2.2.2.2.2.2.2.2.2.2.2.2.1 y2.toNat I.dflt ≤ v_u18 k (y0.getD y2.toNat T5.dflt)))) y0 y1 y2 y3.2.2.2.2.2.2.2.2.2.2.2.1 ((↑ (List.length y3.2.2.2.2.2.2.2.2.2.2.2.1) : Int)) 0 y3 y4 ((y0.getD y2.toNat T5.dflt))
  else none
  else none
  else none
  else
  f_u14_20 k t_ t_22 j y3.2.2.2.2.2.2.2.2.2.2.2.1 ((↑ (List.length y3.2.2.2.2.2.2.2.2.2.2.2.1) : Int)) 0 y3 y4 ([])
def f_u14_11 (k : Nat) (t_ : T17.T) (t_22 : List (T18).T) : Nat → Int → Int → Bool → List (T5).T → Int → Int → List (T5).T → Int → Int → T17.T → List (T18).T → T5.T → Option R_u14
  | 0, _, _, _, _, _, _, _, _, _, _, _, _ => none
  | j + 1, y0, y1, y2, y3, y4, y5, y6, y7, y8, y9, y10, y11 =>
  bif (decide (y8 < y7)) then
  if (0 ≤ y8) ∧ (y8 < (↑y6.length : Int)) then
  bif y2 then
  bif ((y6.getD y8.toNat T5.dflt).2.1 != y11.1) then
  if (y2 = true) ∧ (((y6.getD y8.toNat T5.dflt).2.1 != y11.1) = true) then
  f_u14_11 k t_ t_22 j y0 y1 ((true && true)) y3 y4 y5 y6 y7 ((IntKind.i64.wrap (y8 + 1))) y9 y10 y11
  else none
  else
  if (y2 = true) ∧ (((y6.getD y8.toNat T5.dflt).2.1 != y11.1) = false) ∧ ((f_u19 k (y6.getD y8.toNat T5.dflt)).isSome = true) ∧ (0 ≤ y0) ∧ (y0 < (↑ (List.length y9.2.2.2.2.2.2.2.2.2.2.2.2.1) : Int)) then
  f_u14_11 k t_ t_22 j y0 y1 ((true && (false || decide (v_u19 k (y6.getD y8.toNat T5.dflt) ≥ IntKind.i64.wrap (y1 - List.getD y9.2.2.2.2.2.2.2.2.2.2.2.2.1 y0.toNat I.dflt))))) y3 y4 y5 y6 y7 ((IntKind.i64.wrap (y8 + 1))) y9 y10 y11
  else none
  else
  if (y2 = false) then
  f_u14_11 k t_ t_22 j y0 y1 false y3 y4 y5 y6 y7 ((IntKind.i64.wrap (y8 + 1))) y9 y10 y11
  else none
  else none
  else
  bif (!y2) then
  if ((f_u11 k y9 y10 3 y11.1 1).isSome = true) then
  f_u14_6 k t_ t_22 j y3 y4 ((IntKind.i64.wrap (y5 + 1))) ((v_u11 k y9 y10 3 y11.1 1).1) ((v_u11 k y9 y10 3 y11.1 1).2)
  else none
  else
  f_u14_6 k t_ t_22 j y3 y4 ((IntKind.i64.wrap (y5 + 1))) y9 y10
def f_u14_20 (k : Nat) (t_ : T17.T) (t_22 : List (T18).T) : Nat → List (T5).T → Int → Int → T17.T → List (T18).T → (List ((I).T × (RTy.bool).T)) → Option R_u14
  | 0, _, _, _, _, _, _ => none
  | j + 1, y0, y1, y2, y3, y4, y5 =>
  bif (decide (y2 < y1)) then
  if (0 ≤ y2) ∧ (y2 < (↑y0.length : Int)) then
  f_u14_20 k t_ t_22 j y0 y1 ((IntKind.i64.wrap (y2 + 1))) y3 y4 ((mset I (y0.getD y2.toNat T5.dflt).1 true y5))
  else none
  else
  f_u14_26 k t_ t_22 j y3.2.2.2.2.2.2.2.2.2.2.2.2.2.1 ((↑ (List.length y3.2.2.2.2.2.2.2.2.2.2.2.2.2.1) : Int)) 0 y3 y4 y5 ([])
def f_u14_26 (k : Nat) (t_ : T17.T) (t_22 : List (T18).T) : Nat → List (I).T → Int → Int → T17.T → List (T18).T → (List ((I).T × (RTy.bool).T)) → (List ((I).T × (RTy.bool).T)) → Option R_u14
  | 0, _, _, _, _, _, _, _ => none
  | j + 1, y0, y1, y2, y3, y4, y5, y6 =>
  bif (decide (y2 < y1)) then
  if (0 ≤ y2) ∧ (y2 < (↑y0.length : Int)) then
  bif (! (mget I (y0.getD y2.toNat I.dflt) y5).getD false || (mget I (y0.getD y2.toNat I.dflt) y6).getD false) then
  if ((f_u11 k y3 y4 3 (y0.getD y2.toNat I.dflt) 2).isSome = true) then
  f_u14_26 k t_ t_22 j y0 y1 ((IntKind.i64.wrap (y2 + 1))) ((v_u11 k y3 y4 3 (y0.getD y2.toNat I.dflt) 2).1) ((v_u11 k y3 y4 3 (y0.getD y2.toNat I.dflt) 2).2) y5 ((mset I (y0.getD y2.toNat I.dflt) true y6))
  else none
  else
  f_u14_26 k t_ t_22 j y0 y1 ((IntKind.i64.wrap (y2 + 1))) y3 y4 y5 ((mset I (y0.getD y2.toNat I.dflt) true y6))
  else none
  else
  bif (decide (y3.2.2.2.1 < (0 : Int)) || decide (y3.2.2.2.1 > y3.2.2.1)) then
  if ((f_u11 k y3 y4 3 0 3).isSome = true) then
  some (((v_u11 k y3 y4 3 0 3).1, (v_u11 k y3 y4 3 0 3).2))
  else none
  else
  if ((f_u10 k y3 y4 y6).isSome = true) then
  bif (IntKind.i64.wrap (v_u10 k y3 y4 y6 - IntKind.i64.wrap (y3.2.1 * y3.2.2.2.1)) != (0 : Int)) then
  if ((f_u11 k y3 y4 4 (IntKind.i64.wrap (v_u10 k y3 y4 y6 - IntKind.i64.wrap (y3.2.1 * y3.2.2.2.1))) 0).isSome = true) then
  some (((v_u11 k y3 y4 4 (IntKind.i64.wrap (v_u10 k y3 y4 y6 - IntKind.i64.wrap (y3.2.1 * y3.2.2.2.1))) 0).1, (v_u11 k y3 y4 4 (IntKind.i64.wrap (v_u10 k y3 y4 y6 - IntKind.i64.wrap (y3.2.1 * y3.2.2.2.1))) 0).2))
  else none
  else
  some ((y3, y4))
  else none
end
def f_u14 (k : Nat) (t_ : T17.T) (t_22 : List (T18).T) : Option R_u14 :=
  if ((f_u24 k t_.2.2.2.2.2.2.2.2.2.2.2.1 t_.2.1 t_.2.2.1).isSome = true) then
  bif (v_u24 k t_.2.2.2.2.2.2.2.2.2.2.2.1 t_.2.1 t_.2.2.1 != (0 : Int)) then
  if ((f_u11 k t_ t_22 3 0 (v_u24 k t_.2.2.2.2.2.2.2.2.2.2.2.1 t_.2.1 t_.2.2.1)).isSome = true) then
  some (((v_u11 k t_ t_22 3 0 (v_u24 k t_.2.2.2.2.2.2.2.2.2.2.2.1 t_.2.1 t_.2.2.1)).1, (v_u11 k t_ t_22 3 0 (v_u24 k t_.2.2.2.2.2.2.2.2.2.2.2.1 t_.2.1 t_.2.2.1)).2))
  else none
  else
  bif ((↑ (List.length t_.2.2.2.2.2.2.2.2.2.2.2.2.1) : Int) != (↑ (List.length t_.2.2.2.2.2.2.2.2.2.2.2.1) : Int)) then
  if ((f_u11 k t_ t_22 3 0 0).isSome = true) then
  some (((v_u11 k t_ t_22 3 0 0).1, (v_u11 k t_ t_22 3 0 0).2))
  else none
  else
  f_u14_6 k t_ t_22 k t_.2.2.2.2.2.2.2.2.2.2.2.1 ((↑ (List.length t_.2.2.2.2.2.2.2.2.2.2.2.1) : Int)) 0 t_ t_22
  else none
def v_u14 (k : Nat) (t_ : T17.T) (t_22 : List (T18).T) : R_u14 := (f_u14 k t_ t_22).getD ((T17).dflt, [])
def ke_u14 (k : Nat) : Ke := (35, fun xs => match xs with
  | [.ptr _ _ _] => some [true]
  | _ => none, fun xs bs => match xs, bs with
  | [.ptr 0 0 0], [.var 140 qt_, .row 54 tt_22_ qt_22] => (decS [] T17 (qt_.take 22)).bind fun t_ => (castL tt_22_ T18 qt_22).bind fun t_22 => some (.one (res_u14 (v_u14 k t_ t_22), bo_u14 t_ t_22 (v_u14 k t_ t_22)))
  | _, _ => none)
def K_u14 (k : Nat) : Calld := mkK [ke_u24 k, ke_u11 k, ke_u18 k, ke_u19 k, ke_u10 k]
def cs_u14 : List (Nat × List Cmd) := [(6, [.autoB [0, 56, 57, 58] false [1]]), (11, [.autoB [0, 3, 4, 5, 6, 56, 57, 58, 90, 91, 92] false [1]]), (20, [.autoB [0, 9, 132, 133, 134] false [1]]), (26, [.autoB [0, 9, 12, 147, 148, 149] false [1]])]
abbrev E_u14 (t_ : T17.T) (t_22 : List (T18).T) (todo : List Item) (st : St) (o : Option R_u14) : Prop := ∀ r, o = some r → Ev Tryz.prog Tryz.f35 2 todo st (res_u14 r) (bo_u14 t_ t_22 r)
theorem ev_u14 (k : Nat) (t_ : T17.T) (t_22 : List (T18).T) : ∀ j, (∀ (y0 : List (T5).T) (y1 : Int) (y2 : Int) (y3 : T17.T) (y4 : List (T18).T), E_u14 t_ t_22 (placeAt Tryz.f35 6) (st_u14_6 t_ t_22 y0 y1 y2 y3 y4) (f_u14_6 k t_ t_22 j y0 y1 y2 y3 y4)) ∧ (∀ (y0 : Int) (y1 : Int) (y2 : Bool) (y3 : List (T5).T) (y4 : Int) (y5 : Int) (y6 : List (T5).T) (y7 : Int) (y8 : Int) (y9 : T17.T) (y10 : List (T18).T) (y11 : T5.T), E_u14 t_ t_22 (placeAt Tryz.f35 11) (st_u14_11 t_ t_22 y0 y1 y2 y3 y4 y5 y6 y7 y8 y9 y10 y11) (f_u14_11 k t_ t_22 j y0 y1 y2 y3 y4 y5 y6 y7 y8 y9 y10 y11)) ∧ (∀ (y0 : List (T5).T) (y1 : Int) (y2 : Int) (y3 : T17.T) (y4 : List (T18).T) (y5 : List ((I).T × (RTy.bool).T)), E_u14 t_ t_22 (placeAt Tryz.f35 20) (st_u14_20 t_ t_22 y0 y1 y2 y3 y4 y5) (f_u14_20 k t_ t_22 j y0 y1 y2 y3 y4 y5)) ∧ (∀ (y0 : List (I).T) (y1 : Int) (y2 : Int) (y3 : T17.T) (y4 : List (T18).T) (y5 : List ((I).T × (RTy.bool).T)) (y6 : List ((I).T × (RTy.bool).T)), E_u14 t_ t_22 (placeAt Tryz.f35 26) (st_u14_26 t_ t_22 y0 y1 y2 y3 y4 y5 y6) (f_u14_26 k t_ t_22 j y0 y1 y2 y3 y4 y5 y6))
  | 0 => ⟨fun _ _ _ _ _ _ h => (nomatch h), fun _ _ _ _ _ _ _ _ _ _ _ _ _ h => (nomatch h), fun _ _ _ _ _ _ _ h => (nomatch h), fun _ _ _ _ _ _ _ _ h => (nomatch h)⟩
  | j + 1 => by
    have ih := @ev_u14 k t_ t_22 j
    refine ⟨?_, ?_, ?_, ?_⟩
    · intro y0 y1 y2 y3 y4 r h
      rw [f_u14_6] at h
      exact go (K_u14 k) [] cs_u14 [.autoB [] true [1]] (gT h (fun c h => gN2 h fun h => gN1 h (fun q => cc_u18 q) fun h => gN h (fun q => conjC q.1 (conjC q.2.1 (conjC q.2.2.1 (conjC q.2.2.2 conj0)))) fun h => gC h 11 (ih.2.1 _ _ _ _ _ _ _ _ _ _ _ _ _)) fun c h => gC h 20 (ih.2.2.1 _ _ _ _ _ _ _)) (by kernel_rfl)
    · intro y0 y1 y2 y3 y4 y5 y6 y7 y8 y9 y10 y11 r h
      rw [f_u14_11] at h
      exact go (K_u14 k) [] cs_u14 [.autoB [] true [1]] (gT h (fun c h => gN2 h fun h => gT h (fun c h => gT h (fun c h => gN2 h fun h => gC h 11 (ih.2.1 _ _ _ _ _ _ _ _ _ _ _ _ _)) fun c h => gN h (fun q => conjC q.1 (conjC q.2.1 (conjC (cc_u19 q.2.2.1) (conjC q.2.2.2.1 (conjC q.2.2.2.2 conj0))))) fun h => gC h 11 (ih.2.1 _ _ _ _ _ _ _ _ _ _ _ _ _)) fun c h => gN1 h id fun h => gC h 11 (ih.2.1 _ _ _ _ _ _ _ _ _ _ _ _ _)) fun c h => gT h (fun c h => gN1 h (fun q => cc_u11 q) fun h => gC h 6 (ih.1 _ _ _ _ _ _)) fun c h => gC h 6 (ih.1 _ _ _ _ _ _)) (by kernel_rfl)
    · intro y0 y1 y2 y3 y4 y5 r h
      rw [f_u14_20] at h
      exact go (K_u14 k) [] cs_u14 [.autoB [] true [1]] (gT h (fun c h => gN2 h fun h => gC h 20 (ih.2.2.1 _ _ _ _ _ _ _)) fun c h => gC h 26 (ih.2.2.2 _ _ _ _ _ _ _ _)) (by kernel_rfl)
    · intro y0 y1 y2 y3 y4 y5 y6 r h
      rw [f_u14_26] at h
      exact go (K_u14 k) [] cs_u14 [.autoB [] true [1]] (gT h (fun c h => gN2 h fun h => gT h (fun c h => gN1 h (fun q => cc_u11 q) fun h => gC h 26 (ih.2.2.2 _ _ _ _ _ _ _ _)) fun c h => gC h 26 (ih.2.2.2 _ _ _ _ _ _ _ _)) fun c h => gT h (fun c h => gN1 h (fun q => cc_u11 q) fun h => gL h) fun c h => gN h (fun q => conjC (⟨rfl, ⟨rfl, ⟨rfl, trivial⟩⟩⟩ : selfS (0, .var 140 ((rvs (enc T17 y3)) ++ [.own 1 1])) ∧ selfS (1, .row 54 T18 y4) ∧ selfS (0, .map false I RTy.bool y6) ∧ True) (conjC (cc_u10 q) conj0)) fun h => gT h (fun c h => gN1 h (fun q => cc_u11 q) fun h => gL h) fun c h => gL h) (by kernel_rfl)
theorem of_u14 (k : Nat) (t_ : T17.T) (t_22 : List (T18).T) (r : R_u14) (h : f_u14 k t_ t_22 = some r) : C_u14 t_ t_22 r := by
  refine CC.of (fn := Tryz.f35) (by kernel_rfl) (by kernel_rfl) (by kernel_rfl) (by kernel_rfl) ?_
  unfold f_u14 at h
  exact go (K_u14 k) [] cs_u14 [.autoB [] true [1]] (gN1 h (fun q => cc_u24 q) fun h => gT h (fun c h => gN1 h (fun q => cc_u11 q) fun h => gL h) fun c h => gT h (fun c h => gN1 h (fun q => cc_u11 q) fun h => gL h) fun c h => gC h 6 ((ev_u14 k t_ t_22 k).1 _ _ _ _ _ _)) (by kernel_rfl)
theorem cc_u14 {k : Nat} {t_ : T17.T} {t_22 : List (T18).T} (h : (f_u14 k t_ t_22).isSome = true) : C_u14 t_ t_22 (v_u14 k t_ t_22) := ccG (Φ := C_u14 t_ t_22) h (of_u14 k t_ t_22)
abbrev R_u4 : Type := T17.T
def res_u4 (r : R_u4) : AV := .sub 2 0 1 0 1
def bo_u4 (x_ : T17.T) (x_22 : List (T18).T) (r : R_u4) : List (Nat × Blk) := [(0, .var 140 ((rvs (enc T17 r)) ++ [.own 1 0])), (0, .row 54 T18 x_22), (0, .var 1 [.fn ((Fn.func 35)) [.ptr 0 0 0] []])]
def args_u4 (x_ : T17.T) (x_22 : List (T18).T) : List AV := [.ptr 0 0 0]
def bin_u4 (x_ : T17.T) (x_22 : List (T18).T) : List Blk := [.var 140 (rvs (enc T17 x_) ++ [.own 1 0]), .row 54 T18 x_22]
abbrev C_u4 (x_ : T17.T) (x_22 : List (T18).T) (r : R_u4) : Prop := CC Tryz.prog 34 (args_u4 x_ x_22) (bin_u4 x_ x_22) (res_u4 r) (bo_u4 x_ x_22 r)
def f_u4 (k : Nat) (x_ : T17.T) (x_22 : List (T18).T) : Option R_u4 :=
  some x_
def v_u4 (k : Nat) (x_ : T17.T) (x_22 : List (T18).T) : R_u4 := (f_u4 k x_ x_22).getD (T17).dflt
def ke_u4 (k : Nat) : Ke := (34, fun xs => match xs with
  | [.ptr _ _ _] => some [true]
  | _ => none, fun xs bs => match xs, bs with
  | [.ptr 0 0 0], [.var 140 qx_, .row 54 tx_22_ qx_22] => (decS [] T17 (qx_.take 22)).bind fun x_ => (castL tx_22_ T18 qx_22).bind fun x_22 => some (.one (res_u4 (v_u4 k x_ x_22), bo_u4 x_ x_22 (v_u4 k x_ x_22)))
  | _, _ => none)
theorem of_u4 (k : Nat) (x_ : T17.T) (x_22 : List (T18).T) (r : R_u4) (h : f_u4 k x_ x_22 = some r) : C_u4 x_ x_22 r := by
  refine CC.of (fn := Tryz.f34) (by kernel_rfl) (by kernel_rfl) (by kernel_rfl) (by kernel_rfl) ?_
  unfold f_u4 at h
  exact go (mkK [ke_u14 k]) [] [] [.autoB [2] true []] (gL h) (by kernel_rfl)
theorem cc_u4 {k : Nat} {x_ : T17.T} {x_22 : List (T18).T} (h : (f_u4 k x_ x_22).isSome = true) : C_u4 x_ x_22 (v_u4 k x_ x_22) := ccG (Φ := C_u4 x_ x_22) h (of_u4 k x_ x_22)
abbrev R_u21 : Type := List (T18).T × Int
def res_u21 (r : R_u21) : AV := .tup [.r (.ro T18 r.1), .r (.v (.int .i64 r.2))]
def bo_u21 (b_ : T17.T) (r : R_u21) : List (Nat × Blk) := []
def args_u21 (b_ : T17.T) : List AV := [.agg (rvs (enc T17 b_)), .r (.v (.func (.func 34) #[] #[]))]
def bin_u21 (b_ : T17.T) : List Blk := []
abbrev C_u21 (b_ : T17.T) (r : R_u21) : Prop := CC Tryz.prog 33 (args_u21 b_) (bin_u21 b_) (res_u21 r) (bo_u21 b_ r)
def st_u21_10005 (y0 : T17.T) (y1 : List (T18).T) : St := ⟨mkS 29 [(6, .ptr 1000000 0 0), (16, .sub 1000002 0 1 0 1), (17, .r (.v (.int .i64 1))), (18, .r (.v (.int .i64 0)))], [(1000000, 0, .var 140 ((rvs (enc T17 y0)) ++ [.own 1000001 0])), (1000001, 0, .row 54 T18 y1), (1000002, 0, .var 1 [.fn ((Fn.func 35)) [.ptr 1000000 0 0] []])]⟩
def st_u21_20005 (y0 : T17.T) (y1 : List (T18).T) : St := ⟨mkS 29 [(6, .ptr 1000000 0 0), (16, .sub 1000002 0 1 0 1), (17, .r (.v (.int .i64 1))), (18, .r (.v (.int .i64 1)))], [(1000000, 0, .var 140 ((rvs (enc T17 y0)) ++ [.own 1000001 0])), (1000001, 0, .row 54 T18 y1), (1000002, 0, .var 1 [.fn ((Fn.func 35)) [.ptr 1000000 0 0] []])]⟩
mutual
def f_u21_10005 (k : Nat) : Nat → T17.T → List (T18).T → Option R_u21
  | 0, _, _ => none
  | j + 1, y0, y1 =>
  if ((0 : Int) ≤ (0 : Int)) ∧ ((0 : Int) < (↑ (1 : Nat) : Int)) then
  if ((f_u14 k y0 y1).isSome = true) then
  f_u21_20005 k j ((v_u14 k y0 y1).1) ((v_u14 k y0 y1).2)
  else none
  else none
def f_u21_20005 (k : Nat) : Nat → T17.T → List (T18).T → Option R_u21
  | 0, _, _ => none
  | j + 1, y0, y1 =>
  some ((y1, 0))
end
def f_u21 (k : Nat) (b_ : T17.T) : Option R_u21 :=
  if ((f_u17 k b_).isSome = true) then
  bif (v_u17 k b_) then
  some (([], 8))
  else
  if ((f_u4 k b_ []).isSome = true) then
  f_u21_10005 k k ((v_u4 k b_ [])) ([])
  else none
  else none
def v_u21 (k : Nat) (b_ : T17.T) : R_u21 := (f_u21 k b_).getD ([], 0)
def ke_u21 (k : Nat) : Ke := (33, fun xs => match xs with
  | [_, .r (.v (.func (.func 34) _ _))] => some [false, false]
  | _ => none, fun xs bs => match xs, bs with
  | [.agg qb_, .r (.v (.func (.func 34) _ _))], [] => (decS [] T17 qb_).bind fun b_ => some (.one (res_u21 (v_u21 k b_), bo_u21 b_ (v_u21 k b_)))
  | _, _ => none)
def K_u21 (k : Nat) : Calld := mkK [ke_u17 k, ke_u14 k, ke_u4 k]
def cs_u21 : List (Nat × List Cmd) := [(5, [.key 18, .autoB [6, 16, 17, 18] false []])]
abbrev E_u21 (b_ : T17.T) (todo : List Item) (st : St) (o : Option R_u21) : Prop := ∀ r, o = some r → Ev Tryz.prog Tryz.f33 0 todo st (res_u21 r) (bo_u21 b_ r)
theorem ev_u21 (k : Nat) (b_ : T17.T) : ∀ j, (∀ (y0 : T17.T) (y1 : List (T18).T), E_u21 b_ (placeAt Tryz.f33 5) (st_u21_10005 y0 y1) (f_u21_10005 k j y0 y1)) ∧ (∀ (y0 : T17.T) (y1 : List (T18).T), E_u21 b_ (placeAt Tryz.f33 5) (st_u21_20005 y0 y1) (f_u21_20005 k j y0 y1))
  | 0 => ⟨fun _ _ _ h => (nomatch h), fun _ _ _ h => (nomatch h)⟩
  | j + 1 => by
    have ih := @ev_u21 k b_ j
    refine ⟨?_, ?_⟩
    · intro y0 y1 r h
      rw [f_u21_10005] at h
      exact go (K_u21 k) [] cs_u21 [.frz 4 false (RTy.list T18), .autoB [4, 5] true []] (gU1 h (.leaf (.tup [.r (.ro T18 y1), .r (.v (.int .i64 0))]) []) fun h => gN2 h fun h => gN1 h (fun q => cc_u14 q) fun h => gC h 20005 (ih.2 _ _ _)) (by kernel_rfl)
    · intro y0 y1 r h
      rw [f_u21_20005] at h
      exact go (K_u21 k) [] cs_u21 [.frz 4 false (RTy.list T18), .autoB [4, 5] true []] (gU2 h (.stuck 5001) fun h => gL h) (by kernel_rfl)
theorem of_u21 (k : Nat) (b_ : T17.T) (r : R_u21) (h : f_u21 k b_ = some r) : C_u21 b_ r := by
  refine CC.of (fn := Tryz.f33) (by kernel_rfl) (by kernel_rfl) (by kernel_rfl) (by kernel_rfl) ?_
  unfold f_u21 at h
  exact go (K_u21 k) [] cs_u21 [.frz 4 false (RTy.list T18), .autoB [4, 5] true []] (gN1 h (fun q => cc_u17 q) fun h => gT h (fun c h => gL h) fun c h => gN1 h (fun q => cc_u4 q) fun h => gC h 10005 ((ev_u21 k b_ k).1 _ _ _)) (by kernel_rfl)
theorem cc_u21 {k : Nat} {b_ : T17.T} (h : (f_u21 k b_).isSome = true) : C_u21 b_ (v_u21 k b_) := ccG (Φ := C_u21 b_) h (of_u21 k b_)
abbrev R_u3 : Type := List (T18).T × Int
def res_u3 (r : R_u3) : AV := .tup [.r (.ro T18 r.1), .r (.v (.int .i64 r.2))]
def bo_u3 (b_ : T17.T) (r : R_u3) : List (Nat × Blk) := []
def args_u3 (b_ : T17.T) : List AV := [.agg (rvs (enc T17 b_))]
def bin_u3 (b_ : T17.T) : List Blk := []
abbrev C_u3 (b_ : T17.T) (r : R_u3) : Prop := CC Tryz.prog 14 (args_u3 b_) (bin_u3 b_) (res_u3 r) (bo_u3 b_ r)
def f_u3 (k : Nat) (b_ : T17.T) : Option R_u3 :=
  if ((f_u21 k b_).isSome = true) then
  some (((v_u21 k b_).1, (v_u21 k b_).2))
  else none
def v_u3 (k : Nat) (b_ : T17.T) : R_u3 := (f_u3 k b_).getD ([], 0)
def ke_u3 (k : Nat) : Ke := (14, fun xs => match xs with
  | [_] => some [false]
  | _ => none, fun xs bs => match xs, bs with
  | [.agg qb_], [] => (decS [] T17 qb_).bind fun b_ => some (.one (res_u3 (v_u3 k b_), bo_u3 b_ (v_u3 k b_)))
  | _, _ => none)
theorem of_u3 (k : Nat) (b_ : T17.T) (r : R_u3) (h : f_u3 k b_ = some r) : C_u3 b_ r := by
  refine CC.of (fn := Tryz.f14) (by kernel_rfl) (by kernel_rfl) (by kernel_rfl) (by kernel_rfl) ?_
  unfold f_u3 at h
  exact go (mkK [ke_u4 k, ke_u21 k]) [] [] [.frz 2 false (RTy.list T18), .autoB [2, 3] true []] (gN1 h (fun q => cc_u21 q) fun h => gL h) (by kernel_rfl)
theorem cc_u3 {k : Nat} {b_ : T17.T} (h : (f_u3 k b_).isSome = true) : C_u3 b_ (v_u3 k b_) := ccG (Φ := C_u3 b_) h (of_u3 k b_)
def bs_H62_u33_0 : ByteArray := ByteArray.mk #[(48 : UInt8), (49 : UInt8), (50 : UInt8), (51 : UInt8), (52 : UInt8), (53 : UInt8), (54 : UInt8), (55 : UInt8), (56 : UInt8), (57 : UInt8), (97 : UInt8), (98 : UInt8), (99 : UInt8), (100 : UInt8), (101 : UInt8), (102 : UInt8), (103 : UInt8), (104 : UInt8), (105 : UInt8), (106 : UInt8), (107 : UInt8), (108 : UInt8), (109 : UInt8), (110 : UInt8), (111 : UInt8), (112 : UInt8), (113 : UInt8), (114 : UInt8), (115 : UInt8), (116 : UInt8), (117 : UInt8), (118 : UInt8), (119 : UInt8), (120 : UInt8), (121 : UInt8), (122 : UInt8)]
def bs_H62_u33_1 : ByteArray := ByteArray.mk #[48, 49, 50, 51, 52, 53, 54, 55, 56, 57, 97, 98, 99, 100, 101, 102, 103, 104, 105, 106, 107, 108, 109, 110, 111, 112, 113, 114, 115, 116, 117, 118, 119, 120, 121, 122]
abbrev R_u33 : Type := ByteArray
def res_u33 (r : R_u33) : AV := .r (.v (.string r))
def bo_u33 (i_ : Int) (r : R_u33) : List (Nat × Blk) := []
def args_u33 (i_ : Int) : List AV := [.r (.v (.int .i64 i_))]
def bin_u33 (i_ : Int) : List Blk := []
abbrev C_u33 (i_ : Int) (r : R_u33) : Prop := CC Tryz.prog 204 (args_u33 i_) (bin_u33 i_) (res_u33 r) (bo_u33 i_ r)
def f_u33 (k : Nat) (i_ : Int) : Option R_u33 :=
  bif (decide (i_ < (10 : Int))) then
  if ((0 : Int) ≤ i_) ∧ (i_ ≤ IntKind.i64.wrap (i_ + (1 : Int))) ∧ (IntKind.i64.wrap (i_ + (1 : Int)) ≤ (↑ bs_H62_u33_0.size : Int)) then
  some (bs_H62_u33_1.extract i_.toNat (IntKind.i64.wrap (i_ + 1)).toNat)
  else none
  else
  if ((0 : Int) ≤ IntKind.i64.wrap (i_ * (2 : Int))) ∧ (IntKind.i64.wrap (i_ * (2 : Int)) ≤ IntKind.i64.wrap (IntKind.i64.wrap (i_ * (2 : Int)) + (2 : Int))) ∧ (IntKind.i64.wrap (IntKind.i64.wrap (i_ * (2 : Int)) + (2 : Int)) ≤ (↑ (ByteArray.mk (([(48 : UInt8), (48 : UInt8), (48 : UInt8), (49 : UInt8), (48 : UInt8), (50 : UInt8), (48 : UInt8), (51 : UInt8), (48 : UInt8), (52 : UInt8), (48 : UInt8), (53 : UInt8), (48 : UInt8), (54 : UInt8), (48 : UInt8), (55 : UInt8), (48 : UInt8), (56 : UInt8), (48 : UInt8), (57 : UInt8), (49 : UInt8), (48 : UInt8), (49 : UInt8), (49 : UInt8), (49 : UInt8), (50 : UInt8), (49 : UInt8), (51 : UInt8), (49 : UInt8), (52 : UInt8), (49 : UInt8), (53 : UInt8), (49 : UInt8), (54 : UInt8), (49 : UInt8), (55 : UInt8), (49 : UInt8), (56 : UInt8), (49 : UInt8), (57 : UInt8), (50 : UInt8), (48 : UInt8), (50 : UInt8), (49 : UInt8), (50 : UInt8), (50 : UInt8), (50 : UInt8), (51 : UInt8), (50 : UInt8), (52 : UInt8)].append [(50 : UInt8), (53 : UInt8), (50 : UInt8), (54 : UInt8), (50 : UInt8), (55 : UInt8), (50 : UInt8), (56 : UInt8), (50 : UInt8), (57 : UInt8), (51 : UInt8), (48 : UInt8), (51 : UInt8), (49 : UInt8), (51 : UInt8), (50 : UInt8), (51 : UInt8), (51 : UInt8), (51 : UInt8), (52 : UInt8), (51 : UInt8), (53 : UInt8), (51 : UInt8), (54 : UInt8), (51 : UInt8), (55 : UInt8), (51 : UInt8), (56 : UInt8), (51 : UInt8), (57 : UInt8), (52 : UInt8), (48 : UInt8), (52 : UInt8), (49 : UInt8), (52 : UInt8), (50 : UInt8), (52 : UInt8), (51 : UInt8), (52 : UInt8), (52 : UInt8), (52 : UInt8), (53 : UInt8), (52 : UInt8), (54 : UInt8), (52 : UInt8), (55 : UInt8), (52 : UInt8), (56 : UInt8), (52 : UInt8), (57 : UInt8)]).append ([(53 : UInt8), (48 : UInt8), (53 : UInt8), (49 : UInt8), (53 : UInt8), (50 : UInt8), (53 : UInt8), (51 : UInt8), (53 : UInt8), (52 : UInt8), (53 : UInt8), (53 : UInt8), (53 : UInt8), (54 : UInt8), (53 : UInt8), (55 : UInt8), (53 : UInt8), (56 : UInt8), (53 : UInt8), (57 : UInt8), (54 : UInt8), (48 : UInt8), (54 : UInt8), (49 : UInt8), (54 : UInt8), (50 : UInt8), (54 : UInt8), (51 : UInt8), (54 : UInt8), (52 : UInt8), (54 : UInt8), (53 : UInt8), (54 : UInt8), (54 : UInt8), (54 : UInt8), (55 : UInt8), (54 : UInt8), (56 : UInt8), (54 : UInt8), (57 : UInt8), (55 : UInt8), (48 : UInt8), (55 : UInt8), (49 : UInt8), (55 : UInt8), (50 : UInt8), (55 : UInt8), (51 : UInt8), (55 : UInt8), (52 : UInt8)].append [(55 : UInt8), (53 : UInt8), (55 : UInt8), (54 : UInt8), (55 : UInt8), (55 : UInt8), (55 : UInt8), (56 : UInt8), (55 : UInt8), (57 : UInt8), (56 : UInt8), (48 : UInt8), (56 : UInt8), (49 : UInt8), (56 : UInt8), (50 : UInt8), (56 : UInt8), (51 : UInt8), (56 : UInt8), (52 : UInt8), (56 : UInt8), (53 : UInt8), (56 : UInt8), (54 : UInt8), (56 : UInt8), (55 : UInt8), (56 : UInt8), (56 : UInt8), (56 : UInt8), (57 : UInt8), (57 : UInt8), (48 : UInt8), (57 : UInt8), (49 : UInt8), (57 : UInt8), (50 : UInt8), (57 : UInt8), (51 : UInt8), (57 : UInt8), (52 : UInt8), (57 : UInt8), (53 : UInt8), (57 : UInt8), (54 : UInt8), (57 : UInt8), (55 : UInt8), (57 : UInt8), (56 : UInt8), (57 : UInt8), (57 : UInt8)])).toArray).size : Int)) then
  some ((ByteArray.mk (([48, 48, 48, 49, 48, 50, 48, 51, 48, 52, 48, 53, 48, 54, 48, 55, 48, 56, 48, 57, 49, 48, 49, 49, 49, 50, 49, 51, 49, 52, 49, 53, 49, 54, 49, 55, 49, 56, 49, 57, 50, 48, 50, 49, 50, 50, 50, 51, 50, 52].append [50, 53, 50, 54, 50, 55, 50, 56, 50, 57, 51, 48, 51, 49, 51, 50, 51, 51, 51, 52, 51, 53, 51, 54, 51, 55, 51, 56, 51, 57, 52, 48, 52, 49, 52, 50, 52, 51, 52, 52, 52, 53, 52, 54, 52, 55, 52, 56, 52, 57]).append ([53, 48, 53, 49, 53, 50, 53, 51, 53, 52, 53, 53, 53, 54, 53, 55, 53, 56, 53, 57, 54, 48, 54, 49, 54, 50, 54, 51, 54, 52, 54, 53, 54, 54, 54, 55, 54, 56, 54, 57, 55, 48, 55, 49, 55, 50, 55, 51, 55, 52].append [55, 53, 55, 54, 55, 55, 55, 56, 55, 57, 56, 48, 56, 49, 56, 50, 56, 51, 56, 52, 56, 53, 56, 54, 56, 55, 56, 56, 56, 57, 57, 48, 57, 49, 57, 50, 57, 51, 57, 52, 57, 53, 57, 54, 57, 55, 57, 56, 57, 57])).toArray).extract (IntKind.i64.wrap (i_ * 2)).toNat (IntKind.i64.wrap (IntKind.i64.wrap (i_ * 2) + 2)).toNat)
  else none
def v_u33 (k : Nat) (i_ : Int) : R_u33 := (f_u33 k i_).getD ByteArray.empty
def ke_u33 (k : Nat) : Ke := (204, fun xs => match xs with
  | [_] => some [false]
  | _ => none, fun xs bs => match xs, bs with
  | [.r (.v (.int .i64 i_))], [] => some (.one (res_u33 (v_u33 k i_), bo_u33 i_ (v_u33 k i_)))
  | _, _ => none)
theorem of_u33 (k : Nat) (i_ : Int) (r : R_u33) (h : f_u33 k i_ = some r) : C_u33 i_ r := by
  refine CC.of (fn := Tryz.f204) (by kernel_rfl) (by kernel_rfl) (by kernel_rfl) (by kernel_rfl) ?_
  unfold f_u33 at h
  exact go (mkK []) [] [] [.autoB [2] true []] (gT h (fun c h => gN h (fun q => conjC q.1 (conjC q.2.1 (conjC q.2.2 conj0))) fun h => gL h) fun c h => gN h (fun q => conjC q.1 (conjC q.2.1 (conjC q.2.2 conj0))) fun h => gL h) (by kernel_rfl)
theorem cc_u33 {k : Nat} {i_ : Int} (h : (f_u33 k i_).isSome = true) : C_u33 i_ (v_u33 k i_) := ccG (Φ := C_u33 i_) h (of_u33 k i_)
abbrev R_u31 : Type := ByteArray
def res_u31 (r : R_u31) : AV := .r (.v (.string r))
def bo_u31 (i_ : Int) (base_ : Int) (r : R_u31) : List (Nat × Blk) := []
def args_u31 (i_ : Int) (base_ : Int) : List AV := [.r (.v (.int .i64 i_)), .r (.v (.int .i64 base_))]
def bin_u31 (i_ : Int) (base_ : Int) : List Blk := []
abbrev C_u31 (i_ : Int) (base_ : Int) (r : R_u31) : Prop := CC Tryz.prog 161 (args_u31 i_ base_) (bin_u31 i_ base_) (res_u31 r) (bo_u31 i_ base_ r)
def f_u31 (k : Nat) (i_ : Int) (base_ : Int) : Option R_u31 :=
  bif (base_ == (10 : Int)) then
  bif (decide ((0 : Int) ≤ i_) && decide (i_ < (100 : Int))) then
  if ((f_u33 k i_).isSome = true) then
  some (v_u33 k i_)
  else none
  else
  bif (decide (i_ < (0 : Int))) then
  none
  else
  none
  else
  none
def v_u31 (k : Nat) (i_ : Int) (base_ : Int) : R_u31 := (f_u31 k i_ base_).getD ByteArray.empty
def ke_u31 (k : Nat) : Ke := (161, fun xs => match xs with
  | [_, _] => some [false, false]
  | _ => none, fun xs bs => match xs, bs with
  | [.r (.v (.int .i64 i_)), .r (.v (.int .i64 base_))], [] => some (.one (res_u31 (v_u31 k i_ base_), bo_u31 i_ base_ (v_u31 k i_ base_)))
  | _, _ => none)
theorem of_u31 (k : Nat) (i_ : Int) (base_ : Int) (r : R_u31) (h : f_u31 k i_ base_ = some r) : C_u31 i_ base_ r := by
  refine CC.of (fn := Tryz.f161) (by kernel_rfl) (by kernel_rfl) (by kernel_rfl) (by kernel_rfl) ?_
  unfold f_u31 at h
  exact go (mkK [ke_u33 k]) [] [] [.autoB [4] true []] (gT h (fun c h => gT h (fun c h => gN1 h (fun q => cc_u33 q) fun h => gL h) fun c h => gT h (fun c h => gZ h (.stuck 2001)) fun c h => gZ h (.stuck 2001)) fun c h => gZ h (.stuck 2005)) (by kernel_rfl)
theorem cc_u31 {k : Nat} {i_ : Int} {base_ : Int} (h : (f_u31 k i_ base_).isSome = true) : C_u31 i_ base_ (v_u31 k i_ base_) := ccG (Φ := C_u31 i_ base_) h (of_u31 k i_ base_)
abbrev R_u32 : Type := ByteArray
def res_u32 (r : R_u32) : AV := .r (.v (.string r))
def bo_u32 (i_ : Int) (r : R_u32) : List (Nat × Blk) := []
def args_u32 (i_ : Int) : List AV := [.r (.v (.int .i64 i_))]
def bin_u32 (i_ : Int) : List Blk := []
abbrev C_u32 (i_ : Int) (r : R_u32) : Prop := CC Tryz.prog 111 (args_u32 i_) (bin_u32 i_) (res_u32 r) (bo_u32 i_ r)
def f_u32 (k : Nat) (i_ : Int) : Option R_u32 :=
  if ((f_u31 k i_ 10).isSome = true) then
  some (v_u31 k i_ 10)
  else none
def v_u32 (k : Nat) (i_ : Int) : R_u32 := (f_u32 k i_).getD ByteArray.empty
def ke_u32 (k : Nat) : Ke := (111, fun xs => match xs with
  | [_] => some [false]
  | _ => none, fun xs bs => match xs, bs with
  | [.r (.v (.int .i64 i_))], [] => some (.one (res_u32 (v_u32 k i_), bo_u32 i_ (v_u32 k i_)))
  | _, _ => none)
theorem of_u32 (k : Nat) (i_ : Int) (r : R_u32) (h : f_u32 k i_ = some r) : C_u32 i_ r := by
  refine CC.of (fn := Tryz.f111) (by kernel_rfl) (by kernel_rfl) (by kernel_rfl) (by kernel_rfl) ?_
  unfold f_u32 at h
  exact go (mkK [ke_u31 k]) [] [] [.autoB [2] true []] (gN1 h (fun q => cc_u31 q) fun h => gL h) (by kernel_rfl)
theorem cc_u32 {k : Nat} {i_ : Int} (h : (f_u32 k i_).isSome = true) : C_u32 i_ (v_u32 k i_) := ccG (Φ := C_u32 i_) h (of_u32 k i_)
abbrev R_u76 : Type := ByteArray
def res_u76 (r : R_u76) : AV := .r (.v (.string r))
def bo_u76 (i_ : Int) (r : R_u76) : List (Nat × Blk) := []
def args_u76 (i_ : Int) : List AV := [.r (.v (.int .i64 i_))]
def bin_u76 (i_ : Int) : List Blk := []
abbrev C_u76 (i_ : Int) (r : R_u76) : Prop := CC Tryz.prog 64 (args_u76 i_) (bin_u76 i_) (res_u76 r) (bo_u76 i_ r)
def f_u76 (k : Nat) (i_ : Int) : Option R_u76 :=
  if ((f_u32 k i_).isSome = true) then
  some (v_u32 k i_)
  else none
def v_u76 (k : Nat) (i_ : Int) : R_u76 := (f_u76 k i_).getD ByteArray.empty
def ke_u76 (k : Nat) : Ke := (64, fun xs => match xs with
  | [_] => some [false]
  | _ => none, fun xs bs => match xs, bs with
  | [.r (.v (.int .i64 i_))], [] => some (.one (res_u76 (v_u76 k i_), bo_u76 i_ (v_u76 k i_)))
  | _, _ => none)
theorem of_u76 (k : Nat) (i_ : Int) (r : R_u76) (h : f_u76 k i_ = some r) : C_u76 i_ r := by
  refine CC.of (fn := Tryz.f64) (by kernel_rfl) (by kernel_rfl) (by kernel_rfl) (by kernel_rfl) ?_
  unfold f_u76 at h
  exact go (mkK [ke_u32 k]) [] [] [.autoB [2] true []] (gN1 h (fun q => cc_u32 q) fun h => gL h) (by kernel_rfl)
theorem cc_u76 {k : Nat} {i_ : Int} (h : (f_u76 k i_).isSome = true) : C_u76 i_ (v_u76 k i_) := ccG (Φ := C_u76 i_) h (of_u76 k i_)
def bs_H62_u5_0 : ByteArray := ByteArray.mk #[(115 : UInt8), (101 : UInt8), (99 : UInt8), (116 : UInt8), (105 : UInt8), (111 : UInt8), (110 : UInt8), (115 : UInt8), (58 : UInt8), (32 : UInt8), (101 : UInt8), (114 : UInt8), (114 : UInt8), (111 : UInt8), (114 : UInt8), (32 : UInt8)]
def bs_H62_u5_1 : ByteArray := ByteArray.mk #[115, 101, 99, 116, 105, 111, 110, 115, 58, 32, 101, 114, 114, 111, 114, 32]
def bs_H62_u5_2 : ByteArray := ByteArray.mk #[(32 : UInt8), (100 : UInt8), (111 : UInt8), (101 : UInt8), (115 : UInt8), (32 : UInt8), (110 : UInt8), (111 : UInt8), (116 : UInt8), (32 : UInt8), (109 : UInt8), (97 : UInt8), (116 : UInt8), (99 : UInt8), (104 : UInt8), (58 : UInt8), (32 : UInt8), (101 : UInt8), (114 : UInt8), (114 : UInt8), (111 : UInt8), (114 : UInt8), (32 : UInt8)]
def bs_H62_u5_3 : ByteArray := ByteArray.mk #[32, 100, 111, 101, 115, 32, 110, 111, 116, 32, 109, 97, 116, 99, 104, 58, 32, 101, 114, 114, 111, 114, 32]
def bs_H62_u5_4 : ByteArray := ByteArray.mk #[(116 : UInt8), (104 : UInt8), (101 : UInt8), (32 : UInt8), (97 : UInt8), (114 : UInt8), (101 : UInt8), (97 : UInt8), (32 : UInt8), (111 : UInt8), (102 : UInt8), (32 : UInt8), (116 : UInt8), (104 : UInt8), (101 : UInt8), (32 : UInt8), (119 : UInt8), (101 : UInt8), (98 : UInt8), (32 : UInt8), (105 : UInt8), (115 : UInt8), (32 : UInt8), (110 : UInt8), (111 : UInt8), (116 : UInt8), (32 : UInt8), (98 : UInt8), (97 : UInt8), (108 : UInt8), (97 : UInt8), (110 : UInt8), (99 : UInt8), (101 : UInt8), (100 : UInt8), (58 : UInt8), (32 : UInt8)]
def bs_H62_u5_5 : ByteArray := ByteArray.mk #[116, 104, 101, 32, 97, 114, 101, 97, 32, 111, 102, 32, 116, 104, 101, 32, 119, 101, 98, 32, 105, 115, 32, 110, 111, 116, 32, 98, 97, 108, 97, 110, 99, 101, 100, 58, 32]
def bs_H62_u5_6 : ByteArray := ByteArray.mk #[(115 : UInt8), (104 : UInt8), (105 : UInt8), (112 : UInt8), (112 : UInt8), (101 : UInt8), (100 : UInt8), (32 : UInt8), (114 : UInt8), (111 : UInt8), (108 : UInt8), (108 : UInt8), (32 : UInt8)]
def bs_H62_u5_7 : ByteArray := ByteArray.mk #[115, 104, 105, 112, 112, 101, 100, 32, 114, 111, 108, 108, 32]
def bs_H62_u5_8 : ByteArray := ByteArray.mk #[(32 : UInt8), (119 : UInt8), (97 : UInt8), (115 : UInt8), (32 : UInt8), (110 : UInt8), (111 : UInt8), (116 : UInt8), (32 : UInt8), (114 : UInt8), (101 : UInt8), (108 : UInt8), (101 : UInt8), (97 : UInt8), (115 : UInt8), (101 : UInt8), (100 : UInt8), (58 : UInt8), (32 : UInt8), (101 : UInt8), (114 : UInt8), (114 : UInt8), (111 : UInt8), (114 : UInt8), (32 : UInt8)]
def bs_H62_u5_9 : ByteArray := ByteArray.mk #[32, 119, 97, 115, 32, 110, 111, 116, 32, 114, 101, 108, 101, 97, 115, 101, 100, 58, 32, 101, 114, 114, 111, 114, 32]
def bs_H62_u5_10 : ByteArray := ByteArray.mk #[(116 : UInt8), (104 : UInt8), (101 : UInt8), (32 : UInt8), (99 : UInt8), (114 : UInt8), (101 : UInt8), (100 : UInt8), (105 : UInt8), (116 : UInt8), (32 : UInt8), (111 : UInt8), (102 : UInt8), (32 : UInt8), (99 : UInt8), (108 : UInt8), (97 : UInt8), (105 : UInt8), (109 : UInt8), (32 : UInt8)]
def bs_H62_u5_11 : ByteArray := ByteArray.mk #[(32 : UInt8), (115 : UInt8), (104 : UInt8), (111 : UInt8), (117 : UInt8), (108 : UInt8), (100 : UInt8), (32 : UInt8), (98 : UInt8), (101 : UInt8), (32 : UInt8)]
def bs_H62_u5_12 : ByteArray := ByteArray.mk #[116, 104, 101, 32, 99, 114, 101, 100, 105, 116, 32, 111, 102, 32, 99, 108, 97, 105, 109, 32]
def bs_H62_u5_13 : ByteArray := ByteArray.mk #[32, 115, 104, 111, 117, 108, 100, 32, 98, 101, 32]
def bs_H62_u5_14 : ByteArray := ByteArray.mk #[(32 : UInt8), (99 : UInt8), (97 : UInt8), (110 : UInt8), (110 : UInt8), (111 : UInt8), (116 : UInt8), (32 : UInt8), (98 : UInt8), (101 : UInt8), (32 : UInt8), (115 : UInt8), (101 : UInt8), (116 : UInt8), (116 : UInt8), (108 : UInt8), (101 : UInt8), (100 : UInt8), (58 : UInt8), (32 : UInt8), (101 : UInt8), (114 : UInt8), (114 : UInt8), (111 : UInt8), (114 : UInt8), (32 : UInt8)]
def bs_H62_u5_15 : ByteArray := ByteArray.mk #[32, 99, 97, 110, 110, 111, 116, 32, 98, 101, 32, 115, 101, 116, 116, 108, 101, 100, 58, 32, 101, 114, 114, 111, 114, 32]
def bs_H62_u5_16 : ByteArray := ByteArray.mk #[(98 : UInt8), (114 : UInt8), (111 : UInt8), (107 : UInt8), (101 : UInt8), (58 : UInt8), (32 : UInt8), (101 : UInt8), (114 : UInt8), (114 : UInt8), (111 : UInt8), (114 : UInt8), (32 : UInt8)]
def bs_H62_u5_17 : ByteArray := ByteArray.mk #[98, 114, 111, 107, 101, 58, 32, 101, 114, 114, 111, 114, 32]
def bs_H62_u5_18 : ByteArray := ByteArray.mk #[(32 : UInt8), (105 : UInt8), (115 : UInt8), (32 : UInt8), (114 : UInt8), (101 : UInt8), (112 : UInt8), (101 : UInt8), (97 : UInt8), (116 : UInt8), (101 : UInt8), (100 : UInt8)]
def bs_H62_u5_19 : ByteArray := ByteArray.mk #[32, 105, 115, 32, 114, 101, 112, 101, 97, 116, 101, 100]
abbrev R_u5 : Type := ByteArray × Int
def res_u5 (r : R_u5) : AV := .tup [.r (.v (.string r.1)), .r (.v (.int .i64 r.2))]
def bo_u5 (f_ : T18.T) (r : R_u5) : List (Nat × Blk) := []
def args_u5 (f_ : T18.T) : List AV := [.agg (rvs (enc T18 f_))]
def bin_u5 (f_ : T18.T) : List Blk := []
abbrev C_u5 (f_ : T18.T) (r : R_u5) : Prop := CC Tryz.prog 25 (args_u5 f_) (bin_u5 f_) (res_u5 r) (bo_u5 f_ r)
def f_u5 (k : Nat) (f_ : T18.T) : Option R_u5 :=
  if ((f_u76 k f_.2.1).isSome = true) ∧ ((f_u76 k f_.2.2).isSome = true) then
  bif (f_.1 == (1 : Int)) then
  if ((↑ (bs_H62_u5_0.size + ByteArray.size (v_u76 k f_.2.1)) : Int) ≤ IntKind.i64.max) ∧ ((↑ ((bs_H62_u5_0 ++ v_u76 k f_.2.1).size + (ByteArray.mk #[(44 : UInt8), (32 : UInt8), (101 : UInt8), (110 : UInt8), (100 : UInt8), (32 : UInt8)]).size) : Int) ≤ IntKind.i64.max) ∧ ((↑ ((bs_H62_u5_0 ++ v_u76 k f_.2.1 ++ (ByteArray.mk #[(44 : UInt8), (32 : UInt8), (101 : UInt8), (110 : UInt8), (100 : UInt8), (32 : UInt8)])).size + ByteArray.size (v_u76 k f_.2.2)) : Int) ≤ IntKind.i64.max) then
  some ((bs_H62_u5_1 ++ v_u76 k f_.2.1 ++ (ByteArray.mk #[44, 32, 101, 110, 100, 32]) ++ v_u76 k f_.2.2, 0))
  else none
  else
  bif (f_.1 == (2 : Int)) then
  if ((↑ ((ByteArray.mk #[(114 : UInt8), (101 : UInt8), (101 : UInt8), (108 : UInt8), (32 : UInt8)]).size + ByteArray.size (v_u76 k f_.2.1)) : Int) ≤ IntKind.i64.max) ∧ ((↑ (((ByteArray.mk #[(114 : UInt8), (101 : UInt8), (101 : UInt8), (108 : UInt8), (32 : UInt8)]) ++ v_u76 k f_.2.1).size + bs_H62_u5_2.size) : Int) ≤ IntKind.i64.max) ∧ ((↑ (((ByteArray.mk #[(114 : UInt8), (101 : UInt8), (101 : UInt8), (108 : UInt8), (32 : UInt8)]) ++ v_u76 k f_.2.1 ++ bs_H62_u5_2).size + ByteArray.size (v_u76 k f_.2.2)) : Int) ≤ IntKind.i64.max) then
  some (((ByteArray.mk #[114, 101, 101, 108, 32]) ++ v_u76 k f_.2.1 ++ bs_H62_u5_3 ++ v_u76 k f_.2.2, 0))
  else none
  else
  bif (f_.1 == (3 : Int)) then
  if ((↑ ((ByteArray.mk #[(114 : UInt8), (111 : UInt8), (108 : UInt8), (108 : UInt8), (32 : UInt8)]).size + ByteArray.size (v_u76 k f_.2.1)) : Int) ≤ IntKind.i64.max) ∧ ((↑ (((ByteArray.mk #[(114 : UInt8), (111 : UInt8), (108 : UInt8), (108 : UInt8), (32 : UInt8)]) ++ v_u76 k f_.2.1).size + (ByteArray.mk #[(58 : UInt8), (32 : UInt8), (101 : UInt8), (114 : UInt8), (114 : UInt8), (111 : UInt8), (114 : UInt8), (32 : UInt8)]).size) : Int) ≤ IntKind.i64.max) ∧ ((↑ (((ByteArray.mk #[(114 : UInt8), (111 : UInt8), (108 : UInt8), (108 : UInt8), (32 : UInt8)]) ++ v_u76 k f_.2.1 ++ (ByteArray.mk #[(58 : UInt8), (32 : UInt8), (101 : UInt8), (114 : UInt8), (114 : UInt8), (111 : UInt8), (114 : UInt8), (32 : UInt8)])).size + ByteArray.size (v_u76 k f_.2.2)) : Int) ≤ IntKind.i64.max) then
  some (((ByteArray.mk #[114, 111, 108, 108, 32]) ++ v_u76 k f_.2.1 ++ (ByteArray.mk #[58, 32, 101, 114, 114, 111, 114, 32]) ++ v_u76 k f_.2.2, 0))
  else none
  else
  bif (f_.1 == (4 : Int)) then
  if ((↑ (bs_H62_u5_4.size + ByteArray.size (v_u76 k f_.2.1)) : Int) ≤ IntKind.i64.max) then
  some ((bs_H62_u5_5 ++ v_u76 k f_.2.1, 0))
  else none
  else
  bif (f_.1 == (5 : Int)) then
  if ((↑ ((ByteArray.mk #[(111 : UInt8), (114 : UInt8), (100 : UInt8), (101 : UInt8), (114 : UInt8), (32 : UInt8)]).size + ByteArray.size (v_u76 k f_.2.1)) : Int) ≤ IntKind.i64.max) ∧ ((↑ (((ByteArray.mk #[(111 : UInt8), (114 : UInt8), (100 : UInt8), (101 : UInt8), (114 : UInt8), (32 : UInt8)]) ++ v_u76 k f_.2.1).size + (ByteArray.mk #[(58 : UInt8), (32 : UInt8), (101 : UInt8), (114 : UInt8), (114 : UInt8), (111 : UInt8), (114 : UInt8), (32 : UInt8)]).size) : Int) ≤ IntKind.i64.max) ∧ ((↑ (((ByteArray.mk #[(111 : UInt8), (114 : UInt8), (100 : UInt8), (101 : UInt8), (114 : UInt8), (32 : UInt8)]) ++ v_u76 k f_.2.1 ++ (ByteArray.mk #[(58 : UInt8), (32 : UInt8), (101 : UInt8), (114 : UInt8), (114 : UInt8), (111 : UInt8), (114 : UInt8), (32 : UInt8)])).size + ByteArray.size (v_u76 k f_.2.2)) : Int) ≤ IntKind.i64.max) then
  some (((ByteArray.mk #[111, 114, 100, 101, 114, 32]) ++ v_u76 k f_.2.1 ++ (ByteArray.mk #[58, 32, 101, 114, 114, 111, 114, 32]) ++ v_u76 k f_.2.2, 0))
  else none
  else
  bif (f_.1 == (6 : Int)) then
  if ((↑ (bs_H62_u5_6.size + ByteArray.size (v_u76 k f_.2.1)) : Int) ≤ IntKind.i64.max) ∧ ((↑ ((bs_H62_u5_6 ++ v_u76 k f_.2.1).size + (ByteArray.mk #[(58 : UInt8), (32 : UInt8), (101 : UInt8), (114 : UInt8), (114 : UInt8), (111 : UInt8), (114 : UInt8), (32 : UInt8)]).size) : Int) ≤ IntKind.i64.max) ∧ ((↑ ((bs_H62_u5_6 ++ v_u76 k f_.2.1 ++ (ByteArray.mk #[(58 : UInt8), (32 : UInt8), (101 : UInt8), (114 : UInt8), (114 : UInt8), (111 : UInt8), (114 : UInt8), (32 : UInt8)])).size + ByteArray.size (v_u76 k f_.2.2)) : Int) ≤ IntKind.i64.max) then
  some ((bs_H62_u5_7 ++ v_u76 k f_.2.1 ++ (ByteArray.mk #[58, 32, 101, 114, 114, 111, 114, 32]) ++ v_u76 k f_.2.2, 0))
  else none
  else
  bif (f_.1 == (7 : Int)) then
  if ((↑ ((ByteArray.mk #[(114 : UInt8), (111 : UInt8), (108 : UInt8), (108 : UInt8), (32 : UInt8)]).size + ByteArray.size (v_u76 k f_.2.1)) : Int) ≤ IntKind.i64.max) ∧ ((↑ (((ByteArray.mk #[(114 : UInt8), (111 : UInt8), (108 : UInt8), (108 : UInt8), (32 : UInt8)]) ++ v_u76 k f_.2.1).size + bs_H62_u5_8.size) : Int) ≤ IntKind.i64.max) ∧ ((↑ (((ByteArray.mk #[(114 : UInt8), (111 : UInt8), (108 : UInt8), (108 : UInt8), (32 : UInt8)]) ++ v_u76 k f_.2.1 ++ bs_H62_u5_8).size + ByteArray.size (v_u76 k f_.2.2)) : Int) ≤ IntKind.i64.max) then
  some (((ByteArray.mk #[114, 111, 108, 108, 32]) ++ v_u76 k f_.2.1 ++ bs_H62_u5_9 ++ v_u76 k f_.2.2, 0))
  else none
  else
  bif (f_.1 == (8 : Int)) then
  if ((↑ (bs_H62_u5_10.size + ByteArray.size (v_u76 k f_.2.1)) : Int) ≤ IntKind.i64.max) ∧ ((↑ ((bs_H62_u5_10 ++ v_u76 k f_.2.1).size + bs_H62_u5_11.size) : Int) ≤ IntKind.i64.max) ∧ ((↑ ((bs_H62_u5_10 ++ v_u76 k f_.2.1 ++ bs_H62_u5_11).size + ByteArray.size (v_u76 k f_.2.2)) : Int) ≤ IntKind.i64.max) then
  some ((bs_H62_u5_12 ++ v_u76 k f_.2.1 ++ bs_H62_u5_13 ++ v_u76 k f_.2.2, 0))
  else none
  else
  bif (f_.1 == (9 : Int)) then
  if ((↑ ((ByteArray.mk #[(99 : UInt8), (108 : UInt8), (97 : UInt8), (105 : UInt8), (109 : UInt8), (32 : UInt8)]).size + ByteArray.size (v_u76 k f_.2.1)) : Int) ≤ IntKind.i64.max) ∧ ((↑ (((ByteArray.mk #[(99 : UInt8), (108 : UInt8), (97 : UInt8), (105 : UInt8), (109 : UInt8), (32 : UInt8)]) ++ v_u76 k f_.2.1).size + bs_H62_u5_14.size) : Int) ≤ IntKind.i64.max) ∧ ((↑ (((ByteArray.mk #[(99 : UInt8), (108 : UInt8), (97 : UInt8), (105 : UInt8), (109 : UInt8), (32 : UInt8)]) ++ v_u76 k f_.2.1 ++ bs_H62_u5_14).size + ByteArray.size (v_u76 k f_.2.2)) : Int) ≤ IntKind.i64.max) then
  some (((ByteArray.mk #[99, 108, 97, 105, 109, 32]) ++ v_u76 k f_.2.1 ++ bs_H62_u5_15 ++ v_u76 k f_.2.2, 0))
  else none
  else
  bif (f_.1 == (10 : Int)) then
  if ((↑ (bs_H62_u5_16.size + ByteArray.size (v_u76 k f_.2.1)) : Int) ≤ IntKind.i64.max) then
  some ((bs_H62_u5_17 ++ v_u76 k f_.2.1, 0))
  else none
  else
  bif (f_.1 == (11 : Int)) then
  if ((↑ ((ByteArray.mk #[(112 : UInt8), (111 : UInt8), (115 : UInt8), (116 : UInt8), (105 : UInt8), (110 : UInt8), (103 : UInt8), (32 : UInt8)]).size + ByteArray.size (v_u76 k f_.2.1)) : Int) ≤ IntKind.i64.max) ∧ ((↑ (((ByteArray.mk #[(112 : UInt8), (111 : UInt8), (115 : UInt8), (116 : UInt8), (105 : UInt8), (110 : UInt8), (103 : UInt8), (32 : UInt8)]) ++ v_u76 k f_.2.1).size + (ByteArray.mk #[(58 : UInt8), (32 : UInt8), (101 : UInt8), (114 : UInt8), (114 : UInt8), (111 : UInt8), (114 : UInt8), (32 : UInt8)]).size) : Int) ≤ IntKind.i64.max) ∧ ((↑ (((ByteArray.mk #[(112 : UInt8), (111 : UInt8), (115 : UInt8), (116 : UInt8), (105 : UInt8), (110 : UInt8), (103 : UInt8), (32 : UInt8)]) ++ v_u76 k f_.2.1 ++ (ByteArray.mk #[(58 : UInt8), (32 : UInt8), (101 : UInt8), (114 : UInt8), (114 : UInt8), (111 : UInt8), (114 : UInt8), (32 : UInt8)])).size + ByteArray.size (v_u76 k f_.2.2)) : Int) ≤ IntKind.i64.max) then
  some (((ByteArray.mk #[112, 111, 115, 116, 105, 110, 103, 32]) ++ v_u76 k f_.2.1 ++ (ByteArray.mk #[58, 32, 101, 114, 114, 111, 114, 32]) ++ v_u76 k f_.2.2, 0))
  else none
  else
  bif (f_.1 == (12 : Int)) then
  if ((↑ ((ByteArray.mk #[(112 : UInt8), (111 : UInt8), (115 : UInt8), (116 : UInt8), (105 : UInt8), (110 : UInt8), (103 : UInt8), (32 : UInt8)]).size + ByteArray.size (v_u76 k f_.2.1)) : Int) ≤ IntKind.i64.max) ∧ ((↑ (((ByteArray.mk #[(112 : UInt8), (111 : UInt8), (115 : UInt8), (116 : UInt8), (105 : UInt8), (110 : UInt8), (103 : UInt8), (32 : UInt8)]) ++ v_u76 k f_.2.1).size + bs_H62_u5_18.size) : Int) ≤ IntKind.i64.max) then
  some (((ByteArray.mk #[112, 111, 115, 116, 105, 110, 103, 32]) ++ v_u76 k f_.2.1 ++ bs_H62_u5_19, 0))
  else none
  else
  some ((ByteArray.mk #[], 17))
  else none
def v_u5 (k : Nat) (f_ : T18.T) : R_u5 := (f_u5 k f_).getD (ByteArray.empty, 0)
def ke_u5 (k : Nat) : Ke := (25, fun xs => match xs with
  | [_] => some [false]
  | _ => none, fun xs bs => match xs, bs with
  | [.agg qf_], [] => (decS [] T18 qf_).bind fun f_ => some (.one (res_u5 (v_u5 k f_), bo_u5 f_ (v_u5 k f_)))
  | _, _ => none)
theorem of_u5 (k : Nat) (f_ : T18.T) (r : R_u5) (h : f_u5 k f_ = some r) : C_u5 f_ r := by
  refine CC.of (fn := Tryz.f25) (by kernel_rfl) (by kernel_rfl) (by kernel_rfl) (by kernel_rfl) ?_
  unfold f_u5 at h
  exact go (mkK [ke_u76 k]) [] [] [.autoB [2, 3] true []] (gN h (fun q => conjC (cc_u76 q.1) (conjC (cc_u76 q.2) conj0)) fun h => gT h (fun c h => gN h (fun q => conjC q.1 (conjC q.2.1 (conjC q.2.2 conj0))) fun h => gL h) fun c h => gT h (fun c h => gN h (fun q => conjC q.1 (conjC q.2.1 (conjC q.2.2 conj0))) fun h => gL h) fun c h => gT h (fun c h => gN h (fun q => conjC q.1 (conjC q.2.1 (conjC q.2.2 conj0))) fun h => gL h) fun c h => gT h (fun c h => gN1 h id fun h => gL h) fun c h => gT h (fun c h => gN h (fun q => conjC q.1 (conjC q.2.1 (conjC q.2.2 conj0))) fun h => gL h) fun c h => gT h (fun c h => gN h (fun q => conjC q.1 (conjC q.2.1 (conjC q.2.2 conj0))) fun h => gL h) fun c h => gT h (fun c h => gN h (fun q => conjC q.1 (conjC q.2.1 (conjC q.2.2 conj0))) fun h => gL h) fun c h => gT h (fun c h => gN h (fun q => conjC q.1 (conjC q.2.1 (conjC q.2.2 conj0))) fun h => gL h) fun c h => gT h (fun c h => gN h (fun q => conjC q.1 (conjC q.2.1 (conjC q.2.2 conj0))) fun h => gL h) fun c h => gT h (fun c h => gN1 h id fun h => gL h) fun c h => gT h (fun c h => gN h (fun q => conjC q.1 (conjC q.2.1 (conjC q.2.2 conj0))) fun h => gL h) fun c h => gT h (fun c h => gN2 h fun h => gL h) fun c h => gL h) (by kernel_rfl)
theorem cc_u5 {k : Nat} {f_ : T18.T} (h : (f_u5 k f_).isSome = true) : C_u5 f_ (v_u5 k f_) := ccG (Φ := C_u5 f_) h (of_u5 k f_)
abbrev R_u63 : Type := Int
def res_u63 (r : R_u63) : AV := .r (.v (.int .i64 r))
def bo_u63 (l_ : List (T11).T) (r : R_u63) : List (Nat × Blk) := []
def args_u63 (l_ : List (T11).T) : List AV := [.r (.ro T11 l_)]
def bin_u63 (l_ : List (T11).T) : List Blk := []
abbrev C_u63 (l_ : List (T11).T) (r : R_u63) : Prop := CC Tryz.prog 130 (args_u63 l_) (bin_u63 l_) (res_u63 r) (bo_u63 l_ r)
def st_u63_4 (y0 : List (T11).T) (y1 : List (T11).T) (y2 : Int) (y3 : Int) : St := ⟨mkS 84 [(0, .r (.ro T11 y0)), (18, .r (.ro T11 y1)), (19, .r (.v (.int .i64 y2))), (20, .r (.v (.int .i64 y3)))], []⟩
def st_u63_12 (y0 : List (T11).T) (y1 : List (T11).T) (y2 : Int) (y3 : Int) (y4 : List ((I).T × (RTy.bool).T)) (y5 : List ((I).T × (RTy.bool).T)) : St := ⟨mkS 84 [(0, .r (.ro T11 y0)), (6, .own 1000000 0), (7, .own 1000001 0), (32, .r (.ro T11 y1)), (33, .r (.v (.int .i64 y2))), (34, .r (.v (.int .i64 y3)))], [(1000000, 0, .map false I RTy.bool y4), (1000001, 0, .map false I RTy.bool y5)]⟩
def st_u63_19 (y0 : List (T11).T) (y1 : Int) (y2 : List ((I).T × (RTy.bool).T)) : St := ⟨mkS 84 [(0, .r (.ro T11 y0)), (7, .own 1000000 0), (10, .r (.v (.int .i64 y1)))], [(1000000, 0, .map false I RTy.bool y2)]⟩
def st_u63_24 (y0 : List (T11).T) (y1 : Int) (y2 : Int) (y3 : List ((I).T × (RTy.bool).T)) : St := ⟨mkS 84 [(7, .own 1000000 0), (64, .r (.ro T11 y0)), (65, .r (.v (.int .i64 y1))), (66, .r (.v (.int .i64 y2)))], [(1000000, 0, .map false I RTy.bool y3)]⟩
def st_u63_27 (y0 : List (T11).T) (y1 : Int) (y2 : Int) (y3 : List (I).T) (y4 : Int) (y5 : Int) (y6 : List ((I).T × (RTy.bool).T)) : St := ⟨mkS 84 [(7, .own 1000000 0), (64, .r (.ro T11 y0)), (65, .r (.v (.int .i64 y1))), (66, .r (.v (.int .i64 y2))), (71, .r (.ro I y3)), (72, .r (.v (.int .i64 y4))), (73, .r (.v (.int .i64 y5)))], [(1000000, 0, .map false I RTy.bool y6)]⟩
mutual
def f_u63_4 (k : Nat) : Nat → List (T11).T → List (T11).T → Int → Int → Option R_u63
  | 0, _, _, _, _ => none
  | j + 1, y0, y1, y2, y3 =>
  bif (decide (y3 < y2)) then
  if (0 ≤ y3) ∧ (y3 < (↑y1.length : Int)) then
  none
  else none
  else
  f_u63_12 k j y0 y0 ((↑y0.length : Int)) 0 ([]) ([])
def f_u63_12 (k : Nat) : Nat → List (T11).T → List (T11).T → Int → Int → (List ((I).T × (RTy.bool).T)) → (List ((I).T × (RTy.bool).T)) → Option R_u63
  | 0, _, _, _, _, _, _ => none
  | j + 1, y0, y1, y2, y3, y4, y5 =>
  bif (decide (y3 < y2)) then
  if (0 ≤ y3) ∧ (y3 < (↑y1.length : Int)) then
  bif ((mget I (y1.getD y3.toNat T11.dflt).1 y4).getD false) then
  some 6
  else
  f_u63_12 k j y0 y1 y2 ((IntKind.i64.wrap (y3 + 1))) ((mset I (y1.getD y3.toNat T11.dflt).1 true y4)) y5
  else none
  else
  f_u63_19 k j y0 1 y5
def f_u63_19 (k : Nat) : Nat → List (T11).T → Int → (List ((I).T × (RTy.bool).T)) → Option R_u63
  | 0, _, _, _ => none
  | j + 1, y0, y1, y2 =>
  bif (decide (y1 < (↑y0.length : Int))) then
  if (0 ≤ y1) ∧ (y1 < (↑y0.length : Int)) ∧ ((0 : Int) ≤ IntKind.i64.wrap (y1 - (1 : Int))) ∧ (IntKind.i64.wrap (y1 - (1 : Int)) < (↑y0.length : Int)) then
  bif (decide ((y0.getD y1.toNat T11.dflt).2.1 < (y0.getD (IntKind.i64.wrap (y1 - (1 : Int))).toNat T11.dflt).2.1)) then
  some 9
  else
  f_u63_19 k j y0 ((IntKind.i64.wrap (y1 + 1))) y2
  else none
  else
  f_u63_24 k j y0 ((↑y0.length : Int)) 0 y2
def f_u63_24 (k : Nat) : Nat → List (T11).T → Int → Int → (List ((I).T × (RTy.bool).T)) → Option R_u63
  | 0, _, _, _, _ => none
  | j + 1, y0, y1, y2, y3 =>
  bif (decide (y2 < y1)) then
  if (0 ≤ y2) ∧ (y2 < (↑y0.length : Int)) then
  f_u63_27 k j y0 y1 y2 ((y0.getD y2.toNat T11.dflt).2.2) ((↑ (List.length (y0.getD y2.toNat T11.dflt).2.2) : Int)) 0 y3
  else none
  else
  some 0
def f_u63_27 (k : Nat) : Nat → List (T11).T → Int → Int → List (I).T → Int → Int → (List ((I).T × (RTy.bool).T)) → Option R_u63
  | 0, _, _, _, _, _, _, _ => none
  | j + 1, y0, y1, y2, y3, y4, y5, y6 =>
  bif (decide (y5 < y4)) then
  if (0 ≤ y5) ∧ (y5 < (↑y3.length : Int)) then
  bif ((mget I (y3.getD y5.toNat I.dflt) y6).getD false) then
  some 34
  else
  f_u63_27 k j y0 y1 y2 y3 y4 ((IntKind.i64.wrap (y5 + 1))) ((mset I (y3.getD y5.toNat I.dflt) true y6))
  else none
  else
  f_u63_24 k j y0 y1 ((IntKind.i64.wrap (y2 + 1))) y6
end
def f_u63 (k : Nat) (l_ : List (T11).T) : Option R_u63 :=
  bif (decide ((↑l_.length : Int) > (512 : Int))) then
  some 8
  else
  f_u63_4 k k l_ l_ ((↑l_.length : Int)) 0
def v_u63 (k : Nat) (l_ : List (T11).T) : R_u63 := (f_u63 k l_).getD 0
def ke_u63 (k : Nat) : Ke := (130, fun xs => match xs with
  | [_] => some [false]
  | _ => none, fun xs bs => match xs, bs with
  | [.r (.ro tl__ ql_)], [] => (castL tl__ T11 ql_).bind fun l_ => some (.one (res_u63 (v_u63 k l_), bo_u63 l_ (v_u63 k l_)))
  | _, _ => none)
def cs_u63 : List (Nat × List Cmd) := [(4, [.autoB [0, 18, 19, 20] false []]), (12, [.autoB [0, 6, 7, 32, 33, 34] false []]), (19, [.autoB [0, 7, 10] false []]), (24, [.autoB [7, 64, 65, 66] false []]), (27, [.autoB [7, 64, 65, 66, 71, 72, 73] false []])]
abbrev E_u63 (l_ : List (T11).T) (todo : List Item) (st : St) (o : Option R_u63) : Prop := ∀ r, o = some r → Ev Tryz.prog Tryz.f130 0 todo st (res_u63 r) (bo_u63 l_ r)
theorem ev_u63 (k : Nat) (l_ : List (T11).T) : ∀ j, (∀ (y0 : List (T11).T) (y1 : List (T11).T) (y2 : Int) (y3 : Int), E_u63 l_ (placeAt Tryz.f130 4) (st_u63_4 y0 y1 y2 y3) (f_u63_4 k j y0 y1 y2 y3)) ∧ (∀ (y0 : List (T11).T) (y1 : List (T11).T) (y2 : Int) (y3 : Int) (y4 : List ((I).T × (RTy.bool).T)) (y5 : List ((I).T × (RTy.bool).T)), E_u63 l_ (placeAt Tryz.f130 12) (st_u63_12 y0 y1 y2 y3 y4 y5) (f_u63_12 k j y0 y1 y2 y3 y4 y5)) ∧ (∀ (y0 : List (T11).T) (y1 : Int) (y2 : List ((I).T × (RTy.bool).T)), E_u63 l_ (placeAt Tryz.f130 19) (st_u63_19 y0 y1 y2) (f_u63_19 k j y0 y1 y2)) ∧ (∀ (y0 : List (T11).T) (y1 : Int) (y2 : Int) (y3 : List ((I).T × (RTy.bool).T)), E_u63 l_ (placeAt Tryz.f130 24) (st_u63_24 y0 y1 y2 y3) (f_u63_24 k j y0 y1 y2 y3)) ∧ (∀ (y0 : List (T11).T) (y1 : Int) (y2 : Int) (y3 : List (I).T) (y4 : Int) (y5 : Int) (y6 : List ((I).T × (RTy.bool).T)), E_u63 l_ (placeAt Tryz.f130 27) (st_u63_27 y0 y1 y2 y3 y4 y5 y6) (f_u63_27 k j y0 y1 y2 y3 y4 y5 y6))
  | 0 => ⟨fun _ _ _ _ _ h => (nomatch h), fun _ _ _ _ _ _ _ h => (nomatch h), fun _ _ _ _ h => (nomatch h), fun _ _ _ _ _ h => (nomatch h), fun _ _ _ _ _ _ _ _ h => (nomatch h)⟩
  | j + 1 => by
    have ih := @ev_u63 k l_ j
    refine ⟨?_, ?_, ?_, ?_, ?_⟩
    · intro y0 y1 y2 y3 r h
      rw [f_u63_4] at h
      exact go (mkK []) [] cs_u63 [.autoB [2] true []] (gT h (fun c h => gN2 h fun h => gZ h (.stuck 2001)) fun c h => gC h 12 (ih.2.1 _ _ _ _ _ _ _)) (by kernel_rfl)
    · intro y0 y1 y2 y3 y4 y5 r h
      rw [f_u63_12] at h
      exact go (mkK []) [] cs_u63 [.autoB [2] true []] (gT h (fun c h => gN2 h fun h => gT h (fun c h => gL h) fun c h => gC h 12 (ih.2.1 _ _ _ _ _ _ _)) fun c h => gC h 19 (ih.2.2.1 _ _ _ _)) (by kernel_rfl)
    · intro y0 y1 y2 r h
      rw [f_u63_19] at h
      exact go (mkK []) [] cs_u63 [.autoB [2] true []] (gT h (fun c h => gN h (fun q => conjC q.1 (conjC q.2.1 (conjC q.2.2.1 (conjC q.2.2.2 conj0)))) fun h => gT h (fun c h => gL h) fun c h => gC h 19 (ih.2.2.1 _ _ _ _)) fun c h => gC h 24 (ih.2.2.2.1 _ _ _ _ _)) (by kernel_rfl)
    · intro y0 y1 y2 y3 r h
      rw [f_u63_24] at h
      exact go (mkK []) [] cs_u63 [.autoB [2] true []] (gT h (fun c h => gN2 h fun h => gC h 27 (ih.2.2.2.2 _ _ _ _ _ _ _ _)) fun c h => gL h) (by kernel_rfl)
    · intro y0 y1 y2 y3 y4 y5 y6 r h
      rw [f_u63_27] at h
      exact go (mkK []) [] cs_u63 [.autoB [2] true []] (gT h (fun c h => gN2 h fun h => gT h (fun c h => gL h) fun c h => gC h 27 (ih.2.2.2.2 _ _ _ _ _ _ _ _)) fun c h => gC h 24 (ih.2.2.2.1 _ _ _ _ _)) (by kernel_rfl)
theorem of_u63 (k : Nat) (l_ : List (T11).T) (r : R_u63) (h : f_u63 k l_ = some r) : C_u63 l_ r := by
  refine CC.of (fn := Tryz.f130) (by kernel_rfl) (by kernel_rfl) (by kernel_rfl) (by kernel_rfl) ?_
  unfold f_u63 at h
  exact go (mkK []) [] cs_u63 [.autoB [2] true []] (gT h (fun c h => gL h) fun c h => gC h 4 ((ev_u63 k l_ k).1 _ _ _ _ _)) (by kernel_rfl)
theorem cc_u63 {k : Nat} {l_ : List (T11).T} (h : (f_u63 k l_).isSome = true) : C_u63 l_ (v_u63 k l_) := ccG (Φ := C_u63 l_) h (of_u63 k l_)
abbrev R_u15 : Type := T17.T × List (T18).T
def res_u15 (r : R_u15) : AV := .tup []
def bo_u15 (b_ : T17.T) (b_22 : List (T18).T) (r : R_u15) : List (Nat × Blk) := [(0, .var 140 ((rvs (enc T17 r.1)) ++ [.own 1 1])), (1, .row 54 T18 r.2)]
def args_u15 (b_ : T17.T) (b_22 : List (T18).T) : List AV := [.ptr 0 0 0]
def bin_u15 (b_ : T17.T) (b_22 : List (T18).T) : List Blk := [.var 140 (rvs (enc T17 b_) ++ [.own 1 0]), .row 54 T18 b_22]
abbrev C_u15 (b_ : T17.T) (b_22 : List (T18).T) (r : R_u15) : Prop := CC Tryz.prog 90 (args_u15 b_ b_22) (bin_u15 b_ b_22) (res_u15 r) (bo_u15 b_ b_22 r)
def st_u15_5 (b_ : T17.T) (b_22 : List (T18).T) (y0 : List (T11).T) (y1 : Int) (y2 : Int) (y3 : T17.T) (y4 : List (T18).T) : St := ⟨mkS 111 [(0, .ptr 0 0 0), (3, .r (.v (Value.slice none 0 0))), (31, .r (.ro T11 y0)), (32, .r (.v (.int .i64 y1))), (33, .r (.v (.int .i64 y2)))], [(0, 0, .var 140 ((rvs (enc T17 y3)) ++ [.own 1 1])), (1, 1, .row 54 T18 y4)]⟩
def st_u15_8 (b_ : T17.T) (b_22 : List (T18).T) (y0 : List (T11).T) (y1 : Int) (y2 : Int) (y3 : List (I).T) (y4 : Int) (y5 : Int) (y6 : T17.T) (y7 : List (T18).T) : St := ⟨mkS 111 [(0, .ptr 0 0 0), (3, .r (.v (Value.slice none 0 0))), (31, .r (.ro T11 y0)), (32, .r (.v (.int .i64 y1))), (33, .r (.v (.int .i64 y2))), (38, .r (.ro I y3)), (39, .r (.v (.int .i64 y4))), (40, .r (.v (.int .i64 y5)))], [(0, 0, .var 140 ((rvs (enc T17 y6)) ++ [.own 1 1])), (1, 1, .row 54 T18 y7)]⟩
def st_u15_22 (b_ : T17.T) (b_22 : List (T18).T) (y0 : List (T9).T) (y1 : Int) (y2 : Int) (y3 : T17.T) (y4 : List (T18).T) : St := ⟨mkS 111 [(0, .ptr 0 0 0), (3, .r (.v (Value.slice none 0 0))), (89, .r (.ro T9 y0)), (90, .r (.v (.int .i64 y1))), (91, .r (.v (.int .i64 y2)))], [(0, 0, .var 140 ((rvs (enc T17 y3)) ++ [.own 1 1])), (1, 1, .row 54 T18 y4)]⟩
def st_u15_25 (b_ : T17.T) (b_22 : List (T18).T) (y0 : List (T9).T) (y1 : Int) (y2 : Int) (y3 : List (I).T) (y4 : Int) (y5 : Int) (y6 : T17.T) (y7 : List (T18).T) : St := ⟨mkS 111 [(0, .ptr 0 0 0), (3, .r (.v (Value.slice none 0 0))), (89, .r (.ro T9 y0)), (90, .r (.v (.int .i64 y1))), (91, .r (.v (.int .i64 y2))), (96, .r (.ro I y3)), (97, .r (.v (.int .i64 y4))), (98, .r (.v (.int .i64 y5)))], [(0, 0, .var 140 ((rvs (enc T17 y6)) ++ [.own 1 1])), (1, 1, .row 54 T18 y7)]⟩
mutual
def f_u15_5 (k : Nat) (b_ : T17.T) (b_22 : List (T18).T) : Nat → List (T11).T → Int → Int → T17.T → List (T18).T → Option R_u15
  | 0, _, _, _, _, _ => none
  | j + 1, y0, y1, y2, y3, y4 =>
  bif (decide (y2 < y1)) then
  if (0 ≤ y2) ∧ (y2 < (↑y0.length : Int)) then
  f_u15_8 k b_ b_22 j y0 y1 y2 ((y0.getD y2.toNat T11.dflt).2.2) ((↑ (List.length (y0.getD y2.toNat T11.dflt).2.2) : Int)) 0 y3 y4
  else none
  else
  f_u15_22 k b_ b_22 j y3.2.2.2.2.2.2.2.2.2.2.2.2.2.2.2.1 ((↑ (List.length y3.2.2.2.2.2.2.2.2.2.2.2.2.2.2.2.1) : Int)) 0 y3 y4
def f_u15_8 (k : Nat) (b_ : T17.T) (b_22 : List (T18).T) : Nat → List (T11).T → Int → Int → List (I).T → Int → Int → T17.T → List (T18).T → Option R_u15
  | 0, _, _, _, _, _, _, _, _ => none
  | j + 1, y0, y1, y2, y3, y4, y5, y6, y7 =>
  bif (decide (y5 < y4)) then
  if (0 ≤ y5) ∧ (y5 < (↑y3.length : Int)) then
  if ([y3.getD y5.toNat I.dflt].length * (8 : Nat) ≤ (140737488355328 : Nat)) then
  none
  else none
  else none
  else
  f_u15_5 k b_ b_22 j y0 y1 ((IntKind.i64.wrap (y2 + 1))) y6 y7
def f_u15_22 (k : Nat) (b_ : T17.T) (b_22 : List (T18).T) : Nat → List (T9).T → Int → Int → T17.T → List (T18).T → Option R_u15
  | 0, _, _, _, _, _ => none
  | j + 1, y0, y1, y2, y3, y4 =>
  bif (decide (y2 < y1)) then
  if (0 ≤ y2) ∧ (y2 < (↑y0.length : Int)) then
  f_u15_25 k b_ b_22 j y0 y1 y2 ((y0.getD y2.toNat T9.dflt).2.2.1) ((↑ (List.length (y0.getD y2.toNat T9.dflt).2.2.1) : Int)) 0 y3 y4
  else none
  else
  some ((y3, y4))
def f_u15_25 (k : Nat) (b_ : T17.T) (b_22 : List (T18).T) : Nat → List (T9).T → Int → Int → List (I).T → Int → Int → T17.T → List (T18).T → Option R_u15
  | 0, _, _, _, _, _, _, _, _ => none
  | j + 1, y0, y1, y2, y3, y4, y5, y6, y7 =>
  bif (decide (y5 < y4)) then
  if (0 ≤ y5) ∧ (y5 < (↑y3.length : Int)) then
  none
  else none
  else
  f_u15_22 k b_ b_22 j y0 y1 ((IntKind.i64.wrap (y2 + 1))) y6 y7
end
def f_u15 (k : Nat) (b_ : T17.T) (b_22 : List (T18).T) : Option R_u15 :=
  if ((f_u63 k b_.2.2.2.2.2.2.2.2.2.2.2.2.2.2.2.2.2.1).isSome = true) then
  bif (v_u63 k b_.2.2.2.2.2.2.2.2.2.2.2.2.2.2.2.2.2.1 != (0 : Int)) then
  if ((f_u11 k b_ b_22 6 0 (v_u63 k b_.2.2.2.2.2.2.2.2.2.2.2.2.2.2.2.2.2.1)).isSome = true) then
  some (((v_u11 k b_ b_22 6 0 (v_u63 k b_.2.2.2.2.2.2.2.2.2.2.2.2.2.2.2.2.2.1)).1, (v_u11 k b_ b_22 6 0 (v_u63 k b_.2.2.2.2.2.2.2.2.2.2.2.2.2.2.2.2.2.1)).2))
  else none
  else
  f_u15_5 k b_ b_22 k b_.2.2.2.2.2.2.2.2.2.2.2.2.2.2.2.2.2.1 ((↑ (List.length b_.2.2.2.2.2.2.2.2.2.2.2.2.2.2.2.2.2.1) : Int)) 0 b_ b_22
  else none
def v_u15 (k : Nat) (b_ : T17.T) (b_22 : List (T18).T) : R_u15 := (f_u15 k b_ b_22).getD ((T17).dflt, [])
def ke_u15 (k : Nat) : Ke := (90, fun xs => match xs with
  | [.ptr _ _ _] => some [true]
  | _ => none, fun xs bs => match xs, bs with
  | [.ptr 0 0 0], [.var 140 qb_, .row 54 tb_22_ qb_22] => (decS [] T17 (qb_.take 22)).bind fun b_ => (castL tb_22_ T18 qb_22).bind fun b_22 => some (.one (res_u15 (v_u15 k b_ b_22), bo_u15 b_ b_22 (v_u15 k b_ b_22)))
  | _, _ => none)
def cs_u15 : List (Nat × List Cmd) := [(5, [.autoB [0, 3, 31, 32, 33] false [1]]), (8, [.autoB [0, 3, 31, 32, 33, 38, 39, 40] false [1]]), (22, [.autoB [0, 3, 89, 90, 91] false [1]]), (25, [.autoB [0, 3, 89, 90, 91, 96, 97, 98] false [1]])]
abbrev E_u15 (b_ : T17.T) (b_22 : List (T18).T) (todo : List Item) (st : St) (o : Option R_u15) : Prop := ∀ r, o = some r → Ev Tryz.prog Tryz.f90 2 todo st (res_u15 r) (bo_u15 b_ b_22 r)
theorem ev_u15 (k : Nat) (b_ : T17.T) (b_22 : List (T18).T) : ∀ j, (∀ (y0 : List (T11).T) (y1 : Int) (y2 : Int) (y3 : T17.T) (y4 : List (T18).T), E_u15 b_ b_22 (placeAt Tryz.f90 5) (st_u15_5 b_ b_22 y0 y1 y2 y3 y4) (f_u15_5 k b_ b_22 j y0 y1 y2 y3 y4)) ∧ (∀ (y0 : List (T11).T) (y1 : Int) (y2 : Int) (y3 : List (I).T) (y4 : Int) (y5 : Int) (y6 : T17.T) (y7 : List (T18).T), E_u15 b_ b_22 (placeAt Tryz.f90 8) (st_u15_8 b_ b_22 y0 y1 y2 y3 y4 y5 y6 y7) (f_u15_8 k b_ b_22 j y0 y1 y2 y3 y4 y5 y6 y7)) ∧ (∀ (y0 : List (T9).T) (y1 : Int) (y2 : Int) (y3 : T17.T) (y4 : List (T18).T), E_u15 b_ b_22 (placeAt Tryz.f90 22) (st_u15_22 b_ b_22 y0 y1 y2 y3 y4) (f_u15_22 k b_ b_22 j y0 y1 y2 y3 y4)) ∧ (∀ (y0 : List (T9).T) (y1 : Int) (y2 : Int) (y3 : List (I).T) (y4 : Int) (y5 : Int) (y6 : T17.T) (y7 : List (T18).T), E_u15 b_ b_22 (placeAt Tryz.f90 25) (st_u15_25 b_ b_22 y0 y1 y2 y3 y4 y5 y6 y7) (f_u15_25 k b_ b_22 j y0 y1 y2 y3 y4 y5 y6 y7))
  | 0 => ⟨fun _ _ _ _ _ _ h => (nomatch h), fun _ _ _ _ _ _ _ _ _ h => (nomatch h), fun _ _ _ _ _ _ h => (nomatch h), fun _ _ _ _ _ _ _ _ _ h => (nomatch h)⟩
  | j + 1 => by
    have ih := @ev_u15 k b_ b_22 j
    refine ⟨?_, ?_, ?_, ?_⟩
    · intro y0 y1 y2 y3 y4 r h
      rw [f_u15_5] at h
      exact go (mkK [ke_u11 k, ke_u63 k]) [] cs_u15 [.autoB [] true [1]] (gT h (fun c h => gN2 h fun h => gC h 8 (ih.2.1 _ _ _ _ _ _ _ _ _)) fun c h => gC h 22 (ih.2.2.1 _ _ _ _ _ _)) (by kernel_rfl)
    · intro y0 y1 y2 y3 y4 y5 y6 y7 r h
      rw [f_u15_8] at h
      exact go (mkK [ke_u11 k, ke_u63 k]) [] cs_u15 [.autoB [] true [1]] (gT h (fun c h => gN2 h fun h => gN1 h id fun h => gZ h (.stuck 2002)) fun c h => gC h 5 (ih.1 _ _ _ _ _ _)) (by kernel_rfl)
    · intro y0 y1 y2 y3 y4 r h
      rw [f_u15_22] at h
      exact go (mkK [ke_u11 k, ke_u63 k]) [] cs_u15 [.autoB [] true [1]] (gT h (fun c h => gN2 h fun h => gC h 25 (ih.2.2.2 _ _ _ _ _ _ _ _ _)) fun c h => gL h) (by kernel_rfl)
    · intro y0 y1 y2 y3 y4 y5 y6 y7 r h
      rw [f_u15_25] at h
      exact go (mkK [ke_u11 k, ke_u63 k]) [] cs_u15 [.autoB [] true [1]] (gT h (fun c h => gN2 h fun h => gZ h (.stuck 2002)) fun c h => gC h 22 (ih.2.2.1 _ _ _ _ _ _)) (by kernel_rfl)
theorem of_u15 (k : Nat) (b_ : T17.T) (b_22 : List (T18).T) (r : R_u15) (h : f_u15 k b_ b_22 = some r) : C_u15 b_ b_22 r := by
  refine CC.of (fn := Tryz.f90) (by kernel_rfl) (by kernel_rfl) (by kernel_rfl) (by kernel_rfl) ?_
  unfold f_u15 at h
  exact go (mkK [ke_u11 k, ke_u63 k]) [] cs_u15 [.autoB [] true [1]] (gN1 h (fun q => cc_u63 q) fun h => gT h (fun c h => gN1 h (fun q => cc_u11 q) fun h => gL h) fun c h => gC h 5 ((ev_u15 k b_ b_22 k).1 _ _ _ _ _ _)) (by kernel_rfl)
theorem cc_u15 {k : Nat} {b_ : T17.T} {b_22 : List (T18).T} (h : (f_u15 k b_ b_22).isSome = true) : C_u15 b_ b_22 (v_u15 k b_ b_22) := ccG (Φ := C_u15 b_ b_22) h (of_u15 k b_ b_22)
abbrev R_u13 : Type := T17.T × List (T18).T
def res_u13 (r : R_u13) : AV := .tup []
def bo_u13 (b_ : T17.T) (b_22 : List (T18).T) (r : R_u13) : List (Nat × Blk) := [(0, .var 140 ((rvs (enc T17 r.1)) ++ [.own 1 1])), (1, .row 54 T18 r.2)]
def args_u13 (b_ : T17.T) (b_22 : List (T18).T) : List AV := [.ptr 0 0 0]
def bin_u13 (b_ : T17.T) (b_22 : List (T18).T) : List Blk := [.var 140 (rvs (enc T17 b_) ++ [.own 1 0]), .row 54 T18 b_22]
abbrev C_u13 (b_ : T17.T) (b_22 : List (T18).T) (r : R_u13) : Prop := CC Tryz.prog 48 (args_u13 b_ b_22) (bin_u13 b_ b_22) (res_u13 r) (bo_u13 b_ b_22 r)
def st_u13_2 (b_ : T17.T) (b_22 : List (T18).T) (y0 : List (T9).T) (y1 : Int) (y2 : Int) (y3 : T17.T) (y4 : List (T18).T) : St := ⟨mkS 121 [(0, .ptr 0 0 0), (2, .r (.v (Value.slice none 0 0))), (15, .r (.ro T9 y0)), (16, .r (.v (.int .i64 y1))), (17, .r (.v (.int .i64 y2)))], [(0, 0, .var 140 ((rvs (enc T17 y3)) ++ [.own 1 1])), (1, 1, .row 54 T18 y4)]⟩
def f_u13_2 (k : Nat) (b_ : T17.T) (b_22 : List (T18).T) : Nat → List (T9).T → Int → Int → T17.T → List (T18).T → Option R_u13
  | 0, _, _, _, _, _ => none
  | j + 1, y0, y1, y2, y3, y4 =>
  bif (decide (y2 < y1)) then
  if (0 ≤ y2) ∧ (y2 < (↑y0.length : Int)) then
  none
  else none
  else
  if ((f_u15 k y3 y4).isSome = true) then
  some (((v_u15 k y3 y4).1, (v_u15 k y3 y4).2))
  else none
def f_u13 (k : Nat) (b_ : T17.T) (b_22 : List (T18).T) : Option R_u13 :=
  f_u13_2 k b_ b_22 k b_.2.2.2.2.2.2.2.2.2.2.2.2.2.2.2.1 ((↑ (List.length b_.2.2.2.2.2.2.2.2.2.2.2.2.2.2.2.1) : Int)) 0 b_ b_22
def v_u13 (k : Nat) (b_ : T17.T) (b_22 : List (T18).T) : R_u13 := (f_u13 k b_ b_22).getD ((T17).dflt, [])
def ke_u13 (k : Nat) : Ke := (48, fun xs => match xs with
  | [.ptr _ _ _] => some [true]
  | _ => none, fun xs bs => match xs, bs with
  | [.ptr 0 0 0], [.var 140 qb_, .row 54 tb_22_ qb_22] => (decS [] T17 (qb_.take 22)).bind fun b_ => (castL tb_22_ T18 qb_22).bind fun b_22 => some (.one (res_u13 (v_u13 k b_ b_22), bo_u13 b_ b_22 (v_u13 k b_ b_22)))
  | _, _ => none)
def cs_u13 : List (Nat × List Cmd) := [(2, [.autoB [0, 2, 15, 16, 17] false [1]]), (13, [.autoB [0, 2, 4, 5, 15, 16, 17, 66, 67, 68] false [1]]), (19, [.autoB [0, 2, 4, 5, 15, 16, 17, 89, 90, 91] false [1]])]
abbrev E_u13 (b_ : T17.T) (b_22 : List (T18).T) (todo : List Item) (st : St) (o : Option R_u13) : Prop := ∀ r, o = some r → Ev Tryz.prog Tryz.f48 2 todo st (res_u13 r) (bo_u13 b_ b_22 r)
theorem ev_u13 (k : Nat) (b_ : T17.T) (b_22 : List (T18).T) : ∀ j, (∀ (y0 : List (T9).T) (y1 : Int) (y2 : Int) (y3 : T17.T) (y4 : List (T18).T), E_u13 b_ b_22 (placeAt Tryz.f48 2) (st_u13_2 b_ b_22 y0 y1 y2 y3 y4) (f_u13_2 k b_ b_22 j y0 y1 y2 y3 y4))
  | 0 => fun _ _ _ _ _ _ h => (nomatch h)
  | j + 1 => by
    have ih := @ev_u13 k b_ b_22 j
    · intro y0 y1 y2 y3 y4 r h
      rw [f_u13_2] at h
      exact go (mkK [ke_u11 k, ke_u15 k]) [] cs_u13 [.autoB [] true [1]] (gT h (fun c h => gN2 h fun h => gZ h (.stuck 2002)) fun c h => gN1 h (fun q => cc_u15 q) fun h => gL h) (by kernel_rfl)
theorem of_u13 (k : Nat) (b_ : T17.T) (b_22 : List (T18).T) (r : R_u13) (h : f_u13 k b_ b_22 = some r) : C_u13 b_ b_22 r := by
  refine CC.of (fn := Tryz.f48) (by kernel_rfl) (by kernel_rfl) (by kernel_rfl) (by kernel_rfl) ?_
  unfold f_u13 at h
  exact go (mkK [ke_u11 k, ke_u15 k]) [] cs_u13 [.autoB [] true [1]] (gC h 2 ((ev_u13 k b_ b_22 k) _ _ _ _ _ _)) (by kernel_rfl)
theorem cc_u13 {k : Nat} {b_ : T17.T} {b_22 : List (T18).T} (h : (f_u13 k b_ b_22).isSome = true) : C_u13 b_ b_22 (v_u13 k b_ b_22) := ccG (Φ := C_u13 b_ b_22) h (of_u13 k b_ b_22)
abbrev R_u9 : Type := T17.T × List (T18).T
def res_u9 (r : R_u9) : AV := .tup []
def bo_u9 (b_ : T17.T) (b_22 : List (T18).T) (r : R_u9) : List (Nat × Blk) := [(0, .var 140 ((rvs (enc T17 r.1)) ++ [.own 1 1])), (1, .row 54 T18 r.2)]
def args_u9 (b_ : T17.T) (b_22 : List (T18).T) : List AV := [.ptr 0 0 0]
def bin_u9 (b_ : T17.T) (b_22 : List (T18).T) : List Blk := [.var 140 (rvs (enc T17 b_) ++ [.own 1 0]), .row 54 T18 b_22]
abbrev C_u9 (b_ : T17.T) (b_22 : List (T18).T) (r : R_u9) : Prop := CC Tryz.prog 57 (args_u9 b_ b_22) (bin_u9 b_ b_22) (res_u9 r) (bo_u9 b_ b_22 r)
def st_u9_3 (b_ : T17.T) (b_22 : List (T18).T) (y0 : List (T12).T) (y1 : Int) (y2 : Int) (y3 : T17.T) (y4 : List (T18).T) : St := ⟨mkS 74 [(0, .ptr 0 0 0), (37, .r (.ro T12 y0)), (38, .r (.v (.int .i64 y1))), (39, .r (.v (.int .i64 y2)))], [(0, 0, .var 140 ((rvs (enc T17 y3)) ++ [.own 1 1])), (1, 1, .row 54 T18 y4)]⟩
def f_u9_3 (k : Nat) (b_ : T17.T) (b_22 : List (T18).T) : Nat → List (T12).T → Int → Int → T17.T → List (T18).T → Option R_u9
  | 0, _, _, _, _, _ => none
  | j + 1, y0, y1, y2, y3, y4 =>
  bif (decide (y2 < y1)) then
  if (0 ≤ y2) ∧ (y2 < (↑y0.length : Int)) then
  none
  else none
  else
  some ((y3, y4))
def f_u9 (k : Nat) (b_ : T17.T) (b_22 : List (T18).T) : Option R_u9 :=
  bif ((↑ (List.length b_.2.2.2.2.2.2.2.2.2.2.2.2.2.2.2.2.2.2.1) : Int) != (↑ (List.length b_.2.2.2.2.2.2.2.2.2.2.2.2.2.2.2.2.2.2.2.1) : Int)) then
  if ((f_u11 k b_ b_22 8 (↑ (List.length b_.2.2.2.2.2.2.2.2.2.2.2.2.2.2.2.2.2.2.1) : Int) (↑ (List.length b_.2.2.2.2.2.2.2.2.2.2.2.2.2.2.2.2.2.2.2.1) : Int)).isSome = true) then
  some (((v_u11 k b_ b_22 8 (↑ (List.length b_.2.2.2.2.2.2.2.2.2.2.2.2.2.2.2.2.2.2.1) : Int) (↑ (List.length b_.2.2.2.2.2.2.2.2.2.2.2.2.2.2.2.2.2.2.2.1) : Int)).1, (v_u11 k b_ b_22 8 (↑ (List.length b_.2.2.2.2.2.2.2.2.2.2.2.2.2.2.2.2.2.2.1) : Int) (↑ (List.length b_.2.2.2.2.2.2.2.2.2.2.2.2.2.2.2.2.2.2.2.1) : Int)).2))
  else none
  else
  f_u9_3 k b_ b_22 k b_.2.2.2.2.2.2.2.2.2.2.2.2.2.2.2.2.2.2.1 ((↑ (List.length b_.2.2.2.2.2.2.2.2.2.2.2.2.2.2.2.2.2.2.1) : Int)) 0 b_ b_22
def v_u9 (k : Nat) (b_ : T17.T) (b_22 : List (T18).T) : R_u9 := (f_u9 k b_ b_22).getD ((T17).dflt, [])
def ke_u9 (k : Nat) : Ke := (57, fun xs => match xs with
  | [.ptr _ _ _] => some [true]
  | _ => none, fun xs bs => match xs, bs with
  | [.ptr 0 0 0], [.var 140 qb_, .row 54 tb_22_ qb_22] => (decS [] T17 (qb_.take 22)).bind fun b_ => (castL tb_22_ T18 qb_22).bind fun b_22 => some (.one (res_u9 (v_u9 k b_ b_22), bo_u9 b_ b_22 (v_u9 k b_ b_22)))
  | _, _ => none)
def cs_u9 : List (Nat × List Cmd) := [(3, [.autoB [0, 37, 38, 39] false [1]])]
abbrev E_u9 (b_ : T17.T) (b_22 : List (T18).T) (todo : List Item) (st : St) (o : Option R_u9) : Prop := ∀ r, o = some r → Ev Tryz.prog Tryz.f57 2 todo st (res_u9 r) (bo_u9 b_ b_22 r)
theorem ev_u9 (k : Nat) (b_ : T17.T) (b_22 : List (T18).T) : ∀ j, (∀ (y0 : List (T12).T) (y1 : Int) (y2 : Int) (y3 : T17.T) (y4 : List (T18).T), E_u9 b_ b_22 (placeAt Tryz.f57 3) (st_u9_3 b_ b_22 y0 y1 y2 y3 y4) (f_u9_3 k b_ b_22 j y0 y1 y2 y3 y4))
  | 0 => fun _ _ _ _ _ _ h => (nomatch h)
  | j + 1 => by
    have ih := @ev_u9 k b_ b_22 j
    · intro y0 y1 y2 y3 y4 r h
      rw [f_u9_3] at h
      exact go (mkK [ke_u11 k]) [] cs_u9 [.autoB [] true [1]] (gT h (fun c h => gN2 h fun h => gZ h (.stuck 2002)) fun c h => gL h) (by kernel_rfl)
theorem of_u9 (k : Nat) (b_ : T17.T) (b_22 : List (T18).T) (r : R_u9) (h : f_u9 k b_ b_22 = some r) : C_u9 b_ b_22 r := by
  refine CC.of (fn := Tryz.f57) (by kernel_rfl) (by kernel_rfl) (by kernel_rfl) (by kernel_rfl) ?_
  unfold f_u9 at h
  exact go (mkK [ke_u11 k]) [] cs_u9 [.autoB [] true [1]] (gT h (fun c h => gN1 h (fun q => cc_u11 q) fun h => gL h) fun c h => gC h 3 ((ev_u9 k b_ b_22 k) _ _ _ _ _ _)) (by kernel_rfl)
theorem cc_u9 {k : Nat} {b_ : T17.T} {b_22 : List (T18).T} (h : (f_u9 k b_ b_22).isSome = true) : C_u9 b_ b_22 (v_u9 k b_ b_22) := ccG (Φ := C_u9 b_ b_22) h (of_u9 k b_ b_22)
abbrev R_u23 : Type := Int
def res_u23 (r : R_u23) : AV := .r (.v (.int .i64 r))
def bo_u23 (l_ : List (T14).T) (capacity_ : Int) (r : R_u23) : List (Nat × Blk) := []
def args_u23 (l_ : List (T14).T) (capacity_ : Int) : List AV := [.r (.ro T14 l_), .r (.v (.int .i64 capacity_))]
def bin_u23 (l_ : List (T14).T) (capacity_ : Int) : List Blk := []
abbrev C_u23 (l_ : List (T14).T) (capacity_ : Int) (r : R_u23) : Prop := CC Tryz.prog 105 (args_u23 l_ capacity_) (bin_u23 l_ capacity_) (res_u23 r) (bo_u23 l_ capacity_ r)
def st_u23_6 (y0 : List (T14).T) (y1 : Int) (y2 : Int) (y3 : Int) : St := ⟨mkS 72 [(0, .r (.ro T14 y0)), (1, .r (.v (.int .i64 y1))), (20, .r (.v (.int .i64 y2))), (21, .r (.v (.int .i64 y3)))], []⟩
def st_u23_14 (y0 : List (T14).T) (y1 : Int) (y2 : Int) (y3 : Int) (y4 : Int) : St := ⟨mkS 72 [(0, .r (.ro T14 y0)), (1, .r (.v (.int .i64 y1))), (7, .r (.v (.int .i64 y2))), (34, .r (.v (.int .i64 y3))), (35, .r (.v (.int .i64 y4)))], []⟩
mutual
def f_u23_6 (k : Nat) : Nat → List (T14).T → Int → Int → Int → Option R_u23
  | 0, _, _, _, _ => none
  | j + 1, y0, y1, y2, y3 =>
  bif (decide (y3 < y2)) then
  none
  else
  f_u23_14 k j y0 y1 0 ((↑y0.length : Int)) 0
def f_u23_14 (k : Nat) : Nat → List (T14).T → Int → Int → Int → Int → Option R_u23
  | 0, _, _, _, _, _ => none
  | j + 1, y0, y1, y2, y3, y4 =>
  bif (decide (y4 < y3)) then
  if (0 ≤ y4) ∧ (y4 < (↑y0.length : Int)) then
  if (decide (y4 > (0 : Int)) = true → (0 : Int) ≤ IntKind.i64.wrap (y4 - (1 : Int))) ∧ (decide (y4 > (0 : Int)) = true → IntKind.i64.wrap (y4 - (1 : Int)) < (↑y0.length : Int)) then
  bif (decide (y4 > (0 : Int)) && decide ((y0.getD y4.toNat T14.dflt).1 < (y0.getD (IntKind.i64.wrap (y4 - (1 : Int))).toNat T14.dflt).1)) then
  some 9
  else
  bif ((y0.getD y4.toNat T14.dflt).2.1 == (6 : Int) && decide ((y0.getD y4.toNat T14.dflt).2.2.1 > y2)) then
  some 19
  else
  none
  else none
  else none
  else
  some 0
end
def f_u23 (k : Nat) (l_ : List (T14).T) (capacity_ : Int) : Option R_u23 :=
  bif (decide (capacity_ < (0 : Int)) || decide (capacity_ > (1099511627776 : Int))) then
  some 1
  else
  bif (decide ((↑l_.length : Int) > (512 : Int))) then
  some 8
  else
  f_u23_6 k k l_ capacity_ ((↑l_.length : Int)) 0
def v_u23 (k : Nat) (l_ : List (T14).T) (capacity_ : Int) : R_u23 := (f_u23 k l_ capacity_).getD 0
def ke_u23 (k : Nat) : Ke := (105, fun xs => match xs with
  | [_, _] => some [false, false]
  | _ => none, fun xs bs => match xs, bs with
  | [.r (.ro tl__ ql_), .r (.v (.int .i64 capacity_))], [] => (castL tl__ T14 ql_).bind fun l_ => some (.one (res_u23 (v_u23 k l_ capacity_), bo_u23 l_ capacity_ (v_u23 k l_ capacity_)))
  | _, _ => none)
def cs_u23 : List (Nat × List Cmd) := [(6, [.autoB [0, 1, 20, 21] false []]), (14, [.autoB [0, 1, 7, 34, 35] false []])]
abbrev E_u23 (l_ : List (T14).T) (capacity_ : Int) (todo : List Item) (st : St) (o : Option R_u23) : Prop := ∀ r, o = some r → Ev Tryz.prog Tryz.f105 0 todo st (res_u23 r) (bo_u23 l_ capacity_ r)
theorem ev_u23 (k : Nat) (l_ : List (T14).T) (capacity_ : Int) : ∀ j, (∀ (y0 : List (T14).T) (y1 : Int) (y2 : Int) (y3 : Int), E_u23 l_ capacity_ (placeAt Tryz.f105 6) (st_u23_6 y0 y1 y2 y3) (f_u23_6 k j y0 y1 y2 y3)) ∧ (∀ (y0 : List (T14).T) (y1 : Int) (y2 : Int) (y3 : Int) (y4 : Int), E_u23 l_ capacity_ (placeAt Tryz.f105 14) (st_u23_14 y0 y1 y2 y3 y4) (f_u23_14 k j y0 y1 y2 y3 y4))
  | 0 => ⟨fun _ _ _ _ _ h => (nomatch h), fun _ _ _ _ _ _ h => (nomatch h)⟩
  | j + 1 => by
    have ih := @ev_u23 k l_ capacity_ j
    refine ⟨?_, ?_⟩
    · intro y0 y1 y2 y3 r h
      rw [f_u23_6] at h
      exact go (mkK []) [] cs_u23 [.autoB [4] true []] (gT h (fun c h => gZ h (.stuck 2004)) fun c h => gC h 14 (ih.2 _ _ _ _ _ _)) (by kernel_rfl)
    · intro y0 y1 y2 y3 y4 r h
      rw [f_u23_14] at h
      exact go (mkK []) [] cs_u23 [.autoB [4] true []] (gT h (fun c h => gN2 h fun h => gN2 h fun h => gT h (fun c h => gL h) fun c h => gT h (fun c h => gL h) fun c h => gZ h (.stuck 2002)) fun c h => gL h) (by kernel_rfl)
theorem of_u23 (k : Nat) (l_ : List (T14).T) (capacity_ : Int) (r : R_u23) (h : f_u23 k l_ capacity_ = some r) : C_u23 l_ capacity_ r := by
  refine CC.of (fn := Tryz.f105) (by kernel_rfl) (by kernel_rfl) (by kernel_rfl) (by kernel_rfl) ?_
  unfold f_u23 at h
  exact go (mkK []) [] cs_u23 [.autoB [4] true []] (gT h (fun c h => gL h) fun c h => gT h (fun c h => gL h) fun c h => gC h 6 ((ev_u23 k l_ capacity_ k).1 _ _ _ _ _)) (by kernel_rfl)
theorem cc_u23 {k : Nat} {l_ : List (T14).T} {capacity_ : Int} (h : (f_u23 k l_ capacity_).isSome = true) : C_u23 l_ capacity_ (v_u23 k l_ capacity_) := ccG (Φ := C_u23 l_ capacity_) h (of_u23 k l_ capacity_)
abbrev R_u12 : Type := T17.T × List (T18).T
def res_u12 (r : R_u12) : AV := .tup []
def bo_u12 (b_ : T17.T) (b_22 : List (T18).T) (r : R_u12) : List (Nat × Blk) := [(0, .var 140 ((rvs (enc T17 r.1)) ++ [.own 1 1])), (1, .row 54 T18 r.2)]
def args_u12 (b_ : T17.T) (b_22 : List (T18).T) : List AV := [.ptr 0 0 0]
def bin_u12 (b_ : T17.T) (b_22 : List (T18).T) : List Blk := [.var 140 (rvs (enc T17 b_) ++ [.own 1 0]), .row 54 T18 b_22]
abbrev C_u12 (b_ : T17.T) (b_22 : List (T18).T) (r : R_u12) : Prop := CC Tryz.prog 60 (args_u12 b_ b_22) (bin_u12 b_ b_22) (res_u12 r) (bo_u12 b_ b_22 r)
def st_u12_6 (b_ : T17.T) (b_22 : List (T18).T) (y0 : Int) (y1 : List (T16).T) (y2 : Int) (y3 : Int) (y4 : T17.T) (y5 : List (T18).T) (y6 : List ((I).T × (RTy.bool).T)) : St := ⟨mkS 120 [(0, .ptr 0 0 0), (3, .r (.v (.int .i64 y0))), (4, .own 1000000 0), (32, .r (.ro T16 y1)), (33, .r (.v (.int .i64 y2))), (34, .r (.v (.int .i64 y3)))], [(0, 0, .var 140 ((rvs (enc T17 y4)) ++ [.own 1 1])), (1, 1, .row 54 T18 y5), (1000000, 0, .map false I RTy.bool y6)]⟩
def st_u12_22 (b_ : T17.T) (b_22 : List (T18).T) (y0 : Int) (y1 : List (T11).T) (y2 : Int) (y3 : Int) (y4 : T17.T) (y5 : List (T18).T) : St := ⟨mkS 120 [(0, .ptr 0 0 0), (3, .r (.v (.int .i64 y0))), (78, .r (.ro T11 y1)), (79, .r (.v (.int .i64 y2))), (80, .r (.v (.int .i64 y3)))], [(0, 0, .var 140 ((rvs (enc T17 y4)) ++ [.own 1 1])), (1, 1, .row 54 T18 y5)]⟩
def st_u12_25 (b_ : T17.T) (b_22 : List (T18).T) (y0 : Int) (y1 : List (T11).T) (y2 : Int) (y3 : Int) (y4 : List (I).T) (y5 : Int) (y6 : Int) (y7 : T17.T) (y8 : List (T18).T) : St := ⟨mkS 120 [(0, .ptr 0 0 0), (3, .r (.v (.int .i64 y0))), (78, .r (.ro T11 y1)), (79, .r (.v (.int .i64 y2))), (80, .r (.v (.int .i64 y3))), (85, .r (.ro I y4)), (86, .r (.v (.int .i64 y5))), (87, .r (.v (.int .i64 y6)))], [(0, 0, .var 140 ((rvs (enc T17 y7)) ++ [.own 1 1])), (1, 1, .row 54 T18 y8)]⟩
def st_u12_31 (b_ : T17.T) (b_22 : List (T18).T) (y0 : Int) (y1 : List (T13).T) (y2 : Int) (y3 : Int) (y4 : T17.T) (y5 : List (T18).T) : St := ⟨mkS 120 [(0, .ptr 0 0 0), (3, .r (.v (.int .i64 y0))), (102, .r (.ro T13 y1)), (103, .r (.v (.int .i64 y2))), (104, .r (.v (.int .i64 y3)))], [(0, 0, .var 140 ((rvs (enc T17 y4)) ++ [.own 1 1])), (1, 1, .row 54 T18 y5)]⟩
mutual
def f_u12_6 (k : Nat) (b_ : T17.T) (b_22 : List (T18).T) : Nat → Int → List (T16).T → Int → Int → T17.T → List (T18).T → (List ((I).T × (RTy.bool).T)) → Option R_u12
  | 0, _, _, _, _, _, _, _ => none
  | j + 1, y0, y1, y2, y3, y4, y5, y6 =>
  bif (decide (y3 < y2)) then
  if (0 ≤ y3) ∧ (y3 < (↑y1.length : Int)) then
  none
  else none
  else
  f_u12_22 k b_ b_22 j y0 y4.2.2.2.2.2.2.2.2.2.2.2.2.2.2.2.2.2.1 ((↑ (List.length y4.2.2.2.2.2.2.2.2.2.2.2.2.2.2.2.2.2.1) : Int)) 0 y4 y5
def f_u12_22 (k : Nat) (b_ : T17.T) (b_22 : List (T18).T) : Nat → Int → List (T11).T → Int → Int → T17.T → List (T18).T → Option R_u12
  | 0, _, _, _, _, _, _ => none
  | j + 1, y0, y1, y2, y3, y4, y5 =>
  bif (decide (y3 < y2)) then
  if (0 ≤ y3) ∧ (y3 < (↑y1.length : Int)) then
  f_u12_25 k b_ b_22 j y0 y1 y2 y3 ((y1.getD y3.toNat T11.dflt).2.2) ((↑ (List.length (y1.getD y3.toNat T11.dflt).2.2) : Int)) 0 y4 y5
  else none
  else
  f_u12_31 k b_ b_22 j y0 y4.2.2.2.2.2.2.2.2.2.2.2.2.2.2.2.2.2.2.2.1 ((↑ (List.length y4.2.2.2.2.2.2.2.2.2.2.2.2.2.2.2.2.2.2.2.1) : Int)) 0 y4 y5
def f_u12_25 (k : Nat) (b_ : T17.T) (b_22 : List (T18).T) : Nat → Int → List (T11).T → Int → Int → List (I).T → Int → Int → T17.T → List (T18).T → Option R_u12
  | 0, _, _, _, _, _, _, _, _, _ => none
  | j + 1, y0, y1, y2, y3, y4, y5, y6, y7, y8 =>
  bif (decide (y6 < y5)) then
  if (0 ≤ y6) ∧ (y6 < (↑y4.length : Int)) then
  none
  else none
  else
  f_u12_22 k b_ b_22 j y0 y1 y2 ((IntKind.i64.wrap (y3 + 1))) y7 y8
def f_u12_31 (k : Nat) (b_ : T17.T) (b_22 : List (T18).T) : Nat → Int → List (T13).T → Int → Int → T17.T → List (T18).T → Option R_u12
  | 0, _, _, _, _, _, _ => none
  | j + 1, y0, y1, y2, y3, y4, y5 =>
  bif (decide (y3 < y2)) then
  if (0 ≤ y3) ∧ (y3 < (↑y1.length : Int)) then
  f_u12_31 k b_ b_22 j ((IntKind.i64.wrap (y0 + if (if 1000000000000 < (y1.getD y3.toNat T13.dflt).2.2.2 then 1000000000000 else (y1.getD y3.toNat T13.dflt).2.2.2) > 0 then if 1000000000000 < (y1.getD y3.toNat T13.dflt).2.2.2 then 1000000000000 else (y1.getD y3.toNat T13.dflt).2.2.2 else 0))) y1 y2 ((IntKind.i64.wrap (y3 + 1))) y4 y5
  else none
  else
  bif (y0 != (0 : Int)) then
  if ((f_u11 k y4 y5 11 0 y0).isSome = true) then
  some (((v_u11 k y4 y5 11 0 y0).1, (v_u11 k y4 y5 11 0 y0).2))
  else none
  else
  some ((y4, y5))
end
def f_u12 (k : Nat) (b_ : T17.T) (b_22 : List (T18).T) : Option R_u12 :=
  if ((f_u23 k b_.2.2.2.2.2.2.2.2.2.2.2.2.2.2.2.2.2.2.2.2.1 1099511627776).isSome = true) then
  bif (v_u23 k b_.2.2.2.2.2.2.2.2.2.2.2.2.2.2.2.2.2.2.2.2.1 (1099511627776 : Int) != (0 : Int)) then
  if ((f_u11 k b_ b_22 10 (v_u23 k b_.2.2.2.2.2.2.2.2.2.2.2.2.2.2.2.2.2.2.2.2.1 1099511627776) 0).isSome = true) then
  f_u12_6 k b_ b_22 k 0 ((v_u11 k b_ b_22 10 (v_u23 k b_.2.2.2.2.2.2.2.2.2.2.2.2.2.2.2.2.2.2.2.2.1 1099511627776) 0).1.2.2.2.2.2.2.2.2.2.2.2.2.2.2.2.2.2.2.2.2.2) ((↑ (List.length (v_u11 k b_ b_22 10 (v_u23 k b_.2.2.2.2.2.2.2.2.2.2.2.2.2.2.2.2.2.2.2.2.1 1099511627776) 0).1.2.2.2.2.2.2.2.2.2.2.2.2.2.2.2.2.2.2.2.2.2) : Int)) 0 ((v_u11 k b_ b_22 10 (v_u23 k b_.2.2.2.2.2.2.2.2.2.2.2.2.2.2.2.2.2.2.2.2.1 1099511627776) 0).1) ((v_u11 k b_ b_22 10 (v_u23 k b_.2.2.2.2.2.2.2.2.2.2.2.2.2.2.2.2.2.2.2.2.1 1099511627776) 0).2) ([])
  else none
  else
  f_u12_6 k b_ b_22 k 0 b_.2.2.2.2.2.2.2.2.2.2.2.2.2.2.2.2.2.2.2.2.2 ((↑ (List.length b_.2.2.2.2.2.2.2.2.2.2.2.2.2.2.2.2.2.2.2.2.2) : Int)) 0 b_ b_22 ([])
  else none
def v_u12 (k : Nat) (b_ : T17.T) (b_22 : List (T18).T) : R_u12 := (f_u12 k b_ b_22).getD ((T17).dflt, [])
def ke_u12 (k : Nat) : Ke := (60, fun xs => match xs with
  | [.ptr _ _ _] => some [true]
  | _ => none, fun xs bs => match xs, bs with
  | [.ptr 0 0 0], [.var 140 qb_, .row 54 tb_22_ qb_22] => (decS [] T17 (qb_.take 22)).bind fun b_ => (castL tb_22_ T18 qb_22).bind fun b_22 => some (.one (res_u12 (v_u12 k b_ b_22), bo_u12 b_ b_22 (v_u12 k b_ b_22)))
  | _, _ => none)
def cs_u12 : List (Nat × List Cmd) := [(6, [.autoB [0, 3, 4, 32, 33, 34] false [1]]), (14, [.autoB [0, 3, 4, 6, 32, 33, 34, 56, 57, 58] false [1]]), (22, [.autoB [0, 3, 78, 79, 80] false [1]]), (25, [.autoB [0, 3, 78, 79, 80, 85, 86, 87] false [1]]), (31, [.autoB [0, 3, 102, 103, 104] false [1]])]
abbrev E_u12 (b_ : T17.T) (b_22 : List (T18).T) (todo : List Item) (st : St) (o : Option R_u12) : Prop := ∀ r, o = some r → Ev Tryz.prog Tryz.f60 2 todo st (res_u12 r) (bo_u12 b_ b_22 r)
theorem ev_u12 (k : Nat) (b_ : T17.T) (b_22 : List (T18).T) : ∀ j, (∀ (y0 : Int) (y1 : List (T16).T) (y2 : Int) (y3 : Int) (y4 : T17.T) (y5 : List (T18).T) (y6 : List ((I).T × (RTy.bool).T)), E_u12 b_ b_22 (placeAt Tryz.f60 6) (st_u12_6 b_ b_22 y0 y1 y2 y3 y4 y5 y6) (f_u12_6 k b_ b_22 j y0 y1 y2 y3 y4 y5 y6)) ∧ (∀ (y0 : Int) (y1 : List (T11).T) (y2 : Int) (y3 : Int) (y4 : T17.T) (y5 : List (T18).T), E_u12 b_ b_22 (placeAt Tryz.f60 22) (st_u12_22 b_ b_22 y0 y1 y2 y3 y4 y5) (f_u12_22 k b_ b_22 j y0 y1 y2 y3 y4 y5)) ∧ (∀ (y0 : Int) (y1 : List (T11).T) (y2 : Int) (y3 : Int) (y4 : List (I).T) (y5 : Int) (y6 : Int) (y7 : T17.T) (y8 : List (T18).T), E_u12 b_ b_22 (placeAt Tryz.f60 25) (st_u12_25 b_ b_22 y0 y1 y2 y3 y4 y5 y6 y7 y8) (f_u12_25 k b_ b_22 j y0 y1 y2 y3 y4 y5 y6 y7 y8)) ∧ (∀ (y0 : Int) (y1 : List (T13).T) (y2 : Int) (y3 : Int) (y4 : T17.T) (y5 : List (T18).T), E_u12 b_ b_22 (placeAt Tryz.f60 31) (st_u12_31 b_ b_22 y0 y1 y2 y3 y4 y5) (f_u12_31 k b_ b_22 j y0 y1 y2 y3 y4 y5))
  | 0 => ⟨fun _ _ _ _ _ _ _ _ h => (nomatch h), fun _ _ _ _ _ _ _ h => (nomatch h), fun _ _ _ _ _ _ _ _ _ _ h => (nomatch h), fun _ _ _ _ _ _ _ h => (nomatch h)⟩
  | j + 1 => by
    have ih := @ev_u12 k b_ b_22 j
    refine ⟨?_, ?_, ?_, ?_⟩
    · intro y0 y1 y2 y3 y4 y5 y6 r h
      rw [f_u12_6] at h
      exact go (mkK [ke_u11 k, ke_u23 k]) [] cs_u12 [.autoB [] true [1]] (gT h (fun c h => gN2 h fun h => gZ h (.stuck 2001)) fun c h => gC h 22 (ih.2.1 _ _ _ _ _ _ _)) (by kernel_rfl)
    · intro y0 y1 y2 y3 y4 y5 r h
      rw [f_u12_22] at h
      exact go (mkK [ke_u11 k, ke_u23 k]) [] cs_u12 [.autoB [] true [1]] (gT h (fun c h => gN2 h fun h => gC h 25 (ih.2.2.1 _ _ _ _ _ _ _ _ _ _)) fun c h => gC h 31 (ih.2.2.2 _ _ _ _ _ _ _)) (by kernel_rfl)
    · intro y0 y1 y2 y3 y4 y5 y6 y7 y8 r h
      rw [f_u12_25] at h
      exact go (mkK [ke_u11 k, ke_u23 k]) [] cs_u12 [.autoB [] true [1]] (gT h (fun c h => gN2 h fun h => gZ h (.stuck 2003)) fun c h => gC h 22 (ih.2.1 _ _ _ _ _ _ _)) (by kernel_rfl)
    · intro y0 y1 y2 y3 y4 y5 r h
      rw [f_u12_31] at h
      exact go (mkK [ke_u11 k, ke_u23 k]) [] cs_u12 [.autoB [] true [1]] (gT h (fun c h => gN2 h fun h => gC h 31 (ih.2.2.2 _ _ _ _ _ _ _)) fun c h => gT h (fun c h => gN1 h (fun q => cc_u11 q) fun h => gL h) fun c h => gL h) (by kernel_rfl)
theorem of_u12 (k : Nat) (b_ : T17.T) (b_22 : List (T18).T) (r : R_u12) (h : f_u12 k b_ b_22 = some r) : C_u12 b_ b_22 r := by
  refine CC.of (fn := Tryz.f60) (by kernel_rfl) (by kernel_rfl) (by kernel_rfl) (by kernel_rfl) ?_
  unfold f_u12 at h
  exact go (mkK [ke_u11 k, ke_u23 k]) [] cs_u12 [.autoB [] true [1]] (gN1 h (fun q => cc_u23 q) fun h => gT h (fun c h => gN1 h (fun q => cc_u11 q) fun h => gC h 6 ((ev_u12 k b_ b_22 k).1 _ _ _ _ _ _ _ _)) fun c h => gC h 6 ((ev_u12 k b_ b_22 k).1 _ _ _ _ _ _ _ _)) (by kernel_rfl)
theorem cc_u12 {k : Nat} {b_ : T17.T} {b_22 : List (T18).T} (h : (f_u12 k b_ b_22).isSome = true) : C_u12 b_ b_22 (v_u12 k b_ b_22) := ccG (Φ := C_u12 b_ b_22) h (of_u12 k b_ b_22)
abbrev R_u2 : Type := T17.T
def res_u2 (r : R_u2) : AV := .sub 2 0 1 0 5
def bo_u2 (x_ : T17.T) (x_22 : List (T18).T) (r : R_u2) : List (Nat × Blk) := [(0, .var 140 ((rvs (enc T17 r)) ++ [.own 1 0])), (0, .row 54 T18 x_22), (0, .var 1 [.fn ((Fn.func 37)) [.ptr 0 0 0] [], .fn ((Fn.func 35)) [.ptr 0 0 0] [], .fn ((Fn.func 48)) [.ptr 0 0 0] [], .fn ((Fn.func 57)) [.ptr 0 0 0] [], .fn ((Fn.func 60)) [.ptr 0 0 0] []])]
def args_u2 (x_ : T17.T) (x_22 : List (T18).T) : List AV := [.ptr 0 0 0]
def bin_u2 (x_ : T17.T) (x_22 : List (T18).T) : List Blk := [.var 140 (rvs (enc T17 x_) ++ [.own 1 0]), .row 54 T18 x_22]
abbrev C_u2 (x_ : T17.T) (x_22 : List (T18).T) (r : R_u2) : Prop := CC Tryz.prog 66 (args_u2 x_ x_22) (bin_u2 x_ x_22) (res_u2 r) (bo_u2 x_ x_22 r)
def f_u2 (k : Nat) (x_ : T17.T) (x_22 : List (T18).T) : Option R_u2 :=
  some x_
def v_u2 (k : Nat) (x_ : T17.T) (x_22 : List (T18).T) : R_u2 := (f_u2 k x_ x_22).getD (T17).dflt
def ke_u2 (k : Nat) : Ke := (66, fun xs => match xs with
  | [.ptr _ _ _] => some [true]
  | _ => none, fun xs bs => match xs, bs with
  | [.ptr 0 0 0], [.var 140 qx_, .row 54 tx_22_ qx_22] => (decS [] T17 (qx_.take 22)).bind fun x_ => (castL tx_22_ T18 qx_22).bind fun x_22 => some (.one (res_u2 (v_u2 k x_ x_22), bo_u2 x_ x_22 (v_u2 k x_ x_22)))
  | _, _ => none)
theorem of_u2 (k : Nat) (x_ : T17.T) (x_22 : List (T18).T) (r : R_u2) (h : f_u2 k x_ x_22 = some r) : C_u2 x_ x_22 r := by
  refine CC.of (fn := Tryz.f66) (by kernel_rfl) (by kernel_rfl) (by kernel_rfl) (by kernel_rfl) ?_
  unfold f_u2 at h
  exact go (mkK [ke_u14 k, ke_u16 k, ke_u13 k, ke_u9 k, ke_u12 k]) [] [] [.autoB [2] true []] (gL h) (by kernel_rfl)
theorem cc_u2 {k : Nat} {x_ : T17.T} {x_22 : List (T18).T} (h : (f_u2 k x_ x_22).isSome = true) : C_u2 x_ x_22 (v_u2 k x_ x_22) := ccG (Φ := C_u2 x_ x_22) h (of_u2 k x_ x_22)
abbrev R_u20 : Type := List (T18).T × Int
def res_u20 (r : R_u20) : AV := .tup [.r (.ro T18 r.1), .r (.v (.int .i64 r.2))]
def bo_u20 (b_ : T17.T) (r : R_u20) : List (Nat × Blk) := []
def args_u20 (b_ : T17.T) : List AV := [.agg (rvs (enc T17 b_)), .r (.v (.func (.func 66) #[] #[]))]
def bin_u20 (b_ : T17.T) : List Blk := []
abbrev C_u20 (b_ : T17.T) (r : R_u20) : Prop := CC Tryz.prog 33 (args_u20 b_) (bin_u20 b_) (res_u20 r) (bo_u20 b_ r)
def st_u20_10005 (y0 : T17.T) (y1 : List (T18).T) : St := ⟨mkS 29 [(6, .ptr 1000000 0 0), (16, .sub 1000002 0 1 0 5), (17, .r (.v (.int .i64 5))), (18, .r (.v (.int .i64 0)))], [(1000000, 0, .var 140 ((rvs (enc T17 y0)) ++ [.own 1000001 0])), (1000001, 0, .row 54 T18 y1), (1000002, 0, .var 1 [.fn ((Fn.func 37)) [.ptr 1000000 0 0] [], .fn ((Fn.func 35)) [.ptr 1000000 0 0] [], .fn ((Fn.func 48)) [.ptr 1000000 0 0] [], .fn ((Fn.func 57)) [.ptr 1000000 0 0] [], .fn ((Fn.func 60)) [.ptr 1000000 0 0] []])]⟩
def st_u20_20005 (y0 : T17.T) (y1 : List (T18).T) : St := ⟨mkS 29 [(6, .ptr 1000000 0 0), (16, .sub 1000002 0 1 0 5), (17, .r (.v (.int .i64 5))), (18, .r (.v (.int .i64 1)))], [(1000000, 0, .var 140 ((rvs (enc T17 y0)) ++ [.own 1000001 0])), (1000001, 0, .row 54 T18 y1), (1000002, 0, .var 1 [.fn ((Fn.func 37)) [.ptr 1000000 0 0] [], .fn ((Fn.func 35)) [.ptr 1000000 0 0] [], .fn ((Fn.func 48)) [.ptr 1000000 0 0] [], .fn ((Fn.func 57)) [.ptr 1000000 0 0] [], .fn ((Fn.func 60)) [.ptr 1000000 0 0] []])]⟩
def st_u20_30005 (y0 : T17.T) (y1 : List (T18).T) : St := ⟨mkS 29 [(6, .ptr 1000000 0 0), (16, .sub 1000002 0 1 0 5), (17, .r (.v (.int .i64 5))), (18, .r (.v (.int .i64 2)))], [(1000000, 0, .var 140 ((rvs (enc T17 y0)) ++ [.own 1000001 0])), (1000001, 0, .row 54 T18 y1), (1000002, 0, .var 1 [.fn ((Fn.func 37)) [.ptr 1000000 0 0] [], .fn ((Fn.func 35)) [.ptr 1000000 0 0] [], .fn ((Fn.func 48)) [.ptr 1000000 0 0] [], .fn ((Fn.func 57)) [.ptr 1000000 0 0] [], .fn ((Fn.func 60)) [.ptr 1000000 0 0] []])]⟩
def st_u20_40005 (y0 : T17.T) (y1 : List (T18).T) : St := ⟨mkS 29 [(6, .ptr 1000000 0 0), (16, .sub 1000002 0 1 0 5), (17, .r (.v (.int .i64 5))), (18, .r (.v (.int .i64 3)))], [(1000000, 0, .var 140 ((rvs (enc T17 y0)) ++ [.own 1000001 0])), (1000001, 0, .row 54 T18 y1), (1000002, 0, .var 1 [.fn ((Fn.func 37)) [.ptr 1000000 0 0] [], .fn ((Fn.func 35)) [.ptr 1000000 0 0] [], .fn ((Fn.func 48)) [.ptr 1000000 0 0] [], .fn ((Fn.func 57)) [.ptr 1000000 0 0] [], .fn ((Fn.func 60)) [.ptr 1000000 0 0] []])]⟩
def st_u20_50005 (y0 : T17.T) (y1 : List (T18).T) : St := ⟨mkS 29 [(6, .ptr 1000000 0 0), (16, .sub 1000002 0 1 0 5), (17, .r (.v (.int .i64 5))), (18, .r (.v (.int .i64 4)))], [(1000000, 0, .var 140 ((rvs (enc T17 y0)) ++ [.own 1000001 0])), (1000001, 0, .row 54 T18 y1), (1000002, 0, .var 1 [.fn ((Fn.func 37)) [.ptr 1000000 0 0] [], .fn ((Fn.func 35)) [.ptr 1000000 0 0] [], .fn ((Fn.func 48)) [.ptr 1000000 0 0] [], .fn ((Fn.func 57)) [.ptr 1000000 0 0] [], .fn ((Fn.func 60)) [.ptr 1000000 0 0] []])]⟩
def st_u20_60005 (y0 : T17.T) (y1 : List (T18).T) : St := ⟨mkS 29 [(6, .ptr 1000000 0 0), (16, .sub 1000002 0 1 0 5), (17, .r (.v (.int .i64 5))), (18, .r (.v (.int .i64 5)))], [(1000000, 0, .var 140 ((rvs (enc T17 y0)) ++ [.own 1000001 0])), (1000001, 0, .row 54 T18 y1), (1000002, 0, .var 1 [.fn ((Fn.func 37)) [.ptr 1000000 0 0] [], .fn ((Fn.func 35)) [.ptr 1000000 0 0] [], .fn ((Fn.func 48)) [.ptr 1000000 0 0] [], .fn ((Fn.func 57)) [.ptr 1000000 0 0] [], .fn ((Fn.func 60)) [.ptr 1000000 0 0] []])]⟩
mutual
def f_u20_10005 (k : Nat) : Nat → T17.T → List (T18).T → Option R_u20
  | 0, _, _ => none
  | j + 1, y0, y1 =>
  if ((0 : Int) ≤ (0 : Int)) ∧ ((0 : Int) < (↑ (5 : Nat) : Int)) then
  if ((f_u16 k y0 y1).isSome = true) then
  f_u20_20005 k j ((v_u16 k y0 y1).1) ((v_u16 k y0 y1).2)
  else none
  else none
def f_u20_20005 (k : Nat) : Nat → T17.T → List (T18).T → Option R_u20
  | 0, _, _ => none
  | j + 1, y0, y1 =>
  if ((0 : Int) ≤ (1 : Int)) ∧ ((1 : Int) < (↑ (5 : Nat) : Int)) then
  if ((f_u14 k y0 y1).isSome = true) then
  f_u20_30005 k j ((v_u14 k y0 y1).1) ((v_u14 k y0 y1).2)
  else none
  else none
def f_u20_30005 (k : Nat) : Nat → T17.T → List (T18).T → Option R_u20
  | 0, _, _ => none
  | j + 1, y0, y1 =>
  if ((0 : Int) ≤ (2 : Int)) ∧ ((2 : Int) < (↑ (5 : Nat) : Int)) then
  if ((f_u13 k y0 y1).isSome = true) then
  f_u20_40005 k j ((v_u13 k y0 y1).1) ((v_u13 k y0 y1).2)
  else none
  else none
def f_u20_40005 (k : Nat) : Nat → T17.T → List (T18).T → Option R_u20
  | 0, _, _ => none
  | j + 1, y0, y1 =>
  if ((0 : Int) ≤ (3 : Int)) ∧ ((3 : Int) < (↑ (5 : Nat) : Int)) then
  if ((f_u9 k y0 y1).isSome = true) then
  f_u20_50005 k j ((v_u9 k y0 y1).1) ((v_u9 k y0 y1).2)
  else none
  else none
def f_u20_50005 (k : Nat) : Nat → T17.T → List (T18).T → Option R_u20
  | 0, _, _ => none
  | j + 1, y0, y1 =>
  if ((0 : Int) ≤ (4 : Int)) ∧ ((4 : Int) < (↑ (5 : Nat) : Int)) then
  if ((f_u12 k y0 y1).isSome = true) then
  f_u20_60005 k j ((v_u12 k y0 y1).1) ((v_u12 k y0 y1).2)
  else none
  else none
def f_u20_60005 (k : Nat) : Nat → T17.T → List (T18).T → Option R_u20
  | 0, _, _ => none
  | j + 1, y0, y1 =>
  some ((y1, 0))
end
def f_u20 (k : Nat) (b_ : T17.T) : Option R_u20 :=
  if ((f_u17 k b_).isSome = true) then
  bif (v_u17 k b_) then
  some (([], 8))
  else
  if ((f_u2 k b_ []).isSome = true) then
  f_u20_10005 k k ((v_u2 k b_ [])) ([])
  else none
  else none
def v_u20 (k : Nat) (b_ : T17.T) : R_u20 := (f_u20 k b_).getD ([], 0)
def ke_u20 (k : Nat) : Ke := (33, fun xs => match xs with
  | [_, .r (.v (.func (.func 66) _ _))] => some [false, false]
  | _ => none, fun xs bs => match xs, bs with
  | [.agg qb_, .r (.v (.func (.func 66) _ _))], [] => (decS [] T17 qb_).bind fun b_ => some (.one (res_u20 (v_u20 k b_), bo_u20 b_ (v_u20 k b_)))
  | _, _ => none)
def K_u20 (k : Nat) : Calld := mkK [ke_u17 k, ke_u14 k, ke_u16 k, ke_u13 k, ke_u9 k, ke_u12 k, ke_u2 k]
def cs_u20 : List (Nat × List Cmd) := [(5, [.key 18, .autoB [6, 16, 17, 18] false []])]
abbrev E_u20 (b_ : T17.T) (todo : List Item) (st : St) (o : Option R_u20) : Prop := ∀ r, o = some r → Ev Tryz.prog Tryz.f33 0 todo st (res_u20 r) (bo_u20 b_ r)
theorem ev_u20 (k : Nat) (b_ : T17.T) : ∀ j, (∀ (y0 : T17.T) (y1 : List (T18).T), E_u20 b_ (placeAt Tryz.f33 5) (st_u20_10005 y0 y1) (f_u20_10005 k j y0 y1)) ∧ (∀ (y0 : T17.T) (y1 : List (T18).T), E_u20 b_ (placeAt Tryz.f33 5) (st_u20_20005 y0 y1) (f_u20_20005 k j y0 y1)) ∧ (∀ (y0 : T17.T) (y1 : List (T18).T), E_u20 b_ (placeAt Tryz.f33 5) (st_u20_30005 y0 y1) (f_u20_30005 k j y0 y1)) ∧ (∀ (y0 : T17.T) (y1 : List (T18).T), E_u20 b_ (placeAt Tryz.f33 5) (st_u20_40005 y0 y1) (f_u20_40005 k j y0 y1)) ∧ (∀ (y0 : T17.T) (y1 : List (T18).T), E_u20 b_ (placeAt Tryz.f33 5) (st_u20_50005 y0 y1) (f_u20_50005 k j y0 y1)) ∧ (∀ (y0 : T17.T) (y1 : List (T18).T), E_u20 b_ (placeAt Tryz.f33 5) (st_u20_60005 y0 y1) (f_u20_60005 k j y0 y1))
  | 0 => ⟨fun _ _ _ h => (nomatch h), fun _ _ _ h => (nomatch h), fun _ _ _ h => (nomatch h), fun _ _ _ h => (nomatch h), fun _ _ _ h => (nomatch h), fun _ _ _ h => (nomatch h)⟩
  | j + 1 => by
    have ih := @ev_u20 k b_ j
    refine ⟨?_, ?_, ?_, ?_, ?_, ?_⟩
    · intro y0 y1 r h
      rw [f_u20_10005] at h
      exact go (K_u20 k) [] cs_u20 [.frz 4 false (RTy.list T18), .autoB [4, 5] true []] (gU1 h (.leaf (.tup [.r (.ro T18 y1), .r (.v (.int .i64 0))]) []) fun h => gN2 h fun h => gN1 h (fun q => cc_u16 q) fun h => gC h 20005 (ih.2.1 _ _ _)) (by kernel_rfl)
    · intro y0 y1 r h
      rw [f_u20_20005] at h
      exact go (K_u20 k) [] cs_u20 [.frz 4 false (RTy.list T18), .autoB [4, 5] true []] (gU1 h (.leaf (.tup [.r (.ro T18 y1), .r (.v (.int .i64 0))]) []) fun h => gN2 h fun h => gN1 h (fun q => cc_u14 q) fun h => gC h 30005 (ih.2.2.1 _ _ _)) (by kernel_rfl)
    · intro y0 y1 r h
      rw [f_u20_30005] at h
      exact go (K_u20 k) [] cs_u20 [.frz 4 false (RTy.list T18), .autoB [4, 5] true []] (gU1 h (.leaf (.tup [.r (.ro T18 y1), .r (.v (.int .i64 0))]) []) fun h => gN2 h fun h => gN1 h (fun q => cc_u13 q) fun h => gC h 40005 (ih.2.2.2.1 _ _ _)) (by kernel_rfl)
    · intro y0 y1 r h
      rw [f_u20_40005] at h
      exact go (K_u20 k) [] cs_u20 [.frz 4 false (RTy.list T18), .autoB [4, 5] true []] (gU1 h (.leaf (.tup [.r (.ro T18 y1), .r (.v (.int .i64 0))]) []) fun h => gN2 h fun h => gN1 h (fun q => cc_u9 q) fun h => gC h 50005 (ih.2.2.2.2.1 _ _ _)) (by kernel_rfl)
    · intro y0 y1 r h
      rw [f_u20_50005] at h
      exact go (K_u20 k) [] cs_u20 [.frz 4 false (RTy.list T18), .autoB [4, 5] true []] (gU1 h (.leaf (.tup [.r (.ro T18 y1), .r (.v (.int .i64 0))]) []) fun h => gN2 h fun h => gN1 h (fun q => cc_u12 q) fun h => gC h 60005 (ih.2.2.2.2.2 _ _ _)) (by kernel_rfl)
    · intro y0 y1 r h
      rw [f_u20_60005] at h
      exact go (K_u20 k) [] cs_u20 [.frz 4 false (RTy.list T18), .autoB [4, 5] true []] (gU2 h (.stuck 5001) fun h => gL h) (by kernel_rfl)
theorem of_u20 (k : Nat) (b_ : T17.T) (r : R_u20) (h : f_u20 k b_ = some r) : C_u20 b_ r := by
  refine CC.of (fn := Tryz.f33) (by kernel_rfl) (by kernel_rfl) (by kernel_rfl) (by kernel_rfl) ?_
  unfold f_u20 at h
  exact go (K_u20 k) [] cs_u20 [.frz 4 false (RTy.list T18), .autoB [4, 5] true []] (gN1 h (fun q => cc_u17 q) fun h => gT h (fun c h => gL h) fun c h => gN1 h (fun q => cc_u2 q) fun h => gC h 10005 ((ev_u20 k b_ k).1 _ _ _)) (by kernel_rfl)
theorem cc_u20 {k : Nat} {b_ : T17.T} (h : (f_u20 k b_).isSome = true) : C_u20 b_ (v_u20 k b_) := ccG (Φ := C_u20 b_) h (of_u20 k b_)
abbrev R_u1 : Type := List (T18).T × Int
def res_u1 (r : R_u1) : AV := .tup [.r (.ro T18 r.1), .r (.v (.int .i64 r.2))]
def bo_u1 (b_ : T17.T) (r : R_u1) : List (Nat × Blk) := []
def args_u1 (b_ : T17.T) : List AV := [.agg (rvs (enc T17 b_))]
def bin_u1 (b_ : T17.T) : List Blk := []
abbrev C_u1 (b_ : T17.T) (r : R_u1) : Prop := CC Tryz.prog 28 (args_u1 b_) (bin_u1 b_) (res_u1 r) (bo_u1 b_ r)
def f_u1 (k : Nat) (b_ : T17.T) : Option R_u1 :=
  if ((f_u20 k b_).isSome = true) then
  some (((v_u20 k b_).1, (v_u20 k b_).2))
  else none
def v_u1 (k : Nat) (b_ : T17.T) : R_u1 := (f_u1 k b_).getD ([], 0)
def ke_u1 (k : Nat) : Ke := (28, fun xs => match xs with
  | [_] => some [false]
  | _ => none, fun xs bs => match xs, bs with
  | [.agg qb_], [] => (decS [] T17 qb_).bind fun b_ => some (.one (res_u1 (v_u1 k b_), bo_u1 b_ (v_u1 k b_)))
  | _, _ => none)
theorem of_u1 (k : Nat) (b_ : T17.T) (r : R_u1) (h : f_u1 k b_ = some r) : C_u1 b_ r := by
  refine CC.of (fn := Tryz.f28) (by kernel_rfl) (by kernel_rfl) (by kernel_rfl) (by kernel_rfl) ?_
  unfold f_u1 at h
  exact go (mkK [ke_u2 k, ke_u20 k]) [] [] [.frz 2 false (RTy.list T18), .autoB [2, 3] true []] (gN1 h (fun q => cc_u20 q) fun h => gL h) (by kernel_rfl)
theorem cc_u1 {k : Nat} {b_ : T17.T} (h : (f_u1 k b_).isSome = true) : C_u1 b_ (v_u1 k b_) := ccG (Φ := C_u1 b_) h (of_u1 k b_)
abbrev R_u45 : Type := T17.T
def res_u45 (r : R_u45) : AV := .agg (rvs (enc T17 r))
def bo_u45 (used_ : Int) (r : R_u45) : List (Nat × Blk) := []
def args_u45 (used_ : Int) : List AV := [.r (.v (.int .i64 used_))]
def bin_u45 (used_ : Int) : List Blk := []
abbrev C_u45 (used_ : Int) (r : R_u45) : Prop := CC Tryz.prog 32 (args_u45 used_) (bin_u45 used_) (res_u45 r) (bo_u45 used_ r)
def f_u45 (k : Nat) (used_ : Int) : Option R_u45 :=
  some ((0, (10, (100, (100, (10, (0, (0, ([], ([], ([(0, 100, 1, 0, 0)], ([], ([(1, 0, 0, 10, false, [(0, 100, false)])], ([used_], ([], ([], ([], ([], ([], ([], ([], ([], []))))))))))))))))))))))
def v_u45 (k : Nat) (used_ : Int) : R_u45 := (f_u45 k used_).getD (T17).dflt
def ke_u45 (k : Nat) : Ke := (32, fun xs => match xs with
  | [_] => some [false]
  | _ => none, fun xs bs => match xs, bs with
  | [.r (.v (.int .i64 used_))], [] => some (.one (res_u45 (v_u45 k used_), bo_u45 used_ (v_u45 k used_)))
  | _, _ => none)
theorem of_u45 (k : Nat) (used_ : Int) (r : R_u45) (h : f_u45 k used_ = some r) : C_u45 used_ r := by
  refine CC.of (fn := Tryz.f32) (by kernel_rfl) (by kernel_rfl) (by kernel_rfl) (by kernel_rfl) ?_
  unfold f_u45 at h
  exact go (mkK []) [] [] [.frz 2 true T17, .autoB [2] true []] (gL h) (by kernel_rfl)
theorem cc_u45 {k : Nat} {used_ : Int} (h : (f_u45 k used_).isSome = true) : C_u45 used_ (v_u45 k used_) := ccG (Φ := C_u45 used_) h (of_u45 k used_)
def bs_H62_u42_0 : ByteArray := ByteArray.mk #[114, 111, 108, 108, 32, 55, 58, 32, 101, 114, 114, 111, 114, 32, 49]
abbrev R_u42 : Type := Bool
def res_u42 (r : R_u42) : AV := .r (.v (.bool r))
def bo_u42  (r : R_u42) : List (Nat × Blk) := []
def args_u42  : List AV := []
def bin_u42  : List Blk := []
abbrev C_u42  (r : R_u42) : Prop := CC Tryz.prog 13 (args_u42 ) (bin_u42 ) (res_u42 r) (bo_u42  r)
def f_u42 (k : Nat)  : Option R_u42 :=
  if ((f_u45 k 0).isSome = true) ∧ ((f_u1 k (v_u45 k 0)).isSome = true) then
  if ((f_u45 k 30).isSome = true) ∧ ((f_u3 k (v_u45 k 30)).isSome = true) then
  if ((f_u45 k 0).isSome = true) then
  if ((f_u6 k ((v_u45 k 0).1, (v_u45 k 0).2.1, (v_u45 k 0).2.2.1, (v_u45 k 0).2.2.2.1, (v_u45 k 0).2.2.2.2.1, (v_u45 k 0).2.2.2.2.2.1, (v_u45 k 0).2.2.2.2.2.2.1, (v_u45 k 0).2.2.2.2.2.2.2.1, (v_u45 k 0).2.2.2.2.2.2.2.2.1, (v_u45 k 0).2.2.2.2.2.2.2.2.2.1, (v_u45 k 0).2.2.2.2.2.2.2.2.2.2.1, [], [], (v_u45 k 0).2.2.2.2.2.2.2.2.2.2.2.2.2)).isSome = true) then
  if ((f_u5 k (3, 7, 1)).isSome = true) then
  bif ((v_u1 k (v_u45 k (0 : Int))).2 != (0 : Int) || (v_u3 k (v_u45 k (30 : Int))).2 != (0 : Int) || (v_u6 k ((v_u45 k (0 : Int)).1, (v_u45 k (0 : Int)).2.1, (v_u45 k (0 : Int)).2.2.1, (v_u45 k (0 : Int)).2.2.2.1, (v_u45 k (0 : Int)).2.2.2.2.1, (v_u45 k (0 : Int)).2.2.2.2.2.1, (v_u45 k (0 : Int)).2.2.2.2.2.2.1, (v_u45 k (0 : Int)).2.2.2.2.2.2.2.1, (v_u45 k (0 : Int)).2.2.2.2.2.2.2.2.1, (v_u45 k (0 : Int)).2.2.2.2.2.2.2.2.2.1, (v_u45 k (0 : Int)).2.2.2.2.2.2.2.2.2.2.1, [], [], (v_u45 k (0 : Int)).2.2.2.2.2.2.2.2.2.2.2.2.2)).2 != (0 : Int) || (v_u5 k ((3 : Int), (7 : Int), (1 : Int))).2 != (0 : Int) || (↑ (v_u1 k (v_u45 k (0 : Int))).1.length : Int) != (0 : Int) || (↑ (v_u3 k (v_u45 k (30 : Int))).1.length : Int) != (1 : Int) || (↑ (v_u6 k ((v_u45 k (0 : Int)).1, (v_u45 k (0 : Int)).2.1, (v_u45 k (0 : Int)).2.2.1, (v_u45 k (0 : Int)).2.2.2.1, (v_u45 k (0 : Int)).2.2.2.2.1, (v_u45 k (0 : Int)).2.2.2.2.2.1, (v_u45 k (0 : Int)).2.2.2.2.2.2.1, (v_u45 k (0 : Int)).2.2.2.2.2.2.2.1, (v_u45 k (0 : Int)).2.2.2.2.2.2.2.2.1, (v_u45 k (0 : Int)).2.2.2.2.2.2.2.2.2.1, (v_u45 k (0 : Int)).2.2.2.2.2.2.2.2.2.2.1, [], [], (v_u45 k (0 : Int)).2.2.2.2.2.2.2.2.2.2.2.2.2)).1.length : Int) != (1 : Int)) then
  some false
  else
  if ((0 : Int) ≤ (0 : Int)) ∧ ((0 : Int) < (↑ (v_u3 k (v_u45 k (30 : Int))).1.length : Int)) ∧ (eqT T18 ((v_u3 k (v_u45 k (30 : Int))).1.getD (Int.toNat (0 : Int)) T18.dflt) ((4 : Int), (-300 : Int), (0 : Int)) = true → (0 : Int) ≤ (0 : Int)) ∧ (eqT T18 ((v_u3 k (v_u45 k (30 : Int))).1.getD (Int.toNat (0 : Int)) T18.dflt) ((4 : Int), (-300 : Int), (0 : Int)) = true → (0 : Int) < (↑ (v_u6 k ((v_u45 k (0 : Int)).1, (v_u45 k (0 : Int)).2.1, (v_u45 k (0 : Int)).2.2.1, (v_u45 k (0 : Int)).2.2.2.1, (v_u45 k (0 : Int)).2.2.2.2.1, (v_u45 k (0 : Int)).2.2.2.2.2.1, (v_u45 k (0 : Int)).2.2.2.2.2.2.1, (v_u45 k (0 : Int)).2.2.2.2.2.2.2.1, (v_u45 k (0 : Int)).2.2.2.2.2.2.2.2.1, (v_u45 k (0 : Int)).2.2.2.2.2.2.2.2.2.1, (v_u45 k (0 : Int)).2.2.2.2.2.2.2.2.2.2.1, [], [], (v_u45 k (0 : Int)).2.2.2.2.2.2.2.2.2.2.2.2.2)).1.length : Int)) then
  some (eqT T18 ((v_u3 k (v_u45 k 30)).1.getD (Int.toNat 0) T18.dflt) (4, (-300), 0) && eqT T18 ((v_u6 k ((v_u45 k 0).1, (v_u45 k 0).2.1, (v_u45 k 0).2.2.1, (v_u45 k 0).2.2.2.1, (v_u45 k 0).2.2.2.2.1, (v_u45 k 0).2.2.2.2.2.1, (v_u45 k 0).2.2.2.2.2.2.1, (v_u45 k 0).2.2.2.2.2.2.2.1, (v_u45 k 0).2.2.2.2.2.2.2.2.1, (v_u45 k 0).2.2.2.2.2.2.2.2.2.1, (v_u45 k 0).2.2.2.2.2.2.2.2.2.2.1, [], [], (v_u45 k 0).2.2.2.2.2.2.2.2.2.2.2.2.2)).1.getD (Int.toNat 0) T18.dflt) (2, 0, 0) && (v_u5 k (3, 7, 1)).1.toList == bs_H62_u42_0.toList)
  else none
  else none
  else none
  else none
  else none
  else none
def v_u42 (k : Nat)  : R_u42 := (f_u42 k ).getD false
def ke_u42 (k : Nat) : Ke := (13, fun xs => match xs with
  | [] => some []
  | _ => none, fun xs bs => match xs, bs with
  | [], [] => some (.one (res_u42 (v_u42 k ), bo_u42  (v_u42 k )))
  | _, _ => none)
theorem of_u42 (k : Nat)  (r : R_u42) (h : f_u42 k  = some r) : C_u42  r := by
  refine CC.of (fn := Tryz.f13) (by kernel_rfl) (by kernel_rfl) (by kernel_rfl) (by kernel_rfl) ?_
  unfold f_u42 at h
  exact go (mkK [ke_u3 k, ke_u6 k, ke_u5 k, ke_u1 k, ke_u45 k]) [] [] [.autoB [0] true []] (gN h (fun q => conjC (cc_u45 q.1) (conjC (cc_u1 q.2) conj0)) fun h => gN h (fun q => conjC (cc_u45 q.1) (conjC (cc_u3 q.2) conj0)) fun h => gN1 h (fun q => cc_u45 q) fun h => gN1 h (fun q => cc_u6 q) fun h => gN1 h (fun q => cc_u5 q) fun h => gT h (fun c h => gL h) fun c h => gN h (fun q => conjC q.1 (conjC q.2.1 (conjC q.2.2.1 (conjC q.2.2.2 conj0)))) fun h => gL h) (by kernel_rfl)
theorem cc_u42 {k : Nat}  (h : (f_u42 k ).isSome = true) : C_u42  (v_u42 k ) := ccG (Φ := C_u42 ) h (of_u42 k )
abbrev R_u43 : Type := Bool
def res_u43 (r : R_u43) : AV := .r (.v (.bool r))
def bo_u43 (a_ : List (T18).T) (b_ : List (T18).T) (r : R_u43) : List (Nat × Blk) := []
def args_u43 (a_ : List (T18).T) (b_ : List (T18).T) : List AV := [.r (.ro T18 a_), .r (.ro T18 b_)]
def bin_u43 (a_ : List (T18).T) (b_ : List (T18).T) : List Blk := []
abbrev C_u43 (a_ : List (T18).T) (b_ : List (T18).T) (r : R_u43) : Prop := CC Tryz.prog 17 (args_u43 a_ b_) (bin_u43 a_ b_) (res_u43 r) (bo_u43 a_ b_ r)
def st_u43_4 (y0 : List (T18).T) (y1 : List (T18).T) (y2 : Int) (y3 : Int) : St := ⟨mkS 26 [(0, .r (.ro T18 y0)), (1, .r (.ro T18 y1)), (12, .r (.v (.int .i64 y2))), (13, .r (.v (.int .i64 y3)))], []⟩
def f_u43_4 (k : Nat) : Nat → List (T18).T → List (T18).T → Int → Int → Option R_u43
  | 0, _, _, _, _ => none
  | j + 1, y0, y1, y2, y3 =>
  bif (decide (y3 < y2)) then
  if (0 ≤ y3) ∧ (y3 < (↑y0.length : Int)) ∧ (0 ≤ y3) ∧ (y3 < (↑y1.length : Int)) then
  bif (!eqT T18 (y0.getD y3.toNat T18.dflt) (y1.getD y3.toNat T18.dflt)) then
  some false
  else
  f_u43_4 k j y0 y1 y2 ((IntKind.i64.wrap (y3 + 1)))
  else none
  else
  some true
def f_u43 (k : Nat) (a_ : List (T18).T) (b_ : List (T18).T) : Option R_u43 :=
  bif ((↑a_.length : Int) != (↑b_.length : Int)) then
  some false
  else
  f_u43_4 k k a_ b_ ((↑a_.length : Int)) 0
def v_u43 (k : Nat) (a_ : List (T18).T) (b_ : List (T18).T) : R_u43 := (f_u43 k a_ b_).getD false
def ke_u43 (k : Nat) : Ke := (17, fun xs => match xs with
  | [_, _] => some [false, false]
  | _ => none, fun xs bs => match xs, bs with
  | [.r (.ro ta__ qa_), .r (.ro tb__ qb_)], [] => (castL ta__ T18 qa_).bind fun a_ => (castL tb__ T18 qb_).bind fun b_ => some (.one (res_u43 (v_u43 k a_ b_), bo_u43 a_ b_ (v_u43 k a_ b_)))
  | _, _ => none)
def cs_u43 : List (Nat × List Cmd) := [(4, [.autoB [0, 1, 12, 13] false []])]
abbrev E_u43 (a_ : List (T18).T) (b_ : List (T18).T) (todo : List Item) (st : St) (o : Option R_u43) : Prop := ∀ r, o = some r → Ev Tryz.prog Tryz.f17 0 todo st (res_u43 r) (bo_u43 a_ b_ r)
theorem ev_u43 (k : Nat) (a_ : List (T18).T) (b_ : List (T18).T) : ∀ j, (∀ (y0 : List (T18).T) (y1 : List (T18).T) (y2 : Int) (y3 : Int), E_u43 a_ b_ (placeAt Tryz.f17 4) (st_u43_4 y0 y1 y2 y3) (f_u43_4 k j y0 y1 y2 y3))
  | 0 => fun _ _ _ _ _ h => (nomatch h)
  | j + 1 => by
    have ih := @ev_u43 k a_ b_ j
    · intro y0 y1 y2 y3 r h
      rw [f_u43_4] at h
      exact go (mkK []) [] cs_u43 [.autoB [4] true []] (gT h (fun c h => gN h (fun q => conjC q.1 (conjC q.2.1 (conjC q.2.2.1 (conjC q.2.2.2 conj0)))) fun h => gT h (fun c h => gL h) fun c h => gC h 4 (ih _ _ _ _ _)) fun c h => gL h) (by kernel_rfl)
theorem of_u43 (k : Nat) (a_ : List (T18).T) (b_ : List (T18).T) (r : R_u43) (h : f_u43 k a_ b_ = some r) : C_u43 a_ b_ r := by
  refine CC.of (fn := Tryz.f17) (by kernel_rfl) (by kernel_rfl) (by kernel_rfl) (by kernel_rfl) ?_
  unfold f_u43 at h
  exact go (mkK []) [] cs_u43 [.autoB [4] true []] (gT h (fun c h => gL h) fun c h => gC h 4 ((ev_u43 k a_ b_ k) _ _ _ _ _)) (by kernel_rfl)
theorem cc_u43 {k : Nat} {a_ : List (T18).T} {b_ : List (T18).T} (h : (f_u43 k a_ b_).isSome = true) : C_u43 a_ b_ (v_u43 k a_ b_) := ccG (Φ := C_u43 a_ b_) h (of_u43 k a_ b_)
abbrev R_u41 : Type := Bool
def res_u41 (r : R_u41) : AV := .r (.v (.bool r))
def bo_u41 (b_ : T17.T) (r : R_u41) : List (Nat × Blk) := []
def args_u41 (b_ : T17.T) : List AV := [.agg (rvs (enc T17 b_))]
def bin_u41 (b_ : T17.T) : List Blk := []
abbrev C_u41 (b_ : T17.T) (r : R_u41) : Prop := CC Tryz.prog 4 (args_u41 b_) (bin_u41 b_) (res_u41 r) (bo_u41 b_ r)
def f_u41 (k : Nat) (b_ : T17.T) : Option R_u41 :=
  if ((f_u44 k b_).isSome = true) then
  bif (v_u44 k b_) then
  if ((f_u42 k ).isSome = true) then
  some (v_u42 k)
  else none
  else
  if ((f_u6 k b_).isSome = true) then
  if ((f_u53 k b_).isSome = true) then
  bif ((v_u6 k b_).2 == (v_u53 k b_).2) then
  bif (true && v_u43 k (v_u6 k b_).1 (v_u53 k b_).1) then
  if (((v_u6 k b_).2 == (v_u53 k b_).2) = true) ∧ ((f_u43 k (v_u6 k b_).1 (v_u53 k b_).1).isSome = true) ∧ ((true && v_u43 k (v_u6 k b_).1 (v_u53 k b_).1) = true) ∧ ((f_u42 k ).isSome = true) then
  some (true && v_u42 k)
  else none
  else
  if (((v_u6 k b_).2 == (v_u53 k b_).2) = true) ∧ ((f_u43 k (v_u6 k b_).1 (v_u53 k b_).1).isSome = true) ∧ ((true && v_u43 k (v_u6 k b_).1 (v_u53 k b_).1) = false) then
  some false
  else none
  else
  if (((v_u6 k b_).2 == (v_u53 k b_).2) = false) ∧ (false = false) then
  some false
  else none
  else none
  else none
  else none
theorem of_u41 (k : Nat) (b_ : T17.T) (r : R_u41) (h : f_u41 k b_ = some r) : C_u41 b_ r := by
  refine CC.of (fn := Tryz.f4) (by kernel_rfl) (by kernel_rfl) (by kernel_rfl) (by kernel_rfl) ?_
  unfold f_u41 at h
  exact go (mkK [ke_u44 k, ke_u6 k, ke_u42 k, ke_u53 k, ke_u43 k]) [] [] [.autoB [2] true []] (gN1 h (fun q => cc_u44 q) fun h => gT h (fun c h => gN1 h (fun q => cc_u42 q) fun h => gL h) fun c h => gN1 h (fun q => cc_u6 q) fun h => gN1 h (fun q => cc_u53 q) fun h => gT h (fun c h => gT h (fun c h => gN h (fun q => conjC q.1 (conjC (cc_u43 q.2.1) (conjC q.2.2.1 (conjC (cc_u42 q.2.2.2) conj0)))) fun h => gL h) fun c h => gN h (fun q => conjC q.1 (conjC (cc_u43 q.2.1) (conjC q.2.2 conj0))) fun h => gL h) fun c h => gU2 h (.need [((v_u6 k b_).2 == (v_u53 k b_).2) = false, false = true, CC Tryz.prog 13 (args_u42 ) (bin_u42 ) (res_u42 (v_u42 k )) (bo_u42  (v_u42 k ))] (.leaf (.r (.v (.bool ((true && v_u42 k))))) [])) fun h => gN2 h fun h => gL h) (by kernel_rfl)
end
/-! ### the law of Web -/
theorem eqT_fd (p : Fnd) : eqT T18 p p = true := by
  show ((p.1 == p.1) && ((p.2.1 == p.2.1) && (p.2.2 == p.2.2))) = true
  rw [beq_self_eq_true, beq_self_eq_true, beq_self_eq_true]; rfl
theorem findings_4 (k : Nat) (l : List Fnd) (hl : l.length ≤ 1000000) : ∀ (d i j : Nat), i + d = l.length → d < j → f_u43_4 k j l l (l.length : Int) (i : Int) = some true := by
  intro d
  induction d with
  | zero =>
    intro i j hi hj
    obtain ⟨j, rfl⟩ : ∃ q, j = q + 1 := ⟨j - 1, by omega⟩
    rw [f_u43_4, decide_eq_false (by omega : ¬ (i : Int) < (l.length : Int)), cond_false]
  | succ d ih =>
    intro i j hi hj
    obtain ⟨j, rfl⟩ : ∃ q, j = q + 1 := ⟨j - 1, by omega⟩
    rw [f_u43_4, decide_eq_true (by omega : (i : Int) < (l.length : Int)), cond_true, if_pos ⟨by omega, by omega, by omega, by omega⟩, wrapS i (by omega), eqT_fd]
    exact ih (i + 1) j (by omega) (by omega)
theorem findings_s (k : Nat) (l : List Fnd) (hl : l.length ≤ 1000000) (hk : l.length < k) : f_u43 k l l = some true := by
  unfold f_u43
  rw [bne_self_eq_false, cond_false]
  exact findings_4 k l hl l.length 0 k (by omega) (by omega)
theorem findings_v (k : Nat) (l : List Fnd) (hl : l.length ≤ 1000000) (hk : l.length < k) : v_u43 k l l = true := by
  unfold v_u43; rw [findings_s k l hl hk]; rfl
theorem great_w (k : Nat) (hk : 100 ≤ k) (b : T17.T) (hw : Wf T17 b) : ∃ r : Bool, f_u44 k b = some r ∧ (r = false → GB b) :=
  great_s k hk b (hw.2.2.2.2.2.2.2.2.2.2.2.2.2.2.2.1).1 (hw.2.2.2.2.2.2.2.2.2.2.2.2.2.2.2.2.2.1).1 (hw.2.2.2.2.2.2.2.2.2.2.2.1).1 (hw.2.2.2.2.2.2.2.2.1).1
theorem q_AuditWeb (k : Nat) (hk : 60000 ≤ k) (aw : f_u42 k = some true) (b : T17.T) (hw : Wf T17 b) : f_u41 k b = some true := by
  obtain ⟨r, h1, h2⟩ := great_w k (by omega) b hw
  have av : v_u42 k = true := by unfold v_u42; rw [aw]; rfl
  have gv : v_u44 k b = r := by unfold v_u44; rw [h1]; rfl
  unfold f_u41
  rw [h1, gv, aw, av, Option.isSome_some, if_pos rfl]
  cases r with
  | true => rfl
  | false =>
    have g := h2 rfl
    have hl := webS_len b
    rw [cond_false, Web_s k hk b g, Web_v k hk b g, WebR_s k hk b g, WebR_v k hk b g]
    show (if true = true then (if true = true then (bif ((0 : Int) == 0) then (bif (true && v_u43 k (webS b) (webS b)) then (if (((0 : Int) == 0) = true) ∧ ((f_u43 k (webS b) (webS b)).isSome = true) ∧ ((true && v_u43 k (webS b) (webS b)) = true) ∧ _ then _ else _) else _) else _) else _) else _) = _
    rw [findings_s k _ (by omega) (by omega), findings_v k _ (by omega) (by omega)]
    rfl
theorem awake_t : f_u42 400000 = some true := by kernel_rfl
end Go.AM
