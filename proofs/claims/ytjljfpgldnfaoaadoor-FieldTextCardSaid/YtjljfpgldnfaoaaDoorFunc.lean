/- Contracts of the functions that the law reaches, and the plain law. -/
import Derived.Test.YtjljfpgldnfaoaaDoorFunb
namespace Go.AM
open Go

/-- a call with plain arguments that returns a fresh row of strings -/
theorem cc_strs {P : Program} [GT P] {f : FuncId} {xs : List Value} {l : List ByteArray} {t : TypeId} (hl : l.length ≤ maxLen) (hf : ∃ fn c, P.funcs[f]? = some fn ∧ fn.body = some c ∧ (fn.name == "runtime.NumGoroutine") = false)
    (h : ∀ w : World, GT.G P w → Calls P f xs.toArray w fun e w' => ∃ w1, Ext w w1 ∧ e = .returned (.slice (some ⟨w1.heap.size, 0, none⟩) l.length l.length) ∧ w' = w1.alloc (.cells (l.map Value.string).toArray t)) : CC P f (rvals xs) [] (.own 0 0) [(0, .row t .str l)] := by
  refine ⟨hf, fun cx env vs hwf hG hh hent hm hs hargs => ?_⟩
  obtain ⟨top, h1, h2, h3, h4⟩ := hG
  have hlen : ∀ l : List Value, (rvals l).length = l.length := fun l => by induction l <;> simp [rvals, *]
  have hget : ∀ (l : List Value) (i : Nat), i < l.length → (rvals l).getD i .undef = .r (.v (l.getD i Go.undef)) := fun l => by
    induction l with
    | nil => intro i h; simp at h
    | cons x l ih =>
      intro i h
      cases i with
      | zero => rfl
      | succ i => simpa [rvals] using ih i (by simpa using h)
  have hvs : vs = xs.toArray := by
    refine Array.ext (by rw [hs, hlen]; simp) fun i hi hi2 => ?_
    have hi3 : i < xs.length := by simpa using hi2
    have := hargs i (by rw [hlen]; exact hi3)
    rw [hget xs i hi3] at this
    have := rep_v_inv this
    simpa [hi, hi3] using this
  subst hvs
  have none : ∀ n, env n = none := fun n => hm.dom n rfl (hh n)
  have nent : ∀ nm h0, cx.ent nm = some h0 → False := fun nm h0 e => by
    have := (hent nm h0).1 e
    rw [none] at this; cases this
  refine (h cx.w0 (GT.keep _ _ h3 h1)).mono fun e w' ⟨w1, hE, he, hw⟩ => ?_
  subst hw
  have hput : ∀ nm v x, env.put 0 0 (.slice (some ⟨w1.heap.size, 0, Option.none⟩) l.length l.length) nm = some (v, x) → nm = 0 ∧ v = 0 ∧ x = .slice (some ⟨w1.heap.size, 0, Option.none⟩) l.length l.length := fun nm v x e => by
    unfold Env.put at e
    split at e
    · rename_i hn
      simp at e
      exact ⟨hn, e.1.symm, e.2.symm⟩
    · rw [none] at e; cases e
  have hheap : (w1.alloc (.cells (l.map Value.string).toArray t)).heap.size = w1.heap.size + 1 := by simp
  refine ⟨_, env.put 0 0 (.slice (some ⟨w1.heap.size, 0, Option.none⟩) l.length l.length), he, ⟨fun nm ver b e => ?_, fun nm e _ => ?_, fun nm h => absurd h (hh nm), fun nm nm' v v' h h' B e e' _ _ => ?_, fun nm v h B e hb => ?_, ?_, fun B hB _ => ?_, fun nm h h0 _ e0 => (nent nm h0 e0).elim, fun nm h0 e0 => (nent nm h0 e0).elim⟩, ?_⟩
  · have hn : nm = 0 ∧ ver = 0 ∧ b = .row t .str l := by
      simp only [numB, getB] at e
      cases hq : Nat.beq 0 nm <;> simp only [hq, cond_true, cond_false] at e
      · cases e
      · have := Nat.eq_of_beq_eq_true hq
        simp at e
        exact ⟨this.symm, e.1.symm, e.2.symm⟩
    obtain ⟨rfl, rfl, rfl⟩ := hn
    refine ⟨.slice (some ⟨w1.heap.size, 0, Option.none⟩) l.length l.length, by simp [Env.put], ?_⟩
    refine .row w1.heap.size t .str l l.length (l.map Value.string).toArray (heap_alloc_new w1 _) (Nat.le_refl _) hl (by simp [RTy.sz]) fun k hk => ?_
    have hk' : k < l.length := by simpa [RTy.sz] using hk
    have e1 : (l.map Value.string).toArray.getD k Go.undef = .string l[k] := by simp [hk']
    have e2 : ∀ (l : List ByteArray) (k : Nat) (h : k < l.length), (encL .str l).getD k .undef = .v (.string l[k]) := fun l => by
      induction l with
      | nil => intro k h; simp at h
      | cons x l ih =>
        intro k h
        cases k with
        | zero => rfl
        | succ k => simpa [encL, enc] using ih k (by simpa using h)
    rw [e1, e2 l k hk']
    exact .v _
  · unfold Env.put
    split
    · rename_i hn
      subst hn
      simp [numB, getB] at e
    · exact none nm
  · rw [(hput _ _ _ e).1, (hput _ _ _ e').1]
  · obtain ⟨rfl, rfl, rfl⟩ := hput _ _ _ e
    simp only [hblk, Option.some.injEq] at hb
    subst hb
    exact ⟨.inl hE.grew.size, by rw [hheap]; omega⟩
  · exact hE.grew.trans ⟨by rw [hheap]; omega, rfl, rfl⟩
  · rw [heap_alloc_old w1 _ (Nat.lt_of_lt_of_le hB hE.grew.size)]
    exact hE.frame B hB
  · exact .own ⟨0, _, by simp [Env.put], Nat.le_refl _, fun _ => rfl⟩
end Go.AM
namespace Go.AM
open Go Go.Proofs
set_option linter.unusedVariables false
noncomputable section
abbrev R25 : Type := List (RTy.str).T
def res25 (r : R25) : AV := .own 0 0
def bo25 (r : R25) : List (Nat × Blk) := [(0, .row 9 RTy.str r)]
def f25 (k : Nat) (s_ : ByteArray) (sep_ : ByteArray) : Option R25 := bif (Nat.ble s_.size 1000000 && Nat.ble 1 sep_.size) then some (Lib.splitB sep_ 0 (Lib.countB s_ sep_) s_) else none
def args25 (s_ : ByteArray) (sep_ : ByteArray) : List AV := [.r (.v (.string s_)), .r (.v (.string sep_))]
def v25 (k : Nat) (s_ : ByteArray) (sep_ : ByteArray) : R25 := (f25 k s_ sep_).getD []
theorem of25 (k : Nat) (s_ : ByteArray) (sep_ : ByteArray) (r : R25) (h : f25 k s_ sep_ = some r) : CC Tryd.prog 25 (args25 s_ sep_) [] (res25 r) (bo25 r) := by
  unfold f25 at h
  cases q : (Nat.ble s_.size 1000000 && Nat.ble 1 sep_.size) <;> rw [q] at h
  · cases h
  · cases h
    simp only [Bool.and_eq_true, Nat.ble_eq] at q
    have hlen := Lib.splitB_all sep_ q.2 0 (Lib.countB s_ sep_) s_ rfl
    have hle := Lib.countB_le sep_ q.2 _ s_ (Nat.le_refl _)
    refine cc_strs (xs := [.string s_, .string sep_]) (l := Lib.splitB sep_ 0 (Lib.countB s_ sep_) s_) (by unfold maxLen; omega) ⟨Tryd.f25, _, Tryd.func25, rfl, by kernel_rfl⟩ fun w hG => ?_
    obtain ⟨m, hm⟩ := hG
    refine (Tryd.strings_Split s_ sep_ m w (by omega) hm q.2).mono fun e w' ⟨he, hw⟩ => ?_
    exact ⟨w, .refl w, by rw [hlen]; exact he, hw⟩
theorem cc25 (k : Nat) (s_ : ByteArray) (sep_ : ByteArray) (h : (f25 k s_ sep_).isSome = true) : CC Tryd.prog 25 (args25 s_ sep_) [] (res25 (v25 k s_ sep_)) (bo25 (v25 k s_ sep_)) := by
  cases e : f25 k s_ sep_ with
  | none => rw [e] at h; cases h
  | some r => rw [show v25 k s_ sep_ = r by simp [v25, e]]; exact of25 k s_ sep_ r e

end
end Go.AM
namespace Go.AM
open Go Go.Proofs
set_option linter.unusedVariables false
noncomputable section
/-! ### function 9: papermill/papermilllaw07.FieldText -/
def K9 (k : Nat) : Calld := ⟨fun g => match g with
  | 26 => some [false, false]
  | 16 => some [false]
  | 24 => some [false, false]
  | 19 => some [false]
  | 21 => some [false, false]
  | 13 => some []
  | 25 => some [false, false]
  | _ => none, fun g xs _ => match g with
  | 26 => match xs with
    | [.r (.v (.string s_)), .r (.v (.string prefix_))] => some (res26 (v26 k s_ prefix_), bo26 (v26 k s_ prefix_))
    | _ => none
  | 16 => match xs with
    | [.r (.v (.string line_))] => some (res16 (v16 k line_), bo16 (v16 k line_))
    | _ => none
  | 24 => match xs with
    | [.r (.v (.string s_)), .r (.v (.string suffix_))] => some (res24 (v24 k s_ suffix_), bo24 (v24 k s_ suffix_))
    | _ => none
  | 19 => match xs with
    | [.r (.v (.string text_))] => some (res19 (v19 k text_), bo19 (v19 k text_))
    | _ => none
  | 21 => match xs with
    | [.r (.ro t0_ q0), .r (.ro t1_ q1)] => (castL t0_ (RTy.list RTy.str) q0).bind fun a_ => (castL t1_ (RTy.list RTy.str) q1).bind fun b_ => some (res21 (v21 k a_ b_), bo21 (v21 k a_ b_))
    | _ => none
  | 13 => match xs with
    | [] => some (res13 (v13 k ), bo13 (v13 k ))
    | _ => none
  | 25 => match xs with
    | [.r (.v (.string s_)), .r (.v (.string sep_))] => some (res25 (v25 k s_ sep_), bo25 (v25 k s_ sep_))
    | _ => none
  | _ => none⟩
abbrev R9 : Type := Bool
def res9 (r : R9) : AV := .r (.v (.bool r))
def bo9 (r : R9) : List (Nat × Blk) := []
def st9_7 (x0 : ByteArray) (x1 : Int) (x2 : Int) (x3 : List (RTy.str).T) (x4 : List (RTy.str.list).T) : St := ⟨mkS 81 [(0, .r (.v (.string x0))), (3, .own 1000000 0), (4, .own 1000001 0), (5, .r (.v (.int .i64 x1))), (6, .r (.v (.int .i64 x2)))], [(1000000, 0, .row 9 RTy.str x3), (1000001, 0, .row 22 RTy.str.list x4)]⟩
def f9_7 (k : Nat) : Nat → ByteArray → Int → Int → List (RTy.str).T → List (RTy.str.list).T → Option R9
  | 0, _, _, _, _, _ => none
  | j + 1, x0, x1, x2, x3, x4 =>
    bif (decide (x2 < (↑x3.length : Int))) then
      bif (ByteArray.toList (x3.getD x2.toNat RTy.str.dflt) == (ByteArray.mk #[]).toList) then
        if ((0 : Int) ≤ x2) ∧ (x2 < (↑x3.length : Int)) ∧ ((ByteArray.toList (x3.getD x2.toNat RTy.str.dflt) == (ByteArray.mk #[]).toList) = true) then
          f9_7 k j x0 x1 ((IntKind.i64.wrap (x2 + 1))) x3 x4
        else none
      else
        if ((0 : Int) ≤ x2) ∧ (x2 < (↑x3.length : Int)) ∧ ((ByteArray.toList (x3.getD x2.toNat RTy.str.dflt) == (ByteArray.mk #[]).toList) = false) ∧ ((0 : Int) ≤ x2) ∧ (x2 < (↑x3.length : Int)) ∧ ((f26 k (x3.getD x2.toNat RTy.str.dflt) (ByteArray.mk #[35])).isSome = true) then
          bif (false || v26 k (x3.getD x2.toNat RTy.str.dflt) (ByteArray.mk #[(35 : UInt8)])) then
            f9_7 k j x0 x1 ((IntKind.i64.wrap (x2 + 1))) x3 x4
          else
            if ((0 : Int) ≤ x2) ∧ (x2 < (↑x3.length : Int)) ∧ ((f16 k (x3.getD x2.toNat RTy.str.dflt)).isSome = true) then
              bif (x1 == (0 : Int)) then
                if ((x4.length + [(v16 k (x3.getD x2.toNat RTy.str.dflt)).snd].length) * (24 : Nat) ≤ (140737488355328 : Nat)) then
                  f9_7 k j x0 ((v16 k (x3.getD x2.toNat RTy.str.dflt)).fst) ((IntKind.i64.wrap (x2 + 1))) x3 ((x4 ++ [(v16 k (x3.getD x2.toNat RTy.str.dflt)).snd]))
                else none
              else
                if ((x4.length + [(v16 k (x3.getD x2.toNat RTy.str.dflt)).snd].length) * (24 : Nat) ≤ (140737488355328 : Nat)) then
                  f9_7 k j x0 x1 ((IntKind.i64.wrap (x2 + 1))) x3 ((x4 ++ [(v16 k (x3.getD x2.toNat RTy.str.dflt)).snd]))
                else none
            else none
        else none
    else
      bif (x1 != (0 : Int)) then
        if ((f19 k x0).isSome = true) then
          bif ((v19 k x0).fst == x1) then
            bif (true && v21 k (v19 k x0).snd []) then
              if (((v19 k x0).fst == x1) = true) ∧ ((f21 k (v19 k x0).snd []).isSome = true) ∧ ((true && v21 k (v19 k x0).snd []) = true) ∧ ((f13 k ).isSome = true) then
                some (true && v13 k)
              else none
            else
              if (((v19 k x0).fst == x1) = true) ∧ ((f21 k (v19 k x0).snd []).isSome = true) ∧ ((true && v21 k (v19 k x0).snd []) = false) then
                some false
              else none
          else
            if (((v19 k x0).fst == x1) = false) ∧ (false = false) then
              some false
            else none
        else none
      else
        if ((f19 k x0).isSome = true) then
          bif ((v19 k x0).fst == x1) then
            bif (true && v21 k (v19 k x0).snd x4) then
              if (((v19 k x0).fst == x1) = true) ∧ ((f21 k (v19 k x0).snd x4).isSome = true) ∧ ((true && v21 k (v19 k x0).snd x4) = true) ∧ ((f13 k ).isSome = true) then
                some (true && v13 k)
              else none
            else
              if (((v19 k x0).fst == x1) = true) ∧ ((f21 k (v19 k x0).snd x4).isSome = true) ∧ ((true && v21 k (v19 k x0).snd x4) = false) then
                some false
              else none
          else
            if (((v19 k x0).fst == x1) = false) ∧ (false = false) then
              some false
            else none
        else none
def f9 (k : Nat) (text_ : ByteArray) : Option R9 :=
  bif (decide ((↑text_.size : Int) > (1500 : Int)) || text_.toList == (ByteArray.mk #[]).toList) then
    if ((decide ((↑text_.size : Int) > (1500 : Int)) || text_.toList == (ByteArray.mk #[]).toList) = true) then
      if ((f13 k ).isSome = true) then
        some (v13 k)
      else none
    else none
  else
    if ((decide ((↑text_.size : Int) > (1500 : Int)) || text_.toList == (ByteArray.mk #[]).toList) = false) ∧ ((f24 k text_ (ByteArray.mk #[10])).isSome = true) then
      bif (false || (!v24 k text_ (ByteArray.mk #[(10 : UInt8)]))) then
        if ((f13 k ).isSome = true) then
          some (v13 k)
        else none
      else
        if ((0 : Int) ≤ (0 : Int)) ∧ ((0 : Int) ≤ IntKind.i64.wrap ((↑text_.size : Int) - (1 : Int))) ∧ (IntKind.i64.wrap ((↑text_.size : Int) - (1 : Int)) ≤ (↑text_.size : Int)) ∧ ((f25 k (text_.extract (Int.toNat 0) (IntKind.i64.wrap ((↑text_.size : Int) - 1)).toNat) (ByteArray.mk #[10])).isSome = true) then
          f9_7 k k text_ 0 0 ((v25 k (text_.extract (Int.toNat 0) (IntKind.i64.wrap ((↑text_.size : Int) - 1)).toNat) (ByteArray.mk #[10]))) ([])
        else none
    else none
def args9 (text_ : ByteArray) : List AV := [.r (.v (.string text_))]
def v9 (k : Nat) (text_ : ByteArray) : R9 := (f9 k text_).getD false
theorem ev9 (k : Nat) : ∀ j, (∀ (x0 : ByteArray) (x1 : Int) (x2 : Int) (x3 : List (RTy.str).T) (x4 : List (RTy.str.list).T) (r : R9), f9_7 k j x0 x1 x2 x3 x4 = some r → Ev Tryd.prog Tryd.f9 0 (placeAt Tryd.f9 7) (st9_7 x0 x1 x2 x3 x4) (res9 r) (bo9 r))
  | 0 => by
    intros; rename_i h; simp [f9_7] at h
  | j + 1 => by
    have ih := ev9 k j
    · intro x0 x1 x2 x3 x4 r h
      rw [f9_7] at h
      refine Ev.tree hm (R := Rt) (K := (K9 k)) (l := []) (C := [(7, [.row 4 22 RTy.str.list, .auto [0, 3, 4, 5, 6] false])]) (E := [.auto [2] true]) (n := 1000) (T := .test ((decide (x2 < (↑x3.length : Int)))) (.test ((ByteArray.toList (x3.getD x2.toNat RTy.str.dflt) == (ByteArray.mk #[]).toList)) (.need [(0 : Int) ≤ x2, x2 < (↑x3.length : Int), (ByteArray.toList (x3.getD x2.toNat RTy.str.dflt) == (ByteArray.mk #[]).toList) = true] (.test (true) (.cut 7 (placeAt Tryd.f9 7) (st9_7 x0 x1 ((IntKind.i64.wrap (x2 + 1))) x3 x4)) (.need [(0 : Int) ≤ x2, x2 < (↑x3.length : Int), CC Tryd.prog 16 (args16 (x3.getD x2.toNat RTy.str.dflt)) [] (res16 (v16 k (x3.getD x2.toNat RTy.str.dflt))) (bo16 (v16 k (x3.getD x2.toNat RTy.str.dflt)))] (.test ((x1 == (0 : Int))) (.need [(x4.length + [(v16 k (x3.getD x2.toNat RTy.str.dflt)).snd].length) * (24 : Nat) ≤ (140737488355328 : Nat)] (.cut 7 (placeAt Tryd.f9 7) (st9_7 x0 ((v16 k (x3.getD x2.toNat RTy.str.dflt)).fst) ((IntKind.i64.wrap (x2 + 1))) x3 ((x4 ++ [(v16 k (x3.getD x2.toNat RTy.str.dflt)).snd]))))) (.need [(x4.length + [(v16 k (x3.getD x2.toNat RTy.str.dflt)).snd].length) * (24 : Nat) ≤ (140737488355328 : Nat)] (.cut 7 (placeAt Tryd.f9 7) (st9_7 x0 x1 ((IntKind.i64.wrap (x2 + 1))) x3 ((x4 ++ [(v16 k (x3.getD x2.toNat RTy.str.dflt)).snd]))))))))) (.need [(0 : Int) ≤ x2, x2 < (↑x3.length : Int), (ByteArray.toList (x3.getD x2.toNat RTy.str.dflt) == (ByteArray.mk #[]).toList) = false, (0 : Int) ≤ x2, x2 < (↑x3.length : Int), CC Tryd.prog 26 (args26 (x3.getD x2.toNat RTy.str.dflt) (ByteArray.mk #[35])) [] (res26 (v26 k (x3.getD x2.toNat RTy.str.dflt) (ByteArray.mk #[35]))) (bo26 (v26 k (x3.getD x2.toNat RTy.str.dflt) (ByteArray.mk #[35])))] (.test ((false || v26 k (x3.getD x2.toNat RTy.str.dflt) (ByteArray.mk #[(35 : UInt8)]))) (.cut 7 (placeAt Tryd.f9 7) (st9_7 x0 x1 ((IntKind.i64.wrap (x2 + 1))) x3 x4)) (.need [(0 : Int) ≤ x2, x2 < (↑x3.length : Int), CC Tryd.prog 16 (args16 (x3.getD x2.toNat RTy.str.dflt)) [] (res16 (v16 k (x3.getD x2.toNat RTy.str.dflt))) (bo16 (v16 k (x3.getD x2.toNat RTy.str.dflt)))] (.test ((x1 == (0 : Int))) (.need [(x4.length + [(v16 k (x3.getD x2.toNat RTy.str.dflt)).snd].length) * (24 : Nat) ≤ (140737488355328 : Nat)] (.cut 7 (placeAt Tryd.f9 7) (st9_7 x0 ((v16 k (x3.getD x2.toNat RTy.str.dflt)).fst) ((IntKind.i64.wrap (x2 + 1))) x3 ((x4 ++ [(v16 k (x3.getD x2.toNat RTy.str.dflt)).snd]))))) (.need [(x4.length + [(v16 k (x3.getD x2.toNat RTy.str.dflt)).snd].length) * (24 : Nat) ≤ (140737488355328 : Nat)] (.cut 7 (placeAt Tryd.f9 7) (st9_7 x0 x1 ((IntKind.i64.wrap (x2 + 1))) x3 ((x4 ++ [(v16 k (x3.getD x2.toNat RTy.str.dflt)).snd])))))))))) (.test ((x1 != (0 : Int))) (.need [CC Tryd.prog 19 (args19 x0) [] (res19 (v19 k x0)) (bo19 (v19 k x0))] (.test (((v19 k x0).fst == x1)) (.test ((true && v21 k (v19 k x0).snd [])) (.need [((v19 k x0).fst == x1) = true, CC Tryd.prog 21 (args21 (v19 k x0).snd []) [] (res21 (v21 k (v19 k x0).snd [])) (bo21 (v21 k (v19 k x0).snd [])), (true && v21 k (v19 k x0).snd []) = true, CC Tryd.prog 13 (args13 ) [] (res13 (v13 k )) (bo13 (v13 k ))] (.leaf (res9 (true && v13 k)) (bo9 (true && v13 k)))) (.need [((v19 k x0).fst == x1) = true, CC Tryd.prog 21 (args21 (v19 k x0).snd []) [] (res21 (v21 k (v19 k x0).snd [])) (bo21 (v21 k (v19 k x0).snd [])), (true && v21 k (v19 k x0).snd []) = false] (.leaf (res9 false) (bo9 false)))) (.test (false) (.need [((v19 k x0).fst == x1) = false, false = true, CC Tryd.prog 13 (args13 ) [] (res13 (v13 k )) (bo13 (v13 k ))] (.leaf (res9 (true && v13 k)) (bo9 (true && v13 k)))) (.need [((v19 k x0).fst == x1) = false, false = false] (.leaf (res9 false) (bo9 false)))))) (.need [CC Tryd.prog 19 (args19 x0) [] (res19 (v19 k x0)) (bo19 (v19 k x0))] (.test (((v19 k x0).fst == x1)) (.test ((true && v21 k (v19 k x0).snd x4)) (.need [((v19 k x0).fst == x1) = true, CC Tryd.prog 21 (args21 (v19 k x0).snd x4) [] (res21 (v21 k (v19 k x0).snd x4)) (bo21 (v21 k (v19 k x0).snd x4)), (true && v21 k (v19 k x0).snd x4) = true, CC Tryd.prog 13 (args13 ) [] (res13 (v13 k )) (bo13 (v13 k ))] (.leaf (res9 (true && v13 k)) (bo9 (true && v13 k)))) (.need [((v19 k x0).fst == x1) = true, CC Tryd.prog 21 (args21 (v19 k x0).snd x4) [] (res21 (v21 k (v19 k x0).snd x4)) (bo21 (v21 k (v19 k x0).snd x4)), (true && v21 k (v19 k x0).snd x4) = false] (.leaf (res9 false) (bo9 false)))) (.test (false) (.need [((v19 k x0).fst == x1) = false, false = true, CC Tryd.prog 13 (args13 ) [] (res13 (v13 k )) (bo13 (v13 k ))] (.leaf (res9 (true && v13 k)) (bo9 (true && v13 k)))) (.need [((v19 k x0).fst == x1) = false, false = false] (.leaf (res9 false) (bo9 false)))))))) (by kernel_rfl) ?_
      refine ⟨fun c => ?_, fun c => ?_⟩
      · rw [cond_t c] at h
        refine ⟨fun c => ?_, fun c => ?_⟩
        · rw [cond_t c] at h
          by_cases q : ((0 : Int) ≤ x2) ∧ (x2 < (↑x3.length : Int)) ∧ ((ByteArray.toList (x3.getD x2.toNat RTy.str.dflt) == (ByteArray.mk #[]).toList) = true)
          · rw [if_pos q] at h
            refine ⟨(conjC q.1 (conjC q.2.1 (conjC q.2.2 conj0))), ?_⟩
            refine ⟨fun c => ?_, fun c => ?_⟩
            rotate_left
            · cases c
            exact ih x0 x1 ((IntKind.i64.wrap (x2 + 1))) x3 x4 _ h
          · rw [if_neg q] at h; cases h
        · rw [cond_f c] at h
          by_cases q : ((0 : Int) ≤ x2) ∧ (x2 < (↑x3.length : Int)) ∧ ((ByteArray.toList (x3.getD x2.toNat RTy.str.dflt) == (ByteArray.mk #[]).toList) = false) ∧ ((0 : Int) ≤ x2) ∧ (x2 < (↑x3.length : Int)) ∧ ((f26 k (x3.getD x2.toNat RTy.str.dflt) (ByteArray.mk #[35])).isSome = true)
          · rw [if_pos q] at h
            refine ⟨(conjC q.1 (conjC q.2.1 (conjC q.2.2.1 (conjC q.2.2.2.1 (conjC q.2.2.2.2.1 (conjC (cc26 k (x3.getD x2.toNat RTy.str.dflt) (ByteArray.mk #[35]) q.2.2.2.2.2) conj0)))))), ?_⟩
            refine ⟨fun c => ?_, fun c => ?_⟩
            · rw [cond_t c] at h
              exact ih x0 x1 ((IntKind.i64.wrap (x2 + 1))) x3 x4 _ h
            · rw [cond_f c] at h
              by_cases q : ((0 : Int) ≤ x2) ∧ (x2 < (↑x3.length : Int)) ∧ ((f16 k (x3.getD x2.toNat RTy.str.dflt)).isSome = true)
              · rw [if_pos q] at h
                refine ⟨(conjC q.1 (conjC q.2.1 (conjC (cc16 k (x3.getD x2.toNat RTy.str.dflt) q.2.2) conj0))), ?_⟩
                refine ⟨fun c => ?_, fun c => ?_⟩
                · rw [cond_t c] at h
                  by_cases q : ((x4.length + [(v16 k (x3.getD x2.toNat RTy.str.dflt)).snd].length) * (24 : Nat) ≤ (140737488355328 : Nat))
                  · rw [if_pos q] at h
                    refine ⟨(conjC q conj0), ?_⟩
                    exact ih x0 ((v16 k (x3.getD x2.toNat RTy.str.dflt)).fst) ((IntKind.i64.wrap (x2 + 1))) x3 ((x4 ++ [(v16 k (x3.getD x2.toNat RTy.str.dflt)).snd])) _ h
                  · rw [if_neg q] at h; cases h
                · rw [cond_f c] at h
                  by_cases q : ((x4.length + [(v16 k (x3.getD x2.toNat RTy.str.dflt)).snd].length) * (24 : Nat) ≤ (140737488355328 : Nat))
                  · rw [if_pos q] at h
                    refine ⟨(conjC q conj0), ?_⟩
                    exact ih x0 x1 ((IntKind.i64.wrap (x2 + 1))) x3 ((x4 ++ [(v16 k (x3.getD x2.toNat RTy.str.dflt)).snd])) _ h
                  · rw [if_neg q] at h; cases h
              · rw [if_neg q] at h; cases h
          · rw [if_neg q] at h; cases h
      · rw [cond_f c] at h
        refine ⟨fun c => ?_, fun c => ?_⟩
        · rw [cond_t c] at h
          by_cases q : ((f19 k x0).isSome = true)
          · rw [if_pos q] at h
            refine ⟨(conjC (cc19 k x0 q) conj0), ?_⟩
            refine ⟨fun c => ?_, fun c => ?_⟩
            · rw [cond_t c] at h
              refine ⟨fun c => ?_, fun c => ?_⟩
              · rw [cond_t c] at h
                by_cases q : (((v19 k x0).fst == x1) = true) ∧ ((f21 k (v19 k x0).snd []).isSome = true) ∧ ((true && v21 k (v19 k x0).snd []) = true) ∧ ((f13 k ).isSome = true)
                · rw [if_pos q] at h
                  refine ⟨(conjC q.1 (conjC (cc21 k (v19 k x0).snd [] q.2.1) (conjC q.2.2.1 (conjC (cc13 k  q.2.2.2) conj0)))), ?_⟩
                  cases h; exact ⟨rfl, rfl⟩
                · rw [if_neg q] at h; cases h
              · rw [cond_f c] at h
                by_cases q : (((v19 k x0).fst == x1) = true) ∧ ((f21 k (v19 k x0).snd []).isSome = true) ∧ ((true && v21 k (v19 k x0).snd []) = false)
                · rw [if_pos q] at h
                  refine ⟨(conjC q.1 (conjC (cc21 k (v19 k x0).snd [] q.2.1) (conjC q.2.2 conj0))), ?_⟩
                  cases h; exact ⟨rfl, rfl⟩
                · rw [if_neg q] at h; cases h
            · rw [cond_f c] at h
              refine ⟨fun c => ?_, fun c => ?_⟩
              · cases c
              by_cases q : (((v19 k x0).fst == x1) = false) ∧ (false = false)
              · rw [if_pos q] at h
                refine ⟨(conjC q.1 (conjC q.2 conj0)), ?_⟩
                cases h; exact ⟨rfl, rfl⟩
              · rw [if_neg q] at h; cases h
          · rw [if_neg q] at h; cases h
        · rw [cond_f c] at h
          by_cases q : ((f19 k x0).isSome = true)
          · rw [if_pos q] at h
            refine ⟨(conjC (cc19 k x0 q) conj0), ?_⟩
            refine ⟨fun c => ?_, fun c => ?_⟩
            · rw [cond_t c] at h
              refine ⟨fun c => ?_, fun c => ?_⟩
              · rw [cond_t c] at h
                by_cases q : (((v19 k x0).fst == x1) = true) ∧ ((f21 k (v19 k x0).snd x4).isSome = true) ∧ ((true && v21 k (v19 k x0).snd x4) = true) ∧ ((f13 k ).isSome = true)
                · rw [if_pos q] at h
                  refine ⟨(conjC q.1 (conjC (cc21 k (v19 k x0).snd x4 q.2.1) (conjC q.2.2.1 (conjC (cc13 k  q.2.2.2) conj0)))), ?_⟩
                  cases h; exact ⟨rfl, rfl⟩
                · rw [if_neg q] at h; cases h
              · rw [cond_f c] at h
                by_cases q : (((v19 k x0).fst == x1) = true) ∧ ((f21 k (v19 k x0).snd x4).isSome = true) ∧ ((true && v21 k (v19 k x0).snd x4) = false)
                · rw [if_pos q] at h
                  refine ⟨(conjC q.1 (conjC (cc21 k (v19 k x0).snd x4 q.2.1) (conjC q.2.2 conj0))), ?_⟩
                  cases h; exact ⟨rfl, rfl⟩
                · rw [if_neg q] at h; cases h
            · rw [cond_f c] at h
              refine ⟨fun c => ?_, fun c => ?_⟩
              · cases c
              by_cases q : (((v19 k x0).fst == x1) = false) ∧ (false = false)
              · rw [if_pos q] at h
                refine ⟨(conjC q.1 (conjC q.2 conj0)), ?_⟩
                cases h; exact ⟨rfl, rfl⟩
              · rw [if_neg q] at h; cases h
          · rw [if_neg q] at h; cases h
theorem of9 (k : Nat) (text_ : ByteArray) (r : R9) (h : f9 k text_ = some r) : CC Tryd.prog 9 (args9 text_) [] (res9 r) (bo9 r) := by
  refine CC.of (fn := Tryd.f9) (by kernel_rfl) (by kernel_rfl) (by kernel_rfl) (by kernel_rfl) ?_
  unfold f9 at h
  refine Ev.tree hm (R := Rt) (K := (K9 k)) (l := []) (C := [(7, [.row 4 22 RTy.str.list, .auto [0, 3, 4, 5, 6] false])]) (E := [.auto [2] true]) (n := 1000) (T := .test ((decide ((↑text_.size : Int) > (1500 : Int)) || text_.toList == (ByteArray.mk #[]).toList)) (.need [(decide ((↑text_.size : Int) > (1500 : Int)) || text_.toList == (ByteArray.mk #[]).toList) = true] (.test (true) (.need [CC Tryd.prog 13 (args13 ) [] (res13 (v13 k )) (bo13 (v13 k ))] (.leaf (res9 (v13 k)) (bo9 (v13 k)))) (.need [(0 : Int) ≤ (0 : Int), (0 : Int) ≤ IntKind.i64.wrap ((↑text_.size : Int) - (1 : Int)), IntKind.i64.wrap ((↑text_.size : Int) - (1 : Int)) ≤ (↑text_.size : Int), CC Tryd.prog 25 (args25 (text_.extract (Int.toNat 0) (IntKind.i64.wrap ((↑text_.size : Int) - 1)).toNat) (ByteArray.mk #[10])) [] (res25 (v25 k (text_.extract (Int.toNat 0) (IntKind.i64.wrap ((↑text_.size : Int) - 1)).toNat) (ByteArray.mk #[10]))) (bo25 (v25 k (text_.extract (Int.toNat 0) (IntKind.i64.wrap ((↑text_.size : Int) - 1)).toNat) (ByteArray.mk #[10])))] (.cut 7 (placeAt Tryd.f9 7) (st9_7 text_ 0 0 ((v25 k (text_.extract (Int.toNat 0) (IntKind.i64.wrap ((↑text_.size : Int) - 1)).toNat) (ByteArray.mk #[10]))) ([])))))) (.need [(decide ((↑text_.size : Int) > (1500 : Int)) || text_.toList == (ByteArray.mk #[]).toList) = false, CC Tryd.prog 24 (args24 text_ (ByteArray.mk #[10])) [] (res24 (v24 k text_ (ByteArray.mk #[10]))) (bo24 (v24 k text_ (ByteArray.mk #[10])))] (.test ((false || (!v24 k text_ (ByteArray.mk #[(10 : UInt8)])))) (.need [CC Tryd.prog 13 (args13 ) [] (res13 (v13 k )) (bo13 (v13 k ))] (.leaf (res9 (v13 k)) (bo9 (v13 k)))) (.need [(0 : Int) ≤ (0 : Int), (0 : Int) ≤ IntKind.i64.wrap ((↑text_.size : Int) - (1 : Int)), IntKind.i64.wrap ((↑text_.size : Int) - (1 : Int)) ≤ (↑text_.size : Int), CC Tryd.prog 25 (args25 (text_.extract (Int.toNat 0) (IntKind.i64.wrap ((↑text_.size : Int) - 1)).toNat) (ByteArray.mk #[10])) [] (res25 (v25 k (text_.extract (Int.toNat 0) (IntKind.i64.wrap ((↑text_.size : Int) - 1)).toNat) (ByteArray.mk #[10]))) (bo25 (v25 k (text_.extract (Int.toNat 0) (IntKind.i64.wrap ((↑text_.size : Int) - 1)).toNat) (ByteArray.mk #[10])))] (.cut 7 (placeAt Tryd.f9 7) (st9_7 text_ 0 0 ((v25 k (text_.extract (Int.toNat 0) (IntKind.i64.wrap ((↑text_.size : Int) - 1)).toNat) (ByteArray.mk #[10]))) ([]))))))) (by kernel_rfl) ?_
  refine ⟨fun c => ?_, fun c => ?_⟩
  · rw [cond_t c] at h
    by_cases q : ((decide ((↑text_.size : Int) > (1500 : Int)) || text_.toList == (ByteArray.mk #[]).toList) = true)
    · rw [if_pos q] at h
      refine ⟨(conjC q conj0), ?_⟩
      refine ⟨fun c => ?_, fun c => ?_⟩
      rotate_left
      · cases c
      by_cases q : ((f13 k ).isSome = true)
      · rw [if_pos q] at h
        refine ⟨(conjC (cc13 k  q) conj0), ?_⟩
        cases h; exact ⟨rfl, rfl⟩
      · rw [if_neg q] at h; cases h
    · rw [if_neg q] at h; cases h
  · rw [cond_f c] at h
    by_cases q : ((decide ((↑text_.size : Int) > (1500 : Int)) || text_.toList == (ByteArray.mk #[]).toList) = false) ∧ ((f24 k text_ (ByteArray.mk #[10])).isSome = true)
    · rw [if_pos q] at h
      refine ⟨(conjC q.1 (conjC (cc24 k text_ (ByteArray.mk #[10]) q.2) conj0)), ?_⟩
      refine ⟨fun c => ?_, fun c => ?_⟩
      · rw [cond_t c] at h
        by_cases q : ((f13 k ).isSome = true)
        · rw [if_pos q] at h
          refine ⟨(conjC (cc13 k  q) conj0), ?_⟩
          cases h; exact ⟨rfl, rfl⟩
        · rw [if_neg q] at h; cases h
      · rw [cond_f c] at h
        by_cases q : ((0 : Int) ≤ (0 : Int)) ∧ ((0 : Int) ≤ IntKind.i64.wrap ((↑text_.size : Int) - (1 : Int))) ∧ (IntKind.i64.wrap ((↑text_.size : Int) - (1 : Int)) ≤ (↑text_.size : Int)) ∧ ((f25 k (text_.extract (Int.toNat 0) (IntKind.i64.wrap ((↑text_.size : Int) - 1)).toNat) (ByteArray.mk #[10])).isSome = true)
        · rw [if_pos q] at h
          refine ⟨(conjC q.1 (conjC q.2.1 (conjC q.2.2.1 (conjC (cc25 k (text_.extract (Int.toNat 0) (IntKind.i64.wrap ((↑text_.size : Int) - 1)).toNat) (ByteArray.mk #[10]) q.2.2.2) conj0)))), ?_⟩
          exact (ev9 k k) text_ 0 0 ((v25 k (text_.extract (Int.toNat 0) (IntKind.i64.wrap ((↑text_.size : Int) - 1)).toNat) (ByteArray.mk #[10]))) ([]) _ h
        · rw [if_neg q] at h; cases h
    · rw [if_neg q] at h; cases h
theorem cc9 (k : Nat) (text_ : ByteArray) (h : (f9 k text_).isSome = true) : CC Tryd.prog 9 (args9 text_) [] (res9 (v9 k text_)) (bo9 (v9 k text_)) := by
  cases e : f9 k text_ with
  | none => rw [e] at h; cases h
  | some r => rw [show v9 k text_ = r by simp [v9, e]]; exact of9 k text_ r e

end
end Go.AM
namespace Go.AM
open Go Go.Proofs Go.Lib

def S : Nat → List UInt8 → List (List UInt8)
  | 0, t => [t]
  | k + 1, t => if tlN t = [] then [t] else hdN t :: S k ((tlN t).drop 1)
def proc : List (List UInt8) → List (List ByteArray) → Int × List (List ByteArray)
  | [], acc => (0, acc)
  | x :: r, acc => if x = [] ∨ x.head? = some 35 then proc r acc else if (splT x).1 = 0 then proc r (acc ++ [(splT x).2]) else ((splT x).1, [])

theorem split10 : ∀ (k : Nat) (l : List UInt8), splitB (ByteArray.mk #[10]) 0 k (mkL l) = (S k l).map mkL
  | 0, l => rfl
  | k + 1, l => by
    have hi : indexB (mkL l) (ByteArray.mk #[10]) = index l [10] := by unfold indexB; rw [mkL_list]
    rw [splitB, hi, S, idx10]
    by_cases h : tlN l = []
    · rw [if_pos h, if_pos (show ((-1 : Int) == -1) = true from rfl), if_pos h]; rfl
    · have hne : ¬ (((hdN l).length : Int) == -1) = true := by simp only [beq_iff_eq]; omega
      rw [if_neg h, if_neg hne, if_neg h, List.map_cons, Int.toNat_natCast, Nat.add_zero, ext_mid, List.drop_zero, Nat.sub_zero, mkL_size, show (ByteArray.mk #[10]).size = 1 from rfl, ext_from]
      have e1 : l.take (hdN l).length = hdN l := by
        conv => lhs; arg 2; rw [hdN_tlN l]
        exact List.take_left
      have e2 : l.drop ((hdN l).length + 1) = (tlN l).drop 1 := by
        conv => lhs; arg 2; rw [hdN_tlN l]
        rw [← List.drop_drop, List.drop_left]
      rw [e1, e2, split10 k]
theorem S_len : ∀ (k : Nat) (l : List UInt8), (S k l).length ≤ k + 1 ∧ ∀ x ∈ S k l, x.length ≤ l.length
  | 0, l => by simp [S]
  | k + 1, l => by
    rw [S]
    by_cases h : tlN l = []
    · rw [if_pos h]; simp
    · rw [if_neg h]
      obtain ⟨h1, h2⟩ := S_len k ((tlN l).drop 1)
      have hN := len_N l
      refine ⟨by rw [List.length_cons]; omega, fun x hx => ?_⟩
      rcases List.mem_cons.1 hx with rfl | hx
      · omega
      · have := h2 x hx
        rw [List.length_drop] at this; omega
theorem no10 (l : List UInt8) (r : List UInt8) (h : tlN l = []) : hdN (l ++ 10 :: r) = l ∧ tlN (l ++ 10 :: r) = 10 :: r := by
  induction l with
  | nil => exact ⟨rfl, rfl⟩
  | cons b l ih =>
    unfold hdN tlN at *
    rw [List.dropWhile_cons] at h
    by_cases hb : b = 10
    · subst hb; simp at h
    · have e : (!(b == 10)) = true := by simpa using hb
      rw [if_pos e] at h
      rw [List.cons_append, List.takeWhile_cons, List.dropWhile_cons, if_pos e, if_pos e]
      exact ⟨by rw [(ih h).1], (ih h).2⟩
theorem is10 (l : List UInt8) (r : List UInt8) (h : tlN l ≠ []) : hdN (l ++ r) = hdN l ∧ tlN (l ++ r) = tlN l ++ r := by
  induction l with
  | nil => exact absurd rfl h
  | cons b l ih =>
    unfold hdN tlN at *
    rw [List.dropWhile_cons] at h
    rw [List.cons_append, List.takeWhile_cons, List.dropWhile_cons, List.takeWhile_cons, List.dropWhile_cons]
    by_cases hb : b = 10
    · subst hb; exact ⟨rfl, rfl⟩
    · have e : (!(b == 10)) = true := by simpa using hb
      rw [if_pos e] at h
      rw [if_pos e, if_pos e, if_pos e, if_pos e]
      exact ⟨by rw [(ih h).1], (ih h).2⟩
theorem lines_S : ∀ (k : Nat) (l : List UInt8) (n : Nat) (acc : List (List ByteArray)), count l [10] = k → l.length + 1 < n → linesL n (l ++ [10]) acc = proc (S k l) acc
  | k, l, 0, acc, hk, hn => by omega
  | k, l, n + 1, acc, hk, hn => by
    have hne : l ++ [10] ≠ [] := by simp
    rw [linesL_s, if_neg hne]
    have hN := len_N l
    by_cases h : tlN l = []
    · have h0 : k = 0 := by
        rw [← hk]
        exact count_miss (by rw [idx10, if_pos h])
      subst h0
      obtain ⟨e1, e2⟩ := no10 l [] h
      obtain ⟨n, rfl⟩ : ∃ m, n = m + 1 := ⟨n - 1, by omega⟩
      have last : ∀ a, linesL (n + 1) ([10] : List UInt8).tail a = (0, a) := fun a => rfl
      rw [e1, e2]
      simp only [List.drop_succ_cons, List.drop_zero, S, proc]
      have last : ∀ a, linesL (n + 1) [] a = (0, a) := fun a => rfl
      simp only [last]
    · obtain ⟨e1, e2⟩ := is10 l [10] h
      have hc : count l [10] = 1 + count ((tlN l).drop 1) [10] := by
        have := count_hit (s := l) (sub := [10]) (i := (hdN l).length) (by simp) (by rw [idx10, if_neg h])
        rw [this, List.length_singleton]
        congr 2
        conv => lhs; arg 2; rw [hdN_tlN l]
        rw [← List.drop_drop, List.drop_left]
      obtain ⟨k, rfl⟩ : ∃ m, k = m + 1 := ⟨k - 1, by omega⟩
      have hd : ((tlN l) ++ [10]).drop 1 = (tlN l).drop 1 ++ [10] := by
        cases ht : tlN l with
        | nil => exact absurd ht h
        | cons a b => rfl
      rw [e1, e2, hd, S, if_neg h, proc]
      have IH := fun a => lines_S k ((tlN l).drop 1) n a (by omega) (by
        have : 1 ≤ (tlN l).length := by cases ht : tlN l with
          | nil => exact absurd ht h
          | cons => simp
        rw [List.length_drop]; omega)
      rw [IH, IH]

theorem pre35 (l : List UInt8) : (decide (((mkL l).size : Int) ≥ ((ByteArray.mk #[35]).size : Int)) && ((mkL l).extract (Int.toNat 0) (((ByteArray.mk #[35]).size : Int)).toNat).toList == (ByteArray.mk #[35]).toList) = (l.head? == some 35) := by
  rw [tl_data, tl_data, mkL_size, show (ByteArray.mk #[35]).size = 1 from rfl, show ((1 : Nat) : Int).toNat = 1 from rfl, show Int.toNat 0 = 0 from rfl]
  have h2 : ((mkL l).extract 0 1).data.toList = l.take 1 := by
    rw [ByteArray.data_extract, Array.toList_extract, List.extract_eq_take_drop, mkL_list]; simp
  rw [h2]
  cases l with
  | nil => rfl
  | cons b l =>
    rw [decide_eq_true (by rw [List.length_cons]; omega), Bool.true_and]
    show ([b] == [35]) = (some b == some 35)
    simp
theorem f26_35 (k : Nat) (l : List UInt8) : f26 k (mkL l) (ByteArray.mk #[35]) = some (l.head? == some 35) := by
  have e40 : f40 k (mkL l) (ByteArray.mk #[35]) = some (l.head? == some 35) := by
    unfold f40
    rw [pre35, if_pos ⟨fun _ => by omega, fun _ => by omega, fun h => by simpa using h⟩]
  unfold f26
  have : v40 k (mkL l) (ByteArray.mk #[35]) = (l.head? == some 35) := by unfold v40; rw [e40]; rfl
  rw [e40, this, if_some]
theorem v26_35 (k : Nat) (l : List UInt8) : v26 k (mkL l) (ByteArray.mk #[35]) = (l.head? == some 35) := by unfold v26; rw [f26_35]; rfl

theorem f9_loop (k : Nat) (hk : 4000000 ≤ k) (h13 : f13 k = some true) (t : List UInt8) (ht : t.length ≤ 10000) (L : List (List UInt8)) (hL : L.length ≤ 10000) (hLx : ∀ x ∈ L, x.length ≤ 10000) (hT : linT t = proc L []) :
    ∀ (j i : Nat) (e : Int) (want : List (List ByteArray)), i ≤ L.length → L.length - i < j → want.length ≤ i → (if e = 0 then proc L [] = proc (L.drop i) want else proc L [] = (e, [])) →
      f9_7 k j (mkL t) e (i : Int) (L.map mkL) want = some true
  | 0, i, e, want, _, h, _, _ => by omega
  | j + 1, i, e, want, hi, hj, hw, hp => by
    have v13e : v13 k = true := by unfold v13; rw [h13]; rfl
    unfold f9_7
    rw [List.length_map]
    by_cases hlt : i < L.length
    · have hg : (L.map mkL).getD (i : Int).toNat RTy.str.dflt = mkL (L[i]) := by
        rw [Int.toNat_natCast, List.getD_eq_getElem?_getD, List.getElem?_map, List.getElem?_eq_getElem hlt]; rfl
      have hd : L.drop i = L[i] :: L.drop (i + 1) := List.drop_eq_getElem_cons hlt
      have hx : L[i].length ≤ 10000 := hLx _ (List.getElem_mem hlt)
      rw [hg, decide_eq_true (by omega : (i : Int) < (L.length : Int)), cond_true, emp, mkL_list, wrapS i (by omega)]
      rw [hd] at hp
      generalize L[i] = x at *
      by_cases hx0 : x = []
      · subst hx0
        rw [show ([] : List UInt8).isEmpty = true from rfl, cond_true, if_pos ⟨by omega, by omega, rfl⟩]
        refine f9_loop k hk h13 t ht L hL hLx hT j (i + 1) e want (by omega) (by omega) (by omega) ?_
        by_cases he : e = 0
        · rw [if_pos he] at hp ⊢
          have hP : ([] : List UInt8) = [] ∨ ([] : List UInt8).head? = some 35 := .inl rfl
          rw [proc, if_pos hP] at hp; exact hp
        · rw [if_neg he] at hp ⊢; exact hp
      · rw [show x.isEmpty = false by simpa using hx0, cond_false, f26_35, v26_35, if_pos ⟨by omega, by omega, rfl, by omega, by omega, rfl⟩, Bool.false_or]
        by_cases h35 : x.head? = some 35
        · rw [show (x.head? == some 35) = true by simp [h35], cond_true]
          refine f9_loop k hk h13 t ht L hL hLx hT j (i + 1) e want (by omega) (by omega) (by omega) ?_
          by_cases he : e = 0
          · rw [if_pos he] at hp ⊢
            have hP : x = [] ∨ x.head? = some 35 := .inr h35
            rw [proc, if_pos hP] at hp; exact hp
          · rw [if_neg he] at hp ⊢; exact hp
        · have e16 := f16_s k (by omega) x
          have g16 : v16 k (mkL x) = splT x := by unfold v16; rw [e16]; rfl
          rw [show (x.head? == some 35) = false by simpa using h35, cond_false, e16, g16, if_pos ⟨by omega, by omega, rfl⟩]
          have hP : ¬ (x = [] ∨ x.head? = some 35) := fun h => h.elim hx0 h35
          by_cases he : e = 0
          · rw [if_pos he] at hp
            rw [proc, if_neg hP] at hp
            rw [show (e == 0) = true by simpa using he, cond_true, if_pos (by rw [List.length_singleton]; omega)]
            refine f9_loop k hk h13 t ht L hL hLx hT j (i + 1) _ _ (by omega) (by omega) (by rw [List.length_append, List.length_singleton]; omega) ?_
            by_cases h0 : (splT x).1 = 0
            · rw [if_pos h0] at hp ⊢; exact hp
            · rw [if_neg h0] at hp ⊢; exact hp
          · rw [if_neg he] at hp
            rw [show (e == 0) = false by simpa using he, cond_false, if_pos (by rw [List.length_singleton]; omega)]
            refine f9_loop k hk h13 t ht L hL hLx hT j (i + 1) e _ (by omega) (by omega) (by rw [List.length_append, List.length_singleton]; omega) ?_
            rw [if_neg he]; exact hp
    · have hi2 : L.drop i = [] := List.drop_of_length_le (by omega)
      rw [hi2, proc] at hp
      have e19 := f19_s k hk t ht
      have g19 : v19 k (mkL t) = linT t := by unfold v19; rw [e19]; rfl
      obtain ⟨l1, l2⟩ := linT_len t ht
      have e21 := f21_s k hk (linT t).2 (by omega) l2
      have g21 : v21 k (linT t).2 (linT t).2 = true := by unfold v21; rw [e21]; rfl
      rw [decide_eq_false (by omega : ¬ (i : Int) < (L.length : Int)), cond_false, e19, g19, h13, v13e]
      rw [hT] at e21 g21 ⊢
      by_cases he : e = 0
      · rw [if_pos he] at hp
        rw [hp] at e21 g21 ⊢
        subst he
        simp only at e21 g21 ⊢
        rw [e21, g21]; rfl
      · rw [if_neg he] at hp
        rw [hp] at e21 g21 ⊢
        simp only at e21 g21 ⊢
        rw [show (e != 0) = true by simpa using he, e21, g21]
        simp
theorem f9_k (k : Nat) (hk : 4000000 ≤ k) (h13 : f13 k = some true) (s : ByteArray) : f9 k s = some true := by
  have v13e : v13 k = true := by unfold v13; rw [h13]; rfl
  unfold f9
  rw [h13, v13e, ← of_list s]
  generalize s.data.toList = l
  rw [mkL_size, emp, mkL_list]
  by_cases hl : l.length ≤ 1500
  · by_cases h0 : l = []
    · subst h0; rfl
    · have h1 : 1 ≤ l.length := by cases l with
        | nil => exact absurd rfl h0
        | cons => simp
      have e24 := f24_s k l h0 (by omega)
      have g24 : v24 k (mkL l) (ByteArray.mk #[10]) = (l.getLast h0 == 10) := by unfold v24; rw [e24]; rfl
      have hw : IntKind.i64.wrap ((l.length : Int) - 1) = ((l.length - 1 : Nat) : Int) := by rw [wrap_id (by omega) (by omega)]; omega
      rw [decide_eq_false (by omega : ¬ (l.length : Int) > 1500), show l.isEmpty = false by simpa using h0, Bool.or_false, cond_false, e24, g24, if_pos ⟨rfl, rfl⟩, Bool.false_or]
      cases hq : (l.getLast h0 == 10)
      · rfl
      · rw [Bool.not_true, cond_false, hw, show Int.toNat 0 = 0 from rfl, Int.toNat_natCast, ext_mid, List.drop_zero, Nat.sub_zero]
        have hlast : l = l.take (l.length - 1) ++ [10] := by
          conv => lhs; rw [← List.dropLast_concat_getLast h0]
          have : l.getLast h0 = 10 := by simpa using hq
          rw [this, List.dropLast_eq_take]
        have e25 : f25 k (mkL (l.take (l.length - 1))) (ByteArray.mk #[10]) = some ((S (count (l.take (l.length - 1)) [10]) (l.take (l.length - 1))).map mkL) := by
          unfold f25
          rw [show Nat.ble (mkL (l.take (l.length - 1))).size 1000000 = true from Nat.ble_eq_true_of_le (by rw [mkL_size, List.length_take]; omega), show Nat.ble 1 (ByteArray.mk #[10]).size = true from rfl]
          have hc : countB (mkL (l.take (l.length - 1))) (ByteArray.mk #[10]) = count (l.take (l.length - 1)) [10] := by unfold countB; rw [mkL_list]
          rw [hc, split10]; rfl
        have g25 : v25 k (mkL (l.take (l.length - 1))) (ByteArray.mk #[10]) = (S (count (l.take (l.length - 1)) [10]) (l.take (l.length - 1))).map mkL := by unfold v25; rw [e25]; rfl
        rw [e25, g25, if_pos ⟨by omega, by omega, by omega, rfl⟩]
        have hcle : count (l.take (l.length - 1)) [10] ≤ 1500 := by
          have h := countB_le (ByteArray.mk #[10]) (by decide) _ (mkL (l.take (l.length - 1))) (Nat.le_refl _)
          have hc : countB (mkL (l.take (l.length - 1))) (ByteArray.mk #[10]) = count (l.take (l.length - 1)) [10] := by unfold countB; rw [mkL_list]
          rw [hc, mkL_size, List.length_take] at h; omega
        obtain ⟨s1, s2⟩ := S_len (count (l.take (l.length - 1)) [10]) (l.take (l.length - 1))
        have hT : linT l = proc (S (count (l.take (l.length - 1)) [10]) (l.take (l.length - 1))) [] := by
          have hP : ¬ (l ≠ [] ∧ l.getLast? ≠ some 10) := fun h => by have := (getLast_ne l h0).1 h.2; rw [hq] at this; cases this
          unfold linT
          rw [if_neg hP]
          have hle : (l.take (l.length - 1)).length + 1 < l.length + 1 := by rw [List.length_take]; omega
          have := lines_S _ (l.take (l.length - 1)) (l.length + 1) [] rfl hle
          rw [← hlast] at this
          exact this
        have := f9_loop k hk h13 l (by omega) _ (by omega) (fun x hx => by have := s2 x hx; rw [List.length_take] at this; omega) hT k 0 0 [] (by omega) (by omega) (by simp) (by rw [if_pos rfl, List.drop_zero])
        exact this
  · rw [decide_eq_true (by omega : (l.length : Int) > 1500)]; rfl
theorem f9_j (s : ByteArray) : f9 KS s = some true := f9_k KS (Nat.le_refl 4000000) f13_S s
end Go.AM
