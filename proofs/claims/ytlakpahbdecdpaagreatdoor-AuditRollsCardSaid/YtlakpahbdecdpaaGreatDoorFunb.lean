/- Contracts of the functions that the law reaches, and the plain law. -/
import Derived.Test.YtlakpahbdecdpaaGreatDoorFuna
set_option linter.unusedVariables false
set_option linter.unusedSimpArgs false
set_option linter.unusedSectionVars false
namespace Go.AM
open Go Go.Proofs
noncomputable section
abbrev R_u56 : Type := List (T21).T × Int
def res_u56 (r : R_u56) : AV := .tup [.r (.ro T21 r.1), .r (.v (.int .i64 r.2))]
def bo_u56 (m_ : List (T3).T) (r : R_u56) : List (Nat × Blk) := []
def args_u56 (m_ : List (T3).T) : List AV := [.r (.ro T3 m_)]
def bin_u56 (m_ : List (T3).T) : List Blk := []
abbrev C_u56 (m_ : List (T3).T) (r : R_u56) : Prop := CC Tryz.prog 95 (args_u56 m_) (bin_u56 m_) (res_u56 r) (bo_u56 m_ r)
def st_u56_6 (y0 : List (T3).T) (y1 : Int) (y2 : List (T21).T) : St := ⟨mkS 51 [(0, .r (.ro T3 y0)), (5, .own 1000000 0), (6, .r (.v (.int .i64 y1)))], [(1000000, 0, .row 91 T21 y2)]⟩
def st_u56_10 (y0 : List (T21).T) : St := ⟨mkS 51 [(5, .r (.ro T21 y0))], []⟩
mutual
def f_u56_6 (k : Nat) : Nat → List (T3).T → Int → List (T21).T → Option R_u56
  | 0, _, _, _ => none
  | j + 1, y0, y1, y2 =>
  bif (decide (y1 < (↑y0.length : Int))) then
  if (0 ≤ y1) ∧ (y1 < (↑y0.length : Int)) ∧ (0 ≤ y1) ∧ (y1 < (↑y0.length : Int)) ∧ (0 ≤ y1) ∧ (y1 < (↑y0.length : Int)) ∧ ((f_u59 k (y0.getD y1.toNat T3.dflt) (IntKind.i64.wrap ((y0.getD y1.toNat T3.dflt).2.1 - 1))).isSome = true) then
  if ((y2.length + [(if v_u59 k (y0.getD y1.toNat T3.dflt) (IntKind.i64.wrap ((y0.getD y1.toNat T3.dflt).2.1 - (1 : Int))) < (y0.getD y1.toNat T3.dflt).1 then v_u59 k (y0.getD y1.toNat T3.dflt) (IntKind.i64.wrap ((y0.getD y1.toNat T3.dflt).2.1 - (1 : Int))) else (y0.getD y1.toNat T3.dflt).1, IntKind.i64.wrap ((if v_u59 k (y0.getD y1.toNat T3.dflt) (IntKind.i64.wrap ((y0.getD y1.toNat T3.dflt).2.1 - (1 : Int))) > (y0.getD y1.toNat T3.dflt).1 then v_u59 k (y0.getD y1.toNat T3.dflt) (IntKind.i64.wrap ((y0.getD y1.toNat T3.dflt).2.1 - (1 : Int))) else (y0.getD y1.toNat T3.dflt).1) + (1 : Int)))].length) * (16 : Nat) ≤ (140737488355328 : Nat)) then
  f_u56_6 k j y0 ((IntKind.i64.wrap (y1 + 1))) ((y2 ++ [(if v_u59 k (y0.getD y1.toNat T3.dflt) (IntKind.i64.wrap ((y0.getD y1.toNat T3.dflt).2.1 - 1)) < (y0.getD y1.toNat T3.dflt).1 then v_u59 k (y0.getD y1.toNat T3.dflt) (IntKind.i64.wrap ((y0.getD y1.toNat T3.dflt).2.1 - 1)) else (y0.getD y1.toNat T3.dflt).1, IntKind.i64.wrap ((if v_u59 k (y0.getD y1.toNat T3.dflt) (IntKind.i64.wrap ((y0.getD y1.toNat T3.dflt).2.1 - 1)) > (y0.getD y1.toNat T3.dflt).1 then v_u59 k (y0.getD y1.toNat T3.dflt) (IntKind.i64.wrap ((y0.getD y1.toNat T3.dflt).2.1 - 1)) else (y0.getD y1.toNat T3.dflt).1) + 1))]))
  else none
  else none
  else
  f_u56_10 k j y2
def f_u56_10 (k : Nat) : Nat → List (T21).T → Option R_u56
  | 0, _ => none
  | j + 1, y0 =>
  if ((f_u49 k y0).isSome = true) then
  some (((v_u49 k y0).1, (v_u49 k y0).2))
  else none
end
def f_u56 (k : Nat) (m_ : List (T3).T) : Option R_u56 :=
  if ((f_u55 k m_).isSome = true) then
  bif (v_u55 k m_ != (0 : Int)) then
  some (([], v_u55 k m_))
  else
  f_u56_6 k k m_ 0 ([])
  else none
def v_u56 (k : Nat) (m_ : List (T3).T) : R_u56 := (f_u56 k m_).getD ([], 0)
def ke_u56 (k : Nat) : Ke := (95, fun xs => match xs with
  | [_] => some [false]
  | _ => none, fun xs bs => match xs, bs with
  | [.r (.ro tm__ qm_)], [] => (castL tm__ T3 qm_).bind fun m_ => some (.one (res_u56 (v_u56 k m_), bo_u56 m_ (v_u56 k m_)))
  | _, _ => none)
def K_u56 (k : Nat) : Calld := mkK [ke_u55 k, ke_u59 k, ke_u49 k]
def cs_u56 : List (Nat × List Cmd) := [(6, [.row 5 91 T21, .autoB [0, 5, 6] false []]), (10, [.frz 5 false (RTy.list T21), .autoB [5] false []])]
abbrev E_u56 (m_ : List (T3).T) (todo : List Item) (st : St) (o : Option R_u56) : Prop := ∀ r, o = some r → Ev Tryz.prog Tryz.f95 0 todo st (res_u56 r) (bo_u56 m_ r)
theorem ev_u56 (k : Nat) (m_ : List (T3).T) : ∀ j, (∀ (y0 : List (T3).T) (y1 : Int) (y2 : List (T21).T), E_u56 m_ (placeAt Tryz.f95 6) (st_u56_6 y0 y1 y2) (f_u56_6 k j y0 y1 y2)) ∧ (∀ (y0 : List (T21).T), E_u56 m_ (placeAt Tryz.f95 10) (st_u56_10 y0) (f_u56_10 k j y0))
  | 0 => ⟨fun _ _ _ _ h => (nomatch h), fun _ _ h => (nomatch h)⟩
  | j + 1 => by
    have ih := @ev_u56 k m_ j
    refine ⟨?_, ?_⟩
    · intro y0 y1 y2 r h
      rw [f_u56_6] at h
      exact go (K_u56 k) [10] cs_u56 [.frz 2 false (RTy.list T21), .autoB [2, 3] true []] (gT h (fun c h => gN h (fun q => conjC q.1 (conjC q.2.1 (conjC q.2.2.1 (conjC q.2.2.2.1 (conjC q.2.2.2.2.1 (conjC q.2.2.2.2.2.1 (conjC (cc_u59 q.2.2.2.2.2.2) conj0))))))) fun h => gN1 h id fun h => gC h 6 (ih.1 _ _ _ _)) fun c h => gC h 10 (ih.2 _ _)) (by kernel_rfl)
    · intro y0 r h
      rw [f_u56_10] at h
      exact go (K_u56 k) [10] cs_u56 [.frz 2 false (RTy.list T21), .autoB [2, 3] true []] (gN1 h (fun q => cc_u49 q) fun h => gL h) (by kernel_rfl)
theorem of_u56 (k : Nat) (m_ : List (T3).T) (r : R_u56) (h : f_u56 k m_ = some r) : C_u56 m_ r := by
  refine CC.of (fn := Tryz.f95) (by kernel_rfl) (by kernel_rfl) (by kernel_rfl) (by kernel_rfl) ?_
  unfold f_u56 at h
  exact go (K_u56 k) [10] cs_u56 [.frz 2 false (RTy.list T21), .autoB [2, 3] true []] (gN1 h (fun q => cc_u55 q) fun h => gT h (fun c h => gL h) fun c h => gC h 6 ((ev_u56 k m_ k).1 _ _ _ _)) (by kernel_rfl)
theorem cc_u56 {k : Nat} {m_ : List (T3).T} (h : (f_u56 k m_).isSome = true) : C_u56 m_ (v_u56 k m_) := ccG (Φ := C_u56 m_) h (of_u56 k m_)
abbrev R_u50 : Type := Int × Int
def res_u50 (r : R_u50) : AV := .tup [.r (.v (.int .i64 r.1)), .r (.v (.int .i64 r.2))]
def bo_u50 (l_ : List (T21).T) (r : R_u50) : List (Nat × Blk) := []
def args_u50 (l_ : List (T21).T) : List AV := [.r (.ro T21 l_)]
def bin_u50 (l_ : List (T21).T) : List Blk := []
abbrev C_u50 (l_ : List (T21).T) (r : R_u50) : Prop := CC Tryz.prog 175 (args_u50 l_) (bin_u50 l_) (res_u50 r) (bo_u50 l_ r)
def st_u50_4 (y0 : List (T21).T) (y1 : Int) (y2 : Int) (y3 : Int) : St := ⟨mkS 34 [(4, .r (.ro T21 y0)), (5, .r (.v (.int .i64 y1))), (6, .r (.v (.int .i64 y2))), (7, .r (.v (.int .i64 y3)))], []⟩
def f_u50_4 (k : Nat) : Nat → List (T21).T → Int → Int → Int → Option R_u50
  | 0, _, _, _, _ => none
  | j + 1, y0, y1, y2, y3 =>
  bif (decide (y3 < (↑y0.length : Int))) then
  if (0 ≤ y3) ∧ (y3 < (↑y0.length : Int)) ∧ (0 ≤ y3) ∧ (y3 < (↑y0.length : Int)) then
  f_u50_4 k j y0 y1 ((IntKind.i64.wrap (IntKind.i64.wrap (y2 + (y0.getD y3.toNat T21.dflt).2) - (y0.getD y3.toNat T21.dflt).1))) ((IntKind.i64.wrap (y3 + 1)))
  else none
  else
  some ((y2, y1))
def f_u50 (k : Nat) (l_ : List (T21).T) : Option R_u50 :=
  if ((f_u49 k l_).isSome = true) then
  f_u50_4 k k ((v_u49 k l_).1) ((v_u49 k l_).2) 0 0
  else none
def v_u50 (k : Nat) (l_ : List (T21).T) : R_u50 := (f_u50 k l_).getD (0, 0)
def ke_u50 (k : Nat) : Ke := (175, fun xs => match xs with
  | [_] => some [false]
  | _ => none, fun xs bs => match xs, bs with
  | [.r (.ro tl__ ql_)], [] => (castL tl__ T21 ql_).bind fun l_ => some (.one (res_u50 (v_u50 k l_), bo_u50 l_ (v_u50 k l_)))
  | _, _ => none)
def cs_u50 : List (Nat × List Cmd) := [(4, [.autoB [4, 5, 6, 7] false []])]
abbrev E_u50 (l_ : List (T21).T) (todo : List Item) (st : St) (o : Option R_u50) : Prop := ∀ r, o = some r → Ev Tryz.prog Tryz.f175 0 todo st (res_u50 r) (bo_u50 l_ r)
theorem ev_u50 (k : Nat) (l_ : List (T21).T) : ∀ j, (∀ (y0 : List (T21).T) (y1 : Int) (y2 : Int) (y3 : Int), E_u50 l_ (placeAt Tryz.f175 4) (st_u50_4 y0 y1 y2 y3) (f_u50_4 k j y0 y1 y2 y3))
  | 0 => fun _ _ _ _ _ h => (nomatch h)
  | j + 1 => by
    have ih := @ev_u50 k l_ j
    · intro y0 y1 y2 y3 r h
      rw [f_u50_4] at h
      exact go (mkK [ke_u49 k]) [] cs_u50 [.autoB [2, 3] true []] (gT h (fun c h => gN h (fun q => conjC q.1 (conjC q.2.1 (conjC q.2.2.1 (conjC q.2.2.2 conj0)))) fun h => gC h 4 (ih _ _ _ _ _)) fun c h => gL h) (by kernel_rfl)
theorem of_u50 (k : Nat) (l_ : List (T21).T) (r : R_u50) (h : f_u50 k l_ = some r) : C_u50 l_ r := by
  refine CC.of (fn := Tryz.f175) (by kernel_rfl) (by kernel_rfl) (by kernel_rfl) (by kernel_rfl) ?_
  unfold f_u50 at h
  exact go (mkK [ke_u49 k]) [] cs_u50 [.autoB [2, 3] true []] (gN1 h (fun q => cc_u49 q) fun h => gC h 4 ((ev_u50 k l_ k) _ _ _ _ _)) (by kernel_rfl)
theorem cc_u50 {k : Nat} {l_ : List (T21).T} (h : (f_u50 k l_).isSome = true) : C_u50 l_ (v_u50 k l_) := ccG (Φ := C_u50 l_) h (of_u50 k l_)
abbrev R_u57 : Type := Bool
def res_u57 (r : R_u57) : AV := .r (.v (.bool r))
def bo_u57 (m_ : List (T3).T) (r : R_u57) : List (Nat × Blk) := []
def args_u57 (m_ : List (T3).T) : List AV := [.r (.ro T3 m_)]
def bin_u57 (m_ : List (T3).T) : List Blk := []
abbrev C_u57 (m_ : List (T3).T) (r : R_u57) : Prop := CC Tryz.prog 128 (args_u57 m_) (bin_u57 m_) (res_u57 r) (bo_u57 m_ r)
def f_u57 (k : Nat) (m_ : List (T3).T) : Option R_u57 :=
  if ((f_u55 k m_).isSome = true) then
  bif (v_u55 k m_ != (0 : Int)) then
  some false
  else
  if ((f_u56 k m_).isSome = true) then
  if ((f_u50 k (v_u56 k m_).1).isSome = true) then
  bif ((v_u50 k (v_u56 k m_).1).2 == (0 : Int)) then
  if (((v_u50 k (v_u56 k m_).1).2 == (0 : Int)) = true) ∧ ((f_u60 k m_).isSome = true) then
  some (true && (v_u50 k (v_u56 k m_).1).1 == v_u60 k m_)
  else none
  else
  if (((v_u50 k (v_u56 k m_).1).2 == (0 : Int)) = false) then
  some false
  else none
  else none
  else none
  else none
def v_u57 (k : Nat) (m_ : List (T3).T) : R_u57 := (f_u57 k m_).getD false
def ke_u57 (k : Nat) : Ke := (128, fun xs => match xs with
  | [_] => some [false]
  | _ => none, fun xs bs => match xs, bs with
  | [.r (.ro tm__ qm_)], [] => (castL tm__ T3 qm_).bind fun m_ => some (.one (res_u57 (v_u57 k m_), bo_u57 m_ (v_u57 k m_)))
  | _, _ => none)
theorem of_u57 (k : Nat) (m_ : List (T3).T) (r : R_u57) (h : f_u57 k m_ = some r) : C_u57 m_ r := by
  refine CC.of (fn := Tryz.f128) (by kernel_rfl) (by kernel_rfl) (by kernel_rfl) (by kernel_rfl) ?_
  unfold f_u57 at h
  exact go (mkK [ke_u60 k, ke_u55 k, ke_u56 k, ke_u50 k]) [] [] [.autoB [2] true []] (gN1 h (fun q => cc_u55 q) fun h => gT h (fun c h => gL h) fun c h => gN1 h (fun q => cc_u56 q) fun h => gN1 h (fun q => cc_u50 q) fun h => gT h (fun c h => gN h (fun q => conjC q.1 (conjC (cc_u60 q.2) conj0)) fun h => gL h) fun c h => gN1 h id fun h => gL h) (by kernel_rfl)
theorem cc_u57 {k : Nat} {m_ : List (T3).T} (h : (f_u57 k m_).isSome = true) : C_u57 m_ (v_u57 k m_) := ccG (Φ := C_u57 m_) h (of_u57 k m_)

end
/-! ### maps: the program's functions and the reference's -/
theorem iso_image_s (k : Nat) (r : Rn) (x : Int) (h1 : -4611686018427387904 ≤ r.1) (h2 : r.1 ≤ 4611686018427387903) (h3 : -4611686018427387904 ≤ x) (h4 : x ≤ 4611686018427387903) : f_u38 k r x = some (img r x) := by
  unfold f_u38 img
  cases r.2.2
  · rw [cond_false, wrap_id (by omega) (by omega), if_neg (by decide)]
  · rw [cond_true, wrap_id (by omega) (by omega), if_pos rfl]
theorem iso_image_v (k : Nat) (r : Rn) (x : Int) (h1 : -4611686018427387904 ≤ r.1) (h2 : r.1 ≤ 4611686018427387903) (h3 : -4611686018427387904 ≤ x) (h4 : x ≤ 4611686018427387903) : v_u38 k r x = img r x := by
  unfold v_u38; rw [iso_image_s k r x h1 h2 h3 h4]; rfl
theorem ref13_image_s (k : Nat) (r : Rn) (x : Int) (h1 : -4611686018427387904 ≤ r.1) (h2 : r.1 ≤ 4611686018427387903) (h3 : -4611686018427387904 ≤ x) (h4 : x ≤ 4611686018427387903) : f_u59 k r x = some (img r x) := by
  unfold f_u59 img
  cases r.2.2
  · rw [cond_false, wrap_id (by omega) (by omega), if_neg (by decide)]
  · rw [cond_true, wrap_id (by omega) (by omega), if_pos rfl]
theorem ref13_image_v (k : Nat) (r : Rn) (x : Int) (h1 : -4611686018427387904 ≤ r.1) (h2 : r.1 ≤ 4611686018427387903) (h3 : -4611686018427387904 ≤ x) (h4 : x ≤ 4611686018427387903) : v_u59 k r x = img r x := by
  unfold v_u59; rw [ref13_image_s k r x h1 h2 h3 h4]; rfl

/-- a test of a run alone, as the program has it -/
theorem good_test {r : Rn} : good r ↔ ¬ ((decide (r.2.1 < 1) || decide (r.2.1 > 17179869184) || decide (r.1 < 0) || decide (r.1 ≥ 17179869184)) = true) ∧ ¬ ((r.2.2 && decide (r.1 - r.2.1 + 1 < 0) || (!r.2.2) && decide (r.1 + r.2.1 > 17179869184)) = true) := by
  unfold good
  simp only [Bool.or_eq_true, decide_eq_true_eq, Bool.and_eq_true, Bool.not_eq_true', not_or, not_and]
  constructor
  · rintro ⟨h1, h2, h3, h4, h5, h6⟩
    refine ⟨⟨⟨⟨by omega, by omega⟩, by omega⟩, by omega⟩, fun h => ?_, fun h => ?_⟩
    · have := h5 h; omega
    · have := h6 h; omega
  · rintro ⟨⟨⟨⟨h1, h2⟩, h3⟩, h4⟩, h5, h6⟩
    refine ⟨by omega, by omega, by omega, by omega, fun h => ?_, fun h => ?_⟩
    · have := h5 h; omega
    · have := h6 h; omega

/-- the error of a map, run by run -/
def chkGo : Int → List Rn → Int
  | n, [] => if n > 17179869184 then 21 else 0
  | n, r :: t => if good r then chkGo (n + r.2.1) t else 1
theorem chkGo_eq : ∀ (m : List Rn) (n : Int), chkGo n m = if goods m then (if n + lenS m > 17179869184 then 21 else 0) else 1
  | [], n => by simp [chkGo, goods, lenS]
  | r :: t, n => by
    unfold chkGo
    by_cases h : good r
    · rw [if_pos h, chkGo_eq t]
      by_cases h2 : goods t
      · rw [if_pos h2, if_pos (show goods (r :: t) from ⟨h, h2⟩)]
        rw [show n + lenS (r :: t) = n + r.2.1 + lenS t by simp only [lenS]; omega]
      · rw [if_neg h2, if_neg (fun h3 : goods (r :: t) => h2 h3.2)]
    · rw [if_neg h, if_neg (fun h3 : goods (r :: t) => h h3.1)]
theorem chk_go (m : List Rn) : chk m = if m.length > 256 then 8 else chkGo 0 m := by
  unfold chk; rw [chkGo_eq, Int.zero_add]

theorem iso_Check_l (k : Nat) (m : List Rn) (hm : m.length ≤ 256) : ∀ (j i : Nat) (n : Int), i ≤ m.length → m.length - i < j → 0 ≤ n → n ≤ (i : Int) * 17179869184 →
    f_u34_5 k j n m (m.length : Int) (i : Int) = some (chkGo n (m.drop i)) := by
  intro j
  induction j with
  | zero => intros; omega
  | succ j ih =>
    intro i n hi hj h0 hn
    unfold f_u34_5
    by_cases h : i < m.length
    · rw [decide_eq_true (by omega : (i : Int) < (m.length : Int)), cond_true, if_pos ⟨by omega, by omega⟩, drop_cons' m i T3.dflt h]
      rw [Int.toNat_natCast]
      unfold chkGo
      by_cases hg : good (m.getD i T3.dflt)
      · obtain ⟨t1, t2⟩ := good_test.1 hg
        have hr := hg
        obtain ⟨g1, g2, g3, g4, _, _⟩ := hr
        rw [if_pos hg, Bool.eq_false_iff.2 t1, cond_false, wrap_id (i := (m.getD i T3.dflt).fst - (m.getD i T3.dflt).snd.fst) (by omega) (by omega), wrap_id (i := (m.getD i T3.dflt).fst - (m.getD i T3.dflt).snd.fst + 1) (by omega) (by omega), wrap_id (i := (m.getD i T3.dflt).fst + (m.getD i T3.dflt).snd.fst) (by omega) (by omega), Bool.eq_false_iff.2 t2, cond_false, wrap_id (i := n + (m.getD i T3.dflt).snd.fst) (by omega) (by omega), wrapS i (by omega)]
        exact ih (i + 1) _ (by omega) (by omega) (by omega) (by omega)
      · rw [if_neg hg]
        by_cases t1 : (decide ((m.getD i T3.dflt).2.1 < 1) || decide ((m.getD i T3.dflt).2.1 > 17179869184) || decide ((m.getD i T3.dflt).1 < 0) || decide ((m.getD i T3.dflt).1 ≥ 17179869184)) = true
        · rw [t1, cond_true]
        · have t2 := fun t2 => hg (good_test.2 ⟨t1, t2⟩)
          have t2 := Classical.not_not.1 t2
          have t3 := t1
          simp only [Bool.or_eq_true, decide_eq_true_eq, not_or] at t3
          obtain ⟨⟨⟨q1, q2⟩, q3⟩, q4⟩ := t3
          rw [Bool.eq_false_iff.2 t1, cond_false, wrap_id (i := (m.getD i T3.dflt).fst - (m.getD i T3.dflt).snd.fst) (by omega) (by omega), wrap_id (i := (m.getD i T3.dflt).fst - (m.getD i T3.dflt).snd.fst + 1) (by omega) (by omega), wrap_id (i := (m.getD i T3.dflt).fst + (m.getD i T3.dflt).snd.fst) (by omega) (by omega), t2, cond_true]
    · rw [decide_eq_false (by omega : ¬ (i : Int) < (m.length : Int)), cond_false, drop_all m i (by omega)]
      unfold chkGo
      by_cases h : n > 17179869184
      · rw [decide_eq_true h, cond_true, if_pos h]
      · rw [decide_eq_false h, cond_false, if_neg h]
theorem iso_Check_s (k : Nat) (hk : 300 ≤ k) (m : List Rn) : f_u34 k m = some (chk m) := by
  unfold f_u34
  rw [chk_go]
  by_cases h : m.length > 256
  · rw [decide_eq_true (by omega : (m.length : Int) > 256), cond_true, if_pos h]
  · rw [decide_eq_false (by omega : ¬ (m.length : Int) > 256), cond_false, if_neg h]
    exact iso_Check_l k m (by omega) k 0 0 (by omega) (by omega) (by omega) (by omega)
theorem iso_Check_v (k : Nat) (hk : 300 ≤ k) (m : List Rn) : v_u34 k m = chk m := by
  unfold v_u34; rw [iso_Check_s k hk]; rfl

theorem iso_length_l (k : Nat) (m : List Rn) (hg : goods m) (hm : m.length ≤ 1000) : ∀ (j i : Nat) (n : Int), i ≤ m.length → m.length - i < j → 0 ≤ n → n ≤ (i : Int) * 17179869184 →
    f_u40_3 k j n m (m.length : Int) (i : Int) = some (n + lenS (m.drop i)) := by
  intro j
  induction j with
  | zero => intros; omega
  | succ j ih =>
    intro i n hi hj h0 hn
    unfold f_u40_3
    by_cases h : i < m.length
    · have hgr : good (m.getD i T3.dflt) := hg.mem _ (by simp [h])
      rw [decide_eq_true (by omega : (i : Int) < (m.length : Int)), cond_true, if_pos ⟨by omega, by omega⟩, drop_cons' m i T3.dflt h]
      rw [Int.toNat_natCast]
      generalize m.getD i T3.dflt = r at hgr
      obtain ⟨g1, g2, _⟩ := hgr
      rw [wrap_id (i := n + r.snd.fst) (by omega) (by omega), wrapS i (by omega), ih (i + 1) _ (by omega) (by omega) (by omega) (by omega)]
      simp only [lenS, Int.add_assoc]
    · rw [decide_eq_false (by omega : ¬ (i : Int) < (m.length : Int)), cond_false, drop_all m i (by omega)]
      simp [lenS]
theorem iso_length_s (k : Nat) (m : List Rn) (hg : goods m) (hm : m.length ≤ 1000) (hk : m.length < k) : f_u40 k m = some (lenS m) := by
  unfold f_u40
  have := iso_length_l k m hg hm k 0 0 (by omega) (by omega) (by omega) (by omega)
  rw [Int.zero_add] at this
  exact this
theorem iso_length_v (k : Nat) (m : List Rn) (hg : goods m) (hm : m.length ≤ 1000) (hk : m.length < k) : v_u40 k m = lenS m := by
  unfold v_u40; rw [iso_length_s k m hg hm hk]; rfl

theorem ref13_good_s (k : Nat) (r : Rn) : f_u58 k r = some (decide (good r)) := by
  unfold f_u58
  by_cases t1 : (decide (r.2.1 < 1) || decide (r.2.1 > 17179869184) || decide (r.1 < 0) || decide (r.1 ≥ 17179869184)) = true
  · rw [t1, cond_true, decide_eq_false (fun h => (good_test.1 h).1 t1)]
  · rw [Bool.eq_false_iff.2 t1, cond_false]
    have t3 := t1
    simp only [Bool.or_eq_true, decide_eq_true_eq, not_or] at t3
    obtain ⟨⟨⟨q1, q2⟩, q3⟩, q4⟩ := t3
    rw [wrap_id (i := r.fst - r.snd.fst) (by omega) (by omega), wrap_id (i := r.fst - r.snd.fst + 1) (by omega) (by omega), wrap_id (i := r.fst + r.snd.fst) (by omega) (by omega)]
    cases hb : r.snd.snd
    · rw [cond_false]
      congr 1
      apply decide_eq_decide.2
      constructor
      · intro h
        exact ⟨by omega, by omega, by omega, by omega, fun e => by simp [hb] at e, fun _ => h⟩
      · rintro ⟨_, _, _, _, _, h⟩
        exact h hb
    · rw [cond_true]
      congr 1
      apply decide_eq_decide.2
      constructor
      · intro h
        exact ⟨by omega, by omega, by omega, by omega, fun _ => h, fun e => by simp [hb] at e⟩
      · rintro ⟨_, _, _, _, h, _⟩
        exact h hb
theorem ref13_good_v (k : Nat) (r : Rn) : v_u58 k r = decide (good r) := by
  unfold v_u58; rw [ref13_good_s]; rfl

theorem ref13_length_l (k : Nat) (m : List Rn) (hg : goods m) (hm : m.length ≤ 1000) : ∀ (j i : Nat) (n : Int), i ≤ m.length → m.length - i < j → 0 ≤ n → n ≤ (i : Int) * 17179869184 →
    f_u60_3 k j m n (i : Int) = some (n + lenS (m.drop i)) := by
  intro j
  induction j with
  | zero => intros; omega
  | succ j ih =>
    intro i n hi hj h0 hn
    unfold f_u60_3
    by_cases h : i < m.length
    · have hgr : good (m.getD i T3.dflt) := hg.mem _ (by simp [h])
      rw [decide_eq_true (by omega : (i : Int) < (m.length : Int)), cond_true, if_pos ⟨by omega, by omega⟩, drop_cons' m i T3.dflt h]
      rw [Int.toNat_natCast]
      generalize m.getD i T3.dflt = r at hgr
      obtain ⟨g1, g2, _⟩ := hgr
      rw [wrap_id (i := n + r.snd.fst) (by omega) (by omega), wrapS i (by omega), ih (i + 1) _ (by omega) (by omega) (by omega) (by omega)]
      simp only [lenS, Int.add_assoc]
    · rw [decide_eq_false (by omega : ¬ (i : Int) < (m.length : Int)), cond_false, drop_all m i (by omega)]
      simp [lenS]
theorem ref13_length_s (k : Nat) (m : List Rn) (hg : goods m) (hm : m.length ≤ 1000) (hk : m.length < k) : f_u60 k m = some (lenS m) := by
  unfold f_u60
  have := ref13_length_l k m hg hm k 0 0 (by omega) (by omega) (by omega) (by omega)
  rw [Int.zero_add] at this
  exact this
theorem ref13_length_v (k : Nat) (m : List Rn) (hg : goods m) (hm : m.length ≤ 1000) (hk : m.length < k) : v_u60 k m = lenS m := by
  unfold v_u60; rw [ref13_length_s k m hg hm hk]; rfl

theorem ref13_Check_l (k : Nat) (hk : 300 ≤ k) (m : List Rn) (hm : m.length ≤ 256) : ∀ (j i : Nat), i ≤ m.length → m.length - i < j → goods (m.take i) →
    f_u55_4 k j m (i : Int) = some (if goods m then (if lenS m > 17179869184 then 21 else 0) else 1) := by
  intro j
  induction j with
  | zero => intros; omega
  | succ j ih =>
    intro i hi hj hg
    unfold f_u55_4
    by_cases h : i < m.length
    · rw [decide_eq_true (by omega : (i : Int) < (m.length : Int)), cond_true, ref13_good_s, ref13_good_v, if_pos ⟨by omega, by omega, rfl⟩, Int.toNat_natCast]
      have hmem : m.getD i T3.dflt ∈ m := by simp [h]
      have htk : m.take (i + 1) = m.take i ++ [m.getD i T3.dflt] := by
        rw [List.take_add_one]; simp [h]
      by_cases hgr : good (m.getD i T3.dflt)
      · rw [decide_eq_true hgr, Bool.not_true, cond_false, wrapS i (by omega)]
        exact ih (i + 1) (by omega) (by omega) (by rw [htk, goods_append]; exact ⟨hg, hgr, trivial⟩)
      · rw [decide_eq_false hgr, Bool.not_false, cond_true, if_neg (fun hgs => hgr (goods.mem hgs _ hmem))]
    · have : m.take i = m := List.take_of_length_le (by omega)
      rw [this] at hg
      rw [decide_eq_false (by omega : ¬ (i : Int) < (m.length : Int)), cond_false, ref13_length_s k m hg (by omega) (by omega), ref13_length_v k m hg (by omega) (by omega), Option.isSome_some, if_pos rfl, if_pos hg]
      by_cases h : lenS m > 17179869184
      · rw [decide_eq_true h, cond_true, if_pos h]
      · rw [decide_eq_false h, cond_false, if_neg h]
theorem ref13_Check_s (k : Nat) (hk : 300 ≤ k) (m : List Rn) : f_u55 k m = some (chk m) := by
  unfold f_u55 chk
  by_cases h : m.length > 256
  · rw [decide_eq_true (by omega : (m.length : Int) > 256), cond_true, if_pos h]
  · rw [decide_eq_false (by omega : ¬ (m.length : Int) > 256), cond_false, if_neg h]
    exact ref13_Check_l k hk m (by omega) k 0 (by omega) (by omega) (by simp [goods])
theorem ref13_Check_v (k : Nat) (hk : 300 ≤ k) (m : List Rn) : v_u55 k m = chk m := by
  unfold v_u55; rw [ref13_Check_s k hk]; rfl
end Go.AM
namespace Go.AM
open Go Go.Proofs

end Go.AM
namespace Go.AM
open Go

structure EachOk (m : List Rn) (f t : Int) : Prop where
  goods : goods m
  len : m.length ≤ 300
  f0 : -1125899906842624 ≤ f ∧ f ≤ 1125899906842624
  t0 : -1125899906842624 ≤ t ∧ t ≤ 1125899906842624

theorem max_ends {r : Rn} (h : good r) : (if img r (r.2.1 - 1) > r.1 then img r (r.2.1 - 1) else r.1) = hi r := by
  have h1 := h.1
  unfold img hi
  cases r.2.2 <;> simp only [Bool.false_eq_true, if_false, if_true] <;> split <;> omega
theorem min_ends {r : Rn} (h : good r) : (if img r (r.2.1 - 1) < r.1 then img r (r.2.1 - 1) else r.1) = lo r := by
  have h1 := h.1
  unfold img lo
  cases r.2.2 <;> simp only [Bool.false_eq_true, if_false, if_true] <;> split <;> omega

end Go.AM
namespace Go.AM
open Go

end Go.AM
namespace Go.AM
open Go Go.Proofs

theorem fitsIn.mem {n : Int} : ∀ {l : List Rn}, fitsIn n l → ∀ r ∈ l, hi r < n
  | [], _, r, hr => by simp at hr
  | u :: v, ⟨h1, h2⟩, r, hr => by
    rcases List.mem_cons.1 hr with rfl | hr
    · exact h1
    · exact fitsIn.mem h2 r hr
end Go.AM
namespace Go.AM
open Go

theorem asc_of_pairwise : ∀ (l : List Sp) (b : Int), (∀ s ∈ l, b ≤ s.1) → l.Pairwise (fun x y => x.1 ≤ y.1) → Asc b l
  | [], _, _, _ => trivial
  | s :: t, b, h, hp => by
    obtain ⟨h1, h2⟩ := List.pairwise_cons.1 hp
    exact ⟨h s (by simp), asc_of_pairwise t s.1 (fun u hu => h1 u hu) h2⟩

/-- the normal form -/
def nf (l : List Sp) : List Sp := jn0 (sortSP l)

theorem In.small {l : List Sp} (h : In 0 17179869184 l) : ∀ x ∈ l, SmallI x.1 := fun x hx => by
  obtain ⟨a, b, c⟩ := h.mem x hx
  exact ⟨a, by omega⟩
theorem nf_asc {l : List Sp} (h : In 0 17179869184 l) : Asc 0 (sortSP l) :=
  asc_of_pairwise _ 0 (fun s hs => (h.mem s ((perm_sortSP h.small).mem_iff.1 hs)).1) sorted_sortSP
theorem nf_nr {l : List Sp} (h : In 0 17179869184 l) : Nr (-1) (nf l) := jn0_nr _ _ (nf_asc h)
theorem nf_has {l : List Sp} (h : In 0 17179869184 l) (x : Int) : has (nf l) x ↔ has l x := by
  unfold nf
  rw [jn0_has _ 0 x (nf_asc h), has_perm (perm_sortSP h.small)]
theorem nf_in {l : List Sp} (h : In 0 17179869184 l) : In 0 17179869184 (nf l) :=
  jn0_in _ (In.of fun s hs => h.mem s ((perm_sortSP h.small).mem_iff.1 hs))
theorem nf_len {l : List Sp} (h : In 0 17179869184 l) : (nf l).length ≤ l.length := by
  have := jn0_len (sortSP l)
  rw [(perm_sortSP h.small).length_eq] at this
  exact this
theorem nf_uniq {l m : List Sp} (h : In 0 17179869184 l) (hm : Nr (-1) m) (he : ∀ x, has m x ↔ has l x) : m = nf l :=
  Nr.uniq hm (nf_nr h) fun x => (he x).trans (nf_has h x).symm
theorem nf_self {l : List Sp} (h : In 0 17179869184 l) (hn : Nr (-1) l) : nf l = l := (nf_uniq h hn fun _ => Iff.rfl).symm

/-- the error of a list of spans -/
def chkS (l : List Sp) : Int := if l.length > 256 then 8 else if l.all (fun s => decide (0 ≤ s.1 ∧ s.1 ≤ s.2 ∧ s.2 ≤ 17179869184)) = true then 0 else 1
theorem chkS_zero {l : List Sp} : chkS l = 0 ↔ l.length ≤ 256 ∧ In 0 17179869184 l := by
  unfold chkS
  constructor
  · intro h
    by_cases h1 : l.length > 256
    · rw [if_pos h1] at h; omega
    · rw [if_neg h1] at h
      by_cases h2 : l.all (fun s => decide (0 ≤ s.1 ∧ s.1 ≤ s.2 ∧ s.2 ≤ 17179869184)) = true
      · exact ⟨by omega, In.of fun s hs => of_decide_eq_true (List.all_eq_true.1 h2 s hs)⟩
      · rw [if_neg h2] at h; omega
  · rintro ⟨h1, h2⟩
    rw [if_neg (by omega), if_pos (List.all_eq_true.2 fun s hs => decide_eq_true (h2.mem s hs))]

/-- the normal form of a list of spans, or its error -/
def normS (l : List Sp) : List Sp × Int := if chkS l ≠ 0 then ([], chkS l) else (nf l, 0)
def totalS (l : List Sp) : Int × Int := if chkS l ≠ 0 then (0, chkS l) else (tot (nf l), 0)

end Go.AM
namespace Go.AM
open Go

/-! ### the reference's way to the normal form -/
def ins : List Int → Int → List Int
  | [], n => [n]
  | x :: t, n => if x < n then x :: ins t n else if x = n then x :: t else n :: x :: t
theorem ins_mem : ∀ (l : List Int) (n x : Int), x ∈ ins l n ↔ x = n ∨ x ∈ l
  | [], n, x => by simp [ins]
  | y :: t, n, x => by
    unfold ins
    by_cases h : y < n
    · rw [if_pos h]; simp only [List.mem_cons, ins_mem t n x]
      constructor
      · rintro (h | h | h) <;> simp [h]
      · rintro (h | h | h) <;> simp [h]
    · rw [if_neg h]
      by_cases h2 : y = n
      · rw [if_pos h2]; simp only [List.mem_cons]; subst h2
        constructor
        · intro h; exact .inr h
        · rintro (h | h)
          · exact .inl h
          · exact h
      · rw [if_neg h2]; simp
theorem ins_sorted : ∀ (l : List Int) (n : Int), l.Pairwise (· < ·) → (ins l n).Pairwise (· < ·)
  | [], n, _ => by simp [ins]
  | y :: t, n, hp => by
    obtain ⟨h1, h2⟩ := List.pairwise_cons.1 hp
    unfold ins
    by_cases h : y < n
    · rw [if_pos h]
      refine List.pairwise_cons.2 ⟨fun x hx => ?_, ins_sorted t n h2⟩
      rcases (ins_mem t n x).1 hx with rfl | hx
      · exact h
      · exact h1 x hx
    · rw [if_neg h]
      by_cases h2 : y = n
      · rw [if_pos h2]; exact hp
      · rw [if_neg h2]
        refine List.pairwise_cons.2 ⟨fun x hx => ?_, hp⟩
        rcases List.mem_cons.1 hx with rfl | hx
        · omega
        · have := h1 x hx; omega
theorem ins_len : ∀ (l : List Int) (n : Int), (ins l n).length ≤ l.length + 1
  | [], n => by simp [ins]
  | y :: t, n => by
    unfold ins
    split
    · have := ins_len t n; simp; omega
    · split <;> simp

def cutsF : List Int → List Sp → List Int
  | acc, [] => acc
  | acc, s :: t => cutsF (ins (ins acc s.1) s.2) t
theorem cutsF_mem : ∀ (l : List Sp) (acc : List Int) (x : Int), x ∈ cutsF acc l ↔ x ∈ acc ∨ ∃ s ∈ l, x = s.1 ∨ x = s.2
  | [], acc, x => by simp [cutsF]
  | s :: t, acc, x => by
    rw [cutsF, cutsF_mem t, ins_mem, ins_mem]
    simp only [List.mem_cons]
    constructor
    · rintro ((h | h | h) | ⟨u, hu, h⟩)
      · exact .inr ⟨s, .inl rfl, .inr h⟩
      · exact .inr ⟨s, .inl rfl, .inl h⟩
      · exact .inl h
      · exact .inr ⟨u, .inr hu, h⟩
    · rintro (h | ⟨u, rfl | hu, h | h⟩)
      · exact .inl (.inr (.inr h))
      · exact .inl (.inr (.inl h))
      · exact .inl (.inl h)
      · exact .inr ⟨u, hu, .inl h⟩
      · exact .inr ⟨u, hu, .inr h⟩
theorem cutsF_sorted : ∀ (l : List Sp) (acc : List Int), acc.Pairwise (· < ·) → (cutsF acc l).Pairwise (· < ·)
  | [], acc, h => h
  | s :: t, acc, h => cutsF_sorted t _ (ins_sorted _ _ (ins_sorted _ _ h))
theorem cutsF_len : ∀ (l : List Sp) (acc : List Int), (cutsF acc l).length ≤ acc.length + 2 * l.length
  | [], acc => by simp [cutsF]
  | s :: t, acc => by
    have h1 := cutsF_len t (ins (ins acc s.1) s.2)
    have h2 := ins_len (ins acc s.1) s.2
    have h3 := ins_len acc s.1
    rw [cutsF]; simp only [List.length_cons]; omega

def hasB (l : List Sp) (x : Int) : Bool := l.any fun s => decide (s.1 ≤ x) && decide (x < s.2)
theorem hasB_iff (l : List Sp) (x : Int) : hasB l x = true ↔ has l x := by
  rw [has_iff]
  unfold hasB
  simp only [List.any_eq_true, Bool.and_eq_true, decide_eq_true_eq]

def cmb1 (a : List Sp) : Sp → List Int → List Sp
  | c, x :: y :: t => if hasB a x = true then (if c.2 = x then cmb1 a (c.1, y) (y :: t) else c :: cmb1 a (x, y) (y :: t)) else cmb1 a c (y :: t)
  | c, _ => [c]
def cmb0 (a : List Sp) : List Int → List Sp
  | x :: y :: t => if hasB a x = true then cmb1 a (x, y) (y :: t) else cmb0 a (y :: t)
  | _ => []
/-- between two neighbours of the list, the first of which is in the set -/
def seg (a : List Sp) : List Int → Int → Prop
  | x :: y :: t, z => (hasB a x = true ∧ x ≤ z ∧ z < y) ∨ seg a (y :: t) z
  | _, _ => False

theorem cmb1_nr (a : List Sp) : ∀ (l : List Int) (c : Sp) (b : Int), b < c.1 → c.1 < c.2 → l.Pairwise (· < ·) → (∀ x ∈ l, c.2 ≤ x) → Nr b (cmb1 a c l)
  | [], c, b, h1, h2, _, _ => ⟨h1, h2, trivial⟩
  | [x], c, b, h1, h2, _, _ => ⟨h1, h2, trivial⟩
  | x :: y :: t, c, b, h1, h2, hp, hc => by
    obtain ⟨p1, p2⟩ := List.pairwise_cons.1 hp
    have hxy := p1 y (by simp)
    have hcx := hc x (by simp)
    have hyt : ∀ u ∈ y :: t, y ≤ u := fun u hu => by
      rcases List.mem_cons.1 hu with rfl | hu
      · exact Int.le_refl _
      · have := (List.pairwise_cons.1 p2).1 u hu; omega
    unfold cmb1
    by_cases q : hasB a x = true
    · rw [if_pos q]
      by_cases q2 : c.2 = x
      · rw [if_pos q2]; exact cmb1_nr a (y :: t) (c.1, y) b h1 (by show c.1 < y; omega) p2 hyt
      · rw [if_neg q2]; exact ⟨h1, h2, cmb1_nr a (y :: t) (x, y) c.2 (by show c.2 < x; omega) hxy p2 hyt⟩
    · rw [if_neg q]; exact cmb1_nr a (y :: t) c b h1 h2 p2 fun u hu => by have := hyt u hu; omega
theorem cmb1_has (a : List Sp) : ∀ (l : List Int) (c : Sp) (z : Int), l.Pairwise (· < ·) → (∀ x ∈ l, c.2 ≤ x) → c.1 < c.2 → (has (cmb1 a c l) z ↔ (c.1 ≤ z ∧ z < c.2) ∨ seg a l z)
  | [], c, z, _, _, _ => by simp [cmb1, has, seg]
  | [x], c, z, _, _, _ => by simp [cmb1, has, seg]
  | x :: y :: t, c, z, hp, hc, h2 => by
    obtain ⟨p1, p2⟩ := List.pairwise_cons.1 hp
    have hxy := p1 y (by simp)
    have hcx := hc x (by simp)
    have hyt : ∀ u ∈ y :: t, y ≤ u := fun u hu => by
      rcases List.mem_cons.1 hu with rfl | hu
      · exact Int.le_refl _
      · have := (List.pairwise_cons.1 p2).1 u hu; omega
    unfold cmb1 seg
    by_cases q : hasB a x = true
    · rw [if_pos q]
      by_cases q2 : c.2 = x
      · rw [if_pos q2, cmb1_has a (y :: t) (c.1, y) z p2 hyt (by show c.1 < y; omega)]
        constructor
        · rintro (h | h)
          · have h : c.1 ≤ z ∧ z < y := h
            by_cases q3 : z < c.2
            · exact .inl ⟨h.1, q3⟩
            · exact .inr (.inl ⟨q, by omega, h.2⟩)
          · exact .inr (.inr h)
        · rintro (h | ⟨_, h⟩ | h)
          · exact .inl ⟨h.1, by show z < y; omega⟩
          · exact .inl ⟨by show c.1 ≤ z; omega, h.2⟩
          · exact .inr h
      · rw [if_neg q2]
        show (c.1 ≤ z ∧ z < c.2) ∨ has (cmb1 a (x, y) (y :: t)) z ↔ _
        rw [cmb1_has a (y :: t) (x, y) z p2 hyt hxy]
        constructor
        · rintro (h | h | h)
          · exact .inl h
          · exact .inr (.inl ⟨q, h⟩)
          · exact .inr (.inr h)
        · rintro (h | ⟨_, h⟩ | h)
          · exact .inl h
          · exact .inr (.inl h)
          · exact .inr (.inr h)
    · rw [if_neg q, cmb1_has a (y :: t) c z p2 (fun u hu => by have := hyt u hu; omega) h2]
      constructor
      · rintro (h | h)
        · exact .inl h
        · exact .inr (.inr h)
      · rintro (h | ⟨h, _⟩ | h)
        · exact .inl h
        · exact absurd h q
        · exact .inr h
theorem cmb0_nr (a : List Sp) : ∀ (l : List Int) (b : Int), l.Pairwise (· < ·) → (∀ x ∈ l, b < x) → Nr b (cmb0 a l)
  | [], b, _, _ => trivial
  | [x], b, _, _ => trivial
  | x :: y :: t, b, hp, hb => by
    obtain ⟨p1, p2⟩ := List.pairwise_cons.1 hp
    have hxy := p1 y (by simp)
    have hyt : ∀ u ∈ y :: t, y ≤ u := fun u hu => by
      rcases List.mem_cons.1 hu with rfl | hu
      · exact Int.le_refl _
      · have := (List.pairwise_cons.1 p2).1 u hu; omega
    unfold cmb0
    by_cases q : hasB a x = true
    · rw [if_pos q]; exact cmb1_nr a (y :: t) (x, y) b (hb x (by simp)) hxy p2 hyt
    · rw [if_neg q]; exact cmb0_nr a (y :: t) b p2 fun u hu => hb u (by simp [hu])
theorem cmb0_has (a : List Sp) : ∀ (l : List Int) (z : Int), l.Pairwise (· < ·) → (has (cmb0 a l) z ↔ seg a l z)
  | [], z, _ => Iff.rfl
  | [x], z, _ => Iff.rfl
  | x :: y :: t, z, hp => by
    obtain ⟨p1, p2⟩ := List.pairwise_cons.1 hp
    have hxy := p1 y (by simp)
    have hyt : ∀ u ∈ y :: t, y ≤ u := fun u hu => by
      rcases List.mem_cons.1 hu with rfl | hu
      · exact Int.le_refl _
      · have := (List.pairwise_cons.1 p2).1 u hu; omega
    unfold cmb0 seg
    by_cases q : hasB a x = true
    · rw [if_pos q, cmb1_has a (y :: t) (x, y) z p2 hyt hxy]
      constructor
      · rintro (h | h)
        · exact .inl ⟨q, h⟩
        · exact .inr h
      · rintro (⟨_, h⟩ | h)
        · exact .inl h
        · exact .inr h
    · rw [if_neg q, cmb0_has a (y :: t) z p2]
      exact ⟨.inr, fun h => h.elim (fun h => absurd h.1 q) id⟩

/-- the neighbours about z -/
theorem seg_has (a : List Sp) (h0 : ∀ s ∈ a, s.1 ≤ s.2) : ∀ (l : List Int) (z : Int), l.Pairwise (· < ·) → (∀ s ∈ a, s.1 ≤ z → z < s.2 → (s.2 ∈ l ∧ (s.1 ∈ l ∨ ∀ x ∈ l, s.1 ≤ x))) → (∀ s ∈ a, ∀ x ∈ l, s.1 ≤ x → x < s.2 → s.2 ∈ l) → (∀ x ∈ l, z < x) ∨ (seg a l z ↔ has a z)
  | [], z, _, h, _ => .inl (by simp)
  | [x], z, _, h, _ => by
    by_cases hz : z < x
    · left; simpa using hz
    · right
      refine ⟨fun h => h.elim, fun hh => ?_⟩
      obtain ⟨s, hs, h1, h2⟩ := (has_iff a z).1 hh
      obtain ⟨k1, k2⟩ := h s hs h1 h2
      have : s.2 = x := by simpa using k1
      omega
  | x :: y :: t, z, hp, h, h' => by
    obtain ⟨p1, p2⟩ := List.pairwise_cons.1 hp
    have hxy := p1 y (by simp)
    have hyt : ∀ u ∈ y :: t, y ≤ u := fun u hu => by
      rcases List.mem_cons.1 hu with rfl | hu
      · exact Int.le_refl _
      · have := (List.pairwise_cons.1 p2).1 u hu; omega
    by_cases hz : z < x
    · left
      intro u hu
      rcases List.mem_cons.1 hu with rfl | hu
      · exact hz
      · have := hyt u hu; omega
    · right
      by_cases hzy : z < y
      · -- between x and y
        have hno : ¬ seg a (y :: t) z := by
          have : ∀ (l : List Int), (∀ u ∈ l, z < u) → ¬ seg a l z := fun l => by
            induction l with
            | nil => intro _ h; exact h
            | cons u v ih =>
              intro hu hs
              cases v with
              | nil => exact hs
              | cons w r =>
                rcases hs with ⟨_, h1, _⟩ | hs
                · have := hu u (by simp); omega
                · exact ih (fun q hq => hu q (by simp [hq])) hs
          exact this _ fun u hu => by have := hyt u hu; omega
        constructor
        · rintro (⟨h1, h2, h3⟩ | h1)
          · obtain ⟨s, hs, k1, k2⟩ := (has_iff a x).1 ((hasB_iff a x).1 h1)
            have k3 := h' s hs x (by simp) k1 k2
            have : y ≤ s.2 := by
              rcases List.mem_cons.1 k3 with e | e
              · omega
              · exact hyt _ e
            exact (has_iff a z).2 ⟨s, hs, by omega, by omega⟩
          · exact absurd h1 hno
        · intro hh
          obtain ⟨s, hs, k1, k2⟩ := (has_iff a z).1 hh
          obtain ⟨k3, k4⟩ := h s hs k1 k2
          left
          refine ⟨(hasB_iff a x).2 ((has_iff a x).2 ⟨s, hs, ?_, by omega⟩), by omega, hzy⟩
          rcases k4 with k4 | k4
          · rcases List.mem_cons.1 k4 with e | e
            · omega
            · have := hyt _ e; omega
          · exact k4 x (by simp)
      · have ih := seg_has a h0 (y :: t) z p2 (fun s hs k1 k2 => by
          obtain ⟨k3, k4⟩ := h s hs k1 k2
          refine ⟨?_, ?_⟩
          · rcases List.mem_cons.1 k3 with e | e
            · omega
            · exact e
          · rcases k4 with k4 | k4
            · rcases List.mem_cons.1 k4 with e | e
              · exact .inr fun u hu => by have := hyt u hu; omega
              · exact .inl e
            · exact .inr fun u hu => k4 u (by simp [hu])) (fun s hs u hu k1 k2 => by
          rcases List.mem_cons.1 (h' s hs u (by simp [hu]) k1 k2) with e | e
          · have := hyt u hu; omega
          · exact e)
        have hsame : seg a (x :: y :: t) z ↔ seg a (y :: t) z := by
          show (hasB a x = true ∧ x ≤ z ∧ z < y) ∨ seg a (y :: t) z ↔ _
          exact ⟨fun h => h.elim (fun h => absurd h.2.2 hzy) id, .inr⟩
        rcases ih with ih | ih
        · exact absurd (ih y (by simp)) hzy
        · exact hsame.trans ih

theorem cmb_nf {l : List Sp} (h : In 0 17179869184 l) : cmb0 l (cutsF [] l) = nf l := by
  have hs := cutsF_sorted l [] List.Pairwise.nil
  have hm : ∀ x, x ∈ cutsF [] l ↔ ∃ s ∈ l, x = s.1 ∨ x = s.2 := fun x => by rw [cutsF_mem]; simp
  refine nf_uniq h (cmb0_nr l _ (-1) hs fun x hx => ?_) fun z => ?_
  · obtain ⟨s, hs, hx⟩ := (hm x).1 hx
    have := h.mem s hs
    rcases hx with rfl | rfl <;> omega
  · rw [cmb0_has l _ z hs]
    rcases seg_has l (fun s hs => (h.mem s hs).2.1) (cutsF [] l) z hs (fun s hs _ _ => ⟨(hm _).2 ⟨s, hs, .inr rfl⟩, .inl ((hm _).2 ⟨s, hs, .inl rfl⟩)⟩) (fun s hs x _ _ _ => (hm _).2 ⟨s, hs, .inr rfl⟩) with k | k
    · constructor
      · intro hseg
        exfalso
        have : ∀ (m : List Int), (∀ u ∈ m, z < u) → ¬ seg l m z := fun m => by
          induction m with
          | nil => intro _ h; exact h
          | cons u v ih =>
            intro hu hs
            cases v with
            | nil => exact hs
            | cons w r =>
              rcases hs with ⟨_, h1, _⟩ | hs
              · have := hu u (by simp); omega
              · exact ih (fun q hq => hu q (by simp [hq])) hs
        exact this _ k hseg
      · intro hh
        obtain ⟨s, hs, k1, k2⟩ := (has_iff l z).1 hh
        have := k _ ((hm s.1).2 ⟨s, hs, .inl rfl⟩)
        omega
    · exact k
theorem eqT_sp (a b : Sp) : eqT T21 a b = decide (a = b) := by
  show ((a.1 == b.1) && (a.2 == b.2)) = _
  by_cases h1 : a.1 = b.1 <;> by_cases h2 : a.2 = b.2 <;> simp [h1, h2, Prod.ext_iff]

theorem span_Check_l (k : Nat) (l : List Sp) (hl : l.length ≤ 256) : ∀ (j i : Nat), i ≤ l.length → l.length - i < j →
    f_u93_4 k j l (l.length : Int) (i : Int) = some (if (l.drop i).all (fun s => decide (0 ≤ s.1 ∧ s.1 ≤ s.2 ∧ s.2 ≤ 17179869184)) = true then 0 else 1) := by
  intro j
  induction j with
  | zero => intros; omega
  | succ j ih =>
    intro i hi hj
    rw [f_u93_4]
    by_cases h : i < l.length
    · rw [decide_eq_true (by omega : (i : Int) < (l.length : Int)), cond_true, if_pos ⟨by omega, by omega⟩, drop_cons' l i T21.dflt h, Int.toNat_natCast, List.all_cons]
      generalize l.getD i T21.dflt = s
      by_cases hs : 0 ≤ s.1 ∧ s.1 ≤ s.2 ∧ s.2 ≤ 17179869184
      · rw [decide_eq_false (by omega : ¬ s.fst < 0), decide_eq_false (by omega : ¬ s.fst > s.snd), decide_eq_false (by omega : ¬ s.snd > 17179869184), Bool.or_self, Bool.or_self, cond_false, wrapS i (by omega), ih (i + 1) (by omega) (by omega), decide_eq_true hs, Bool.true_and]
      · have : (decide (s.fst < 0) || decide (s.fst > s.snd) || decide (s.snd > 17179869184)) = true := by
          by_cases a : s.fst < 0
          · rw [decide_eq_true a]; rfl
          · by_cases b : s.fst > s.snd
            · rw [decide_eq_true b, Bool.or_true]; rfl
            · rw [decide_eq_true (by omega : s.snd > 17179869184), Bool.or_true]
        rw [this, cond_true, decide_eq_false hs, Bool.false_and, if_neg (by decide)]
    · rw [decide_eq_false (by omega : ¬ (i : Int) < (l.length : Int)), cond_false, drop_all l i (by omega)]
      rfl
theorem span_Check_s (k : Nat) (hk : 300 ≤ k) (l : List Sp) : f_u93 k l = some (chkS l) := by
  unfold f_u93 chkS
  by_cases h : l.length > 256
  · rw [decide_eq_true (by omega : (l.length : Int) > 256), cond_true, if_pos h]
  · rw [decide_eq_false (by omega : ¬ (l.length : Int) > 256), cond_false, if_neg h]
    exact span_Check_l k l (by omega) k 0 (by omega) (by omega)
theorem span_Check_v (k : Nat) (hk : 300 ≤ k) (l : List Sp) : v_u93 k l = chkS l := by
  unfold v_u93; rw [span_Check_s k hk]; rfl

theorem last_idxS (pre : List Sp) (c : Sp) (h : pre.length < 4611686018427387904) : (IntKind.i64.wrap (((pre ++ [c]).length : Int) - 1)).toNat = pre.length := by
  rw [List.length_append, List.length_singleton, wrap_id (by omega) (by omega)]; omega
theorem last_getS (pre : List Sp) (c d : Sp) : (pre ++ [c]).getD pre.length d = c := by simp
theorem last_setS (pre : List Sp) (c d : Sp) : (pre ++ [c]).set pre.length d = pre ++ [d] := by simp

theorem span_joined_l (k : Nat) (l : List Sp) (hl : l.length ≤ 100000) : ∀ (j i : Nat), i ≤ l.length → l.length - i < j →
    (∀ last : Sp, last.1 ≥ last.2 → f_u97_6 k j (l.length : Int) (i : Int) [] last l = some (jn0 (l.drop i))) ∧
    (∀ (pre : List Sp) (c last : Sp), pre.length ≤ i → (last.1 ≥ last.2 ∨ last.2 ≤ c.2) → f_u97_6 k j (l.length : Int) (i : Int) (pre ++ [c]) last l = some (pre ++ jn c (l.drop i))) := by
  intro j
  induction j with
  | zero => intros; omega
  | succ j ih =>
    intro i hi hj
    by_cases h : i < l.length
    · refine ⟨fun last hla => ?_, fun pre c last hp hla => ?_⟩
      · rw [f_u97_6, decide_eq_true (by omega : (i : Int) < (l.length : Int)), cond_true, if_pos ⟨by omega, by omega⟩, drop_cons' l i T21.dflt h, Int.toNat_natCast, eqT_sp, jn0]
        obtain ⟨ih1, ih2⟩ := ih (i + 1) (by omega) (by omega)
        generalize l.getD i T21.dflt = s at *
        by_cases q : s.1 ≥ s.2
        · rw [decide_eq_true q, Bool.true_or, cond_true, if_pos q, wrapS i (by omega)]
          exact ih1 s q
        · have hne : ¬ s = last := fun e => q (e ▸ hla)
          rw [decide_eq_false q, decide_eq_false hne, Bool.false_or, cond_false, if_neg q, wrapS i (by omega)]
          rw [if_pos ⟨fun e => (by simp at e), fun e => (by simp at e)⟩]
          show (bif decide ((0 : Int) > 0) && _ then _ else _) = _
          rw [decide_eq_false (by omega), Bool.false_and, cond_false, if_pos (by simp), List.nil_append]
          exact ih2 [] s s (by simp) (.inr (Int.le_refl _))
      · rw [f_u97_6, decide_eq_true (by omega : (i : Int) < (l.length : Int)), cond_true, if_pos ⟨by omega, by omega⟩, drop_cons' l i T21.dflt h, Int.toNat_natCast, eqT_sp, jn]
        obtain ⟨ih1, ih2⟩ := ih (i + 1) (by omega) (by omega)
        generalize l.getD i T21.dflt = s at *
        have hlen : (pre ++ [c]).length = pre.length + 1 := by simp
        by_cases q : s.1 ≥ s.2
        · rw [decide_eq_true q, Bool.true_or, cond_true, if_pos q, wrapS i (by omega)]
          exact ih2 pre c s (by omega) (.inl q)
        · rw [if_neg q, decide_eq_false q, Bool.false_or]
          by_cases he : s = last
          · have h2 : s.2 ≤ c.2 := by
              subst he
              rcases hla with h | h
              · exact absurd h q
              · exact h
            rw [decide_eq_true he, cond_true, wrapS i (by omega), if_pos (by omega), if_neg (by omega)]
            exact ih2 pre c s (by omega) (.inr h2)
          · have hidx : (0 : Int) ≤ IntKind.i64.wrap (((pre ++ [c]).length : Int) - 1) ∧ IntKind.i64.wrap (((pre ++ [c]).length : Int) - 1) < ((pre ++ [c]).length : Int) := by
              rw [hlen, wrap_id (by omega) (by omega)]; exact ⟨by omega, by omega⟩
            rw [decide_eq_false he, cond_false, if_pos ⟨fun _ => hidx.1, fun _ => hidx.2⟩, decide_eq_true (by rw [hlen]; omega), Bool.true_and, last_idxS pre c (by omega), last_getS, last_setS, wrapS i (by omega)]
            by_cases q2 : s.1 ≤ c.2
            · rw [decide_eq_true q2, cond_true, if_pos ⟨hidx.1, hidx.2, hidx.1, hidx.2⟩, if_pos q2]
              exact ih2 pre (c.1, if s.2 > c.2 then s.2 else c.2) s (by omega) (.inr (by show s.2 ≤ if s.2 > c.2 then s.2 else c.2; split <;> omega))
            · rw [decide_eq_false q2, cond_false, if_pos (by rw [hlen, List.length_singleton]; omega), if_neg q2]
              rw [ih2 (pre ++ [c]) s s (by simp; omega) (.inr (Int.le_refl _))]
              simp
    · have hd := drop_all l i (by omega)
      refine ⟨fun last hla => ?_, fun pre c last hp hla => ?_⟩
      · rw [f_u97_6, decide_eq_false (by omega : ¬ (i : Int) < (l.length : Int)), cond_false, hd]; rfl
      · rw [f_u97_6, decide_eq_false (by omega : ¬ (i : Int) < (l.length : Int)), cond_false, hd]; rfl
theorem span_joined_s (k : Nat) (l : List Sp) (h : In 0 17179869184 l) (hl : l.length ≤ 100000) (hk : l.length < k) : f_u97 k l = some (nf l) := by
  have e1 : f_u88 k l = some l := by
    unfold f_u88; rw [if_pos (by omega)]
  have v1 : v_u88 k l = l := by unfold v_u88; rw [e1]; rfl
  have e2 : f_u91 k l = some (sortSP l) := by
    unfold f_u91
    rw [if_pos ⟨List.all_eq_true.2 fun x hx => decide_eq_true (h.small x hx), by omega⟩, srtSP_eq h.small]
  have v2 : v_u91 k l = sortSP l := by unfold v_u91; rw [e2]; rfl
  have hlen := (perm_sortSP h.small).length_eq
  unfold f_u97
  rw [e1, v1, e2, v2, Option.isSome_some, Option.isSome_some, if_pos rfl, if_pos rfl]
  exact (span_joined_l k (sortSP l) (by omega) k 0 (by omega) (by omega)).1 (0, 0) (Int.le_refl _)
theorem span_joined_v (k : Nat) (l : List Sp) (h : In 0 17179869184 l) (hl : l.length ≤ 100000) (hk : l.length < k) : v_u97 k l = nf l := by
  unfold v_u97; rw [span_joined_s k l h hl hk]; rfl

/-- the ends of spans -/
def ends2 : List Sp → List Int
  | [] => []
  | s :: t => s.1 :: s.2 :: ends2 t
theorem ends2_len : ∀ l : List Sp, (ends2 l).length = 2 * l.length
  | [] => rfl
  | s :: t => by simp only [ends2, List.length_cons, ends2_len t]; omega
theorem ends2_fst : ∀ (l : List Sp) (p : Nat), p < l.length → (ends2 l).getD (2 * p) 0 = (l.getD p (0, 0)).1
  | s :: t, 0, _ => rfl
  | s :: t, p + 1, h => by
    have := ends2_fst t p (by simpa using h)
    rw [show 2 * (p + 1) = 2 * p + 1 + 1 by omega]
    simpa [ends2] using this
theorem ends2_snd : ∀ (l : List Sp) (p : Nat), p < l.length → (ends2 l).getD (2 * p + 1) 0 = (l.getD p (0, 0)).2
  | s :: t, 0, _ => rfl
  | s :: t, p + 1, h => by
    have := ends2_snd t p (by simpa using h)
    rw [show 2 * (p + 1) + 1 = 2 * p + 1 + 1 + 1 by omega]
    simpa [ends2] using this
theorem ends2_append : ∀ (a b : List Sp), ends2 (a ++ b) = ends2 a ++ ends2 b
  | [], b => rfl
  | s :: t, b => by simp [ends2, ends2_append t b]
theorem ends2_sorted : ∀ {b : Int} {l : List Sp}, Nr b l → (ends2 l).Pairwise (fun x y => x ≤ y) ∧ ∀ x ∈ ends2 l, b ≤ x
  | _, [], _ => ⟨List.Pairwise.nil, by simp [ends2]⟩
  | b, s :: t, ⟨h1, h2, h3⟩ => by
    obtain ⟨i1, i2⟩ := ends2_sorted h3
    refine ⟨List.pairwise_cons.2 ⟨fun x hx => ?_, List.pairwise_cons.2 ⟨fun x hx => i2 x hx, i1⟩⟩, fun x hx => ?_⟩
    · rcases List.mem_cons.1 hx with rfl | hx
      · omega
      · have := i2 x hx; omega
    · rcases List.mem_cons.1 hx with rfl | hx
      · omega
      · rcases List.mem_cons.1 hx with rfl | hx
        · omega
        · have := i2 x hx; omega

/-- neighbours of a normal form -/
theorem Nr.get : ∀ {b : Int} {l : List Sp}, Nr b l → ∀ (p : Nat), p < l.length → (l.getD p (0, 0)).1 < (l.getD p (0, 0)).2 ∧ (p + 1 < l.length → (l.getD p (0, 0)).2 < (l.getD (p + 1) (0, 0)).1)
  | _, [], _, p, h => by simp at h
  | b, s :: t, ⟨h1, h2, h3⟩, 0, h => by
    refine ⟨h2, fun h' => ?_⟩
    cases t with
    | nil => simp at h'
    | cons u v => exact h3.1
  | b, s :: t, ⟨h1, h2, h3⟩, p + 1, h => by
    have := Nr.get h3 p (by simpa using h)
    simpa using this

theorem span_sets_end (k j : Nat) (a : List Sp) (h : In 0 17179869184 a) (hn : Nr (-1) a) (hl : a.length ≤ 256) (hk : 300 ≤ k) : f_u99_28 k (j + 1) a = some (a, 0) := by
  rw [f_u99_28, span_joined_s k a h (by omega) (by omega), span_joined_v k a h (by omega) (by omega), nf_self h hn, Option.isSome_some, if_pos rfl, decide_eq_false (by omega), cond_false]

theorem span_sets18_l (k : Nat) (hk : 300 ≤ k) (a : List Sp) (h : In 0 17179869184 a) (hn : Nr (-1) a) (hl : a.length ≤ 256) : ∀ (d p : Nat) (j : Nat), a.length - p = d → p ≤ a.length → 7 * d + 2 ≤ j →
    f_u99_18 k j a [] (p : Int) 0 ((ends2 a).length : Int) ((2 * p : Nat) : Int) (ends2 a) (a.take p) = some (a, 0) := by
  intro d
  induction d with
  | zero =>
    intro p j hd hp hj
    obtain ⟨j, rfl⟩ : ∃ m, j = m + 2 := ⟨j - 2, by omega⟩
    have hpa : p = a.length := by omega
    subst hpa
    rw [f_u99_18, ends2_len, decide_eq_false (by omega), cond_false, List.take_length]
    exact span_sets_end k j a h hn hl hk
  | succ d ih =>
    intro p j hd hp hj
    obtain ⟨j, rfl⟩ : ∃ m, j = m + 7 := ⟨j - 7, by omega⟩
    have hpl : p < a.length := by omega
    have hEl := ends2_len a
    have e1 := ends2_fst a p hpl
    have e2 := ends2_snd a p hpl
    obtain ⟨n1, n2⟩ := hn.get p hpl
    have htk := take_snoc a p (0, 0) hpl
    have hd0 : T21.dflt = ((0, 0) : Sp) := rfl
    have hz : (RTy.int IntKind.i64).dflt = (0 : Int) := rfl
    generalize hs : a.getD p (0, 0) = s at *
    -- the beginning of a span
    have b18 : f_u99_18 k (j + 7) a [] (p : Int) 0 ((ends2 a).length : Int) ((2 * p : Nat) : Int) (ends2 a) (a.take p) = f_u99_20 k (j + 6) a [] (p : Int) 0 ((2 * p : Nat) : Int) s.1 ((ends2 a).length : Int) ((2 * p : Nat) : Int) (ends2 a) (a.take p) := by
      rw [show j + 7 = (j + 6) + 1 by omega, f_u99_18, decide_eq_true (by omega), cond_true, if_pos ⟨by omega, by omega⟩, Int.toNat_natCast, hz, e1]
    have b20 : f_u99_20 k (j + 6) a [] (p : Int) 0 ((2 * p : Nat) : Int) s.1 ((ends2 a).length : Int) ((2 * p : Nat) : Int) (ends2 a) (a.take p) = f_u99_22 k (j + 5) a [] (p : Int) 0 ((2 * p : Nat) : Int) s.1 ((ends2 a).length : Int) ((2 * p : Nat) : Int) (ends2 a) (a.take p) := by
      rw [show j + 6 = (j + 5) + 1 by omega, f_u99_20, if_pos ⟨fun _ => by omega, fun _ => by omega⟩, Int.toNat_natCast, hd0, hs, decide_eq_false (by omega : ¬ s.2 ≤ s.1), Bool.and_false, cond_false]
    have b22 : f_u99_22 k (j + 5) a [] (p : Int) 0 ((2 * p : Nat) : Int) s.1 ((ends2 a).length : Int) ((2 * p : Nat) : Int) (ends2 a) (a.take p) = f_u99_18 k (j + 4) a [] (p : Int) 0 ((ends2 a).length : Int) ((2 * p + 1 : Nat) : Int) (ends2 a) (a.take (p + 1)) := by
      rw [show j + 5 = (j + 4) + 1 by omega, f_u99_22, if_pos ⟨fun e => by simp at e, fun e => by simp at e⟩, show (decide ((0 : Int) < (([] : List Sp).length : Int)) && _) = false from rfl, cond_false, wrapS (2 * p) (by omega)]
      rw [if_pos ⟨fun _ => by omega, fun _ => by omega⟩, Int.toNat_natCast, hz, e2, show ((((2 * p + 1 : Nat) : Int) == ((ends2 a).length : Int)) = false) from beqf (by omega), show (s.2 == s.1) = false from beqf (by omega), Bool.or_self, cond_false]
      rw [Int.toNat_natCast, hd0, hs, decide_eq_true (by omega : (p : Int) < (a.length : Int)), decide_eq_true (by omega : s.fst ≤ s.1), Bool.and_self]
      have ek : ∀ b, v_u95 k true b = true := fun b => rfl
      have ef : ∀ b, f_u95 k true b = some true := fun b => rfl
      rw [ek, ef, if_pos ⟨fun _ => by omega, fun _ => by omega, fun e => by simp at e, fun e => by simp at e, rfl⟩, cond_true, if_pos ⟨by omega, by omega, by rw [List.length_singleton, List.length_take]; omega⟩, htk]
    -- its end
    have c18 : f_u99_18 k (j + 4) a [] (p : Int) 0 ((ends2 a).length : Int) ((2 * p + 1 : Nat) : Int) (ends2 a) (a.take (p + 1)) = f_u99_20 k (j + 3) a [] (p : Int) 0 ((2 * p + 1 : Nat) : Int) s.2 ((ends2 a).length : Int) ((2 * p + 1 : Nat) : Int) (ends2 a) (a.take (p + 1)) := by
      rw [show j + 4 = (j + 3) + 1 by omega, f_u99_18, decide_eq_true (by omega), cond_true, if_pos ⟨by omega, by omega⟩, Int.toNat_natCast, hz, e2]
    have c20 : f_u99_20 k (j + 3) a [] (p : Int) 0 ((2 * p + 1 : Nat) : Int) s.2 ((ends2 a).length : Int) ((2 * p + 1 : Nat) : Int) (ends2 a) (a.take (p + 1)) = f_u99_20 k (j + 2) a [] ((p + 1 : Nat) : Int) 0 ((2 * p + 1 : Nat) : Int) s.2 ((ends2 a).length : Int) ((2 * p + 1 : Nat) : Int) (ends2 a) (a.take (p + 1)) := by
      rw [show j + 3 = (j + 2) + 1 by omega, f_u99_20, if_pos ⟨fun _ => by omega, fun _ => by omega⟩, Int.toNat_natCast, hd0, hs, decide_eq_true (by omega : s.snd ≤ s.2), decide_eq_true (by omega : (p : Int) < (a.length : Int)), Bool.and_self, cond_true, wrapS p (by omega)]
    by_cases hlast : p + 1 < a.length
    · have n2 := n2 hlast
      have e3 := ends2_fst a (p + 1) hlast
      obtain ⟨m1, _⟩ := hn.get (p + 1) hlast
      generalize hu : a.getD (p + 1) (0, 0) = u at *
      have d20 : f_u99_20 k (j + 2) a [] ((p + 1 : Nat) : Int) 0 ((2 * p + 1 : Nat) : Int) s.2 ((ends2 a).length : Int) ((2 * p + 1 : Nat) : Int) (ends2 a) (a.take (p + 1)) = f_u99_22 k (j + 1) a [] ((p + 1 : Nat) : Int) 0 ((2 * p + 1 : Nat) : Int) s.2 ((ends2 a).length : Int) ((2 * p + 1 : Nat) : Int) (ends2 a) (a.take (p + 1)) := by
        rw [show j + 2 = (j + 1) + 1 by omega, f_u99_20, if_pos ⟨fun _ => by omega, fun _ => by omega⟩, Int.toNat_natCast, hd0, hu, decide_eq_false (by omega : ¬ u.2 ≤ s.2), Bool.and_false, cond_false]
      have d22 : f_u99_22 k (j + 1) a [] ((p + 1 : Nat) : Int) 0 ((2 * p + 1 : Nat) : Int) s.2 ((ends2 a).length : Int) ((2 * p + 1 : Nat) : Int) (ends2 a) (a.take (p + 1)) = f_u99_18 k j a [] ((p + 1 : Nat) : Int) 0 ((ends2 a).length : Int) ((2 * (p + 1) : Nat) : Int) (ends2 a) (a.take (p + 1)) := by
        rw [f_u99_22, if_pos ⟨fun e => by simp at e, fun e => by simp at e⟩, show (decide ((0 : Int) < (([] : List Sp).length : Int)) && _) = false from rfl, cond_false, wrapS (2 * p + 1) (by omega), show 2 * p + 1 + 1 = 2 * (p + 1) by omega]
        rw [if_pos ⟨fun _ => by omega, fun _ => by omega⟩, Int.toNat_natCast, hz, e3, show ((((2 * (p + 1) : Nat) : Int) == ((ends2 a).length : Int)) = false) from beqf (by omega), show (u.1 == s.2) = false from beqf (by omega), Bool.or_self, cond_false]
        rw [Int.toNat_natCast, hd0, hu, decide_eq_false (by omega : ¬ u.fst ≤ s.2), Bool.and_false]
        have ek : ∀ b, v_u95 k false b = false := fun b => rfl
        have ef : ∀ b, f_u95 k false b = some false := fun b => rfl
        rw [ek, ef, if_pos ⟨fun _ => by omega, fun _ => by omega, fun e => by simp at e, fun e => by simp at e, rfl⟩, cond_false]
      rw [b18, b20, b22, c18, c20, d20, d22]
      exact ih (p + 1) j (by omega) (by omega) (by omega)
    · have hpa : p + 1 = a.length := by omega
      have d20 : f_u99_20 k (j + 2) a [] ((p + 1 : Nat) : Int) 0 ((2 * p + 1 : Nat) : Int) s.2 ((ends2 a).length : Int) ((2 * p + 1 : Nat) : Int) (ends2 a) (a.take (p + 1)) = f_u99_22 k (j + 1) a [] ((p + 1 : Nat) : Int) 0 ((2 * p + 1 : Nat) : Int) s.2 ((ends2 a).length : Int) ((2 * p + 1 : Nat) : Int) (ends2 a) (a.take (p + 1)) := by
        rw [show j + 2 = (j + 1) + 1 by omega, f_u99_20, if_pos ⟨fun _ => by omega, fun e => of_decide_eq_true e⟩, decide_eq_false (by omega : ¬ ((p + 1 : Nat) : Int) < (a.length : Int)), Bool.false_and, cond_false]
      have d22 : f_u99_22 k (j + 1) a [] ((p + 1 : Nat) : Int) 0 ((2 * p + 1 : Nat) : Int) s.2 ((ends2 a).length : Int) ((2 * p + 1 : Nat) : Int) (ends2 a) (a.take (p + 1)) = f_u99_18 k j a [] ((p + 1 : Nat) : Int) 0 ((ends2 a).length : Int) ((2 * (p + 1) : Nat) : Int) (ends2 a) (a.take (p + 1)) := by
        rw [f_u99_22, if_pos ⟨fun e => by simp at e, fun e => by simp at e⟩, show (decide ((0 : Int) < (([] : List Sp).length : Int)) && _) = false from rfl, cond_false, wrapS (2 * p + 1) (by omega), show 2 * p + 1 + 1 = 2 * (p + 1) by omega]
        have hq : (((2 * (p + 1) : Nat) : Int) == ((ends2 a).length : Int)) = true := by simp only [beq_iff_eq]; omega
        rw [hq, if_pos (show (true = false → (0 : Int) ≤ ((2 * (p + 1) : Nat) : Int)) ∧ (true = false → ((2 * (p + 1) : Nat) : Int) < ((ends2 a).length : Int)) from ⟨fun e => (by cases e), fun e => (by cases e)⟩), Bool.true_or, cond_true]
      rw [b18, b20, b22, c18, c20, d20, d22]
      exact ih (p + 1) j (by omega) (by omega) (by omega)

theorem span_concat_s (k : Nat) (hk : 10 ≤ k) (a : List Sp) (hl : a.length ≤ 1000) : f_u89 k [a, []] = some a := by
  obtain ⟨k, rfl⟩ : ∃ m, k = m + 10 := ⟨k - 10, by omega⟩
  have hg : f_u90 (k + 10) (a.length : Int) = some [] := by
    unfold f_u90; rw [if_pos ⟨by omega, by omega⟩]
  have hv : v_u90 (k + 10) (a.length : Int) = [] := by unfold v_u90; rw [hg]; rfl
  have L2 : (([a, []] : List (List Sp)).length : Int) = 2 := rfl
  unfold f_u89
  rw [L2]
  rw [f_u89_3, L2, decide_eq_true (by omega), cond_true, if_pos (show (0 : Int) ≤ 0 ∧ (0 : Int) < 2 from ⟨by omega, by omega⟩)]
  show (bif decide (IntKind.i64.wrap (0 + (a.length : Int)) < 0) then none else f_u89_3 (k + 10) (k + 9) [a, []] (IntKind.i64.wrap (0 + (a.length : Int))) [a, []] 2 (IntKind.i64.wrap (0 + 1))) = _
  rw [wrap_id (i := 0 + (a.length : Int)) (by omega) (by omega), Int.zero_add, decide_eq_false (by omega), cond_false, show IntKind.i64.wrap (0 + 1) = 1 from wrapS 0 (by omega)]
  rw [f_u89_3, L2, decide_eq_true (by omega), cond_true, if_pos (show (0 : Int) ≤ 1 ∧ (1 : Int) < 2 from ⟨by omega, by omega⟩)]
  show (bif decide (IntKind.i64.wrap ((a.length : Int) + (0 : Int)) < 0) then none else f_u89_3 (k + 10) (k + 8) [a, []] (IntKind.i64.wrap ((a.length : Int) + (0 : Int))) [a, []] 2 (IntKind.i64.wrap (1 + 1))) = _
  rw [wrap_id (i := (a.length : Int) + (0 : Int)) (by omega) (by omega), Int.add_zero, decide_eq_false (by omega), cond_false, show IntKind.i64.wrap (1 + 1) = 2 from wrapS 1 (by omega)]
  rw [f_u89_3, decide_eq_false (by omega), cond_false, hg, hv, Option.isSome_some, if_pos rfl]
  rw [L2, f_u89_11, L2, decide_eq_true (by omega), cond_true, if_pos (show (0 : Int) ≤ 0 ∧ (0 : Int) < 2 from ⟨by omega, by omega⟩)]
  show (if (([] : List Sp).length + a.length) * 16 ≤ 140737488355328 then f_u89_11 (k + 10) (k + 6) [a, []] 2 (IntKind.i64.wrap (0 + 1)) ([] ++ a) else none) = _
  rw [if_pos (show (([] : List Sp).length + a.length) * 16 ≤ 140737488355328 by rw [List.length_nil]; omega), show IntKind.i64.wrap (0 + 1) = 1 from wrapS 0 (by omega)]
  rw [f_u89_11, L2, decide_eq_true (by omega), cond_true, if_pos (show (0 : Int) ≤ 1 ∧ (1 : Int) < 2 from ⟨by omega, by omega⟩)]
  show (if (([] ++ a : List Sp).length + ([] : List Sp).length) * 16 ≤ 140737488355328 then f_u89_11 (k + 10) (k + 5) [a, []] 2 (IntKind.i64.wrap (1 + 1)) ([] ++ a ++ []) else none) = _
  rw [if_pos (show (([] ++ a : List Sp).length + ([] : List Sp).length) * 16 ≤ 140737488355328 by rw [List.length_nil, List.nil_append]; omega), show IntKind.i64.wrap (1 + 1) = 2 from wrapS 1 (by omega)]
  rw [f_u89_11, decide_eq_false (by omega), cond_false]
  show some ([] ++ a ++ []) = some a
  simp

theorem span_sets10_l (k : Nat) (hk : 300 ≤ k) (a : List Sp) (h : In 0 17179869184 a) (hn : Nr (-1) a) (hl : a.length ≤ 256) : ∀ (j i : Nat), i ≤ a.length → (a.length - i) + (7 * a.length + 3) ≤ j →
    f_u99_10 k j a [] (a.length : Int) (i : Int) (ends2 (a.take i)) a = some (a, 0) := by
  intro j
  induction j with
  | zero => intros; omega
  | succ j ih =>
    intro i hi hj
    rw [f_u99_10]
    by_cases h' : i < a.length
    · rw [decide_eq_true (by omega : (i : Int) < (a.length : Int)), cond_true, if_pos ⟨by omega, by omega⟩, Int.toNat_natCast, if_pos (by rw [ends2_len, List.length_take]; show (2 * min i a.length + 2) * 8 ≤ _; omega), wrapS i (by omega)]
      have := ih (i + 1) (by omega) (by omega)
      rw [take_snoc a i (0, 0) h', ends2_append] at this
      exact this
    · have hs : f_u92 k (ends2 a) = some (ends2 a) := by
        unfold f_u92
        rw [if_pos (by rw [ends2_len]; omega), srtI_eq, List.mergeSort_of_pairwise]
        exact (ends2_sorted hn).1.imp fun h => decide_eq_true h
      have hv : v_u92 k (ends2 a) = ends2 a := by unfold v_u92; rw [hs]; rfl
      rw [decide_eq_false (by omega : ¬ (i : Int) < (a.length : Int)), cond_false, List.take_of_length_le (by omega), hs, hv, Option.isSome_some, if_pos rfl]
      exact span_sets18_l k hk a h hn hl a.length 0 j (by omega) (by omega) (by omega)

theorem span_Norm_s (k : Nat) (hk : 2100 ≤ k) (l : List Sp) : f_u94 k l = some (normS l) := by
  have e : f_u99 k l [] = some (normS l) := by
    unfold f_u99 normS
    rw [span_Check_s k (by omega), span_Check_v k (by omega), span_Check_s k (by omega), span_Check_v k (by omega), Option.isSome_some, if_pos rfl]
    by_cases h1 : chkS l = 0
    · obtain ⟨l1, l2⟩ := chkS_zero.1 h1
      have hnl := nf_len l2
      have h0 : In 0 17179869184 ([] : List Sp) := trivial
      rw [show (chkS l != 0) = false by simp [h1], cond_false, if_neg (fun h : chkS l ≠ 0 => h h1), Option.isSome_some, if_pos rfl, show (chkS [] != 0) = false from rfl, cond_false]
      rw [span_joined_s k l l2 (by omega) (by omega), span_joined_v k l l2 (by omega) (by omega), span_joined_s k [] h0 (by simp) (by simp; omega), span_joined_v k [] h0 (by simp) (by simp; omega), nf_self h0 trivial, if_pos ⟨rfl, rfl⟩]
      have hc := span_concat_s k (by omega) (nf l) (by omega)
      have hv : v_u89 k [nf l, []] = nf l := by unfold v_u89; rw [hc]; rfl
      rw [hc, hv, Option.isSome_some, if_pos rfl]
      exact span_sets10_l k (by omega) (nf l) (nf_in l2) (nf_nr l2) (by omega) k 0 (by omega) (by omega)
    · rw [show (chkS l != 0) = true by simp [h1], cond_true, if_pos h1]
  have ev : v_u99 k l [] = normS l := by unfold v_u99; rw [e]; rfl
  unfold f_u94
  rw [e, ev]; rfl
theorem span_Norm_v (k : Nat) (hk : 2100 ≤ k) (l : List Sp) : v_u94 k l = normS l := by
  unfold v_u94; rw [span_Norm_s k hk]; rfl

theorem span_Total_l (k : Nat) (a : List Sp) (h : In 0 17179869184 a) (hl : a.length ≤ 256) : ∀ (j i : Nat) (n : Int), i ≤ a.length → a.length - i < j → 0 ≤ n → n ≤ (i : Int) * 17179869184 →
    f_u96_6 k j n a (a.length : Int) (i : Int) = some (n + tot (a.drop i), 0) := by
  intro j
  induction j with
  | zero => intros; omega
  | succ j ih =>
    intro i n hi hj h0 h1
    rw [f_u96_6]
    by_cases h' : i < a.length
    · have hm := h.mem (a.getD i T21.dflt) (by simp [h'])
      rw [decide_eq_true (by omega : (i : Int) < (a.length : Int)), cond_true, if_pos ⟨by omega, by omega⟩, drop_cons' a i T21.dflt h', Int.toNat_natCast]
      generalize a.getD i T21.dflt = s at hm
      rw [wrap_id (i := s.snd - s.fst) (by omega) (by omega), wrap_id (i := n + (s.snd - s.fst)) (by omega) (by omega), wrapS i (by omega), ih (i + 1) _ (by omega) (by omega) (by omega) (by omega), tot, Int.add_assoc]
    · rw [decide_eq_false (by omega : ¬ (i : Int) < (a.length : Int)), cond_false, drop_all a i (by omega)]
      simp [tot]
theorem span_Total_s (k : Nat) (hk : 300 ≤ k) (l : List Sp) : f_u96 k l = some (totalS l) := by
  unfold f_u96 totalS
  rw [span_Check_s k (by omega), span_Check_v k (by omega), Option.isSome_some, if_pos rfl]
  by_cases h1 : chkS l = 0
  · obtain ⟨l1, l2⟩ := chkS_zero.1 h1
    have hnl := nf_len l2
    rw [show (chkS l != 0) = false by simp [h1], cond_false, if_neg (fun h : chkS l ≠ 0 => h h1), span_joined_s k l l2 (by omega) (by omega), span_joined_v k l l2 (by omega) (by omega), Option.isSome_some, if_pos rfl]
    have := span_Total_l k (nf l) (nf_in l2) (by omega) k 0 0 (by omega) (by omega) (by omega) (by omega)
    rw [Int.zero_add] at this
    exact this
  · rw [show (chkS l != 0) = true by simp [h1], cond_true, if_pos h1]
theorem span_Total_v (k : Nat) (hk : 300 ≤ k) (l : List Sp) : v_u96 k l = totalS l := by
  unfold v_u96; rw [span_Total_s k hk]; rfl
theorem ref04_Check_l (k : Nat) (l : List Sp) (hl : l.length ≤ 256) : ∀ (j i : Nat), i ≤ l.length → l.length - i < j →
    f_u47_4 k j l (i : Int) = some (if (l.drop i).all (fun s => decide (0 ≤ s.1 ∧ s.1 ≤ s.2 ∧ s.2 ≤ 17179869184)) = true then 0 else 1) := by
  intro j
  induction j with
  | zero => intros; omega
  | succ j ih =>
    intro i hi hj
    rw [f_u47_4]
    by_cases h : i < l.length
    · rw [decide_eq_true (by omega : (i : Int) < (l.length : Int)), cond_true, if_pos (by (repeat' apply And.intro) <;> (intros; omega)), drop_cons' l i T21.dflt h, Int.toNat_natCast, List.all_cons]
      generalize l.getD i T21.dflt = s
      by_cases hs : 0 ≤ s.1 ∧ s.1 ≤ s.2 ∧ s.2 ≤ 17179869184
      · rw [decide_eq_false (by omega : ¬ s.fst < 0), decide_eq_false (by omega : ¬ s.fst > s.snd), decide_eq_false (by omega : ¬ s.snd > 17179869184), Bool.or_self, Bool.or_self, cond_false, wrapS i (by omega), ih (i + 1) (by omega) (by omega), decide_eq_true hs, Bool.true_and]
      · have : (decide (s.fst < 0) || decide (s.fst > s.snd) || decide (s.snd > 17179869184)) = true := by
          by_cases a : s.fst < 0
          · rw [decide_eq_true a]; rfl
          · by_cases b : s.fst > s.snd
            · rw [decide_eq_true b, Bool.or_true]; rfl
            · rw [decide_eq_true (by omega : s.snd > 17179869184), Bool.or_true]
        rw [this, cond_true, decide_eq_false hs, Bool.false_and, if_neg (by decide)]
    · rw [decide_eq_false (by omega : ¬ (i : Int) < (l.length : Int)), cond_false, drop_all l i (by omega)]
      rfl
theorem ref04_Check_s (k : Nat) (hk : 300 ≤ k) (l : List Sp) : f_u47 k l = some (chkS l) := by
  unfold f_u47 chkS
  by_cases h : l.length > 256
  · rw [decide_eq_true (by omega : (l.length : Int) > 256), cond_true, if_pos h]
  · rw [decide_eq_false (by omega : ¬ (l.length : Int) > 256), cond_false, if_neg h]
    exact ref04_Check_l k l (by omega) k 0 (by omega) (by omega)
theorem ref04_Check_v (k : Nat) (hk : 300 ≤ k) (l : List Sp) : v_u47 k l = chkS l := by
  unfold v_u47; rw [ref04_Check_s k hk]; rfl

theorem ref04_with_l (k : Nat) (l : List Int) (hl : l.length ≤ 10000) (n : Int) : ∀ (j i : Nat), i ≤ l.length → l.length - i < j →
    f_u54_2 k j l n (i : Int) = some (l.take i ++ ins (l.drop i) n) := by
  intro j
  induction j with
  | zero => intros; omega
  | succ j ih =>
    intro i hi hj
    have hz : I.dflt = (0 : Int) := rfl
    have tk : ([] ++ List.take ((i : Int).toNat - Int.toNat 0) (List.drop (Int.toNat 0) l) : List Int) = l.take i := by
      rw [Int.toNat_natCast, show Int.toNat 0 = 0 from rfl]; simp
    have dk : List.take ((l.length : Int).toNat - (i : Int).toNat) (List.drop (i : Int).toNat l) = l.drop i := by
      rw [Int.toNat_natCast, Int.toNat_natCast]; exact List.take_of_length_le (by rw [List.length_drop]; omega)
    rw [f_u54_2]
    rw [if_pos (show (decide ((i : Int) < (l.length : Int)) = true → (0 : Int) ≤ (i : Int)) ∧ (decide ((i : Int) < (l.length : Int)) = true → (i : Int) < (l.length : Int)) from ⟨fun _ => by omega, fun e => of_decide_eq_true e⟩)]
    have fin : (if ((0 : Int) ≤ (0 : Int)) ∧ ((0 : Int) ≤ (i : Int)) ∧ ((i : Int) ≤ (l.length : Int)) ∧ (((0 : Nat) + (List.take ((i : Int).toNat - Int.toNat (0 : Int)) (List.drop (Int.toNat (0 : Int)) l)).length) * (8 : Nat) ≤ (140737488355328 : Nat)) then
              if ((([] ++ List.take ((i : Int).toNat - Int.toNat (0 : Int)) (List.drop (Int.toNat (0 : Int)) l)).length + [n].length) * (8 : Nat) ≤ (140737488355328 : Nat)) then
                if ((0 : Int) ≤ (i : Int)) ∧ ((i : Int) ≤ (l.length : Int)) ∧ ((l.length : Int) ≤ (l.length : Int)) ∧ ((([] ++ List.take ((i : Int).toNat - Int.toNat (0 : Int)) (List.drop (Int.toNat (0 : Int)) l) ++ [n]).length + (List.take ((l.length : Int).toNat - (i : Int).toNat) (List.drop (i : Int).toNat l)).length) * (8 : Nat) ≤ (140737488355328 : Nat)) then
                  some ([] ++ List.take ((i : Int).toNat - Int.toNat 0) (List.drop (Int.toNat 0) l) ++ [n] ++ List.take ((l.length : Int).toNat - (i : Int).toNat) (List.drop (i : Int).toNat l))
                else none
              else none
            else none) = some (l.take i ++ [n] ++ l.drop i) := by
      have e0 : List.take ((i : Int).toNat - Int.toNat 0) (List.drop (Int.toNat 0) l) = l.take i := by rw [← tk]; rfl
      rw [dk, e0, List.nil_append]
      rw [if_pos ⟨by omega, by omega, by omega, by rw [List.length_take]; omega⟩, if_pos (by rw [List.length_take, List.length_singleton]; omega), if_pos ⟨by omega, by omega, by omega, by rw [List.length_append, List.length_take, List.length_singleton, List.length_drop]; omega⟩]
    rw [fin]
    by_cases h : i < l.length
    · rw [decide_eq_true (by omega : (i : Int) < (l.length : Int)), Bool.true_and, Bool.true_and, if_pos ⟨fun _ => by omega, fun _ => by omega⟩, Int.toNat_natCast, hz, drop_cons' l i 0 h, ins]
      by_cases h1 : l.getD i 0 < n
      · rw [decide_eq_true h1, cond_true, if_pos h1, wrapS i (by omega), ih (i + 1) (by omega) (by omega), take_snoc l i 0 h]
        simp
      · rw [decide_eq_false h1, cond_false, if_neg h1]
        by_cases h2 : l.getD i 0 = n
        · rw [show (l.getD i 0 == n) = true from beq_iff_eq.2 h2, cond_true, if_pos h2, ← drop_cons' l i 0 h, List.take_append_drop]
        · rw [show (l.getD i 0 == n) = false from beqf h2, cond_false, if_neg h2]
          simp
    · rw [decide_eq_false (by omega : ¬ (i : Int) < (l.length : Int)), Bool.false_and, Bool.false_and, cond_false, if_pos ⟨fun e => (by cases e), fun e => (by cases e)⟩, cond_false, drop_all l i (by omega)]
      simp [ins]
theorem ref04_with_s (k : Nat) (l : List Int) (hl : l.length ≤ 10000) (hk : l.length < k) (n : Int) : f_u54 k l n = some (ins l n) := ref04_with_l k l hl n k 0 (by omega) (by omega)
theorem ref04_with_v (k : Nat) (l : List Int) (hl : l.length ≤ 10000) (hk : l.length < k) (n : Int) : v_u54 k l n = ins l n := by
  unfold v_u54; rw [ref04_with_s k l hl hk]; rfl

theorem ref04_ends_l (k : Nat) (hk : 2000 ≤ k) (a : List Sp) (hl : a.length ≤ 256) : ∀ (j i : Nat) (acc : List Int), i ≤ a.length → a.length - i + 1 < j → acc.length ≤ 2 * i →
    f_u53_3 k j a [] acc (i : Int) = some (cutsF acc (a.drop i)) := by
  intro j
  induction j with
  | zero => intros; omega
  | succ j ih =>
    intro i acc hi hj ha
    rw [f_u53_3]
    by_cases h : i < a.length
    · rw [decide_eq_true (by omega : (i : Int) < (a.length : Int)), cond_true, drop_cons' a i T21.dflt h, Int.toNat_natCast, cutsF]
      generalize a.getD i T21.dflt = s
      have h1 := ins_len acc s.1
      have h2 := ins_len (ins acc s.1) s.2
      rw [ref04_with_s k acc (by omega) (by omega), ref04_with_v k acc (by omega) (by omega), ref04_with_s k (ins acc s.fst) (by omega) (by omega), ref04_with_v k (ins acc s.fst) (by omega) (by omega), if_pos ⟨by omega, by omega, rfl, by omega, by omega, rfl⟩, wrapS i (by omega)]
      exact ih (i + 1) _ (by omega) (by omega) (by omega)
    · obtain ⟨j, rfl⟩ : ∃ m, j = m + 1 := ⟨j - 1, by omega⟩
      rw [decide_eq_false (by omega : ¬ (i : Int) < (a.length : Int)), cond_false, drop_all a i (by omega), f_u53_7]
      rfl
theorem ref04_ends_s (k : Nat) (hk : 2000 ≤ k) (a : List Sp) (hl : a.length ≤ 256) : f_u53 k a [] = some (cutsF [] a) := ref04_ends_l k hk a hl k 0 [] (by omega) (by omega) (by simp)
theorem ref04_ends_v (k : Nat) (hk : 2000 ≤ k) (a : List Sp) (hl : a.length ≤ 256) : v_u53 k a [] = cutsF [] a := by
  unfold v_u53; rw [ref04_ends_s k hk a hl]; rfl

theorem ref04_Has_l (k : Nat) (a : List Sp) (hl : a.length ≤ 10000) (x : Int) : ∀ (j i : Nat), i ≤ a.length → a.length - i < j →
    f_u48_2 k j a x (i : Int) = some (hasB (a.drop i) x) := by
  intro j
  induction j with
  | zero => intros; omega
  | succ j ih =>
    intro i hi hj
    rw [f_u48_2]
    by_cases h : i < a.length
    · rw [decide_eq_true (by omega : (i : Int) < (a.length : Int)), cond_true, if_pos ⟨by omega, by omega, fun _ => by omega, fun _ => by omega⟩, drop_cons' a i T21.dflt h, Int.toNat_natCast]
      generalize a.getD i T21.dflt = s
      show _ = some ((decide (s.1 ≤ x) && decide (x < s.2)) || hasB (a.drop (i + 1)) x)
      cases hc : (decide (s.fst ≤ x) && decide (x < s.snd))
      · rw [cond_false, Bool.false_or, wrapS i (by omega)]
        exact ih (i + 1) (by omega) (by omega)
      · rw [cond_true, Bool.true_or]
    · rw [decide_eq_false (by omega : ¬ (i : Int) < (a.length : Int)), cond_false, drop_all a i (by omega)]
      rfl
theorem ref04_Has_s (k : Nat) (a : List Sp) (hl : a.length ≤ 10000) (hk : a.length < k) (x : Int) : f_u48 k a x = some (hasB a x) := ref04_Has_l k a hl x k 0 (by omega) (by omega)
theorem ref04_Has_v (k : Nat) (a : List Sp) (hl : a.length ≤ 10000) (hk : a.length < k) (x : Int) : v_u48 k a x = hasB a x := by
  unfold v_u48; rw [ref04_Has_s k a hl hk]; rfl

theorem ref04_combine_l (k : Nat) (hk : 300 ≤ k) (a : List Sp) (hl : a.length ≤ 256) (c : List Int) (hc : c.length ≤ 10000) : ∀ (j i : Nat), i ≤ c.length → c.length - i < j →
    f_u52_4 k j a [] 0 c (i : Int) [] = some (cmb0 a (c.drop i)) ∧
    ∀ (pre : List Sp) (l : Sp), pre.length ≤ i → f_u52_4 k j a [] 0 c (i : Int) (pre ++ [l]) = some (pre ++ cmb1 a l (c.drop i)) := by
  intro j
  induction j with
  | zero => intros; omega
  | succ j ih =>
    intro i hi hj
    have hz : I.dflt = (0 : Int) := rfl
    by_cases h : i + 1 < c.length
    · obtain ⟨ih1, ih2⟩ := ih (i + 1) (by omega) (by omega)
      have hd1 := drop_cons' c i 0 (by omega)
      have hd2 := drop_cons' c (i + 1) 0 h
      rw [hd2] at hd1 ih1 ih2
      generalize hx : c.getD i 0 = x at *
      generalize hy : c.getD (i + 1) 0 = y at *
      have hskip : ∀ b : Bool, ((0 : Int) == 0 && !b && !false || (0 : Int) == 1 && !(b && false) || (0 : Int) == 2 && (!b || false)) = !b := fun b => by cases b <;> rfl
      have hno : hasB ([] : List Sp) x = false := rfl
      refine ⟨?_, fun pre l hp => ?_⟩
      · rw [f_u52_4, wrapS i (by omega), decide_eq_true (by omega), cond_true, Int.toNat_natCast, Int.toNat_natCast, hz, hx, hy, ref04_Has_s k a (by omega) (by omega), ref04_Has_v k a (by omega) (by omega), ref04_Has_s k [] (by simp) (by simp; omega), ref04_Has_v k [] (by simp) (by simp; omega), hno, if_pos ⟨by omega, by omega, rfl, by omega, by omega, rfl⟩, hskip, hd1, cmb0]
        cases hb : hasB a x
        · rw [Bool.not_false, cond_true, if_neg (by decide)]; exact ih1
        · rw [Bool.not_true, cond_false, if_pos rfl]
          have hm : IntKind.i64.wrap ((([] : List Sp).length : Int) - 1) = -1 := by rw [List.length_nil, wrap_id (by omega) (by omega)]; rfl
          rw [hm, if_pos (show (decide ((-1 : Int) ≥ 0) = true → (0 : Int) ≤ -1) ∧ (decide ((-1 : Int) ≥ 0) = true → (-1 : Int) < (([] : List Sp).length : Int)) ∧ (decide ((-1 : Int) ≥ 0) = true → (0 : Int) ≤ (i : Int)) ∧ (decide ((-1 : Int) ≥ 0) = true → (i : Int) < (c.length : Int)) from ⟨fun e => (by cases e), fun e => (by cases e), fun e => (by cases e), fun e => (by cases e)⟩), show decide ((-1 : Int) ≥ 0) = false from rfl, Bool.false_and, cond_false]
          rw [if_pos ⟨by omega, by omega, by omega, by omega, by simp⟩, List.nil_append]
          have := ih2 [] (x, y) (by simp)
          simpa using this
      · have hlen : (pre ++ [l]).length = pre.length + 1 := by simp
        have hidx : (0 : Int) ≤ IntKind.i64.wrap (((pre ++ [l]).length : Int) - 1) ∧ IntKind.i64.wrap (((pre ++ [l]).length : Int) - 1) < ((pre ++ [l]).length : Int) := by
          rw [hlen, wrap_id (by omega) (by omega)]; exact ⟨by omega, by omega⟩
        rw [f_u52_4, wrapS i (by omega), decide_eq_true (by omega), cond_true, Int.toNat_natCast, Int.toNat_natCast, hz, hx, hy, ref04_Has_s k a (by omega) (by omega), ref04_Has_v k a (by omega) (by omega), ref04_Has_s k [] (by simp) (by simp; omega), ref04_Has_v k [] (by simp) (by simp; omega), hno, if_pos ⟨by omega, by omega, rfl, by omega, by omega, rfl⟩, hskip, hd1, cmb1]
        cases hb : hasB a x
        · rw [Bool.not_false, cond_true, if_neg (by decide)]; exact ih2 pre l (by omega)
        · rw [Bool.not_true, cond_false, if_pos rfl, decide_eq_true hidx.1, Bool.true_and, last_idxS pre l (by omega), last_getS, last_setS]
          rw [if_pos ⟨fun _ => hidx.1, fun _ => hidx.2, fun _ => by omega, fun _ => by omega⟩]
          by_cases hq : l.2 = x
          · rw [show (l.snd == x) = true by simp [hq], cond_true, if_pos ⟨by omega, by omega, hidx.1, hidx.2⟩, if_pos hq]
            exact ih2 pre (l.1, y) (by omega)
          · rw [show (l.snd == x) = false from beqf hq, cond_false, if_pos ⟨by omega, by omega, by omega, by omega, by rw [hlen, List.length_singleton]; omega⟩, if_neg hq]
            rw [ih2 (pre ++ [l]) (x, y) (by simp; omega)]
            simp
    · have hstop : decide (IntKind.i64.wrap ((i : Int) + 1) < (c.length : Int)) = false := by rw [wrapS i (by omega)]; exact decide_eq_false (by omega)
      have hd : c.drop i = [] ∨ ∃ x, c.drop i = [x] := by
        by_cases h2 : i < c.length
        · right
          rw [drop_cons' c i 0 h2, drop_all c (i + 1) (by omega)]
          exact ⟨_, rfl⟩
        · left; exact drop_all c i (by omega)
      refine ⟨?_, fun pre l hp => ?_⟩
      · rw [f_u52_4, hstop, cond_false]
        rcases hd with e | ⟨x, e⟩ <;> rw [e] <;> rfl
      · rw [f_u52_4, hstop, cond_false]
        rcases hd with e | ⟨x, e⟩ <;> rw [e] <;> rfl

theorem ref04_Norm_s (k : Nat) (hk : 2000 ≤ k) (l : List Sp) : f_u49 k l = some (normS l) := by
  have e : f_u51 k l [] 0 = some (normS l) := by
    unfold f_u51 normS
    rw [ref04_Check_s k (by omega), ref04_Check_v k (by omega), ref04_Check_s k (by omega), ref04_Check_v k (by omega), Option.isSome_some, if_pos rfl]
    by_cases h1 : chkS l = 0
    · obtain ⟨l1, l2⟩ := chkS_zero.1 h1
      have hnl := nf_len l2
      have hcl := cutsF_len l []
      rw [show (chkS l != 0) = false by simp [h1], cond_false, if_neg (fun h : chkS l ≠ 0 => h h1), Option.isSome_some, if_pos rfl, show (chkS [] != 0) = false from rfl, cond_false]
      have ec : f_u52 k l [] 0 = some (nf l) := by
        unfold f_u52
        rw [ref04_ends_s k hk l l1, ref04_ends_v k hk l l1, Option.isSome_some, if_pos rfl]
        have := (ref04_combine_l k (by omega) l l1 (cutsF [] l) (by simp at hcl; omega) k 0 (by omega) (by simp at hcl; omega)).1
        rw [List.drop_zero, cmb_nf l2] at this
        exact this
      have ev : v_u52 k l [] 0 = nf l := by unfold v_u52; rw [ec]; rfl
      rw [ec, ev, Option.isSome_some, if_pos rfl, decide_eq_false (by omega), cond_false]
    · rw [show (chkS l != 0) = true by simp [h1], cond_true, if_pos h1]
  have ev : v_u51 k l [] 0 = normS l := by unfold v_u51; rw [e]; rfl
  unfold f_u49
  rw [e, ev]; rfl
theorem ref04_Norm_v (k : Nat) (hk : 2000 ≤ k) (l : List Sp) : v_u49 k l = normS l := by
  unfold v_u49; rw [ref04_Norm_s k hk]; rfl

theorem ref04_Total_l (k : Nat) (a : List Sp) (e : Int) (h : In 0 17179869184 a) (hl : a.length ≤ 256) : ∀ (j i : Nat) (n : Int), i ≤ a.length → a.length - i < j → 0 ≤ n → n ≤ (i : Int) * 17179869184 →
    f_u50_4 k j a e n (i : Int) = some (n + tot (a.drop i), e) := by
  intro j
  induction j with
  | zero => intros; omega
  | succ j ih =>
    intro i n hi hj h0 h1
    rw [f_u50_4]
    by_cases h' : i < a.length
    · have hm := h.mem (a.getD i T21.dflt) (by simp [h'])
      rw [decide_eq_true (by omega : (i : Int) < (a.length : Int)), cond_true, if_pos ⟨by omega, by omega, by omega, by omega⟩, drop_cons' a i T21.dflt h', Int.toNat_natCast]
      generalize a.getD i T21.dflt = s at hm
      rw [wrap_id (i := n + s.snd) (by omega) (by omega), wrap_id (i := n + s.snd - s.fst) (by omega) (by omega), wrapS i (by omega), ih (i + 1) _ (by omega) (by omega) (by omega) (by omega), tot]
      congr 2; omega
    · rw [decide_eq_false (by omega : ¬ (i : Int) < (a.length : Int)), cond_false, drop_all a i (by omega)]
      simp [tot]
theorem ref04_Total_s (k : Nat) (hk : 2000 ≤ k) (l : List Sp) : f_u50 k l = some (totalS l) := by
  unfold f_u50 totalS
  rw [ref04_Norm_s k hk, ref04_Norm_v k hk, Option.isSome_some, if_pos rfl]
  unfold normS
  by_cases h1 : chkS l = 0
  · obtain ⟨l1, l2⟩ := chkS_zero.1 h1
    have hnl := nf_len l2
    rw [if_neg (fun h : chkS l ≠ 0 => h h1), if_neg (fun h : chkS l ≠ 0 => h h1)]
    have := ref04_Total_l k (nf l) 0 (nf_in l2) (by omega) k 0 0 (by omega) (by omega) (by omega) (by omega)
    rw [Int.zero_add] at this
    exact this
  · rw [if_pos h1, if_pos h1]
    have := ref04_Total_l k [] (chkS l) trivial (by simp) k 0 0 (by simp) (by simp; omega) (by omega) (by omega)
    exact this
theorem ref04_Total_v (k : Nat) (hk : 2000 ≤ k) (l : List Sp) : v_u50 k l = totalS l := by
  unfold v_u50; rw [ref04_Total_s k hk]; rfl
end Go.AM
namespace Go.AM
open Go

/-! ### registers of rolls -/
abbrev Ch := Int × Int × Bool × List Rn   -- Left, Width, Turn, Runs
abbrev Ro := Int × Int × Ch               -- ID, Parent, Cut
abbrev Pt := Int × Int × Int              -- Roll, Across, Along

def look (l : List Ro) (id : Int) : Option Ro := l.find? fun r => r.1 == id

def imageS (m : List Rn) : List Sp × Int := if chk m ≠ 0 then ([], chk m) else (nf (m.map spn), 0)
def singleS (m : List Rn) : Bool := decide (chk m = 0) && (tot (nf (m.map spn)) == lenS m)

/-- the size of a roll, or of the web -/
def sizeS (l : List Ro) (W L id : Int) : Int × Int := if id = 0 then (W, L) else match look l id with
  | some r => (r.2.2.2.1, lenS r.2.2.2.2.2)
  | none => (0, 0)

/-- the error of a cut of a roll of a size -/
def cutE (c : Ch) (w n : Int) : Int :=
  if c.1 < 0 ∨ c.2.1 < 1 ∨ c.1 > w ∨ c.2.1 > w - c.1 then 20 else if chk c.2.2.2 ≠ 0 then chk c.2.2.2 else if c.2.2.2 = [] then 10
  else if singleS c.2.2.2 = false then 12 else if fitsIn n c.2.2.2 then 0 else 21
/-- the error of a roll behind others -/
def fitsS (p : List Ro) (W L : Int) (r : Ro) : Int :=
  if r.1 < 1 ∨ r.1 > 1000000 then 1 else if r.2.1 ≠ 0 ∧ look p r.2.1 = none then 7 else cutE r.2.2 (sizeS p W L r.2.1).1 (sizeS p W L r.2.1).2

def meetS (a b : List Rn) : Bool := a.any fun x => b.any fun y => decide (lo x ≤ hi y) && decide (lo y ≤ hi x)
def ovlS (a b : Ch) : Bool := (decide (a.1 < b.1 + b.2.1) && decide (b.1 < a.1 + a.2.1)) && meetS a.2.2.2 b.2.2.2
def clash (p : List Ro) (r : Ro) : Bool := p.any fun b => (r.2.1 == b.2.1) && ovlS r.2.2 b.2.2

def errsGo (W L : Int) : List Ro → List Ro → Int
  | _, [] => 0
  | p, r :: t => if fitsS p W L r ≠ 0 then fitsS p W L r else errsGo W L (p ++ [r]) t
def dupGo : List Ro → List Ro → Bool
  | _, [] => false
  | p, r :: t => (look p r.1).isSome || dupGo (p ++ [r]) t
def clashGo : List Ro → List Ro → Bool
  | _, [] => false
  | p, r :: t => clash p r || clashGo (p ++ [r]) t

/-- the error of a register -/
def checkS (l : List Ro) (W L : Int) : Int :=
  if W < 1 ∨ W > 12000 ∨ L < 0 ∨ L > 17179869184 then 1 else if l.length > 512 then 8 else if errsGo W L [] l ≠ 0 then errsGo W L [] l
  else if dupGo [] l = true then 6 else if clashGo [] l = true then 12 else 0

theorem look_append (a b : List Ro) (id : Int) : look (a ++ b) id = (look a id).or (look b id) := by
  unfold look; exact List.find?_append
theorem look_some {l : List Ro} {id : Int} {r : Ro} (h : look l id = some r) : r ∈ l ∧ r.1 = id := by
  unfold look at h
  exact ⟨List.mem_of_find?_eq_some h, by have := List.find?_some h; simpa using this⟩
structure CutOk (c : Ch) (w n : Int) : Prop where
  left : 0 ≤ c.1
  width : 1 ≤ c.2.1
  right : c.1 + c.2.1 ≤ w
  chk : Chk c.2.2.2
  ne : c.2.2.2 ≠ []
  single : singleS c.2.2.2 = true
  fits : fitsIn n c.2.2.2
theorem cutE_zero {c : Ch} {w n : Int} : cutE c w n = 0 ↔ CutOk c w n := by
  unfold cutE
  constructor
  · intro h
    by_cases h1 : c.1 < 0 ∨ c.2.1 < 1 ∨ c.1 > w ∨ c.2.1 > w - c.1
    · rw [if_pos h1] at h; omega
    · rw [if_neg h1] at h
      by_cases h2 : chk c.2.2.2 ≠ 0
      · rw [if_pos h2] at h; exact absurd h h2
      · rw [if_neg h2] at h
        by_cases h3 : c.2.2.2 = []
        · rw [if_pos h3] at h; omega
        · rw [if_neg h3] at h
          by_cases h4 : singleS c.2.2.2 = false
          · rw [if_pos h4] at h; omega
          · rw [if_neg h4] at h
            by_cases h5 : fitsIn n c.2.2.2
            · exact ⟨by omega, by omega, by omega, chk_zero.1 (Classical.not_not.1 h2), h3, by simpa using h4, h5⟩
            · rw [if_neg h5] at h; omega
  · rintro ⟨h1, h2, h3, h4, h5, h6, h7⟩
    rw [if_neg (by omega), if_neg (fun h => h (chk_zero.2 h4)), if_neg h5, if_neg (by simp [h6]), if_pos h7]
structure FitOk (p : List Ro) (W L : Int) (r : Ro) : Prop where
  id0 : 1 ≤ r.1
  id1 : r.1 ≤ 1000000
  parent : r.2.1 = 0 ∨ ∃ q, look p r.2.1 = some q
  cut : CutOk r.2.2 (sizeS p W L r.2.1).1 (sizeS p W L r.2.1).2
theorem fitsS_zero {p : List Ro} {W L : Int} {r : Ro} : fitsS p W L r = 0 ↔ FitOk p W L r := by
  unfold fitsS
  constructor
  · intro h
    by_cases h1 : r.1 < 1 ∨ r.1 > 1000000
    · rw [if_pos h1] at h; omega
    · rw [if_neg h1] at h
      by_cases h2 : r.2.1 ≠ 0 ∧ look p r.2.1 = none
      · rw [if_pos h2] at h; omega
      · rw [if_neg h2] at h
        refine ⟨by omega, by omega, ?_, cutE_zero.1 h⟩
        by_cases h3 : r.2.1 = 0
        · exact .inl h3
        · right
          cases h4 : look p r.2.1 with
          | none => exact absurd ⟨h3, h4⟩ h2
          | some q => exact ⟨q, rfl⟩
  · rintro ⟨h1, h2, h3, h4⟩
    rw [if_neg (by omega), if_neg (fun h => by
      rcases h3 with h3 | ⟨q, h3⟩
      · exact h.1 h3
      · rw [h3] at h; cases h.2), cutE_zero.2 h4]

/-- a valid register: each roll fits behind those before it, is of a new number, and clashes with none -/
inductive Okp (W L : Int) : List Ro → Prop
  | nil : Okp W L []
  | snoc (p : List Ro) (r : Ro) (h : Okp W L p) (f : FitOk p W L r) (n : look p r.1 = none) (c : clash p r = false) : Okp W L (p ++ [r])
structure Reg (l : List Ro) (W L : Int) : Prop where
  w : 1 ≤ W ∧ W ≤ 12000
  len : 0 ≤ L ∧ L ≤ 17179869184
  num : l.length ≤ 512
  ok : Okp W L l
theorem okp_go {W L : Int} : ∀ (t p : List Ro), Okp W L p → errsGo W L p t = 0 → dupGo p t = false → clashGo p t = false → Okp W L (p ++ t)
  | [], p, h, _, _, _ => by simpa using h
  | r :: t, p, h, he, hd, hc => by
    rw [errsGo] at he
    rw [dupGo, Bool.or_eq_false_iff] at hd
    rw [clashGo, Bool.or_eq_false_iff] at hc
    have hf : fitsS p W L r = 0 := by
      by_cases q : fitsS p W L r = 0
      · exact q
      · rw [if_pos q] at he; exact absurd he q
    rw [if_neg (fun h => h hf)] at he
    have := okp_go t (p ++ [r]) (.snoc p r h (fitsS_zero.1 hf) (by cases e : look p r.1 <;> simp_all) hc.1) he hd.2 hc.2
    simpa using this
theorem go_okp {W L : Int} {l : List Ro} (h : Okp W L l) : ∀ (t p : List Ro), l = p ++ t → errsGo W L p t = 0 ∧ dupGo p t = false ∧ clashGo p t = false := by
  induction h with
  | nil =>
    intro t p e
    have : t = [] ∧ p = [] := by
      have := e.symm
      simp at this
      exact ⟨this.2, this.1⟩
    obtain ⟨rfl, rfl⟩ := this
    exact ⟨rfl, rfl, rfl⟩
  | snoc q r h f n c ih =>
    intro t p e
    rcases List.eq_nil_or_concat t with rfl | ⟨t', r', rfl⟩
    · exact ⟨rfl, rfl, rfl⟩
    · rw [List.concat_eq_append] at *
      rw [← List.append_assoc] at e
      obtain ⟨e1, e2⟩ := List.append_inj' e rfl
      simp only [List.cons.injEq, and_true] at e2
      subst e2
      obtain ⟨i1, i2, i3⟩ := ih t' p e1
      have key : ∀ (t' p : List Ro), errsGo W L p t' = 0 → dupGo p t' = false → clashGo p t' = false → fitsS (p ++ t') W L r = 0 → look (p ++ t') r.1 = none → clash (p ++ t') r = false → errsGo W L p (t' ++ [r]) = 0 ∧ dupGo p (t' ++ [r]) = false ∧ clashGo p (t' ++ [r]) = false := fun t' => by
        induction t' with
        | nil =>
          intro p _ _ _ a b c
          rw [List.append_nil] at a b c
          rw [List.nil_append, errsGo, dupGo, clashGo, if_neg (fun h => h a), b, c]
          exact ⟨rfl, rfl, rfl⟩
        | cons u v ih =>
          intro p a1 a2 a3 a4 a5 a6
          rw [errsGo] at a1
          rw [dupGo, Bool.or_eq_false_iff] at a2
          rw [clashGo, Bool.or_eq_false_iff] at a3
          have hf : fitsS p W L u = 0 := by
            by_cases q : fitsS p W L u = 0
            · exact q
            · rw [if_pos q] at a1; exact absurd a1 q
          rw [if_neg (fun h => h hf)] at a1
          have e3 : p ++ u :: v = p ++ [u] ++ v := by simp
          rw [e3] at a4 a5 a6
          obtain ⟨b1, b2, b3⟩ := ih (p ++ [u]) a1 a2.2 a3.2 a4 a5 a6
          rw [List.cons_append, errsGo, dupGo, clashGo, if_neg (fun h => h hf), a2.1, a3.1]
          exact ⟨b1, b2, b3⟩
      rw [e1] at f n c
      exact key t' p i1 i2 i3 (fitsS_zero.2 f) n c
theorem checkS_zero {l : List Ro} {W L : Int} : checkS l W L = 0 ↔ Reg l W L := by
  unfold checkS
  constructor
  · intro h
    by_cases h1 : W < 1 ∨ W > 12000 ∨ L < 0 ∨ L > 17179869184
    · rw [if_pos h1] at h; omega
    · rw [if_neg h1] at h
      by_cases h2 : l.length > 512
      · rw [if_pos h2] at h; omega
      · rw [if_neg h2] at h
        by_cases h3 : errsGo W L [] l ≠ 0
        · rw [if_pos h3] at h; exact absurd h h3
        · rw [if_neg h3] at h
          by_cases h4 : dupGo [] l = true
          · rw [if_pos h4] at h; omega
          · rw [if_neg h4] at h
            by_cases h5 : clashGo [] l = true
            · rw [if_pos h5] at h; omega
            · have := okp_go l [] (W := W) (L := L) .nil (Classical.not_not.1 h3) (by simpa using h4) (by simpa using h5)
              exact ⟨by omega, by omega, by omega, by simpa using this⟩
  · rintro ⟨h1, h2, h3, h4⟩
    obtain ⟨a, b, c⟩ := go_okp h4 l [] rfl
    rw [if_neg (by omega), if_neg (by omega), if_neg (fun h => h a), if_neg (by rw [b]; decide), if_neg (by rw [c]; decide)]
/-! ### images, and whether they are single -/
theorem spn_in {m : List Rn} (h : goods m) : In 0 17179869184 (m.map spn) := In.of fun s hs => by
  obtain ⟨r, hr, rfl⟩ := List.mem_map.1 hs
  obtain ⟨a, b, c, d⟩ := (h.mem r hr).lohi
  exact ⟨a, by show lo r ≤ hi r + 1; omega, by show hi r + 1 ≤ _; omega⟩
theorem normS_spn {m : List Rn} (h : Chk m) : normS (m.map spn) = (nf (m.map spn), 0) := by
  unfold normS
  rw [if_neg (fun e => e (chkS_zero.2 ⟨by rw [List.length_map]; exact h.len, spn_in h.goods⟩))]
theorem totalS_nf {m : List Rn} (h : Chk m) : totalS (nf (m.map spn)) = (tot (nf (m.map spn)), 0) := by
  have hi := spn_in h.goods
  have hl := nf_len hi
  have hm := h.len
  rw [List.length_map] at hl
  unfold totalS
  rw [if_neg (fun e => e (chkS_zero.2 ⟨by omega, nf_in hi⟩)), nf_self (nf_in hi) (nf_nr hi)]

theorem iso_images_s (k : Nat) (r : Rn) (h : good r) : f_u39 k r = some (spn r) := by
  have h' := h
  obtain ⟨g1, g2, g3, g4, _⟩ := h'
  obtain ⟨l1, l2, l3, l4⟩ := h.lohi
  unfold f_u39
  rw [wrap_id (i := r.snd.fst - 1) (by omega) (by omega), iso_image_s k r _ (by omega) (by omega) (by omega) (by omega), iso_image_v k r _ (by omega) (by omega) (by omega) (by omega), max_ends h, min_ends h, wrap_id (by omega) (by omega)]
  rfl
theorem iso_images_v (k : Nat) (r : Rn) (h : good r) : v_u39 k r = spn r := by
  unfold v_u39; rw [iso_images_s k r h]; rfl

theorem iso_Image_l (k : Nat) (hk : 2100 ≤ k) (m : List Rn) (hc : Chk m) : ∀ (j i : Nat), i ≤ m.length → m.length - i + 1 < j →
    f_u35_6 k j m (m.length : Int) (i : Int) ((m.take i).map spn) = some (nf (m.map spn), 0) := by
  have hml := hc.len
  intro j
  induction j with
  | zero => intros; omega
  | succ j ih =>
    intro i hi hj
    rw [f_u35_6]
    by_cases h : i < m.length
    · have hgr : good (m.getD i T3.dflt) := hc.goods.mem _ (by simp [h])
      have ht := take_snoc m i T3.dflt h
      have := ih (i + 1) (by omega) (by omega)
      rw [ht, List.map_append] at this
      rw [decide_eq_true (by omega : (i : Int) < (m.length : Int)), cond_true, if_pos ⟨by omega, by omega⟩, Int.toNat_natCast, iso_images_s k _ hgr, iso_images_v k _ hgr, if_pos ⟨rfl, by rw [List.length_map, List.length_take, List.length_singleton]; omega⟩, wrapS i (by omega)]
      exact this
    · obtain ⟨j, rfl⟩ : ∃ q, j = q + 1 := ⟨j - 1, by omega⟩
      rw [decide_eq_false (by omega : ¬ (i : Int) < (m.length : Int)), cond_false, List.take_of_length_le (by omega), f_u35_10, span_Norm_s k hk, span_Norm_v k hk, normS_spn hc]
      rfl
theorem iso_Image_s (k : Nat) (hk : 2100 ≤ k) (m : List Rn) : f_u35 k m = some (imageS m) := by
  unfold f_u35 imageS
  rw [iso_Check_s k (by omega), iso_Check_v k (by omega), Option.isSome_some, if_pos rfl]
  by_cases h1 : chk m = 0
  · have hc := chk_zero.1 h1
    have hml := hc.len
    rw [show (chk m != 0) = false by simp [h1], cond_false, if_neg (fun h : chk m ≠ 0 => h h1)]
    exact iso_Image_l k hk m hc k 0 (by omega) (by omega)
  · rw [show (chk m != 0) = true by simp [h1], cond_true, if_pos h1]
theorem iso_Image_v (k : Nat) (hk : 2100 ≤ k) (m : List Rn) : v_u35 k m = imageS m := by
  unfold v_u35; rw [iso_Image_s k hk]; rfl

theorem iso_Single_s (k : Nat) (hk : 2100 ≤ k) (m : List Rn) : f_u37 k m = some (singleS m) := by
  unfold f_u37 singleS
  rw [iso_Image_s k hk, iso_Image_v k hk, Option.isSome_some, if_pos rfl]
  unfold imageS
  by_cases h1 : chk m = 0
  · have hc := chk_zero.1 h1
    have hml := hc.len
    rw [if_neg (fun h : chk m ≠ 0 => h h1), decide_eq_true h1, Bool.true_and]
    show (bif (0 : Int) != 0 then _ else _) = _
    rw [show ((0 : Int) != 0) = false from rfl, cond_false]
    show (if (f_u96 k (nf (m.map spn))).isSome = true then _ else none) = _
    rw [span_Total_s k (by omega)]
    show (bif ((v_u96 k (nf (m.map spn))).snd == 0) then _ else _) = _
    rw [span_Total_v k (by omega), totalS_nf hc, iso_length_s k m hc.goods (by omega) (by omega), iso_length_v k m hc.goods (by omega) (by omega)]
    rfl
  · rw [if_pos h1, decide_eq_false h1, Bool.false_and]
    show (bif chk m != 0 then some false else _) = _
    rw [show (chk m != 0) = true by simp [h1], cond_true]
theorem iso_Single_v (k : Nat) (hk : 2100 ≤ k) (m : List Rn) : v_u37 k m = singleS m := by
  unfold v_u37; rw [iso_Single_s k hk]; rfl

theorem ref13_Image_l (k : Nat) (hk : 2100 ≤ k) (m : List Rn) (hc : Chk m) : ∀ (j i : Nat), i ≤ m.length → m.length - i + 1 < j →
    f_u56_6 k j m (i : Int) ((m.take i).map spn) = some (nf (m.map spn), 0) := by
  have hml := hc.len
  intro j
  induction j with
  | zero => intros; omega
  | succ j ih =>
    intro i hi hj
    rw [f_u56_6]
    by_cases h : i < m.length
    · have hgr : good (m.getD i T3.dflt) := hc.goods.mem _ (by simp [h])
      have ht := take_snoc m i T3.dflt h
      have := ih (i + 1) (by omega) (by omega)
      rw [ht, List.map_append] at this
      rw [decide_eq_true (by omega : (i : Int) < (m.length : Int)), cond_true, Int.toNat_natCast]
      generalize m.getD i T3.dflt = r at hgr this
      have h' := hgr
      obtain ⟨g1, g2, g3, g4, _⟩ := h'
      obtain ⟨l1, l2, l3, l4⟩ := hgr.lohi
      rw [wrap_id (i := r.snd.fst - 1) (by omega) (by omega), ref13_image_s k r _ (by omega) (by omega) (by omega) (by omega), ref13_image_v k r _ (by omega) (by omega) (by omega) (by omega), max_ends hgr, min_ends hgr, wrap_id (i := Go.AM.hi r + 1) (by omega) (by omega), if_pos ⟨by omega, by omega, by omega, by omega, by omega, by omega, rfl⟩, if_pos (by rw [List.length_map, List.length_take, List.length_singleton]; omega), wrapS i (by omega)]
      exact this
    · obtain ⟨j, rfl⟩ : ∃ q, j = q + 1 := ⟨j - 1, by omega⟩
      rw [decide_eq_false (by omega : ¬ (i : Int) < (m.length : Int)), cond_false, List.take_of_length_le (by omega), f_u56_10, ref04_Norm_s k (by omega), ref04_Norm_v k (by omega), normS_spn hc]
      rfl
theorem ref13_Image_s (k : Nat) (hk : 2100 ≤ k) (m : List Rn) : f_u56 k m = some (imageS m) := by
  unfold f_u56 imageS
  rw [ref13_Check_s k (by omega), ref13_Check_v k (by omega), Option.isSome_some, if_pos rfl]
  by_cases h1 : chk m = 0
  · have hc := chk_zero.1 h1
    have hml := hc.len
    rw [show (chk m != 0) = false by simp [h1], cond_false, if_neg (fun h : chk m ≠ 0 => h h1)]
    exact ref13_Image_l k hk m hc k 0 (by omega) (by omega)
  · rw [show (chk m != 0) = true by simp [h1], cond_true, if_pos h1]
theorem ref13_Image_v (k : Nat) (hk : 2100 ≤ k) (m : List Rn) : v_u56 k m = imageS m := by
  unfold v_u56; rw [ref13_Image_s k hk]; rfl
theorem ref13_Single_s (k : Nat) (hk : 2100 ≤ k) (m : List Rn) : f_u57 k m = some (singleS m) := by
  unfold f_u57 singleS
  rw [ref13_Check_s k (by omega), ref13_Check_v k (by omega), Option.isSome_some, if_pos rfl]
  by_cases h1 : chk m = 0
  · have hc := chk_zero.1 h1
    have hml := hc.len
    rw [show (chk m != 0) = false by simp [h1], cond_false, decide_eq_true h1, Bool.true_and, ref13_Image_s k hk, ref13_Image_v k hk]
    unfold imageS
    rw [if_neg (fun h : chk m ≠ 0 => h h1), ref04_Total_s k (by omega), ref04_Total_v k (by omega), totalS_nf hc, ref13_length_s k m hc.goods (by omega) (by omega), ref13_length_v k m hc.goods (by omega) (by omega)]
    rfl
  · rw [show (chk m != 0) = true by simp [h1], cond_true, decide_eq_false h1, Bool.false_and]
theorem ref13_Single_v (k : Nat) (hk : 2100 ≤ k) (m : List Rn) : v_u57 k m = singleS m := by
  unfold v_u57; rw [ref13_Single_s k hk]; rfl
end Go.AM
namespace Go.AM
open Go Go.Proofs
noncomputable section
abbrev R_u25 : Type := Int × Int
def res_u25 (r : R_u25) : AV := .tup [.r (.v (.int .i64 r.1)), .r (.v (.int .i64 r.2))]
def bo_u25 (x_ : T3.T) (r : R_u25) : List (Nat × Blk) := []
def args_u25 (x_ : T3.T) : List AV := [.agg (rvs (enc T3 x_))]
def bin_u25 (x_ : T3.T) : List Blk := []
abbrev C_u25 (x_ : T3.T) (r : R_u25) : Prop := CC Tryz.prog 121 (args_u25 x_) (bin_u25 x_) (res_u25 r) (bo_u25 x_ r)
def f_u25 (k : Nat) (x_ : T3.T) : Option R_u25 :=
  bif x_.2.2 then
  some ((IntKind.i64.wrap (IntKind.i64.wrap (x_.1 - x_.2.1) + 1), x_.1))
  else
  some ((x_.1, IntKind.i64.wrap (IntKind.i64.wrap (x_.1 + x_.2.1) - 1)))
def v_u25 (k : Nat) (x_ : T3.T) : R_u25 := (f_u25 k x_).getD (0, 0)
def ke_u25 (k : Nat) : Ke := (121, fun xs => match xs with
  | [_] => some [false]
  | _ => none, fun xs bs => match xs, bs with
  | [.agg qx_], [] => (decS [] T3 qx_).bind fun x_ => some (.one (res_u25 (v_u25 k x_), bo_u25 x_ (v_u25 k x_)))
  | _, _ => none)
theorem of_u25 (k : Nat) (x_ : T3.T) (r : R_u25) (h : f_u25 k x_ = some r) : C_u25 x_ r := by
  refine CC.of (fn := Tryz.f121) (by kernel_rfl) (by kernel_rfl) (by kernel_rfl) (by kernel_rfl) ?_
  unfold f_u25 at h
  exact go (mkK []) [] [] [.autoB [2, 3] true []] (gT h (fun c h => gL h) fun c h => gL h) (by kernel_rfl)
theorem cc_u25 {k : Nat} {x_ : T3.T} (h : (f_u25 k x_).isSome = true) : C_u25 x_ (v_u25 k x_) := ccG (Φ := C_u25 x_) h (of_u25 k x_)
abbrev R_u27 : Type := Bool
def res_u27 (r : R_u27) : AV := .r (.v (.bool r))
def bo_u27 (a_ : T4.T) (b_ : T4.T) (r : R_u27) : List (Nat × Blk) := []
def args_u27 (a_ : T4.T) (b_ : T4.T) : List AV := [.agg (rvs (enc T4 a_)), .agg (rvs (enc T4 b_))]
def bin_u27 (a_ : T4.T) (b_ : T4.T) : List Blk := []
abbrev C_u27 (a_ : T4.T) (b_ : T4.T) (r : R_u27) : Prop := CC Tryz.prog 73 (args_u27 a_ b_) (bin_u27 a_ b_) (res_u27 r) (bo_u27 a_ b_ r)
def st_u27_4 (y0 : List (T3).T) (y1 : Int) (y2 : Int) (y3 : T4.T) : St := ⟨mkS 65 [(3, .ptr 1000000 0 0), (32, .r (.ro T3 y0)), (33, .r (.v (.int .i64 y1))), (34, .r (.v (.int .i64 y2)))], [(1000000, 0, .var 45 (rvs (enc T4 y3)))]⟩
def st_u27_8 (y0 : Int) (y1 : Int) (y2 : List (T3).T) (y3 : Int) (y4 : Int) (y5 : List (T3).T) (y6 : Int) (y7 : Int) (y8 : T4.T) : St := ⟨mkS 65 [(3, .ptr 1000000 0 0), (7, .r (.v (.int .i64 y0))), (8, .r (.v (.int .i64 y1))), (32, .r (.ro T3 y2)), (33, .r (.v (.int .i64 y3))), (34, .r (.v (.int .i64 y4))), (44, .r (.ro T3 y5)), (45, .r (.v (.int .i64 y6))), (46, .r (.v (.int .i64 y7)))], [(1000000, 0, .var 45 (rvs (enc T4 y8)))]⟩
mutual
def f_u27_4 (k : Nat) : Nat → List (T3).T → Int → Int → T4.T → Option R_u27
  | 0, _, _, _, _ => none
  | j + 1, y0, y1, y2, y3 =>
  bif (decide (y2 < y1)) then
  if (0 ≤ y2) ∧ (y2 < (↑y0.length : Int)) then
  if ((f_u25 k (y0.getD y2.toNat T3.dflt)).isSome = true) then
  f_u27_8 k j ((v_u25 k (y0.getD y2.toNat T3.dflt)).1) ((v_u25 k (y0.getD y2.toNat T3.dflt)).2) y0 y1 y2 y3.2.2.2 ((↑ (List.length y3.2.2.2) : Int)) 0 y3
  else none
  else none
  else
  some false
def f_u27_8 (k : Nat) : Nat → Int → Int → List (T3).T → Int → Int → List (T3).T → Int → Int → T4.T → Option R_u27
  | 0, _, _, _, _, _, _, _, _, _ => none
  | j + 1, y0, y1, y2, y3, y4, y5, y6, y7, y8 =>
  bif (decide (y7 < y6)) then
  if (0 ≤ y7) ∧ (y7 < (↑y5.length : Int)) then
  if ((f_u25 k (y5.getD y7.toNat T3.dflt)).isSome = true) then
  bif (decide (y0 ≤ (v_u25 k (y5.getD y7.toNat T3.dflt)).2) && decide ((v_u25 k (y5.getD y7.toNat T3.dflt)).1 ≤ y1)) then
  some true
  else
  f_u27_8 k j y0 y1 y2 y3 y4 y5 y6 ((IntKind.i64.wrap (y7 + 1))) y8
  else none
  else none
  else
  f_u27_4 k j y2 y3 ((IntKind.i64.wrap (y4 + 1))) y8
end
def f_u27 (k : Nat) (a_ : T4.T) (b_ : T4.T) : Option R_u27 :=
  bif (decide (IntKind.i64.wrap (a_.1 + a_.2.1) ≤ b_.1) || decide (IntKind.i64.wrap (b_.1 + b_.2.1) ≤ a_.1)) then
  some false
  else
  f_u27_4 k k a_.2.2.2 ((↑ (List.length a_.2.2.2) : Int)) 0 b_
def v_u27 (k : Nat) (a_ : T4.T) (b_ : T4.T) : R_u27 := (f_u27 k a_ b_).getD false
def ke_u27 (k : Nat) : Ke := (73, fun xs => match xs with
  | [_, _] => some [false, false]
  | _ => none, fun xs bs => match xs, bs with
  | [.agg qa_, .agg qb_], [] => (decS [] T4 qa_).bind fun a_ => (decS [] T4 qb_).bind fun b_ => some (.one (res_u27 (v_u27 k a_ b_), bo_u27 a_ b_ (v_u27 k a_ b_)))
  | _, _ => none)
def cs_u27 : List (Nat × List Cmd) := [(4, [.autoB [3, 32, 33, 34] false []]), (8, [.autoB [3, 7, 8, 32, 33, 34, 44, 45, 46] false []])]
abbrev E_u27 (a_ : T4.T) (b_ : T4.T) (todo : List Item) (st : St) (o : Option R_u27) : Prop := ∀ r, o = some r → Ev Tryz.prog Tryz.f73 0 todo st (res_u27 r) (bo_u27 a_ b_ r)
theorem ev_u27 (k : Nat) (a_ : T4.T) (b_ : T4.T) : ∀ j, (∀ (y0 : List (T3).T) (y1 : Int) (y2 : Int) (y3 : T4.T), E_u27 a_ b_ (placeAt Tryz.f73 4) (st_u27_4 y0 y1 y2 y3) (f_u27_4 k j y0 y1 y2 y3)) ∧ (∀ (y0 : Int) (y1 : Int) (y2 : List (T3).T) (y3 : Int) (y4 : Int) (y5 : List (T3).T) (y6 : Int) (y7 : Int) (y8 : T4.T), E_u27 a_ b_ (placeAt Tryz.f73 8) (st_u27_8 y0 y1 y2 y3 y4 y5 y6 y7 y8) (f_u27_8 k j y0 y1 y2 y3 y4 y5 y6 y7 y8))
  | 0 => ⟨fun _ _ _ _ _ h => (nomatch h), fun _ _ _ _ _ _ _ _ _ _ h => (nomatch h)⟩
  | j + 1 => by
    have ih := @ev_u27 k a_ b_ j
    refine ⟨?_, ?_⟩
    · intro y0 y1 y2 y3 r h
      rw [f_u27_4] at h
      exact go (mkK [ke_u25 k]) [] cs_u27 [.autoB [4] true []] (gT h (fun c h => gN2 h fun h => gN1 h (fun q => cc_u25 q) fun h => gC h 8 (ih.2 _ _ _ _ _ _ _ _ _ _)) fun c h => gL h) (by kernel_rfl)
    · intro y0 y1 y2 y3 y4 y5 y6 y7 y8 r h
      rw [f_u27_8] at h
      exact go (mkK [ke_u25 k]) [] cs_u27 [.autoB [4] true []] (gT h (fun c h => gN2 h fun h => gN1 h (fun q => cc_u25 q) fun h => gT h (fun c h => gL h) fun c h => gC h 8 (ih.2 _ _ _ _ _ _ _ _ _ _)) fun c h => gC h 4 (ih.1 _ _ _ _ _)) (by kernel_rfl)
theorem of_u27 (k : Nat) (a_ : T4.T) (b_ : T4.T) (r : R_u27) (h : f_u27 k a_ b_ = some r) : C_u27 a_ b_ r := by
  refine CC.of (fn := Tryz.f73) (by kernel_rfl) (by kernel_rfl) (by kernel_rfl) (by kernel_rfl) ?_
  unfold f_u27 at h
  exact go (mkK [ke_u25 k]) [] cs_u27 [.autoB [4] true []] (gT h (fun c h => gL h) fun c h => gC h 4 ((ev_u27 k a_ b_ k).1 _ _ _ _ _)) (by kernel_rfl)
theorem cc_u27 {k : Nat} {a_ : T4.T} {b_ : T4.T} (h : (f_u27 k a_ b_).isSome = true) : C_u27 a_ b_ (v_u27 k a_ b_) := ccG (Φ := C_u27 a_ b_) h (of_u27 k a_ b_)
abbrev R_u70 : Type := Int × Int
def res_u70 (r : R_u70) : AV := .tup [.r (.v (.int .i64 r.1)), .r (.v (.int .i64 r.2))]
def bo_u70 (r_ : T3.T) (r : R_u70) : List (Nat × Blk) := []
def args_u70 (r_ : T3.T) : List AV := [.agg (rvs (enc T3 r_))]
def bin_u70 (r_ : T3.T) : List Blk := []
abbrev C_u70 (r_ : T3.T) (r : R_u70) : Prop := CC Tryz.prog 129 (args_u70 r_) (bin_u70 r_) (res_u70 r) (bo_u70 r_ r)
def f_u70 (k : Nat) (r_ : T3.T) : Option R_u70 :=
  bif r_.2.2 then
  some ((IntKind.i64.wrap (IntKind.i64.wrap (r_.1 - r_.2.1) + 1), r_.1))
  else
  some ((r_.1, IntKind.i64.wrap (IntKind.i64.wrap (r_.1 + r_.2.1) - 1)))
def v_u70 (k : Nat) (r_ : T3.T) : R_u70 := (f_u70 k r_).getD (0, 0)
def ke_u70 (k : Nat) : Ke := (129, fun xs => match xs with
  | [_] => some [false]
  | _ => none, fun xs bs => match xs, bs with
  | [.agg qr_], [] => (decS [] T3 qr_).bind fun r_ => some (.one (res_u70 (v_u70 k r_), bo_u70 r_ (v_u70 k r_)))
  | _, _ => none)
theorem of_u70 (k : Nat) (r_ : T3.T) (r : R_u70) (h : f_u70 k r_ = some r) : C_u70 r_ r := by
  refine CC.of (fn := Tryz.f129) (by kernel_rfl) (by kernel_rfl) (by kernel_rfl) (by kernel_rfl) ?_
  unfold f_u70 at h
  exact go (mkK []) [] [] [.autoB [2, 3] true []] (gT h (fun c h => gL h) fun c h => gL h) (by kernel_rfl)
theorem cc_u70 {k : Nat} {r_ : T3.T} (h : (f_u70 k r_).isSome = true) : C_u70 r_ (v_u70 k r_) := ccG (Φ := C_u70 r_) h (of_u70 k r_)
abbrev R_u71 : Type := Bool
def res_u71 (r : R_u71) : AV := .r (.v (.bool r))
def bo_u71 (a_ : List (T3).T) (b_ : List (T3).T) (r : R_u71) : List (Nat × Blk) := []
def args_u71 (a_ : List (T3).T) (b_ : List (T3).T) : List AV := [.r (.ro T3 a_), .r (.ro T3 b_)]
def bin_u71 (a_ : List (T3).T) (b_ : List (T3).T) : List Blk := []
abbrev C_u71 (a_ : List (T3).T) (b_ : List (T3).T) (r : R_u71) : Prop := CC Tryz.prog 87 (args_u71 a_ b_) (bin_u71 a_ b_) (res_u71 r) (bo_u71 a_ b_ r)
def st_u71_2 (y0 : List (T3).T) (y1 : List (T3).T) (y2 : Int) : St := ⟨mkS 47 [(0, .r (.ro T3 y0)), (1, .r (.ro T3 y1)), (5, .r (.v (.int .i64 y2)))], []⟩
def st_u71_5 (y0 : List (T3).T) (y1 : List (T3).T) (y2 : Int) (y3 : Int) : St := ⟨mkS 47 [(0, .r (.ro T3 y0)), (1, .r (.ro T3 y1)), (5, .r (.v (.int .i64 y2))), (6, .r (.v (.int .i64 y3)))], []⟩
mutual
def f_u71_2 (k : Nat) : Nat → List (T3).T → List (T3).T → Int → Option R_u71
  | 0, _, _, _ => none
  | j + 1, y0, y1, y2 =>
  bif (decide (y2 < (↑y0.length : Int))) then
  f_u71_5 k j y0 y1 y2 0
  else
  some false
def f_u71_5 (k : Nat) : Nat → List (T3).T → List (T3).T → Int → Int → Option R_u71
  | 0, _, _, _, _ => none
  | j + 1, y0, y1, y2, y3 =>
  bif (decide (y3 < (↑y1.length : Int))) then
  if (0 ≤ y2) ∧ (y2 < (↑y0.length : Int)) ∧ ((f_u70 k (y0.getD y2.toNat T3.dflt)).isSome = true) then
  if (0 ≤ y3) ∧ (y3 < (↑y1.length : Int)) ∧ ((f_u70 k (y1.getD y3.toNat T3.dflt)).isSome = true) then
  bif (decide ((v_u70 k (y0.getD y2.toNat T3.dflt)).1 ≤ (v_u70 k (y1.getD y3.toNat T3.dflt)).2) && decide ((v_u70 k (y1.getD y3.toNat T3.dflt)).1 ≤ (v_u70 k (y0.getD y2.toNat T3.dflt)).2)) then
  some true
  else
  f_u71_5 k j y0 y1 y2 ((IntKind.i64.wrap (y3 + 1)))
  else none
  else none
  else
  f_u71_2 k j y0 y1 ((IntKind.i64.wrap (y2 + 1)))
end
def f_u71 (k : Nat) (a_ : List (T3).T) (b_ : List (T3).T) : Option R_u71 :=
  f_u71_2 k k a_ b_ 0
def v_u71 (k : Nat) (a_ : List (T3).T) (b_ : List (T3).T) : R_u71 := (f_u71 k a_ b_).getD false
def ke_u71 (k : Nat) : Ke := (87, fun xs => match xs with
  | [_, _] => some [false, false]
  | _ => none, fun xs bs => match xs, bs with
  | [.r (.ro ta__ qa_), .r (.ro tb__ qb_)], [] => (castL ta__ T3 qa_).bind fun a_ => (castL tb__ T3 qb_).bind fun b_ => some (.one (res_u71 (v_u71 k a_ b_), bo_u71 a_ b_ (v_u71 k a_ b_)))
  | _, _ => none)
def cs_u71 : List (Nat × List Cmd) := [(2, [.autoB [0, 1, 5] false []]), (5, [.autoB [0, 1, 5, 6] false []])]
abbrev E_u71 (a_ : List (T3).T) (b_ : List (T3).T) (todo : List Item) (st : St) (o : Option R_u71) : Prop := ∀ r, o = some r → Ev Tryz.prog Tryz.f87 0 todo st (res_u71 r) (bo_u71 a_ b_ r)
theorem ev_u71 (k : Nat) (a_ : List (T3).T) (b_ : List (T3).T) : ∀ j, (∀ (y0 : List (T3).T) (y1 : List (T3).T) (y2 : Int), E_u71 a_ b_ (placeAt Tryz.f87 2) (st_u71_2 y0 y1 y2) (f_u71_2 k j y0 y1 y2)) ∧ (∀ (y0 : List (T3).T) (y1 : List (T3).T) (y2 : Int) (y3 : Int), E_u71 a_ b_ (placeAt Tryz.f87 5) (st_u71_5 y0 y1 y2 y3) (f_u71_5 k j y0 y1 y2 y3))
  | 0 => ⟨fun _ _ _ _ h => (nomatch h), fun _ _ _ _ _ h => (nomatch h)⟩
  | j + 1 => by
    have ih := @ev_u71 k a_ b_ j
    refine ⟨?_, ?_⟩
    · intro y0 y1 y2 r h
      rw [f_u71_2] at h
      exact go (mkK [ke_u70 k]) [] cs_u71 [.autoB [4] true []] (gT h (fun c h => gC h 5 (ih.2 _ _ _ _ _)) fun c h => gL h) (by kernel_rfl)
    · intro y0 y1 y2 y3 r h
      rw [f_u71_5] at h
      exact go (mkK [ke_u70 k]) [] cs_u71 [.autoB [4] true []] (gT h (fun c h => gN h (fun q => conjC q.1 (conjC q.2.1 (conjC (cc_u70 q.2.2) conj0))) fun h => gN h (fun q => conjC q.1 (conjC q.2.1 (conjC (cc_u70 q.2.2) conj0))) fun h => gT h (fun c h => gL h) fun c h => gC h 5 (ih.2 _ _ _ _ _)) fun c h => gC h 2 (ih.1 _ _ _ _)) (by kernel_rfl)
theorem of_u71 (k : Nat) (a_ : List (T3).T) (b_ : List (T3).T) (r : R_u71) (h : f_u71 k a_ b_ = some r) : C_u71 a_ b_ r := by
  refine CC.of (fn := Tryz.f87) (by kernel_rfl) (by kernel_rfl) (by kernel_rfl) (by kernel_rfl) ?_
  unfold f_u71 at h
  exact go (mkK [ke_u70 k]) [] cs_u71 [.autoB [4] true []] (gC h 2 ((ev_u71 k a_ b_ k).1 _ _ _ _)) (by kernel_rfl)
theorem cc_u71 {k : Nat} {a_ : List (T3).T} {b_ : List (T3).T} (h : (f_u71 k a_ b_).isSome = true) : C_u71 a_ b_ (v_u71 k a_ b_) := ccG (Φ := C_u71 a_ b_) h (of_u71 k a_ b_)
abbrev R_u68 : Type := Int
def res_u68 (r : R_u68) : AV := .r (.v (.int .i64 r))
def bo_u68 (l_ : List (T5).T) (n_ : Int) (id_ : Int) (r : R_u68) : List (Nat × Blk) := []
def args_u68 (l_ : List (T5).T) (n_ : Int) (id_ : Int) : List AV := [.r (.ro T5 l_), .r (.v (.int .i64 n_)), .r (.v (.int .i64 id_))]
def bin_u68 (l_ : List (T5).T) (n_ : Int) (id_ : Int) : List Blk := []
abbrev C_u68 (l_ : List (T5).T) (n_ : Int) (id_ : Int) (r : R_u68) : Prop := CC Tryz.prog 46 (args_u68 l_ n_ id_) (bin_u68 l_ n_ id_) (res_u68 r) (bo_u68 l_ n_ id_ r)
def st_u68_2 (y0 : List (T5).T) (y1 : Int) (y2 : Int) (y3 : Int) : St := ⟨mkS 21 [(0, .r (.ro T5 y0)), (1, .r (.v (.int .i64 y1))), (2, .r (.v (.int .i64 y2))), (7, .r (.v (.int .i64 y3)))], []⟩
def f_u68_2 (k : Nat) : Nat → List (T5).T → Int → Int → Int → Option R_u68
  | 0, _, _, _, _ => none
  | j + 1, y0, y1, y2, y3 =>
  bif (decide (y3 < y1)) then
  if (0 ≤ y3) ∧ (y3 < (↑y0.length : Int)) then
  bif ((y0.getD y3.toNat T5.dflt).1 == y2) then
  some y3
  else
  f_u68_2 k j y0 y1 y2 ((IntKind.i64.wrap (y3 + 1)))
  else none
  else
  some (-1)
def f_u68 (k : Nat) (l_ : List (T5).T) (n_ : Int) (id_ : Int) : Option R_u68 :=
  f_u68_2 k k l_ n_ id_ 0
def v_u68 (k : Nat) (l_ : List (T5).T) (n_ : Int) (id_ : Int) : R_u68 := (f_u68 k l_ n_ id_).getD 0
def ke_u68 (k : Nat) : Ke := (46, fun xs => match xs with
  | [_, _, _] => some [false, false, false]
  | _ => none, fun xs bs => match xs, bs with
  | [.r (.ro tl__ ql_), .r (.v (.int .i64 n_)), .r (.v (.int .i64 id_))], [] => (castL tl__ T5 ql_).bind fun l_ => some (.one (res_u68 (v_u68 k l_ n_ id_), bo_u68 l_ n_ id_ (v_u68 k l_ n_ id_)))
  | _, _ => none)
def cs_u68 : List (Nat × List Cmd) := [(2, [.autoB [0, 1, 2, 7] false []])]
abbrev E_u68 (l_ : List (T5).T) (n_ : Int) (id_ : Int) (todo : List Item) (st : St) (o : Option R_u68) : Prop := ∀ r, o = some r → Ev Tryz.prog Tryz.f46 0 todo st (res_u68 r) (bo_u68 l_ n_ id_ r)
theorem ev_u68 (k : Nat) (l_ : List (T5).T) (n_ : Int) (id_ : Int) : ∀ j, (∀ (y0 : List (T5).T) (y1 : Int) (y2 : Int) (y3 : Int), E_u68 l_ n_ id_ (placeAt Tryz.f46 2) (st_u68_2 y0 y1 y2 y3) (f_u68_2 k j y0 y1 y2 y3))
  | 0 => fun _ _ _ _ _ h => (nomatch h)
  | j + 1 => by
    have ih := @ev_u68 k l_ n_ id_ j
    · intro y0 y1 y2 y3 r h
      rw [f_u68_2] at h
      exact go (mkK []) [] cs_u68 [.autoB [6] true []] (gT h (fun c h => gN2 h fun h => gT h (fun c h => gL h) fun c h => gC h 2 (ih _ _ _ _ _)) fun c h => gL h) (by kernel_rfl)
theorem of_u68 (k : Nat) (l_ : List (T5).T) (n_ : Int) (id_ : Int) (r : R_u68) (h : f_u68 k l_ n_ id_ = some r) : C_u68 l_ n_ id_ r := by
  refine CC.of (fn := Tryz.f46) (by kernel_rfl) (by kernel_rfl) (by kernel_rfl) (by kernel_rfl) ?_
  unfold f_u68 at h
  exact go (mkK []) [] cs_u68 [.autoB [6] true []] (gC h 2 ((ev_u68 k l_ n_ id_ k) _ _ _ _ _)) (by kernel_rfl)
theorem cc_u68 {k : Nat} {l_ : List (T5).T} {n_ : Int} {id_ : Int} (h : (f_u68 k l_ n_ id_).isSome = true) : C_u68 l_ n_ id_ (v_u68 k l_ n_ id_) := ccG (Φ := C_u68 l_ n_ id_) h (of_u68 k l_ n_ id_)
abbrev R_u69 : Type := Int
def res_u69 (r : R_u69) : AV := .r (.v (.int .i64 r))
def bo_u69 (m_ : List (T3).T) (r : R_u69) : List (Nat × Blk) := []
def args_u69 (m_ : List (T3).T) : List AV := [.r (.ro T3 m_)]
def bin_u69 (m_ : List (T3).T) : List Blk := []
abbrev C_u69 (m_ : List (T3).T) (r : R_u69) : Prop := CC Tryz.prog 43 (args_u69 m_) (bin_u69 m_) (res_u69 r) (bo_u69 m_ r)
def st_u69_3 (y0 : List (T3).T) (y1 : Int) (y2 : Int) : St := ⟨mkS 19 [(0, .r (.ro T3 y0)), (3, .r (.v (.int .i64 y1))), (4, .r (.v (.int .i64 y2)))], []⟩
def f_u69_3 (k : Nat) : Nat → List (T3).T → Int → Int → Option R_u69
  | 0, _, _, _ => none
  | j + 1, y0, y1, y2 =>
  bif (decide (y2 < (↑y0.length : Int))) then
  if (0 ≤ y2) ∧ (y2 < (↑y0.length : Int)) then
  f_u69_3 k j y0 ((IntKind.i64.wrap (y1 + (y0.getD y2.toNat T3.dflt).2.1))) ((IntKind.i64.wrap (y2 + 1)))
  else none
  else
  some y1
def f_u69 (k : Nat) (m_ : List (T3).T) : Option R_u69 :=
  f_u69_3 k k m_ 0 0
def v_u69 (k : Nat) (m_ : List (T3).T) : R_u69 := (f_u69 k m_).getD 0
def ke_u69 (k : Nat) : Ke := (43, fun xs => match xs with
  | [_] => some [false]
  | _ => none, fun xs bs => match xs, bs with
  | [.r (.ro tm__ qm_)], [] => (castL tm__ T3 qm_).bind fun m_ => some (.one (res_u69 (v_u69 k m_), bo_u69 m_ (v_u69 k m_)))
  | _, _ => none)
def cs_u69 : List (Nat × List Cmd) := [(3, [.autoB [0, 3, 4] false []])]
abbrev E_u69 (m_ : List (T3).T) (todo : List Item) (st : St) (o : Option R_u69) : Prop := ∀ r, o = some r → Ev Tryz.prog Tryz.f43 0 todo st (res_u69 r) (bo_u69 m_ r)
theorem ev_u69 (k : Nat) (m_ : List (T3).T) : ∀ j, (∀ (y0 : List (T3).T) (y1 : Int) (y2 : Int), E_u69 m_ (placeAt Tryz.f43 3) (st_u69_3 y0 y1 y2) (f_u69_3 k j y0 y1 y2))
  | 0 => fun _ _ _ _ h => (nomatch h)
  | j + 1 => by
    have ih := @ev_u69 k m_ j
    · intro y0 y1 y2 r h
      rw [f_u69_3] at h
      exact go (mkK []) [] cs_u69 [.autoB [2] true []] (gT h (fun c h => gN2 h fun h => gC h 3 (ih _ _ _ _)) fun c h => gL h) (by kernel_rfl)
theorem of_u69 (k : Nat) (m_ : List (T3).T) (r : R_u69) (h : f_u69 k m_ = some r) : C_u69 m_ r := by
  refine CC.of (fn := Tryz.f43) (by kernel_rfl) (by kernel_rfl) (by kernel_rfl) (by kernel_rfl) ?_
  unfold f_u69 at h
  exact go (mkK []) [] cs_u69 [.autoB [2] true []] (gC h 3 ((ev_u69 k m_ k) _ _ _ _)) (by kernel_rfl)
theorem cc_u69 {k : Nat} {m_ : List (T3).T} (h : (f_u69 k m_).isSome = true) : C_u69 m_ (v_u69 k m_) := ccG (Φ := C_u69 m_) h (of_u69 k m_)
abbrev R_u36 : Type := Int × Int
def res_u36 (r : R_u36) : AV := .tup [.r (.v (.int .i64 r.1)), .r (.v (.int .i64 r.2))]
def bo_u36 (m_ : List (T3).T) (r : R_u36) : List (Nat × Blk) := []
def args_u36 (m_ : List (T3).T) : List AV := [.r (.ro T3 m_)]
def bin_u36 (m_ : List (T3).T) : List Blk := []
abbrev C_u36 (m_ : List (T3).T) (r : R_u36) : Prop := CC Tryz.prog 122 (args_u36 m_) (bin_u36 m_) (res_u36 r) (bo_u36 m_ r)
def f_u36 (k : Nat) (m_ : List (T3).T) : Option R_u36 :=
  if ((f_u34 k m_).isSome = true) then
  bif (v_u34 k m_ != (0 : Int)) then
  some ((0, v_u34 k m_))
  else
  if ((f_u40 k m_).isSome = true) then
  some ((v_u40 k m_, 0))
  else none
  else none
def v_u36 (k : Nat) (m_ : List (T3).T) : R_u36 := (f_u36 k m_).getD (0, 0)
def ke_u36 (k : Nat) : Ke := (122, fun xs => match xs with
  | [_] => some [false]
  | _ => none, fun xs bs => match xs, bs with
  | [.r (.ro tm__ qm_)], [] => (castL tm__ T3 qm_).bind fun m_ => some (.one (res_u36 (v_u36 k m_), bo_u36 m_ (v_u36 k m_)))
  | _, _ => none)
theorem of_u36 (k : Nat) (m_ : List (T3).T) (r : R_u36) (h : f_u36 k m_ = some r) : C_u36 m_ r := by
  refine CC.of (fn := Tryz.f122) (by kernel_rfl) (by kernel_rfl) (by kernel_rfl) (by kernel_rfl) ?_
  unfold f_u36 at h
  exact go (mkK [ke_u34 k, ke_u40 k]) [] [] [.autoB [2, 3] true []] (gN1 h (fun q => cc_u34 q) fun h => gT h (fun c h => gL h) fun c h => gN1 h (fun q => cc_u40 q) fun h => gL h) (by kernel_rfl)
theorem cc_u36 {k : Nat} {m_ : List (T3).T} (h : (f_u36 k m_).isSome = true) : C_u36 m_ (v_u36 k m_) := ccG (Φ := C_u36 m_) h (of_u36 k m_)

end
theorem getD_mem' {α : Type} (l : List α) (i : Nat) (d : α) (h : i < l.length) : l.getD i d ∈ l := by simp [h]
theorem getD_app {α : Type} (p t : List α) (i : Nat) (d : α) (h : i < p.length) : (p ++ t).getD i d = p.getD i d := by simp [List.getElem?_append_left h]
theorem getD_any {α : Type} (p : List α) (i : Nat) (d e : α) (h : i < p.length) : p.getD i d = p.getD i e := by simp [h]

/-! ### the ends of runs, and whether cuts meet -/
theorem fam_bounds_s (k : Nat) (r : Rn) (h : good r) : f_u25 k r = some (lo r, Go.AM.hi r) := by
  obtain ⟨h1, h2, h3, h4, h5, h6⟩ := h
  unfold f_u25 lo Go.AM.hi
  cases hb : r.2.2
  · have := h6 hb
    rw [cond_false, wrap_id (i := r.1 + r.2.1) (by omega) (by omega), wrap_id (by omega) (by omega)]; rfl
  · have := h5 hb
    rw [cond_true, wrap_id (i := r.1 - r.2.1) (by omega) (by omega), wrap_id (by omega) (by omega)]; rfl
theorem fam_bounds_v (k : Nat) (r : Rn) (h : good r) : v_u25 k r = (lo r, Go.AM.hi r) := by
  unfold v_u25; rw [fam_bounds_s k r h]; rfl
theorem ref42_ends_s (k : Nat) (r : Rn) (h : good r) : f_u70 k r = some (lo r, Go.AM.hi r) := by
  obtain ⟨h1, h2, h3, h4, h5, h6⟩ := h
  unfold f_u70 lo Go.AM.hi
  cases hb : r.2.2
  · have := h6 hb
    rw [cond_false, wrap_id (i := r.1 + r.2.1) (by omega) (by omega), wrap_id (by omega) (by omega)]; rfl
  · have := h5 hb
    rw [cond_true, wrap_id (i := r.1 - r.2.1) (by omega) (by omega), wrap_id (by omega) (by omega)]; rfl
theorem ref42_ends_v (k : Nat) (r : Rn) (h : good r) : v_u70 k r = (lo r, Go.AM.hi r) := by
  unfold v_u70; rw [ref42_ends_s k r h]; rfl

def touch (x y : Rn) : Bool := decide (lo x ≤ Go.AM.hi y) && decide (lo y ≤ Go.AM.hi x)
theorem meetS_eq (a b : List Rn) : meetS a b = a.any fun x => b.any fun y => touch x y := rfl

theorem fam_overlap_8 (k : Nat) (x : Rn) (a : List Rn) (la i : Int) (c : Ch) (m : List Rn) (hm : goods m) (hl : m.length ≤ 256) : ∀ (d q n : Nat), q + d = m.length →
    f_u27_8 k (n + d + 1) (lo x) (Go.AM.hi x) a la i m (m.length : Int) (q : Int) c = if (m.drop q).any (touch x) = true then some true else f_u27_4 k n a la (IntKind.i64.wrap (i + 1)) c := by
  intro d
  induction d with
  | zero =>
    intro q n hq
    rw [f_u27_8, decide_eq_false (by omega : ¬ (q : Int) < (m.length : Int)), cond_false, List.drop_of_length_le (by omega), List.any_nil, if_neg (by decide)]
  | succ d ih =>
    intro q n hq
    have hg : good (m.getD q T3.dflt) := hm.mem _ (getD_mem' _ _ _ (by omega))
    rw [show n + (d + 1) + 1 = (n + d + 1) + 1 from rfl, f_u27_8, decide_eq_true (by omega : (q : Int) < (m.length : Int)), cond_true, if_pos ⟨by omega, by omega⟩, Int.toNat_natCast, fam_bounds_s k _ hg, fam_bounds_v k _ hg, Option.isSome_some, if_pos rfl, drop_cons' m q T3.dflt (by omega), List.any_cons, wrapS q (by omega), ih (q + 1) n (by omega)]
    show (bif touch x (m.getD q T3.dflt) then _ else _) = _
    cases touch x (m.getD q T3.dflt)
    · rw [cond_false, Bool.false_or]
    · rw [cond_true, Bool.true_or, if_pos rfl]
set_option maxRecDepth 20000 in
theorem fam_overlap_4 (k : Nat) (a : List Rn) (ha : goods a) (hl : a.length ≤ 256) (c : Ch) (hc : goods c.2.2.2) (hcl : c.2.2.2.length ≤ 256) : ∀ (d i j : Nat), i + d = a.length → d * 258 < j →
    f_u27_4 k j a (a.length : Int) (i : Int) c = some (meetS (a.drop i) c.2.2.2) := by
  intro d
  induction d with
  | zero =>
    intro i j hi hj
    obtain ⟨j, rfl⟩ : ∃ q, j = q + 1 := ⟨j - 1, by omega⟩
    rw [f_u27_4, decide_eq_false (by omega : ¬ (i : Int) < (a.length : Int)), cond_false, List.drop_of_length_le (by omega)]
    rfl
  | succ d ih =>
    intro i j hi hj
    obtain ⟨j, rfl⟩ : ∃ q, j = (q + c.2.2.2.length + 1) + 1 := ⟨j - c.2.2.2.length - 2, by omega⟩
    have hg : good (a.getD i T3.dflt) := ha.mem _ (getD_mem' _ _ _ (by omega))
    have h8 := fam_overlap_8 k (a.getD i T3.dflt) a (a.length : Int) (i : Int) c c.2.2.2 hc hcl c.2.2.2.length 0 j (by omega)
    rw [f_u27_4, decide_eq_true (by omega : (i : Int) < (a.length : Int)), cond_true, if_pos ⟨by omega, by omega⟩, Int.toNat_natCast, fam_bounds_s k _ hg, fam_bounds_v k _ hg, Option.isSome_some, if_pos rfl, drop_cons' a i T3.dflt (by omega), meetS_eq, List.any_cons]
    refine (h8.trans ?_)
    rw [List.drop_zero, wrapS i (by omega), ih (i + 1) j (by omega) (by omega), meetS_eq]
    by_cases h : (c.2.2.2.any (touch (a.getD i T3.dflt))) = true
    · rw [if_pos h, show (c.2.2.2.any fun y => touch (a.getD i T3.dflt) y) = true from h, Bool.true_or]
    · rw [if_neg h, show (c.2.2.2.any fun y => touch (a.getD i T3.dflt) y) = false from by simpa using h, Bool.false_or]
/-- a cut whose numbers do not overflow -/
structure Small (c : Ch) : Prop where
  l0 : 0 ≤ c.1
  w0 : 1 ≤ c.2.1
  r0 : c.1 + c.2.1 ≤ 12000
  chk : Chk c.2.2.2
theorem fam_overlap_s (k : Nat) (hk : 70000 ≤ k) (a b : Ch) (ha : Small a) (hb : Small b) : f_u27 k a b = some (ovlS a b) := by
  obtain ⟨a1, a2, a3, a4⟩ := ha
  obtain ⟨b1, b2, b3, b4⟩ := hb
  unfold f_u27 ovlS
  rw [wrap_id (i := a.1 + a.2.1) (by omega) (by omega), wrap_id (i := b.1 + b.2.1) (by omega) (by omega)]
  by_cases h1 : a.1 + a.2.1 ≤ b.1
  · rw [decide_eq_true h1, Bool.true_or, cond_true, decide_eq_false (by omega : ¬ b.1 < a.1 + a.2.1), Bool.and_false, Bool.false_and]
  · by_cases h2 : b.1 + b.2.1 ≤ a.1
    · rw [decide_eq_true h2, Bool.or_true, cond_true, decide_eq_false (by omega : ¬ a.1 < b.1 + b.2.1), Bool.false_and, Bool.false_and]
    · rw [decide_eq_false h1, decide_eq_false h2, Bool.or_false, cond_false, decide_eq_true (by omega : b.1 < a.1 + a.2.1), decide_eq_true (by omega : a.1 < b.1 + b.2.1), Bool.and_true, Bool.true_and]
      have h1 := a4.len
      exact fam_overlap_4 k a.2.2.2 a4.goods h1 b b4.goods b4.len a.2.2.2.length 0 k (by omega) (by omega)
theorem fam_overlap_v (k : Nat) (hk : 70000 ≤ k) (a b : Ch) (ha : Small a) (hb : Small b) : v_u27 k a b = ovlS a b := by
  unfold v_u27; rw [fam_overlap_s k hk a b ha hb]; rfl

theorem ref42_meet_5 (k : Nat) (a m : List Rn) (ha : goods a) (i : Nat) (hi : i < a.length) (hm : goods m) (hl : m.length ≤ 256) : ∀ (d q n : Nat), q + d = m.length →
    f_u71_5 k (n + d + 1) a m (i : Int) (q : Int) = if (m.drop q).any (touch (a.getD i T3.dflt)) = true then some true else f_u71_2 k n a m (IntKind.i64.wrap ((i : Int) + 1)) := by
  intro d
  have hx : good (a.getD i T3.dflt) := ha.mem _ (getD_mem' _ _ _ (by omega))
  induction d with
  | zero =>
    intro q n hq
    rw [f_u71_5, decide_eq_false (by omega : ¬ (q : Int) < (m.length : Int)), cond_false, List.drop_of_length_le (by omega), List.any_nil, if_neg (by decide)]
  | succ d ih =>
    intro q n hq
    have hg : good (m.getD q T3.dflt) := hm.mem _ (getD_mem' _ _ _ (by omega))
    rw [show n + (d + 1) + 1 = (n + d + 1) + 1 from rfl, f_u71_5, decide_eq_true (by omega : (q : Int) < (m.length : Int)), cond_true, Int.toNat_natCast, Int.toNat_natCast, ref42_ends_s k _ hx, ref42_ends_v k _ hx, ref42_ends_s k _ hg, ref42_ends_v k _ hg, if_pos ⟨by omega, by omega, rfl⟩, if_pos ⟨by omega, by omega, rfl⟩, drop_cons' m q T3.dflt (by omega), List.any_cons, wrapS q (by omega), ih (q + 1) n (by omega)]
    show (bif touch (a.getD i T3.dflt) (m.getD q T3.dflt) then _ else _) = _
    cases touch (a.getD i T3.dflt) (m.getD q T3.dflt)
    · rw [cond_false, Bool.false_or]
    · rw [cond_true, Bool.true_or, if_pos rfl]
set_option maxRecDepth 20000 in
theorem ref42_meet_2 (k : Nat) (a m : List Rn) (ha : goods a) (hl : a.length ≤ 256) (hm : goods m) (hml : m.length ≤ 256) : ∀ (d i j : Nat), i + d = a.length → d * 258 < j →
    f_u71_2 k j a m (i : Int) = some (meetS (a.drop i) m) := by
  intro d
  induction d with
  | zero =>
    intro i j hi hj
    obtain ⟨j, rfl⟩ : ∃ q, j = q + 1 := ⟨j - 1, by omega⟩
    rw [f_u71_2, decide_eq_false (by omega : ¬ (i : Int) < (a.length : Int)), cond_false, List.drop_of_length_le (by omega)]
    rfl
  | succ d ih =>
    intro i j hi hj
    obtain ⟨j, rfl⟩ : ∃ q, j = (q + m.length + 1) + 1 := ⟨j - m.length - 2, by omega⟩
    have h8 := ref42_meet_5 k a m ha i (by omega) hm hml m.length 0 j (by omega)
    rw [f_u71_2, decide_eq_true (by omega : (i : Int) < (a.length : Int)), cond_true, drop_cons' a i T3.dflt (by omega), meetS_eq, List.any_cons]
    refine (h8.trans ?_)
    rw [List.drop_zero, wrapS i (by omega), ih (i + 1) j (by omega) (by omega), meetS_eq]
    by_cases h : (m.any (touch (a.getD i T3.dflt))) = true
    · rw [if_pos h, show (m.any fun y => touch (a.getD i T3.dflt) y) = true from h, Bool.true_or]
    · rw [if_neg h, show (m.any fun y => touch (a.getD i T3.dflt) y) = false from by simpa using h, Bool.false_or]
theorem ref42_meet_s (k : Nat) (hk : 70000 ≤ k) (a b : List Rn) (ha : Chk a) (hb : Chk b) : f_u71 k a b = some (meetS a b) := by
  unfold f_u71
  have h1 := ha.len
  exact ref42_meet_2 k a b ha.goods h1 hb.goods hb.len a.length 0 k (by omega) (by omega)
theorem ref42_meet_v (k : Nat) (hk : 70000 ≤ k) (a b : List Rn) (ha : Chk a) (hb : Chk b) : v_u71 k a b = meetS a b := by
  unfold v_u71; rw [ref42_meet_s k hk a b ha hb]; rfl

/-! ### lengths -/
theorem iso_Length_s (k : Nat) (hk : 2100 ≤ k) (m : List Rn) (h : Chk m) : f_u36 k m = some (lenS m, 0) := by
  have h1 := h.len
  unfold f_u36
  rw [iso_Check_s k (by omega), iso_Check_v k (by omega), Option.isSome_some, if_pos rfl, chk_zero.2 h]
  show (if _ then _ else _) = _
  rw [iso_length_s k m h.goods (by omega) (by omega), iso_length_v k m h.goods (by omega) (by omega)]
  rfl
theorem iso_Length_v (k : Nat) (hk : 2100 ≤ k) (m : List Rn) (h : Chk m) : v_u36 k m = (lenS m, 0) := by
  unfold v_u36; rw [iso_Length_s k hk m h]; rfl

theorem ref42_Long_l (k : Nat) (m : List Rn) (hg : goods m) (hm : m.length ≤ 1000) : ∀ (j i : Nat) (n : Int), i ≤ m.length → m.length - i < j → 0 ≤ n → n ≤ (i : Int) * 17179869184 →
    f_u69_3 k j m n (i : Int) = some (n + lenS (m.drop i)) := by
  intro j
  induction j with
  | zero => intros; omega
  | succ j ih =>
    intro i n hi hj h0 h1
    rw [f_u69_3]
    by_cases h : i < m.length
    · have hgr : good (m.getD i T3.dflt) := hg.mem _ (getD_mem' _ _ _ (by omega))
      obtain ⟨g1, g2, g3, g4, _⟩ := hgr
      rw [decide_eq_true (by omega : (i : Int) < (m.length : Int)), cond_true, if_pos ⟨by omega, by omega⟩, Int.toNat_natCast, wrapS i (by omega), wrap_id (by omega) (by omega), ih (i + 1) _ (by omega) (by omega) (by omega) (by omega), drop_cons' m i T3.dflt h, lenS, Int.add_assoc]
    · rw [decide_eq_false (by omega : ¬ (i : Int) < (m.length : Int)), cond_false, List.drop_of_length_le (by omega), lenS, Int.add_zero]
theorem ref42_Long_s (k : Nat) (hk : 2100 ≤ k) (m : List Rn) (h : Chk m) : f_u69 k m = some (lenS m) := by
  have h1 := h.len
  unfold f_u69
  refine (ref42_Long_l k m h.goods (by omega) k 0 0 (by omega) (by omega) (by omega) (by omega)).trans ?_
  rw [List.drop_zero, Int.zero_add]
theorem ref42_Long_v (k : Nat) (hk : 2100 ≤ k) (m : List Rn) (h : Chk m) : v_u69 k m = lenS m := by
  unfold v_u69; rw [ref42_Long_s k hk m h]; rfl

/-! ### numbers of rolls -/
/-- the place of a number among rolls -/
def At (p : List Ro) (id : Int) (i : Option Int) : Prop := match look p id with
  | none => i = none
  | some r => ∃ q : Nat, i = some (q : Int) ∧ q < p.length ∧ ∀ d, p.getD q d = r
theorem At.none {p : List Ro} {id : Int} {i : Option Int} (h : At p id i) (e : look p id = .none) : i = .none := by
  unfold At at h; rw [e] at h; exact h
theorem At.some {p : List Ro} {id : Int} {i : Option Int} {r : Ro} (h : At p id i) (e : look p id = .some r) : ∃ q : Nat, i = .some (q : Int) ∧ q < p.length ∧ ∀ d, p.getD q d = r := by
  unfold At at h; rw [e] at h; exact h

theorem mget_mset (id v : Int) (x : Int) : ∀ M : List (Int × Int), mget I x (mset I id v M) = if x = id then some v else mget I x M
  | [] => by
    show (bif (x == id) then some v else none) = _
    by_cases h : x = id
    · rw [show (x == id) = true by simp [h], if_pos h]; rfl
    · rw [show (x == id) = false by simp [h], if_neg h]; rfl
  | p :: t => by
    unfold mset
    by_cases h : id = p.1
    · rw [show eqK I id p.1 = true from by show (id == p.1) = true; simp [h], cond_true]
      show (bif (x == id) then some v else mget I x t) = _
      by_cases h2 : x = id
      · simp [h2]
      · rw [if_neg h2, show (x == id) = false by simp [h2], cond_false, mget, show eqK I x p.1 = false from by show (x == p.1) = false; rw [← h]; simp [h2], cond_false]
    · rw [show eqK I id p.1 = false from by show (id == p.1) = false; simp [h], cond_false, mget, mget_mset id v x t]
      show (bif (x == p.1) then some p.2 else _) = if _ then _ else (bif (x == p.1) then some p.2 else _)
      by_cases h2 : x = id
      · rw [if_pos h2, if_pos h2, show (x == p.1) = false by rw [h2]; simp [h], cond_false]
      · rw [if_neg h2, if_neg h2]
/-- a register's map of numbers -/
def RegOk (M : List (Int × Int)) (p : List Ro) : Prop := ∀ id, At p id (mget I id M)
theorem regOk_nil : RegOk [] [] := fun id => by unfold At look; rfl
theorem regOk_old {M : List (Int × Int)} {p : List Ro} (h : RegOk M p) (r : Ro) (hr : (look p r.1).isSome = true) : RegOk M (p ++ [r]) := fun id => by
  have h1 := h id
  unfold At at *
  rw [look_append]
  cases e : look p id with
  | some q =>
    rw [e] at h1
    obtain ⟨i, h2, h3, h4⟩ := h1
    exact ⟨i, h2, by rw [List.length_append]; omega, fun d => by rw [getD_app _ _ _ _ h3]; exact h4 d⟩
  | none =>
    rw [e] at h1
    have : r.1 ≠ id := fun e2 => by rw [e2, e] at hr; cases hr
    rw [Option.none_or, show look [r] id = none by unfold look; simp [this]]
    exact h1
theorem regOk_new {M : List (Int × Int)} {p : List Ro} (h : RegOk M p) (r : Ro) (hr : look p r.1 = none) : RegOk (mset I r.1 (p.length : Int) M) (p ++ [r]) := fun id => by
  have h1 := h id
  rw [mget_mset]
  unfold At at *
  rw [look_append]
  by_cases hi : id = r.1
  · rw [if_pos hi, hi, hr, Option.none_or, show look [r] r.1 = some r by unfold look; simp]
    exact ⟨p.length, rfl, by simp, fun d => by simp⟩
  · rw [if_neg hi]
    cases e : look p id with
    | some q =>
      rw [e] at h1
      obtain ⟨i, h2, h3, h4⟩ := h1
      exact ⟨i, h2, by rw [List.length_append]; omega, fun d => by rw [getD_app _ _ _ _ h3]; exact h4 d⟩
    | none =>
      rw [e] at h1
      rw [Option.none_or, show look [r] id = none by unfold look; simp [Ne.symm hi]]
      exact h1

theorem ref42_Index_l (k : Nat) (p t : List Ro) (id : Int) (hp : p.length ≤ 100000) : ∀ (d i j : Nat), i + d = p.length → d < j → look (p.take i) id = none →
    ∃ o : Option Int, f_u68_2 k j (p ++ t) (p.length : Int) id (i : Int) = some (o.getD (-1)) ∧ At p id o := by
  intro d
  induction d with
  | zero =>
    intro i j hi hj hn
    obtain ⟨j, rfl⟩ : ∃ q, j = q + 1 := ⟨j - 1, by omega⟩
    rw [f_u68_2, decide_eq_false (by omega : ¬ (i : Int) < (p.length : Int)), cond_false]
    rw [List.take_of_length_le (by omega)] at hn
    exact ⟨none, rfl, by unfold At; rw [hn]⟩
  | succ d ih =>
    intro i j hi hj hn
    obtain ⟨j, rfl⟩ : ∃ q, j = q + 1 := ⟨j - 1, by omega⟩
    have hl : (p ++ t).length = p.length + t.length := List.length_append
    rw [f_u68_2, decide_eq_true (by omega : (i : Int) < (p.length : Int)), cond_true, if_pos ⟨by omega, by omega⟩, Int.toNat_natCast, getD_app _ _ _ _ (by omega)]
    have ht := take_snoc p i T5.dflt (by omega)
    by_cases h : (p.getD i T5.dflt).1 = id
    · rw [show ((p.getD i T5.dflt).fst == id) = true from beq_iff_eq.2 h, cond_true]
      refine ⟨some (i : Int), rfl, ?_⟩
      have e : look p id = some (p.getD i T5.dflt) := by
        have e2 : look (p.drop i) id = some (p.getD i T5.dflt) := by
          rw [drop_cons' p i T5.dflt (by omega)]
          unfold look
          rw [List.find?_cons_of_pos (by exact beq_iff_eq.2 h)]
        have e3 := look_append (p.take i) (p.drop i) id
        rw [List.take_append_drop, hn, Option.none_or, e2] at e3
        exact e3
      unfold At
      rw [e]
      exact ⟨i, rfl, by omega, fun d => getD_any _ _ _ _ (by omega)⟩
    · rw [show ((p.getD i T5.dflt).fst == id) = false from beq_false_of_ne h, cond_false, wrapS i (by omega)]
      refine ih (i + 1) j (by omega) (by omega) ?_
      rw [ht, look_append, hn, Option.none_or]
      unfold look
      simp only [List.find?_cons, List.find?_nil]
      rw [show ((p.getD i T5.dflt).1 == id) = false from beq_false_of_ne h]
theorem ref42_Index_s (k : Nat) (p t : List Ro) (id : Int) (hp : p.length ≤ 100000) (hk : p.length < k) : ∃ o : Option Int, f_u68 k (p ++ t) (p.length : Int) id = some (o.getD (-1)) ∧ v_u68 k (p ++ t) (p.length : Int) id = o.getD (-1) ∧ At p id o := by
  obtain ⟨o, h1, h2⟩ := ref42_Index_l k p t id hp p.length 0 k (by omega) (by omega) (by unfold look; rfl)
  exact ⟨o, h1, by unfold v_u68 f_u68; rw [show f_u68_2 k k (p ++ t) (p.length : Int) id 0 = _ from h1]; rfl, h2⟩
end Go.AM
namespace Go.AM
open Go Go.Proofs
noncomputable section
abbrev R_u29 : Type := Bool
def res_u29 (r : R_u29) : AV := .r (.v (.bool r))
def bo_u29 (g_0 : Int) (g_1 : Int) (g_2 : List (T5).T) (g_3 : List ((I).T × (I).T)) (id_ : Int) (r : R_u29) : List (Nat × Blk) := [(0, .var 135 [.r (.v (.int .i64 g_0)), .r (.v (.int .i64 g_1)), .r (.ro T5 g_2), .own 1 0]), (0, .map false I I g_3)]
def args_u29 (g_0 : Int) (g_1 : Int) (g_2 : List (T5).T) (g_3 : List ((I).T × (I).T)) (id_ : Int) : List AV := [.ptr 0 0 0, .r (.v (.int .i64 id_))]
def bin_u29 (g_0 : Int) (g_1 : Int) (g_2 : List (T5).T) (g_3 : List ((I).T × (I).T)) (id_ : Int) : List Blk := [.var 135 [.r (.v (.int .i64 g_0)), .r (.v (.int .i64 g_1)), .r (.ro T5 g_2), .own 1 0], .map false I I g_3]
abbrev C_u29 (g_0 : Int) (g_1 : Int) (g_2 : List (T5).T) (g_3 : List ((I).T × (I).T)) (id_ : Int) (r : R_u29) : Prop := CC Tryz.prog 72 (args_u29 g_0 g_1 g_2 g_3 id_) (bin_u29 g_0 g_1 g_2 g_3 id_) (res_u29 r) (bo_u29 g_0 g_1 g_2 g_3 id_ r)
def f_u29 (k : Nat) (g_0 : Int) (g_1 : Int) (g_2 : List (T5).T) (g_3 : List ((I).T × (I).T)) (id_ : Int) : Option R_u29 :=
  some ((mget I id_ g_3).isSome)
def v_u29 (k : Nat) (g_0 : Int) (g_1 : Int) (g_2 : List (T5).T) (g_3 : List ((I).T × (I).T)) (id_ : Int) : R_u29 := (f_u29 k g_0 g_1 g_2 g_3 id_).getD false
def ke_u29 (k : Nat) : Ke := (72, fun xs => match xs with
  | [.ptr _ _ _, _] => some [true, false]
  | _ => none, fun xs bs => match xs, bs with
  | [.ptr 0 0 0, .r (.v (.int .i64 id_))], [.var 135 [.r (.v (.int .i64 g_0)), .r (.v (.int .i64 g_1)), .r (.ro tg_2_ qg_2), .own 1 0], .map false kg_3_ tg_3_ qg_3] => (castL tg_2_ T5 qg_2).bind fun g_2 => (castM kg_3_ tg_3_ I I qg_3).bind fun g_3 => some (.one (res_u29 (v_u29 k g_0 g_1 g_2 g_3 id_), bo_u29 g_0 g_1 g_2 g_3 id_ (v_u29 k g_0 g_1 g_2 g_3 id_)))
  | _, _ => none)
theorem of_u29 (k : Nat) (g_0 : Int) (g_1 : Int) (g_2 : List (T5).T) (g_3 : List ((I).T × (I).T)) (id_ : Int) (r : R_u29) (h : f_u29 k g_0 g_1 g_2 g_3 id_ = some r) : C_u29 g_0 g_1 g_2 g_3 id_ r := by
  refine CC.of (fn := Tryz.f72) (by kernel_rfl) (by kernel_rfl) (by kernel_rfl) (by kernel_rfl) ?_
  unfold f_u29 at h
  exact go (mkK []) [] [] [.autoB [4] true []] (gL h) (by kernel_rfl)
theorem cc_u29 {k : Nat} {g_0 : Int} {g_1 : Int} {g_2 : List (T5).T} {g_3 : List ((I).T × (I).T)} {id_ : Int} (h : (f_u29 k g_0 g_1 g_2 g_3 id_).isSome = true) : C_u29 g_0 g_1 g_2 g_3 id_ (v_u29 k g_0 g_1 g_2 g_3 id_) := ccG (Φ := C_u29 g_0 g_1 g_2 g_3 id_) h (of_u29 k g_0 g_1 g_2 g_3 id_)
abbrev R_u30 : Type := Int × Int
def res_u30 (r : R_u30) : AV := .tup [.r (.v (.int .i64 r.1)), .r (.v (.int .i64 r.2))]
def bo_u30 (g_0 : Int) (g_1 : Int) (g_2 : List (T5).T) (g_3 : List ((I).T × (I).T)) (id_ : Int) (r : R_u30) : List (Nat × Blk) := [(0, .var 135 [.r (.v (.int .i64 g_0)), .r (.v (.int .i64 g_1)), .r (.ro T5 g_2), .own 1 0]), (0, .map false I I g_3)]
def args_u30 (g_0 : Int) (g_1 : Int) (g_2 : List (T5).T) (g_3 : List ((I).T × (I).T)) (id_ : Int) : List AV := [.ptr 0 0 0, .r (.v (.int .i64 id_))]
def bin_u30 (g_0 : Int) (g_1 : Int) (g_2 : List (T5).T) (g_3 : List ((I).T × (I).T)) (id_ : Int) : List Blk := [.var 135 [.r (.v (.int .i64 g_0)), .r (.v (.int .i64 g_1)), .r (.ro T5 g_2), .own 1 0], .map false I I g_3]
abbrev C_u30 (g_0 : Int) (g_1 : Int) (g_2 : List (T5).T) (g_3 : List ((I).T × (I).T)) (id_ : Int) (r : R_u30) : Prop := CC Tryz.prog 118 (args_u30 g_0 g_1 g_2 g_3 id_) (bin_u30 g_0 g_1 g_2 g_3 id_) (res_u30 r) (bo_u30 g_0 g_1 g_2 g_3 id_ r)
def f_u30 (k : Nat) (g_0 : Int) (g_1 : Int) (g_2 : List (T5).T) (g_3 : List ((I).T × (I).T)) (id_ : Int) : Option R_u30 :=
  bif (id_ == (0 : Int)) then
  some ((g_0, g_1))
  else
  if ((0 : Int) ≤ (mget I id_ g_3).getD (0 : Int)) ∧ ((mget I id_ g_3).getD (0 : Int) < (↑g_2.length : Int)) then
  if ((f_u36 k (g_2.getD (Int.toNat ((mget I id_ g_3).getD 0)) T5.dflt).2.2.2.2.2).isSome = true) then
  some (((g_2.getD (Int.toNat ((mget I id_ g_3).getD 0)) T5.dflt).2.2.2.1, (v_u36 k (g_2.getD (Int.toNat ((mget I id_ g_3).getD 0)) T5.dflt).2.2.2.2.2).1))
  else none
  else none
def v_u30 (k : Nat) (g_0 : Int) (g_1 : Int) (g_2 : List (T5).T) (g_3 : List ((I).T × (I).T)) (id_ : Int) : R_u30 := (f_u30 k g_0 g_1 g_2 g_3 id_).getD (0, 0)
def ke_u30 (k : Nat) : Ke := (118, fun xs => match xs with
  | [.ptr _ _ _, _] => some [true, false]
  | _ => none, fun xs bs => match xs, bs with
  | [.ptr 0 0 0, .r (.v (.int .i64 id_))], [.var 135 [.r (.v (.int .i64 g_0)), .r (.v (.int .i64 g_1)), .r (.ro tg_2_ qg_2), .own 1 0], .map false kg_3_ tg_3_ qg_3] => (castL tg_2_ T5 qg_2).bind fun g_2 => (castM kg_3_ tg_3_ I I qg_3).bind fun g_3 => some (.one (res_u30 (v_u30 k g_0 g_1 g_2 g_3 id_), bo_u30 g_0 g_1 g_2 g_3 id_ (v_u30 k g_0 g_1 g_2 g_3 id_)))
  | _, _ => none)
theorem of_u30 (k : Nat) (g_0 : Int) (g_1 : Int) (g_2 : List (T5).T) (g_3 : List ((I).T × (I).T)) (id_ : Int) (r : R_u30) (h : f_u30 k g_0 g_1 g_2 g_3 id_ = some r) : C_u30 g_0 g_1 g_2 g_3 id_ r := by
  refine CC.of (fn := Tryz.f118) (by kernel_rfl) (by kernel_rfl) (by kernel_rfl) (by kernel_rfl) ?_
  unfold f_u30 at h
  exact go (mkK [ke_u36 k]) [] [] [.autoB [4, 5] true []] (gT h (fun c h => gL h) fun c h => gN2 h fun h => gN1 h (fun q => cc_u36 q) fun h => gL h) (by kernel_rfl)
theorem cc_u30 {k : Nat} {g_0 : Int} {g_1 : Int} {g_2 : List (T5).T} {g_3 : List ((I).T × (I).T)} {id_ : Int} (h : (f_u30 k g_0 g_1 g_2 g_3 id_).isSome = true) : C_u30 g_0 g_1 g_2 g_3 id_ (v_u30 k g_0 g_1 g_2 g_3 id_) := ccG (Φ := C_u30 g_0 g_1 g_2 g_3 id_) h (of_u30 k g_0 g_1 g_2 g_3 id_)
abbrev R_u28 : Type := Int
def res_u28 (r : R_u28) : AV := .r (.v (.int .i64 r))
def bo_u28 (g_0 : Int) (g_1 : Int) (g_2 : List (T5).T) (g_3 : List ((I).T × (I).T)) (r_ : T5.T) (r : R_u28) : List (Nat × Blk) := [(0, .var 135 [.r (.v (.int .i64 g_0)), .r (.v (.int .i64 g_1)), .r (.ro T5 g_2), .own 1 0]), (0, .map false I I g_3)]
def args_u28 (g_0 : Int) (g_1 : Int) (g_2 : List (T5).T) (g_3 : List ((I).T × (I).T)) (r_ : T5.T) : List AV := [.ptr 0 0 0, .agg (rvs (enc T5 r_))]
def bin_u28 (g_0 : Int) (g_1 : Int) (g_2 : List (T5).T) (g_3 : List ((I).T × (I).T)) (r_ : T5.T) : List Blk := [.var 135 [.r (.v (.int .i64 g_0)), .r (.v (.int .i64 g_1)), .r (.ro T5 g_2), .own 1 0], .map false I I g_3]
abbrev C_u28 (g_0 : Int) (g_1 : Int) (g_2 : List (T5).T) (g_3 : List ((I).T × (I).T)) (r_ : T5.T) (r : R_u28) : Prop := CC Tryz.prog 71 (args_u28 g_0 g_1 g_2 g_3 r_) (bin_u28 g_0 g_1 g_2 g_3 r_) (res_u28 r) (bo_u28 g_0 g_1 g_2 g_3 r_ r)
def st_u28_17 (g_0 : Int) (g_1 : Int) (g_2 : List (T5).T) (g_3 : List ((I).T × (I).T)) (r_ : T5.T) (y0 : Int) (y1 : List (T3).T) (y2 : Int) (y3 : Int) : St := ⟨mkS 93 [(6, .r (.v (.int .i64 y0))), (78, .r (.ro T3 y1)), (79, .r (.v (.int .i64 y2))), (80, .r (.v (.int .i64 y3)))], [(0, 0, .var 135 [.r (.v (.int .i64 g_0)), .r (.v (.int .i64 g_1)), .r (.ro T5 g_2), .own 1 0]), (1, 0, .map false I I g_3)]⟩
def f_u28_17 (k : Nat) (g_0 : Int) (g_1 : Int) (g_2 : List (T5).T) (g_3 : List ((I).T × (I).T)) (r_ : T5.T) : Nat → Int → List (T3).T → Int → Int → Option R_u28
  | 0, _, _, _, _ => none
  | j + 1, y0, y1, y2, y3 =>
  bif (decide (y3 < y2)) then
  if (0 ≤ y3) ∧ (y3 < (↑y1.length : Int)) then
  if ((f_u25 k (y1.getD y3.toNat T3.dflt)).isSome = true) then
  bif (decide ((v_u25 k (y1.getD y3.toNat T3.dflt)).2 ≥ y0)) then
  some 21
  else
  f_u28_17 k g_0 g_1 g_2 g_3 r_ j y0 y1 y2 ((IntKind.i64.wrap (y3 + 1)))
  else none
  else none
  else
  some 0
def f_u28 (k : Nat) (g_0 : Int) (g_1 : Int) (g_2 : List (T5).T) (g_3 : List ((I).T × (I).T)) (r_ : T5.T) : Option R_u28 :=
  bif (decide (r_.1 < (1 : Int)) || decide (r_.1 > (1000000 : Int))) then
  some 1
  else
  bif (r_.2.1 != (0 : Int)) then
  if ((r_.2.1 != (0 : Int)) = true) ∧ ((f_u29 k g_0 g_1 g_2 g_3 r_.2.1).isSome = true) then
  bif (true && (!v_u29 k g_0 g_1 g_2 g_3 r_.2.1)) then
  some 7
  else
  if ((f_u30 k g_0 g_1 g_2 g_3 r_.2.1).isSome = true) then
  bif (decide (r_.2.2.1 < (0 : Int)) || decide (r_.2.2.2.1 < (1 : Int)) || decide (r_.2.2.1 > (v_u30 k g_0 g_1 g_2 g_3 r_.2.1).1) || decide (r_.2.2.2.1 > IntKind.i64.wrap ((v_u30 k g_0 g_1 g_2 g_3 r_.2.1).1 - r_.2.2.1))) then
  some 20
  else
  if ((f_u34 k r_.2.2.2.2.2).isSome = true) then
  bif (v_u34 k r_.2.2.2.2.2 != (0 : Int)) then
  some (v_u34 k r_.2.2.2.2.2)
  else
  bif ((↑ (List.length r_.2.2.2.2.2) : Int) == (0 : Int)) then
  some 10
  else
  if ((f_u37 k r_.2.2.2.2.2).isSome = true) then
  bif (!v_u37 k r_.2.2.2.2.2) then
  some 12
  else
  f_u28_17 k g_0 g_1 g_2 g_3 r_ k ((v_u30 k g_0 g_1 g_2 g_3 r_.2.1).2) r_.2.2.2.2.2 ((↑ (List.length r_.2.2.2.2.2) : Int)) 0
  else none
  else none
  else none
  else none
  else
  if ((r_.2.1 != (0 : Int)) = false) then
  if ((f_u30 k g_0 g_1 g_2 g_3 r_.2.1).isSome = true) then
  bif (decide (r_.2.2.1 < (0 : Int)) || decide (r_.2.2.2.1 < (1 : Int)) || decide (r_.2.2.1 > (v_u30 k g_0 g_1 g_2 g_3 r_.2.1).1) || decide (r_.2.2.2.1 > IntKind.i64.wrap ((v_u30 k g_0 g_1 g_2 g_3 r_.2.1).1 - r_.2.2.1))) then
  some 20
  else
  if ((f_u34 k r_.2.2.2.2.2).isSome = true) then
  bif (v_u34 k r_.2.2.2.2.2 != (0 : Int)) then
  some (v_u34 k r_.2.2.2.2.2)
  else
  bif ((↑ (List.length r_.2.2.2.2.2) : Int) == (0 : Int)) then
  some 10
  else
  if ((f_u37 k r_.2.2.2.2.2).isSome = true) then
  bif (!v_u37 k r_.2.2.2.2.2) then
  some 12
  else
  f_u28_17 k g_0 g_1 g_2 g_3 r_ k ((v_u30 k g_0 g_1 g_2 g_3 r_.2.1).2) r_.2.2.2.2.2 ((↑ (List.length r_.2.2.2.2.2) : Int)) 0
  else none
  else none
  else none
  else none
def v_u28 (k : Nat) (g_0 : Int) (g_1 : Int) (g_2 : List (T5).T) (g_3 : List ((I).T × (I).T)) (r_ : T5.T) : R_u28 := (f_u28 k g_0 g_1 g_2 g_3 r_).getD 0
def ke_u28 (k : Nat) : Ke := (71, fun xs => match xs with
  | [.ptr _ _ _, _] => some [true, false]
  | _ => none, fun xs bs => match xs, bs with
  | [.ptr 0 0 0, .agg qr_], [.var 135 [.r (.v (.int .i64 g_0)), .r (.v (.int .i64 g_1)), .r (.ro tg_2_ qg_2), .own 1 0], .map false kg_3_ tg_3_ qg_3] => (decS [] T5 qr_).bind fun r_ => (castL tg_2_ T5 qg_2).bind fun g_2 => (castM kg_3_ tg_3_ I I qg_3).bind fun g_3 => some (.one (res_u28 (v_u28 k g_0 g_1 g_2 g_3 r_), bo_u28 g_0 g_1 g_2 g_3 r_ (v_u28 k g_0 g_1 g_2 g_3 r_)))
  | _, _ => none)
def K_u28 (k : Nat) : Calld := mkK [ke_u29 k, ke_u34 k, ke_u30 k, ke_u37 k, ke_u25 k]
def cs_u28 : List (Nat × List Cmd) := [(17, [.autoB [6, 78, 79, 80] false []])]
abbrev E_u28 (g_0 : Int) (g_1 : Int) (g_2 : List (T5).T) (g_3 : List ((I).T × (I).T)) (r_ : T5.T) (todo : List Item) (st : St) (o : Option R_u28) : Prop := ∀ r, o = some r → Ev Tryz.prog Tryz.f71 2 todo st (res_u28 r) (bo_u28 g_0 g_1 g_2 g_3 r_ r)
theorem ev_u28 (k : Nat) (g_0 : Int) (g_1 : Int) (g_2 : List (T5).T) (g_3 : List ((I).T × (I).T)) (r_ : T5.T) : ∀ j, (∀ (y0 : Int) (y1 : List (T3).T) (y2 : Int) (y3 : Int), E_u28 g_0 g_1 g_2 g_3 r_ (placeAt Tryz.f71 17) (st_u28_17 g_0 g_1 g_2 g_3 r_ y0 y1 y2 y3) (f_u28_17 k g_0 g_1 g_2 g_3 r_ j y0 y1 y2 y3))
  | 0 => fun _ _ _ _ _ h => (nomatch h)
  | j + 1 => by
    have ih := @ev_u28 k g_0 g_1 g_2 g_3 r_ j
    · intro y0 y1 y2 y3 r h
      rw [f_u28_17] at h
      exact go (K_u28 k) [] cs_u28 [.autoB [4] true []] (gT h (fun c h => gN2 h fun h => gN1 h (fun q => cc_u25 q) fun h => gT h (fun c h => gL h) fun c h => gC h 17 (ih _ _ _ _ _)) fun c h => gL h) (by kernel_rfl)
theorem of_u28 (k : Nat) (g_0 : Int) (g_1 : Int) (g_2 : List (T5).T) (g_3 : List ((I).T × (I).T)) (r_ : T5.T) (r : R_u28) (h : f_u28 k g_0 g_1 g_2 g_3 r_ = some r) : C_u28 g_0 g_1 g_2 g_3 r_ r := by
  refine CC.of (fn := Tryz.f71) (by kernel_rfl) (by kernel_rfl) (by kernel_rfl) (by kernel_rfl) ?_
  unfold f_u28 at h
  exact go (K_u28 k) [] cs_u28 [.autoB [4] true []] (gT h (fun c h => gL h) fun c h => gT h (fun c h => gN h (fun q => conjC q.1 (conjC (cc_u29 q.2) conj0)) fun h => gT h (fun c h => gL h) fun c h => gN1 h (fun q => cc_u30 q) fun h => gT h (fun c h => gL h) fun c h => gN1 h (fun q => cc_u34 q) fun h => gT h (fun c h => gL h) fun c h => gT h (fun c h => gL h) fun c h => gN1 h (fun q => cc_u37 q) fun h => gT h (fun c h => gL h) fun c h => gC h 17 ((ev_u28 k g_0 g_1 g_2 g_3 r_ k) _ _ _ _ _)) fun c h => gN1 h id fun h => gU2 h (.leaf (.r (.v (.int .i64 7))) [(0, .var 135 [.r (.v (.int .i64 g_0)), .r (.v (.int .i64 g_1)), .r (.ro T5 g_2), .own 1 0]), (0, .map false I I g_3)]) fun h => gN1 h (fun q => cc_u30 q) fun h => gT h (fun c h => gL h) fun c h => gN1 h (fun q => cc_u34 q) fun h => gT h (fun c h => gL h) fun c h => gT h (fun c h => gL h) fun c h => gN1 h (fun q => cc_u37 q) fun h => gT h (fun c h => gL h) fun c h => gC h 17 ((ev_u28 k g_0 g_1 g_2 g_3 r_ k) _ _ _ _ _)) (by kernel_rfl)
theorem cc_u28 {k : Nat} {g_0 : Int} {g_1 : Int} {g_2 : List (T5).T} {g_3 : List ((I).T × (I).T)} {r_ : T5.T} (h : (f_u28 k g_0 g_1 g_2 g_3 r_).isSome = true) : C_u28 g_0 g_1 g_2 g_3 r_ (v_u28 k g_0 g_1 g_2 g_3 r_) := ccG (Φ := C_u28 g_0 g_1 g_2 g_3 r_) h (of_u28 k g_0 g_1 g_2 g_3 r_)
abbrev RA_u26 : Type := Int
def resA_u26 (r : RA_u26) : AV := .tup [.r (.v (Value.pointer none)), .r (.v (.int .i64 r))]
def boA_u26 (l_ : List (T5).T) (web_ : T19.T) (r : RA_u26) : List (Nat × Blk) := []
abbrev RB_u26 : Type := Int × Int × Int × List (T5).T × (List ((I).T × (I).T))
def resB_u26 (r : RB_u26) : AV := .tup [.ptr 0 0 0, .r (.v (.int .i64 r.1))]
def boB_u26 (l_ : List (T5).T) (web_ : T19.T) (r : RB_u26) : List (Nat × Blk) := [(0, .var 135 [.r (.v (.int .i64 r.2.1)), .r (.v (.int .i64 r.2.2.1)), .r (.ro T5 r.2.2.2.1), .own 1 0]), (0, .map false I I r.2.2.2.2)]
abbrev R_u26 : Type := RA_u26 ⊕ RB_u26
def res_u26 (r : R_u26) : AV := match r with
  | .inl a => resA_u26 a
  | .inr a => resB_u26 a
def bo_u26 (l_ : List (T5).T) (web_ : T19.T) (r : R_u26) : List (Nat × Blk) := match r with
  | .inl a => boA_u26 l_ web_ a
  | .inr a => boB_u26 l_ web_ a
def args_u26 (l_ : List (T5).T) (web_ : T19.T) : List AV := [.r (.ro T5 l_), .agg (rvs (enc T19 web_))]
def bin_u26 (l_ : List (T5).T) (web_ : T19.T) : List Blk := []
abbrev C_u26 (l_ : List (T5).T) (web_ : T19.T) (r : R_u26) : Prop := CC Tryz.prog 31 (args_u26 l_ web_) (bin_u26 l_ web_) (res_u26 r) (bo_u26 l_ web_ r)
abbrev CA_u26 (l_ : List (T5).T) (web_ : T19.T) (r : RA_u26) : Prop := CC Tryz.prog 31 (args_u26 l_ web_) (bin_u26 l_ web_) (resA_u26 r) (boA_u26 l_ web_ r)
abbrev CB_u26 (l_ : List (T5).T) (web_ : T19.T) (r : RB_u26) : Prop := CC Tryz.prog 31 (args_u26 l_ web_) (bin_u26 l_ web_) (resB_u26 r) (boB_u26 l_ web_ r)
def st_u26_8 (y0 : List (T5).T) (y1 : Bool) (y2 : List (T5).T) (y3 : Int) (y4 : Int) (y5 : Int) (y6 : Int) (y7 : List (T5).T) (y8 : List ((I).T × (I).T)) : St := ⟨mkS 97 [(0, .r (.ro T5 y0)), (6, .ptr 1000000 0 0), (7, .r (.v (.bool y1))), (41, .r (.ro T5 y2)), (42, .r (.v (.int .i64 y3))), (43, .r (.v (.int .i64 y4)))], [(1000000, 0, .var 135 [.r (.v (.int .i64 y5)), .r (.v (.int .i64 y6)), .r (.ro T5 y7), .own 1000001 0]), (1000001, 0, .map false I I y8)]⟩
def st_u26_20 (y0 : List (T5).T) (y1 : List (T5).T) (y2 : Int) (y3 : Int) (y4 : Int) (y5 : Int) (y6 : List (T5).T) (y7 : List ((I).T × (I).T)) : St := ⟨mkS 97 [(0, .r (.ro T5 y0)), (6, .ptr 1000000 0 0), (67, .r (.ro T5 y1)), (68, .r (.v (.int .i64 y2))), (69, .r (.v (.int .i64 y3)))], [(1000000, 0, .var 135 [.r (.v (.int .i64 y4)), .r (.v (.int .i64 y5)), .r (.ro T5 y6), .own 1000001 0]), (1000001, 0, .map false I I y7)]⟩
def st_u26_23 (y0 : List (T5).T) (y1 : List (T5).T) (y2 : Int) (y3 : Int) (y4 : List (T5).T) (y5 : Int) (y6 : Int) (y7 : Int) (y8 : Int) (y9 : List (T5).T) (y10 : List ((I).T × (I).T)) (y11 : T5.T) : St := ⟨mkS 97 [(0, .r (.ro T5 y0)), (6, .ptr 1000000 0 0), (12, .ptr 1000002 0 0), (67, .r (.ro T5 y1)), (68, .r (.v (.int .i64 y2))), (69, .r (.v (.int .i64 y3))), (76, .r (.ro T5 y4)), (77, .r (.v (.int .i64 y5))), (78, .r (.v (.int .i64 y6)))], [(1000000, 0, .var 135 [.r (.v (.int .i64 y7)), .r (.v (.int .i64 y8)), .r (.ro T5 y9), .own 1000001 0]), (1000001, 0, .map false I I y10), (1000002, 0, .var 47 (rvs (enc T5 y11)))]⟩
mutual
def f_u26_8 (k : Nat) : Nat → List (T5).T → Bool → List (T5).T → Int → Int → Int → Int → List (T5).T → (List ((I).T × (I).T)) → Option R_u26
  | 0, _, _, _, _, _, _, _, _, _ => none
  | j + 1, y0, y1, y2, y3, y4, y5, y6, y7, y8 =>
  bif (decide (y4 < y3)) then
  if (0 ≤ y4) ∧ (y4 < (↑y2.length : Int)) then
  if ((f_u28 k y5 y6 y7 y8 (y2.getD y4.toNat T5.dflt)).isSome = true) then
  bif (v_u28 k y5 y6 y7 y8 (y2.getD y4.toNat T5.dflt) != (0 : Int)) then
  some ((.inl (v_u28 k y5 y6 y7 y8 (y2.getD y4.toNat T5.dflt))))
  else
  if ((f_u29 k y5 y6 y7 y8 (y2.getD y4.toNat T5.dflt).1).isSome = true) then
  bif (v_u29 k y5 y6 y7 y8 (y2.getD y4.toNat T5.dflt).1) then
  f_u26_8 k j y0 true y2 y3 ((IntKind.i64.wrap (y4 + 1))) y5 y6 y7 y8
  else
  f_u26_8 k j y0 y1 y2 y3 ((IntKind.i64.wrap (y4 + 1))) y5 y6 y7 ((mset I (y2.getD y4.toNat T5.dflt).1 y4 y8))
  else none
  else none
  else none
  else
  bif y1 then
  some ((.inl 6))
  else
  f_u26_20 k j y0 y0 ((↑y0.length : Int)) 0 y5 y6 y7 y8
def f_u26_20 (k : Nat) : Nat → List (T5).T → List (T5).T → Int → Int → Int → Int → List (T5).T → (List ((I).T × (I).T)) → Option R_u26
  | 0, _, _, _, _, _, _, _, _ => none
  | j + 1, y0, y1, y2, y3, y4, y5, y6, y7 =>
  bif (decide (y3 < y2)) then
  if (0 ≤ y3) ∧ (y3 < (↑y1.length : Int)) then
  if ((0 : Int) ≤ (0 : Int)) ∧ (0 ≤ y3) ∧ (y3 ≤ (↑y0.length : Int)) then
  f_u26_23 k j y0 y1 y2 y3 ((List.take (y3.toNat - Int.toNat 0) (List.drop (Int.toNat 0) y0))) ((↑ (List.take (y3.toNat - Int.toNat 0) (List.drop (Int.toNat 0) y0)).length : Int)) 0 y4 y5 y6 y7 ((y1.getD y3.toNat T5.dflt))
  else none
  else none
  else
  some ((.inr ((0, y4, y5, y6, y7))))
def f_u26_23 (k : Nat) : Nat → List (T5).T → List (T5).T → Int → Int → List (T5).T → Int → Int → Int → Int → List (T5).T → (List ((I).T × (I).T)) → T5.T → Option R_u26
  | 0, _, _, _, _, _, _, _, _, _, _, _, _ => none
  | j + 1, y0, y1, y2, y3, y4, y5, y6, y7, y8, y9, y10, y11 =>
  bif (decide (y6 < y5)) then
  if (0 ≤ y6) ∧ (y6 < (↑y4.length : Int)) then
  bif (y11.2.1 == (y4.getD y6.toNat T5.dflt).2.1) then
  if ((y11.2.1 == (y4.getD y6.toNat T5.dflt).2.1) = true) ∧ ((f_u27 k y11.2.2 (y4.getD y6.toNat T5.dflt).2.2).isSome = true) then
  bif (true && v_u27 k y11.2.2 (y4.getD y6.toNat T5.dflt).2.2) then
  some ((.inl 12))
  else
  f_u26_23 k j y0 y1 y2 y3 y4 y5 ((IntKind.i64.wrap (y6 + 1))) y7 y8 y9 y10 y11
  else none
  else
  if ((y11.2.1 == (y4.getD y6.toNat T5.dflt).2.1) = false) then
  f_u26_23 k j y0 y1 y2 y3 y4 y5 ((IntKind.i64.wrap (y6 + 1))) y7 y8 y9 y10 y11
  else none
  else none
  else
  f_u26_20 k j y0 y1 y2 ((IntKind.i64.wrap (y3 + 1))) y7 y8 y9 y10
end
def f_u26 (k : Nat) (l_ : List (T5).T) (web_ : T19.T) : Option R_u26 :=
  bif (decide (web_.1 < (1 : Int)) || decide (web_.1 > (12000 : Int)) || decide (web_.2 < (0 : Int)) || decide (web_.2 > (17179869184 : Int))) then
  some ((.inl 1))
  else
  bif (decide ((↑l_.length : Int) > (512 : Int))) then
  some ((.inl 8))
  else
  f_u26_8 k k l_ false l_ ((↑l_.length : Int)) 0 web_.1 web_.2 l_ ([])
def v_u26 (k : Nat) (l_ : List (T5).T) (web_ : T19.T) : R_u26 := (f_u26 k l_ web_).getD (.inl 0)
def vA_u26 (k : Nat) (l_ : List (T5).T) (web_ : T19.T) : RA_u26 := lft 0 (v_u26 k l_ web_)
def vB_u26 (k : Nat) (l_ : List (T5).T) (web_ : T19.T) : RB_u26 := rgt ((0, 0, 0, [], [])) (v_u26 k l_ web_)
def ke_u26 (k : Nat) : Ke := (31, fun xs => match xs with
  | [_, _] => some [false, false]
  | _ => none, fun xs bs => match xs, bs with
  | [.r (.ro tl__ ql_), .agg qweb_], [] => (castL tl__ T5 ql_).bind fun l_ => (decS [] T19 qweb_).bind fun web_ => some (.two (v_u26 k l_ web_).isLeft (resA_u26 (vA_u26 k l_ web_), boA_u26 l_ web_ (vA_u26 k l_ web_)) (resB_u26 (vB_u26 k l_ web_), boB_u26 l_ web_ (vB_u26 k l_ web_)))
  | _, _ => none)
def K_u26 (k : Nat) : Calld := mkK [ke_u29 k, ke_u28 k, ke_u27 k]
def cs_u26 : List (Nat × List Cmd) := [(8, [.autoB [0, 6, 7, 41, 42, 43] false []]), (20, [.autoB [0, 6, 67, 68, 69] false []]), (23, [.autoB [0, 6, 12, 67, 68, 69, 76, 77, 78] false []])]
abbrev E_u26 (l_ : List (T5).T) (web_ : T19.T) (todo : List Item) (st : St) (o : Option R_u26) : Prop := ∀ r, o = some r → Ev Tryz.prog Tryz.f31 0 todo st (res_u26 r) (bo_u26 l_ web_ r)
theorem ev_u26 (k : Nat) (l_ : List (T5).T) (web_ : T19.T) : ∀ j, (∀ (y0 : List (T5).T) (y1 : Bool) (y2 : List (T5).T) (y3 : Int) (y4 : Int) (y5 : Int) (y6 : Int) (y7 : List (T5).T) (y8 : List ((I).T × (I).T)), E_u26 l_ web_ (placeAt Tryz.f31 8) (st_u26_8 y0 y1 y2 y3 y4 y5 y6 y7 y8) (f_u26_8 k j y0 y1 y2 y3 y4 y5 y6 y7 y8)) ∧ (∀ (y0 : List (T5).T) (y1 : List (T5).T) (y2 : Int) (y3 : Int) (y4 : Int) (y5 : Int) (y6 : List (T5).T) (y7 : List ((I).T × (I).T)), E_u26 l_ web_ (placeAt Tryz.f31 20) (st_u26_20 y0 y1 y2 y3 y4 y5 y6 y7) (f_u26_20 k j y0 y1 y2 y3 y4 y5 y6 y7)) ∧ (∀ (y0 : List (T5).T) (y1 : List (T5).T) (y2 : Int) (y3 : Int) (y4 : List (T5).T) (y5 : Int) (y6 : Int) (y7 : Int) (y8 : Int) (y9 : List (T5).T) (y10 : List ((I).T × (I).T)) (y11 : T5.T), E_u26 l_ web_ (placeAt Tryz.f31 23) (st_u26_23 y0 y1 y2 y3 y4 y5 y6 y7 y8 y9 y10 y11) (f_u26_23 k j y0 y1 y2 y3 y4 y5 y6 y7 y8 y9 y10 y11))
  | 0 => ⟨fun _ _ _ _ _ _ _ _ _ _ h => (nomatch h), fun _ _ _ _ _ _ _ _ _ h => (nomatch h), fun _ _ _ _ _ _ _ _ _ _ _ _ _ h => (nomatch h)⟩
  | j + 1 => by
    have ih := @ev_u26 k l_ web_ j
    refine ⟨?_, ?_, ?_⟩
    · intro y0 y1 y2 y3 y4 y5 y6 y7 y8 r h
      rw [f_u26_8] at h
      exact go (K_u26 k) [] cs_u26 [.autoB [4, 5] true []] (gT h (fun c h => gN2 h fun h => gN1 h (fun q => cc_u28 q) fun h => gT h (fun c h => gL h) fun c h => gN1 h (fun q => cc_u29 q) fun h => gT h (fun c h => gC h 8 (ih.1 _ _ _ _ _ _ _ _ _ _)) fun c h => gC h 8 (ih.1 _ _ _ _ _ _ _ _ _ _)) fun c h => gT h (fun c h => gL h) fun c h => gC h 20 (ih.2.1 _ _ _ _ _ _ _ _ _)) (by kernel_rfl)
    · intro y0 y1 y2 y3 y4 y5 y6 y7 r h
      rw [f_u26_20] at h
      exact go (K_u26 k) [] cs_u26 [.autoB [4, 5] true []] (gT h (fun c h => gN2 h fun h => gN h (fun q => conjC q.1 (conjC q.2.1 (conjC q.2.2 conj0))) fun h => gC h 23 (ih.2.2 _ _ _ _ _ _ _ _ _ _ _ _ _)) fun c h => gL h) (by kernel_rfl)
    · intro y0 y1 y2 y3 y4 y5 y6 y7 y8 y9 y10 y11 r h
      rw [f_u26_23] at h
      exact go (K_u26 k) [] cs_u26 [.autoB [4, 5] true []] (gT h (fun c h => gN2 h fun h => gT h (fun c h => gN h (fun q => conjC q.1 (conjC (cc_u27 q.2) conj0)) fun h => gT h (fun c h => gL h) fun c h => gC h 23 (ih.2.2 _ _ _ _ _ _ _ _ _ _ _ _ _)) fun c h => gN1 h id fun h => gU2 h (.leaf (.tup [.r (.v (Value.pointer none)), .r (.v (.int .i64 12))]) []) fun h => gC h 23 (ih.2.2 _ _ _ _ _ _ _ _ _ _ _ _ _)) fun c h => gC h 20 (ih.2.1 _ _ _ _ _ _ _ _ _)) (by kernel_rfl)
theorem of_u26 (k : Nat) (l_ : List (T5).T) (web_ : T19.T) (r : R_u26) (h : f_u26 k l_ web_ = some r) : C_u26 l_ web_ r := by
  refine CC.of (fn := Tryz.f31) (by kernel_rfl) (by kernel_rfl) (by kernel_rfl) (by kernel_rfl) ?_
  unfold f_u26 at h
  exact go (K_u26 k) [] cs_u26 [.autoB [4, 5] true []] (gT h (fun c h => gL h) fun c h => gT h (fun c h => gL h) fun c h => gC h 8 ((ev_u26 k l_ web_ k).1 _ _ _ _ _ _ _ _ _ _)) (by kernel_rfl)
theorem cc_u26 {k : Nat} {l_ : List (T5).T} {web_ : T19.T} (h : (f_u26 k l_ web_).isSome = true) : C_u26 l_ web_ (v_u26 k l_ web_) := ccG (Φ := C_u26 l_ web_) h (of_u26 k l_ web_)
theorem ccA_u26 {k : Nat} {l_ : List (T5).T} {web_ : T19.T} (h : (f_u26 k l_ web_).isSome = true) (hb : (v_u26 k l_ web_).isLeft = true) : CA_u26 l_ web_ (vA_u26 k l_ web_) := ccAG (Φ := C_u26 l_ web_) (cc_u26 h) hb
theorem ccB_u26 {k : Nat} {l_ : List (T5).T} {web_ : T19.T} (h : (f_u26 k l_ web_).isSome = true) (hb : (v_u26 k l_ web_).isLeft = false) : CB_u26 l_ web_ (vB_u26 k l_ web_) := ccBG (Φ := C_u26 l_ web_) (cc_u26 h) hb
abbrev R_u24 : Type := Int
def res_u24 (r : R_u24) : AV := .r (.v (.int .i64 r))
def bo_u24 (l_ : List (T5).T) (width_ : Int) (length_ : Int) (r : R_u24) : List (Nat × Blk) := []
def args_u24 (l_ : List (T5).T) (width_ : Int) (length_ : Int) : List AV := [.r (.ro T5 l_), .r (.v (.int .i64 width_)), .r (.v (.int .i64 length_))]
def bin_u24 (l_ : List (T5).T) (width_ : Int) (length_ : Int) : List Blk := []
abbrev C_u24 (l_ : List (T5).T) (width_ : Int) (length_ : Int) (r : R_u24) : Prop := CC Tryz.prog 12 (args_u24 l_ width_ length_) (bin_u24 l_ width_ length_) (res_u24 r) (bo_u24 l_ width_ length_ r)
def f_u24 (k : Nat) (l_ : List (T5).T) (width_ : Int) (length_ : Int) : Option R_u24 :=
  bif (Sum.isLeft (v_u26 k l_ (width_, length_))) then
  if ((f_u26 k l_ (width_, length_)).isSome = true) then
  some (vA_u26 k l_ (width_, length_))
  else none
  else
  if ((f_u26 k l_ (width_, length_)).isSome = true) then
  some ((vB_u26 k l_ (width_, length_)).1)
  else none
def v_u24 (k : Nat) (l_ : List (T5).T) (width_ : Int) (length_ : Int) : R_u24 := (f_u24 k l_ width_ length_).getD 0
def ke_u24 (k : Nat) : Ke := (12, fun xs => match xs with
  | [_, _, _] => some [false, false, false]
  | _ => none, fun xs bs => match xs, bs with
  | [.r (.ro tl__ ql_), .r (.v (.int .i64 width_)), .r (.v (.int .i64 length_))], [] => (castL tl__ T5 ql_).bind fun l_ => some (.one (res_u24 (v_u24 k l_ width_ length_), bo_u24 l_ width_ length_ (v_u24 k l_ width_ length_)))
  | _, _ => none)
theorem of_u24 (k : Nat) (l_ : List (T5).T) (width_ : Int) (length_ : Int) (r : R_u24) (h : f_u24 k l_ width_ length_ = some r) : C_u24 l_ width_ length_ r := by
  refine CC.of (fn := Tryz.f12) (by kernel_rfl) (by kernel_rfl) (by kernel_rfl) (by kernel_rfl) ?_
  unfold f_u24 at h
  exact go (mkK [ke_u26 k]) [] [] [.autoB [6] true []] (gT h (fun c h => gN1 h (fun q => ccA_u26 q (by assumption)) fun h => gL h) fun c h => gN1 h (fun q => ccB_u26 q (by assumption)) fun h => gL h) (by kernel_rfl)
theorem cc_u24 {k : Nat} {l_ : List (T5).T} {width_ : Int} {length_ : Int} (h : (f_u24 k l_ width_ length_).isSome = true) : C_u24 l_ width_ length_ (v_u24 k l_ width_ length_) := ccG (Φ := C_u24 l_ width_ length_) h (of_u24 k l_ width_ length_)

end
def Wl (p : List Ro) : Prop := ∀ r ∈ p, Small r.2.2
theorem Wl.size {p : List Ro} {W L : Int} (h : Wl p) (hW : 0 ≤ W ∧ W ≤ 12000) (id : Int) : 0 ≤ (sizeS p W L id).1 ∧ (sizeS p W L id).1 ≤ 12000 := by
  unfold sizeS
  by_cases h0 : id = 0
  · rw [if_pos h0]; exact hW
  · rw [if_neg h0]
    cases e : look p id with
    | none => exact ⟨by decide, by decide⟩
    | some q =>
      obtain ⟨a, b, c, _⟩ := h q (look_some e).1
      exact ⟨by show 0 ≤ q.2.2.2.1; omega, by show q.2.2.2.1 ≤ _; omega⟩
theorem Wl.snoc {p : List Ro} {W L : Int} {r : Ro} (h : Wl p) (hW : 0 ≤ W ∧ W ≤ 12000) (f : fitsS p W L r = 0) : Wl (p ++ [r]) := by
  obtain ⟨_, _, _, c⟩ := fitsS_zero.1 f
  obtain ⟨s1, s2⟩ := h.size (L := L) hW r.2.1
  intro q hq
  rcases List.mem_append.1 hq with hq | hq
  · exact h q hq
  · rw [List.mem_singleton] at hq
    subst hq
    have := c.right
    exact ⟨c.left, c.width, by omega, c.chk⟩

theorem fam_size_s (k : Nat) (hk : 2100 ≤ k) (W L : Int) (p t : List Ro) (M : List (Int × Int)) (id : Int) (hp : Wl p) (hM : RegOk M p) (h : id = 0 ∨ ∃ q, look p id = some q) : f_u30 k W L (p ++ t) M id = some (sizeS p W L id) := by
  unfold f_u30 sizeS
  by_cases h0 : id = 0
  · rw [if_pos h0, show (id == 0) = true from beq_iff_eq.2 h0, cond_true]
  · rw [if_neg h0, show (id == 0) = false from beq_false_of_ne h0, cond_false]
    rcases h with h | ⟨q, h⟩
    · exact absurd h h0
    · obtain ⟨i, e1, e2, e3⟩ := (hM id).some h
      have hl : (p ++ t).length = p.length + t.length := List.length_append
      have hs := hp q (look_some h).1
      have hi : (i : Int) < ((p ++ t).length : Int) := by omega
      rw [e1, Option.getD_some, if_pos ⟨by omega, hi⟩, Int.toNat_natCast, getD_app _ _ _ _ e2, e3, h]
      show (if (f_u36 k q.2.2.2.2.2).isSome = true then some (q.2.2.2.1, (v_u36 k q.2.2.2.2.2).1) else none) = _
      rw [iso_Length_s k hk _ hs.chk, iso_Length_v k hk _ hs.chk]
      rfl
theorem fam_size_v (k : Nat) (hk : 2100 ≤ k) (W L : Int) (p t : List Ro) (M : List (Int × Int)) (id : Int) (hp : Wl p) (hM : RegOk M p) (h : id = 0 ∨ ∃ q, look p id = some q) : v_u30 k W L (p ++ t) M id = sizeS p W L id := by
  unfold v_u30; rw [fam_size_s k hk W L p t M id hp hM h]; rfl

theorem fam_fits_17 (k : Nat) (W L : Int) (l : List Ro) (M : List (Int × Int)) (r : Ro) (n : Int) (m : List Rn) (hm : goods m) (hl : m.length ≤ 256) : ∀ (d i j : Nat), i + d = m.length → d < j →
    f_u28_17 k W L l M r j n m (m.length : Int) (i : Int) = some (if fitsIn n (m.drop i) then 0 else 21) := by
  intro d
  induction d with
  | zero =>
    intro i j hi hj
    obtain ⟨j, rfl⟩ : ∃ q, j = q + 1 := ⟨j - 1, by omega⟩
    rw [f_u28_17, decide_eq_false (by omega : ¬ (i : Int) < (m.length : Int)), cond_false, List.drop_of_length_le (by omega), if_pos (by trivial)]
  | succ d ih =>
    intro i j hi hj
    obtain ⟨j, rfl⟩ : ∃ q, j = q + 1 := ⟨j - 1, by omega⟩
    have hg : good (m.getD i T3.dflt) := hm.mem _ (getD_mem' _ _ _ (by omega))
    rw [f_u28_17, decide_eq_true (by omega : (i : Int) < (m.length : Int)), cond_true, if_pos ⟨by omega, by omega⟩, Int.toNat_natCast, fam_bounds_s k _ hg, fam_bounds_v k _ hg, Option.isSome_some, if_pos rfl, drop_cons' m i T3.dflt (by omega), wrapS i (by omega)]
    show (bif decide (Go.AM.hi (m.getD i T3.dflt) ≥ n) then _ else _) = _
    by_cases h : Go.AM.hi (m.getD i T3.dflt) ≥ n
    · rw [decide_eq_true h, cond_true, if_neg (fun e : fitsIn n (m.getD i T3.dflt :: m.drop (i + 1)) => by have := e.1; omega)]
    · rw [decide_eq_false h, cond_false, ih (i + 1) j (by omega) (by omega)]
      by_cases h2 : fitsIn n (m.drop (i + 1))
      · rw [if_pos h2, if_pos (show fitsIn n (m.getD i T3.dflt :: m.drop (i + 1)) from ⟨by omega, h2⟩)]
      · rw [if_neg h2, if_neg (fun e : fitsIn n (m.getD i T3.dflt :: m.drop (i + 1)) => h2 e.2)]
theorem cut_test (c : Ch) (w : Int) (hw : 0 ≤ w ∧ w ≤ 12000) : (decide (c.1 < (0 : Int)) || decide (c.2.1 < (1 : Int)) || decide (c.1 > w) || decide (c.2.1 > IntKind.i64.wrap (w - c.1))) = decide (c.1 < 0 ∨ c.2.1 < 1 ∨ c.1 > w ∨ c.2.1 > w - c.1) := by
  by_cases h1 : c.1 < 0
  · rw [decide_eq_true h1, Bool.true_or, Bool.true_or, Bool.true_or, decide_eq_true (Or.inl h1)]
  · by_cases h2 : c.2.1 < 1
    · rw [decide_eq_true h2, Bool.or_true, Bool.true_or, Bool.true_or, decide_eq_true (Or.inr (Or.inl h2))]
    · by_cases h3 : c.1 > w
      · rw [decide_eq_true h3, Bool.or_true, Bool.true_or, decide_eq_true (Or.inr (Or.inr (Or.inl h3)))]
      · rw [decide_eq_false h1, decide_eq_false h2, decide_eq_false h3, wrap_id (by omega) (by omega), Bool.or_false, Bool.or_false, Bool.false_or]
        by_cases h4 : c.2.1 > w - c.1
        · rw [decide_eq_true h4, decide_eq_true (Or.inr (Or.inr (Or.inr h4)))]
        · rw [decide_eq_false h4, decide_eq_false (by omega)]
theorem fam_fits_tail (k : Nat) (hk : 2100 ≤ k) (W L : Int) (l : List Ro) (M : List (Int × Int)) (r : Ro) (c : Ch) (w n : Int) (hw : 0 ≤ w ∧ w ≤ 12000) :
    (bif (decide (c.1 < (0 : Int)) || decide (c.2.1 < (1 : Int)) || decide (c.1 > w) || decide (c.2.1 > IntKind.i64.wrap (w - c.1))) then some 20
     else if ((f_u34 k c.2.2.2).isSome = true) then
       bif (v_u34 k c.2.2.2 != (0 : Int)) then some (v_u34 k c.2.2.2)
       else bif ((↑ (List.length c.2.2.2) : Int) == (0 : Int)) then some 10
       else if ((f_u37 k c.2.2.2).isSome = true) then
         bif (!v_u37 k c.2.2.2) then some 12
         else f_u28_17 k W L l M r k n c.2.2.2 ((↑ (List.length c.2.2.2) : Int)) 0
       else none
     else none) = some (cutE c w n) := by
  unfold cutE
  rw [cut_test c w hw, iso_Check_s k (by omega), iso_Check_v k (by omega), Option.isSome_some, if_pos rfl, iso_Single_s k hk, iso_Single_v k hk, Option.isSome_some, if_pos rfl]
  by_cases h1 : c.1 < 0 ∨ c.2.1 < 1 ∨ c.1 > w ∨ c.2.1 > w - c.1
  · rw [decide_eq_true h1, cond_true, if_pos h1]
  · rw [decide_eq_false h1, cond_false, if_neg h1]
    by_cases h2 : chk c.2.2.2 = 0
    · have hc := chk_zero.1 h2
      have hl := hc.len
      rw [show (chk c.2.2.2 != 0) = false by simp [h2], cond_false, if_neg (fun h : chk c.2.2.2 ≠ 0 => h h2)]
      by_cases h3 : c.2.2.2 = []
      · rw [h3, if_pos rfl]; rfl
      · rw [if_neg h3, show (((List.length c.2.2.2 : Nat) : Int) == 0) = false from beq_false_of_ne (fun e => h3 (List.length_eq_zero_iff.1 (by omega))), cond_false]
        cases h4 : singleS c.2.2.2
        · rfl
        · rw [Bool.not_true, cond_false, if_neg (by decide)]
          refine (fam_fits_17 k W L l M r n c.2.2.2 hc.goods hl c.2.2.2.length 0 k (by omega) (by omega)).trans ?_
          rw [List.drop_zero]
    · rw [show (chk c.2.2.2 != 0) = true by simp [h2], cond_true, if_pos h2]
theorem fam_fits_s (k : Nat) (hk : 2100 ≤ k) (W L : Int) (hW : 0 ≤ W ∧ W ≤ 12000) (p t : List Ro) (M : List (Int × Int)) (r : Ro) (hp : Wl p) (hM : RegOk M p) : f_u28 k W L (p ++ t) M r = some (fitsS p W L r) := by
  unfold f_u28 fitsS
  by_cases h1 : r.1 < 1 ∨ r.1 > 1000000
  · rw [if_pos h1, show (decide (r.1 < 1) || decide (r.1 > 1000000)) = true by simpa using h1, cond_true]
  · rw [if_neg h1, show (decide (r.1 < 1) || decide (r.1 > 1000000)) = false by simp; omega, cond_false]
    have hs := hp.size (L := L) hW r.2.1
    by_cases h2 : r.2.1 = 0
    · rw [show (r.2.1 != 0) = false by simp [h2], cond_false, if_pos rfl, if_neg (fun h : r.2.1 ≠ 0 ∧ look p r.2.1 = none => h.1 h2), fam_size_s k hk W L p t M r.2.1 hp hM (.inl h2), fam_size_v k hk W L p t M r.2.1 hp hM (.inl h2), Option.isSome_some, if_pos rfl]
      exact fam_fits_tail k hk W L (p ++ t) M r r.2.2 _ _ hs
    · have hkn : v_u29 k W L (p ++ t) M r.2.1 = (mget I r.2.1 M).isSome := by unfold v_u29 f_u29; rfl
      rw [show (r.2.1 != 0) = true by simp [h2], cond_true, if_pos ⟨rfl, rfl⟩, hkn, Bool.true_and]
      cases e : look p r.2.1 with
      | none => rw [(hM r.2.1).none e, if_pos (show r.2.1 ≠ 0 ∧ (none : Option Ro) = none from ⟨h2, rfl⟩)]; rfl
      | some q =>
        obtain ⟨i, e1, e2, e3⟩ := (hM r.2.1).some e
        rw [e1, if_neg (show ¬ (r.2.1 ≠ 0 ∧ some q = none) from fun h => nomatch h.2), Option.isSome_some, Bool.not_true, cond_false, fam_size_s k hk W L p t M r.2.1 hp hM (.inr ⟨q, e⟩), fam_size_v k hk W L p t M r.2.1 hp hM (.inr ⟨q, e⟩), Option.isSome_some, if_pos rfl]
        exact fam_fits_tail k hk W L (p ++ t) M r r.2.2 _ _ hs
theorem fam_fits_v (k : Nat) (hk : 2100 ≤ k) (W L : Int) (hW : 0 ≤ W ∧ W ≤ 12000) (p t : List Ro) (M : List (Int × Int)) (r : Ro) (hp : Wl p) (hM : RegOk M p) : v_u28 k W L (p ++ t) M r = fitsS p W L r := by
  unfold v_u28; rw [fam_fits_s k hk W L hW p t M r hp hM]; rfl

theorem fam_open_23 (k : Nat) (hk : 70000 ≤ k) (l : List Ro) (n i W L : Int) (M : List (Int × Int)) (r : Ro) (hr : Small r.2.2) (p : List Ro) (hp : Wl p) (hpl : p.length ≤ 512) : ∀ (d q m : Nat), q + d = p.length →
    f_u26_23 k (m + d + 1) l l n i p (p.length : Int) (q : Int) W L l M r = if clash (p.drop q) r = true then some (.inl 12) else f_u26_20 k m l l n (IntKind.i64.wrap (i + 1)) W L l M := by
  intro d
  induction d with
  | zero =>
    intro q m hq
    rw [f_u26_23, decide_eq_false (by omega : ¬ (q : Int) < (p.length : Int)), cond_false, List.drop_of_length_le (by omega), if_neg (by unfold clash; rw [List.any_nil]; decide)]
  | succ d ih =>
    intro q m hq
    have hs : Small (p.getD q T5.dflt).2.2 := hp _ (getD_mem' _ _ _ (by omega))
    have hc : clash (p.drop q) r = ((r.2.1 == (p.getD q T5.dflt).2.1) && ovlS r.2.2 (p.getD q T5.dflt).2.2 || clash (p.drop (q + 1)) r) := by
      unfold clash; rw [drop_cons' p q T5.dflt (by omega), List.any_cons]
    rw [show m + (d + 1) + 1 = (m + d + 1) + 1 from rfl, f_u26_23, decide_eq_true (by omega : (q : Int) < (p.length : Int)), cond_true, if_pos ⟨by omega, by omega⟩, Int.toNat_natCast, wrapS q (by omega), ih (q + 1) m (by omega), hc]
    cases e : (r.2.1 == (p.getD q T5.dflt).2.1)
    · rw [cond_false, if_pos rfl, Bool.false_and, Bool.false_or]
    · rw [cond_true, Bool.true_and, fam_overlap_v k hk _ _ hr hs, if_pos ⟨rfl, by rw [fam_overlap_s k hk _ _ hr hs]; rfl⟩, Bool.true_and]
      cases ovlS r.2.2 (p.getD q T5.dflt).2.2
      · rw [cond_false, Bool.false_or]
      · rfl
set_option maxRecDepth 20000 in
theorem fam_open_20 (k : Nat) (hk : 70000 ≤ k) (l : List Ro) (W L : Int) (M : List (Int × Int)) (hl : Wl l) (hll : l.length ≤ 512) : ∀ (d i j : Nat), i + d = l.length → d * 514 < j →
    f_u26_20 k j l l (l.length : Int) (i : Int) W L l M = if clashGo (l.take i) (l.drop i) = true then some (.inl 12) else some (.inr (0, W, L, l, M)) := by
  intro d
  induction d with
  | zero =>
    intro i j hi hj
    obtain ⟨j, rfl⟩ : ∃ q, j = q + 1 := ⟨j - 1, by omega⟩
    rw [f_u26_20, decide_eq_false (by omega : ¬ (i : Int) < (l.length : Int)), cond_false, List.drop_of_length_le (by omega), clashGo, if_neg (by decide)]
  | succ d ih =>
    intro i j hi hj
    obtain ⟨j, rfl⟩ : ∃ q, j = (q + (l.take i).length + 1) + 1 := ⟨j - (l.take i).length - 2, by rw [List.length_take]; omega⟩
    rw [List.length_take] at hj
    have hs : Small (l.getD i T5.dflt).2.2 := hl _ (getD_mem' _ _ _ (by omega))
    have h23 := fam_open_23 k hk l (l.length : Int) (i : Int) W L M (l.getD i T5.dflt) hs (l.take i) (fun r hr => hl r (List.mem_of_mem_take hr)) (by rw [List.length_take]; omega) (l.take i).length 0 j (by omega)
    rw [f_u26_20, decide_eq_true (by omega : (i : Int) < (l.length : Int)), cond_true, if_pos ⟨by omega, by omega⟩, if_pos ⟨by omega, by omega, by omega⟩, Int.toNat_natCast, Int.toNat_zero, List.drop_zero, Nat.sub_zero]
    refine h23.trans ?_
    rw [List.drop_zero, wrapS i (by omega), ih (i + 1) j (by omega) (by omega), drop_cons' l i T5.dflt (by omega), clashGo, take_snoc l i T5.dflt (by omega)]
    cases clash (l.take i) (l.getD i T5.dflt)
    · rw [if_neg (by decide), Bool.false_or]
    · rfl
theorem fam_open_8 (k : Nat) (hk : 300000 ≤ k) (l : List Ro) (W L : Int) (hW : 0 ≤ W ∧ W ≤ 12000) (hll : l.length ≤ 512) : ∀ (d i j : Nat) (dup : Bool) (M : List (Int × Int)), i + d = l.length → d + 1 + 263168 < j → RegOk M (l.take i) → Wl (l.take i) →
    ∃ M', (errsGo W L (l.take i) (l.drop i) = 0 → RegOk M' l ∧ Wl l) ∧ f_u26_8 k j l dup l (l.length : Int) (i : Int) W L l M =
      if errsGo W L (l.take i) (l.drop i) ≠ 0 then some (.inl (errsGo W L (l.take i) (l.drop i))) else if (dup || dupGo (l.take i) (l.drop i)) = true then some (.inl 6) else if clashGo [] l = true then some (.inl 12) else some (.inr (0, W, L, l, M')) := by
  intro d
  induction d with
  | zero =>
    intro i j dup M hi hj hM hw
    obtain ⟨j, rfl⟩ : ∃ q, j = q + 1 := ⟨j - 1, by omega⟩
    have h20 := fam_open_20 k (by omega) l W L M (by rw [List.take_of_length_le (by omega)] at hw; exact hw) hll l.length 0 j (by omega) (by omega)
    rw [List.take_of_length_le (by omega : l.length ≤ i)] at hM hw
    refine ⟨M, fun _ => ⟨hM, hw⟩, ?_⟩
    rw [f_u26_8, decide_eq_false (by omega : ¬ (i : Int) < (l.length : Int)), cond_false, List.drop_of_length_le (by omega), errsGo, if_neg (fun h => h rfl), dupGo, Bool.or_false]
    cases dup
    · rw [cond_false, if_neg (by decide)]
      exact h20
    · rfl
  | succ d ih =>
    intro i j dup M hi hj hM hw
    obtain ⟨j, rfl⟩ : ∃ q, j = q + 1 := ⟨j - 1, by omega⟩
    have hf := fam_fits_s k (by omega) W L hW (l.take i) (l.drop i) M (l.getD i T5.dflt) hw hM
    have hv := fam_fits_v k (by omega) W L hW (l.take i) (l.drop i) M (l.getD i T5.dflt) hw hM
    rw [List.take_append_drop] at hf hv
    have hkn : v_u29 k W L l M (l.getD i T5.dflt).1 = (mget I (l.getD i T5.dflt).1 M).isSome := by unfold v_u29 f_u29; rfl
    have ht := take_snoc l i T5.dflt (by omega)
    by_cases h1 : fitsS (l.take i) W L (l.getD i T5.dflt) = 0
    · have hw2 : Wl (l.take (i + 1)) := by rw [ht]; exact hw.snoc hW h1
      cases e : look (l.take i) (l.getD i T5.dflt).1 with
      | none =>
        have hM2 : RegOk (mset I (l.getD i T5.dflt).1 (i : Int) M) (l.take (i + 1)) := by
          have := regOk_new hM (l.getD i T5.dflt) e
          rw [ht]
          rw [List.length_take, show min i l.length = i by omega] at this
          exact this
        obtain ⟨M', m1, m2⟩ := ih (i + 1) j dup _ (by omega) (by omega) hM2 hw2
        rw [ht] at m1 m2
        rw [drop_cons' l i T5.dflt (by omega), errsGo, if_neg (fun h => h h1), dupGo, e]
        refine ⟨M', m1, ?_⟩
        rw [f_u26_8, decide_eq_true (by omega : (i : Int) < (l.length : Int)), cond_true, if_pos ⟨by omega, by omega⟩, Int.toNat_natCast, hf, hv, Option.isSome_some, if_pos rfl, h1]
        show (bif v_u29 k W L l M (l.getD i T5.dflt).1 then _ else _) = _
        rw [hkn, (hM _).none e, wrapS i (by omega)]
        exact m2
      | some q =>
        have hM2 : RegOk M (l.take (i + 1)) := by
          have := regOk_old hM (l.getD i T5.dflt) (by rw [e]; rfl)
          rw [ht]
          exact this
        obtain ⟨M', m1, m2⟩ := ih (i + 1) j true _ (by omega) (by omega) hM2 hw2
        rw [ht] at m1 m2
        rw [drop_cons' l i T5.dflt (by omega), errsGo, if_neg (fun h => h h1), dupGo, e]
        refine ⟨M', m1, ?_⟩
        obtain ⟨a, b, _, _⟩ := (hM _).some e
        rw [f_u26_8, decide_eq_true (by omega : (i : Int) < (l.length : Int)), cond_true, if_pos ⟨by omega, by omega⟩, Int.toNat_natCast, hf, hv, Option.isSome_some, if_pos rfl, h1]
        show (bif v_u29 k W L l M (l.getD i T5.dflt).1 then _ else _) = _
        rw [hkn, b, wrapS i (by omega), Option.isSome_some, Option.isSome_some, Bool.true_or, Bool.or_true]
        rw [Bool.true_or] at m2
        exact m2
    · rw [drop_cons' l i T5.dflt (by omega), errsGo, if_pos h1]
      refine ⟨M, fun h => absurd h h1, ?_⟩
      rw [f_u26_8, decide_eq_true (by omega : (i : Int) < (l.length : Int)), cond_true, if_pos ⟨by omega, by omega⟩, Int.toNat_natCast, hf, hv, Option.isSome_some, if_pos rfl, show (fitsS (l.take i) W L (l.getD i T5.dflt) != 0) = true from bne_iff_ne.2 h1, cond_true, if_pos h1]
/-- the opening of a register -/
theorem fam_open (k : Nat) (hk : 300000 ≤ k) (l : List Ro) (web : Int × Int) : (checkS l web.1 web.2 ≠ 0 → f_u26 k l web = some (.inl (checkS l web.1 web.2))) ∧ (checkS l web.1 web.2 = 0 → ∃ M, RegOk M l ∧ Wl l ∧ f_u26 k l web = some (.inr (0, web.1, web.2, l, M))) := by
  obtain ⟨W, L⟩ := web
  show (checkS l W L ≠ 0 → f_u26 k l (W, L) = some (.inl (checkS l W L))) ∧ (checkS l W L = 0 → ∃ M, RegOk M l ∧ Wl l ∧ f_u26 k l (W, L) = some (.inr (0, W, L, l, M)))
  unfold f_u26 checkS
  show ((if _ then _ else _ : Int) ≠ 0 → (bif decide (W < (1 : Int)) || decide (W > (12000 : Int)) || decide (L < (0 : Int)) || decide (L > (17179869184 : Int)) then some (.inl 1) else bif _ then _ else f_u26_8 k k l false l (l.length : Int) 0 W L l []) = _) ∧ (_ → ∃ M, RegOk M l ∧ Wl l ∧ (bif decide (W < (1 : Int)) || decide (W > (12000 : Int)) || decide (L < (0 : Int)) || decide (L > (17179869184 : Int)) then some (.inl 1) else bif _ then _ else f_u26_8 k k l false l (l.length : Int) 0 W L l []) = _)
  by_cases h1 : W < 1 ∨ W > 12000 ∨ L < 0 ∨ L > 17179869184
  · rw [if_pos h1, show (decide (W < (1 : Int)) || decide (W > (12000 : Int)) || decide (L < (0 : Int)) || decide (L > (17179869184 : Int))) = true by simp; omega]
    exact ⟨fun _ => rfl, fun h => absurd h (by decide)⟩
  · rw [if_neg h1, show (decide (W < (1 : Int)) || decide (W > (12000 : Int)) || decide (L < (0 : Int)) || decide (L > (17179869184 : Int))) = false by simp; omega, cond_false]
    by_cases h2 : l.length > 512
    · rw [if_pos h2, decide_eq_true (by omega : (l.length : Int) > 512)]
      exact ⟨fun _ => rfl, fun h => absurd h (by decide)⟩
    · rw [if_neg h2, decide_eq_false (by omega : ¬ (l.length : Int) > 512), cond_false]
      obtain ⟨M, m1, m2⟩ := fam_open_8 k hk l W L (by omega) (by omega) l.length 0 k false [] (by omega) (by omega) (by rw [List.take_zero]; exact regOk_nil) (fun r hr => by simp at hr)
      rw [List.take_zero, List.drop_zero, Bool.false_or] at m2
      rw [List.take_zero, List.drop_zero] at m1
      rw [show f_u26_8 k k l false l (l.length : Int) 0 W L l [] = _ from m2]
      by_cases h3 : errsGo W L [] l = 0
      · rw [if_neg (fun h : errsGo W L [] l ≠ 0 => h h3), if_neg (fun h : errsGo W L [] l ≠ 0 => h h3)]
        have ff : ¬ (false = true) := Bool.false_ne_true
        have tt : true = true := rfl
        cases dupGo [] l
        · rw [if_neg ff, if_neg ff]
          cases clashGo [] l
          · rw [if_neg ff, if_neg ff]
            exact ⟨fun h => absurd rfl h, fun _ => ⟨M, (m1 h3).1, (m1 h3).2, rfl⟩⟩
          · rw [if_pos tt, if_pos tt]
            exact ⟨fun _ => rfl, fun h => absurd h (by decide)⟩
        · rw [if_pos tt, if_pos tt]
          exact ⟨fun _ => rfl, fun h => absurd h (by decide)⟩
      · rw [if_pos h3, if_pos h3]
        exact ⟨fun _ => rfl, fun h => absurd h h3⟩
theorem fam_Check_s (k : Nat) (hk : 300000 ≤ k) (l : List Ro) (W L : Int) : f_u24 k l W L = some (checkS l W L) := by
  obtain ⟨h1, h2⟩ := fam_open k hk l (W, L)
  unfold f_u24 vA_u26 vB_u26 v_u26
  by_cases h : checkS l W L = 0
  · obtain ⟨M, _, _, e⟩ := h2 h
    rw [e, h]; rfl
  · have e := h1 h
    rw [e]; rfl
end Go.AM
namespace Go.AM
open Go Go.Proofs
noncomputable section
abbrev R_u72 : Type := Int
def res_u72 (r : R_u72) : AV := .r (.v (.int .i64 r))
def bo_u72 (l_ : List (T5).T) (i_ : Int) (width_ : Int) (length_ : Int) (r : R_u72) : List (Nat × Blk) := []
def args_u72 (l_ : List (T5).T) (i_ : Int) (width_ : Int) (length_ : Int) : List AV := [.r (.ro T5 l_), .r (.v (.int .i64 i_)), .r (.v (.int .i64 width_)), .r (.v (.int .i64 length_))]
def bin_u72 (l_ : List (T5).T) (i_ : Int) (width_ : Int) (length_ : Int) : List Blk := []
abbrev C_u72 (l_ : List (T5).T) (i_ : Int) (width_ : Int) (length_ : Int) (r : R_u72) : Prop := CC Tryz.prog 86 (args_u72 l_ i_ width_ length_) (bin_u72 l_ i_ width_ length_) (res_u72 r) (bo_u72 l_ i_ width_ length_ r)
def st_u72_21 (y0 : Int) (y1 : Int) (y2 : T4.T) : St := ⟨mkS 109 [(3, .r (.v (.int .i64 y0))), (11, .ptr 1000000 0 0), (13, .r (.v (.int .i64 y1)))], [(1000000, 0, .var 45 (rvs (enc T4 y2)))]⟩
def f_u72_21 (k : Nat) : Nat → Int → Int → T4.T → Option R_u72
  | 0, _, _, _ => none
  | j + 1, y0, y1, y2 =>
  bif (decide (y1 < (↑ (List.length y2.2.2.2) : Int))) then
  if (0 ≤ y1) ∧ (y1 < (↑ (List.length y2.2.2.2) : Int)) ∧ ((f_u70 k (List.getD y2.2.2.2 y1.toNat T3.dflt)).isSome = true) then
  bif (decide ((v_u70 k (List.getD y2.2.2.2 y1.toNat T3.dflt)).2 ≥ y0)) then
  some 21
  else
  f_u72_21 k j y0 ((IntKind.i64.wrap (y1 + 1))) y2
  else none
  else
  some 0
def f_u72 (k : Nat) (l_ : List (T5).T) (i_ : Int) (width_ : Int) (length_ : Int) : Option R_u72 :=
  if ((0 : Int) ≤ i_) ∧ (i_ < (↑l_.length : Int)) then
  bif (decide ((l_.getD i_.toNat T5.dflt).1 < (1 : Int)) || decide ((l_.getD i_.toNat T5.dflt).1 > (1000000 : Int))) then
  some 1
  else
  bif ((l_.getD i_.toNat T5.dflt).2.1 != (0 : Int)) then
  if ((f_u68 k l_ i_ (l_.getD i_.toNat T5.dflt).2.1).isSome = true) then
  bif (decide (v_u68 k l_ i_ (l_.getD i_.toNat T5.dflt).2.1 < (0 : Int))) then
  some 7
  else
  if ((0 : Int) ≤ v_u68 k l_ i_ (l_.getD i_.toNat T5.dflt).2.1) ∧ (v_u68 k l_ i_ (l_.getD i_.toNat T5.dflt).2.1 < (↑l_.length : Int)) then
  if ((0 : Int) ≤ v_u68 k l_ i_ (l_.getD i_.toNat T5.dflt).2.1) ∧ (v_u68 k l_ i_ (l_.getD i_.toNat T5.dflt).2.1 < (↑l_.length : Int)) ∧ ((f_u69 k (l_.getD (Int.toNat (v_u68 k l_ i_ (l_.getD i_.toNat T5.dflt).2.1)) T5.dflt).2.2.2.2.2).isSome = true) then
  bif (decide ((l_.getD i_.toNat T5.dflt).2.2.1 < (0 : Int)) || decide ((l_.getD i_.toNat T5.dflt).2.2.2.1 < (1 : Int)) || decide ((l_.getD i_.toNat T5.dflt).2.2.1 > (l_.getD (Int.toNat (v_u68 k l_ i_ (l_.getD i_.toNat T5.dflt).2.1)) T5.dflt).2.2.2.1) || decide ((l_.getD i_.toNat T5.dflt).2.2.2.1 > IntKind.i64.wrap ((l_.getD (Int.toNat (v_u68 k l_ i_ (l_.getD i_.toNat T5.dflt).2.1)) T5.dflt).2.2.2.1 - (l_.getD i_.toNat T5.dflt).2.2.1))) then
  some 20
  else
  if ((f_u55 k (l_.getD i_.toNat T5.dflt).2.2.2.2.2).isSome = true) then
  bif (v_u55 k (l_.getD i_.toNat T5.dflt).2.2.2.2.2 != (0 : Int)) then
  some (v_u55 k (l_.getD i_.toNat T5.dflt).2.2.2.2.2)
  else
  bif ((↑ (List.length (l_.getD i_.toNat T5.dflt).2.2.2.2.2) : Int) == (0 : Int)) then
  some 10
  else
  if ((f_u57 k (l_.getD i_.toNat T5.dflt).2.2.2.2.2).isSome = true) then
  bif (!v_u57 k (l_.getD i_.toNat T5.dflt).2.2.2.2.2) then
  some 12
  else
  f_u72_21 k k ((v_u69 k (l_.getD (Int.toNat (v_u68 k l_ i_ (l_.getD i_.toNat T5.dflt).2.1)) T5.dflt).2.2.2.2.2)) 0 ((l_.getD i_.toNat T5.dflt).2.2)
  else none
  else none
  else none
  else none
  else none
  else
  bif (decide ((l_.getD i_.toNat T5.dflt).2.2.1 < (0 : Int)) || decide ((l_.getD i_.toNat T5.dflt).2.2.2.1 < (1 : Int)) || decide ((l_.getD i_.toNat T5.dflt).2.2.1 > width_) || decide ((l_.getD i_.toNat T5.dflt).2.2.2.1 > IntKind.i64.wrap (width_ - (l_.getD i_.toNat T5.dflt).2.2.1))) then
  some 20
  else
  if ((f_u55 k (l_.getD i_.toNat T5.dflt).2.2.2.2.2).isSome = true) then
  bif (v_u55 k (l_.getD i_.toNat T5.dflt).2.2.2.2.2 != (0 : Int)) then
  some (v_u55 k (l_.getD i_.toNat T5.dflt).2.2.2.2.2)
  else
  bif ((↑ (List.length (l_.getD i_.toNat T5.dflt).2.2.2.2.2) : Int) == (0 : Int)) then
  some 10
  else
  if ((f_u57 k (l_.getD i_.toNat T5.dflt).2.2.2.2.2).isSome = true) then
  bif (!v_u57 k (l_.getD i_.toNat T5.dflt).2.2.2.2.2) then
  some 12
  else
  f_u72_21 k k length_ 0 ((l_.getD i_.toNat T5.dflt).2.2)
  else none
  else none
  else none
def v_u72 (k : Nat) (l_ : List (T5).T) (i_ : Int) (width_ : Int) (length_ : Int) : R_u72 := (f_u72 k l_ i_ width_ length_).getD 0
def ke_u72 (k : Nat) : Ke := (86, fun xs => match xs with
  | [_, _, _, _] => some [false, false, false, false]
  | _ => none, fun xs bs => match xs, bs with
  | [.r (.ro tl__ ql_), .r (.v (.int .i64 i_)), .r (.v (.int .i64 width_)), .r (.v (.int .i64 length_))], [] => (castL tl__ T5 ql_).bind fun l_ => some (.one (res_u72 (v_u72 k l_ i_ width_ length_), bo_u72 l_ i_ width_ length_ (v_u72 k l_ i_ width_ length_)))
  | _, _ => none)
def K_u72 (k : Nat) : Calld := mkK [ke_u68 k, ke_u69 k, ke_u55 k, ke_u57 k, ke_u70 k]
def cs_u72 : List (Nat × List Cmd) := [(21, [.autoB [3, 11, 13] false []])]
abbrev E_u72 (l_ : List (T5).T) (i_ : Int) (width_ : Int) (length_ : Int) (todo : List Item) (st : St) (o : Option R_u72) : Prop := ∀ r, o = some r → Ev Tryz.prog Tryz.f86 0 todo st (res_u72 r) (bo_u72 l_ i_ width_ length_ r)
theorem ev_u72 (k : Nat) (l_ : List (T5).T) (i_ : Int) (width_ : Int) (length_ : Int) : ∀ j, (∀ (y0 : Int) (y1 : Int) (y2 : T4.T), E_u72 l_ i_ width_ length_ (placeAt Tryz.f86 21) (st_u72_21 y0 y1 y2) (f_u72_21 k j y0 y1 y2))
  | 0 => fun _ _ _ _ h => (nomatch h)
  | j + 1 => by
    have ih := @ev_u72 k l_ i_ width_ length_ j
    · intro y0 y1 y2 r h
      rw [f_u72_21] at h
      exact go (K_u72 k) [] cs_u72 [.autoB [8] true []] (gT h (fun c h => gN h (fun q => conjC q.1 (conjC q.2.1 (conjC (cc_u70 q.2.2) conj0))) fun h => gT h (fun c h => gL h) fun c h => gC h 21 (ih _ _ _ _)) fun c h => gL h) (by kernel_rfl)
theorem of_u72 (k : Nat) (l_ : List (T5).T) (i_ : Int) (width_ : Int) (length_ : Int) (r : R_u72) (h : f_u72 k l_ i_ width_ length_ = some r) : C_u72 l_ i_ width_ length_ r := by
  refine CC.of (fn := Tryz.f86) (by kernel_rfl) (by kernel_rfl) (by kernel_rfl) (by kernel_rfl) ?_
  unfold f_u72 at h
  exact go (K_u72 k) [] cs_u72 [.autoB [8] true []] (gN2 h fun h => gT h (fun c h => gL h) fun c h => gT h (fun c h => gN1 h (fun q => cc_u68 q) fun h => gT h (fun c h => gL h) fun c h => gN2 h fun h => gN h (fun q => conjC q.1 (conjC q.2.1 (conjC (cc_u69 q.2.2) conj0))) fun h => gT h (fun c h => gL h) fun c h => gN1 h (fun q => cc_u55 q) fun h => gT h (fun c h => gL h) fun c h => gT h (fun c h => gL h) fun c h => gN1 h (fun q => cc_u57 q) fun h => gT h (fun c h => gL h) fun c h => gC h 21 ((ev_u72 k l_ i_ width_ length_ k) _ _ _ _)) fun c h => gT h (fun c h => gL h) fun c h => gN1 h (fun q => cc_u55 q) fun h => gT h (fun c h => gL h) fun c h => gT h (fun c h => gL h) fun c h => gN1 h (fun q => cc_u57 q) fun h => gT h (fun c h => gL h) fun c h => gC h 21 ((ev_u72 k l_ i_ width_ length_ k) _ _ _ _)) (by kernel_rfl)
theorem cc_u72 {k : Nat} {l_ : List (T5).T} {i_ : Int} {width_ : Int} {length_ : Int} (h : (f_u72 k l_ i_ width_ length_).isSome = true) : C_u72 l_ i_ width_ length_ (v_u72 k l_ i_ width_ length_) := ccG (Φ := C_u72 l_ i_ width_ length_) h (of_u72 k l_ i_ width_ length_)
abbrev R_u67 : Type := Int
def res_u67 (r : R_u67) : AV := .r (.v (.int .i64 r))
def bo_u67 (l_ : List (T5).T) (width_ : Int) (length_ : Int) (r : R_u67) : List (Nat × Blk) := []
def args_u67 (l_ : List (T5).T) (width_ : Int) (length_ : Int) : List AV := [.r (.ro T5 l_), .r (.v (.int .i64 width_)), .r (.v (.int .i64 length_))]
def bin_u67 (l_ : List (T5).T) (width_ : Int) (length_ : Int) : List Blk := []
abbrev C_u67 (l_ : List (T5).T) (width_ : Int) (length_ : Int) (r : R_u67) : Prop := CC Tryz.prog 42 (args_u67 l_ width_ length_) (bin_u67 l_ width_ length_) (res_u67 r) (bo_u67 l_ width_ length_ r)
def st_u67_6 (y0 : List (T5).T) (y1 : Int) (y2 : Int) (y3 : Int) : St := ⟨mkS 119 [(0, .r (.ro T5 y0)), (1, .r (.v (.int .i64 y1))), (2, .r (.v (.int .i64 y2))), (7, .r (.v (.int .i64 y3)))], []⟩
def st_u67_12 (y0 : List (T5).T) (y1 : Int) : St := ⟨mkS 119 [(0, .r (.ro T5 y0)), (9, .r (.v (.int .i64 y1)))], []⟩
def st_u67_17 (y0 : List (T5).T) (y1 : Int) : St := ⟨mkS 119 [(0, .r (.ro T5 y0)), (10, .r (.v (.int .i64 y1)))], []⟩
def st_u67_20 (y0 : List (T5).T) (y1 : Int) (y2 : Int) : St := ⟨mkS 119 [(0, .r (.ro T5 y0)), (10, .r (.v (.int .i64 y1))), (11, .r (.v (.int .i64 y2)))], []⟩
mutual
def f_u67_6 (k : Nat) : Nat → List (T5).T → Int → Int → Int → Option R_u67
  | 0, _, _, _, _ => none
  | j + 1, y0, y1, y2, y3 =>
  bif (decide (y3 < (↑y0.length : Int))) then
  if ((f_u72 k y0 y3 y1 y2).isSome = true) then
  bif (v_u72 k y0 y3 y1 y2 != (0 : Int)) then
  some (v_u72 k y0 y3 y1 y2)
  else
  f_u67_6 k j y0 y1 y2 ((IntKind.i64.wrap (y3 + 1)))
  else none
  else
  f_u67_12 k j y0 0
def f_u67_12 (k : Nat) : Nat → List (T5).T → Int → Option R_u67
  | 0, _, _ => none
  | j + 1, y0, y1 =>
  bif (decide (y1 < (↑y0.length : Int))) then
  if (0 ≤ y1) ∧ (y1 < (↑y0.length : Int)) ∧ ((f_u68 k y0 y1 (y0.getD y1.toNat T5.dflt).1).isSome = true) then
  bif (decide (v_u68 k y0 y1 (y0.getD y1.toNat T5.dflt).1 ≥ (0 : Int))) then
  some 6
  else
  f_u67_12 k j y0 ((IntKind.i64.wrap (y1 + 1)))
  else none
  else
  f_u67_17 k j y0 0
def f_u67_17 (k : Nat) : Nat → List (T5).T → Int → Option R_u67
  | 0, _, _ => none
  | j + 1, y0, y1 =>
  bif (decide (y1 < (↑y0.length : Int))) then
  f_u67_20 k j y0 y1 0
  else
  some 0
def f_u67_20 (k : Nat) : Nat → List (T5).T → Int → Int → Option R_u67
  | 0, _, _, _ => none
  | j + 1, y0, y1, y2 =>
  bif (decide (y2 < y1)) then
  if (0 ≤ y1) ∧ (y1 < (↑y0.length : Int)) then
  if (0 ≤ y2) ∧ (y2 < (↑y0.length : Int)) then
  bif ((y0.getD y1.toNat T5.dflt).2.1 == (y0.getD y2.toNat T5.dflt).2.1 && decide ((y0.getD y1.toNat T5.dflt).2.2.1 < IntKind.i64.wrap ((y0.getD y2.toNat T5.dflt).2.2.1 + (y0.getD y2.toNat T5.dflt).2.2.2.1)) && decide ((y0.getD y2.toNat T5.dflt).2.2.1 < IntKind.i64.wrap ((y0.getD y1.toNat T5.dflt).2.2.1 + (y0.getD y1.toNat T5.dflt).2.2.2.1))) then
  if (0 ≤ y1) ∧ (y1 < (↑y0.length : Int)) ∧ (0 ≤ y2) ∧ (y2 < (↑y0.length : Int)) ∧ (((y0.getD y1.toNat T5.dflt).2.1 == (y0.getD y2.toNat T5.dflt).2.1 && decide ((y0.getD y1.toNat T5.dflt).2.2.1 < IntKind.i64.wrap ((y0.getD y2.toNat T5.dflt).2.2.1 + (y0.getD y2.toNat T5.dflt).2.2.2.1)) && decide ((y0.getD y2.toNat T5.dflt).2.2.1 < IntKind.i64.wrap ((y0.getD y1.toNat T5.dflt).2.2.1 + (y0.getD y1.toNat T5.dflt).2.2.2.1))) = true) ∧ ((f_u71 k (y0.getD y1.toNat T5.dflt).2.2.2.2.2 (y0.getD y2.toNat T5.dflt).2.2.2.2.2).isSome = true) then
  bif (true && v_u71 k (y0.getD y1.toNat T5.dflt).2.2.2.2.2 (y0.getD y2.toNat T5.dflt).2.2.2.2.2) then
  some 12
  else
  f_u67_20 k j y0 y1 ((IntKind.i64.wrap (y2 + 1)))
  else none
  else
  if (0 ≤ y1) ∧ (y1 < (↑y0.length : Int)) ∧ (0 ≤ y2) ∧ (y2 < (↑y0.length : Int)) ∧ (((y0.getD y1.toNat T5.dflt).2.1 == (y0.getD y2.toNat T5.dflt).2.1 && decide ((y0.getD y1.toNat T5.dflt).2.2.1 < IntKind.i64.wrap ((y0.getD y2.toNat T5.dflt).2.2.1 + (y0.getD y2.toNat T5.dflt).2.2.2.1)) && decide ((y0.getD y2.toNat T5.dflt).2.2.1 < IntKind.i64.wrap ((y0.getD y1.toNat T5.dflt).2.2.1 + (y0.getD y1.toNat T5.dflt).2.2.2.1))) = false) then
  f_u67_20 k j y0 y1 ((IntKind.i64.wrap (y2 + 1)))
  else none
  else none
  else none
  else
  f_u67_17 k j y0 ((IntKind.i64.wrap (y1 + 1)))
end
def f_u67 (k : Nat) (l_ : List (T5).T) (width_ : Int) (length_ : Int) : Option R_u67 :=
  bif (decide (width_ < (1 : Int)) || decide (width_ > (12000 : Int)) || decide (length_ < (0 : Int)) || decide (length_ > (17179869184 : Int))) then
  some 1
  else
  bif (decide ((↑l_.length : Int) > (512 : Int))) then
  some 8
  else
  f_u67_6 k k l_ width_ length_ 0
def v_u67 (k : Nat) (l_ : List (T5).T) (width_ : Int) (length_ : Int) : R_u67 := (f_u67 k l_ width_ length_).getD 0
def ke_u67 (k : Nat) : Ke := (42, fun xs => match xs with
  | [_, _, _] => some [false, false, false]
  | _ => none, fun xs bs => match xs, bs with
  | [.r (.ro tl__ ql_), .r (.v (.int .i64 width_)), .r (.v (.int .i64 length_))], [] => (castL tl__ T5 ql_).bind fun l_ => some (.one (res_u67 (v_u67 k l_ width_ length_), bo_u67 l_ width_ length_ (v_u67 k l_ width_ length_)))
  | _, _ => none)
def K_u67 (k : Nat) : Calld := mkK [ke_u68 k, ke_u72 k, ke_u71 k]
def cs_u67 : List (Nat × List Cmd) := [(6, [.autoB [0, 1, 2, 7] false []]), (12, [.autoB [0, 9] false []]), (17, [.autoB [0, 10] false []]), (20, [.autoB [0, 10, 11] false []])]
abbrev E_u67 (l_ : List (T5).T) (width_ : Int) (length_ : Int) (todo : List Item) (st : St) (o : Option R_u67) : Prop := ∀ r, o = some r → Ev Tryz.prog Tryz.f42 0 todo st (res_u67 r) (bo_u67 l_ width_ length_ r)
theorem ev_u67 (k : Nat) (l_ : List (T5).T) (width_ : Int) (length_ : Int) : ∀ j, (∀ (y0 : List (T5).T) (y1 : Int) (y2 : Int) (y3 : Int), E_u67 l_ width_ length_ (placeAt Tryz.f42 6) (st_u67_6 y0 y1 y2 y3) (f_u67_6 k j y0 y1 y2 y3)) ∧ (∀ (y0 : List (T5).T) (y1 : Int), E_u67 l_ width_ length_ (placeAt Tryz.f42 12) (st_u67_12 y0 y1) (f_u67_12 k j y0 y1)) ∧ (∀ (y0 : List (T5).T) (y1 : Int), E_u67 l_ width_ length_ (placeAt Tryz.f42 17) (st_u67_17 y0 y1) (f_u67_17 k j y0 y1)) ∧ (∀ (y0 : List (T5).T) (y1 : Int) (y2 : Int), E_u67 l_ width_ length_ (placeAt Tryz.f42 20) (st_u67_20 y0 y1 y2) (f_u67_20 k j y0 y1 y2))
  | 0 => ⟨fun _ _ _ _ _ h => (nomatch h), fun _ _ _ h => (nomatch h), fun _ _ _ h => (nomatch h), fun _ _ _ _ h => (nomatch h)⟩
  | j + 1 => by
    have ih := @ev_u67 k l_ width_ length_ j
    refine ⟨?_, ?_, ?_, ?_⟩
    · intro y0 y1 y2 y3 r h
      rw [f_u67_6] at h
      exact go (K_u67 k) [] cs_u67 [.autoB [6] true []] (gT h (fun c h => gN1 h (fun q => cc_u72 q) fun h => gT h (fun c h => gL h) fun c h => gC h 6 (ih.1 _ _ _ _ _)) fun c h => gC h 12 (ih.2.1 _ _ _)) (by kernel_rfl)
    · intro y0 y1 r h
      rw [f_u67_12] at h
      exact go (K_u67 k) [] cs_u67 [.autoB [6] true []] (gT h (fun c h => gN h (fun q => conjC q.1 (conjC q.2.1 (conjC (cc_u68 q.2.2) conj0))) fun h => gT h (fun c h => gL h) fun c h => gC h 12 (ih.2.1 _ _ _)) fun c h => gC h 17 (ih.2.2.1 _ _ _)) (by kernel_rfl)
    · intro y0 y1 r h
      rw [f_u67_17] at h
      exact go (K_u67 k) [] cs_u67 [.autoB [6] true []] (gT h (fun c h => gC h 20 (ih.2.2.2 _ _ _ _)) fun c h => gL h) (by kernel_rfl)
    · intro y0 y1 y2 r h
      rw [f_u67_20] at h
      exact go (K_u67 k) [] cs_u67 [.autoB [6] true []] (gT h (fun c h => gN2 h fun h => gN2 h fun h => gT h (fun c h => gN h (fun q => conjC q.1 (conjC q.2.1 (conjC q.2.2.1 (conjC q.2.2.2.1 (conjC q.2.2.2.2.1 (conjC (cc_u71 q.2.2.2.2.2) conj0)))))) fun h => gT h (fun c h => gL h) fun c h => gC h 20 (ih.2.2.2 _ _ _ _)) fun c h => gN h (fun q => conjC q.1 (conjC q.2.1 (conjC q.2.2.1 (conjC q.2.2.2.1 (conjC q.2.2.2.2 conj0))))) fun h => gU2 h (.leaf (.r (.v (.int .i64 12))) []) fun h => gC h 20 (ih.2.2.2 _ _ _ _)) fun c h => gC h 17 (ih.2.2.1 _ _ _)) (by kernel_rfl)
theorem of_u67 (k : Nat) (l_ : List (T5).T) (width_ : Int) (length_ : Int) (r : R_u67) (h : f_u67 k l_ width_ length_ = some r) : C_u67 l_ width_ length_ r := by
  refine CC.of (fn := Tryz.f42) (by kernel_rfl) (by kernel_rfl) (by kernel_rfl) (by kernel_rfl) ?_
  unfold f_u67 at h
  exact go (K_u67 k) [] cs_u67 [.autoB [6] true []] (gT h (fun c h => gL h) fun c h => gT h (fun c h => gL h) fun c h => gC h 6 ((ev_u67 k l_ width_ length_ k).1 _ _ _ _ _)) (by kernel_rfl)
theorem cc_u67 {k : Nat} {l_ : List (T5).T} {width_ : Int} {length_ : Int} (h : (f_u67 k l_ width_ length_).isSome = true) : C_u67 l_ width_ length_ (v_u67 k l_ width_ length_) := ccG (Φ := C_u67 l_ width_ length_) h (of_u67 k l_ width_ length_)

end
theorem ref42_one_21 (k : Nat) (n : Int) (c : Ch) (hm : goods c.2.2.2) (hl : c.2.2.2.length ≤ 256) : ∀ (d i j : Nat), i + d = c.2.2.2.length → d < j →
    f_u72_21 k j n (i : Int) c = some (if fitsIn n (c.2.2.2.drop i) then 0 else 21) := by
  intro d
  induction d with
  | zero =>
    intro i j hi hj
    obtain ⟨j, rfl⟩ : ∃ q, j = q + 1 := ⟨j - 1, by omega⟩
    rw [f_u72_21, decide_eq_false (by omega : ¬ (i : Int) < (c.2.2.2.length : Int)), cond_false, List.drop_of_length_le (by omega), if_pos (by trivial)]
  | succ d ih =>
    intro i j hi hj
    obtain ⟨j, rfl⟩ : ∃ q, j = q + 1 := ⟨j - 1, by omega⟩
    have hg : good (c.2.2.2.getD i T3.dflt) := hm.mem _ (getD_mem' _ _ _ (by omega))
    rw [f_u72_21, decide_eq_true (by omega : (i : Int) < (c.2.2.2.length : Int)), cond_true, Int.toNat_natCast, ref42_ends_s k _ hg, ref42_ends_v k _ hg, if_pos ⟨by omega, by omega, rfl⟩, drop_cons' c.2.2.2 i T3.dflt (by omega), wrapS i (by omega)]
    show (bif decide (Go.AM.hi (c.2.2.2.getD i T3.dflt) ≥ n) then _ else _) = _
    by_cases h : Go.AM.hi (c.2.2.2.getD i T3.dflt) ≥ n
    · rw [decide_eq_true h, cond_true, if_neg (fun e : fitsIn n (c.2.2.2.getD i T3.dflt :: c.2.2.2.drop (i + 1)) => by have := e.1; omega)]
    · rw [decide_eq_false h, cond_false, ih (i + 1) j (by omega) (by omega)]
      by_cases h2 : fitsIn n (c.2.2.2.drop (i + 1))
      · rw [if_pos h2, if_pos (show fitsIn n (c.2.2.2.getD i T3.dflt :: c.2.2.2.drop (i + 1)) from ⟨by omega, h2⟩)]
      · rw [if_neg h2, if_neg (fun e : fitsIn n (c.2.2.2.getD i T3.dflt :: c.2.2.2.drop (i + 1)) => h2 e.2)]
theorem ref42_one_tail (k : Nat) (hk : 2100 ≤ k) (c : Ch) (w n : Int) (hw : 0 ≤ w ∧ w ≤ 12000) :
    (bif (decide (c.1 < (0 : Int)) || decide (c.2.1 < (1 : Int)) || decide (c.1 > w) || decide (c.2.1 > IntKind.i64.wrap (w - c.1))) then some 20
     else if ((f_u55 k c.2.2.2).isSome = true) then
       bif (v_u55 k c.2.2.2 != (0 : Int)) then some (v_u55 k c.2.2.2)
       else bif ((↑ (List.length c.2.2.2) : Int) == (0 : Int)) then some 10
       else if ((f_u57 k c.2.2.2).isSome = true) then
         bif (!v_u57 k c.2.2.2) then some 12
         else f_u72_21 k k n 0 c
       else none
     else none) = some (cutE c w n) := by
  unfold cutE
  rw [cut_test c w hw, ref13_Check_s k (by omega), ref13_Check_v k (by omega), Option.isSome_some, if_pos rfl, ref13_Single_s k hk, ref13_Single_v k hk, Option.isSome_some, if_pos rfl]
  by_cases h1 : c.1 < 0 ∨ c.2.1 < 1 ∨ c.1 > w ∨ c.2.1 > w - c.1
  · rw [decide_eq_true h1, cond_true, if_pos h1]
  · rw [decide_eq_false h1, cond_false, if_neg h1]
    by_cases h2 : chk c.2.2.2 = 0
    · have hc := chk_zero.1 h2
      have hl := hc.len
      rw [show (chk c.2.2.2 != 0) = false by simp [h2], cond_false, if_neg (fun h : chk c.2.2.2 ≠ 0 => h h2)]
      by_cases h3 : c.2.2.2 = []
      · rw [h3, if_pos rfl]; rfl
      · rw [if_neg h3, show (((List.length c.2.2.2 : Nat) : Int) == 0) = false from beq_false_of_ne (fun e => h3 (List.length_eq_zero_iff.1 (by omega))), cond_false]
        cases h4 : singleS c.2.2.2
        · rfl
        · rw [Bool.not_true, cond_false, if_neg (by decide)]
          refine (ref42_one_21 k n c hc.goods hl c.2.2.2.length 0 k (by omega) (by omega)).trans ?_
          rw [List.drop_zero]
    · rw [show (chk c.2.2.2 != 0) = true by simp [h2], cond_true, if_pos h2]
theorem ref42_one_s (k : Nat) (hk : 2100 ≤ k) (W L : Int) (hW : 0 ≤ W ∧ W ≤ 12000) (l : List Ro) (i : Nat) (hi : i < l.length) (hl : l.length ≤ 1000) (hp : Wl (l.take i)) : f_u72 k l (i : Int) W L = some (fitsS (l.take i) W L (l.getD i T5.dflt)) := by
  unfold f_u72 fitsS
  rw [if_pos ⟨by omega, by omega⟩, Int.toNat_natCast]
  have hlt : (l.take i).length = i := by rw [List.length_take]; omega
  obtain ⟨o, o1, o2, o3⟩ := ref42_Index_s k (l.take i) (l.drop i) (l.getD i T5.dflt).2.1 (by omega) (by omega)
  rw [List.take_append_drop, hlt] at o1 o2
  generalize hr : l.getD i T5.dflt = r at *
  by_cases h1 : r.1 < 1 ∨ r.1 > 1000000
  · rw [if_pos h1, show (decide (r.1 < 1) || decide (r.1 > 1000000)) = true by simpa using h1, cond_true]
  · rw [if_neg h1, show (decide (r.1 < 1) || decide (r.1 > 1000000)) = false by simp; omega, cond_false]
    have hs := hp.size (L := L) hW r.2.1
    by_cases h2 : r.2.1 = 0
    · rw [show (r.2.1 != 0) = false by simp [h2], cond_false, if_neg (fun h : r.2.1 ≠ 0 ∧ look (l.take i) r.2.1 = none => h.1 h2)]
      unfold sizeS
      rw [if_pos h2]
      exact ref42_one_tail k hk r.2.2 W L hW
    · rw [show (r.2.1 != 0) = true by simp [h2], cond_true, o1, o2, Option.isSome_some, if_pos rfl]
      cases e : look (l.take i) r.2.1 with
      | none =>
        rw [o3.none e, if_pos (show r.2.1 ≠ 0 ∧ (none : Option Ro) = none from ⟨h2, rfl⟩)]; rfl
      | some q =>
        obtain ⟨x, e1, e2, e3⟩ := o3.some e
        have hq := (hp q (look_some e).1).chk
        have e4 : l.getD x T5.dflt = q := by
          have := e3 T5.dflt
          rw [← this]
          have h5 := getD_app (l.take i) (l.drop i) x T5.dflt e2
          rw [List.take_append_drop] at h5
          exact h5
        have hx : (x : Int) < (l.length : Int) := by omega
        have hx0 : (0 : Int) ≤ (x : Int) := by omega
        rw [e1, if_neg (show ¬ (r.2.1 ≠ 0 ∧ some q = none) from fun h => nomatch h.2), Option.getD_some, decide_eq_false (by omega : ¬ (x : Int) < 0), cond_false, if_pos ⟨hx0, hx⟩, Int.toNat_natCast, e4, ref42_Long_s k hk _ hq, ref42_Long_v k hk _ hq, if_pos ⟨hx0, hx, rfl⟩]
        unfold sizeS
        rw [if_neg h2, e]
        unfold sizeS at hs
        rw [if_neg h2, e] at hs
        exact ref42_one_tail k hk r.2.2 _ _ hs
theorem ref42_one_v (k : Nat) (hk : 2100 ≤ k) (W L : Int) (hW : 0 ≤ W ∧ W ≤ 12000) (l : List Ro) (i : Nat) (hi : i < l.length) (hl : l.length ≤ 1000) (hp : Wl (l.take i)) : v_u72 k l (i : Int) W L = fitsS (l.take i) W L (l.getD i T5.dflt) := by
  unfold v_u72; rw [ref42_one_s k hk W L hW l i hi hl hp]; rfl

theorem ref42_Check_20 (k : Nat) (hk : 70000 ≤ k) (l : List Ro) (hl : Wl l) (hll : l.length ≤ 512) (i : Nat) (hi : i < l.length) : ∀ (d q m : Nat), q + d = i →
    f_u67_20 k (m + d + 1) l (i : Int) (q : Int) = if clash ((l.take i).drop q) (l.getD i T5.dflt) = true then some 12 else f_u67_17 k m l (IntKind.i64.wrap ((i : Int) + 1)) := by
  intro d
  have hr : Small (l.getD i T5.dflt).2.2 := hl _ (getD_mem' _ _ _ (by omega))
  have hlt : (l.take i).length = i := by rw [List.length_take]; omega
  induction d with
  | zero =>
    intro q m hq
    rw [f_u67_20, decide_eq_false (by omega : ¬ (q : Int) < (i : Int)), cond_false, List.drop_of_length_le (by omega), if_neg (by unfold clash; rw [List.any_nil]; decide)]
  | succ d ih =>
    intro q m hq
    have hs : Small (l.getD q T5.dflt).2.2 := hl _ (getD_mem' _ _ _ (by omega))
    have hc : clash ((l.take i).drop q) (l.getD i T5.dflt) = (((l.getD i T5.dflt).2.1 == (l.getD q T5.dflt).2.1) && ovlS (l.getD i T5.dflt).2.2 (l.getD q T5.dflt).2.2 || clash ((l.take i).drop (q + 1)) (l.getD i T5.dflt)) := by
      have h5 := getD_app (l.take i) (l.drop i) q T5.dflt (by omega)
      rw [List.take_append_drop] at h5
      rw [h5]
      unfold clash
      rw [drop_cons' (l.take i) q T5.dflt (by omega), List.any_cons]
    obtain ⟨a1, a2, a3, a4⟩ := hr
    obtain ⟨b1, b2, b3, b4⟩ := hs
    rw [show m + (d + 1) + 1 = (m + d + 1) + 1 from rfl, f_u67_20, decide_eq_true (by omega : (q : Int) < (i : Int)), cond_true, if_pos ⟨by omega, by omega⟩, if_pos ⟨by omega, by omega⟩, Int.toNat_natCast, Int.toNat_natCast, hc, wrapS q (by omega), ih (q + 1) m (by omega)]
    generalize clash ((l.take i).drop (q + 1)) (l.getD i T5.dflt) = z
    generalize l.getD i T5.dflt = r at *
    generalize l.getD q T5.dflt = b at *
    rw [wrap_id (i := b.2.2.1 + b.2.2.2.1) (by omega) (by omega), wrap_id (i := r.2.2.1 + r.2.2.2.1) (by omega) (by omega)]
    unfold ovlS
    cases e : ((r.2.1 == b.2.1) && decide (r.2.2.1 < b.2.2.1 + b.2.2.2.1) && decide (b.2.2.1 < r.2.2.1 + r.2.2.2.1))
    · rw [cond_false, if_pos ⟨by omega, by omega, by omega, by omega, rfl⟩]
      rw [show ((r.2.1 == b.2.1) && ((decide (r.2.2.1 < b.2.2.1 + b.2.2.2.1) && decide (b.2.2.1 < r.2.2.1 + r.2.2.2.1)) && meetS r.2.2.2.2.2 b.2.2.2.2.2)) = false by rw [← Bool.and_assoc, ← Bool.and_assoc, e, Bool.false_and], Bool.false_or]
    · rw [cond_true, ref42_meet_s k hk _ _ a4 b4, ref42_meet_v k hk _ _ a4 b4, if_pos ⟨by omega, by omega, by omega, by omega, rfl, rfl⟩, Bool.true_and]
      rw [show ((r.2.1 == b.2.1) && ((decide (r.2.2.1 < b.2.2.1 + b.2.2.2.1) && decide (b.2.2.1 < r.2.2.1 + r.2.2.2.1)) && meetS r.2.2.2.2.2 b.2.2.2.2.2)) = meetS r.2.2.2.2.2 b.2.2.2.2.2 by rw [← Bool.and_assoc, ← Bool.and_assoc, e, Bool.true_and]]
      cases meetS r.2.2.2.2.2 b.2.2.2.2.2
      · rw [cond_false, Bool.false_or]
      · rfl
set_option maxRecDepth 20000 in
theorem ref42_Check_17 (k : Nat) (hk : 70000 ≤ k) (l : List Ro) (hl : Wl l) (hll : l.length ≤ 512) : ∀ (d i j : Nat), i + d = l.length → d * 514 < j →
    f_u67_17 k j l (i : Int) = some (if clashGo (l.take i) (l.drop i) = true then 12 else 0) := by
  intro d
  induction d with
  | zero =>
    intro i j hi hj
    obtain ⟨j, rfl⟩ : ∃ q, j = q + 1 := ⟨j - 1, by omega⟩
    rw [f_u67_17, decide_eq_false (by omega : ¬ (i : Int) < (l.length : Int)), cond_false, List.drop_of_length_le (by omega), clashGo, if_neg (by decide)]
  | succ d ih =>
    intro i j hi hj
    obtain ⟨j, rfl⟩ : ∃ q, j = (q + i + 1) + 1 := ⟨j - i - 2, by omega⟩
    have h20 := ref42_Check_20 k hk l hl hll i (by omega) i 0 j (by omega)
    rw [f_u67_17, decide_eq_true (by omega : (i : Int) < (l.length : Int)), cond_true]
    refine h20.trans ?_
    rw [List.drop_zero, wrapS i (by omega), ih (i + 1) j (by omega) (by omega), drop_cons' l i T5.dflt (by omega), clashGo, take_snoc l i T5.dflt (by omega)]
    cases clash (l.take i) (l.getD i T5.dflt)
    · rw [if_neg (by decide), Bool.false_or]
    · rfl
set_option maxRecDepth 20000 in
theorem ref42_Check_12 (k : Nat) (hk : 70000 ≤ k) (l : List Ro) (hl : Wl l) (hll : l.length ≤ 512) : ∀ (d i j : Nat), i + d = l.length → d + 1 + 263168 < j →
    f_u67_12 k j l (i : Int) = some (if dupGo (l.take i) (l.drop i) = true then 6 else if clashGo [] l = true then 12 else 0) := by
  intro d
  induction d with
  | zero =>
    intro i j hi hj
    obtain ⟨j, rfl⟩ : ∃ q, j = q + 1 := ⟨j - 1, by omega⟩
    have h17 := ref42_Check_17 k hk l hl hll l.length 0 j (by omega) (by omega)
    rw [f_u67_12, decide_eq_false (by omega : ¬ (i : Int) < (l.length : Int)), cond_false, List.drop_of_length_le (by omega), dupGo, if_neg (by decide)]
    exact h17
  | succ d ih =>
    intro i j hi hj
    obtain ⟨j, rfl⟩ : ∃ q, j = q + 1 := ⟨j - 1, by omega⟩
    have hlt : (l.take i).length = i := by rw [List.length_take]; omega
    obtain ⟨o, o1, o2, o3⟩ := ref42_Index_s k (l.take i) (l.drop i) (l.getD i T5.dflt).1 (by omega) (by omega)
    rw [List.take_append_drop, hlt] at o1 o2
    rw [f_u67_12, decide_eq_true (by omega : (i : Int) < (l.length : Int)), cond_true, Int.toNat_natCast, o1, o2, if_pos ⟨by omega, by omega, rfl⟩, drop_cons' l i T5.dflt (by omega), dupGo, wrapS i (by omega), ih (i + 1) j (by omega) (by omega), take_snoc l i T5.dflt (by omega)]
    cases e : look (l.take i) (l.getD i T5.dflt).1 with
    | none => rw [o3.none e]; rfl
    | some q =>
      obtain ⟨x, e1, _, _⟩ := o3.some e
      rw [e1, Option.getD_some, decide_eq_true (by omega : (x : Int) ≥ 0)]; rfl
theorem ref42_Check_6 (k : Nat) (hk : 70000 ≤ k) (l : List Ro) (W L : Int) (hW : 0 ≤ W ∧ W ≤ 12000) (hll : l.length ≤ 512) : ∀ (d i j : Nat), i + d = l.length → d + 2 + 512 + 263168 < j → Wl (l.take i) →
    f_u67_6 k j l W L (i : Int) = some (if errsGo W L (l.take i) (l.drop i) ≠ 0 then errsGo W L (l.take i) (l.drop i) else if dupGo [] l = true then 6 else if clashGo [] l = true then 12 else 0) := by
  intro d
  induction d with
  | zero =>
    intro i j hi hj hw
    obtain ⟨j, rfl⟩ : ∃ q, j = q + 1 := ⟨j - 1, by omega⟩
    rw [List.take_of_length_le (by omega : l.length ≤ i)] at hw
    have h12 := ref42_Check_12 k hk l hw hll l.length 0 j (by omega) (by omega)
    rw [f_u67_6, decide_eq_false (by omega : ¬ (i : Int) < (l.length : Int)), cond_false, List.drop_of_length_le (by omega), errsGo, if_neg (fun h => h rfl)]
    exact h12
  | succ d ih =>
    intro i j hi hj hw
    obtain ⟨j, rfl⟩ : ∃ q, j = q + 1 := ⟨j - 1, by omega⟩
    have ht := take_snoc l i T5.dflt (by omega)
    rw [f_u67_6, decide_eq_true (by omega : (i : Int) < (l.length : Int)), cond_true, ref42_one_s k (by omega) W L hW l i (by omega) (by omega) hw, ref42_one_v k (by omega) W L hW l i (by omega) (by omega) hw, Option.isSome_some, if_pos rfl, drop_cons' l i T5.dflt (by omega), errsGo, wrapS i (by omega)]
    by_cases h1 : fitsS (l.take i) W L (l.getD i T5.dflt) = 0
    · have hw2 : Wl (l.take (i + 1)) := by rw [ht]; exact hw.snoc hW h1
      have := ih (i + 1) j (by omega) (by omega) hw2
      rw [h1]
      show f_u67_6 k j l W L ((i + 1 : Nat) : Int) = _
      rw [this, ht]
      rfl
    · rw [show (fitsS (l.take i) W L (l.getD i T5.dflt) != 0) = true from bne_iff_ne.2 h1, cond_true, if_pos h1, if_pos h1]
theorem ref42_Check_s (k : Nat) (hk : 300000 ≤ k) (l : List Ro) (W L : Int) : f_u67 k l W L = some (checkS l W L) := by
  unfold f_u67 checkS
  by_cases h1 : W < 1 ∨ W > 12000 ∨ L < 0 ∨ L > 17179869184
  · rw [if_pos h1, show (decide (W < (1 : Int)) || decide (W > (12000 : Int)) || decide (L < (0 : Int)) || decide (L > (17179869184 : Int))) = true by simp; omega]
    rfl
  · rw [if_neg h1, show (decide (W < (1 : Int)) || decide (W > (12000 : Int)) || decide (L < (0 : Int)) || decide (L > (17179869184 : Int))) = false by simp; omega, cond_false]
    by_cases h2 : l.length > 512
    · rw [if_pos h2, decide_eq_true (by omega : (l.length : Int) > 512)]
      rfl
    · rw [if_neg h2, decide_eq_false (by omega : ¬ (l.length : Int) > 512), cond_false]
      have := ref42_Check_6 k (by omega) l W L (by omega) (by omega) l.length 0 k (by omega) (by omega) (fun r hr => by simp at hr)
      exact this
end Go.AM
namespace Go.AM
open Go

/-! ### what a valid register says of its rolls -/
theorem look_left {a : List Ro} {id : Int} {q : Ro} (b : List Ro) (h : look a id = some q) : look (a ++ b) id = some q := by
  rw [look_append, h]; rfl
theorem size_left {a : List Ro} {W L id : Int} (b : List Ro) (h : id = 0 ∨ ∃ q, look a id = some q) : sizeS (a ++ b) W L id = sizeS a W L id := by
  unfold sizeS
  by_cases h0 : id = 0
  · rw [if_pos h0, if_pos h0]
  · rw [if_neg h0, if_neg h0]
    rcases h with h | ⟨q, h⟩
    · exact absurd h h0
    · rw [look_left b h, h]
structure RollOk (l : List Ro) (W L : Int) (r : Ro) : Prop where
  look : look l r.1 = some r
  pos : 1 ≤ r.1
  parent : r.2.1 = 0 ∨ ∃ q, Go.AM.look l r.2.1 = some q
  cut : CutOk r.2.2 (sizeS l W L r.2.1).1 (sizeS l W L r.2.1).2
theorem Okp.ro {W L : Int} {l : List Ro} (h : Okp W L l) : ∀ r ∈ l, RollOk l W L r := by
  induction h with
  | nil => intro r hr; simp at hr
  | snoc p r h f n c ih =>
    intro x hx
    rcases List.mem_append.1 hx with hx | hx
    · obtain ⟨a, b, c, d⟩ := ih x hx
      refine ⟨look_left _ a, b, ?_, by rw [size_left _ c]; exact d⟩
      rcases c with c | ⟨q, c⟩
      · exact .inl c
      · exact .inr ⟨q, look_left _ c⟩
    · rw [List.mem_singleton] at hx
      subst hx
      obtain ⟨a, b, c, d⟩ := f
      refine ⟨?_, a, ?_, by rw [size_left _ c]; exact d⟩
      · rw [look_append, n, Option.none_or]; unfold Go.AM.look; simp
      · rcases c with c | ⟨q, c⟩
        · exact .inl c
        · exact .inr ⟨q, look_left _ c⟩
/-- a roll that is cut from the web in n cuts at the most -/
inductive Anc (l : List Ro) : Nat → Int → Prop
  | root (n : Nat) : Anc l n 0
  | step (n : Nat) (id : Int) (r : Ro) (h0 : id ≠ 0) (h : look l id = some r) (a : Anc l n r.2.1) : Anc l (n + 1) id
theorem Anc.mono {l : List Ro} {n m : Nat} {id : Int} (h : Anc l n id) (hm : n ≤ m) : Anc l m id := by
  induction h generalizing m with
  | root n => exact .root m
  | step n id r h0 h a ih =>
    obtain ⟨m, rfl⟩ : ∃ q, m = q + 1 := ⟨m - 1, by omega⟩
    exact .step m id r h0 h (ih (by omega))
theorem Anc.left {l : List Ro} {n : Nat} {id : Int} (h : Anc l n id) (t : List Ro) : Anc (l ++ t) n id := by
  induction h with
  | root n => exact .root n
  | step n id r h0 h a ih => exact .step n id r h0 (look_left t h) ih
theorem Okp.anc {W L : Int} {l : List Ro} (h : Okp W L l) : ∀ r ∈ l, Anc l l.length r.1 := by
  induction h with
  | nil => intro r hr; simp at hr
  | snoc p r h f n c ih =>
    intro x hx
    rw [List.length_append, List.length_singleton]
    rcases List.mem_append.1 hx with hx | hx
    · exact ((ih x hx).mono (by omega)).left _
    · rw [List.mem_singleton] at hx
      subst hx
      obtain ⟨a, b, c, d⟩ := f
      refine .step p.length x.1 x (by omega) (by rw [look_append, n, Option.none_or]; unfold look; simp) ?_
      rcases c with c | ⟨q, c⟩
      · rw [c]; exact .root _
      · have := (ih q (look_some c).1).left [x]
        rw [(look_some c).2] at this
        exact this
theorem Reg.anc {W L : Int} {l : List Ro} (h : Reg l W L) {id : Int} (hi : id = 0 ∨ ∃ q, look l id = some q) : Anc l 512 id := by
  rcases hi with rfl | ⟨q, e⟩
  · exact .root _
  · have := h.ok.anc q (look_some e).1
    rw [(look_some e).2] at this
    exact this.mono h.num
theorem Reg.small {W L : Int} {l : List Ro} (h : Reg l W L) : ∀ (n : Nat) (id : Int), Anc l n id → 0 ≤ (sizeS l W L id).1 ∧ (sizeS l W L id).1 ≤ 12000 ∧ 0 ≤ (sizeS l W L id).2 ∧ (sizeS l W L id).2 ≤ 17179869184 := by
  intro n id ha
  have hw := h.w
  have hl := h.len
  induction ha with
  | root n => unfold sizeS; rw [if_pos rfl]; omega
  | step n id r h0 e a ih =>
    have ro := h.ok.ro r (look_some e).1
    obtain ⟨c1, c2, c3, c4, _⟩ := ro.cut
    have h1 : (sizeS l W L id) = (r.2.2.2.1, lenS r.2.2.2.2.2) := by unfold sizeS; rw [if_neg h0, e]
    rw [h1]
    have h2 := lenS_nonneg c4.goods
    have h3 := c4.tot
    refine ⟨?_, ?_, ?_, ?_⟩
    · show 0 ≤ r.2.2.2.1; omega
    · show r.2.2.2.1 ≤ _; omega
    · show 0 ≤ lenS r.2.2.2.2.2; omega
    · show lenS r.2.2.2.2.2 ≤ _; omega

/-! ### points -/
def placeS (r : Ro) (p : Pt) : Pt := (r.2.1, (if r.2.2.2.2.1 = true then r.2.2.1 + r.2.2.2.1 - 1 - p.2.1 else r.2.2.1 + p.2.1), imgAt r.2.2.2.2.2 p.2.2)
structure On (l : List Ro) (W L : Int) (p : Pt) : Prop where
  a0 : 0 ≤ p.2.1
  a1 : p.2.1 < (sizeS l W L p.1).1
  b0 : 0 ≤ p.2.2
  b1 : p.2.2 < (sizeS l W L p.1).2
theorem imgAt_mem : ∀ {m : List Rn} {x : Int}, goods m → 0 ≤ x → x < lenS m → ∃ r ∈ m, lo r ≤ imgAt m x ∧ imgAt m x ≤ hi r
  | [], x, _, h0, h1 => by simp [lenS] at h1; omega
  | r :: t, x, ⟨g1, g2⟩, h0, h1 => by
    rw [lenS] at h1
    unfold imgAt
    by_cases h : x < r.2.1
    · rw [if_pos h]
      exact ⟨r, by simp, img_mem h0 h⟩
    · rw [if_neg h]
      obtain ⟨q, hq, a⟩ := imgAt_mem g2 (by omega : 0 ≤ x - r.2.1) (by omega)
      exact ⟨q, by simp [hq], a⟩
theorem fits_mem {n : Int} : ∀ {l : List Rn}, fitsIn n l → ∀ r ∈ l, hi r < n
  | [], _, r, h => by simp at h
  | u :: t, ⟨h1, h2⟩, r, hr => by
    rcases List.mem_cons.1 hr with rfl | hr
    · exact h1
    · exact fits_mem h2 r hr
theorem On.place {l : List Ro} {W L : Int} {p : Pt} {r : Ro} (hp : p.1 ≠ 0) (h : On l W L p) (e : look l p.1 = some r) (ro : RollOk l W L r) : On l W L (placeS r p) := by
  obtain ⟨a0, a1, b0, b1⟩ := h
  obtain ⟨c1, c2, c3, c4, c5, c6, c7⟩ := ro.cut
  have h1 : (sizeS l W L p.1) = (r.2.2.2.1, lenS r.2.2.2.2.2) := by unfold sizeS; rw [if_neg hp, e]
  rw [h1] at a1 b1
  have a1 : p.2.1 < r.2.2.2.1 := a1
  have b1 : p.2.2 < lenS r.2.2.2.2.2 := b1
  obtain ⟨x, hx, i1, i2⟩ := imgAt_mem c4.goods b0 b1
  have h2 := fits_mem c7 x hx
  obtain ⟨l1, l2, l3, l4⟩ := (c4.goods.mem x hx).lohi
  refine ⟨?_, ?_, ?_, ?_⟩
  · show 0 ≤ (if r.2.2.2.2.1 = true then _ else _ : Int)
    split <;> omega
  · show (if r.2.2.2.2.1 = true then _ else _ : Int) < (sizeS l W L r.2.1).1
    split <;> omega
  · show 0 ≤ imgAt _ _; omega
  · show imgAt _ _ < (sizeS l W L r.2.1).2; omega

structure Kno (l : List Ro) (W L id : Int) : Prop where
  reg : Reg l W L
  kn : id = 0 ∨ ∃ q, look l id = some q
theorem ref42_Ix (k : Nat) (l : List Ro) (id : Int) (hp : l.length ≤ 100000) (hk : l.length < k) : ∃ o : Option Int, f_u68 k l (l.length : Int) id = some (o.getD (-1)) ∧ v_u68 k l (l.length : Int) id = o.getD (-1) ∧ At l id o := by
  have := ref42_Index_s k l [] id hp hk
  rw [List.append_nil] at this
  exact this
theorem Reg.wl {l : List Ro} {W L : Int} (h : Reg l W L) : Wl l := fun r hr => by
  have ro := h.ok.ro r hr
  obtain ⟨c1, c2, c3, c4, _⟩ := ro.cut
  have := h.small 512 r.2.1 (h.anc ro.parent)
  exact ⟨c1, c2, by omega, c4⟩

end Go.AM
namespace Go.AM
open Go Go.Proofs
noncomputable section
abbrev R_u18 : Type := Int
def res_u18 (r : R_u18) : AV := .r (.v (.int .i64 r))
def bo_u18 (r_ : T5.T) (r : R_u18) : List (Nat × Blk) := []
def args_u18 (r_ : T5.T) : List AV := [.agg (rvs (enc T5 r_))]
def bin_u18 (r_ : T5.T) : List Blk := []
abbrev C_u18 (r_ : T5.T) (r : R_u18) : Prop := CC Tryz.prog 76 (args_u18 r_) (bin_u18 r_) (res_u18 r) (bo_u18 r_ r)
def f_u18 (k : Nat) (r_ : T5.T) : Option R_u18 :=
  if ((f_u36 k r_.2.2.2.2.2).isSome = true) then
  some ((v_u36 k r_.2.2.2.2.2).1)
  else none
def v_u18 (k : Nat) (r_ : T5.T) : R_u18 := (f_u18 k r_).getD 0
def ke_u18 (k : Nat) : Ke := (76, fun xs => match xs with
  | [_] => some [false]
  | _ => none, fun xs bs => match xs, bs with
  | [.agg qr_], [] => (decS [] T5 qr_).bind fun r_ => some (.one (res_u18 (v_u18 k r_), bo_u18 r_ (v_u18 k r_)))
  | _, _ => none)
theorem of_u18 (k : Nat) (r_ : T5.T) (r : R_u18) (h : f_u18 k r_ = some r) : C_u18 r_ r := by
  refine CC.of (fn := Tryz.f76) (by kernel_rfl) (by kernel_rfl) (by kernel_rfl) (by kernel_rfl) ?_
  unfold f_u18 at h
  exact go (mkK [ke_u36 k]) [] [] [.autoB [2] true []] (gN1 h (fun q => cc_u36 q) fun h => gL h) (by kernel_rfl)
theorem cc_u18 {k : Nat} {r_ : T5.T} (h : (f_u18 k r_).isSome = true) : C_u18 r_ (v_u18 k r_) := ccG (Φ := C_u18 r_) h (of_u18 k r_)
abbrev R_u19 : Type := Int
def res_u19 (r : R_u19) : AV := .r (.v (.int .i64 r))
def bo_u19 (r_ : T5.T) (r : R_u19) : List (Nat × Blk) := []
def args_u19 (r_ : T5.T) : List AV := [.agg (rvs (enc T5 r_))]
def bin_u19 (r_ : T5.T) : List Blk := []
abbrev C_u19 (r_ : T5.T) (r : R_u19) : Prop := CC Tryz.prog 77 (args_u19 r_) (bin_u19 r_) (res_u19 r) (bo_u19 r_ r)
def st_u19_3 (y0 : Int) (y1 : List (T3).T) (y2 : Int) (y3 : Int) : St := ⟨mkS 30 [(3, .r (.v (.int .i64 y0))), (8, .r (.ro T3 y1)), (9, .r (.v (.int .i64 y2))), (10, .r (.v (.int .i64 y3)))], []⟩
def f_u19_3 (k : Nat) : Nat → Int → List (T3).T → Int → Int → Option R_u19
  | 0, _, _, _, _ => none
  | j + 1, y0, y1, y2, y3 =>
  bif (decide (y3 < y2)) then
  if (0 ≤ y3) ∧ (y3 < (↑y1.length : Int)) then
  bif (y1.getD y3.toNat T3.dflt).2.2 then
  f_u19_3 k j ((if IntKind.i64.wrap (IntKind.i64.wrap ((y1.getD y3.toNat T3.dflt).1 - (y1.getD y3.toNat T3.dflt).2.1) + 1) < if (y1.getD y3.toNat T3.dflt).1 < y0 then (y1.getD y3.toNat T3.dflt).1 else y0 then IntKind.i64.wrap (IntKind.i64.wrap ((y1.getD y3.toNat T3.dflt).1 - (y1.getD y3.toNat T3.dflt).2.1) + 1) else if (y1.getD y3.toNat T3.dflt).1 < y0 then (y1.getD y3.toNat T3.dflt).1 else y0)) y1 y2 ((IntKind.i64.wrap (y3 + 1)))
  else
  f_u19_3 k j ((if (y1.getD y3.toNat T3.dflt).1 < y0 then (y1.getD y3.toNat T3.dflt).1 else y0)) y1 y2 ((IntKind.i64.wrap (y3 + 1)))
  else none
  else
  some y0
def f_u19 (k : Nat) (r_ : T5.T) : Option R_u19 :=
  f_u19_3 k k 17179869184 r_.2.2.2.2.2 ((↑ (List.length r_.2.2.2.2.2) : Int)) 0
def v_u19 (k : Nat) (r_ : T5.T) : R_u19 := (f_u19 k r_).getD 0
def ke_u19 (k : Nat) : Ke := (77, fun xs => match xs with
  | [_] => some [false]
  | _ => none, fun xs bs => match xs, bs with
  | [.agg qr_], [] => (decS [] T5 qr_).bind fun r_ => some (.one (res_u19 (v_u19 k r_), bo_u19 r_ (v_u19 k r_)))
  | _, _ => none)
def cs_u19 : List (Nat × List Cmd) := [(3, [.autoB [3, 8, 9, 10] false []])]
abbrev E_u19 (r_ : T5.T) (todo : List Item) (st : St) (o : Option R_u19) : Prop := ∀ r, o = some r → Ev Tryz.prog Tryz.f77 0 todo st (res_u19 r) (bo_u19 r_ r)
theorem ev_u19 (k : Nat) (r_ : T5.T) : ∀ j, (∀ (y0 : Int) (y1 : List (T3).T) (y2 : Int) (y3 : Int), E_u19 r_ (placeAt Tryz.f77 3) (st_u19_3 y0 y1 y2 y3) (f_u19_3 k j y0 y1 y2 y3))
  | 0 => fun _ _ _ _ _ h => (nomatch h)
  | j + 1 => by
    have ih := @ev_u19 k r_ j
    · intro y0 y1 y2 y3 r h
      rw [f_u19_3] at h
      exact go (mkK []) [] cs_u19 [.autoB [2] true []] (gT h (fun c h => gN2 h fun h => gT h (fun c h => gC h 3 (ih _ _ _ _ _)) fun c h => gC h 3 (ih _ _ _ _ _)) fun c h => gL h) (by kernel_rfl)
theorem of_u19 (k : Nat) (r_ : T5.T) (r : R_u19) (h : f_u19 k r_ = some r) : C_u19 r_ r := by
  refine CC.of (fn := Tryz.f77) (by kernel_rfl) (by kernel_rfl) (by kernel_rfl) (by kernel_rfl) ?_
  unfold f_u19 at h
  exact go (mkK []) [] cs_u19 [.autoB [2] true []] (gC h 3 ((ev_u19 k r_ k) _ _ _ _ _)) (by kernel_rfl)
theorem cc_u19 {k : Nat} {r_ : T5.T} (h : (f_u19 k r_).isSome = true) : C_u19 r_ (v_u19 k r_) := ccG (Φ := C_u19 r_) h (of_u19 k r_)
abbrev R_u10 : Type := Int
def res_u10 (r : R_u10) : AV := .r (.v (.int .i64 r))
def bo_u10 (b_ : T17.T) (b_22 : List (T18).T) (scrapped_ : List ((I).T × (RTy.bool).T)) (r : R_u10) : List (Nat × Blk) := [(0, .var 140 (rvs (enc T17 b_) ++ [.own 1 0])), (0, .row 54 T18 b_22), (0, .map false I RTy.bool scrapped_)]
def args_u10 (b_ : T17.T) (b_22 : List (T18).T) (scrapped_ : List ((I).T × (RTy.bool).T)) : List AV := [.ptr 0 0 0, .own 2 0]
def bin_u10 (b_ : T17.T) (b_22 : List (T18).T) (scrapped_ : List ((I).T × (RTy.bool).T)) : List Blk := [.var 140 (rvs (enc T17 b_) ++ [.own 1 0]), .row 54 T18 b_22, .map false I RTy.bool scrapped_]
abbrev C_u10 (b_ : T17.T) (b_22 : List (T18).T) (scrapped_ : List ((I).T × (RTy.bool).T)) (r : R_u10) : Prop := CC Tryz.prog 78 (args_u10 b_ b_22 scrapped_) (bin_u10 b_ b_22 scrapped_) (res_u10 r) (bo_u10 b_ b_22 scrapped_ r)
def st_u10_3 (b_ : T17.T) (b_22 : List (T18).T) (scrapped_ : List ((I).T × (RTy.bool).T)) (y0 : Int) (y1 : List (T5).T) (y2 : Int) (y3 : Int) : St := ⟨mkS 67 [(0, .ptr 0 0 0), (1, .own 2 0), (5, .r (.v (.int .i64 y0))), (15, .r (.ro T5 y1)), (16, .r (.v (.int .i64 y2))), (17, .r (.v (.int .i64 y3)))], [(0, 0, .var 140 (rvs (enc T17 b_) ++ [.own 1 0])), (1, 0, .row 54 T18 b_22), (2, 0, .map false I RTy.bool scrapped_)]⟩
def st_u10_10 (b_ : T17.T) (b_22 : List (T18).T) (scrapped_ : List ((I).T × (RTy.bool).T)) (y0 : Int) (y1 : List (T14).T) (y2 : Int) (y3 : Int) : St := ⟨mkS 67 [(5, .r (.v (.int .i64 y0))), (53, .r (.ro T14 y1)), (54, .r (.v (.int .i64 y2))), (55, .r (.v (.int .i64 y3)))], [(0, 0, .var 140 (rvs (enc T17 b_) ++ [.own 1 0])), (1, 0, .row 54 T18 b_22), (2, 0, .map false I RTy.bool scrapped_)]⟩
mutual
def f_u10_3 (k : Nat) (b_ : T17.T) (b_22 : List (T18).T) (scrapped_ : List ((I).T × (RTy.bool).T)) : Nat → Int → List (T5).T → Int → Int → Option R_u10
  | 0, _, _, _, _ => none
  | j + 1, y0, y1, y2, y3 =>
  bif (decide (y3 < y2)) then
  if (0 ≤ y3) ∧ (y3 < (↑y1.length : Int)) then
  if ((f_u18 k (y1.getD y3.toNat T5.dflt)).isSome = true) then
  bif (! (mget I (y1.getD y3.toNat T5.dflt).1 scrapped_).getD false) then
  if (0 ≤ y3) ∧ (y3 < (↑ (List.length b_.2.2.2.2.2.2.2.2.2.2.2.2.1) : Int)) then
  f_u10_3 k b_ b_22 scrapped_ j ((IntKind.i64.wrap (y0 + IntKind.i64.wrap ((y1.getD y3.toNat T5.dflt).2.2.2.1 * IntKind.i64.wrap (v_u18 k (y1.getD y3.toNat T5.dflt) - if (if v_u18 k (y1.getD y3.toNat T5.dflt) < List.getD b_.2.2.2.2.2.2.2.2.2.2.2.2.1 y3.toNat I.dflt then v_u18 k (y1.getD y3.toNat T5.dflt) else List.getD b_.2.2.2.2.2.2.2.2.2.2.2.2.1 y3.toNat I.dflt) > 0 then if v_u18 k (y1.getD y3.toNat T5.dflt) < List.getD b_.2.2.2.2.2.2.2.2.2.2.2.2.1 y3.toNat I.dflt then v_u18 k (y1.getD y3.toNat T5.dflt) else List.getD b_.2.2.2.2.2.2.2.2.2.2.2.2.1 y3.toNat I.dflt else 0))))) y1 y2 ((IntKind.i64.wrap (y3 + 1)))
  else none
  else
  f_u10_3 k b_ b_22 scrapped_ j y0 y1 y2 ((IntKind.i64.wrap (y3 + 1)))
  else none
  else none
  else
  f_u10_10 k b_ b_22 scrapped_ j y0 b_.2.2.2.2.2.2.2.2.2.2.2.2.2.2.2.2.2.2.2.2.1 ((↑ (List.length b_.2.2.2.2.2.2.2.2.2.2.2.2.2.2.2.2.2.2.2.2.1) : Int)) 0
def f_u10_10 (k : Nat) (b_ : T17.T) (b_22 : List (T18).T) (scrapped_ : List ((I).T × (RTy.bool).T)) : Nat → Int → List (T14).T → Int → Int → Option R_u10
  | 0, _, _, _, _ => none
  | j + 1, y0, y1, y2, y3 =>
  bif (decide (y3 < y2)) then
  if (0 ≤ y3) ∧ (y3 < (↑y1.length : Int)) then
  f_u10_10 k b_ b_22 scrapped_ j ((IntKind.i64.wrap (y0 + if (if 206158430208000 < (y1.getD y3.toNat T14.dflt).2.2.2 then 206158430208000 else (y1.getD y3.toNat T14.dflt).2.2.2) > 0 then if 206158430208000 < (y1.getD y3.toNat T14.dflt).2.2.2 then 206158430208000 else (y1.getD y3.toNat T14.dflt).2.2.2 else 0))) y1 y2 ((IntKind.i64.wrap (y3 + 1)))
  else none
  else
  some y0
end
def f_u10 (k : Nat) (b_ : T17.T) (b_22 : List (T18).T) (scrapped_ : List ((I).T × (RTy.bool).T)) : Option R_u10 :=
  f_u10_3 k b_ b_22 scrapped_ k 0 b_.2.2.2.2.2.2.2.2.2.2.2.1 ((↑ (List.length b_.2.2.2.2.2.2.2.2.2.2.2.1) : Int)) 0
def v_u10 (k : Nat) (b_ : T17.T) (b_22 : List (T18).T) (scrapped_ : List ((I).T × (RTy.bool).T)) : R_u10 := (f_u10 k b_ b_22 scrapped_).getD 0
def ke_u10 (k : Nat) : Ke := (78, fun xs => match xs with
  | [.ptr _ _ _, .own _ _] => some [true, true, true, true, true]
  | _ => none, fun xs bs => match xs, bs with
  | [.ptr 0 0 0, .own 2 0], [.var 140 qb_, .row 54 tb_22_ qb_22, .map false kscrapped__ tscrapped__ qscrapped_] => (decS [] T17 (qb_.take 22)).bind fun b_ => (castL tb_22_ T18 qb_22).bind fun b_22 => (castM kscrapped__ tscrapped__ I RTy.bool qscrapped_).bind fun scrapped_ => some (.one (res_u10 (v_u10 k b_ b_22 scrapped_), bo_u10 b_ b_22 scrapped_ (v_u10 k b_ b_22 scrapped_)))
  | _, _ => none)
def cs_u10 : List (Nat × List Cmd) := [(3, [.autoB [0, 1, 5, 15, 16, 17] false []]), (10, [.autoB [5, 53, 54, 55] false []])]
abbrev E_u10 (b_ : T17.T) (b_22 : List (T18).T) (scrapped_ : List ((I).T × (RTy.bool).T)) (todo : List Item) (st : St) (o : Option R_u10) : Prop := ∀ r, o = some r → Ev Tryz.prog Tryz.f78 3 todo st (res_u10 r) (bo_u10 b_ b_22 scrapped_ r)
theorem ev_u10 (k : Nat) (b_ : T17.T) (b_22 : List (T18).T) (scrapped_ : List ((I).T × (RTy.bool).T)) : ∀ j, (∀ (y0 : Int) (y1 : List (T5).T) (y2 : Int) (y3 : Int), E_u10 b_ b_22 scrapped_ (placeAt Tryz.f78 3) (st_u10_3 b_ b_22 scrapped_ y0 y1 y2 y3) (f_u10_3 k b_ b_22 scrapped_ j y0 y1 y2 y3)) ∧ (∀ (y0 : Int) (y1 : List (T14).T) (y2 : Int) (y3 : Int), E_u10 b_ b_22 scrapped_ (placeAt Tryz.f78 10) (st_u10_10 b_ b_22 scrapped_ y0 y1 y2 y3) (f_u10_10 k b_ b_22 scrapped_ j y0 y1 y2 y3))
  | 0 => ⟨fun _ _ _ _ _ h => (nomatch h), fun _ _ _ _ _ h => (nomatch h)⟩
  | j + 1 => by
    have ih := @ev_u10 k b_ b_22 scrapped_ j
    refine ⟨?_, ?_⟩
    · intro y0 y1 y2 y3 r h
      rw [f_u10_3] at h
      exact go (mkK [ke_u18 k]) [] cs_u10 [.autoB [4] true []] (gT h (fun c h => gN2 h fun h => gN1 h (fun q => cc_u18 q) fun h => gT h (fun c h => gN2 h fun h => gC h 3 (ih.1 _ _ _ _ _)) fun c h => gC h 3 (ih.1 _ _ _ _ _)) fun c h => gC h 10 (ih.2 _ _ _ _ _)) (by kernel_rfl)
    · intro y0 y1 y2 y3 r h
      rw [f_u10_10] at h
      exact go (mkK [ke_u18 k]) [] cs_u10 [.autoB [4] true []] (gT h (fun c h => gN2 h fun h => gC h 10 (ih.2 _ _ _ _ _)) fun c h => gL h) (by kernel_rfl)
theorem of_u10 (k : Nat) (b_ : T17.T) (b_22 : List (T18).T) (scrapped_ : List ((I).T × (RTy.bool).T)) (r : R_u10) (h : f_u10 k b_ b_22 scrapped_ = some r) : C_u10 b_ b_22 scrapped_ r := by
  refine CC.of (fn := Tryz.f78) (by kernel_rfl) (by kernel_rfl) (by kernel_rfl) (by kernel_rfl) ?_
  unfold f_u10 at h
  exact go (mkK [ke_u18 k]) [] cs_u10 [.autoB [4] true []] (gC h 3 ((ev_u10 k b_ b_22 scrapped_ k).1 _ _ _ _ _)) (by kernel_rfl)
theorem cc_u10 {k : Nat} {b_ : T17.T} {b_22 : List (T18).T} {scrapped_ : List ((I).T × (RTy.bool).T)} (h : (f_u10 k b_ b_22 scrapped_).isSome = true) : C_u10 b_ b_22 scrapped_ (v_u10 k b_ b_22 scrapped_) := ccG (Φ := C_u10 b_ b_22 scrapped_) h (of_u10 k b_ b_22 scrapped_)
abbrev R_u14 : Type := T17.T × List (T18).T
def res_u14 (r : R_u14) : AV := .tup []
def bo_u14 (t_ : T17.T) (t_22 : List (T18).T) (r : R_u14) : List (Nat × Blk) := [(0, .var 140 ((rvs (enc T17 r.1)) ++ [.own 1 1])), (1, .row 54 T18 r.2)]
def args_u14 (t_ : T17.T) (t_22 : List (T18).T) : List AV := [.ptr 0 0 0]
def bin_u14 (t_ : T17.T) (t_22 : List (T18).T) : List Blk := [.var 140 (rvs (enc T17 t_) ++ [.own 1 0]), .row 54 T18 t_22]
abbrev C_u14 (t_ : T17.T) (t_22 : List (T18).T) (r : R_u14) : Prop := CC Tryz.prog 35 (args_u14 t_ t_22) (bin_u14 t_ t_22) (res_u14 r) (bo_u14 t_ t_22 r)
def st_u14_6 (t_ : T17.T) (t_22 : List (T18).T) (y0 : List (T5).T) (y1 : Int) (y2 : Int) (y3 : T17.T) (y4 : List (T18).T) : St := ⟨mkS 209 [(0, .ptr 0 0 0), (56, .r (.ro T5 y0)), (57, .r (.v (.int .i64 y1))), (58, .r (.v (.int .i64 y2)))], [(0, 0, .var 140 ((rvs (enc T17 y3)) ++ [.own 1 1])), (1, 1, .row 54 T18 y4)]⟩
def st_u14_11 (t_ : T17.T) (t_22 : List (T18).T) (y0 : Int) (y1 : Int) (y2 : Bool) (y3 : List (T5).T) (y4 : Int) (y5 : Int) (y6 : List (T5).T) (y7 : Int) (y8 : Int) (y9 : T17.T) (y10 : List (T18).T) (y11 : T5.T) : St := ⟨mkS 209 [(0, .ptr 0 0 0), (3, .r (.v (.int .i64 y0))), (4, .ptr 1000000 0 0), (5, .r (.v (.int .i64 y1))), (6, .r (.v (.bool y2))), (56, .r (.ro T5 y3)), (57, .r (.v (.int .i64 y4))), (58, .r (.v (.int .i64 y5))), (90, .r (.ro T5 y6)), (91, .r (.v (.int .i64 y7))), (92, .r (.v (.int .i64 y8)))], [(0, 0, .var 140 ((rvs (enc T17 y9)) ++ [.own 1 1])), (1, 1, .row 54 T18 y10), (1000000, 0, .var 47 (rvs (enc T5 y11)))]⟩
def st_u14_20 (t_ : T17.T) (t_22 : List (T18).T) (y0 : List (T5).T) (y1 : Int) (y2 : Int) (y3 : T17.T) (y4 : List (T18).T) (y5 : List ((I).T × (RTy.bool).T)) : St := ⟨mkS 209 [(0, .ptr 0 0 0), (9, .own 1000000 0), (132, .r (.ro T5 y0)), (133, .r (.v (.int .i64 y1))), (134, .r (.v (.int .i64 y2)))], [(0, 0, .var 140 ((rvs (enc T17 y3)) ++ [.own 1 1])), (1, 1, .row 54 T18 y4), (1000000, 0, .map false I RTy.bool y5)]⟩
def st_u14_26 (t_ : T17.T) (t_22 : List (T18).T) (y0 : List (I).T) (y1 : Int) (y2 : Int) (y3 : T17.T) (y4 : List (T18).T) (y5 : List ((I).T × (RTy.bool).T)) (y6 : List ((I).T × (RTy.bool).T)) : St := ⟨mkS 209 [(0, .ptr 0 0 0), (9, .own 1000000 0), (12, .own 1000001 0), (147, .r (.ro I y0)), (148, .r (.v (.int .i64 y1))), (149, .r (.v (.int .i64 y2)))], [(0, 0, .var 140 ((rvs (enc T17 y3)) ++ [.own 1 1])), (1, 1, .row 54 T18 y4), (1000000, 0, .map false I RTy.bool y5), (1000001, 0, .map false I RTy.bool y6)]⟩
mutual
def f_u14_6 (k : Nat) (t_ : T17.T) (t_22 : List (T18).T) : Nat → List (T5).T → Int → Int → T17.T → List (T18).T → Option R_u14
  | 0, _, _, _, _, _ => none
  | j + 1, y0, y1, y2, y3, y4 =>
  bif (decide (y2 < y1)) then
  if (0 ≤ y2) ∧ (y2 < (↑y0.length : Int)) then
  if ((f_u18 k (y0.getD y2.toNat T5.dflt)).isSome = true) then
  if (0 ≤ y2) ∧ (y2 < (↑ (List.length y3.2.2.2.2.2.2.2.2.2.2.2.2.1) : Int)) ∧ (decide (List.getD y3.2.2.2.2.2.2.2.2.2.2.2.2.1 y2.toNat I.dflt ≥ (0 : Int)) = true → 0 ≤ y2) ∧ (decide (List.getD y3.2.2.2.2.2.2.2.2.2.2.2.2.1 y2.toNat I.dflt ≥ (0 : Int)) = true → y2 < (↑ (List.length y3.2.2.2.2.2.2.2.2.2.2.2.2.1) : Int)) then
  f_u14_11 k t_ t_22 j y2 ((v_u18 k (y0.getD y2.toNat T5.dflt))) ((decide (List.getD y3.2.2.2.2.2.2.2.2.2.2.2.2.1 y2.toNat I.dflt ≥ 0) && decide (List.getD y3.2.2.2.2.2.2.2.2.2.2.2.2.1 y2.toNat I.dflt ≤ v_u18 k (y0.getD y2.toNat T5.dflt)))) y0 y1 y2 y3.2.2.2.2.2.2.2.2.2.2.2.1 ((↑ (List.length y3.2.2.2.2.2.2.2.2.2.2.2.1) : Int)) 0 y3 y4 ((y0.getD y2.toNat T5.dflt))
  else none
  else none
  else none
  else
  f_u14_20 k t_ t_22 j y3.2.2.2.2.2.2.2.2.2.2.2.1 ((↑ (List.length y3.2.2.2.2.2.2.2.2.2.2.2.1) : Int)) 0 y3 y4 ([])
def f_u14_11 (k : Nat) (t_ : T17.T) (t_22 : List (T18).T) : Nat → Int → Int → Bool → List (T5).T → Int → Int → List (T5).T → Int → Int → T17.T → List (T18).T → T5.T → Option R_u14
  | 0, _, _, _, _, _, _, _, _, _, _, _, _ => none
  | j + 1, y0, y1, y2, y3, y4, y5, y6, y7, y8, y9, y10, y11 =>
  bif (decide (y8 < y7)) then
  if (0 ≤ y8) ∧ (y8 < (↑y6.length : Int)) then
  bif y2 then
  bif ((y6.getD y8.toNat T5.dflt).2.1 != y11.1) then
  if (y2 = true) ∧ (((y6.getD y8.toNat T5.dflt).2.1 != y11.1) = true) then
  f_u14_11 k t_ t_22 j y0 y1 ((true && true)) y3 y4 y5 y6 y7 ((IntKind.i64.wrap (y8 + 1))) y9 y10 y11
  else none
  else
  if (y2 = true) ∧ (((y6.getD y8.toNat T5.dflt).2.1 != y11.1) = false) ∧ ((f_u19 k (y6.getD y8.toNat T5.dflt)).isSome = true) ∧ (0 ≤ y0) ∧ (y0 < (↑ (List.length y9.2.2.2.2.2.2.2.2.2.2.2.2.1) : Int)) then
  f_u14_11 k t_ t_22 j y0 y1 ((true && (false || decide (v_u19 k (y6.getD y8.toNat T5.dflt) ≥ IntKind.i64.wrap (y1 - List.getD y9.2.2.2.2.2.2.2.2.2.2.2.2.1 y0.toNat I.dflt))))) y3 y4 y5 y6 y7 ((IntKind.i64.wrap (y8 + 1))) y9 y10 y11
  else none
  else
  if (y2 = false) then
  f_u14_11 k t_ t_22 j y0 y1 false y3 y4 y5 y6 y7 ((IntKind.i64.wrap (y8 + 1))) y9 y10 y11
  else none
  else none
  else
  bif (!y2) then
  if ((f_u11 k y9 y10 3 y11.1 1).isSome = true) then
  f_u14_6 k t_ t_22 j y3 y4 ((IntKind.i64.wrap (y5 + 1))) ((v_u11 k y9 y10 3 y11.1 1).1) ((v_u11 k y9 y10 3 y11.1 1).2)
  else none
  else
  f_u14_6 k t_ t_22 j y3 y4 ((IntKind.i64.wrap (y5 + 1))) y9 y10
def f_u14_20 (k : Nat) (t_ : T17.T) (t_22 : List (T18).T) : Nat → List (T5).T → Int → Int → T17.T → List (T18).T → (List ((I).T × (RTy.bool).T)) → Option R_u14
  | 0, _, _, _, _, _, _ => none
  | j + 1, y0, y1, y2, y3, y4, y5 =>
  bif (decide (y2 < y1)) then
  if (0 ≤ y2) ∧ (y2 < (↑y0.length : Int)) then
  f_u14_20 k t_ t_22 j y0 y1 ((IntKind.i64.wrap (y2 + 1))) y3 y4 ((mset I (y0.getD y2.toNat T5.dflt).1 true y5))
  else none
  else
  f_u14_26 k t_ t_22 j y3.2.2.2.2.2.2.2.2.2.2.2.2.2.1 ((↑ (List.length y3.2.2.2.2.2.2.2.2.2.2.2.2.2.1) : Int)) 0 y3 y4 y5 ([])
def f_u14_26 (k : Nat) (t_ : T17.T) (t_22 : List (T18).T) : Nat → List (I).T → Int → Int → T17.T → List (T18).T → (List ((I).T × (RTy.bool).T)) → (List ((I).T × (RTy.bool).T)) → Option R_u14
  | 0, _, _, _, _, _, _, _ => none
  | j + 1, y0, y1, y2, y3, y4, y5, y6 =>
  bif (decide (y2 < y1)) then
  if (0 ≤ y2) ∧ (y2 < (↑y0.length : Int)) then
  bif (! (mget I (y0.getD y2.toNat I.dflt) y5).getD false || (mget I (y0.getD y2.toNat I.dflt) y6).getD false) then
  if ((f_u11 k y3 y4 3 (y0.getD y2.toNat I.dflt) 2).isSome = true) then
  f_u14_26 k t_ t_22 j y0 y1 ((IntKind.i64.wrap (y2 + 1))) ((v_u11 k y3 y4 3 (y0.getD y2.toNat I.dflt) 2).1) ((v_u11 k y3 y4 3 (y0.getD y2.toNat I.dflt) 2).2) y5 ((mset I (y0.getD y2.toNat I.dflt) true y6))
  else none
  else
  f_u14_26 k t_ t_22 j y0 y1 ((IntKind.i64.wrap (y2 + 1))) y3 y4 y5 ((mset I (y0.getD y2.toNat I.dflt) true y6))
  else none
  else
  bif (decide (y3.2.2.2.1 < (0 : Int)) || decide (y3.2.2.2.1 > y3.2.2.1)) then
  if ((f_u11 k y3 y4 3 0 3).isSome = true) then
  some (((v_u11 k y3 y4 3 0 3).1, (v_u11 k y3 y4 3 0 3).2))
  else none
  else
  if ((f_u10 k y3 y4 y6).isSome = true) then
  bif (IntKind.i64.wrap (v_u10 k y3 y4 y6 - IntKind.i64.wrap (y3.2.1 * y3.2.2.2.1)) != (0 : Int)) then
  if ((f_u11 k y3 y4 4 (IntKind.i64.wrap (v_u10 k y3 y4 y6 - IntKind.i64.wrap (y3.2.1 * y3.2.2.2.1))) 0).isSome = true) then
  some (((v_u11 k y3 y4 4 (IntKind.i64.wrap (v_u10 k y3 y4 y6 - IntKind.i64.wrap (y3.2.1 * y3.2.2.2.1))) 0).1, (v_u11 k y3 y4 4 (IntKind.i64.wrap (v_u10 k y3 y4 y6 - IntKind.i64.wrap (y3.2.1 * y3.2.2.2.1))) 0).2))
  else none
  else
  some ((y3, y4))
  else none
end
def f_u14 (k : Nat) (t_ : T17.T) (t_22 : List (T18).T) : Option R_u14 :=
  if ((f_u24 k t_.2.2.2.2.2.2.2.2.2.2.2.1 t_.2.1 t_.2.2.1).isSome = true) then
  bif (v_u24 k t_.2.2.2.2.2.2.2.2.2.2.2.1 t_.2.1 t_.2.2.1 != (0 : Int)) then
  if ((f_u11 k t_ t_22 3 0 (v_u24 k t_.2.2.2.2.2.2.2.2.2.2.2.1 t_.2.1 t_.2.2.1)).isSome = true) then
  some (((v_u11 k t_ t_22 3 0 (v_u24 k t_.2.2.2.2.2.2.2.2.2.2.2.1 t_.2.1 t_.2.2.1)).1, (v_u11 k t_ t_22 3 0 (v_u24 k t_.2.2.2.2.2.2.2.2.2.2.2.1 t_.2.1 t_.2.2.1)).2))
  else none
  else
  bif ((↑ (List.length t_.2.2.2.2.2.2.2.2.2.2.2.2.1) : Int) != (↑ (List.length t_.2.2.2.2.2.2.2.2.2.2.2.1) : Int)) then
  if ((f_u11 k t_ t_22 3 0 0).isSome = true) then
  some (((v_u11 k t_ t_22 3 0 0).1, (v_u11 k t_ t_22 3 0 0).2))
  else none
  else
  f_u14_6 k t_ t_22 k t_.2.2.2.2.2.2.2.2.2.2.2.1 ((↑ (List.length t_.2.2.2.2.2.2.2.2.2.2.2.1) : Int)) 0 t_ t_22
  else none
def v_u14 (k : Nat) (t_ : T17.T) (t_22 : List (T18).T) : R_u14 := (f_u14 k t_ t_22).getD ((T17).dflt, [])
def ke_u14 (k : Nat) : Ke := (35, fun xs => match xs with
  | [.ptr _ _ _] => some [true]
  | _ => none, fun xs bs => match xs, bs with
  | [.ptr 0 0 0], [.var 140 qt_, .row 54 tt_22_ qt_22] => (decS [] T17 (qt_.take 22)).bind fun t_ => (castL tt_22_ T18 qt_22).bind fun t_22 => some (.one (res_u14 (v_u14 k t_ t_22), bo_u14 t_ t_22 (v_u14 k t_ t_22)))
  | _, _ => none)
def K_u14 (k : Nat) : Calld := mkK [ke_u24 k, ke_u11 k, ke_u18 k, ke_u19 k, ke_u10 k]
def cs_u14 : List (Nat × List Cmd) := [(6, [.autoB [0, 56, 57, 58] false [1]]), (11, [.autoB [0, 3, 4, 5, 6, 56, 57, 58, 90, 91, 92] false [1]]), (20, [.autoB [0, 9, 132, 133, 134] false [1]]), (26, [.autoB [0, 9, 12, 147, 148, 149] false [1]])]
abbrev E_u14 (t_ : T17.T) (t_22 : List (T18).T) (todo : List Item) (st : St) (o : Option R_u14) : Prop := ∀ r, o = some r → Ev Tryz.prog Tryz.f35 2 todo st (res_u14 r) (bo_u14 t_ t_22 r)
theorem ev_u14 (k : Nat) (t_ : T17.T) (t_22 : List (T18).T) : ∀ j, (∀ (y0 : List (T5).T) (y1 : Int) (y2 : Int) (y3 : T17.T) (y4 : List (T18).T), E_u14 t_ t_22 (placeAt Tryz.f35 6) (st_u14_6 t_ t_22 y0 y1 y2 y3 y4) (f_u14_6 k t_ t_22 j y0 y1 y2 y3 y4)) ∧ (∀ (y0 : Int) (y1 : Int) (y2 : Bool) (y3 : List (T5).T) (y4 : Int) (y5 : Int) (y6 : List (T5).T) (y7 : Int) (y8 : Int) (y9 : T17.T) (y10 : List (T18).T) (y11 : T5.T), E_u14 t_ t_22 (placeAt Tryz.f35 11) (st_u14_11 t_ t_22 y0 y1 y2 y3 y4 y5 y6 y7 y8 y9 y10 y11) (f_u14_11 k t_ t_22 j y0 y1 y2 y3 y4 y5 y6 y7 y8 y9 y10 y11)) ∧ (∀ (y0 : List (T5).T) (y1 : Int) (y2 : Int) (y3 : T17.T) (y4 : List (T18).T) (y5 : List ((I).T × (RTy.bool).T)), E_u14 t_ t_22 (placeAt Tryz.f35 20) (st_u14_20 t_ t_22 y0 y1 y2 y3 y4 y5) (f_u14_20 k t_ t_22 j y0 y1 y2 y3 y4 y5)) ∧ (∀ (y0 : List (I).T) (y1 : Int) (y2 : Int) (y3 : T17.T) (y4 : List (T18).T) (y5 : List ((I).T × (RTy.bool).T)) (y6 : List ((I).T × (RTy.bool).T)), E_u14 t_ t_22 (placeAt Tryz.f35 26) (st_u14_26 t_ t_22 y0 y1 y2 y3 y4 y5 y6) (f_u14_26 k t_ t_22 j y0 y1 y2 y3 y4 y5 y6))
  | 0 => ⟨fun _ _ _ _ _ _ h => (nomatch h), fun _ _ _ _ _ _ _ _ _ _ _ _ _ h => (nomatch h), fun _ _ _ _ _ _ _ h => (nomatch h), fun _ _ _ _ _ _ _ _ h => (nomatch h)⟩
  | j + 1 => by
    have ih := @ev_u14 k t_ t_22 j
    refine ⟨?_, ?_, ?_, ?_⟩
    · intro y0 y1 y2 y3 y4 r h
      rw [f_u14_6] at h
      exact go (K_u14 k) [] cs_u14 [.autoB [] true [1]] (gT h (fun c h => gN2 h fun h => gN1 h (fun q => cc_u18 q) fun h => gN h (fun q => conjC q.1 (conjC q.2.1 (conjC q.2.2.1 (conjC q.2.2.2 conj0)))) fun h => gC h 11 (ih.2.1 _ _ _ _ _ _ _ _ _ _ _ _ _)) fun c h => gC h 20 (ih.2.2.1 _ _ _ _ _ _ _)) (by kernel_rfl)
    · intro y0 y1 y2 y3 y4 y5 y6 y7 y8 y9 y10 y11 r h
      rw [f_u14_11] at h
      exact go (K_u14 k) [] cs_u14 [.autoB [] true [1]] (gT h (fun c h => gN2 h fun h => gT h (fun c h => gT h (fun c h => gN2 h fun h => gC h 11 (ih.2.1 _ _ _ _ _ _ _ _ _ _ _ _ _)) fun c h => gN h (fun q => conjC q.1 (conjC q.2.1 (conjC (cc_u19 q.2.2.1) (conjC q.2.2.2.1 (conjC q.2.2.2.2 conj0))))) fun h => gC h 11 (ih.2.1 _ _ _ _ _ _ _ _ _ _ _ _ _)) fun c h => gN1 h id fun h => gC h 11 (ih.2.1 _ _ _ _ _ _ _ _ _ _ _ _ _)) fun c h => gT h (fun c h => gN1 h (fun q => cc_u11 q) fun h => gC h 6 (ih.1 _ _ _ _ _ _)) fun c h => gC h 6 (ih.1 _ _ _ _ _ _)) (by kernel_rfl)
    · intro y0 y1 y2 y3 y4 y5 r h
      rw [f_u14_20] at h
      exact go (K_u14 k) [] cs_u14 [.autoB [] true [1]] (gT h (fun c h => gN2 h fun h => gC h 20 (ih.2.2.1 _ _ _ _ _ _ _)) fun c h => gC h 26 (ih.2.2.2 _ _ _ _ _ _ _ _)) (by kernel_rfl)
    · intro y0 y1 y2 y3 y4 y5 y6 r h
      rw [f_u14_26] at h
      exact go (K_u14 k) [] cs_u14 [.autoB [] true [1]] (gT h (fun c h => gN2 h fun h => gT h (fun c h => gN1 h (fun q => cc_u11 q) fun h => gC h 26 (ih.2.2.2 _ _ _ _ _ _ _ _)) fun c h => gC h 26 (ih.2.2.2 _ _ _ _ _ _ _ _)) fun c h => gT h (fun c h => gN1 h (fun q => cc_u11 q) fun h => gL h) fun c h => gN h (fun q => conjC (⟨rfl, ⟨rfl, ⟨rfl, trivial⟩⟩⟩ : selfS (0, .var 140 ((rvs (enc T17 y3)) ++ [.own 1 1])) ∧ selfS (1, .row 54 T18 y4) ∧ selfS (0, .map false I RTy.bool y6) ∧ True) (conjC (cc_u10 q) conj0)) fun h => gT h (fun c h => gN1 h (fun q => cc_u11 q) fun h => gL h) fun c h => gL h) (by kernel_rfl)
theorem of_u14 (k : Nat) (t_ : T17.T) (t_22 : List (T18).T) (r : R_u14) (h : f_u14 k t_ t_22 = some r) : C_u14 t_ t_22 r := by
  refine CC.of (fn := Tryz.f35) (by kernel_rfl) (by kernel_rfl) (by kernel_rfl) (by kernel_rfl) ?_
  unfold f_u14 at h
  exact go (K_u14 k) [] cs_u14 [.autoB [] true [1]] (gN1 h (fun q => cc_u24 q) fun h => gT h (fun c h => gN1 h (fun q => cc_u11 q) fun h => gL h) fun c h => gT h (fun c h => gN1 h (fun q => cc_u11 q) fun h => gL h) fun c h => gC h 6 ((ev_u14 k t_ t_22 k).1 _ _ _ _ _ _)) (by kernel_rfl)
theorem cc_u14 {k : Nat} {t_ : T17.T} {t_22 : List (T18).T} (h : (f_u14 k t_ t_22).isSome = true) : C_u14 t_ t_22 (v_u14 k t_ t_22) := ccG (Φ := C_u14 t_ t_22) h (of_u14 k t_ t_22)

end
/-! ### Rolls: what it returns -/
/-- the least point of a run -/
def loR (r : Rn) : Int := bif r.2.2 then r.1 - r.2.1 + 1 else r.1
def lowF : Int → List Rn → Int
  | a, [] => a
  | a, r :: t => lowF (min a (loR r)) t
def lowS (m : List Rn) : Int := lowF 17179869184 m
/-- is what is used of a roll right -/
def kidOk (r : Ro) (u : Int) (c : Ro) : Bool := c.2.1 != r.1 || decide (lowS c.2.2.2.2.2 ≥ lenS r.2.2.2.2.2 - u)
def rightS (l : List Ro) (r : Ro) (u : Int) : Bool := (decide (u ≥ 0) && decide (u ≤ lenS r.2.2.2.2.2)) && l.all (kidOk r u)
def one1 (l : List Ro) (r : Ro) (u : Int) : List Fnd := bif rightS l r u then [] else [(3, r.1, 1)]
def partA (l : List Ro) : List Ro → List Int → List Fnd
  | r :: rs, u :: us => one1 l r u ++ partA l rs us
  | _, _ => []
def isIn (x : Int) (l : List Int) : Bool := l.any (fun y => y == x)
def idIn (x : Int) (l : List Ro) : Bool := l.any (fun r => r.1 == x)
def partB (l : List Ro) : List Int → List Int → List Fnd
  | _, [] => []
  | bef, n :: t => (bif (!idIn n l || isIn n bef) then [(3, n, 2)] else []) ++ partB l (bef ++ [n]) t
def leftS (n u : Int) : Int := n - max 0 (min u n)
def covL (scr : List Int) : List Ro → List Int → Int
  | r :: rs, u :: us => (bif isIn r.1 scr then 0 else r.2.2.2.1 * leftS (lenS r.2.2.2.2.2) u) + covL scr rs us
  | _, _ => 0
def brkL : List T14.T → Int
  | [] => 0
  | m :: t => max 0 (min m.2.2.2 206158430208000) + brkL t
def covS (b : T17.T) : Int := covL (b.2.2.2.2.2.2.2.2.2.2.2.2.2.1) (b.2.2.2.2.2.2.2.2.2.2.2.1) (b.2.2.2.2.2.2.2.2.2.2.2.2.1) + brkL (b.2.2.2.2.2.2.2.2.2.2.2.2.2.2.2.2.2.2.2.2.1)
def finI (beg made cov w : Int) : List Fnd := if beg < 0 ∨ beg > made then [(3, 0, 3)] else if cov - w * beg ≠ 0 then [(4, cov - w * beg, 0)] else []
def finS (b : T17.T) : List Fnd := finI (b.2.2.2.1) (b.2.2.1) (covS b) (b.2.1)
theorem finI_b {beg made cov w : Int} (h : beg < 0 ∨ beg > made) : finI beg made cov w = [(3, 0, 3)] := by unfold finI; rw [if_pos h]
theorem finI_d {beg made cov w : Int} (h : ¬ (beg < 0 ∨ beg > made)) (h2 : cov - w * beg ≠ 0) : finI beg made cov w = [(4, cov - w * beg, 0)] := by unfold finI; rw [if_neg h, if_pos h2]
theorem finI_0 {beg made cov w : Int} (h : ¬ (beg < 0 ∨ beg > made)) (h2 : cov - w * beg = 0) : finI beg made cov w = [] := by unfold finI; rw [if_neg h, if_neg (fun x => x h2)]
def inR (u n : Int) : Prop := 0 ≤ u ∧ u ≤ n
def wOk (w : Int) : Prop := 1 ≤ w ∧ w ≤ 12000
def mOk (m : Int) : Prop := 0 ≤ m ∧ m ≤ 17179869184
def rollsS (b : T17.T) : List Fnd :=
  if checkS (b.2.2.2.2.2.2.2.2.2.2.2.1) (b.2.1) (b.2.2.1) ≠ 0 then [(3, 0, checkS (b.2.2.2.2.2.2.2.2.2.2.2.1) (b.2.1) (b.2.2.1))]
  else if b.2.2.2.2.2.2.2.2.2.2.2.2.1.length ≠ b.2.2.2.2.2.2.2.2.2.2.2.1.length then [(3, 0, 0)]
  else partA (b.2.2.2.2.2.2.2.2.2.2.2.1) (b.2.2.2.2.2.2.2.2.2.2.2.1) (b.2.2.2.2.2.2.2.2.2.2.2.2.1) ++ (partB (b.2.2.2.2.2.2.2.2.2.2.2.1) [] (b.2.2.2.2.2.2.2.2.2.2.2.2.2.1) ++ finS b)

/-! ### its parts -/
theorem loR_in {r : Rn} (h : good r) : 0 ≤ loR r ∧ loR r ≤ r.1 ∧ r.1 ≤ 17179869184 := by
  obtain ⟨h1, h2, h3, h4, h5, h6⟩ := h
  unfold loR
  cases e : r.2.2
  · rw [cond_false]; omega
  · have := h5 e
    rw [cond_true]; omega
theorem lowest_3 (k : Nat) (m : List Rn) (hg : goods m) (hl : m.length ≤ 1000) : ∀ (d i j : Nat) (a : Int), i + d = m.length → d < j → 0 ≤ a → a ≤ 17179869184 →
    f_u19_3 k j a m (m.length : Int) (i : Int) = some (lowF a (m.drop i)) ∧ 0 ≤ lowF a (m.drop i) ∧ lowF a (m.drop i) ≤ 17179869184 := by
  intro d
  induction d with
  | zero =>
    intro i j a hi hj h0 h1
    obtain ⟨j, rfl⟩ : ∃ q, j = q + 1 := ⟨j - 1, by omega⟩
    rw [f_u19_3, decide_eq_false (by omega : ¬ (i : Int) < (m.length : Int)), cond_false, List.drop_of_length_le (by omega), lowF]
    exact ⟨rfl, h0, h1⟩
  | succ d ih =>
    intro i j a hi hj h0 h1
    obtain ⟨j, rfl⟩ : ∃ q, j = q + 1 := ⟨j - 1, by omega⟩
    have hm := goods.mem hg _ (gdm m i T3.dflt (by omega))
    have hlo := loR_in hm
    obtain ⟨g1, g2, g3, g4, g5, g6⟩ := hm
    rw [f_u19_3, decide_eq_true (by omega : (i : Int) < (m.length : Int)), cond_true, if_pos ⟨by omega, by omega⟩, Int.toNat_natCast, wrapS i (by omega), drop_cons' m i T3.dflt (by omega), lowF]
    have hw1 : IntKind.i64.wrap ((m.getD i T3.dflt).1 - (m.getD i T3.dflt).2.1) = (m.getD i T3.dflt).1 - (m.getD i T3.dflt).2.1 := wrap_id (by omega) (by omega)
    have hw2 : IntKind.i64.wrap ((m.getD i T3.dflt).1 - (m.getD i T3.dflt).2.1 + 1) = (m.getD i T3.dflt).1 - (m.getD i T3.dflt).2.1 + 1 := wrap_id (by omega) (by omega)
    rw [hw1, hw2]
    have hx : (bif (m.getD i T3.dflt).2.2 then (if (m.getD i T3.dflt).1 - (m.getD i T3.dflt).2.1 + 1 < (if (m.getD i T3.dflt).1 < a then (m.getD i T3.dflt).1 else a) then (m.getD i T3.dflt).1 - (m.getD i T3.dflt).2.1 + 1 else (if (m.getD i T3.dflt).1 < a then (m.getD i T3.dflt).1 else a)) else (if (m.getD i T3.dflt).1 < a then (m.getD i T3.dflt).1 else a)) = min a (loR (m.getD i T3.dflt)) := by
      unfold loR
      cases e : (m.getD i T3.dflt).2.2
      · rw [cond_false, cond_false]; split <;> omega
      · rw [cond_true, cond_true]; split <;> split <;> omega
    have := ih (i + 1) j (min a (loR (m.getD i T3.dflt))) (by omega) (by omega) (by omega) (by omega)
    refine ⟨?_, this.2⟩
    rw [← this.1, ← hx]
    cases (m.getD i T3.dflt).2.2 <;> rfl
theorem lowest_s (k : Nat) (hk : 1100 ≤ k) (r : Ro) (h : Chk r.2.2.2.2.2) : f_u19 k r = some (lowS r.2.2.2.2.2) ∧ 0 ≤ lowS r.2.2.2.2.2 ∧ lowS r.2.2.2.2.2 ≤ 17179869184 := by
  have := h.len
  exact lowest_3 k r.2.2.2.2.2 h.goods (by omega) r.2.2.2.2.2.length 0 k 17179869184 (by omega) (by omega) (by omega) (by omega)
theorem lowest_v (k : Nat) (hk : 1100 ≤ k) (r : Ro) (h : Chk r.2.2.2.2.2) : v_u19 k r = lowS r.2.2.2.2.2 := by
  unfold v_u19; rw [(lowest_s k hk r h).1]; rfl
theorem length_s (k : Nat) (hk : 2100 ≤ k) (r : Ro) (h : Chk r.2.2.2.2.2) : f_u18 k r = some (lenS r.2.2.2.2.2) := by
  unfold f_u18
  have := iso_Length_s k hk r.2.2.2.2.2 h
  rw [show v_u36 k r.2.2.2.2.2 = (lenS r.2.2.2.2.2, 0) by unfold v_u36; rw [this]; rfl, this, Option.isSome_some, if_pos rfl]
theorem length_v (k : Nat) (hk : 2100 ≤ k) (r : Ro) (h : Chk r.2.2.2.2.2) : v_u18 k r = lenS r.2.2.2.2.2 := by
  unfold v_u18; rw [length_s k hk r h]; rfl
theorem len_in {m : List Rn} (h : Chk m) : 0 ≤ lenS m ∧ lenS m ≤ 17179869184 := by
  have := lenS_nonneg h.goods
  have := h.tot
  omega
/-- a valid register's rolls -/
abbrev Smalls (l : List Ro) : Prop := ∀ r ∈ l, Small r.2.2

/-! ### covered -/
theorem left_in {n u : Int} (h : 0 ≤ n) (h1 : n ≤ 17179869184) : 0 ≤ leftS n u ∧ leftS n u ≤ 17179869184 := by unfold leftS; omega
theorem area_in {w n : Int} (w0 : 1 ≤ w) (w1 : w ≤ 12000) (n0 : 0 ≤ n) (n1 : n ≤ 17179869184) : 0 ≤ w * n ∧ w * n ≤ 206158430208000 := by
  constructor
  · exact Int.mul_nonneg (by omega) n0
  · calc w * n ≤ 12000 * n := Int.mul_le_mul_of_nonneg_right w1 n0
      _ ≤ 206158430208000 := by omega
theorem clamp_if (a m : Int) : (if (if m < a then m else a) > 0 then (if m < a then m else a) else 0) = max 0 (min a m) := by
  by_cases h : m < a
  · rw [if_pos h]; split <;> omega
  · rw [if_neg h]; split <;> omega
theorem covered_10 (k : Nat) (b : T17.T) (fnd : List Fnd) (N : List (Int × Bool)) (l : List T14.T) (hl : l.length ≤ 40) : ∀ (d i j : Nat) (a : Int), i + d = l.length → d < j → 0 ≤ a → a + (d : Int) * 206158430208000 ≤ 100000000000000000 →
    f_u10_10 k b fnd N j a l (l.length : Int) (i : Int) = some (a + brkL (l.drop i)) := by
  intro d
  induction d with
  | zero =>
    intro i j a hi hj h0 h1
    obtain ⟨j, rfl⟩ : ∃ q, j = q + 1 := ⟨j - 1, by omega⟩
    rw [f_u10_10, decide_eq_false (by omega : ¬ (i : Int) < (l.length : Int)), cond_false, List.drop_of_length_le (by omega), brkL, Int.add_zero]
  | succ d ih =>
    intro i j a hi hj h0 h1
    obtain ⟨j, rfl⟩ : ∃ q, j = q + 1 := ⟨j - 1, by omega⟩
    rw [f_u10_10, decide_eq_true (by omega : (i : Int) < (l.length : Int)), cond_true, if_pos ⟨by omega, by omega⟩, Int.toNat_natCast, wrapS i (by omega), drop_cons' l i T14.dflt (by omega), brkL]
    have hx : (if (if (206158430208000 : Int) < (l.getD i T14.dflt).2.2.2 then 206158430208000 else (l.getD i T14.dflt).2.2.2) > 0 then (if (206158430208000 : Int) < (l.getD i T14.dflt).2.2.2 then 206158430208000 else (l.getD i T14.dflt).2.2.2) else 0) = max 0 (min (l.getD i T14.dflt).2.2.2 206158430208000) := clamp_if _ _
    rw [hx, wrap_id (by omega) (by omega), ih (i + 1) j _ (by omega) (by omega) (by omega) (by omega), Int.add_assoc]
theorem covered_3 (k : Nat) (hk : 2100 ≤ k) (b : T17.T) (fnd : List Fnd) (N : List (Int × Bool)) (scr : List Int) (hN : ∀ x, (mget I x N).getD false = isIn x scr) (hb : b.2.2.2.2.2.2.2.2.2.2.2.2.2.2.2.2.2.2.2.2.1.length ≤ 40) (l : List Ro) (hl : l.length ≤ 40) (hu : b.2.2.2.2.2.2.2.2.2.2.2.2.1.length = l.length) (hs : Smalls l) :
    ∀ (d i j : Nat) (a : Int), i + d = l.length → d + 50 < j → 0 ≤ a → a + (d : Int) * 206158430208000 ≤ 50000000000000000 →
    f_u10_3 k b fnd N j a l (l.length : Int) (i : Int) = some (a + (covL scr (l.drop i) (b.2.2.2.2.2.2.2.2.2.2.2.2.1.drop i) + brkL (b.2.2.2.2.2.2.2.2.2.2.2.2.2.2.2.2.2.2.2.2.1))) := by
  intro d
  induction d with
  | zero =>
    intro i j a hi hj h0 h1
    obtain ⟨j, rfl⟩ : ∃ q, j = q + 1 := ⟨j - 1, by omega⟩
    rw [f_u10_3, decide_eq_false (by omega : ¬ (i : Int) < (l.length : Int)), cond_false, List.drop_of_length_le (by omega), covL, Int.zero_add]
    · have := covered_10 k b fnd N (b.2.2.2.2.2.2.2.2.2.2.2.2.2.2.2.2.2.2.2.2.1) hb (b.2.2.2.2.2.2.2.2.2.2.2.2.2.2.2.2.2.2.2.2.1.length) 0 j a (by omega) (by omega) h0 (by omega)
      exact this
    · intro r rs u us h; cases h
  | succ d ih =>
    intro i j a hi hj h0 h1
    obtain ⟨j, rfl⟩ : ∃ q, j = q + 1 := ⟨j - 1, by omega⟩
    have hm := hs _ (gdm l i T5.dflt (by omega))
    have hc := hm.chk
    have hn := len_in hc
    have hle := left_in (u := b.2.2.2.2.2.2.2.2.2.2.2.2.1.getD i I.dflt) hn.1 hn.2
    have w0 := hm.w0
    have wl := hm.l0
    have wr := hm.r0
    have har := area_in w0 (by omega) hle.1 hle.2
    have hrw : l.drop i = l.getD i T5.dflt :: l.drop (i + 1) := drop_cons' l i T5.dflt (by omega)
    have huw : b.2.2.2.2.2.2.2.2.2.2.2.2.1.drop i = b.2.2.2.2.2.2.2.2.2.2.2.2.1.getD i I.dflt :: b.2.2.2.2.2.2.2.2.2.2.2.2.1.drop (i + 1) := drop_cons' (b.2.2.2.2.2.2.2.2.2.2.2.2.1) i I.dflt (by omega)
    rw [f_u10_3, decide_eq_true (by omega : (i : Int) < (l.length : Int)), cond_true, if_pos ⟨by omega, by omega⟩, Int.toNat_natCast, length_s k hk _ hc, length_v k hk _ hc, Option.isSome_some, if_pos rfl, wrapS i (by omega), hrw, huw, covL]
    have hN' := hN (l.getD i T5.dflt).1
    cases hq : isIn (l.getD i T5.dflt).1 scr
    · rw [hq] at hN'
      show (bif !(mget I (l.getD i T5.dflt).1 N).getD false then _ else _) = _
      rw [hN', Bool.not_false, cond_true, if_pos ⟨by omega, by omega⟩]
      have hx : (if (if lenS (l.getD i T5.dflt).2.2.2.2.2 < b.2.2.2.2.2.2.2.2.2.2.2.2.1.getD i I.dflt then lenS (l.getD i T5.dflt).2.2.2.2.2 else b.2.2.2.2.2.2.2.2.2.2.2.2.1.getD i I.dflt) > 0 then (if lenS (l.getD i T5.dflt).2.2.2.2.2 < b.2.2.2.2.2.2.2.2.2.2.2.2.1.getD i I.dflt then lenS (l.getD i T5.dflt).2.2.2.2.2 else b.2.2.2.2.2.2.2.2.2.2.2.2.1.getD i I.dflt) else 0) = max 0 (min (b.2.2.2.2.2.2.2.2.2.2.2.2.1.getD i I.dflt) (lenS (l.getD i T5.dflt).2.2.2.2.2)) := clamp_if _ _
      rw [hx]
      have e1 : IntKind.i64.wrap (lenS (l.getD i T5.dflt).2.2.2.2.2 - max 0 (min (b.2.2.2.2.2.2.2.2.2.2.2.2.1.getD i I.dflt) (lenS (l.getD i T5.dflt).2.2.2.2.2))) = leftS (lenS (l.getD i T5.dflt).2.2.2.2.2) (b.2.2.2.2.2.2.2.2.2.2.2.2.1.getD i I.dflt) := wrap_id (by omega) (by omega)
      have e2 : IntKind.i64.wrap ((l.getD i T5.dflt).2.2.2.1 * leftS (lenS (l.getD i T5.dflt).2.2.2.2.2) (b.2.2.2.2.2.2.2.2.2.2.2.2.1.getD i I.dflt)) = (l.getD i T5.dflt).2.2.2.1 * leftS (lenS (l.getD i T5.dflt).2.2.2.2.2) (b.2.2.2.2.2.2.2.2.2.2.2.2.1.getD i I.dflt) := wrap_id (by omega) (by omega)
      rw [e1, e2, wrap_id (by omega) (by omega), cond_false, ih (i + 1) j _ (by omega) (by omega) (by omega) (by omega)]
      congr 1; omega
    · rw [hq] at hN'
      show (bif !(mget I (l.getD i T5.dflt).1 N).getD false then _ else _) = _
      rw [hN', Bool.not_true, cond_false, cond_true, ih (i + 1) j a (by omega) (by omega) h0 (by omega)]
      congr 1; omega
theorem covered_s (k : Nat) (hk : 2100 ≤ k) (b : T17.T) (g : GB b) (fnd : List Fnd) (N : List (Int × Bool)) (hN : ∀ x, (mget I x N).getD false = isIn x (b.2.2.2.2.2.2.2.2.2.2.2.2.2.1)) (hu : b.2.2.2.2.2.2.2.2.2.2.2.2.1.length = b.2.2.2.2.2.2.2.2.2.2.2.1.length) (hs : Smalls (b.2.2.2.2.2.2.2.2.2.2.2.1)) :
    f_u10 k b fnd N = some (covS b) := by
  have hr := g.bRolls
  unfold f_u10 covS
  have := covered_3 k hk b fnd N (b.2.2.2.2.2.2.2.2.2.2.2.2.2.1) hN g.bBroke (b.2.2.2.2.2.2.2.2.2.2.2.1) hr hu hs (b.2.2.2.2.2.2.2.2.2.2.2.1.length) 0 k 0 (by omega) (by omega) (by omega) (by omega)
  rw [Int.zero_add, List.drop_zero, List.drop_zero] at this
  exact this
theorem covL_in (scr : List Int) : ∀ (l : List Ro) (us : List Int), Smalls l → 0 ≤ covL scr l us ∧ covL scr l us ≤ (l.length : Int) * 206158430208000
  | [], _, _ => by simp [covL]
  | r :: rs, [], _ => by simp [covL]; omega
  | r :: rs, u :: us, h => by
    have ih := covL_in scr rs us (fun x hx => h x (by simp [hx]))
    have hm := h r (by simp)
    have hle := left_in (u := u) (len_in hm.chk).1 (len_in hm.chk).2
    have w0 := hm.w0
    have wl := hm.l0
    have wr := hm.r0
    have har := area_in w0 (by omega) hle.1 hle.2
    rw [covL, List.length_cons]
    cases isIn r.1 scr
    · rw [cond_false]; omega
    · rw [cond_true]; omega
theorem brkL_in : ∀ l : List T14.T, 0 ≤ brkL l ∧ brkL l ≤ (l.length : Int) * 206158430208000
  | [] => by simp [brkL]
  | m :: t => by
    have ih := brkL_in t
    rw [brkL, List.length_cons]; omega
theorem covS_in (b : T17.T) (g : GB b) (hs : Smalls (b.2.2.2.2.2.2.2.2.2.2.2.1)) : 0 ≤ covS b ∧ covS b ≤ 16492674416640000 := by
  have h1 := covL_in (b.2.2.2.2.2.2.2.2.2.2.2.2.2.1) (b.2.2.2.2.2.2.2.2.2.2.2.1) (b.2.2.2.2.2.2.2.2.2.2.2.2.1) hs
  have h2 := brkL_in (b.2.2.2.2.2.2.2.2.2.2.2.2.2.2.2.2.2.2.2.2.1)
  have := g.bRolls
  have := g.bBroke
  unfold covS
  omega
end Go.AM
namespace Go.AM
open Go Go.Proofs
noncomputable section
abbrev R_u4 : Type := T17.T
def res_u4 (r : R_u4) : AV := .sub 2 0 1 0 1
def bo_u4 (x_ : T17.T) (x_22 : List (T18).T) (r : R_u4) : List (Nat × Blk) := [(0, .var 140 ((rvs (enc T17 r)) ++ [.own 1 0])), (0, .row 54 T18 x_22), (0, .var 1 [.fn ((Fn.func 35)) [.ptr 0 0 0] []])]
def args_u4 (x_ : T17.T) (x_22 : List (T18).T) : List AV := [.ptr 0 0 0]
def bin_u4 (x_ : T17.T) (x_22 : List (T18).T) : List Blk := [.var 140 (rvs (enc T17 x_) ++ [.own 1 0]), .row 54 T18 x_22]
abbrev C_u4 (x_ : T17.T) (x_22 : List (T18).T) (r : R_u4) : Prop := CC Tryz.prog 34 (args_u4 x_ x_22) (bin_u4 x_ x_22) (res_u4 r) (bo_u4 x_ x_22 r)
def f_u4 (k : Nat) (x_ : T17.T) (x_22 : List (T18).T) : Option R_u4 :=
  some x_
def v_u4 (k : Nat) (x_ : T17.T) (x_22 : List (T18).T) : R_u4 := (f_u4 k x_ x_22).getD (T17).dflt
def ke_u4 (k : Nat) : Ke := (34, fun xs => match xs with
  | [.ptr _ _ _] => some [true]
  | _ => none, fun xs bs => match xs, bs with
  | [.ptr 0 0 0], [.var 140 qx_, .row 54 tx_22_ qx_22] => (decS [] T17 (qx_.take 22)).bind fun x_ => (castL tx_22_ T18 qx_22).bind fun x_22 => some (.one (res_u4 (v_u4 k x_ x_22), bo_u4 x_ x_22 (v_u4 k x_ x_22)))
  | _, _ => none)
theorem of_u4 (k : Nat) (x_ : T17.T) (x_22 : List (T18).T) (r : R_u4) (h : f_u4 k x_ x_22 = some r) : C_u4 x_ x_22 r := by
  refine CC.of (fn := Tryz.f34) (by kernel_rfl) (by kernel_rfl) (by kernel_rfl) (by kernel_rfl) ?_
  unfold f_u4 at h
  exact go (mkK [ke_u14 k]) [] [] [.autoB [2] true []] (gL h) (by kernel_rfl)
theorem cc_u4 {k : Nat} {x_ : T17.T} {x_22 : List (T18).T} (h : (f_u4 k x_ x_22).isSome = true) : C_u4 x_ x_22 (v_u4 k x_ x_22) := ccG (Φ := C_u4 x_ x_22) h (of_u4 k x_ x_22)
abbrev R_u21 : Type := List (T18).T × Int
def res_u21 (r : R_u21) : AV := .tup [.r (.ro T18 r.1), .r (.v (.int .i64 r.2))]
def bo_u21 (b_ : T17.T) (r : R_u21) : List (Nat × Blk) := []
def args_u21 (b_ : T17.T) : List AV := [.agg (rvs (enc T17 b_)), .r (.v (.func (.func 34) #[] #[]))]
def bin_u21 (b_ : T17.T) : List Blk := []
abbrev C_u21 (b_ : T17.T) (r : R_u21) : Prop := CC Tryz.prog 33 (args_u21 b_) (bin_u21 b_) (res_u21 r) (bo_u21 b_ r)
def st_u21_10005 (y0 : T17.T) (y1 : List (T18).T) : St := ⟨mkS 29 [(6, .ptr 1000000 0 0), (16, .sub 1000002 0 1 0 1), (17, .r (.v (.int .i64 1))), (18, .r (.v (.int .i64 0)))], [(1000000, 0, .var 140 ((rvs (enc T17 y0)) ++ [.own 1000001 0])), (1000001, 0, .row 54 T18 y1), (1000002, 0, .var 1 [.fn ((Fn.func 35)) [.ptr 1000000 0 0] []])]⟩
def st_u21_20005 (y0 : T17.T) (y1 : List (T18).T) : St := ⟨mkS 29 [(6, .ptr 1000000 0 0), (16, .sub 1000002 0 1 0 1), (17, .r (.v (.int .i64 1))), (18, .r (.v (.int .i64 1)))], [(1000000, 0, .var 140 ((rvs (enc T17 y0)) ++ [.own 1000001 0])), (1000001, 0, .row 54 T18 y1), (1000002, 0, .var 1 [.fn ((Fn.func 35)) [.ptr 1000000 0 0] []])]⟩
mutual
def f_u21_10005 (k : Nat) : Nat → T17.T → List (T18).T → Option R_u21
  | 0, _, _ => none
  | j + 1, y0, y1 =>
  if ((0 : Int) ≤ (0 : Int)) ∧ ((0 : Int) < (↑ (1 : Nat) : Int)) then
  if ((f_u14 k y0 y1).isSome = true) then
  f_u21_20005 k j ((v_u14 k y0 y1).1) ((v_u14 k y0 y1).2)
  else none
  else none
def f_u21_20005 (k : Nat) : Nat → T17.T → List (T18).T → Option R_u21
  | 0, _, _ => none
  | j + 1, y0, y1 =>
  some ((y1, 0))
end
def f_u21 (k : Nat) (b_ : T17.T) : Option R_u21 :=
  if ((f_u17 k b_).isSome = true) then
  bif (v_u17 k b_) then
  some (([], 8))
  else
  if ((f_u4 k b_ []).isSome = true) then
  f_u21_10005 k k ((v_u4 k b_ [])) ([])
  else none
  else none
def v_u21 (k : Nat) (b_ : T17.T) : R_u21 := (f_u21 k b_).getD ([], 0)
def ke_u21 (k : Nat) : Ke := (33, fun xs => match xs with
  | [_, .r (.v (.func (.func 34) _ _))] => some [false, false]
  | _ => none, fun xs bs => match xs, bs with
  | [.agg qb_, .r (.v (.func (.func 34) _ _))], [] => (decS [] T17 qb_).bind fun b_ => some (.one (res_u21 (v_u21 k b_), bo_u21 b_ (v_u21 k b_)))
  | _, _ => none)
def K_u21 (k : Nat) : Calld := mkK [ke_u17 k, ke_u14 k, ke_u4 k]
def cs_u21 : List (Nat × List Cmd) := [(5, [.key 18, .autoB [6, 16, 17, 18] false []])]
abbrev E_u21 (b_ : T17.T) (todo : List Item) (st : St) (o : Option R_u21) : Prop := ∀ r, o = some r → Ev Tryz.prog Tryz.f33 0 todo st (res_u21 r) (bo_u21 b_ r)
theorem ev_u21 (k : Nat) (b_ : T17.T) : ∀ j, (∀ (y0 : T17.T) (y1 : List (T18).T), E_u21 b_ (placeAt Tryz.f33 5) (st_u21_10005 y0 y1) (f_u21_10005 k j y0 y1)) ∧ (∀ (y0 : T17.T) (y1 : List (T18).T), E_u21 b_ (placeAt Tryz.f33 5) (st_u21_20005 y0 y1) (f_u21_20005 k j y0 y1))
  | 0 => ⟨fun _ _ _ h => (nomatch h), fun _ _ _ h => (nomatch h)⟩
  | j + 1 => by
    have ih := @ev_u21 k b_ j
    refine ⟨?_, ?_⟩
    · intro y0 y1 r h
      rw [f_u21_10005] at h
      exact go (K_u21 k) [] cs_u21 [.frz 4 false (RTy.list T18), .autoB [4, 5] true []] (gU1 h (.leaf (.tup [.r (.ro T18 y1), .r (.v (.int .i64 0))]) []) fun h => gN2 h fun h => gN1 h (fun q => cc_u14 q) fun h => gC h 20005 (ih.2 _ _ _)) (by kernel_rfl)
    · intro y0 y1 r h
      rw [f_u21_20005] at h
      exact go (K_u21 k) [] cs_u21 [.frz 4 false (RTy.list T18), .autoB [4, 5] true []] (gU2 h (.stuck 5001) fun h => gL h) (by kernel_rfl)
theorem of_u21 (k : Nat) (b_ : T17.T) (r : R_u21) (h : f_u21 k b_ = some r) : C_u21 b_ r := by
  refine CC.of (fn := Tryz.f33) (by kernel_rfl) (by kernel_rfl) (by kernel_rfl) (by kernel_rfl) ?_
  unfold f_u21 at h
  exact go (K_u21 k) [] cs_u21 [.frz 4 false (RTy.list T18), .autoB [4, 5] true []] (gN1 h (fun q => cc_u17 q) fun h => gT h (fun c h => gL h) fun c h => gN1 h (fun q => cc_u4 q) fun h => gC h 10005 ((ev_u21 k b_ k).1 _ _ _)) (by kernel_rfl)
theorem cc_u21 {k : Nat} {b_ : T17.T} (h : (f_u21 k b_).isSome = true) : C_u21 b_ (v_u21 k b_) := ccG (Φ := C_u21 b_) h (of_u21 k b_)
abbrev R_u3 : Type := List (T18).T × Int
def res_u3 (r : R_u3) : AV := .tup [.r (.ro T18 r.1), .r (.v (.int .i64 r.2))]
def bo_u3 (b_ : T17.T) (r : R_u3) : List (Nat × Blk) := []
def args_u3 (b_ : T17.T) : List AV := [.agg (rvs (enc T17 b_))]
def bin_u3 (b_ : T17.T) : List Blk := []
abbrev C_u3 (b_ : T17.T) (r : R_u3) : Prop := CC Tryz.prog 14 (args_u3 b_) (bin_u3 b_) (res_u3 r) (bo_u3 b_ r)
def f_u3 (k : Nat) (b_ : T17.T) : Option R_u3 :=
  if ((f_u21 k b_).isSome = true) then
  some (((v_u21 k b_).1, (v_u21 k b_).2))
  else none
def v_u3 (k : Nat) (b_ : T17.T) : R_u3 := (f_u3 k b_).getD ([], 0)
def ke_u3 (k : Nat) : Ke := (14, fun xs => match xs with
  | [_] => some [false]
  | _ => none, fun xs bs => match xs, bs with
  | [.agg qb_], [] => (decS [] T17 qb_).bind fun b_ => some (.one (res_u3 (v_u3 k b_), bo_u3 b_ (v_u3 k b_)))
  | _, _ => none)
theorem of_u3 (k : Nat) (b_ : T17.T) (r : R_u3) (h : f_u3 k b_ = some r) : C_u3 b_ r := by
  refine CC.of (fn := Tryz.f14) (by kernel_rfl) (by kernel_rfl) (by kernel_rfl) (by kernel_rfl) ?_
  unfold f_u3 at h
  exact go (mkK [ke_u4 k, ke_u21 k]) [] [] [.frz 2 false (RTy.list T18), .autoB [2, 3] true []] (gN1 h (fun q => cc_u21 q) fun h => gL h) (by kernel_rfl)
theorem cc_u3 {k : Nat} {b_ : T17.T} (h : (f_u3 k b_).isSome = true) : C_u3 b_ (v_u3 k b_) := ccG (Φ := C_u3 b_) h (of_u3 k b_)

end
end Go.AM
