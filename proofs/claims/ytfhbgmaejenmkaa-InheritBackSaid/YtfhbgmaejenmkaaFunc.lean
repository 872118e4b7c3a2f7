/- Contracts of the functions that the law reaches, and the plain law. -/
import Derived.Test.YtfhbgmaejenmkaaFunb
set_option linter.unusedVariables false
set_option linter.unusedSimpArgs false
set_option linter.unusedSectionVars false
namespace Go.AM
open Go Go.Proofs

/-! ### the web's rectangles of a rectangle of a roll -/
theorem part_ok {m : List Rn} (hc : Chk m) {s : Sp} (h0 : 0 ≤ s.1) (h1 : s.1 ≤ s.2) (h2 : s.2 ≤ lenS m) : (partS m s).2 = 0 ∧ Chk (partS m s).1 ∧ lenS (partS m s).1 = s.2 - s.1 ∧ ∀ x, 0 ≤ x → x < s.2 - s.1 → imgAt (partS m s).1 x = imgAt m (s.1 + x) := by
  have hl := hc.len
  have ht := hc.tot
  have ha := adds_len (pieces m s.1 s.2) []
  have hp := pieces_len m s.1 s.2
  rw [List.length_nil, Nat.zero_add] at ha
  unfold partS
  rw [if_neg (fun h : chk m ≠ 0 => h (chk_zero.2 hc)), if_neg (by omega)]
  dsimp only
  by_cases h : s.1 < s.2
  · obtain ⟨g1, g2, g3⟩ := pieces_spec m s.1 s.2 hc.goods h h2 (by omega)
    rw [show max s.1 0 = s.1 by omega] at g2 g3
    obtain ⟨a1, a2, a3⟩ := adds_spec (pieces m s.1 s.2) [] trivial g1
    rw [lenS, Int.zero_add, g2] at a2
    refine ⟨rfl, ⟨by omega, a1, by omega⟩, a2, fun x x0 x1 => ?_⟩
    rw [a3 x x0 (by rw [lenS, g2]; omega), List.nil_append, g3 x x0 x1]
  · rw [pieces_nil m s.1 s.2 hc.goods (by omega)]
    refine ⟨rfl, ⟨by decide, trivial, by decide⟩, ?_, fun x x0 x1 => by omega⟩
    show (0 : Int) = _; omega
theorem part_inj {m : List Rn} (hc : Chk m) (hi : Inj m) {s : Sp} (h0 : 0 ≤ s.1) (h1 : s.1 ≤ s.2) (h2 : s.2 ≤ lenS m) : Inj (partS m s).1 := by
  obtain ⟨_, _, p2, p3⟩ := part_ok hc h0 h1 h2
  intro x y x0 x1 y0 y1 e
  rw [p2] at x1 y1
  rw [p3 x x0 x1, p3 y y0 y1] at e
  have := hi (s.1 + x) (s.1 + y) (by omega) (by omega) (by omega) (by omega) e
  omega
/-- the spans of the web of a part -/
def bkS (c : Ch) (r : Rc4) : List Sp := nf ((partS c.2.2.2 r.2.2).1.map spn)
def bkL (c : Ch) (r : Rc4) : Int := if c.2.2.1 = true then c.1 + c.2.1 - r.2.1 else c.1 + r.1
def bkR (c : Ch) (r : Rc4) : Int := if c.2.2.1 = true then c.1 + c.2.1 - r.1 else c.1 + r.2.1
theorem back_ok {l : List Ro} {W L id : Int} {r : Rc4} (h : (cutFull l W L id).2 = 0) (hr : RectOk r) (h1 : r.2.1 ≤ (cutFull l W L id).1.2.1) (h2 : r.2.2.2 ≤ lenS (cutFull l W L id).1.2.2.2) : backS l W L id r = ((bkS (cutFull l W L id).1 r).map fun s => (bkL (cutFull l W L id).1 r, bkR (cutFull l W L id).1 r, s), 0) := by
  obtain ⟨reg, ci⟩ := cut_in h
  obtain ⟨p1, p2, p3, p4⟩ := part_ok ci.chk (s := r.2.2) hr.f hr.ft h2
  have hi : imageS (partS (cutFull l W L id).1.2.2.2 r.2.2).1 = (nf ((partS (cutFull l W L id).1.2.2.2 r.2.2).1.map spn), 0) := by
    unfold imageS
    rw [if_neg (fun h : chk _ ≠ 0 => h (chk_zero.2 p2))]
  unfold backS
  rw [if_neg (fun h' : (cutFull l W L id).2 ≠ 0 => h' h), if_neg (fun h : rectE r ≠ 0 => h (rectE_ok hr)), if_neg (by omega), if_neg (by omega), hi, if_neg (fun h : (0 : Int) ≠ 0 => h rfl)]
  rfl
theorem back_zero {l : List Ro} {W L id : Int} {r : Rc4} (h : (backS l W L id r).2 = 0) : (cutFull l W L id).2 = 0 ∧ RectOk r ∧ r.2.1 ≤ (cutFull l W L id).1.2.1 ∧ r.2.2.2 ≤ lenS (cutFull l W L id).1.2.2.2 := by
  unfold backS at h
  by_cases h1 : (cutFull l W L id).2 = 0
  · rw [if_neg (fun h : (cutFull l W L id).2 ≠ 0 => h h1)] at h
    by_cases h2 : rectE r = 0
    · rw [if_neg (fun h : rectE r ≠ 0 => h h2)] at h
      by_cases h3 : r.2.1 > (cutFull l W L id).1.2.1
      · rw [if_pos h3] at h; exact absurd h (by decide)
      · rw [if_neg h3] at h
        by_cases h4 : r.2.2.2 > lenS (cutFull l W L id).1.2.2.2
        · rw [if_pos h4] at h; exact absurd h (by decide)
        · exact ⟨h1, rectE_zero h2, by omega, by omega⟩
    · rw [if_pos h2] at h; exact absurd h h2
  · rw [if_pos h1] at h; exact absurd h h1
theorem back_err {l : List Ro} {W L id : Int} {r : Rc4} (h : (backS l W L id r).2 ≠ 0) : (backS l W L id r).1 = [] := by
  unfold backS at h ⊢
  by_cases h1 : (cutFull l W L id).2 ≠ 0
  · rw [if_pos h1]
  · rw [if_neg h1] at h ⊢
    by_cases h2 : rectE r ≠ 0
    · rw [if_pos h2]
    · rw [if_neg h2] at h ⊢
      by_cases h3 : r.2.1 > (cutFull l W L id).1.2.1
      · rw [if_pos h3]
      · rw [if_neg h3] at h ⊢
        by_cases h4 : r.2.2.2 > lenS (cutFull l W L id).1.2.2.2
        · rw [if_pos h4]
        · rw [if_neg h4] at h ⊢
          by_cases h5 : (imageS (partS (cutFull l W L id).1.2.2.2 r.2.2).1).2 ≠ 0
          · rw [if_pos h5]
          · rw [if_neg h5] at h; exact absurd rfl h
theorem bk_in {c : Ch} (hc : Chk c.2.2.2) {r : Rc4} (hr : RectOk r) (h2 : r.2.2.2 ≤ lenS c.2.2.2) : Nr (-1) (bkS c r) ∧ (∀ s ∈ bkS c r, 0 ≤ s.1 ∧ s.1 < s.2 ∧ s.2 ≤ 17179869184) ∧ (bkS c r).length ≤ 256 := by
  obtain ⟨p1, p2, p3, p4⟩ := part_ok hc (s := r.2.2) hr.f hr.ft h2
  have hi := spn_in p2.goods
  have h1 := nf_nr hi
  refine ⟨h1, fun s hs => ?_, ?_⟩
  · have := (nf_in hi).mem s hs
    exact ⟨this.1, h1.pos s hs, this.2.2⟩
  · have h3 := nf_len hi
    rw [List.length_map] at h3
    have := p2.len
    show (nf _).length ≤ 256; omega
theorem bk_tot {c : Ch} (hc : Chk c.2.2.2) (hi : Inj c.2.2.2) {r : Rc4} (hr : RectOk r) (h2 : r.2.2.2 ≤ lenS c.2.2.2) : tot (bkS c r) = r.2.2.2 - r.2.2.1 := by
  obtain ⟨p1, p2, p3, p4⟩ := part_ok hc (s := r.2.2) hr.f hr.ft h2
  rw [← p3]
  exact tot_image p2 (part_inj hc hi hr.f hr.ft h2)
theorem bk_has {c : Ch} (hc : Chk c.2.2.2) (hi : Inj c.2.2.2) {r : Rc4} (hr : RectOk r) (h2 : r.2.2.2 ≤ lenS c.2.2.2) {b : Int} (b0 : 0 ≤ b) (b1 : b < lenS c.2.2.2) : hasT (bkS c r) (imgAt c.2.2.2 b) = true ↔ r.2.2.1 ≤ b ∧ b < r.2.2.2 := by
  obtain ⟨p1, p2, p3, p4⟩ := part_ok hc (s := r.2.2) hr.f hr.ft h2
  have e : hasT (bkS c r) (imgAt c.2.2.2 b) = imT (partS c.2.2.2 r.2.2).1 (imgAt c.2.2.2 b) := hasT_nf (spn_in p2.goods) _
  have h0 := hr.f
  rw [e, imT_img p2.goods, p3]
  constructor
  · rintro ⟨x, x0, x1, e⟩
    rw [p4 x x0 x1] at e
    have := hi (r.2.2.1 + x) b (by omega) (by omega) b0 b1 e
    omega
  · rintro ⟨h3, h4⟩
    refine ⟨b - r.2.2.1, by omega, by omega, ?_⟩
    rw [p4 _ (by omega) (by omega), show r.2.2.1 + (b - r.2.2.1) = b by omega]
/-- how many spans hold an integer -/
def hits (l : List Sp) (z : Int) : Int := match l with
  | [] => 0
  | s :: t => (if segT s z = true then 1 else 0) + hits t z
theorem hits_nr : ∀ {l : List Sp} {m : Int} (z : Int), Nr m l → hits l z = if hasT l z = true then 1 else 0
  | [], _, _, _ => rfl
  | s :: t, m, z, ⟨h1, h2, h3⟩ => by
    rw [hits, hits_nr z h3, hasT_cons']
    show _ = if (segT s z || hasT t z) = true then 1 else 0
    cases e : segT s z
    · rw [Bool.false_or, if_neg (by decide), Int.zero_add]
    · rw [hasT_low h3 (by have := segT_iff.1 e; omega)]; rfl
def sumA : List Rc4 → Int
  | [] => 0
  | r :: t => areaR r + sumA t
theorem sumA_map (A B : Int) : ∀ l : List Sp, sumA (l.map fun s => (A, B, s)) = (B - A) * tot l
  | [] => (Int.mul_zero _).symm
  | s :: t => by
    rw [List.map_cons, sumA, sumA_map A B t, tot, Int.mul_add]; rfl
theorem nr_lt : ∀ {l : List Sp} {m : Int}, Nr m l → ∀ (j k : Nat), k < j → j < l.length → (l.getD k (0, 0)).2 < (l.getD j (0, 0)).1
  | [], _, _, j, k, _, h => by simp at h
  | s :: t, m, ⟨h1, h2, h3⟩, j, k, hk, hj => by
    obtain ⟨j, rfl⟩ : ∃ q, j = q + 1 := ⟨j - 1, by omega⟩
    have hj' : j < t.length := by simpa using hj
    rw [List.getD_cons_succ]
    cases k with
    | zero =>
      rw [List.getD_cons_zero]
      have hm : t.getD j (0, 0) ∈ t := getD_mem' _ _ _ hj'
      have := Nr.low h3 (t.getD j (0, 0)).1 ((has_iff _ _).2 ⟨_, hm, by omega, h3.pos _ hm⟩)
      exact this
    | succ k => rw [List.getD_cons_succ]; exact nr_lt h3 j k (by omega) hj'
end Go.AM
namespace Go.AM
open Go Go.Proofs
noncomputable section
end
theorem getD_map' {α β : Type} (f : α → β) : ∀ (l : List α) (i : Nat) (a : α) (b : β), i < l.length → (l.map f).getD i b = f (l.getD i a)
  | [], i, _, _, h => by simp at h
  | x :: t, 0, _, _, _ => rfl
  | x :: t, i + 1, a, b, h => by
    rw [List.map_cons, List.getD_cons_succ, List.getD_cons_succ]
    exact getD_map' f t i a b (by simpa using h)
end Go.AM
namespace Go.AM
open Go Go.Proofs
noncomputable section
abbrev R_u47 : Type := Bool
def res_u47 (r : R_u47) : AV := .r (.v (.bool r))
def bo_u47 (t_ : T5.T) (o_ : T3.T) (A_ : T8.T) (r : R_u47) : List (Nat × Blk) := []
def args_u47 (t_ : T5.T) (o_ : T3.T) (A_ : T8.T) : List AV := [.agg (rvs (enc T5 t_)), .agg (rvs (enc T3 o_)), .agg (rvs (enc T8 A_))]
def bin_u47 (t_ : T5.T) (o_ : T3.T) (A_ : T8.T) : List Blk := []
abbrev C_u47 (t_ : T5.T) (o_ : T3.T) (A_ : T8.T) (r : R_u47) : Prop := CC Try.prog 6 (args_u47 t_ o_ A_) (bin_u47 t_ o_ A_) (res_u47 r) (bo_u47 t_ o_ A_ r)
def st_u47_6 (y0 : List (T3).T) (y1 : Int) (y2 : Int) (y3 : Int) (y4 : Int) (y5 : Int) (y6 : Int) (y7 : T5.T) (y8 : T3.T) (y9 : T8.T) : St := ⟨mkS 233 [(3, .ptr 1000000 0 0), (4, .ptr 1000001 0 0), (5, .ptr 1000002 0 0), (7, .r (.ro T3 y0)), (8, .r (.v (.int .i64 y1))), (9, .r (.v (.int .i64 y2))), (10, .r (.v (.int .i64 y3))), (11, .r (.v (.int .i64 y4))), (12, .r (.v (.int .i64 y5))), (13, .r (.v (.int .i64 y6)))], [(1000000, 0, .var 25 (rvs (enc T5 y7))), (1000001, 0, .var 40 (rvs (enc T3 y8))), (1000002, 0, .var 58 (rvs (enc T8 y9)))]⟩
def st_u47_12 (y0 : List (T3).T) (y1 : Int) (y2 : Int) (y3 : Int) (y4 : Int) (y5 : Int) (y6 : T5.T) (y7 : T3.T) (y8 : T8.T) : St := ⟨mkS 233 [(3, .ptr 1000000 0 0), (4, .ptr 1000001 0 0), (5, .ptr 1000002 0 0), (7, .r (.ro T3 y0)), (9, .r (.v (.int .i64 y1))), (11, .r (.v (.int .i64 y2))), (12, .r (.v (.int .i64 y3))), (14, .r (.v (.int .i64 y4))), (15, .r (.v (.int .i64 y5)))], [(1000000, 0, .var 25 (rvs (enc T5 y6))), (1000001, 0, .var 40 (rvs (enc T3 y7))), (1000002, 0, .var 58 (rvs (enc T8 y8)))]⟩
def st_u47_18 (y0 : List (T3).T) (y1 : Int) (y2 : Int) (y3 : Int) (y4 : Int) (y5 : T5.T) (y6 : T3.T) (y7 : T8.T) : St := ⟨mkS 233 [(3, .ptr 1000000 0 0), (4, .ptr 1000001 0 0), (5, .ptr 1000002 0 0), (7, .r (.ro T3 y0)), (9, .r (.v (.int .i64 y1))), (11, .r (.v (.int .i64 y2))), (12, .r (.v (.int .i64 y3))), (14, .r (.v (.int .i64 y4)))], [(1000000, 0, .var 25 (rvs (enc T5 y5))), (1000001, 0, .var 40 (rvs (enc T3 y6))), (1000002, 0, .var 58 (rvs (enc T8 y7)))]⟩
def st_u47_24 (y0 : List (T3).T) (y1 : Int) (y2 : T3.T) (y3 : T8.T) (y4 : T8.T) : St := ⟨mkS 233 [(4, .ptr 1000000 0 0), (5, .ptr 1000001 0 0), (7, .r (.ro T3 y0)), (18, .ptr 1000002 0 0), (19, .r (.v (.int .i64 y1)))], [(1000000, 0, .var 40 (rvs (enc T3 y2))), (1000001, 0, .var 58 (rvs (enc T8 y3))), (1000002, 0, .var 58 (rvs (enc T8 y4)))]⟩
def st_u47_26 (y0 : List (T3).T) (y1 : Int) (y2 : Int) (y3 : Int) (y4 : T3.T) (y5 : T8.T) (y6 : T8.T) : St := ⟨mkS 233 [(4, .ptr 1000000 0 0), (5, .ptr 1000001 0 0), (7, .r (.ro T3 y0)), (18, .ptr 1000002 0 0), (19, .r (.v (.int .i64 y1))), (20, .r (.v (.int .i64 y2))), (21, .r (.v (.int .i64 y3)))], [(1000000, 0, .var 40 (rvs (enc T3 y4))), (1000001, 0, .var 58 (rvs (enc T8 y5))), (1000002, 0, .var 58 (rvs (enc T8 y6)))]⟩
mutual
def f_u47_6 (k : Nat) : Nat → List (T3).T → Int → Int → Int → Int → Int → Int → T5.T → T3.T → T8.T → Option R_u47
  | 0, _, _, _, _, _, _, _, _, _, _ => none
  | j + 1, y0, y1, y2, y3, y4, y5, y6, y7, y8, y9 =>
  bif (y1 != (0 : Int)) then
  bif ((↑y0.length : Int) == (0 : Int)) then
  if (((↑y0.length : Int) == (0 : Int)) = true) ∧ ((f_u49 k ).isSome = true) then
  some (true && v_u49 k)
  else none
  else
  if (((↑y0.length : Int) == (0 : Int)) = false) then
  some false
  else none
  else
  bif (y3 != (0 : Int) || y6 != (0 : Int) || decide (y8.2.1 > y4) || decide (y8.2.2.2 > y5)) then
  some false
  else
  f_u47_12 k j y0 y2 y4 y5 0 0 y7 y8 y9
def f_u47_12 (k : Nat) : Nat → List (T3).T → Int → Int → Int → Int → Int → T5.T → T3.T → T8.T → Option R_u47
  | 0, _, _, _, _, _, _, _, _, _ => none
  | j + 1, y0, y1, y2, y3, y4, y5, y6, y7, y8 =>
  bif (decide (y5 < (↑y0.length : Int))) then
  if (0 ≤ y5) ∧ (y5 < (↑y0.length : Int)) ∧ ((f_u57 k (y0.getD y5.toNat T3.dflt)).isSome = true) then
  if (((v_u57 k (y0.getD y5.toNat T3.dflt)).2 != (0 : Int)) = false → decide (y5 > (0 : Int)) = true → 0 ≤ y5) ∧ (((v_u57 k (y0.getD y5.toNat T3.dflt)).2 != (0 : Int)) = false → decide (y5 > (0 : Int)) = true → y5 < (↑y0.length : Int)) ∧ (((v_u57 k (y0.getD y5.toNat T3.dflt)).2 != (0 : Int)) = false → decide (y5 > (0 : Int)) = true → (0 : Int) ≤ IntKind.i64.wrap (y5 - (1 : Int))) ∧ (((v_u57 k (y0.getD y5.toNat T3.dflt)).2 != (0 : Int)) = false → decide (y5 > (0 : Int)) = true → IntKind.i64.wrap (y5 - (1 : Int)) < (↑y0.length : Int)) then
  bif ((v_u57 k (y0.getD y5.toNat T3.dflt)).2 != (0 : Int) || decide (y5 > (0 : Int)) && decide ((y0.getD y5.toNat T3.dflt).2.2.1 ≤ (y0.getD (IntKind.i64.wrap (y5 - (1 : Int))).toNat T3.dflt).2.2.2)) then
  some false
  else
  f_u47_12 k j y0 y1 y2 y3 ((IntKind.i64.wrap (y4 + (v_u57 k (y0.getD y5.toNat T3.dflt)).1))) ((IntKind.i64.wrap (y5 + 1))) y6 y7 y8
  else none
  else none
  else
  f_u47_18 k j y0 y1 y2 y3 y4 y6 y7 y8
def f_u47_18 (k : Nat) : Nat → List (T3).T → Int → Int → Int → Int → T5.T → T3.T → T8.T → Option R_u47
  | 0, _, _, _, _, _, _, _, _ => none
  | j + 1, y0, y1, y2, y3, y4, y5, y6, y7 =>
  bif (y4 != y1) then
  some false
  else
  bif (decide (y2 < (1 : Int)) || decide (y3 < (1 : Int))) then
  if ((f_u49 k ).isSome = true) then
  some (v_u49 k)
  else none
  else
  if ((f_u52 k y7.2.1 y2).isSome = true) ∧ ((f_u52 k y7.2.2 y3).isSome = true) then
  if ((f_u51 k y5).isSome = true) ∧ ((f_u6 k y5.1 (v_u51 k y5) (y7.1, v_u52 k y7.2.1 y2, v_u52 k y7.2.2 y3)).isSome = true) then
  f_u47_24 k j y0 ((v_u6 k y5.1 (v_u51 k y5) (y7.1, v_u52 k y7.2.1 y2, v_u52 k y7.2.2 y3)).2) y6 ((y7.1, (v_u52 k y7.2.1 y2, v_u52 k y7.2.2 y3))) ((v_u6 k y5.1 (v_u51 k y5) (y7.1, v_u52 k y7.2.1 y2, v_u52 k y7.2.2 y3)).1)
  else none
  else none
def f_u47_24 (k : Nat) : Nat → List (T3).T → Int → T3.T → T8.T → T8.T → Option R_u47
  | 0, _, _, _, _, _ => none
  | j + 1, y0, y1, y2, y3, y4 =>
  f_u47_26 k j y0 y1 0 0 y2 y3 y4
def f_u47_26 (k : Nat) : Nat → List (T3).T → Int → Int → Int → T3.T → T8.T → T8.T → Option R_u47
  | 0, _, _, _, _, _, _, _ => none
  | j + 1, y0, y1, y2, y3, y4, y5, y6 =>
  bif (decide (y3 < (↑y0.length : Int))) then
  if (0 ≤ y3) ∧ (y3 < (↑y0.length : Int)) ∧ (decide ((y0.getD y3.toNat T3.dflt).1 ≤ y6.2.1) = true → 0 ≤ y3) ∧ (decide ((y0.getD y3.toNat T3.dflt).1 ≤ y6.2.1) = true → y3 < (↑y0.length : Int)) ∧ ((decide ((y0.getD y3.toNat T3.dflt).1 ≤ y6.2.1) && decide (y6.2.1 < (y0.getD y3.toNat T3.dflt).2.1)) = true → 0 ≤ y3) ∧ ((decide ((y0.getD y3.toNat T3.dflt).1 ≤ y6.2.1) && decide (y6.2.1 < (y0.getD y3.toNat T3.dflt).2.1)) = true → y3 < (↑y0.length : Int)) ∧ ((decide ((y0.getD y3.toNat T3.dflt).1 ≤ y6.2.1) && decide (y6.2.1 < (y0.getD y3.toNat T3.dflt).2.1) && decide ((y0.getD y3.toNat T3.dflt).2.2.1 ≤ y6.2.2)) = true → 0 ≤ y3) ∧ ((decide ((y0.getD y3.toNat T3.dflt).1 ≤ y6.2.1) && decide (y6.2.1 < (y0.getD y3.toNat T3.dflt).2.1) && decide ((y0.getD y3.toNat T3.dflt).2.2.1 ≤ y6.2.2)) = true → y3 < (↑y0.length : Int)) then
  bif (decide ((y0.getD y3.toNat T3.dflt).1 ≤ y6.2.1) && decide (y6.2.1 < (y0.getD y3.toNat T3.dflt).2.1) && decide ((y0.getD y3.toNat T3.dflt).2.2.1 ≤ y6.2.2) && decide (y6.2.2 < (y0.getD y3.toNat T3.dflt).2.2.2)) then
  f_u47_26 k j y0 y1 ((IntKind.i64.wrap (y2 + 1))) ((IntKind.i64.wrap (y3 + 1))) y4 y5 y6
  else
  f_u47_26 k j y0 y1 y2 ((IntKind.i64.wrap (y3 + 1))) y4 y5 y6
  else none
  else
  bif (y1 == (0 : Int) && (y2 == (1 : Int)) == (decide (y4.1 ≤ y5.2.1) && decide (y5.2.1 < y4.2.1) && decide (y4.2.2.1 ≤ y5.2.2) && decide (y5.2.2 < y4.2.2.2)) && decide (y2 ≤ (1 : Int))) then
  if ((y1 == (0 : Int) && (y2 == (1 : Int)) == (decide (y4.1 ≤ y5.2.1) && decide (y5.2.1 < y4.2.1) && decide (y4.2.2.1 ≤ y5.2.2) && decide (y5.2.2 < y4.2.2.2)) && decide (y2 ≤ (1 : Int))) = true) ∧ ((f_u49 k ).isSome = true) then
  some (true && v_u49 k)
  else none
  else
  if ((y1 == (0 : Int) && (y2 == (1 : Int)) == (decide (y4.1 ≤ y5.2.1) && decide (y5.2.1 < y4.2.1) && decide (y4.2.2.1 ≤ y5.2.2) && decide (y5.2.2 < y4.2.2.2)) && decide (y2 ≤ (1 : Int))) = false) then
  some false
  else none
end
def f_u47 (k : Nat) (t_ : T5.T) (o_ : T3.T) (A_ : T8.T) : Option R_u47 :=
  if ((f_u54 k t_).isSome = true) then
  bif (!v_u54 k t_) then
  if ((f_u49 k ).isSome = true) then
  some (v_u49 k)
  else none
  else
  if ((f_u51 k t_).isSome = true) ∧ ((f_u19 k t_.1 (v_u51 k t_) A_.1 o_).isSome = true) then
  if ((f_u57 k o_).isSome = true) then
  if ((f_u51 k t_).isSome = true) ∧ ((f_u5 k t_.1 (v_u51 k t_) A_.1).isSome = true) then
  f_u47_6 k k ((v_u19 k t_.1 (v_u51 k t_) A_.1 o_).1) ((v_u19 k t_.1 (v_u51 k t_) A_.1 o_).2) ((v_u57 k o_).1) ((v_u57 k o_).2) ((v_u5 k t_.1 (v_u51 k t_) A_.1).1) ((v_u5 k t_.1 (v_u51 k t_) A_.1).2.1) ((v_u5 k t_.1 (v_u51 k t_) A_.1).2.2) t_ o_ A_
  else none
  else none
  else none
  else none
def K_u47 (k : Nat) : Calld := mkK [ke_u54 k, ke_u51 k, ke_u19 k, ke_u49 k, ke_u5 k, ke_u57 k, ke_u52 k, ke_u6 k]
def cs_u47 : List (Nat × List Cmd) := [(6, [.autoB [3, 4, 5, 7, 8, 9, 10, 11, 12, 13] false []]), (12, [.autoB [3, 4, 5, 7, 9, 11, 12, 14, 15] false []]), (18, [.autoB [3, 4, 5, 7, 9, 11, 12, 14] false []]), (24, [.autoB [4, 5, 7, 18, 19] false []]), (26, [.autoB [4, 5, 7, 18, 19, 20, 21] false []])]
abbrev E_u47 (t_ : T5.T) (o_ : T3.T) (A_ : T8.T) (todo : List Item) (st : St) (o : Option R_u47) : Prop := ∀ r, o = some r → Ev Try.prog Try.f6 0 todo st (res_u47 r) (bo_u47 t_ o_ A_ r)
theorem ev_u47 (k : Nat) (t_ : T5.T) (o_ : T3.T) (A_ : T8.T) : ∀ j, (∀ (y0 : List (T3).T) (y1 : Int) (y2 : Int) (y3 : Int) (y4 : Int) (y5 : Int) (y6 : Int) (y7 : T5.T) (y8 : T3.T) (y9 : T8.T), E_u47 t_ o_ A_ (placeAt Try.f6 6) (st_u47_6 y0 y1 y2 y3 y4 y5 y6 y7 y8 y9) (f_u47_6 k j y0 y1 y2 y3 y4 y5 y6 y7 y8 y9)) ∧ (∀ (y0 : List (T3).T) (y1 : Int) (y2 : Int) (y3 : Int) (y4 : Int) (y5 : Int) (y6 : T5.T) (y7 : T3.T) (y8 : T8.T), E_u47 t_ o_ A_ (placeAt Try.f6 12) (st_u47_12 y0 y1 y2 y3 y4 y5 y6 y7 y8) (f_u47_12 k j y0 y1 y2 y3 y4 y5 y6 y7 y8)) ∧ (∀ (y0 : List (T3).T) (y1 : Int) (y2 : Int) (y3 : Int) (y4 : Int) (y5 : T5.T) (y6 : T3.T) (y7 : T8.T), E_u47 t_ o_ A_ (placeAt Try.f6 18) (st_u47_18 y0 y1 y2 y3 y4 y5 y6 y7) (f_u47_18 k j y0 y1 y2 y3 y4 y5 y6 y7)) ∧ (∀ (y0 : List (T3).T) (y1 : Int) (y2 : T3.T) (y3 : T8.T) (y4 : T8.T), E_u47 t_ o_ A_ (placeAt Try.f6 24) (st_u47_24 y0 y1 y2 y3 y4) (f_u47_24 k j y0 y1 y2 y3 y4)) ∧ (∀ (y0 : List (T3).T) (y1 : Int) (y2 : Int) (y3 : Int) (y4 : T3.T) (y5 : T8.T) (y6 : T8.T), E_u47 t_ o_ A_ (placeAt Try.f6 26) (st_u47_26 y0 y1 y2 y3 y4 y5 y6) (f_u47_26 k j y0 y1 y2 y3 y4 y5 y6))
  | 0 => ⟨fun _ _ _ _ _ _ _ _ _ _ _ h => (nomatch h), fun _ _ _ _ _ _ _ _ _ _ h => (nomatch h), fun _ _ _ _ _ _ _ _ _ h => (nomatch h), fun _ _ _ _ _ _ h => (nomatch h), fun _ _ _ _ _ _ _ _ h => (nomatch h)⟩
  | j + 1 => by
    have ih := @ev_u47 k t_ o_ A_ j
    refine ⟨?_, ?_, ?_, ?_, ?_⟩
    · intro y0 y1 y2 y3 y4 y5 y6 y7 y8 y9 r h
      rw [f_u47_6] at h
      exact go (K_u47 k) [6, 18, 24] cs_u47 [.autoB [6] true []] (gT h (fun c h => gT h (fun c h => gN h (fun q => conjC q.1 (conjC (cc_u49 q.2) conj0)) fun h => gL h) fun c h => gN1 h id fun h => gL h) fun c h => gT h (fun c h => gL h) fun c h => gC h 12 (ih.2.1 _ _ _ _ _ _ _ _ _ _)) (by kernel_rfl)
    · intro y0 y1 y2 y3 y4 y5 y6 y7 y8 r h
      rw [f_u47_12] at h
      exact go (K_u47 k) [6, 18, 24] cs_u47 [.autoB [6] true []] (gT h (fun c h => gN h (fun q => conjC q.1 (conjC q.2.1 (conjC (cc_u57 q.2.2) conj0))) fun h => gN h (fun q => conjC q.1 (conjC q.2.1 (conjC q.2.2.1 (conjC q.2.2.2 conj0)))) fun h => gT h (fun c h => gL h) fun c h => gC h 12 (ih.2.1 _ _ _ _ _ _ _ _ _ _)) fun c h => gC h 18 (ih.2.2.1 _ _ _ _ _ _ _ _ _)) (by kernel_rfl)
    · intro y0 y1 y2 y3 y4 y5 y6 y7 r h
      rw [f_u47_18] at h
      exact go (K_u47 k) [6, 18, 24] cs_u47 [.autoB [6] true []] (gT h (fun c h => gL h) fun c h => gT h (fun c h => gN1 h (fun q => cc_u49 q) fun h => gL h) fun c h => gN h (fun q => conjC (cc_u52 q.1) (conjC (cc_u52 q.2) conj0)) fun h => gN h (fun q => conjC (cc_u51 q.1) (conjC (cc_u6 q.2) conj0)) fun h => gC h 24 (ih.2.2.2.1 _ _ _ _ _ _)) (by kernel_rfl)
    · intro y0 y1 y2 y3 y4 r h
      rw [f_u47_24] at h
      exact go (K_u47 k) [6, 18, 24] cs_u47 [.autoB [6] true []] (gC h 26 (ih.2.2.2.2 _ _ _ _ _ _ _ _)) (by kernel_rfl)
    · intro y0 y1 y2 y3 y4 y5 y6 r h
      rw [f_u47_26] at h
      exact go (K_u47 k) [6, 18, 24] cs_u47 [.autoB [6] true []] (gT h (fun c h => gN h (fun q => conjC q.1 (conjC q.2.1 (conjC q.2.2.1 (conjC q.2.2.2.1 (conjC q.2.2.2.2.1 (conjC q.2.2.2.2.2.1 (conjC q.2.2.2.2.2.2.1 (conjC q.2.2.2.2.2.2.2 conj0)))))))) fun h => gT h (fun c h => gC h 26 (ih.2.2.2.2 _ _ _ _ _ _ _ _)) fun c h => gC h 26 (ih.2.2.2.2 _ _ _ _ _ _ _ _)) fun c h => gT h (fun c h => gN h (fun q => conjC q.1 (conjC (cc_u49 q.2) conj0)) fun h => gL h) fun c h => gN1 h id fun h => gL h) (by kernel_rfl)
theorem of_u47 (k : Nat) (t_ : T5.T) (o_ : T3.T) (A_ : T8.T) (r : R_u47) (h : f_u47 k t_ o_ A_ = some r) : C_u47 t_ o_ A_ r := by
  refine CC.of (fn := Try.f6) (by kernel_rfl) (by kernel_rfl) (by kernel_rfl) (by kernel_rfl) ?_
  unfold f_u47 at h
  exact go (K_u47 k) [6, 18, 24] cs_u47 [.autoB [6] true []] (gN1 h (fun q => cc_u54 q) fun h => gT h (fun c h => gN1 h (fun q => cc_u49 q) fun h => gL h) fun c h => gN h (fun q => conjC (cc_u51 q.1) (conjC (cc_u19 q.2) conj0)) fun h => gN1 h (fun q => cc_u57 q) fun h => gN h (fun q => conjC (cc_u51 q.1) (conjC (cc_u5 q.2) conj0)) fun h => gC h 6 ((ev_u47 k t_ o_ A_ k).1 _ _ _ _ _ _ _ _ _ _ _)) (by kernel_rfl)
end
theorem rect_Area_some (k : Nat) (r : Rc4) : (f_u57 k r).isSome = true := by
  by_cases h : rectE r = 0
  · rw [rect_Area_s k (rectE_zero h)]; rfl
  · unfold f_u57
    rw [rect_Check_s, rect_Check_v, Option.isSome_some, if_pos rfl, bne_iff_ne.2 h]; rfl
def onT (r : Rc4) (X Z : Int) : Bool := decide (r.1 ≤ X) && decide (X < r.2.1) && decide (r.2.2.1 ≤ Z) && decide (Z < r.2.2.2)
theorem onT_iff {r : Rc4} {X Z : Int} : onT r X Z = true ↔ r.1 ≤ X ∧ X < r.2.1 ∧ r.2.2.1 ≤ Z ∧ Z < r.2.2.2 := by
  unfold onT
  simp only [Bool.and_eq_true, decide_eq_true_iff, and_assoc]
def hitsR (X Z : Int) : List Rc4 → Int
  | [] => 0
  | r :: t => (if onT r X Z = true then 1 else 0) + hitsR X Z t
theorem hitsR_map (A B X Z : Int) : ∀ fs : List Sp, hitsR X Z (fs.map fun s => (A, B, s)) = if A ≤ X ∧ X < B then hits fs Z else 0
  | [] => by simp [hitsR, hits]
  | s :: t => by
    rw [List.map_cons, hitsR, hitsR_map A B X Z t, hits]
    by_cases h : A ≤ X ∧ X < B
    · rw [if_pos h, if_pos h]
      cases e : segT s Z
      · have : ¬ onT (A, B, s) X Z = true := fun h => by
          obtain ⟨_, _, a, b⟩ := onT_iff.1 h
          rw [segT_iff.2 ⟨a, b⟩] at e; cases e
        rw [if_neg this]; rfl
      · obtain ⟨a, b⟩ := segT_iff.1 e
        rw [if_pos (onT_iff.2 ⟨h.1, h.2, a, b⟩)]; rfl
    · have : ¬ onT (A, B, s) X Z = true := fun q => by
        obtain ⟨a, b, _, _⟩ := onT_iff.1 q
        exact h ⟨a, b⟩
      rw [if_neg h, if_neg h, if_neg this]; rfl
theorem bk_pt (c : Ch) (r : Rc4) (a : Int) : bkL c r ≤ acrS c a ∧ acrS c a < bkR c r ↔ r.1 ≤ a ∧ a < r.2.1 := by
  unfold bkL bkR acrS
  cases c.2.2.1 <;> simp only [Bool.false_eq_true, if_false, if_true] <;> omega
theorem Back_12 (k : Nat) (A B : Int) (fs : List Sp) (a w n : Int) (x : Pap) (r : Rc4) (p : Pt) (hn : Nr (-1) fs) (hl : fs.length ≤ 256) (ho : ∀ s ∈ fs, RectOk (A, B, s)) : ∀ (d i j : Nat) (S : Int), i + d = fs.length → d + 600 < j → 0 ≤ S → S ≤ (i : Int) * 206158430208000 →
    ∃ j', 500 < j' ∧ f_u47_12 k j (fs.map fun s => (A, B, s)) a w n S (i : Int) x r p = f_u47_18 k j' (fs.map fun s => (A, B, s)) a w n (S + sumA ((fs.drop i).map fun s => (A, B, s))) x r p := by
  intro d
  induction d with
  | zero =>
    intro i j S hi hj h0 h1
    obtain ⟨j, rfl⟩ : ∃ q, j = q + 1 := ⟨j - 1, by omega⟩
    refine ⟨j, by omega, ?_⟩
    rw [f_u47_12, List.length_map, decide_eq_false (by omega : ¬ (i : Int) < (fs.length : Int)), cond_false, List.drop_of_length_le (by omega), List.map_nil, sumA, Int.add_zero]
  | succ d ih =>
    intro i j S hi hj h0 h1
    obtain ⟨j, rfl⟩ : ∃ q, j = q + 1 := ⟨j - 1, by omega⟩
    have o1 := ho (fs.getD i (0, 0)) (getD_mem' _ _ _ (by omega))
    have ha := areaR_in o1
    have h3 : (0 : Int) ≤ (i : Int) := by omega
    have h4 : (i : Int) < ((fs.map fun s => (A, B, s)).length : Int) := by rw [List.length_map]; omega
    have hg : (fs.map fun s => (A, B, s)).getD i T3.dflt = (A, B, fs.getD i (0, 0)) := getD_map' _ fs i (0, 0) _ (by omega)
    obtain ⟨j', e1, e2⟩ := ih (i + 1) j (S + areaR (A, B, fs.getD i (0, 0))) (by omega) (by omega) (by omega) (by omega)
    refine ⟨j', e1, ?_⟩
    rw [f_u47_12, decide_eq_true h4, cond_true, Int.toNat_natCast, hg, rect_Area_s k o1, rect_Area_v k o1, if_pos ⟨h3, h4, rfl⟩]
    have hw : (i : Int) > 0 → IntKind.i64.wrap ((i : Int) - 1) = ((i - 1 : Nat) : Int) := fun h => by rw [wrap_id (by omega) (by omega)]; omega
    rw [if_pos ⟨fun _ _ => h3, fun _ _ => h4, fun _ h => by rw [hw (of_decide_eq_true h)]; omega, fun _ h => by rw [hw (of_decide_eq_true h), List.length_map]; omega⟩]
    dsimp only
    have hc : (decide ((i : Int) > 0) && decide ((fs.getD i (0, 0)).1 ≤ ((fs.map fun s => (A, B, s)).getD (IntKind.i64.wrap ((i : Int) - 1)).toNat T3.dflt).2.2.2)) = false := by
      by_cases h : (i : Int) > 0
      · rw [hw h, Int.toNat_natCast, getD_map' _ fs (i - 1) (0, 0) _ (by omega)]
        have := nr_lt hn i (i - 1) (by omega) (by omega)
        rw [show decide ((fs.getD i (0, 0)).1 ≤ (A, B, fs.getD (i - 1) (0, 0)).2.2.2) = false from decide_eq_false (by show ¬ (fs.getD i (0, 0)).1 ≤ (fs.getD (i - 1) (0, 0)).2; omega), Bool.and_false]
      · rw [decide_eq_false h]; rfl
    rw [hc, bne_self_eq_false, Bool.or_false, cond_false, wrap_id (by omega) (by omega), wrapS i (by omega)]
    refine e2.trans ?_
    rw [drop_cons' fs i (0, 0) (by omega), List.map_cons, sumA, Int.add_assoc]
theorem Back_26 (k : Nat) (hk : 301000 ≤ k) (l : List Rc4) (r : Rc4) (p : Pt) (X Z id : Int) (hl : l.length ≤ 256) : ∀ (d i j : Nat) (c : Int), i + d = l.length → d < j → 0 ≤ c → c ≤ i → c + hitsR X Z (l.drop i) = (if onT r p.2.1 p.2.2 = true then 1 else 0) → f_u47_26 k j l 0 c (i : Int) r p (id, X, Z) = some true := by
  intro d
  induction d with
  | zero =>
    intro i j c hi hj h0 h1 hc
    obtain ⟨j, rfl⟩ : ∃ q, j = q + 1 := ⟨j - 1, by omega⟩
    rw [List.drop_of_length_le (by omega), hitsR, Int.add_zero] at hc
    rw [f_u47_26, decide_eq_false (by omega : ¬ (i : Int) < (l.length : Int)), cond_false, awake43_s k hk, awake43_v k hk]
    have e' : (decide (r.1 ≤ p.2.1) && decide (p.2.1 < r.2.1) && decide (r.2.2.1 ≤ p.2.2) && decide (p.2.2 < r.2.2.2)) = onT r p.2.1 p.2.2 := rfl
    rw [e', hc]
    cases onT r p.2.1 p.2.2 <;> rfl
  | succ d ih =>
    intro i j c hi hj h0 h1 hc
    obtain ⟨j, rfl⟩ : ∃ q, j = q + 1 := ⟨j - 1, by omega⟩
    have h3 : (0 : Int) ≤ (i : Int) := by omega
    have h4 : (i : Int) < (l.length : Int) := by omega
    rw [drop_cons' l i T3.dflt (by omega), hitsR] at hc
    rw [f_u47_26, decide_eq_true h4, cond_true, Int.toNat_natCast, if_pos ⟨h3, h4, fun _ => h3, fun _ => h4, fun _ => h3, fun _ => h4, fun _ => h3, fun _ => h4⟩, wrapS i (by omega)]
    show (bif onT (l.getD i T3.dflt) X Z then _ else _) = _
    cases e : onT (l.getD i T3.dflt) X Z
    · rw [e, if_neg (by decide), Int.zero_add] at hc
      rw [cond_false]
      exact ih (i + 1) j c (by omega) (by omega) h0 (by omega) hc
    · rw [e, if_pos rfl, ← Int.add_assoc] at hc
      rw [cond_true, wrap_id (by omega) (by omega)]
      exact ih (i + 1) j (c + 1) (by omega) (by omega) (by omega) (by omega) hc
theorem back_6 (k : Nat) (hk : 301000 ≤ k) (j : Nat) (hj : 100000 < j) (x : Pap) (r : Rc4) (p : Pt) :
    f_u47_6 k j (backS x.1 x.2.1 x.2.2.1 p.1 r).1 (backS x.1 x.2.1 x.2.2.1 p.1 r).2 (v_u57 k r).1 (v_u57 k r).2 (sizeE x.1 x.2.1 x.2.2.1 p.1).1 (sizeE x.1 x.2.1 x.2.2.1 p.1).2.1 (sizeE x.1 x.2.1 x.2.2.1 p.1).2.2 x r p = some true := by
  obtain ⟨j, rfl⟩ : ∃ q, j = q + 1 := ⟨j - 1, by omega⟩
  have hfm : f_u51 k x = some (x.2.1, x.2.2.1) := rfl
  have hvm : v_u51 k x = (x.2.1, x.2.2.1) := rfl
  rw [f_u47_6]
  by_cases h1 : (backS x.1 x.2.1 x.2.2.1 p.1 r).2 = 0
  · obtain ⟨c1, rok, b1, b2⟩ := back_zero h1
    obtain ⟨reg, ci⟩ := cut_in c1
    have hw := size_ge reg (cut_err c1).kn
    have hsz := reg.small 512 p.1 (reg.anc (cut_err c1).kn)
    have hci := cut_inj c1
    have hW := reg.w
    have hcl := ci.left
    have hcr := ci.right
    have hcw := ci.width
    have hlen := ci.len
    obtain ⟨n1, n2, n3⟩ := bk_in ci.chk rok b2
    have hr := _root_.id rok
    obtain ⟨r1, r2, r3, r4, r5, r6⟩ := hr
    have hA : 0 ≤ bkL (cutFull x.1 x.2.1 x.2.2.1 p.1).1 r ∧ bkR (cutFull x.1 x.2.1 x.2.2.1 p.1).1 r ≤ 12000 ∧ bkR (cutFull x.1 x.2.1 x.2.2.1 p.1).1 r - bkL (cutFull x.1 x.2.1 x.2.2.1 p.1).1 r = r.2.1 - r.1 := by
      unfold bkL bkR; split <;> omega
    rw [sizeE_cut c1, rect_Area_v k rok, back_ok c1 rok b1 b2]
    dsimp only
    rw [decide_eq_false (by omega : ¬ r.2.1 > (sizeS x.1 x.2.1 x.2.2.1 p.1).1), decide_eq_false (by omega : ¬ r.2.2.2 > (sizeS x.1 x.2.1 x.2.2.1 p.1).2), bne_self_eq_false, cond_false, show (false || false || false || false) = false from rfl, cond_false]
    obtain ⟨j', e1, e2⟩ := Back_12 k (bkL (cutFull x.1 x.2.1 x.2.2.1 p.1).1 r) (bkR (cutFull x.1 x.2.1 x.2.2.1 p.1).1 r) (bkS (cutFull x.1 x.2.1 x.2.2.1 p.1).1 r) (areaR r) (sizeS x.1 x.2.1 x.2.2.1 p.1).1 (sizeS x.1 x.2.1 x.2.2.1 p.1).2 x r p n1 n3
      (fun s hs => by
        obtain ⟨s1, s2, s3⟩ := n2 s hs
        exact ⟨hA.1, by show bkL _ _ ≤ bkR _ _; omega, hA.2.1, s1, by show s.1 ≤ s.2; omega, s3⟩)
      (bkS (cutFull x.1 x.2.1 x.2.2.1 p.1).1 r).length 0 j 0 (Nat.zero_add _) (by omega) (by decide) (by decide)
    refine e2.trans ?_
    obtain ⟨j', rfl⟩ : ∃ q, j' = q + 2 := ⟨j' - 2, by omega⟩
    have hsum : 0 + sumA (((bkS (cutFull x.1 x.2.1 x.2.2.1 p.1).1 r).drop 0).map fun s => (bkL (cutFull x.1 x.2.1 x.2.2.1 p.1).1 r, bkR (cutFull x.1 x.2.1 x.2.2.1 p.1).1 r, s)) = areaR r := by
      rw [List.drop_zero, Int.zero_add, sumA_map, bk_tot ci.chk hci rok b2, hA.2.2]; rfl
    rw [f_u47_18, hsum, bne_self_eq_false, cond_false, decide_eq_false (by omega : ¬ (sizeS x.1 x.2.1 x.2.2.1 p.1).1 < 1), Bool.false_or]
    by_cases h2 : (sizeS x.1 x.2.1 x.2.2.1 p.1).2 < 1
    · rw [decide_eq_true h2, awake43_s k hk, awake43_v k hk]; rfl
    · obtain ⟨a, fa, va, a0, a1⟩ := pick_s k p.2.1 (sizeS x.1 x.2.1 x.2.2.1 p.1).1 hw (by omega)
      obtain ⟨b, fb, vb, b0, b1⟩ := pick_s k p.2.2 (sizeS x.1 x.2.1 x.2.2.1 p.1).2 (by omega) (by omega)
      rw [decide_eq_false h2, cond_false, fa, va, fb, vb, if_pos ⟨rfl, rfl⟩, hfm, hvm, fam_Web_s k (by omega), fam_Web_v k (by omega), if_pos ⟨rfl, rfl⟩]
      dsimp only
      rw [webE_on c1 a0 a1 b0 b1, f_u47_24]
      refine Back_26 k hk _ r (p.1, a, b) _ _ 0 (by rw [List.length_map]; exact n3) _ 0 j' 0 (Nat.zero_add _) (by rw [List.length_map]; omega) (by decide) (by decide) ?_
      rw [List.drop_zero, Int.zero_add, hitsR_map, hits_nr _ n1]
      have hh := bk_has ci.chk hci rok b2 b0 (by rw [hlen]; exact b1)
      have hx := bk_pt (cutFull x.1 x.2.1 x.2.2.1 p.1).1 r a
      by_cases g1 : r.1 ≤ a ∧ a < r.2.1
      · rw [if_pos (hx.2 g1)]
        by_cases g2 : r.2.2.1 ≤ b ∧ b < r.2.2.2
        · rw [if_pos (hh.2 g2), if_pos (onT_iff.2 ⟨g1.1, g1.2, g2.1, g2.2⟩)]
        · rw [if_neg (fun h => g2 (hh.1 h)), if_neg (fun h => g2 (onT_iff.1 h).2.2)]
      · rw [if_neg (fun h => g1 (hx.1 h)), if_neg (fun h => g1 ⟨(onT_iff.1 h).1, (onT_iff.1 h).2.1⟩)]
  · rw [bne_iff_ne.2 h1, back_err h1, awake43_s k hk, awake43_v k hk]; rfl
theorem q_InheritBack (k : Nat) (hk : 301000 ≤ k) (x : Pap) (r : Rc4) (p : Pt) : f_u47 k x r p = some true := by
  have hs := small_s k (by omega) x
  have hfm : f_u51 k x = some (x.2.1, x.2.2.1) := rfl
  have hvm : v_u51 k x = (x.2.1, x.2.2.1) := rfl
  unfold f_u47
  rw [hs, awake43_s k hk, awake43_v k hk, if_pos rfl, hfm, hvm]
  cases v_u54 k x
  · rfl
  rw [Bool.not_true, cond_false, inherit_Back_s k (by omega), inherit_Back_v k (by omega), fam_Size_s k (by omega), fam_Size_v k (by omega), if_pos ⟨rfl, rfl⟩, if_pos (rect_Area_some k r), if_pos ⟨rfl, rfl⟩]
  exact back_6 k hk k (by omega) x r p
end Go.AM
