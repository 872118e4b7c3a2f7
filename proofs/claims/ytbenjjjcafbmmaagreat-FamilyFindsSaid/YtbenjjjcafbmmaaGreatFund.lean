/- Contracts of the functions that the law reaches, and the plain law. -/
import Derived.Test.YtbenjjjcafbmmaaGreatFunc
set_option linter.unusedVariables false
set_option linter.unusedSimpArgs false
set_option linter.unusedSectionVars false
namespace Go.AM
open Go Go.Proofs Go.IntKind

def baseS (W L : Int) : Ch := (0, W, false, if L > 0 then [(0, L, false)] else [])
def cutJ (r : Ro) (o : Ch × Int) : Ch × Int :=
 if o.2 ≠ 0 then ((0, 0, false, []), o.2)
 else if (comp r.2.2.2.2.2 o.1.2.2.2).2 ≠ 0 then ((0, 0, false, []), (comp r.2.2.2.2.2 o.1.2.2.2).2)
 else (((if o.1.2.2.1 = true then i64.wrap (i64.wrap (i64.wrap (o.1.1 + o.1.2.1) - r.2.2.1) - r.2.2.2.1) else i64.wrap (o.1.1 + r.2.2.1)),
  r.2.2.2.1, !(o.1.2.2.1 == r.2.2.2.2.1), (comp r.2.2.2.2.2 o.1.2.2.2).1), 0)
def cutS (l : List Ro) (W L : Int) : Nat → Int → Ch × Int
 | 0, _ => (baseS W L, 0)
 | n + 1, id => if id = 0 then (baseS W L, 0) else match look l id with
  | none => (baseS W L, 0)
  | some r => cutJ r (cutS l W L n r.2.1)
theorem Anc.cases {l : List Ro} {n : Nat} {id : Int} (h : Anc l n id) (h0 : id ≠ 0) : ∃ m r, n = m + 1 ∧ look l id = some r ∧ Anc l m r.2.1 := by
 cases h with
 | root => exact absurd rfl h0
 | step m _ r _ e a => exact ⟨m, r, rfl, e, a⟩

theorem fam_cut (W L : Int) (l : List Ro) (M : List (Int × Int)) (hM : RegOk M l) : ∀ (n : Nat) (id : Int) (k : Nat), Anc l n id → n + 1000 < k → f_u18 k W L l M id = some (cutS l W L n id) := by
 have hbase : ∀ k, f_u18 (k + 1) W L l M 0 = some (baseS W L, 0) := fun k => by
  rw [f_u18]
  show (bif decide (L > 0) then some (((0 : Int), (W, (false, [((0 : Int), L, false)]))), (0 : Int)) else some (((0 : Int), (W, (false, []))), (0 : Int))) = _
  unfold baseS
  by_cases h : L > 0
  ·rw [decide_eq_true h, if_pos h]; rfl
  ·rw [decide_eq_false h, if_neg h]; rfl
 intro n
 induction n with
 | zero =>
  intro id k ha hk
  obtain ⟨k, rfl⟩ : ∃ q, k = q + 1 := ⟨k - 1, by omega⟩
  by_cases h0 : id = 0
  ·rw [h0, hbase]; rfl
  ·obtain ⟨m, _, e, _⟩ := ha.cases h0
   cases e
 | succ n ih =>
  intro id k ha hk
  obtain ⟨k, rfl⟩ : ∃ q, k = q + 1 := ⟨k - 1, by omega⟩
  by_cases h0 : id = 0
  ·rw [h0, hbase]
   unfold cutS
   rw [if_pos rfl]
  ·obtain ⟨m, r, em, e, a⟩ := ha.cases h0
   cases em
   have hf := ih r.2.1 k a (by omega)
   obtain ⟨x, e1, e2, e3⟩ := (hM id).some e
   have hx : (x : Int) < (l.length : Int) := by omega
   rw [f_u18]
   unfold cutS w_u18
   rw [if_neg h0, beq_false_of_ne h0, cond_false, e, e1, Option.getD_some, if_pos ⟨by omega, hx⟩, Int.toNat_natCast, e3, hf, Option.isSome_some, if_pos rfl, Option.getD_some, iso_Compose_s k (by omega), iso_Compose_v k (by omega)]
   show _ = some (cutJ r (cutS l W L n r.2.1))
   generalize cutS l W L n r.2.1 = o
   unfold cutJ
   by_cases h1 : o.2 = 0
   ·have g1 : ¬ (o.2 ≠ 0) := fun h => h h1
    rw [show (o.2 != 0) = false by simp [h1], cond_false, Option.isSome_some, if_pos rfl]
    rw [if_neg g1]
    generalize comp r.2.2.2.2.2 o.1.2.2.2 = c
    by_cases h2 : c.2 = 0
    ·have g2 : ¬ (c.2 ≠ 0) := fun h => h h2
     rw [show (c.2 != 0) = false by simp [h2], cond_false, if_neg g2]
     cases h3 : o.1.2.2.1
     ·rfl
     ·rfl
    ·rw [bne_iff_ne.2 h2, if_pos h2]; rfl
   ·rw [bne_iff_ne.2 h1]
    rw [if_pos h1]; rfl
def cutFull (l : List Ro) (W L id : Int) : Ch × Int := if errS l W L id ≠ 0 then ((0, 0, false, []), errS l W L id) else cutS l W L 512 id
theorem fam_Cut_s (k : Nat) (hk : 300000 ≤ k) (l : List Ro) (web : Int × Int) (id : Int) : f_u5 k l web id = some (cutFull l web.1 web.2 id) := by
 obtain ⟨h1, h2⟩ := fam_find k hk l web id
 unfold f_u5 vA_u14 vB_u14 v_u14 cutFull
 by_cases h : errS l web.1 web.2 id = 0
 ·obtain ⟨M, m1, m2, e⟩ := h2 h
  obtain ⟨reg, kn⟩ := errS_zero.1 h
  have hi : ¬ (errS l web.1 web.2 id ≠ 0) := fun h' => h' h
  have hc := fam_cut web.1 web.2 l M m1 512 id k (reg.anc kn) (by omega)
  rw [e, if_neg hi]
  show (if (f_u18 k web.1 web.2 l M id).isSome = true then some ((v_u18 k web.1 web.2 l M id).1, (v_u18 k web.1 web.2 l M id).2) else none) = _
  unfold v_u18
  rw [hc]; rfl
 ·rw [h1 h, if_pos h]
  show (bif (errS l web.1 web.2 id != 0) then _ else _) = _
  rw [bne_iff_ne.2 h]; rfl
theorem fam_Cut_v (k : Nat) (hk : 300000 ≤ k) (l : List Ro) (web : Int × Int) (id : Int) : v_u5 k l web id = cutFull l web.1 web.2 id := by
 unfold v_u5; rw [fam_Cut_s k hk l web id]; rfl

def restGo (id : Int) : List Ro → Int → Int
 | [], y => y
 | r :: t, y => restGo id t (if r.2.1 = id then i64.wrap (y - i64.wrap (r.2.2.2.1 * lenS r.2.2.2.2.2)) else y)
theorem fam_Rest_l (k : Nat) (hk : 2100 ≤ k) (W L : Int) (l : List Ro) (reg : Reg l W L) (M : List (Int × Int)) (hM : RegOk M l) (id z : Int) : ∀ (d i j : Nat) (y : Int), i + d = l.length → d < j →
  f_u21_1 k W L l M z id j l (l.length : Int) (i : Int) y = some (restGo id (l.drop i) y) := by
 intro d
 have hn := reg.num
 induction d with
 | zero =>
  intro i j y hi hj
  obtain ⟨j, rfl⟩ : ∃ q, j = q + 1 := ⟨j - 1, by omega⟩
  rw [f_u21_1, decide_eq_false (by omega : ¬ (i : Int) < (l.length : Int)), cond_false, List.drop_of_length_le (by omega)]; rfl
 | succ d ih =>
  intro i j y hi hj
  obtain ⟨j, rfl⟩ : ∃ q, j = q + 1 := ⟨j - 1, by omega⟩
  have hr : l.getD i T2.dflt ∈ l := getD_mem' _ _ _ (by omega)
  have ro := reg.ok.ro _ hr
  rw [f_u21_1, decide_eq_true (by omega : (i : Int) < (l.length : Int)), cond_true, if_pos ⟨by omega, by omega⟩, Int.toNat_natCast, wrapS i (by omega), drop_cons' l i T2.dflt (by omega), restGo, ih (i + 1) j _ (by omega) (by omega), ih (i + 1) j _ (by omega) (by omega)]
  generalize l.getD i T2.dflt = r at *
  have hp := ro.pos
  obtain ⟨a, b⟩ := fam_size k hk W L l M r.1 reg.wl hM (.inr ⟨r, ro.look⟩)
  have hs := size_some (W := W) (L := L) (by omega : r.1 ≠ 0) ro.look
  have hf : f_u1 k W L l M y r = some (i64.wrap (y - i64.wrap (r.2.2.2.1 * lenS r.2.2.2.2.2))) := by
   unfold f_u1; rw [a, b, hs]; rfl
  have hv : v_u1 k W L l M y r = i64.wrap (y - i64.wrap (r.2.2.2.1 * lenS r.2.2.2.2.2)) := by unfold v_u1; rw [hf]; rfl
  rw [hf, hv]
  by_cases h : r.2.1 = id
  ·rw [show (r.2.1 == id) = true from beq_iff_eq.2 h, cond_true, if_pos ⟨rfl, rfl⟩, if_pos h]
  ·rw [show (r.2.1 == id) = false from beq_false_of_ne h, cond_false, if_pos rfl, if_neg h]
def restE (l : List Ro) (W L id : Int) : Int × Int := if errS l W L id ≠ 0 then (0, errS l W L id) else (restGo id l (i64.wrap ((sizeS l W L id).1 * (sizeS l W L id).2)), 0)
theorem fam_Rest_s (k : Nat) (hk : 300000 ≤ k) (l : List Ro) (web : Int × Int) (id : Int) : f_u8 k l web id = some (restE l web.1 web.2 id) := by
 obtain ⟨h1, h2⟩ := fam_find k hk l web id
 unfold f_u8 vA_u14 vB_u14 v_u14 restE
 by_cases h : errS l web.1 web.2 id = 0
 ·obtain ⟨M, m1, m2, e⟩ := h2 h
  obtain ⟨reg, kn⟩ := errS_zero.1 h
  have hn := reg.num
  have hi : ¬ (errS l web.1 web.2 id ≠ 0) := fun h' => h' h
  obtain ⟨a, b⟩ := fam_size k (by omega) web.1 web.2 l M id m2 m1 kn
  rw [e, if_neg hi]
  show (if (f_u27 k web.1 web.2 l M id).isSome = true then (if (f_u19 k web.1 web.2 l M id).isSome = true then (if (f_u21 k web.1 web.2 l M (i64.wrap ((v_u27 k web.1 web.2 l M id).1 * (v_u27 k web.1 web.2 l M id).2)) id).isSome = true then some (v_u21 k web.1 web.2 l M (i64.wrap ((v_u27 k web.1 web.2 l M id).1 * (v_u27 k web.1 web.2 l M id).2)) id, (0 : Int)) else none) else none) else none) = _
  have hr := fam_Rest_l k (by omega) web.1 web.2 l reg M m1 id (i64.wrap ((sizeS l web.1 web.2 id).1 * (sizeS l web.1 web.2 id).2)) l.length 0 k (i64.wrap ((sizeS l web.1 web.2 id).1 * (sizeS l web.1 web.2 id).2)) (by omega) (by omega)
  unfold v_u21 f_u21
  rw [a, b, show f_u21_1 k web.1 web.2 l M (i64.wrap ((sizeS l web.1 web.2 id).1 * (sizeS l web.1 web.2 id).2)) id k l (l.length : Int) 0 (i64.wrap ((sizeS l web.1 web.2 id).1 * (sizeS l web.1 web.2 id).2)) = _ from hr]
  rfl
 ·rw [h1 h, if_pos h]
  show (bif (errS l web.1 web.2 id != 0) then _ else _) = _
  rw [bne_iff_ne.2 h]; rfl
theorem fam_Rest_v (k : Nat) (hk : 300000 ≤ k) (l : List Ro) (web : Int × Int) (id : Int) : v_u8 k l web id = restE l web.1 web.2 id := by
 unfold v_u8; rw [fam_Rest_s k hk l web id]; rfl
def leafS (l : List Ro) (id : Int) : Bool := !(l.any fun r => r.2.1 == id)
theorem fam_leaf_l (k : Nat) (W L : Int) (l : List Ro) (M : List (Int × Int)) (id : Int) (hl : l.length ≤ 512) (z : Bool) : ∀ (d i j : Nat), i + d = l.length → d < j →
  f_u22_1 k z W L l M id j l (l.length : Int) (i : Int) false = if ((l.drop i).any fun r => r.2.1 == id) = true then some (.inl false) else some (.inr false) := by
 intro d
 induction d with
 | zero =>
  intro i j hi hj
  obtain ⟨j, rfl⟩ : ∃ q, j = q + 1 := ⟨j - 1, by omega⟩
  rw [f_u22_1, decide_eq_false (by omega : ¬ (i : Int) < (l.length : Int)), cond_false, List.drop_of_length_le (by omega), List.any_nil, if_neg (by decide)]
 | succ d ih =>
  intro i j hi hj
  obtain ⟨j, rfl⟩ : ∃ q, j = q + 1 := ⟨j - 1, by omega⟩
  rw [f_u22_1, decide_eq_true (by omega : (i : Int) < (l.length : Int)), cond_true, if_pos ⟨by omega, by omega⟩, Int.toNat_natCast, wrapS i (by omega), drop_cons' l i T2.dflt (by omega), List.any_cons, ih (i + 1) j (by omega) (by omega)]
  cases h : ((l.getD i T2.dflt).2.1 == id)
  ·rw [cond_false, if_pos rfl, Bool.false_or]
  ·rfl
theorem fam_leaf_s (k : Nat) (hk : 2100 ≤ k) (W L : Int) (l : List Ro) (M : List (Int × Int)) (id : Int) (hl : l.length ≤ 512) : f_u25 k W L l M id = some (leafS l id) := by
 have h := fam_leaf_l k W L l M id hl false l.length 0 k (by omega) (by omega)
 rw [List.drop_zero] at h
 unfold f_u25 vA_u22 v_u22 f_u22 leafS
 show (if (f_u19 k W L l M id).isSome = true then (bif Sum.isLeft (((f_u22_1 k false W L l M id k l (l.length : Int) 0 false)).getD _) then (if (f_u22_1 k false W L l M id k l (l.length : Int) 0 false).isSome = true then some (lft false ((f_u22_1 k false W L l M id k l (l.length : Int) 0 false).getD _)) else none) else (if (f_u22_1 k false W L l M id k l (l.length : Int) 0 false).isSome = true then some true else none)) else none) = _
 rw [show f_u22_1 k false W L l M id k l (l.length : Int) 0 false = _ from h]
 cases (l.any fun r => r.2.1 == id) <;> rfl
theorem fam_leaf_v (k : Nat) (hk : 2100 ≤ k) (W L : Int) (l : List Ro) (M : List (Int × Int)) (id : Int) (hl : l.length ≤ 512) : v_u25 k W L l M id = leafS l id := by
 unfold v_u25; rw [fam_leaf_s k hk W L l M id hl]; rfl
theorem ref42_Leaf_l (k : Nat) (l : List Ro) (id : Int) (hl : l.length ≤ 512) : ∀ (d i j : Nat), i + d = l.length → d < j →
  f_u83_2 k j l id (i : Int) = some (leafS (l.drop i) id) := by
 intro d
 induction d with
 | zero =>
  intro i j hi hj
  obtain ⟨j, rfl⟩ : ∃ q, j = q + 1 := ⟨j - 1, by omega⟩
  rw [f_u83_2, decide_eq_false (by omega : ¬ (i : Int) < (l.length : Int)), cond_false, List.drop_of_length_le (by omega)]
  rfl
 | succ d ih =>
  intro i j hi hj
  obtain ⟨j, rfl⟩ : ∃ q, j = q + 1 := ⟨j - 1, by omega⟩
  rw [f_u83_2, decide_eq_true (by omega : (i : Int) < (l.length : Int)), cond_true, if_pos ⟨by omega, by omega⟩, Int.toNat_natCast, wrapS i (by omega), drop_cons' l i T2.dflt (by omega), ih (i + 1) j (by omega) (by omega)]
  unfold leafS
  rw [List.any_cons]
  cases h : ((l.getD i T2.dflt).2.1 == id)
  ·rw [cond_false, Bool.false_or]
  ·rfl
theorem ref42_Leaf_s (k : Nat) (hk : 2100 ≤ k) (l : List Ro) (id : Int) (hl : l.length ≤ 512) : f_u83 k l id = some (leafS l id) := by
 unfold f_u83
 exact ref42_Leaf_l k l id hl l.length 0 k (by omega) (by omega)
theorem ref42_Leaf_v (k : Nat) (hk : 2100 ≤ k) (l : List Ro) (id : Int) (hl : l.length ≤ 512) : v_u83 k l id = leafS l id := by
 unfold v_u83; rw [ref42_Leaf_s k hk l id hl]; rfl

end Go.AM
namespace Go.AM
open Go Go.IntKind

def locS : List Rn → Int → Int → Option Int
 | [], _, _ => none
 | r :: t, a, y => if lo r ≤ y ∧ y ≤ hi r then some (a + (if r.2.2 = true then hi r - y else y - lo r)) else locS t (a + r.2.1) y
theorem locS_bound : ∀ {m : List Rn} {a y z : Int}, goods m → locS m a y = some z → a ≤ z ∧ z < a + lenS m
 | [], a, y, z, _, h => by cases h
 | r :: t, a, y, z, ⟨g1, g2⟩, h => by
  obtain ⟨l1, l2, l3, l4⟩ := g1.lohi
  have h0 := lenS_nonneg g2
  rw [lenS]
  unfold locS at h
  by_cases hc : lo r ≤ y ∧ y ≤ hi r
  ·rw [if_pos hc] at h
   have := Option.some.inj h
   by_cases hb : r.2.2 = true
   ·rw [if_pos hb] at this; omega
   ·rw [if_neg hb] at this; omega
  ·rw [if_neg hc] at h
   have := locS_bound g2 h
   have := g1.1
   omega
def downS (r : Ro) (p : Pt) : Option Pt :=
 if p.2.1 < r.2.2.1 ∨ p.2.1 ≥ r.2.2.1 + r.2.2.2.1 then none
 else (locS r.2.2.2.2.2 0 p.2.2).map fun z => (r.1, (if r.2.2.2.2.1 = true then r.2.2.1 + r.2.2.2.1 - 1 - p.2.1 else p.2.1 - r.2.2.1), z)
def firstS : List Ro → Pt → Option Pt
 | [], _ => none
 | r :: t, p => if r.2.1 = p.1 then (match downS r p with
   | some q => some q
   | none => firstS t p) else firstS t p
def scanS : List Ro → Pt → Pt
 | [], p => p
 | r :: t, p => if r.2.1 = p.1 then (match downS r p with
   | some q => scanS t q
   | none => scanS t p) else scanS t p
theorem firstS_append : ∀ (a b : List Ro) (p : Pt), firstS (a ++ b) p = (firstS a p).or (firstS b p)
 | [], b, p => by simp [firstS]
 | r :: t, b, p => by
  rw [List.cons_append, firstS, firstS]
  by_cases h : r.2.1 = p.1
  ·rw [if_pos h, if_pos h]
   cases downS r p with
   | some q => rfl
   | none => exact firstS_append t b p
  ·rw [if_neg h, if_neg h, firstS_append t b p]
theorem firstS_none : ∀ {a : List Ro} {p : Pt}, (∀ x ∈ a, x.2.1 ≠ p.1) → firstS a p = none
 | [], p, _ => rfl
 | r :: t, p, h => by
  rw [firstS, if_neg (h r (by simp))]
  exact firstS_none fun x hx => h x (by simp [hx])
theorem downS_id {r : Ro} {p q : Pt} (h : downS r p = some q) : q.1 = r.1 := by
 unfold downS at h
 by_cases h1 : p.2.1 < r.2.2.1 ∨ p.2.1 ≥ r.2.2.1 + r.2.2.2.1
 ·rw [if_pos h1] at h; cases h
 ·rw [if_neg h1] at h
  cases e : locS r.2.2.2.2.2 0 p.2.2 with
  | none => rw [e] at h; cases h
  | some z => rw [e] at h; cases h; rfl
theorem Okp.early {W L : Int} {l : List Ro} (h : Okp W L l) : ∀ (a : List Ro) (r : Ro) (t : List Ro), l = a ++ r :: t → ∀ x ∈ a ++ [r], x.2.1 ≠ r.1 := by
 induction h with
 | nil => intro a r t e; simp at e
 | snoc p y h f n c ih =>
  intro a r t e x hx
  rcases List.eq_nil_or_concat t with rfl | ⟨t', y', rfl⟩
  ·obtain ⟨e1, e2⟩ := List.append_inj' e rfl
   simp only [List.cons.injEq, and_true] at e2
   subst e2
   subst e1
   have hpar : x.2.1 = 0 ∨ ∃ q, look p x.2.1 = some q := by
    rcases List.mem_append.1 hx with hx | hx
    ·exact (h.ro x hx).parent
    ·rw [List.mem_singleton] at hx; subst hx; exact f.parent
   have := f.id0
   intro e3
   rcases hpar with hp | ⟨q, hp⟩
   ·omega
   ·rw [e3, n] at hp; cases hp
  ·rw [List.concat_eq_append] at *
   have e4 : a ++ r :: (t' ++ [y']) = (a ++ r :: t') ++ [y'] := by simp
   rw [e4] at e
   obtain ⟨e1, e2⟩ := List.append_inj' e rfl
   exact ih a r t' e1 x hx
def finishS (l : List Ro) (p : Pt) : Pt × Int := if p.1 = 0 then ((0, 0, 0), 7) else bif !(l.any fun r => r.2.1 == p.1) then (p, 0) else ((0, 0, 0), 7)
end Go.AM
namespace Go.AM
open Go Go.Proofs Go.IntKind
set_option linter.unusedVariables false
noncomputable section
abbrev R_u13 : Type := T4.T × Bool
def res_u13 (r : R_u13) : AV := .tup [.agg (rvs (enc T4 r.1)), .r (.v (.bool r.2))]
def bo_u13 (r_ : T2.T) (p_ : T4.T) (r : R_u13) : List (Nat × Blk) := []
def args_u13 (r_ : T2.T) (p_ : T4.T) : List AV := [.agg (rvs (enc T2 r_)), .agg (rvs (enc T4 p_))]
def bin_u13 (r_ : T2.T) (p_ : T4.T) : List Blk := []
def st_u13_8 (y0 : Int) (y1 : Int) (y2 : List (T0).T) (y3 : Int) (y4 : Int) (y5 : T2.T) (y6 : T4.T) (y7 : T4.T) : St := ⟨mkS 86 [(2, .ptr 1000000 0 0), (3, .ptr 1000001 0 0), (4, .ptr 1000002 0 0), (6, .r (.v (.int .i64 y0))), (7, .r (.v (.int .i64 y1))), (40, .r (.ro T0 y2)), (41, .r (.v (.int .i64 y3))), (42, .r (.v (.int .i64 y4)))], [(1000000, 0, .var 48 (rvs (enc T2 y5))), (1000001, 0, .var 26 (rvs (enc T4 y6))), (1000002, 0, .var 26 (rvs (enc T4 y7)))]⟩
def f_u13_8 (k : Nat) : Nat → Int → Int → List (T0).T → Int → Int → T2.T → T4.T → T4.T → Option R_u13
 | 0, _, _, _, _, _, _, _, _ => none
 | j + 1, y0, y1, y2, y3, y4, y5, y6, y7 =>
 bif (decide (y4 < y3)) then
 if (0 ≤ y4) ∧ (y4 < (↑y2.length : Int)) then
 if ((f_u12 k (y2.getD y4.toNat T0.dflt)).isSome = true) then
 bif (decide ((v_u12 k (y2.getD y4.toNat T0.dflt)).1 ≤ y6.2.2) && decide (y6.2.2 ≤ (v_u12 k (y2.getD y4.toNat T0.dflt)).2)) then
 bif (y2.getD y4.toNat T0.dflt).2.2 then
 some (((y5.1, (y0, i64.wrap (i64.wrap (y1 + (v_u12 k (y2.getD y4.toNat T0.dflt)).2) - y6.2.2))), true))
 else
 some (((y5.1, (y0, i64.wrap (i64.wrap (y1 + y6.2.2) - (v_u12 k (y2.getD y4.toNat T0.dflt)).1))), true))
 else
 f_u13_8 k j y0 ((i64.wrap (y1 + (y2.getD y4.toNat T0.dflt).2.1))) y2 y3 ((i64.wrap (y4 + 1))) y5 y6 y7
 else none
 else none
 else
 some (((0, (0, 0)), false))
def f_u13 (k : Nat) (r_ : T2.T) (p_ : T4.T) : Option R_u13 :=
 bif (decide (i64.wrap (p_.2.1 - r_.2.2.1) < (0 : Int)) || decide (i64.wrap (p_.2.1 - r_.2.2.1) ≥ r_.2.2.2.1)) then
 some (((0, (0, 0)), false))
 else
 bif r_.2.2.2.2.1 then
 f_u13_8 k k ((i64.wrap (i64.wrap (r_.2.2.2.1 - 1) - i64.wrap (p_.2.1 - r_.2.2.1)))) 0 r_.2.2.2.2.2 ((↑ (List.length r_.2.2.2.2.2) : Int)) 0 r_ p_ ((0, (0, 0)))
 else
 f_u13_8 k k ((i64.wrap (p_.2.1 - r_.2.2.1))) 0 r_.2.2.2.2.2 ((↑ (List.length r_.2.2.2.2.2) : Int)) 0 r_ p_ ((0, (0, 0)))
def v_u13 (k : Nat) (r_ : T2.T) (p_ : T4.T) : R_u13 := (f_u13 k r_ p_).getD ((T4).dflt, false)
def K_u13 (k : Nat) : Calld := ⟨fun g xs => match g with
 | 65 => match xs with
  | [_] => some [false]
  | _ => none
 | _ => none, fun g xs bs => match g with
 | 65 => match xs, bs with
  | [.agg qx_], [] => (decS [] T0 qx_).bind fun x_ => some (.one (res_u12 (v_u12 k x_), bo_u12 x_ (v_u12 k x_)))
  | _, _ => none
 | _ => none⟩
theorem ev_u13 (k : Nat) (r_ : T2.T) (p_ : T4.T) : ∀ j, (∀ (y0 : Int) (y1 : Int) (y2 : List (T0).T) (y3 : Int) (y4 : Int) (y5 : T2.T) (y6 : T4.T) (y7 : T4.T) (r : R_u13), f_u13_8 k j y0 y1 y2 y3 y4 y5 y6 y7 = some r → Ev Tryz.prog Tryz.f47 0 (placeAt Tryz.f47 8) (st_u13_8 y0 y1 y2 y3 y4 y5 y6 y7) (res_u13 r) (bo_u13 r_ p_ r))
 | 0 => by
  intros; rename_i h; simp [f_u13_8] at h
 | j + 1 => by
  have ih := ev_u13 k r_ p_ j
  ·intro y0 y1 y2 y3 y4 y5 y6 y7 r h
   rw [f_u13_8] at h
   refine Ev.tree hm (R := Rt) (K := (K_u13 k)) (l := []) (C := [(8, [.autoB [2, 3, 4, 6, 7, 40, 41, 42] false []])]) (E := [.autoB [4, 5] true []]) (n := 1000) (T := .test ((decide (y4 < y3))) (.need [0 ≤ y4, y4 < (↑y2.length : Int)] (.need [CC Tryz.prog 65 (args_u12 (y2.getD y4.toNat T0.dflt)) (bin_u12 (y2.getD y4.toNat T0.dflt)) (res_u12 (v_u12 k (y2.getD y4.toNat T0.dflt))) (bo_u12 (y2.getD y4.toNat T0.dflt) (v_u12 k (y2.getD y4.toNat T0.dflt)))] (.test ((decide ((v_u12 k (y2.getD y4.toNat T0.dflt)).1 ≤ y6.2.2) && decide (y6.2.2 ≤ (v_u12 k (y2.getD y4.toNat T0.dflt)).2))) (.test ((y2.getD y4.toNat T0.dflt).2.2) (.leaf (res_u13 (((y5.1, (y0, i64.wrap (i64.wrap (y1 + (v_u12 k (y2.getD y4.toNat T0.dflt)).2) - y6.2.2))), true))) (bo_u13 r_ p_ (((y5.1, (y0, i64.wrap (i64.wrap (y1 + (v_u12 k (y2.getD y4.toNat T0.dflt)).2) - y6.2.2))), true)))) (.leaf (res_u13 (((y5.1, (y0, i64.wrap (i64.wrap (y1 + y6.2.2) - (v_u12 k (y2.getD y4.toNat T0.dflt)).1))), true))) (bo_u13 r_ p_ (((y5.1, (y0, i64.wrap (i64.wrap (y1 + y6.2.2) - (v_u12 k (y2.getD y4.toNat T0.dflt)).1))), true))))) (.cut 8 (placeAt Tryz.f47 8) (st_u13_8 y0 ((i64.wrap (y1 + (y2.getD y4.toNat T0.dflt).2.1))) y2 y3 ((i64.wrap (y4 + 1))) y5 y6 y7))))) (.leaf (res_u13 (((0, (0, 0)), false))) (bo_u13 r_ p_ (((0, (0, 0)), false))))) (by kernel_rfl) ?_
   refine ⟨fun c => ?_, fun c => ?_⟩
   ·rw [cond_t (show ((decide (y4 < y3))) = true from c)] at h
    by_cases q : (0 ≤ y4) ∧ (y4 < (↑y2.length : Int))
    ·rw [if_pos q] at h
     refine ⟨(conjC q.1 (conjC q.2 conj0)), ?_⟩
     by_cases q : ((f_u12 k (y2.getD y4.toNat T0.dflt)).isSome = true)
     ·rw [if_pos q] at h
      refine ⟨(conjC (cc_u12 k (y2.getD y4.toNat T0.dflt) q) conj0), ?_⟩
      refine ⟨fun c => ?_, fun c => ?_⟩
      ·rw [cond_t (show ((decide ((v_u12 k (y2.getD y4.toNat T0.dflt)).1 ≤ y6.2.2) && decide (y6.2.2 ≤ (v_u12 k (y2.getD y4.toNat T0.dflt)).2))) = true from c)] at h
       refine ⟨fun c => ?_, fun c => ?_⟩
       ·rw [cond_t (show ((y2.getD y4.toNat T0.dflt).2.2) = true from c)] at h
        cases h; exact ⟨rfl, rfl⟩
       ·rw [cond_f (show ((y2.getD y4.toNat T0.dflt).2.2) = false from c)] at h
        cases h; exact ⟨rfl, rfl⟩
      ·rw [cond_f (show ((decide ((v_u12 k (y2.getD y4.toNat T0.dflt)).1 ≤ y6.2.2) && decide (y6.2.2 ≤ (v_u12 k (y2.getD y4.toNat T0.dflt)).2))) = false from c)] at h
       exact ih y0 ((i64.wrap (y1 + (y2.getD y4.toNat T0.dflt).2.1))) y2 y3 ((i64.wrap (y4 + 1))) y5 y6 y7 _ h
     ·rw [if_neg q] at h; cases h
    ·rw [if_neg q] at h; cases h
   ·rw [cond_f (show ((decide (y4 < y3))) = false from c)] at h
    cases h; exact ⟨rfl, rfl⟩
theorem of_u13 (k : Nat) (r_ : T2.T) (p_ : T4.T) (r : R_u13) (h : f_u13 k r_ p_ = some r) : CC Tryz.prog 47 (args_u13 r_ p_) (bin_u13 r_ p_) (res_u13 r) (bo_u13 r_ p_ r) := by
 refine CC.of (fn := Tryz.f47) (by kernel_rfl) (by kernel_rfl) (by kernel_rfl) (by kernel_rfl) ?_
 unfold f_u13 at h
 refine Ev.tree hm (R := Rt) (K := (K_u13 k)) (l := []) (C := [(8, [.autoB [2, 3, 4, 6, 7, 40, 41, 42] false []])]) (E := [.autoB [4, 5] true []]) (n := 1000) (T := .test ((decide (i64.wrap (p_.2.1 - r_.2.2.1) < (0 : Int)) || decide (i64.wrap (p_.2.1 - r_.2.2.1) ≥ r_.2.2.2.1))) (.leaf (res_u13 (((0, (0, 0)), false))) (bo_u13 r_ p_ (((0, (0, 0)), false)))) (.test (r_.2.2.2.2.1) (.cut 8 (placeAt Tryz.f47 8) (st_u13_8 ((i64.wrap (i64.wrap (r_.2.2.2.1 - 1) - i64.wrap (p_.2.1 - r_.2.2.1)))) 0 r_.2.2.2.2.2 ((↑ (List.length r_.2.2.2.2.2) : Int)) 0 r_ p_ ((0, (0, 0))))) (.cut 8 (placeAt Tryz.f47 8) (st_u13_8 ((i64.wrap (p_.2.1 - r_.2.2.1))) 0 r_.2.2.2.2.2 ((↑ (List.length r_.2.2.2.2.2) : Int)) 0 r_ p_ ((0, (0, 0))))))) (by kernel_rfl) ?_
 refine ⟨fun c => ?_, fun c => ?_⟩
 ·rw [cond_t (show ((decide (i64.wrap (p_.2.1 - r_.2.2.1) < (0 : Int)) || decide (i64.wrap (p_.2.1 - r_.2.2.1) ≥ r_.2.2.2.1))) = true from c)] at h
  cases h; exact ⟨rfl, rfl⟩
 ·rw [cond_f (show ((decide (i64.wrap (p_.2.1 - r_.2.2.1) < (0 : Int)) || decide (i64.wrap (p_.2.1 - r_.2.2.1) ≥ r_.2.2.2.1))) = false from c)] at h
  refine ⟨fun c => ?_, fun c => ?_⟩
  ·rw [cond_t (show r_.2.2.2.2.1 = true from c)] at h
   exact (ev_u13 k r_ p_ k) ((i64.wrap (i64.wrap (r_.2.2.2.1 - 1) - i64.wrap (p_.2.1 - r_.2.2.1)))) 0 r_.2.2.2.2.2 ((↑ (List.length r_.2.2.2.2.2) : Int)) 0 r_ p_ ((0, (0, 0))) _ h
  ·rw [cond_f (show r_.2.2.2.2.1 = false from c)] at h
   exact (ev_u13 k r_ p_ k) ((i64.wrap (p_.2.1 - r_.2.2.1))) 0 r_.2.2.2.2.2 ((↑ (List.length r_.2.2.2.2.2) : Int)) 0 r_ p_ ((0, (0, 0))) _ h
theorem cc_u13 (k : Nat) (r_ : T2.T) (p_ : T4.T) (h : (f_u13 k r_ p_).isSome = true) : CC Tryz.prog 47 (args_u13 r_ p_) (bin_u13 r_ p_) (res_u13 (v_u13 k r_ p_)) (bo_u13 r_ p_ (v_u13 k r_ p_)) := by
 cases e : f_u13 k r_ p_ with
 | none => rw [e] at h; cases h
 | some r => rw [show v_u13 k r_ p_ = r by simp [v_u13, e]]; exact of_u13 k r_ p_ r e

end
end Go.AM
namespace Go.AM
open Go Go.Proofs Go.IntKind
set_option linter.unusedVariables false
noncomputable section
abbrev RA_u0 : Type := T4.T × Bool
def resA_u0 (r : RA_u0) : AV := .r (.v (.bool false))
def boA_u0 (s12 : T4.T) (s14 : T4.T) (s150 : Bool) (x0 : T2.T) (r : RA_u0) : List (Nat × Blk) := [(0, .loop .done (some (.exit 2)) (rcAt Tryz.f27 10 [48]) (mkS 65 [(12, .ptr 1 0 0), (14, .ptr 2 0 0), (15, .ptr 3 0 0)])), (0, .var 26 (rvs (enc T4 s12))), (0, .var 26 (rvs (enc T4 r.1))), (0, .var 4 [.r (.v (.bool r.2))])]
abbrev RB_u0 : Type := T4.T × Bool
def resB_u0 (r : RB_u0) : AV := .r (.v (.bool true))
def boB_u0 (s12 : T4.T) (s14 : T4.T) (s150 : Bool) (x0 : T2.T) (r : RB_u0) : List (Nat × Blk) := [(0, .loop .ready none (rcAt Tryz.f27 10 [48]) (mkS 65 [(12, .ptr 1 0 0), (14, .ptr 2 0 0), (15, .ptr 3 0 0)])), (0, .var 26 (rvs (enc T4 s12))), (0, .var 26 (rvs (enc T4 r.1))), (0, .var 4 [.r (.v (.bool r.2))])]
abbrev R_u0 : Type := RA_u0 ⊕ RB_u0
def res_u0 (r : R_u0) : AV := match r with
 | .inl a => resA_u0 a
 | .inr a => resB_u0 a
def bo_u0 (s12 : T4.T) (s14 : T4.T) (s150 : Bool) (x0 : T2.T) (r : R_u0) : List (Nat × Blk) := match r with
 | .inl a => boA_u0 s12 s14 s150 x0 a
 | .inr a => boB_u0 s12 s14 s150 x0 a
def args_u0 (s12 : T4.T) (s14 : T4.T) (s150 : Bool) (x0 : T2.T) : List AV := [.agg (rvs (enc T2 x0))]
def bin_u0 (s12 : T4.T) (s14 : T4.T) (s150 : Bool) (x0 : T2.T) : List Blk := [.loop .ready none (rcAt Tryz.f27 10 [48]) (mkS 65 [(12, .ptr 1 0 0), (14, .ptr 2 0 0), (15, .ptr 3 0 0)]), .var 26 (rvs (enc T4 s12)), .var 26 (rvs (enc T4 s14)), .var 4 [.r (.v (.bool s150))]]
def f_u0 (k : Nat) (s12 : T4.T) (s14 : T4.T) (s150 : Bool) (x0 : T2.T) : Option R_u0 :=
 if ((f_u13 k x0 s12).isSome = true) then
 bif (v_u13 k x0 s12).2 then
 some ((.inl (((v_u13 k x0 s12).1, (v_u13 k x0 s12).2))))
 else
 some ((.inr (((v_u13 k x0 s12).1, (v_u13 k x0 s12).2))))
 else none
def v_u0 (k : Nat) (s12 : T4.T) (s14 : T4.T) (s150 : Bool) (x0 : T2.T) : R_u0 := (f_u0 k s12 s14 s150 x0).getD (.inl (((T4).dflt, false)))
def vA_u0 (k : Nat) (s12 : T4.T) (s14 : T4.T) (s150 : Bool) (x0 : T2.T) : RA_u0 := lft (((T4).dflt, false)) (v_u0 k s12 s14 s150 x0)
def vB_u0 (k : Nat) (s12 : T4.T) (s14 : T4.T) (s150 : Bool) (x0 : T2.T) : RB_u0 := rgt (((T4).dflt, false)) (v_u0 k s12 s14 s150 x0)
def K_u0 (k : Nat) : Calld := ⟨fun g xs => match g with
 | 47 => match xs with
  | [_, _] => some [false, false]
  | _ => none
 | _ => none, fun g xs bs => match g with
 | 47 => match xs, bs with
  | [.agg qr_, .agg qp_], [] => (decS [] T2 qr_).bind fun r_ => (decS [] T4 qp_).bind fun p_ => some (.one (res_u13 (v_u13 k r_ p_), bo_u13 r_ p_ (v_u13 k r_ p_)))
  | _, _ => none
 | _ => none⟩
theorem of_u0 (k : Nat) (s12 : T4.T) (s14 : T4.T) (s150 : Bool) (x0 : T2.T) (r : R_u0) (h : f_u0 k s12 s14 s150 x0 = some r) : YC Tryz.prog (args_u0 s12 s14 s150 x0) (bin_u0 s12 s14 s150 x0) (res_u0 r) (bo_u0 s12 s14 s150 x0 r) := by
 refine YC.of (by rw [show bin_u0 s12 s14 s150 x0 = _ from rfl]; exact List.cons_ne_nil _ _) (by kernel_rfl) ?_
 unfold f_u0 at h
 refine Ev.tree hm (R := Rt) (K := (K_u0 k)) (l := []) (C := [(8, [.autoB [8, 10, 12] false []])]) (E := [.autoB [0] true []]) (n := 1000) (T := .need [CC Tryz.prog 47 (args_u13 x0 s12) (bin_u13 x0 s12) (res_u13 (v_u13 k x0 s12)) (bo_u13 x0 s12 (v_u13 k x0 s12))] (.test ((v_u13 k x0 s12).2) (.leaf (resA_u0 (((v_u13 k x0 s12).1, (v_u13 k x0 s12).2))) (boA_u0 s12 s14 s150 x0 (((v_u13 k x0 s12).1, (v_u13 k x0 s12).2)))) (.leaf (resB_u0 (((v_u13 k x0 s12).1, (v_u13 k x0 s12).2))) (boB_u0 s12 s14 s150 x0 (((v_u13 k x0 s12).1, (v_u13 k x0 s12).2)))))) (by kernel_rfl) ?_
 by_cases q : ((f_u13 k x0 s12).isSome = true)
 ·rw [if_pos q] at h
  refine ⟨(conjC (cc_u13 k x0 s12 q) conj0), ?_⟩
  refine ⟨fun c => ?_, fun c => ?_⟩
  ·rw [cond_t (show ((v_u13 k x0 s12).2) = true from c)] at h
   cases h; exact ⟨rfl, rfl⟩
  ·rw [cond_f (show ((v_u13 k x0 s12).2) = false from c)] at h
   cases h; exact ⟨rfl, rfl⟩
 ·rw [if_neg q] at h; cases h
theorem cc_u0 (k : Nat) (s12 : T4.T) (s14 : T4.T) (s150 : Bool) (x0 : T2.T) (h : (f_u0 k s12 s14 s150 x0).isSome = true) : YC Tryz.prog (args_u0 s12 s14 s150 x0) (bin_u0 s12 s14 s150 x0) (res_u0 (v_u0 k s12 s14 s150 x0)) (bo_u0 s12 s14 s150 x0 (v_u0 k s12 s14 s150 x0)) := by
 cases e : f_u0 k s12 s14 s150 x0 with
 | none => rw [e] at h; cases h
 | some r => rw [show v_u0 k s12 s14 s150 x0 = r by simp [v_u0, e]]; exact of_u0 k s12 s14 s150 x0 r e
theorem ccA_u0 (k : Nat) (s12 : T4.T) (s14 : T4.T) (s150 : Bool) (x0 : T2.T) (h : (f_u0 k s12 s14 s150 x0).isSome = true) (hb : (v_u0 k s12 s14 s150 x0).isLeft = true) : YC Tryz.prog (args_u0 s12 s14 s150 x0) (bin_u0 s12 s14 s150 x0) (resA_u0 (vA_u0 k s12 s14 s150 x0)) (boA_u0 s12 s14 s150 x0 (vA_u0 k s12 s14 s150 x0)) := by
 have h1 := cc_u0 k s12 s14 s150 x0 h
 unfold vA_u0
 cases e : v_u0 k s12 s14 s150 x0 with
 | inl a => rw [e] at h1 hb; exact h1
 | inr a => rw [e] at h1 hb; cases hb
theorem ccB_u0 (k : Nat) (s12 : T4.T) (s14 : T4.T) (s150 : Bool) (x0 : T2.T) (h : (f_u0 k s12 s14 s150 x0).isSome = true) (hb : (v_u0 k s12 s14 s150 x0).isLeft = false) : YC Tryz.prog (args_u0 s12 s14 s150 x0) (bin_u0 s12 s14 s150 x0) (resB_u0 (vB_u0 k s12 s14 s150 x0)) (boB_u0 s12 s14 s150 x0 (vB_u0 k s12 s14 s150 x0)) := by
 have h1 := cc_u0 k s12 s14 s150 x0 h
 unfold vB_u0
 cases e : v_u0 k s12 s14 s150 x0 with
 | inl a => rw [e] at h1 hb; cases hb
 | inr a => rw [e] at h1 hb; exact h1

end
end Go.AM
namespace Go.AM
open Go Go.Proofs Go.IntKind
set_option linter.unusedVariables false
noncomputable section
abbrev RA_u20 : Type := T4.T × Bool
def resA_u20 (r : RA_u20) : AV := .tup []
def boA_u20 (yield_12 : T4.T) (yield_14 : T4.T) (yield_150 : Bool) (z000 : Int) (z001 : Int) (z002 : List (T2).T) (z003 : List ((I).T × (I).T)) (z10 : Int) (r : RA_u20) : List (Nat × Blk) := [(0, .loop .done (some (.exit 2)) (rcAt Tryz.f27 10 [48]) (mkS 65 [(12, .ptr 1 0 0), (14, .ptr 2 0 0), (15, .ptr 3 0 0)])), (0, .var 26 (rvs (enc T4 yield_12))), (0, .var 26 (rvs (enc T4 r.1))), (0, .var 4 [.r (.v (.bool r.2))]), (0, .var 66 [.ptr 5 0 0]), (0, .var 73 [.r (.v (.int .i64 z000)), .r (.v (.int .i64 z001)), .r (.ro T2 z002), .own 6 0]), (0, .map false I I z003), (0, .var 3 [.r (.v (.int .i64 z10))])]
abbrev RB_u20 : Type := T4.T × Bool
def resB_u20 (r : RB_u20) : AV := .tup []
def boB_u20 (yield_12 : T4.T) (yield_14 : T4.T) (yield_150 : Bool) (z000 : Int) (z001 : Int) (z002 : List (T2).T) (z003 : List ((I).T × (I).T)) (z10 : Int) (r : RB_u20) : List (Nat × Blk) := [(0, .loop .ready none (rcAt Tryz.f27 10 [48]) (mkS 65 [(12, .ptr 1 0 0), (14, .ptr 2 0 0), (15, .ptr 3 0 0)])), (0, .var 26 (rvs (enc T4 yield_12))), (0, .var 26 (rvs (enc T4 r.1))), (0, .var 4 [.r (.v (.bool r.2))]), (0, .var 66 [.ptr 5 0 0]), (0, .var 73 [.r (.v (.int .i64 z000)), .r (.v (.int .i64 z001)), .r (.ro T2 z002), .own 6 0]), (0, .map false I I z003), (0, .var 3 [.r (.v (.int .i64 z10))])]
abbrev R_u20 : Type := RA_u20 ⊕ RB_u20
def res_u20 (r : R_u20) : AV := match r with
 | .inl a => resA_u20 a
 | .inr a => resB_u20 a
def bo_u20 (yield_12 : T4.T) (yield_14 : T4.T) (yield_150 : Bool) (z000 : Int) (z001 : Int) (z002 : List (T2).T) (z003 : List ((I).T × (I).T)) (z10 : Int) (r : R_u20) : List (Nat × Blk) := match r with
 | .inl a => boA_u20 yield_12 yield_14 yield_150 z000 z001 z002 z003 z10 a
 | .inr a => boB_u20 yield_12 yield_14 yield_150 z000 z001 z002 z003 z10 a
def args_u20 (yield_12 : T4.T) (yield_14 : T4.T) (yield_150 : Bool) (z000 : Int) (z001 : Int) (z002 : List (T2).T) (z003 : List ((I).T × (I).T)) (z10 : Int) : List AV := [.own 0 0, .ptr 4 0 0, .ptr 7 0 0]
def bin_u20 (yield_12 : T4.T) (yield_14 : T4.T) (yield_150 : Bool) (z000 : Int) (z001 : Int) (z002 : List (T2).T) (z003 : List ((I).T × (I).T)) (z10 : Int) : List Blk := [.loop .ready none (rcAt Tryz.f27 10 [48]) (mkS 65 [(12, .ptr 1 0 0), (14, .ptr 2 0 0), (15, .ptr 3 0 0)]), .var 26 (rvs (enc T4 yield_12)), .var 26 (rvs (enc T4 yield_14)), .var 4 [.r (.v (.bool yield_150))], .var 66 [.ptr 5 0 0], .var 73 [.r (.v (.int .i64 z000)), .r (.v (.int .i64 z001)), .r (.ro T2 z002), .own 6 0], .map false I I z003, .var 3 [.r (.v (.int .i64 z10))]]
def st_u20_1 (yield_12 : T4.T) (yield_14 : T4.T) (yield_150 : Bool) (z000 : Int) (z001 : Int) (z002 : List (T2).T) (z003 : List ((I).T × (I).T)) (z10 : Int) (y0 : List (T2).T) (y1 : Int) (y2 : Int) (y3 : T4.T) (y4 : Bool) : St := ⟨mkS 26 [(0, .own 0 0), (2, .ptr 7 0 0), (9, .r (.ro T2 y0)), (10, .r (.v (.int .i64 y1))), (11, .r (.v (.int .i64 y2)))], [(0, 0, .loop .ready none (rcAt Tryz.f27 10 [48]) (mkS 65 [(12, .ptr 1 0 0), (14, .ptr 2 0 0), (15, .ptr 3 0 0)])), (1, 0, .var 26 (rvs (enc T4 yield_12))), (2, 0, .var 26 (rvs (enc T4 y3))), (3, 0, .var 4 [.r (.v (.bool y4))]), (4, 0, .var 66 [.ptr 5 0 0]), (5, 0, .var 73 [.r (.v (.int .i64 z000)), .r (.v (.int .i64 z001)), .r (.ro T2 z002), .own 6 0]), (6, 0, .map false I I z003), (7, 0, .var 3 [.r (.v (.int .i64 z10))])]⟩
def f_u20_1 (k : Nat) (yield_12 : T4.T) (yield_14 : T4.T) (yield_150 : Bool) (z000 : Int) (z001 : Int) (z002 : List (T2).T) (z003 : List ((I).T × (I).T)) (z10 : Int) : Nat → List (T2).T → Int → Int → T4.T → Bool → Option R_u20
 | 0, _, _, _, _, _ => none
 | j + 1, y0, y1, y2, y3, y4 =>
 bif (decide (y2 < y1)) then
 if (0 ≤ y2) ∧ (y2 < (↑y0.length : Int)) then
 bif ((y0.getD y2.toNat T2.dflt).2.1 == z10) then
 bif (Sum.isLeft (v_u0 k yield_12 y3 y4 (y0.getD y2.toNat T2.dflt))) then
 if (((y0.getD y2.toNat T2.dflt).2.1 == z10) = true) ∧ ((f_u0 k yield_12 y3 y4 (y0.getD y2.toNat T2.dflt)).isSome = true) then
 some ((.inl (((vA_u0 k yield_12 y3 y4 (y0.getD y2.toNat T2.dflt)).1, (vA_u0 k yield_12 y3 y4 (y0.getD y2.toNat T2.dflt)).2))))
 else none
 else
 if (((y0.getD y2.toNat T2.dflt).2.1 == z10) = true) ∧ ((f_u0 k yield_12 y3 y4 (y0.getD y2.toNat T2.dflt)).isSome = true) then
 f_u20_1 k yield_12 yield_14 yield_150 z000 z001 z002 z003 z10 j y0 y1 ((i64.wrap (y2 + 1))) ((vB_u0 k yield_12 y3 y4 (y0.getD y2.toNat T2.dflt)).1) ((vB_u0 k yield_12 y3 y4 (y0.getD y2.toNat T2.dflt)).2)
 else none
 else
 if (((y0.getD y2.toNat T2.dflt).2.1 == z10) = false) then
 f_u20_1 k yield_12 yield_14 yield_150 z000 z001 z002 z003 z10 j y0 y1 ((i64.wrap (y2 + 1))) y3 y4
 else none
 else none
 else
 some ((.inr ((y3, y4))))
def f_u20 (k : Nat) (yield_12 : T4.T) (yield_14 : T4.T) (yield_150 : Bool) (z000 : Int) (z001 : Int) (z002 : List (T2).T) (z003 : List ((I).T × (I).T)) (z10 : Int) : Option R_u20 :=
 f_u20_1 k yield_12 yield_14 yield_150 z000 z001 z002 z003 z10 k z002 ((↑z002.length : Int)) 0 yield_14 yield_150
def v_u20 (k : Nat) (yield_12 : T4.T) (yield_14 : T4.T) (yield_150 : Bool) (z000 : Int) (z001 : Int) (z002 : List (T2).T) (z003 : List ((I).T × (I).T)) (z10 : Int) : R_u20 := (f_u20 k yield_12 yield_14 yield_150 z000 z001 z002 z003 z10).getD (.inl (((T4).dflt, false)))
def vA_u20 (k : Nat) (yield_12 : T4.T) (yield_14 : T4.T) (yield_150 : Bool) (z000 : Int) (z001 : Int) (z002 : List (T2).T) (z003 : List ((I).T × (I).T)) (z10 : Int) : RA_u20 := lft (((T4).dflt, false)) (v_u20 k yield_12 yield_14 yield_150 z000 z001 z002 z003 z10)
def vB_u20 (k : Nat) (yield_12 : T4.T) (yield_14 : T4.T) (yield_150 : Bool) (z000 : Int) (z001 : Int) (z002 : List (T2).T) (z003 : List ((I).T × (I).T)) (z10 : Int) : RB_u20 := rgt (((T4).dflt, false)) (v_u20 k yield_12 yield_14 yield_150 z000 z001 z002 z003 z10)
def K_u20 (k : Nat) : Calld := ⟨fun g xs => match g with
 | 1000000 => match xs with
  | [_] => some [false]
  | _ => none
 | _ => none, fun g xs bs => match g with
 | 1000000 => match xs, bs with
  | [.agg qx0], [.loop _ _ _ qs, .var 26 qs12, .var 26 qs14, .var 4 [.r (.v (.bool s150))]] => (decS [] T2 qx0).bind fun x0 => (decS [] T4 qs12).bind fun s12 => (decS [] T4 qs14).bind fun s14 => some (.two (v_u0 k s12 s14 s150 x0).isLeft (resA_u0 (vA_u0 k s12 s14 s150 x0), boA_u0 s12 s14 s150 x0 (vA_u0 k s12 s14 s150 x0)) (resB_u0 (vB_u0 k s12 s14 s150 x0), boB_u0 s12 s14 s150 x0 (vB_u0 k s12 s14 s150 x0)))
  | _, _ => none
 | _ => none⟩
theorem ev_u20 (k : Nat) (yield_12 : T4.T) (yield_14 : T4.T) (yield_150 : Bool) (z000 : Int) (z001 : Int) (z002 : List (T2).T) (z003 : List ((I).T × (I).T)) (z10 : Int) : ∀ j, (∀ (y0 : List (T2).T) (y1 : Int) (y2 : Int) (y3 : T4.T) (y4 : Bool) (r : R_u20), f_u20_1 k yield_12 yield_14 yield_150 z000 z001 z002 z003 z10 j y0 y1 y2 y3 y4 = some r → Ev Tryz.prog Tryz.f64 8 (placeAt Tryz.f64 1) (st_u20_1 yield_12 yield_14 yield_150 z000 z001 z002 z003 z10 y0 y1 y2 y3 y4) (res_u20 r) (bo_u20 yield_12 yield_14 yield_150 z000 z001 z002 z003 z10 r))
 | 0 => by
  intros; rename_i h; simp [f_u20_1] at h
 | j + 1 => by
  have ih := ev_u20 k yield_12 yield_14 yield_150 z000 z001 z002 z003 z10 j
  ·intro y0 y1 y2 y3 y4 r h
   rw [f_u20_1] at h
   refine Ev.tree hm (R := Rt) (K := (K_u20 k)) (l := []) (C := [(1, [.autoB [0, 2, 9, 10, 11] false []])]) (E := [.autoB [] true []]) (n := 1000) (T := .test ((decide (y2 < y1))) (.need [0 ≤ y2, y2 < (↑y0.length : Int)] (.test (((y0.getD y2.toNat T2.dflt).2.1 == z10)) (.test ((Sum.isLeft (v_u0 k yield_12 y3 y4 (y0.getD y2.toNat T2.dflt)))) (.need [((y0.getD y2.toNat T2.dflt).2.1 == z10) = true, YC Tryz.prog (args_u0 yield_12 y3 y4 (y0.getD y2.toNat T2.dflt)) (bin_u0 yield_12 y3 y4 (y0.getD y2.toNat T2.dflt)) (resA_u0 (vA_u0 k yield_12 y3 y4 (y0.getD y2.toNat T2.dflt))) (boA_u0 yield_12 y3 y4 (y0.getD y2.toNat T2.dflt) (vA_u0 k yield_12 y3 y4 (y0.getD y2.toNat T2.dflt)))] (.test (true) (.leaf (resA_u20 (((vA_u0 k yield_12 y3 y4 (y0.getD y2.toNat T2.dflt)).1, (vA_u0 k yield_12 y3 y4 (y0.getD y2.toNat T2.dflt)).2))) (boA_u20 yield_12 yield_14 yield_150 z000 z001 z002 z003 z10 (((vA_u0 k yield_12 y3 y4 (y0.getD y2.toNat T2.dflt)).1, (vA_u0 k yield_12 y3 y4 (y0.getD y2.toNat T2.dflt)).2)))) (.cut 1 (placeAt Tryz.f64 1) ⟨mkS 26 [(0, .own 0 0), (2, .ptr 7 0 0), (9, .r (.ro T2 y0)), (10, .r (.v (.int .i64 y1))), (11, .r (.v (.int .i64 ((i64.wrap (y2 + 1))))))], [(0, 0, .loop .done (some (.exit 2)) (rcAt Tryz.f27 10 [48]) (mkS 65 [(12, .ptr 1 0 0), (14, .ptr 2 0 0), (15, .ptr 3 0 0)])), (1, 0, .var 26 (rvs (enc T4 yield_12))), (2, 0, .var 26 (rvs (enc T4 ((vA_u0 k yield_12 y3 y4 (y0.getD y2.toNat T2.dflt)).1)))), (3, 0, .var 4 [.r (.v (.bool ((vA_u0 k yield_12 y3 y4 (y0.getD y2.toNat T2.dflt)).2)))]), (4, 0, .var 66 [.ptr 5 0 0]), (5, 0, .var 73 [.r (.v (.int .i64 z000)), .r (.v (.int .i64 z001)), .r (.ro T2 z002), .own 6 0]), (6, 0, .map false I I z003), (7, 0, .var 3 [.r (.v (.int .i64 z10))])]⟩))) (.need [((y0.getD y2.toNat T2.dflt).2.1 == z10) = true, YC Tryz.prog (args_u0 yield_12 y3 y4 (y0.getD y2.toNat T2.dflt)) (bin_u0 yield_12 y3 y4 (y0.getD y2.toNat T2.dflt)) (resB_u0 (vB_u0 k yield_12 y3 y4 (y0.getD y2.toNat T2.dflt))) (boB_u0 yield_12 y3 y4 (y0.getD y2.toNat T2.dflt) (vB_u0 k yield_12 y3 y4 (y0.getD y2.toNat T2.dflt)))] (.test (false) (.leaf (.tup []) [(0, .loop .ready none (rcAt Tryz.f27 10 [48]) (mkS 65 [(12, .ptr 1 0 0), (14, .ptr 2 0 0), (15, .ptr 3 0 0)])), (0, .var 26 (rvs (enc T4 yield_12))), (0, .var 26 (rvs (enc T4 ((vB_u0 k yield_12 y3 y4 (y0.getD y2.toNat T2.dflt)).1)))), (0, .var 4 [.r (.v (.bool ((vB_u0 k yield_12 y3 y4 (y0.getD y2.toNat T2.dflt)).2)))]), (0, .var 66 [.ptr 5 0 0]), (0, .var 73 [.r (.v (.int .i64 z000)), .r (.v (.int .i64 z001)), .r (.ro T2 z002), .own 6 0]), (0, .map false I I z003), (0, .var 3 [.r (.v (.int .i64 z10))])]) (.cut 1 (placeAt Tryz.f64 1) (st_u20_1 yield_12 yield_14 yield_150 z000 z001 z002 z003 z10 y0 y1 ((i64.wrap (y2 + 1))) ((vB_u0 k yield_12 y3 y4 (y0.getD y2.toNat T2.dflt)).1) ((vB_u0 k yield_12 y3 y4 (y0.getD y2.toNat T2.dflt)).2)))))) (.need [((y0.getD y2.toNat T2.dflt).2.1 == z10) = false] (.test (false) (.leaf (.tup []) [(0, .loop .ready none (rcAt Tryz.f27 10 [48]) (mkS 65 [(12, .ptr 1 0 0), (14, .ptr 2 0 0), (15, .ptr 3 0 0)])), (0, .var 26 (rvs (enc T4 yield_12))), (0, .var 26 (rvs (enc T4 y3))), (0, .var 4 [.r (.v (.bool y4))]), (0, .var 66 [.ptr 5 0 0]), (0, .var 73 [.r (.v (.int .i64 z000)), .r (.v (.int .i64 z001)), .r (.ro T2 z002), .own 6 0]), (0, .map false I I z003), (0, .var 3 [.r (.v (.int .i64 z10))])]) (.cut 1 (placeAt Tryz.f64 1) (st_u20_1 yield_12 yield_14 yield_150 z000 z001 z002 z003 z10 y0 y1 ((i64.wrap (y2 + 1))) y3 y4)))))) (.leaf (resB_u20 ((y3, y4))) (boB_u20 yield_12 yield_14 yield_150 z000 z001 z002 z003 z10 ((y3, y4))))) (by kernel_rfl) ?_
   refine ⟨fun c => ?_, fun c => ?_⟩
   ·rw [cond_t (show ((decide (y2 < y1))) = true from c)] at h
    by_cases q : (0 ≤ y2) ∧ (y2 < (↑y0.length : Int))
    ·rw [if_pos q] at h
     refine ⟨(conjC q.1 (conjC q.2 conj0)), ?_⟩
     refine ⟨fun c => ?_, fun c => ?_⟩
     ·rw [cond_t (show (((y0.getD y2.toNat T2.dflt).2.1 == z10)) = true from c)] at h
      refine ⟨fun c => ?_, fun c => ?_⟩
      ·rw [cond_t (show ((Sum.isLeft (v_u0 k yield_12 y3 y4 (y0.getD y2.toNat T2.dflt)))) = true from c)] at h
       by_cases q : (((y0.getD y2.toNat T2.dflt).2.1 == z10) = true) ∧ ((f_u0 k yield_12 y3 y4 (y0.getD y2.toNat T2.dflt)).isSome = true)
       ·rw [if_pos q] at h
        refine ⟨(conjC q.1 (conjC (ccA_u0 k yield_12 y3 y4 (y0.getD y2.toNat T2.dflt) q.2 (by assumption)) conj0)), ?_⟩
        refine ⟨fun c => ?_, fun c => ?_⟩
        rotate_left
        ·cases c
        cases h; exact ⟨rfl, rfl⟩
       ·rw [if_neg q] at h; cases h
      ·rw [cond_f (show ((Sum.isLeft (v_u0 k yield_12 y3 y4 (y0.getD y2.toNat T2.dflt)))) = false from c)] at h
       by_cases q : (((y0.getD y2.toNat T2.dflt).2.1 == z10) = true) ∧ ((f_u0 k yield_12 y3 y4 (y0.getD y2.toNat T2.dflt)).isSome = true)
       ·rw [if_pos q] at h
        refine ⟨(conjC q.1 (conjC (ccB_u0 k yield_12 y3 y4 (y0.getD y2.toNat T2.dflt) q.2 (by assumption)) conj0)), ?_⟩
        refine ⟨fun c => ?_, fun c => ?_⟩
        ·cases c
        exact ih y0 y1 ((i64.wrap (y2 + 1))) ((vB_u0 k yield_12 y3 y4 (y0.getD y2.toNat T2.dflt)).1) ((vB_u0 k yield_12 y3 y4 (y0.getD y2.toNat T2.dflt)).2) _ h
       ·rw [if_neg q] at h; cases h
     ·rw [cond_f (show (((y0.getD y2.toNat T2.dflt).2.1 == z10)) = false from c)] at h
      by_cases q : (((y0.getD y2.toNat T2.dflt).2.1 == z10) = false)
      ·rw [if_pos q] at h
       refine ⟨(conjC q conj0), ?_⟩
       refine ⟨fun c => ?_, fun c => ?_⟩
       ·cases c
       exact ih y0 y1 ((i64.wrap (y2 + 1))) y3 y4 _ h
      ·rw [if_neg q] at h; cases h
    ·rw [if_neg q] at h; cases h
   ·rw [cond_f (show ((decide (y2 < y1))) = false from c)] at h
    cases h; exact ⟨rfl, rfl⟩
theorem of_u20 (k : Nat) (yield_12 : T4.T) (yield_14 : T4.T) (yield_150 : Bool) (z000 : Int) (z001 : Int) (z002 : List (T2).T) (z003 : List ((I).T × (I).T)) (z10 : Int) (r : R_u20) (h : f_u20 k yield_12 yield_14 yield_150 z000 z001 z002 z003 z10 = some r) : CC Tryz.prog 64 (args_u20 yield_12 yield_14 yield_150 z000 z001 z002 z003 z10) (bin_u20 yield_12 yield_14 yield_150 z000 z001 z002 z003 z10) (res_u20 r) (bo_u20 yield_12 yield_14 yield_150 z000 z001 z002 z003 z10 r) := by
 refine CC.of (fn := Tryz.f64) (by kernel_rfl) (by kernel_rfl) (by kernel_rfl) (by kernel_rfl) ?_
 unfold f_u20 at h
 refine Ev.tree hm (R := Rt) (K := (K_u20 k)) (l := []) (C := [(1, [.autoB [0, 2, 9, 10, 11] false []])]) (E := [.autoB [] true []]) (n := 1000) (T := .cut 1 (placeAt Tryz.f64 1) (st_u20_1 yield_12 yield_14 yield_150 z000 z001 z002 z003 z10 z002 ((↑z002.length : Int)) 0 yield_14 yield_150)) (by kernel_rfl) ?_
 exact (ev_u20 k yield_12 yield_14 yield_150 z000 z001 z002 z003 z10 k) z002 ((↑z002.length : Int)) 0 yield_14 yield_150 _ h
theorem cc_u20 (k : Nat) (yield_12 : T4.T) (yield_14 : T4.T) (yield_150 : Bool) (z000 : Int) (z001 : Int) (z002 : List (T2).T) (z003 : List ((I).T × (I).T)) (z10 : Int) (h : (f_u20 k yield_12 yield_14 yield_150 z000 z001 z002 z003 z10).isSome = true) : CC Tryz.prog 64 (args_u20 yield_12 yield_14 yield_150 z000 z001 z002 z003 z10) (bin_u20 yield_12 yield_14 yield_150 z000 z001 z002 z003 z10) (res_u20 (v_u20 k yield_12 yield_14 yield_150 z000 z001 z002 z003 z10)) (bo_u20 yield_12 yield_14 yield_150 z000 z001 z002 z003 z10 (v_u20 k yield_12 yield_14 yield_150 z000 z001 z002 z003 z10)) := by
 cases e : f_u20 k yield_12 yield_14 yield_150 z000 z001 z002 z003 z10 with
 | none => rw [e] at h; cases h
 | some r => rw [show v_u20 k yield_12 yield_14 yield_150 z000 z001 z002 z003 z10 = r by simp [v_u20, e]]; exact of_u20 k yield_12 yield_14 yield_150 z000 z001 z002 z003 z10 r e
theorem ccA_u20 (k : Nat) (yield_12 : T4.T) (yield_14 : T4.T) (yield_150 : Bool) (z000 : Int) (z001 : Int) (z002 : List (T2).T) (z003 : List ((I).T × (I).T)) (z10 : Int) (h : (f_u20 k yield_12 yield_14 yield_150 z000 z001 z002 z003 z10).isSome = true) (hb : (v_u20 k yield_12 yield_14 yield_150 z000 z001 z002 z003 z10).isLeft = true) : CC Tryz.prog 64 (args_u20 yield_12 yield_14 yield_150 z000 z001 z002 z003 z10) (bin_u20 yield_12 yield_14 yield_150 z000 z001 z002 z003 z10) (resA_u20 (vA_u20 k yield_12 yield_14 yield_150 z000 z001 z002 z003 z10)) (boA_u20 yield_12 yield_14 yield_150 z000 z001 z002 z003 z10 (vA_u20 k yield_12 yield_14 yield_150 z000 z001 z002 z003 z10)) := by
 have h1 := cc_u20 k yield_12 yield_14 yield_150 z000 z001 z002 z003 z10 h
 unfold vA_u20
 cases e : v_u20 k yield_12 yield_14 yield_150 z000 z001 z002 z003 z10 with
 | inl a => rw [e] at h1 hb; exact h1
 | inr a => rw [e] at h1 hb; cases hb
theorem ccB_u20 (k : Nat) (yield_12 : T4.T) (yield_14 : T4.T) (yield_150 : Bool) (z000 : Int) (z001 : Int) (z002 : List (T2).T) (z003 : List ((I).T × (I).T)) (z10 : Int) (h : (f_u20 k yield_12 yield_14 yield_150 z000 z001 z002 z003 z10).isSome = true) (hb : (v_u20 k yield_12 yield_14 yield_150 z000 z001 z002 z003 z10).isLeft = false) : CC Tryz.prog 64 (args_u20 yield_12 yield_14 yield_150 z000 z001 z002 z003 z10) (bin_u20 yield_12 yield_14 yield_150 z000 z001 z002 z003 z10) (resB_u20 (vB_u20 k yield_12 yield_14 yield_150 z000 z001 z002 z003 z10)) (boB_u20 yield_12 yield_14 yield_150 z000 z001 z002 z003 z10 (vB_u20 k yield_12 yield_14 yield_150 z000 z001 z002 z003 z10)) := by
 have h1 := cc_u20 k yield_12 yield_14 yield_150 z000 z001 z002 z003 z10 h
 unfold vB_u20
 cases e : v_u20 k yield_12 yield_14 yield_150 z000 z001 z002 z003 z10 with
 | inl a => rw [e] at h1 hb; cases hb
 | inr a => rw [e] at h1 hb; exact h1

end
end Go.AM
namespace Go.AM
open Go Go.Proofs Go.IntKind
set_option linter.unusedVariables false
noncomputable section
abbrev R_u6 : Type := T4.T × Int
def res_u6 (r : R_u6) : AV := .tup [.agg (rvs (enc T4 r.1)), .r (.v (.int .i64 r.2))]
def bo_u6 (l_ : List (T2).T) (web_ : T5.T) (across_ : Int) (along_ : Int) (r : R_u6) : List (Nat × Blk) := []
def args_u6 (l_ : List (T2).T) (web_ : T5.T) (across_ : Int) (along_ : Int) : List AV := [.r (.ro T2 l_), .agg (rvs (enc T5 web_)), .r (.v (.int .i64 across_)), .r (.v (.int .i64 along_))]
def bin_u6 (l_ : List (T2).T) (web_ : T5.T) (across_ : Int) (along_ : Int) : List Blk := []
def st_u6_8 (y0 : T4.T) (y1 : Int) (y2 : Int) (y3 : List (T2).T) (y4 : List ((I).T × (I).T)) (y5 : T4.T) : St := ⟨mkS 65 [(8, .ptr 1000000 0 0), (10, .ptr 1000001 0 0), (12, .ptr 1000003 0 0)], [(1000000, 0, .var 26 (rvs (enc T4 y0))), (1000001, 0, .var 73 [.r (.v (.int .i64 y1)), .r (.v (.int .i64 y2)), .r (.ro T2 y3), .own 1000002 0]), (1000002, 0, .map false I I y4), (1000003, 0, .var 26 (rvs (enc T4 y5)))]⟩
def f_u6_8 (k : Nat) : Nat → T4.T → Int → Int → List (T2).T → (List ((I).T × (I).T)) → T4.T → Option R_u6
 | 0, _, _, _, _, _, _ => none
 | j + 1, y0, y1, y2, y3, y4, y5 =>
 if ((f_u19 k y1 y2 y3 y4 y5.1).isSome = true) then
 bif (Sum.isLeft (v_u20 k y5 y5 false y1 y2 y3 y4 (v_u19 k y1 y2 y3 y4 y5.1))) then
 if ((f_u20 k y5 y5 false y1 y2 y3 y4 (v_u19 k y1 y2 y3 y4 y5.1)).isSome = true) then
 bif (! (vA_u20 k y5 y5 false y1 y2 y3 y4 (v_u19 k y1 y2 y3 y4 y5.1)).2) then
 bif (y5.1 == (0 : Int)) then
 if ((y5.1 == (0 : Int)) = true) then
 some (((0, (0, 0)), 7))
 else none
 else
 if ((y5.1 == (0 : Int)) = false) ∧ ((f_u25 k y1 y2 y3 y4 y5.1).isSome = true) then
 bif (false || (!v_u25 k y1 y2 y3 y4 y5.1)) then
 some (((0, (0, 0)), 7))
 else
 some ((y5, 0))
 else none
 else
 f_u6_8 k j y0 y1 y2 y3 y4 ((vA_u20 k y5 y5 false y1 y2 y3 y4 (v_u19 k y1 y2 y3 y4 y5.1)).1)
 else none
 else
 if ((f_u20 k y5 y5 false y1 y2 y3 y4 (v_u19 k y1 y2 y3 y4 y5.1)).isSome = true) then
 bif (! (vB_u20 k y5 y5 false y1 y2 y3 y4 (v_u19 k y1 y2 y3 y4 y5.1)).2) then
 bif (y5.1 == (0 : Int)) then
 if ((y5.1 == (0 : Int)) = true) then
 some (((0, (0, 0)), 7))
 else none
 else
 if ((y5.1 == (0 : Int)) = false) ∧ ((f_u25 k y1 y2 y3 y4 y5.1).isSome = true) then
 bif (false || (!v_u25 k y1 y2 y3 y4 y5.1)) then
 some (((0, (0, 0)), 7))
 else
 some ((y5, 0))
 else none
 else
 f_u6_8 k j y0 y1 y2 y3 y4 ((vB_u20 k y5 y5 false y1 y2 y3 y4 (v_u19 k y1 y2 y3 y4 y5.1)).1)
 else none
 else none
def f_u6 (k : Nat) (l_ : List (T2).T) (web_ : T5.T) (across_ : Int) (along_ : Int) : Option R_u6 :=
 bif (Sum.isLeft (v_u15 k l_ web_)) then
 if ((f_u15 k l_ web_).isSome = true) then
 bif (vA_u15 k l_ web_ != (0 : Int)) then
 some (((0, (0, 0)), vA_u15 k l_ web_))
 else
 none
 else none
 else
 if ((f_u15 k l_ web_).isSome = true) then
 bif ((vB_u15 k l_ web_).1 != (0 : Int)) then
 some (((0, (0, 0)), (vB_u15 k l_ web_).1))
 else
 if ((f_u26 k (vB_u15 k l_ web_).2.1 (vB_u15 k l_ web_).2.2.1 (vB_u15 k l_ web_).2.2.2.1 (vB_u15 k l_ web_).2.2.2.2 (0, across_, along_)).isSome = true) then
 bif (v_u26 k (vB_u15 k l_ web_).2.1 (vB_u15 k l_ web_).2.2.1 (vB_u15 k l_ web_).2.2.2.1 (vB_u15 k l_ web_).2.2.2.2 ((0 : Int), across_, along_) != (0 : Int)) then
 some (((0, (0, 0)), v_u26 k (vB_u15 k l_ web_).2.1 (vB_u15 k l_ web_).2.2.1 (vB_u15 k l_ web_).2.2.2.1 (vB_u15 k l_ web_).2.2.2.2 (0, across_, along_)))
 else
 f_u6_8 k k ((0, (0, 0))) ((vB_u15 k l_ web_).2.1) ((vB_u15 k l_ web_).2.2.1) ((vB_u15 k l_ web_).2.2.2.1) ((vB_u15 k l_ web_).2.2.2.2) ((0, (across_, along_)))
 else none
 else none
def v_u6 (k : Nat) (l_ : List (T2).T) (web_ : T5.T) (across_ : Int) (along_ : Int) : R_u6 := (f_u6 k l_ web_ across_ along_).getD ((T4).dflt, 0)
def K_u6 (k : Nat) : Calld := ⟨fun g xs => match g with
 | 39 => match xs with
  | [_, _] => some [false, false]
  | _ => none
 | 31 => match xs with
  | [.ptr _ _ _, _] => some [true, false]
  | _ => none
 | 44 => match xs with
  | [.ptr _ _ _, _] => some [true, false]
  | _ => none
 | 45 => match xs with
  | [.ptr _ _ _, _] => some [true, false]
  | _ => none
 | 47 => match xs with
  | [_, _] => some [false, false]
  | _ => none
 | 64 => match xs with
  | [.own _ _, .ptr _ _ _, .ptr _ _ _] => some [true, true, true]
  | _ => none
 | _ => none, fun g xs bs => match g with
 | 39 => match xs, bs with
  | [.r (.ro tl__ ql_), .agg qweb_], [] => (castL tl__ T2 ql_).bind fun l_ => (decS [] T5 qweb_).bind fun web_ => some (.two (v_u15 k l_ web_).isLeft (resA_u15 (vA_u15 k l_ web_), boA_u15 l_ web_ (vA_u15 k l_ web_)) (resB_u15 (vB_u15 k l_ web_), boB_u15 l_ web_ (vB_u15 k l_ web_)))
  | _, _ => none
 | 31 => match xs, bs with
  | [.ptr 0 0 0, .agg qp_], [.var 73 [.r (.v (.int .i64 g_0)), .r (.v (.int .i64 g_1)), .r (.ro tg_2_ qg_2), .own 1 0], .map false kg_3_ tg_3_ qg_3] => (decS [] T4 qp_).bind fun p_ => (castL tg_2_ T2 qg_2).bind fun g_2 => (castM kg_3_ tg_3_ I I qg_3).bind fun g_3 => some (.one (res_u26 (v_u26 k g_0 g_1 g_2 g_3 p_), bo_u26 g_0 g_1 g_2 g_3 p_ (v_u26 k g_0 g_1 g_2 g_3 p_)))
  | _, _ => none
 | 44 => match xs, bs with
  | [.ptr 0 0 0, .r (.v (.int .i64 id_))], [.var 73 [.r (.v (.int .i64 g_0)), .r (.v (.int .i64 g_1)), .r (.ro tg_2_ qg_2), .own 1 0], .map false kg_3_ tg_3_ qg_3] => (castL tg_2_ T2 qg_2).bind fun g_2 => (castM kg_3_ tg_3_ I I qg_3).bind fun g_3 => some (.one (res_u19 (v_u19 k g_0 g_1 g_2 g_3 id_), bo_u19 g_0 g_1 g_2 g_3 id_ (v_u19 k g_0 g_1 g_2 g_3 id_)))
  | _, _ => none
 | 45 => match xs, bs with
  | [.ptr 0 0 0, .r (.v (.int .i64 id_))], [.var 73 [.r (.v (.int .i64 g_0)), .r (.v (.int .i64 g_1)), .r (.ro tg_2_ qg_2), .own 1 0], .map false kg_3_ tg_3_ qg_3] => (castL tg_2_ T2 qg_2).bind fun g_2 => (castM kg_3_ tg_3_ I I qg_3).bind fun g_3 => some (.one (res_u25 (v_u25 k g_0 g_1 g_2 g_3 id_), bo_u25 g_0 g_1 g_2 g_3 id_ (v_u25 k g_0 g_1 g_2 g_3 id_)))
  | _, _ => none
 | 47 => match xs, bs with
  | [.agg qr_, .agg qp_], [] => (decS [] T2 qr_).bind fun r_ => (decS [] T4 qp_).bind fun p_ => some (.one (res_u13 (v_u13 k r_ p_), bo_u13 r_ p_ (v_u13 k r_ p_)))
  | _, _ => none
 | 64 => match xs, bs with
  | [.own 0 0, .ptr 4 0 0, .ptr 7 0 0], [.loop _ _ _ qyield_, .var 26 qyield_12, .var 26 qyield_14, .var 4 [.r (.v (.bool yield_150))], .var 66 [.ptr 5 0 0], .var 73 [.r (.v (.int .i64 z000)), .r (.v (.int .i64 z001)), .r (.ro tz002_ qz002), .own 6 0], .map false kz003_ tz003_ qz003, .var 3 [.r (.v (.int .i64 z10))]] => (decS [] T4 qyield_12).bind fun yield_12 => (decS [] T4 qyield_14).bind fun yield_14 => (castL tz002_ T2 qz002).bind fun z002 => (castM kz003_ tz003_ I I qz003).bind fun z003 => some (.two (v_u20 k yield_12 yield_14 yield_150 z000 z001 z002 z003 z10).isLeft (resA_u20 (vA_u20 k yield_12 yield_14 yield_150 z000 z001 z002 z003 z10), boA_u20 yield_12 yield_14 yield_150 z000 z001 z002 z003 z10 (vA_u20 k yield_12 yield_14 yield_150 z000 z001 z002 z003 z10)) (resB_u20 (vB_u20 k yield_12 yield_14 yield_150 z000 z001 z002 z003 z10), boB_u20 yield_12 yield_14 yield_150 z000 z001 z002 z003 z10 (vB_u20 k yield_12 yield_14 yield_150 z000 z001 z002 z003 z10)))
  | _, _ => none
 | _ => none⟩
theorem ev_u6 (k : Nat) (l_ : List (T2).T) (web_ : T5.T) (across_ : Int) (along_ : Int) : ∀ j, (∀ (y0 : T4.T) (y1 : Int) (y2 : Int) (y3 : List (T2).T) (y4 : List ((I).T × (I).T)) (y5 : T4.T) (r : R_u6), f_u6_8 k j y0 y1 y2 y3 y4 y5 = some r → Ev Tryz.prog Tryz.f27 0 (placeAt Tryz.f27 8) (st_u6_8 y0 y1 y2 y3 y4 y5) (res_u6 r) (bo_u6 l_ web_ across_ along_ r))
 | 0 => by
  intros; rename_i h; simp [f_u6_8] at h
 | j + 1 => by
  have ih := ev_u6 k l_ web_ across_ along_ j
  ·intro y0 y1 y2 y3 y4 y5 r h
   rw [f_u6_8] at h
   refine Ev.tree hm (R := Rt) (K := (K_u6 k)) (l := []) (C := [(8, [.autoB [8, 10, 12] false []])]) (E := [.autoB [8, 9] true []]) (n := 1000) (T := .need [CC Tryz.prog 44 (args_u19 y1 y2 y3 y4 y5.1) (bin_u19 y1 y2 y3 y4 y5.1) (res_u19 (v_u19 k y1 y2 y3 y4 y5.1)) (bo_u19 y1 y2 y3 y4 y5.1 (v_u19 k y1 y2 y3 y4 y5.1))] (.test ((Sum.isLeft (v_u20 k y5 y5 false y1 y2 y3 y4 (v_u19 k y1 y2 y3 y4 y5.1)))) (.need [CC Tryz.prog 64 (args_u20 y5 y5 false y1 y2 y3 y4 (v_u19 k y1 y2 y3 y4 y5.1)) (bin_u20 y5 y5 false y1 y2 y3 y4 (v_u19 k y1 y2 y3 y4 y5.1)) (resA_u20 (vA_u20 k y5 y5 false y1 y2 y3 y4 (v_u19 k y1 y2 y3 y4 y5.1))) (boA_u20 y5 y5 false y1 y2 y3 y4 (v_u19 k y1 y2 y3 y4 y5.1) (vA_u20 k y5 y5 false y1 y2 y3 y4 (v_u19 k y1 y2 y3 y4 y5.1)))] (.test ((! (vA_u20 k y5 y5 false y1 y2 y3 y4 (v_u19 k y1 y2 y3 y4 y5.1)).2)) (.test ((y5.1 == (0 : Int))) (.need [(y5.1 == (0 : Int)) = true] (.test (true) (.leaf (res_u6 (((0, (0, 0)), 7))) (bo_u6 l_ web_ across_ along_ (((0, (0, 0)), 7)))) (.leaf (.tup [.agg (rvs (enc T4 y5)), .r (.v (.int .i64 0))]) []))) (.need [(y5.1 == (0 : Int)) = false, CC Tryz.prog 45 (args_u25 y1 y2 y3 y4 y5.1) (bin_u25 y1 y2 y3 y4 y5.1) (res_u25 (v_u25 k y1 y2 y3 y4 y5.1)) (bo_u25 y1 y2 y3 y4 y5.1 (v_u25 k y1 y2 y3 y4 y5.1))] (.test ((false || (!v_u25 k y1 y2 y3 y4 y5.1))) (.leaf (res_u6 (((0, (0, 0)), 7))) (bo_u6 l_ web_ across_ along_ (((0, (0, 0)), 7)))) (.leaf (res_u6 ((y5, 0))) (bo_u6 l_ web_ across_ along_ ((y5, 0))))))) (.cut 8 (placeAt Tryz.f27 8) (st_u6_8 y0 y1 y2 y3 y4 ((vA_u20 k y5 y5 false y1 y2 y3 y4 (v_u19 k y1 y2 y3 y4 y5.1)).1))))) (.need [CC Tryz.prog 64 (args_u20 y5 y5 false y1 y2 y3 y4 (v_u19 k y1 y2 y3 y4 y5.1)) (bin_u20 y5 y5 false y1 y2 y3 y4 (v_u19 k y1 y2 y3 y4 y5.1)) (resB_u20 (vB_u20 k y5 y5 false y1 y2 y3 y4 (v_u19 k y1 y2 y3 y4 y5.1))) (boB_u20 y5 y5 false y1 y2 y3 y4 (v_u19 k y1 y2 y3 y4 y5.1) (vB_u20 k y5 y5 false y1 y2 y3 y4 (v_u19 k y1 y2 y3 y4 y5.1)))] (.test ((! (vB_u20 k y5 y5 false y1 y2 y3 y4 (v_u19 k y1 y2 y3 y4 y5.1)).2)) (.test ((y5.1 == (0 : Int))) (.need [(y5.1 == (0 : Int)) = true] (.test (true) (.leaf (res_u6 (((0, (0, 0)), 7))) (bo_u6 l_ web_ across_ along_ (((0, (0, 0)), 7)))) (.leaf (.tup [.agg (rvs (enc T4 y5)), .r (.v (.int .i64 0))]) []))) (.need [(y5.1 == (0 : Int)) = false, CC Tryz.prog 45 (args_u25 y1 y2 y3 y4 y5.1) (bin_u25 y1 y2 y3 y4 y5.1) (res_u25 (v_u25 k y1 y2 y3 y4 y5.1)) (bo_u25 y1 y2 y3 y4 y5.1 (v_u25 k y1 y2 y3 y4 y5.1))] (.test ((false || (!v_u25 k y1 y2 y3 y4 y5.1))) (.leaf (res_u6 (((0, (0, 0)), 7))) (bo_u6 l_ web_ across_ along_ (((0, (0, 0)), 7)))) (.leaf (res_u6 ((y5, 0))) (bo_u6 l_ web_ across_ along_ ((y5, 0))))))) (.cut 8 (placeAt Tryz.f27 8) (st_u6_8 y0 y1 y2 y3 y4 ((vB_u20 k y5 y5 false y1 y2 y3 y4 (v_u19 k y1 y2 y3 y4 y5.1)).1))))))) (by kernel_rfl) ?_
   by_cases q : ((f_u19 k y1 y2 y3 y4 y5.1).isSome = true)
   ·rw [if_pos q] at h
    refine ⟨(conjC (cc_u19 k y1 y2 y3 y4 y5.1 q) conj0), ?_⟩
    refine ⟨fun c => ?_, fun c => ?_⟩
    ·rw [cond_t (show ((Sum.isLeft (v_u20 k y5 y5 false y1 y2 y3 y4 (v_u19 k y1 y2 y3 y4 y5.1)))) = true from c)] at h
     by_cases q : ((f_u20 k y5 y5 false y1 y2 y3 y4 (v_u19 k y1 y2 y3 y4 y5.1)).isSome = true)
     ·rw [if_pos q] at h
      refine ⟨(conjC (ccA_u20 k y5 y5 false y1 y2 y3 y4 (v_u19 k y1 y2 y3 y4 y5.1) q (by assumption)) conj0), ?_⟩
      refine ⟨fun c => ?_, fun c => ?_⟩
      ·rw [cond_t (show ((! (vA_u20 k y5 y5 false y1 y2 y3 y4 (v_u19 k y1 y2 y3 y4 y5.1)).2)) = true from c)] at h
       refine ⟨fun c => ?_, fun c => ?_⟩
       ·rw [cond_t (show ((y5.1 == (0 : Int))) = true from c)] at h
        by_cases q : ((y5.1 == (0 : Int)) = true)
        ·rw [if_pos q] at h
         refine ⟨(conjC q conj0), ?_⟩
         refine ⟨fun c => ?_, fun c => ?_⟩
         rotate_left
         ·cases c
         cases h; exact ⟨rfl, rfl⟩
        ·rw [if_neg q] at h; cases h
       ·rw [cond_f (show ((y5.1 == (0 : Int))) = false from c)] at h
        by_cases q : ((y5.1 == (0 : Int)) = false) ∧ ((f_u25 k y1 y2 y3 y4 y5.1).isSome = true)
        ·rw [if_pos q] at h
         refine ⟨(conjC q.1 (conjC (cc_u25 k y1 y2 y3 y4 y5.1 q.2) conj0)), ?_⟩
         refine ⟨fun c => ?_, fun c => ?_⟩
         ·rw [cond_t (show ((false || (!v_u25 k y1 y2 y3 y4 y5.1))) = true from c)] at h
          cases h; exact ⟨rfl, rfl⟩
         ·rw [cond_f (show ((false || (!v_u25 k y1 y2 y3 y4 y5.1))) = false from c)] at h
          cases h; exact ⟨rfl, rfl⟩
        ·rw [if_neg q] at h; cases h
      ·rw [cond_f (show ((! (vA_u20 k y5 y5 false y1 y2 y3 y4 (v_u19 k y1 y2 y3 y4 y5.1)).2)) = false from c)] at h
       exact ih y0 y1 y2 y3 y4 ((vA_u20 k y5 y5 false y1 y2 y3 y4 (v_u19 k y1 y2 y3 y4 y5.1)).1) _ h
     ·rw [if_neg q] at h; cases h
    ·rw [cond_f (show ((Sum.isLeft (v_u20 k y5 y5 false y1 y2 y3 y4 (v_u19 k y1 y2 y3 y4 y5.1)))) = false from c)] at h
     by_cases q : ((f_u20 k y5 y5 false y1 y2 y3 y4 (v_u19 k y1 y2 y3 y4 y5.1)).isSome = true)
     ·rw [if_pos q] at h
      refine ⟨(conjC (ccB_u20 k y5 y5 false y1 y2 y3 y4 (v_u19 k y1 y2 y3 y4 y5.1) q (by assumption)) conj0), ?_⟩
      refine ⟨fun c => ?_, fun c => ?_⟩
      ·rw [cond_t (show ((! (vB_u20 k y5 y5 false y1 y2 y3 y4 (v_u19 k y1 y2 y3 y4 y5.1)).2)) = true from c)] at h
       refine ⟨fun c => ?_, fun c => ?_⟩
       ·rw [cond_t (show ((y5.1 == (0 : Int))) = true from c)] at h
        by_cases q : ((y5.1 == (0 : Int)) = true)
        ·rw [if_pos q] at h
         refine ⟨(conjC q conj0), ?_⟩
         refine ⟨fun c => ?_, fun c => ?_⟩
         rotate_left
         ·cases c
         cases h; exact ⟨rfl, rfl⟩
        ·rw [if_neg q] at h; cases h
       ·rw [cond_f (show ((y5.1 == (0 : Int))) = false from c)] at h
        by_cases q : ((y5.1 == (0 : Int)) = false) ∧ ((f_u25 k y1 y2 y3 y4 y5.1).isSome = true)
        ·rw [if_pos q] at h
         refine ⟨(conjC q.1 (conjC (cc_u25 k y1 y2 y3 y4 y5.1 q.2) conj0)), ?_⟩
         refine ⟨fun c => ?_, fun c => ?_⟩
         ·rw [cond_t (show ((false || (!v_u25 k y1 y2 y3 y4 y5.1))) = true from c)] at h
          cases h; exact ⟨rfl, rfl⟩
         ·rw [cond_f (show ((false || (!v_u25 k y1 y2 y3 y4 y5.1))) = false from c)] at h
          cases h; exact ⟨rfl, rfl⟩
        ·rw [if_neg q] at h; cases h
      ·rw [cond_f (show ((! (vB_u20 k y5 y5 false y1 y2 y3 y4 (v_u19 k y1 y2 y3 y4 y5.1)).2)) = false from c)] at h
       exact ih y0 y1 y2 y3 y4 ((vB_u20 k y5 y5 false y1 y2 y3 y4 (v_u19 k y1 y2 y3 y4 y5.1)).1) _ h
     ·rw [if_neg q] at h; cases h
   ·rw [if_neg q] at h; cases h
theorem of_u6 (k : Nat) (l_ : List (T2).T) (web_ : T5.T) (across_ : Int) (along_ : Int) (r : R_u6) (h : f_u6 k l_ web_ across_ along_ = some r) : CC Tryz.prog 27 (args_u6 l_ web_ across_ along_) (bin_u6 l_ web_ across_ along_) (res_u6 r) (bo_u6 l_ web_ across_ along_ r) := by
 refine CC.of (fn := Tryz.f27) (by kernel_rfl) (by kernel_rfl) (by kernel_rfl) (by kernel_rfl) ?_
 unfold f_u6 at h
 refine Ev.tree hm (R := Rt) (K := (K_u6 k)) (l := []) (C := [(8, [.autoB [8, 10, 12] false []])]) (E := [.autoB [8, 9] true []]) (n := 1000) (T := .test ((Sum.isLeft (v_u15 k l_ web_))) (.need [CC Tryz.prog 39 (args_u15 l_ web_) (bin_u15 l_ web_) (resA_u15 (vA_u15 k l_ web_)) (boA_u15 l_ web_ (vA_u15 k l_ web_))] (.test ((vA_u15 k l_ web_ != (0 : Int))) (.leaf (res_u6 (((0, (0, 0)), vA_u15 k l_ web_))) (bo_u6 l_ web_ across_ along_ (((0, (0, 0)), vA_u15 k l_ web_)))) (.stuck 2002))) (.need [CC Tryz.prog 39 (args_u15 l_ web_) (bin_u15 l_ web_) (resB_u15 (vB_u15 k l_ web_)) (boB_u15 l_ web_ (vB_u15 k l_ web_))] (.test (((vB_u15 k l_ web_).1 != (0 : Int))) (.leaf (res_u6 (((0, (0, 0)), (vB_u15 k l_ web_).1))) (bo_u6 l_ web_ across_ along_ (((0, (0, 0)), (vB_u15 k l_ web_).1)))) (.need [CC Tryz.prog 31 (args_u26 (vB_u15 k l_ web_).2.1 (vB_u15 k l_ web_).2.2.1 (vB_u15 k l_ web_).2.2.2.1 (vB_u15 k l_ web_).2.2.2.2 (0, across_, along_)) (bin_u26 (vB_u15 k l_ web_).2.1 (vB_u15 k l_ web_).2.2.1 (vB_u15 k l_ web_).2.2.2.1 (vB_u15 k l_ web_).2.2.2.2 (0, across_, along_)) (res_u26 (v_u26 k (vB_u15 k l_ web_).2.1 (vB_u15 k l_ web_).2.2.1 (vB_u15 k l_ web_).2.2.2.1 (vB_u15 k l_ web_).2.2.2.2 (0, across_, along_))) (bo_u26 (vB_u15 k l_ web_).2.1 (vB_u15 k l_ web_).2.2.1 (vB_u15 k l_ web_).2.2.2.1 (vB_u15 k l_ web_).2.2.2.2 (0, across_, along_) (v_u26 k (vB_u15 k l_ web_).2.1 (vB_u15 k l_ web_).2.2.1 (vB_u15 k l_ web_).2.2.2.1 (vB_u15 k l_ web_).2.2.2.2 (0, across_, along_)))] (.test ((v_u26 k (vB_u15 k l_ web_).2.1 (vB_u15 k l_ web_).2.2.1 (vB_u15 k l_ web_).2.2.2.1 (vB_u15 k l_ web_).2.2.2.2 ((0 : Int), across_, along_) != (0 : Int))) (.leaf (res_u6 (((0, (0, 0)), v_u26 k (vB_u15 k l_ web_).2.1 (vB_u15 k l_ web_).2.2.1 (vB_u15 k l_ web_).2.2.2.1 (vB_u15 k l_ web_).2.2.2.2 (0, across_, along_)))) (bo_u6 l_ web_ across_ along_ (((0, (0, 0)), v_u26 k (vB_u15 k l_ web_).2.1 (vB_u15 k l_ web_).2.2.1 (vB_u15 k l_ web_).2.2.2.1 (vB_u15 k l_ web_).2.2.2.2 (0, across_, along_))))) (.cut 8 (placeAt Tryz.f27 8) (st_u6_8 ((0, (0, 0))) ((vB_u15 k l_ web_).2.1) ((vB_u15 k l_ web_).2.2.1) ((vB_u15 k l_ web_).2.2.2.1) ((vB_u15 k l_ web_).2.2.2.2) ((0, (across_, along_)))))))))) (by kernel_rfl) ?_
 refine ⟨fun c => ?_, fun c => ?_⟩
 ·rw [cond_t (show ((Sum.isLeft (v_u15 k l_ web_))) = true from c)] at h
  by_cases q : ((f_u15 k l_ web_).isSome = true)
  ·rw [if_pos q] at h
   refine ⟨(conjC (ccA_u15 k l_ web_ q (by assumption)) conj0), ?_⟩
   refine ⟨fun c => ?_, fun c => ?_⟩
   ·rw [cond_t (show ((vA_u15 k l_ web_ != (0 : Int))) = true from c)] at h
    cases h; exact ⟨rfl, rfl⟩
   ·rw [cond_f (show ((vA_u15 k l_ web_ != (0 : Int))) = false from c)] at h
    cases h
  ·rw [if_neg q] at h; cases h
 ·rw [cond_f (show ((Sum.isLeft (v_u15 k l_ web_))) = false from c)] at h
  by_cases q : ((f_u15 k l_ web_).isSome = true)
  ·rw [if_pos q] at h
   refine ⟨(conjC (ccB_u15 k l_ web_ q (by assumption)) conj0), ?_⟩
   refine ⟨fun c => ?_, fun c => ?_⟩
   ·rw [cond_t (show (((vB_u15 k l_ web_).1 != (0 : Int))) = true from c)] at h
    cases h; exact ⟨rfl, rfl⟩
   ·rw [cond_f (show (((vB_u15 k l_ web_).1 != (0 : Int))) = false from c)] at h
    by_cases q : ((f_u26 k (vB_u15 k l_ web_).2.1 (vB_u15 k l_ web_).2.2.1 (vB_u15 k l_ web_).2.2.2.1 (vB_u15 k l_ web_).2.2.2.2 (0, across_, along_)).isSome = true)
    ·rw [if_pos q] at h
     refine ⟨(conjC (cc_u26 k (vB_u15 k l_ web_).2.1 (vB_u15 k l_ web_).2.2.1 (vB_u15 k l_ web_).2.2.2.1 (vB_u15 k l_ web_).2.2.2.2 (0, across_, along_) q) conj0), ?_⟩
     refine ⟨fun c => ?_, fun c => ?_⟩
     ·rw [cond_t (show ((v_u26 k (vB_u15 k l_ web_).2.1 (vB_u15 k l_ web_).2.2.1 (vB_u15 k l_ web_).2.2.2.1 (vB_u15 k l_ web_).2.2.2.2 ((0 : Int), across_, along_) != (0 : Int))) = true from c)] at h
      cases h; exact ⟨rfl, rfl⟩
     ·rw [cond_f (show ((v_u26 k (vB_u15 k l_ web_).2.1 (vB_u15 k l_ web_).2.2.1 (vB_u15 k l_ web_).2.2.2.1 (vB_u15 k l_ web_).2.2.2.2 ((0 : Int), across_, along_) != (0 : Int))) = false from c)] at h
      exact (ev_u6 k l_ web_ across_ along_ k) ((0, (0, 0))) ((vB_u15 k l_ web_).2.1) ((vB_u15 k l_ web_).2.2.1) ((vB_u15 k l_ web_).2.2.2.1) ((vB_u15 k l_ web_).2.2.2.2) ((0, (across_, along_))) _ h
    ·rw [if_neg q] at h; cases h
  ·rw [if_neg q] at h; cases h
theorem cc_u6 (k : Nat) (l_ : List (T2).T) (web_ : T5.T) (across_ : Int) (along_ : Int) (h : (f_u6 k l_ web_ across_ along_).isSome = true) : CC Tryz.prog 27 (args_u6 l_ web_ across_ along_) (bin_u6 l_ web_ across_ along_) (res_u6 (v_u6 k l_ web_ across_ along_)) (bo_u6 l_ web_ across_ along_ (v_u6 k l_ web_ across_ along_)) := by
 cases e : f_u6 k l_ web_ across_ along_ with
 | none => rw [e] at h; cases h
 | some r => rw [show v_u6 k l_ web_ across_ along_ = r by simp [v_u6, e]]; exact of_u6 k l_ web_ across_ along_ r e

end
end Go.AM
namespace Go.AM
open Go Go.Proofs Go.IntKind
set_option linter.unusedVariables false
noncomputable section
abbrev R_u91 : Type := T4.T × Bool
def res_u91 (r : R_u91) : AV := .tup [.agg (rvs (enc T4 r.1)), .r (.v (.bool r.2))]
def bo_u91 (x_ : T2.T) (p_ : T4.T) (r : R_u91) : List (Nat × Blk) := []
def args_u91 (x_ : T2.T) (p_ : T4.T) : List AV := [.agg (rvs (enc T2 x_)), .agg (rvs (enc T4 p_))]
def bin_u91 (x_ : T2.T) (p_ : T4.T) : List Blk := []
def st_u91_9 (y0 : Int) (y1 : Int) (y2 : T4.T) (y3 : T4.T) (y4 : T1.T) (y5 : T4.T) : St := ⟨mkS 113 [(3, .ptr 1000000 0 0), (4, .ptr 1000001 0 0), (6, .ptr 1000002 0 0), (7, .ptr 1000003 0 0), (8, .r (.v (.int .i64 y0))), (9, .r (.v (.int .i64 y1)))], [(1000000, 0, .var 26 (rvs (enc T4 y2))), (1000001, 0, .var 26 (rvs (enc T4 y3))), (1000002, 0, .var 41 (rvs (enc T1 y4))), (1000003, 0, .var 26 (rvs (enc T4 y5)))]⟩
def f_u91_9 (k : Nat) : Nat → Int → Int → T4.T → T4.T → T1.T → T4.T → Option R_u91
 | 0, _, _, _, _, _, _ => none
 | j + 1, y0, y1, y2, y3, y4, y5 =>
 bif (decide (y1 < (↑ (List.length y4.2.2.2) : Int))) then
 if (0 ≤ y1) ∧ (y1 < (↑ (List.length y4.2.2.2) : Int)) ∧ ((f_u90 k (List.getD y4.2.2.2 y1.toNat T0.dflt)).isSome = true) then
 bif (decide ((v_u90 k (List.getD y4.2.2.2 y1.toNat T0.dflt)).1 ≤ y2.2.2) && decide (y2.2.2 ≤ (v_u90 k (List.getD y4.2.2.2 y1.toNat T0.dflt)).2)) then
 if (0 ≤ y1) ∧ (y1 < (↑ (List.length y4.2.2.2) : Int)) then
 bif (List.getD y4.2.2.2 y1.toNat T0.dflt).2.2 then
 some (((y5.1, (y5.2.1, i64.wrap (i64.wrap (y0 + (v_u90 k (List.getD y4.2.2.2 y1.toNat T0.dflt)).2) - y2.2.2))), true))
 else
 some (((y5.1, (y5.2.1, i64.wrap (i64.wrap (y0 + y2.2.2) - (v_u90 k (List.getD y4.2.2.2 y1.toNat T0.dflt)).1))), true))
 else none
 else
 if (0 ≤ y1) ∧ (y1 < (↑ (List.length y4.2.2.2) : Int)) then
 f_u91_9 k j ((i64.wrap (y0 + (List.getD y4.2.2.2 y1.toNat T0.dflt).2.1))) ((i64.wrap (y1 + 1))) y2 y3 y4 y5
 else none
 else none
 else
 some (((0, (0, 0)), false))
def f_u91 (k : Nat) (x_ : T2.T) (p_ : T4.T) : Option R_u91 :=
 bif (x_.2.1 != p_.1 || decide (p_.2.1 < x_.2.2.1) || decide (p_.2.1 ≥ i64.wrap (x_.2.2.1 + x_.2.2.2.1))) then
 some (((0, (0, 0)), false))
 else
 bif x_.2.2.2.2.1 then
 f_u91_9 k k 0 0 p_ ((0, (0, 0))) x_.2.2 ((x_.1, (i64.wrap (i64.wrap (i64.wrap (x_.2.2.1 + x_.2.2.2.1) - 1) - p_.2.1), 0)))
 else
 f_u91_9 k k 0 0 p_ ((0, (0, 0))) x_.2.2 ((x_.1, (i64.wrap (p_.2.1 - x_.2.2.1), 0)))
def v_u91 (k : Nat) (x_ : T2.T) (p_ : T4.T) : R_u91 := (f_u91 k x_ p_).getD ((T4).dflt, false)
def K_u91 (k : Nat) : Calld := ⟨fun g xs => match g with
 | 62 => match xs with
  | [_] => some [false]
  | _ => none
 | _ => none, fun g xs bs => match g with
 | 62 => match xs, bs with
  | [.agg qr_], [] => (decS [] T0 qr_).bind fun r_ => some (.one (res_u90 (v_u90 k r_), bo_u90 r_ (v_u90 k r_)))
  | _, _ => none
 | _ => none⟩
theorem ev_u91 (k : Nat) (x_ : T2.T) (p_ : T4.T) : ∀ j, (∀ (y0 : Int) (y1 : Int) (y2 : T4.T) (y3 : T4.T) (y4 : T1.T) (y5 : T4.T) (r : R_u91), f_u91_9 k j y0 y1 y2 y3 y4 y5 = some r → Ev Tryz.prog Tryz.f48 0 (placeAt Tryz.f48 9) (st_u91_9 y0 y1 y2 y3 y4 y5) (res_u91 r) (bo_u91 x_ p_ r))
 | 0 => by
  intros; rename_i h; simp [f_u91_9] at h
 | j + 1 => by
  have ih := ev_u91 k x_ p_ j
  ·intro y0 y1 y2 y3 y4 y5 r h
   rw [f_u91_9] at h
   refine Ev.tree hm (R := Rt) (K := (K_u91 k)) (l := []) (C := [(9, [.autoB [3, 4, 6, 7, 8, 9] false []])]) (E := [.autoB [4, 5] true []]) (n := 1000) (T := .test ((decide (y1 < (↑ (List.length y4.2.2.2) : Int)))) (.need [0 ≤ y1, y1 < (↑ (List.length y4.2.2.2) : Int), CC Tryz.prog 62 (args_u90 (List.getD y4.2.2.2 y1.toNat T0.dflt)) (bin_u90 (List.getD y4.2.2.2 y1.toNat T0.dflt)) (res_u90 (v_u90 k (List.getD y4.2.2.2 y1.toNat T0.dflt))) (bo_u90 (List.getD y4.2.2.2 y1.toNat T0.dflt) (v_u90 k (List.getD y4.2.2.2 y1.toNat T0.dflt)))] (.test ((decide ((v_u90 k (List.getD y4.2.2.2 y1.toNat T0.dflt)).1 ≤ y2.2.2) && decide (y2.2.2 ≤ (v_u90 k (List.getD y4.2.2.2 y1.toNat T0.dflt)).2))) (.need [0 ≤ y1, y1 < (↑ (List.length y4.2.2.2) : Int)] (.test ((List.getD y4.2.2.2 y1.toNat T0.dflt).2.2) (.leaf (res_u91 (((y5.1, (y5.2.1, i64.wrap (i64.wrap (y0 + (v_u90 k (List.getD y4.2.2.2 y1.toNat T0.dflt)).2) - y2.2.2))), true))) (bo_u91 x_ p_ (((y5.1, (y5.2.1, i64.wrap (i64.wrap (y0 + (v_u90 k (List.getD y4.2.2.2 y1.toNat T0.dflt)).2) - y2.2.2))), true)))) (.leaf (res_u91 (((y5.1, (y5.2.1, i64.wrap (i64.wrap (y0 + y2.2.2) - (v_u90 k (List.getD y4.2.2.2 y1.toNat T0.dflt)).1))), true))) (bo_u91 x_ p_ (((y5.1, (y5.2.1, i64.wrap (i64.wrap (y0 + y2.2.2) - (v_u90 k (List.getD y4.2.2.2 y1.toNat T0.dflt)).1))), true)))))) (.need [0 ≤ y1, y1 < (↑ (List.length y4.2.2.2) : Int)] (.cut 9 (placeAt Tryz.f48 9) (st_u91_9 ((i64.wrap (y0 + (List.getD y4.2.2.2 y1.toNat T0.dflt).2.1))) ((i64.wrap (y1 + 1))) y2 y3 y4 y5))))) (.leaf (res_u91 (((0, (0, 0)), false))) (bo_u91 x_ p_ (((0, (0, 0)), false))))) (by kernel_rfl) ?_
   refine ⟨fun c => ?_, fun c => ?_⟩
   ·rw [cond_t (show ((decide (y1 < (↑ (List.length y4.2.2.2) : Int)))) = true from c)] at h
    by_cases q : (0 ≤ y1) ∧ (y1 < (↑ (List.length y4.2.2.2) : Int)) ∧ ((f_u90 k (List.getD y4.2.2.2 y1.toNat T0.dflt)).isSome = true)
    ·rw [if_pos q] at h
     refine ⟨(conjC q.1 (conjC q.2.1 (conjC (cc_u90 k (List.getD y4.2.2.2 y1.toNat T0.dflt) q.2.2) conj0))), ?_⟩
     refine ⟨fun c => ?_, fun c => ?_⟩
     ·rw [cond_t (show ((decide ((v_u90 k (List.getD y4.2.2.2 y1.toNat T0.dflt)).1 ≤ y2.2.2) && decide (y2.2.2 ≤ (v_u90 k (List.getD y4.2.2.2 y1.toNat T0.dflt)).2))) = true from c)] at h
      by_cases q : (0 ≤ y1) ∧ (y1 < (↑ (List.length y4.2.2.2) : Int))
      ·rw [if_pos q] at h
       refine ⟨(conjC q.1 (conjC q.2 conj0)), ?_⟩
       refine ⟨fun c => ?_, fun c => ?_⟩
       ·rw [cond_t (show ((List.getD y4.2.2.2 y1.toNat T0.dflt).2.2) = true from c)] at h
        cases h; exact ⟨rfl, rfl⟩
       ·rw [cond_f (show ((List.getD y4.2.2.2 y1.toNat T0.dflt).2.2) = false from c)] at h
        cases h; exact ⟨rfl, rfl⟩
      ·rw [if_neg q] at h; cases h
     ·rw [cond_f (show ((decide ((v_u90 k (List.getD y4.2.2.2 y1.toNat T0.dflt)).1 ≤ y2.2.2) && decide (y2.2.2 ≤ (v_u90 k (List.getD y4.2.2.2 y1.toNat T0.dflt)).2))) = false from c)] at h
      by_cases q : (0 ≤ y1) ∧ (y1 < (↑ (List.length y4.2.2.2) : Int))
      ·rw [if_pos q] at h
       refine ⟨(conjC q.1 (conjC q.2 conj0)), ?_⟩
       exact ih ((i64.wrap (y0 + (List.getD y4.2.2.2 y1.toNat T0.dflt).2.1))) ((i64.wrap (y1 + 1))) y2 y3 y4 y5 _ h
      ·rw [if_neg q] at h; cases h
    ·rw [if_neg q] at h; cases h
   ·rw [cond_f (show ((decide (y1 < (↑ (List.length y4.2.2.2) : Int)))) = false from c)] at h
    cases h; exact ⟨rfl, rfl⟩
theorem of_u91 (k : Nat) (x_ : T2.T) (p_ : T4.T) (r : R_u91) (h : f_u91 k x_ p_ = some r) : CC Tryz.prog 48 (args_u91 x_ p_) (bin_u91 x_ p_) (res_u91 r) (bo_u91 x_ p_ r) := by
 refine CC.of (fn := Tryz.f48) (by kernel_rfl) (by kernel_rfl) (by kernel_rfl) (by kernel_rfl) ?_
 unfold f_u91 at h
 refine Ev.tree hm (R := Rt) (K := (K_u91 k)) (l := []) (C := [(9, [.autoB [3, 4, 6, 7, 8, 9] false []])]) (E := [.autoB [4, 5] true []]) (n := 1000) (T := .test ((x_.2.1 != p_.1 || decide (p_.2.1 < x_.2.2.1) || decide (p_.2.1 ≥ i64.wrap (x_.2.2.1 + x_.2.2.2.1)))) (.leaf (res_u91 (((0, (0, 0)), false))) (bo_u91 x_ p_ (((0, (0, 0)), false)))) (.test (x_.2.2.2.2.1) (.cut 9 (placeAt Tryz.f48 9) (st_u91_9 0 0 p_ ((0, (0, 0))) x_.2.2 ((x_.1, (i64.wrap (i64.wrap (i64.wrap (x_.2.2.1 + x_.2.2.2.1) - 1) - p_.2.1), 0))))) (.cut 9 (placeAt Tryz.f48 9) (st_u91_9 0 0 p_ ((0, (0, 0))) x_.2.2 ((x_.1, (i64.wrap (p_.2.1 - x_.2.2.1), 0))))))) (by kernel_rfl) ?_
 refine ⟨fun c => ?_, fun c => ?_⟩
 ·rw [cond_t (show ((x_.2.1 != p_.1 || decide (p_.2.1 < x_.2.2.1) || decide (p_.2.1 ≥ i64.wrap (x_.2.2.1 + x_.2.2.2.1)))) = true from c)] at h
  cases h; exact ⟨rfl, rfl⟩
 ·rw [cond_f (show ((x_.2.1 != p_.1 || decide (p_.2.1 < x_.2.2.1) || decide (p_.2.1 ≥ i64.wrap (x_.2.2.1 + x_.2.2.2.1)))) = false from c)] at h
  refine ⟨fun c => ?_, fun c => ?_⟩
  ·rw [cond_t (show x_.2.2.2.2.1 = true from c)] at h
   exact (ev_u91 k x_ p_ k) 0 0 p_ ((0, (0, 0))) x_.2.2 ((x_.1, (i64.wrap (i64.wrap (i64.wrap (x_.2.2.1 + x_.2.2.2.1) - 1) - p_.2.1), 0))) _ h
  ·rw [cond_f (show x_.2.2.2.2.1 = false from c)] at h
   exact (ev_u91 k x_ p_ k) 0 0 p_ ((0, (0, 0))) x_.2.2 ((x_.1, (i64.wrap (p_.2.1 - x_.2.2.1), 0))) _ h
theorem cc_u91 (k : Nat) (x_ : T2.T) (p_ : T4.T) (h : (f_u91 k x_ p_).isSome = true) : CC Tryz.prog 48 (args_u91 x_ p_) (bin_u91 x_ p_) (res_u91 (v_u91 k x_ p_)) (bo_u91 x_ p_ (v_u91 k x_ p_)) := by
 cases e : f_u91 k x_ p_ with
 | none => rw [e] at h; cases h
 | some r => rw [show v_u91 k x_ p_ = r by simp [v_u91, e]]; exact of_u91 k x_ p_ r e

end
end Go.AM
namespace Go.AM
open Go Go.Proofs Go.IntKind
set_option linter.unusedVariables false
noncomputable section
abbrev R_u81 : Type := T4.T × Int
def res_u81 (r : R_u81) : AV := .tup [.agg (rvs (enc T4 r.1)), .r (.v (.int .i64 r.2))]
def bo_u81 (l_ : List (T2).T) (web_ : T6.T) (across_ : Int) (along_ : Int) (r : R_u81) : List (Nat × Blk) := []
def args_u81 (l_ : List (T2).T) (web_ : T6.T) (across_ : Int) (along_ : Int) : List AV := [.r (.ro T2 l_), .agg (rvs (enc T6 web_)), .r (.v (.int .i64 across_)), .r (.v (.int .i64 along_))]
def bin_u81 (l_ : List (T2).T) (web_ : T6.T) (across_ : Int) (along_ : Int) : List Blk := []
def st_u81_6 (y0 : List (T2).T) (y1 : Int) (y2 : T4.T) (y3 : T4.T) : St := ⟨mkS 55 [(0, .r (.ro T2 y0)), (8, .ptr 1000000 0 0), (10, .ptr 1000001 0 0), (12, .r (.v (.int .i64 y1)))], [(1000000, 0, .var 26 (rvs (enc T4 y2))), (1000001, 0, .var 26 (rvs (enc T4 y3)))]⟩
def f_u81_6 (k : Nat) : Nat → List (T2).T → Int → T4.T → T4.T → Option R_u81
 | 0, _, _, _, _ => none
 | j + 1, y0, y1, y2, y3 =>
 bif (decide (y1 < (↑y0.length : Int))) then
 if (0 ≤ y1) ∧ (y1 < (↑y0.length : Int)) ∧ ((f_u91 k (y0.getD y1.toNat T2.dflt) y3).isSome = true) then
 bif (v_u91 k (y0.getD y1.toNat T2.dflt) y3).2 then
 f_u81_6 k j y0 ((i64.wrap (y1 + 1))) y2 ((v_u91 k (y0.getD y1.toNat T2.dflt) y3).1)
 else
 f_u81_6 k j y0 ((i64.wrap (y1 + 1))) y2 y3
 else none
 else
 bif (y3.1 == (0 : Int)) then
 if ((y3.1 == (0 : Int)) = true) then
 some (((0, (0, 0)), 7))
 else none
 else
 if ((y3.1 == (0 : Int)) = false) ∧ ((f_u83 k y0 y3.1).isSome = true) then
 bif (false || (!v_u83 k y0 y3.1)) then
 some (((0, (0, 0)), 7))
 else
 some ((y3, 0))
 else none
def f_u81 (k : Nat) (l_ : List (T2).T) (web_ : T6.T) (across_ : Int) (along_ : Int) : Option R_u81 :=
 if ((f_u93 k l_ web_ (0, across_, along_)).isSome = true) then
 bif (v_u93 k l_ web_ ((0 : Int), across_, along_) != (0 : Int)) then
 some (((0, (0, 0)), v_u93 k l_ web_ (0, across_, along_)))
 else
 f_u81_6 k k l_ 0 ((0, (0, 0))) ((0, (across_, along_)))
 else none
def v_u81 (k : Nat) (l_ : List (T2).T) (web_ : T6.T) (across_ : Int) (along_ : Int) : R_u81 := (f_u81 k l_ web_ across_ along_).getD ((T4).dflt, 0)
def K_u81 (k : Nat) : Calld := ⟨fun g xs => match g with
 | 33 => match xs with
  | [_, _, _] => some [false, false, false]
  | _ => none
 | 46 => match xs with
  | [_, _] => some [false, false]
  | _ => none
 | 48 => match xs with
  | [_, _] => some [false, false]
  | _ => none
 | _ => none, fun g xs bs => match g with
 | 33 => match xs, bs with
  | [.r (.ro tl__ ql_), .agg qweb_, .agg qp_], [] => (castL tl__ T2 ql_).bind fun l_ => (decS [] T6 qweb_).bind fun web_ => (decS [] T4 qp_).bind fun p_ => some (.one (res_u93 (v_u93 k l_ web_ p_), bo_u93 l_ web_ p_ (v_u93 k l_ web_ p_)))
  | _, _ => none
 | 46 => match xs, bs with
  | [.r (.ro tl__ ql_), .r (.v (.int .i64 id_))], [] => (castL tl__ T2 ql_).bind fun l_ => some (.one (res_u83 (v_u83 k l_ id_), bo_u83 l_ id_ (v_u83 k l_ id_)))
  | _, _ => none
 | 48 => match xs, bs with
  | [.agg qx_, .agg qp_], [] => (decS [] T2 qx_).bind fun x_ => (decS [] T4 qp_).bind fun p_ => some (.one (res_u91 (v_u91 k x_ p_), bo_u91 x_ p_ (v_u91 k x_ p_)))
  | _, _ => none
 | _ => none⟩
theorem ev_u81 (k : Nat) (l_ : List (T2).T) (web_ : T6.T) (across_ : Int) (along_ : Int) : ∀ j, (∀ (y0 : List (T2).T) (y1 : Int) (y2 : T4.T) (y3 : T4.T) (r : R_u81), f_u81_6 k j y0 y1 y2 y3 = some r → Ev Tryz.prog Tryz.f28 0 (placeAt Tryz.f28 6) (st_u81_6 y0 y1 y2 y3) (res_u81 r) (bo_u81 l_ web_ across_ along_ r))
 | 0 => by
  intros; rename_i h; simp [f_u81_6] at h
 | j + 1 => by
  have ih := ev_u81 k l_ web_ across_ along_ j
  ·intro y0 y1 y2 y3 r h
   rw [f_u81_6] at h
   refine Ev.tree hm (R := Rt) (K := (K_u81 k)) (l := []) (C := [(6, [.autoB [0, 8, 10, 12] false []])]) (E := [.autoB [8, 9] true []]) (n := 1000) (T := .test ((decide (y1 < (↑y0.length : Int)))) (.need [0 ≤ y1, y1 < (↑y0.length : Int), CC Tryz.prog 48 (args_u91 (y0.getD y1.toNat T2.dflt) y3) (bin_u91 (y0.getD y1.toNat T2.dflt) y3) (res_u91 (v_u91 k (y0.getD y1.toNat T2.dflt) y3)) (bo_u91 (y0.getD y1.toNat T2.dflt) y3 (v_u91 k (y0.getD y1.toNat T2.dflt) y3))] (.test ((v_u91 k (y0.getD y1.toNat T2.dflt) y3).2) (.cut 6 (placeAt Tryz.f28 6) (st_u81_6 y0 ((i64.wrap (y1 + 1))) y2 ((v_u91 k (y0.getD y1.toNat T2.dflt) y3).1))) (.cut 6 (placeAt Tryz.f28 6) (st_u81_6 y0 ((i64.wrap (y1 + 1))) y2 y3)))) (.test ((y3.1 == (0 : Int))) (.need [(y3.1 == (0 : Int)) = true] (.test (true) (.leaf (res_u81 (((0, (0, 0)), 7))) (bo_u81 l_ web_ across_ along_ (((0, (0, 0)), 7)))) (.leaf (.tup [.agg (rvs (enc T4 y3)), .r (.v (.int .i64 0))]) []))) (.need [(y3.1 == (0 : Int)) = false, CC Tryz.prog 46 (args_u83 y0 y3.1) (bin_u83 y0 y3.1) (res_u83 (v_u83 k y0 y3.1)) (bo_u83 y0 y3.1 (v_u83 k y0 y3.1))] (.test ((false || (!v_u83 k y0 y3.1))) (.leaf (res_u81 (((0, (0, 0)), 7))) (bo_u81 l_ web_ across_ along_ (((0, (0, 0)), 7)))) (.leaf (res_u81 ((y3, 0))) (bo_u81 l_ web_ across_ along_ ((y3, 0)))))))) (by kernel_rfl) ?_
   refine ⟨fun c => ?_, fun c => ?_⟩
   ·rw [cond_t (show ((decide (y1 < (↑y0.length : Int)))) = true from c)] at h
    by_cases q : (0 ≤ y1) ∧ (y1 < (↑y0.length : Int)) ∧ ((f_u91 k (y0.getD y1.toNat T2.dflt) y3).isSome = true)
    ·rw [if_pos q] at h
     refine ⟨(conjC q.1 (conjC q.2.1 (conjC (cc_u91 k (y0.getD y1.toNat T2.dflt) y3 q.2.2) conj0))), ?_⟩
     refine ⟨fun c => ?_, fun c => ?_⟩
     ·rw [cond_t (show ((v_u91 k (y0.getD y1.toNat T2.dflt) y3).2) = true from c)] at h
      exact ih y0 ((i64.wrap (y1 + 1))) y2 ((v_u91 k (y0.getD y1.toNat T2.dflt) y3).1) _ h
     ·rw [cond_f (show ((v_u91 k (y0.getD y1.toNat T2.dflt) y3).2) = false from c)] at h
      exact ih y0 ((i64.wrap (y1 + 1))) y2 y3 _ h
    ·rw [if_neg q] at h; cases h
   ·rw [cond_f (show ((decide (y1 < (↑y0.length : Int)))) = false from c)] at h
    refine ⟨fun c => ?_, fun c => ?_⟩
    ·rw [cond_t (show ((y3.1 == (0 : Int))) = true from c)] at h
     by_cases q : ((y3.1 == (0 : Int)) = true)
     ·rw [if_pos q] at h
      refine ⟨(conjC q conj0), ?_⟩
      refine ⟨fun c => ?_, fun c => ?_⟩
      rotate_left
      ·cases c
      cases h; exact ⟨rfl, rfl⟩
     ·rw [if_neg q] at h; cases h
    ·rw [cond_f (show ((y3.1 == (0 : Int))) = false from c)] at h
     by_cases q : ((y3.1 == (0 : Int)) = false) ∧ ((f_u83 k y0 y3.1).isSome = true)
     ·rw [if_pos q] at h
      refine ⟨(conjC q.1 (conjC (cc_u83 k y0 y3.1 q.2) conj0)), ?_⟩
      refine ⟨fun c => ?_, fun c => ?_⟩
      ·rw [cond_t (show ((false || (!v_u83 k y0 y3.1))) = true from c)] at h
       cases h; exact ⟨rfl, rfl⟩
      ·rw [cond_f (show ((false || (!v_u83 k y0 y3.1))) = false from c)] at h
       cases h; exact ⟨rfl, rfl⟩
     ·rw [if_neg q] at h; cases h
theorem of_u81 (k : Nat) (l_ : List (T2).T) (web_ : T6.T) (across_ : Int) (along_ : Int) (r : R_u81) (h : f_u81 k l_ web_ across_ along_ = some r) : CC Tryz.prog 28 (args_u81 l_ web_ across_ along_) (bin_u81 l_ web_ across_ along_) (res_u81 r) (bo_u81 l_ web_ across_ along_ r) := by
 refine CC.of (fn := Tryz.f28) (by kernel_rfl) (by kernel_rfl) (by kernel_rfl) (by kernel_rfl) ?_
 unfold f_u81 at h
 refine Ev.tree hm (R := Rt) (K := (K_u81 k)) (l := []) (C := [(6, [.autoB [0, 8, 10, 12] false []])]) (E := [.autoB [8, 9] true []]) (n := 1000) (T := .need [CC Tryz.prog 33 (args_u93 l_ web_ (0, across_, along_)) (bin_u93 l_ web_ (0, across_, along_)) (res_u93 (v_u93 k l_ web_ (0, across_, along_))) (bo_u93 l_ web_ (0, across_, along_) (v_u93 k l_ web_ (0, across_, along_)))] (.test ((v_u93 k l_ web_ ((0 : Int), across_, along_) != (0 : Int))) (.leaf (res_u81 (((0, (0, 0)), v_u93 k l_ web_ (0, across_, along_)))) (bo_u81 l_ web_ across_ along_ (((0, (0, 0)), v_u93 k l_ web_ (0, across_, along_))))) (.cut 6 (placeAt Tryz.f28 6) (st_u81_6 l_ 0 ((0, (0, 0))) ((0, (across_, along_))))))) (by kernel_rfl) ?_
 by_cases q : ((f_u93 k l_ web_ (0, across_, along_)).isSome = true)
 ·rw [if_pos q] at h
  refine ⟨(conjC (cc_u93 k l_ web_ (0, across_, along_) q) conj0), ?_⟩
  refine ⟨fun c => ?_, fun c => ?_⟩
  ·rw [cond_t (show ((v_u93 k l_ web_ ((0 : Int), across_, along_) != (0 : Int))) = true from c)] at h
   cases h; exact ⟨rfl, rfl⟩
  ·rw [cond_f (show ((v_u93 k l_ web_ ((0 : Int), across_, along_) != (0 : Int))) = false from c)] at h
   exact (ev_u81 k l_ web_ across_ along_ k) l_ 0 ((0, (0, 0))) ((0, (across_, along_))) _ h
 ·rw [if_neg q] at h; cases h
theorem cc_u81 (k : Nat) (l_ : List (T2).T) (web_ : T6.T) (across_ : Int) (along_ : Int) (h : (f_u81 k l_ web_ across_ along_).isSome = true) : CC Tryz.prog 28 (args_u81 l_ web_ across_ along_) (bin_u81 l_ web_ across_ along_) (res_u81 (v_u81 k l_ web_ across_ along_)) (bo_u81 l_ web_ across_ along_ (v_u81 k l_ web_ across_ along_)) := by
 cases e : f_u81 k l_ web_ across_ along_ with
 | none => rw [e] at h; cases h
 | some r => rw [show v_u81 k l_ web_ across_ along_ = r by simp [v_u81, e]]; exact of_u81 k l_ web_ across_ along_ r e

end
end Go.AM
namespace Go.AM
open Go Go.Proofs Go.IntKind

structure PtB (p : Pt) : Prop where
 a0 : 0 ≤ p.2.1
 a1 : p.2.1 ≤ 12000
 b0 : 0 ≤ p.2.2
 b1 : p.2.2 ≤ 17179869184
theorem PtB.down {r : Ro} {p q : Pt} (s : Small r.2.2) (h : downS r p = some q) : PtB q := by
 obtain ⟨a, b, c, d⟩ := s
 have ht := d.tot
 unfold downS at h
 by_cases h1 : p.2.1 < r.2.2.1 ∨ p.2.1 ≥ r.2.2.1 + r.2.2.2.1
 ·rw [if_pos h1] at h; cases h
 ·rw [if_neg h1] at h
  cases e : locS r.2.2.2.2.2 0 p.2.2 with
  | none => rw [e] at h; cases h
  | some z =>
   rw [e] at h
   cases h
   have := locS_bound d.goods e
   refine ⟨?_, ?_, ?_, ?_⟩
   ·show 0 ≤ (if r.2.2.2.2.1 = true then _ else _ : Int)
    split <;> omega
   ·show (if r.2.2.2.2.1 = true then _ else _ : Int) ≤ _
    split <;> omega
   ·show 0 ≤ z; omega
   ·show z ≤ _; omega
def optP (o : Option Pt) : Pt × Bool := match o with
 | none => ((0, 0, 0), false)
 | some q => (q, true)
theorem fam_down_8 (k : Nat) (x : Int) (r : Ro) (p : Pt) (hb : PtB p) (z : Pt) (m : List Rn) (hm : goods m) (hl : m.length ≤ 256) : ∀ (d i j : Nat) (a : Int), i + d = m.length → d < j → 0 ≤ a → a ≤ (i : Int) * 17179869184 →
  f_u13_8 k j x a m (m.length : Int) (i : Int) r p z = some (optP ((locS (m.drop i) a p.2.2).map fun z => (r.1, x, z))) := by
 intro d
 obtain ⟨b1, b2, b3, b4⟩ := hb
 induction d with
 | zero =>
  intro i j a hi hj ha hA
  obtain ⟨j, rfl⟩ : ∃ q, j = q + 1 := ⟨j - 1, by omega⟩
  rw [f_u13_8, decide_eq_false (by omega : ¬ (i : Int) < (m.length : Int)), cond_false, List.drop_of_length_le (by omega)]
  rfl
 | succ d ih =>
  intro i j a hi hj ha hA
  obtain ⟨j, rfl⟩ : ∃ q, j = q + 1 := ⟨j - 1, by omega⟩
  have hg : good (m.getD i T0.dflt) := hm.mem _ (getD_mem' _ _ _ (by omega))
  obtain ⟨g1, g2, g3, g4, _⟩ := id hg
  obtain ⟨l1, l2, l3, l4⟩ := hg.lohi
  rw [f_u13_8, decide_eq_true (by omega : (i : Int) < (m.length : Int)), cond_true, if_pos ⟨by omega, by omega⟩, Int.toNat_natCast, fam_bounds_s k _ hg, fam_bounds_v k _ hg, Option.isSome_some, if_pos rfl, drop_cons' m i T0.dflt (by omega), wrapS i (by omega), locS]
  generalize m.getD i T0.dflt = u at *
  show (bif decide (lo u ≤ p.2.2) && decide (p.2.2 ≤ Go.AM.hi u) then (bif u.2.2 then some ((r.1, (x, i64.wrap (i64.wrap (a + Go.AM.hi u) - p.2.2))), true) else some ((r.1, (x, i64.wrap (i64.wrap (a + p.2.2) - lo u))), true)) else f_u13_8 k j x (i64.wrap (a + u.2.1)) m (m.length : Int) ((i + 1 : Nat) : Int) r p z) = _
  by_cases h : lo u ≤ p.2.2 ∧ p.2.2 ≤ Go.AM.hi u
  ·rw [decide_eq_true h.1, decide_eq_true h.2, Bool.true_and, cond_true, if_pos h, wrap_id (i := a + Go.AM.hi u) (by omega) (by omega), wrap_id (i := a + Go.AM.hi u - p.2.2) (by omega) (by omega), wrap_id (i := a + p.2.2) (by omega) (by omega), wrap_id (i := a + p.2.2 - lo u) (by omega) (by omega)]
   cases u.2.2
   ·rw [cond_false, if_neg (by decide), show a + p.2.2 - lo u = a + (p.2.2 - lo u) by omega]; rfl
   ·rw [cond_true, if_pos rfl, show a + Go.AM.hi u - p.2.2 = a + (Go.AM.hi u - p.2.2) by omega]; rfl
  ·rw [show (decide (lo u ≤ p.2.2) && decide (p.2.2 ≤ Go.AM.hi u)) = false by simp; omega, cond_false, if_neg h, wrap_id (by omega) (by omega)]
   exact ih (i + 1) j _ (by omega) (by omega) (by omega) (by omega)
theorem fam_down_s (k : Nat) (hk : 304 ≤ k) (r : Ro) (p : Pt) (hb : PtB p) (s : Small r.2.2) : f_u13 k r p = some (optP (downS r p)) := by
 obtain ⟨a, b, c, d⟩ := s
 have hl := d.len
 have hb' := hb
 obtain ⟨b1, b2, b3, b4⟩ := hb'
 unfold f_u13 downS
 rw [wrap_id (i := p.2.1 - r.2.2.1) (by omega) (by omega)]
 by_cases h1 : p.2.1 < r.2.2.1 ∨ p.2.1 ≥ r.2.2.1 + r.2.2.2.1
 ·rw [if_pos h1, show (decide (p.2.1 - r.2.2.1 < 0) || decide (p.2.1 - r.2.2.1 ≥ r.2.2.2.1)) = true by simp; omega]
  rfl
 ·rw [if_neg h1, show (decide (p.2.1 - r.2.2.1 < 0) || decide (p.2.1 - r.2.2.1 ≥ r.2.2.2.1)) = false by simp; omega, cond_false, wrap_id (i := r.2.2.2.1 - 1) (by omega) (by omega), wrap_id (i := r.2.2.2.1 - 1 - (p.2.1 - r.2.2.1)) (by omega) (by omega)]
  have h8 := fun x => fam_down_8 k x r p hb (0, (0, 0)) r.2.2.2.2.2 d.goods hl r.2.2.2.2.2.length 0 k 0 (by omega) (by omega) (by omega) (by omega)
  cases r.2.2.2.2.1
  ·rw [cond_false, if_neg (by decide)]
   exact h8 _
  ·rw [cond_true, if_pos rfl, show r.2.2.1 + r.2.2.2.1 - 1 - p.2.1 = r.2.2.2.1 - 1 - (p.2.1 - r.2.2.1) by omega]
   exact h8 _
theorem fam_down_v (k : Nat) (hk : 304 ≤ k) (r : Ro) (p : Pt) (hb : PtB p) (s : Small r.2.2) : v_u13 k r p = optP (downS r p) := by
 unfold v_u13; rw [fam_down_s k hk r p hb s]; rfl

theorem ref42_inside_9 (k : Nat) (x : Int) (id : Int) (p : Pt) (hb : PtB p) (z : Pt) (w : Int) (c : Ch) (hm : goods c.2.2.2) (hl : c.2.2.2.length ≤ 256) : ∀ (d i j : Nat) (a : Int), i + d = c.2.2.2.length → d < j → 0 ≤ a → a ≤ (i : Int) * 17179869184 →
  f_u91_9 k j a (i : Int) p z c (id, x, w) = some (optP ((locS (c.2.2.2.drop i) a p.2.2).map fun z => (id, x, z))) := by
 intro d
 obtain ⟨b1, b2, b3, b4⟩ := hb
 induction d with
 | zero =>
  intro i j a hi hj ha hA
  obtain ⟨j, rfl⟩ : ∃ q, j = q + 1 := ⟨j - 1, by omega⟩
  rw [f_u91_9, decide_eq_false (by omega : ¬ (i : Int) < (c.2.2.2.length : Int)), cond_false, List.drop_of_length_le (by omega)]
  rfl
 | succ d ih =>
  intro i j a hi hj ha hA
  obtain ⟨j, rfl⟩ : ∃ q, j = q + 1 := ⟨j - 1, by omega⟩
  have hg : good (c.2.2.2.getD i T0.dflt) := hm.mem _ (getD_mem' _ _ _ (by omega))
  obtain ⟨g1, g2, g3, g4, _⟩ := _root_.id hg
  obtain ⟨l1, l2, l3, l4⟩ := hg.lohi
  have hx : (i : Int) < (c.2.2.2.length : Int) := by omega
  have hx0 : (0 : Int) ≤ (i : Int) := by omega
  rw [f_u91_9, decide_eq_true hx, cond_true, Int.toNat_natCast, ref42_ends_s k _ hg, ref42_ends_v k _ hg, if_pos ⟨hx0, hx, rfl⟩, if_pos ⟨hx0, hx⟩, if_pos ⟨hx0, hx⟩, drop_cons' c.2.2.2 i T0.dflt (by omega), wrapS i (by omega), locS]
  generalize c.2.2.2.getD i T0.dflt = u at *
  show (bif decide (lo u ≤ p.2.2) && decide (p.2.2 ≤ Go.AM.hi u) then (bif u.2.2 then some ((id, (x, i64.wrap (i64.wrap (a + Go.AM.hi u) - p.2.2))), true) else some ((id, (x, i64.wrap (i64.wrap (a + p.2.2) - lo u))), true)) else f_u91_9 k j (i64.wrap (a + u.2.1)) ((i + 1 : Nat) : Int) p z c (id, x, w)) = _
  by_cases h : lo u ≤ p.2.2 ∧ p.2.2 ≤ Go.AM.hi u
  ·rw [decide_eq_true h.1, decide_eq_true h.2, Bool.true_and, cond_true, if_pos h, wrap_id (i := a + Go.AM.hi u) (by omega) (by omega), wrap_id (i := a + Go.AM.hi u - p.2.2) (by omega) (by omega), wrap_id (i := a + p.2.2) (by omega) (by omega), wrap_id (i := a + p.2.2 - lo u) (by omega) (by omega)]
   cases u.2.2
   ·rw [cond_false, if_neg (by decide), show a + p.2.2 - lo u = a + (p.2.2 - lo u) by omega]; rfl
   ·rw [cond_true, if_pos rfl, show a + Go.AM.hi u - p.2.2 = a + (Go.AM.hi u - p.2.2) by omega]; rfl
  ·rw [show (decide (lo u ≤ p.2.2) && decide (p.2.2 ≤ Go.AM.hi u)) = false by simp; omega, cond_false, if_neg h, wrap_id (by omega) (by omega)]
   exact ih (i + 1) j _ (by omega) (by omega) (by omega) (by omega)
theorem ref42_inside_s (k : Nat) (hk : 304 ≤ k) (r : Ro) (p : Pt) (hb : PtB p) (s : Small r.2.2) : f_u91 k r p = some (optP (if r.2.1 = p.1 then downS r p else none)) := by
 obtain ⟨a, b, c, d⟩ := s
 have hl := d.len
 have hb' := hb
 obtain ⟨b1, b2, b3, b4⟩ := hb'
 unfold f_u91 downS
 rw [wrap_id (i := r.2.2.1 + r.2.2.2.1) (by omega) (by omega)]
 by_cases h0 : r.2.1 = p.1
 ·rw [if_pos h0, show (r.2.1 != p.1) = false by simp [h0], Bool.false_or]
  by_cases h1 : p.2.1 < r.2.2.1 ∨ p.2.1 ≥ r.2.2.1 + r.2.2.2.1
  ·rw [if_pos h1, show (decide (p.2.1 < r.2.2.1) || decide (p.2.1 ≥ r.2.2.1 + r.2.2.2.1)) = true by simpa using h1]
   rfl
  ·rw [if_neg h1, show (decide (p.2.1 < r.2.2.1) || decide (p.2.1 ≥ r.2.2.1 + r.2.2.2.1)) = false by simp; omega, cond_false, wrap_id (i := r.2.2.1 + r.2.2.2.1 - 1) (by omega) (by omega), wrap_id (i := r.2.2.1 + r.2.2.2.1 - 1 - p.2.1) (by omega) (by omega), wrap_id (i := p.2.1 - r.2.2.1) (by omega) (by omega)]
   have h8 := fun x => ref42_inside_9 k x r.1 p hb (0, (0, 0)) 0 r.2.2 d.goods hl r.2.2.2.2.2.length 0 k 0 (by omega) (by omega) (by omega) (by omega)
   cases r.2.2.2.2.1
   ·rw [cond_false, if_neg (by decide)]
    exact h8 _
   ·rw [cond_true, if_pos rfl]
    exact h8 _
 ·rw [if_neg h0, bne_iff_ne.2 h0]; rfl
theorem ref42_inside_v (k : Nat) (hk : 304 ≤ k) (r : Ro) (p : Pt) (hb : PtB p) (s : Small r.2.2) : v_u91 k r p = optP (if r.2.1 = p.1 then downS r p else none) := by
 unfold v_u91; rw [ref42_inside_s k hk r p hb s]; rfl

theorem ref42_Find_l (k : Nat) (hk : 2100 ≤ k) (l : List Ro) (hl : l.length ≤ 512) (hw : Wl l) (z : Pt) : ∀ (d i j : Nat) (p : Pt), i + d = l.length → d < j → PtB p →
  f_u81_6 k j l (i : Int) z p = some (finishS l (scanS (l.drop i) p)) := by
 intro d
 induction d with
 | zero =>
  intro i j p hi hj hb
  obtain ⟨j, rfl⟩ : ∃ q, j = q + 1 := ⟨j - 1, by omega⟩
  rw [f_u81_6, decide_eq_false (by omega : ¬ (i : Int) < (l.length : Int)), cond_false, List.drop_of_length_le (by omega), scanS]
  unfold finishS
  by_cases h0 : p.1 = 0
  ·rw [show (p.1 == 0) = true from beq_iff_eq.2 h0, if_pos h0]; rfl
  ·rw [show (p.1 == 0) = false from beq_false_of_ne h0, if_neg h0, cond_false, ref42_Leaf_s k hk l _ hl, ref42_Leaf_v k hk l _ hl, if_pos ⟨rfl, rfl⟩]
   unfold leafS
   cases (l.any fun r => r.2.1 == p.1) <;> rfl
 | succ d ih =>
  intro i j p hi hj hb
  obtain ⟨j, rfl⟩ : ∃ q, j = q + 1 := ⟨j - 1, by omega⟩
  have hs : Small (l.getD i T2.dflt).2.2 := hw _ (getD_mem' _ _ _ (by omega))
  rw [f_u81_6, decide_eq_true (by omega : (i : Int) < (l.length : Int)), cond_true, Int.toNat_natCast, ref42_inside_s k (by omega) _ p hb hs, ref42_inside_v k (by omega) _ p hb hs, if_pos ⟨by omega, by omega, rfl⟩, wrapS i (by omega), drop_cons' l i T2.dflt (by omega), scanS]
  generalize l.getD i T2.dflt = r at *
  by_cases h : r.2.1 = p.1
  ·rw [if_pos h, if_pos h]
   cases e : downS r p with
   | none => exact ih (i + 1) j p (by omega) (by omega) hb
   | some q => exact ih (i + 1) j q (by omega) (by omega) (PtB.down hs e)
  ·rw [if_neg h, if_neg h]
   exact ih (i + 1) j p (by omega) (by omega) hb
theorem fam_first_l (k : Nat) (hk : 2100 ≤ k) (W L : Int) (l : List Ro) (hl : l.length ≤ 512) (hw : Wl l) (M : List (Int × Int)) (p : Pt) (hb : PtB p) (z1 : Pt) (z2 : Bool) : ∀ (d i j : Nat) (y : Pt), i + d = l.length → d < j →
  ∃ y', f_u20_1 k p z1 z2 W L l M p.1 j l (l.length : Int) (i : Int) y false = match firstS (l.drop i) p with
   | some q => some (.inl (q, true))
   | none => some (.inr (y', false)) := by
 intro d
 induction d with
 | zero =>
  intro i j y hi hj
  obtain ⟨j, rfl⟩ : ∃ q, j = q + 1 := ⟨j - 1, by omega⟩
  refine ⟨y, ?_⟩
  rw [f_u20_1, decide_eq_false (by omega : ¬ (i : Int) < (l.length : Int)), cond_false, List.drop_of_length_le (by omega), firstS]
 | succ d ih =>
  intro i j y hi hj
  obtain ⟨j, rfl⟩ : ∃ q, j = q + 1 := ⟨j - 1, by omega⟩
  have hs : Small (l.getD i T2.dflt).2.2 := hw _ (getD_mem' _ _ _ (by omega))
  rw [f_u20_1, decide_eq_true (by omega : (i : Int) < (l.length : Int)), cond_true, if_pos ⟨by omega, by omega⟩, Int.toNat_natCast, wrapS i (by omega), drop_cons' l i T2.dflt (by omega), firstS]
  generalize l.getD i T2.dflt = r at *
  by_cases h : r.2.1 = p.1
  ·rw [show (r.2.1 == p.1) = true from beq_iff_eq.2 h, cond_true, if_pos h]
   have hf : f_u0 k p y false r = match downS r p with
     | some q => some (.inl (q, true))
     | none => some (.inr ((0, 0, 0), false)) := by
    unfold f_u0
    rw [fam_down_s k (by omega) r p hb hs, fam_down_v k (by omega) r p hb hs, Option.isSome_some, if_pos rfl]
    cases downS r p <;> rfl
   unfold vA_u0 vB_u0 v_u0
   rw [hf]
   cases e : downS r p with
   | some q => exact ⟨y, rfl⟩
   | none => exact ih (i + 1) j _ (by omega) (by omega)
  ·rw [show (r.2.1 == p.1) = false from beq_false_of_ne h, cond_false, if_pos rfl, if_neg h]
   exact ih (i + 1) j y (by omega) (by omega)
theorem fam_Find_8 (k : Nat) (hk : 2100 ≤ k) (W L : Int) (l : List Ro) (reg : Reg l W L) (M : List (Int × Int)) (z : Pt) : ∀ (t a : List Ro) (p : Pt) (j : Nat), l = a ++ t → firstS a p = none → PtB p → t.length < j →
  f_u6_8 k j z W L l M p = some (finishS l (scanS t p)) := by
 have hl := reg.num
 have hw := reg.wl
 have step : ∀ (p : Pt) (j : Nat), PtB p → f_u6_8 k (j + 1) z W L l M p = match firstS l p with
   | some q => f_u6_8 k j z W L l M q
   | none => some (finishS l p) := fun p j hb => by
  obtain ⟨y', h1⟩ := fam_first_l k hk W L l hl hw M p hb p false l.length 0 k p (by omega) (by omega)
  rw [List.drop_zero] at h1
  have h2 : f_u20 k p p false W L l M (v_u19 k W L l M p.1) = match firstS l p with
   | some q => some (.inl (q, true))
   | none => some (.inr (y', false)) := h1
  rw [f_u6_8]
  unfold vA_u20 vB_u20 v_u20
  rw [h2]
  cases e : firstS l p with
  | some q => rfl
  | none =>
   unfold finishS
   show (bif (p.1 == 0) then (if (p.1 == 0) = true then some (((0 : Int), ((0 : Int), (0 : Int))), (7 : Int)) else none) else (if (p.1 == 0) = false ∧ (f_u25 k W L l M p.1).isSome = true then (bif (false || !v_u25 k W L l M p.1) then some (((0 : Int), ((0 : Int), (0 : Int))), (7 : Int)) else some (p, (0 : Int))) else none)) = _
   by_cases h0 : p.1 = 0
   ·rw [show (p.1 == 0) = true from beq_iff_eq.2 h0, if_pos h0]; rfl
   ·rw [show (p.1 == 0) = false from beq_false_of_ne h0, if_neg h0, cond_false, fam_leaf_s k hk W L l M _ hl, fam_leaf_v k hk W L l M _ hl, if_pos ⟨rfl, rfl⟩]
    unfold leafS
    cases (l.any fun r => r.2.1 == p.1) <;> rfl
 intro t
 induction t with
 | nil =>
  intro a p j e hn hb hj
  obtain ⟨j, rfl⟩ : ∃ q, j = q + 1 := ⟨j - 1, by omega⟩
  rw [List.append_nil] at e
  rw [step p j hb, e, hn]
  rfl
 | cons r t ih =>
  intro a p j e hn hb hj
  rw [List.length_cons] at hj
  have e2 : l = (a ++ [r]) ++ t := by rw [e]; simp
  have hs : Small r.2.2 := hw r (by rw [e]; simp)
  rw [scanS]
  by_cases h : r.2.1 = p.1
  ·rw [if_pos h]
   cases ed : downS r p with
   | none =>
    refine ih (a ++ [r]) p j e2 ?_ hb (by omega)
    rw [firstS_append, hn, Option.none_or, firstS, if_pos h, ed]
    rfl
   | some q =>
    obtain ⟨j, rfl⟩ : ∃ q, j = q + 1 := ⟨j - 1, by omega⟩
    have hf : firstS l p = some q := by
     rw [e, firstS_append, hn, Option.none_or, firstS, if_pos h, ed]
    rw [step p j hb, hf]
    refine ih (a ++ [r]) q j e2 (firstS_none ?_) (PtB.down hs ed) (by omega)
    rw [downS_id ed]
    exact reg.ok.early a r t e
  ·rw [if_neg h]
   refine ih (a ++ [r]) p j e2 ?_ hb (by omega)
   rw [firstS_append, hn, Option.none_or, firstS, if_neg h]
   rfl
def findE (l : List Ro) (W L x y : Int) : Pt × Int := if onE l W L (0, x, y) ≠ 0 then ((0, 0, 0), onE l W L (0, x, y)) else finishS l (scanS l (0, x, y))
theorem onE_root {l : List Ro} {W L x y : Int} (h : onE l W L (0, x, y) = 0) : Reg l W L ∧ PtB (0, x, y) := by
 unfold onE at h
 by_cases h1 : errS l W L 0 = 0
 ·have h1' : ¬ (errS l W L ((0, x, y) : Pt).1 ≠ 0) := fun h' => h' h1
  rw [if_neg h1'] at h
  obtain ⟨reg, kn⟩ := errS_zero.1 h1
  obtain ⟨a0, a1, b0, b1⟩ := onS_zero.1 h
  have h2 := reg.w
  have h3 := reg.len
  have h4 : sizeS l W L 0 = (W, L) := by unfold sizeS; rw [if_pos rfl]
  have h4' : sizeS l W L ((0, x, y) : Pt).1 = (W, L) := h4
  rw [h4'] at a1 b1
  have a1 : x < W := a1
  have b1 : y < L := b1
  exact ⟨reg, a0, by show x ≤ 12000; omega, b0, by show y ≤ _; omega⟩
 ·have h1' : errS l W L ((0, x, y) : Pt).1 ≠ 0 := h1
  rw [if_pos h1'] at h; exact absurd h h1
theorem ref42_Find_s (k : Nat) (hk : 300000 ≤ k) (l : List Ro) (web : Int × Int) (x y : Int) : f_u81 k l web x y = some (findE l web.1 web.2 x y) := by
 unfold f_u81 findE
 rw [ref42_on_s k hk, ref42_on_v k hk, Option.isSome_some, if_pos rfl]
 by_cases h : onE l web.1 web.2 (0, x, y) = 0
 ·obtain ⟨reg, hb⟩ := onE_root h
  have hn := reg.num
  rw [show (onE l web.1 web.2 (0, x, y) != 0) = false by simp [h], cond_false, if_neg (fun h' : onE l web.1 web.2 (0, x, y) ≠ 0 => h' h)]
  exact ref42_Find_l k (by omega) l hn reg.wl _ l.length 0 k _ (by omega) (by omega) hb
 ·rw [bne_iff_ne.2 h, if_pos h]; rfl
theorem ref42_Find_v (k : Nat) (hk : 300000 ≤ k) (l : List Ro) (web : Int × Int) (x y : Int) : v_u81 k l web x y = findE l web.1 web.2 x y := by
 unfold v_u81; rw [ref42_Find_s k hk l web]; rfl
theorem fam_Find_s (k : Nat) (hk : 300000 ≤ k) (l : List Ro) (web : Int × Int) (x y : Int) : f_u6 k l web x y = some (findE l web.1 web.2 x y) := by
 obtain ⟨h1, h2⟩ := fam_open k hk l web
 unfold f_u6 vA_u15 vB_u15 v_u15 findE
 by_cases h : checkS l web.1 web.2 = 0
 ·obtain ⟨M, m1, m2, e⟩ := h2 h
  have reg := checkS_zero.1 h
  have hn := reg.num
  have hz : errS l web.1 web.2 0 = 0 := errS_zero.2 ⟨reg, .inl rfl⟩
  have ho : onE l web.1 web.2 (0, x, y) = onS l web.1 web.2 (0, x, y) := by
   unfold onE
   have h1' : ¬ (errS l web.1 web.2 ((0, x, y) : Pt).1 ≠ 0) := fun h' => h' hz
   rw [if_neg h1']
  have a := fam_on_s k (by omega) web.1 web.2 l M (0, x, y) m2 m1 (.inl rfl)
  have b := fam_on_v k (by omega) web.1 web.2 l M (0, x, y) m2 m1 (.inl rfl)
  rw [e]
  show (if (f_u26 k web.1 web.2 l M (0, x, y)).isSome = true then (bif (v_u26 k web.1 web.2 l M (0, x, y) != 0) then some (((0 : Int), ((0 : Int), (0 : Int))), v_u26 k web.1 web.2 l M (0, x, y)) else f_u6_8 k k (0, (0, 0)) web.1 web.2 l M (0, (x, y))) else none) = _
  rw [a, b, ← ho, Option.isSome_some, if_pos rfl]
  by_cases h3 : onE l web.1 web.2 (0, x, y) = 0
  ·obtain ⟨_, hb⟩ := onE_root h3
   rw [show (onE l web.1 web.2 (0, x, y) != 0) = false by simp [h3], cond_false, if_neg (fun h' : onE l web.1 web.2 (0, x, y) ≠ 0 => h' h3)]
   exact fam_Find_8 k (by omega) web.1 web.2 l reg M _ l [] _ k rfl rfl hb (by omega)
  ·rw [bne_iff_ne.2 h3, if_pos h3]; rfl
 ·have ho : onE l web.1 web.2 (0, x, y) = checkS l web.1 web.2 := by
   unfold onE errS
   rw [if_pos h]
   exact if_pos h
  rw [h1 h, ho, if_pos h]
  show (bif (checkS l web.1 web.2 != 0) then _ else _) = _
  rw [bne_iff_ne.2 h]; rfl
theorem fam_Find_v (k : Nat) (hk : 300000 ≤ k) (l : List Ro) (web : Int × Int) (x y : Int) : v_u6 k l web x y = findE l web.1 web.2 x y := by
 unfold v_u6; rw [fam_Find_s k hk l web]; rfl
end Go.AM
namespace Go.AM
open Go Go.Proofs Go.IntKind
set_option linter.unusedVariables false
noncomputable section
abbrev R_u58 : Type := T5.T
def res_u58 (r : R_u58) : AV := .agg (rvs (enc T5 r))
def bo_u58 (x_ : T3.T) (r : R_u58) : List (Nat × Blk) := []
def args_u58 (x_ : T3.T) : List AV := [.agg (rvs (enc T3 x_))]
def bin_u58 (x_ : T3.T) : List Blk := []
def f_u58 (k : Nat) (x_ : T3.T) : Option R_u58 :=
 some x_.2
def v_u58 (k : Nat) (x_ : T3.T) : R_u58 := (f_u58 k x_).getD (T5).dflt
def K_u58 (k : Nat) : Calld := ⟨fun g xs => match g with
 | _ => none, fun g xs bs => match g with
 | _ => none⟩
theorem of_u58 (k : Nat) (x_ : T3.T) (r : R_u58) (h : f_u58 k x_ = some r) : CC Tryz.prog 11 (args_u58 x_) (bin_u58 x_) (res_u58 r) (bo_u58 x_ r) := by
 refine CC.of (fn := Tryz.f11) (by kernel_rfl) (by kernel_rfl) (by kernel_rfl) (by kernel_rfl) ?_
 unfold f_u58 at h
 refine Ev.tree hm (R := Rt) (K := (K_u58 k)) (l := []) (C := []) (E := [.autoB [2] true []]) (n := 1000) (T := .leaf (res_u58 x_.2) (bo_u58 x_ x_.2)) (by kernel_rfl) ?_
 cases h; exact ⟨rfl, rfl⟩
theorem cc_u58 (k : Nat) (x_ : T3.T) (h : (f_u58 k x_).isSome = true) : CC Tryz.prog 11 (args_u58 x_) (bin_u58 x_) (res_u58 (v_u58 k x_)) (bo_u58 x_ (v_u58 k x_)) := by
 cases e : f_u58 k x_ with
 | none => rw [e] at h; cases h
 | some r => rw [show v_u58 k x_ = r by simp [v_u58, e]]; exact of_u58 k x_ r e

end
end Go.AM
namespace Go.AM
open Go Go.Proofs Go.IntKind
set_option linter.unusedVariables false
noncomputable section
abbrev R_u56 : Type := T3.T
def res_u56 (r : R_u56) : AV := .agg (rvs (enc T3 r))
def bo_u56  (r : R_u56) : List (Nat × Blk) := []
def args_u56  : List AV := []
def bin_u56  : List Blk := []
def f_u56 (k : Nat)  : Option R_u56 :=
 some (([(1, 0, 0, 10, true, [(99, 100, true)]), (2, 1, 2, 5, true, [(99, 50, true)])], (10, 100)))
def v_u56 (k : Nat)  : R_u56 := (f_u56 k ).getD (T3).dflt
def K_u56 (k : Nat) : Calld := ⟨fun g xs => match g with
 | _ => none, fun g xs bs => match g with
 | _ => none⟩
theorem of_u56 (k : Nat)  (r : R_u56) (h : f_u56 k  = some r) : CC Tryz.prog 29 (args_u56 ) (bin_u56 ) (res_u56 r) (bo_u56  r) := by
 refine CC.of (fn := Tryz.f29) (by kernel_rfl) (by kernel_rfl) (by kernel_rfl) (by kernel_rfl) ?_
 unfold f_u56 at h
 refine Ev.tree hm (R := Rt) (K := (K_u56 k)) (l := []) (C := []) (E := [.frz 0 true T3, .autoB [0] true []]) (n := 1000) (T := .leaf (res_u56 (([(1, 0, 0, 10, true, [(99, 100, true)]), (2, 1, 2, 5, true, [(99, 50, true)])], (10, 100)))) (bo_u56  (([(1, 0, 0, 10, true, [(99, 100, true)]), (2, 1, 2, 5, true, [(99, 50, true)])], (10, 100))))) (by kernel_rfl) ?_
 cases h; exact ⟨rfl, rfl⟩
theorem cc_u56 (k : Nat)  (h : (f_u56 k ).isSome = true) : CC Tryz.prog 29 (args_u56 ) (bin_u56 ) (res_u56 (v_u56 k )) (bo_u56  (v_u56 k )) := by
 cases e : f_u56 k  with
 | none => rw [e] at h; cases h
 | some r => rw [show v_u56 k  = r by simp [v_u56, e]]; exact of_u56 k  r e

end
end Go.AM
namespace Go.AM
open Go Go.Proofs Go.IntKind
set_option linter.unusedVariables false
noncomputable section
abbrev R_u53 : Type := Bool
def res_u53 (r : R_u53) : AV := .r (.v (.bool r))
def bo_u53  (r : R_u53) : List (Nat × Blk) := []
def args_u53  : List AV := []
def bin_u53  : List Blk := []
def f_u53 (k : Nat)  : Option R_u53 :=
 if ((f_u56 k ).isSome = true) then
 if ((f_u58 k (v_u56 k)).isSome = true) ∧ ((f_u10 k (v_u56 k).1 (v_u58 k (v_u56 k)) (2, 0, 0)).isSome = true) then
 if ((f_u58 k (v_u56 k)).isSome = true) ∧ ((f_u11 k (v_u56 k).1 (v_u58 k (v_u56 k)) (2, 0, 0)).isSome = true) then
 if ((f_u58 k (v_u56 k)).isSome = true) ∧ ((f_u5 k (v_u56 k).1 (v_u58 k (v_u56 k)) 2).isSome = true) then
 if ((f_u58 k (v_u56 k)).isSome = true) ∧ ((f_u8 k (v_u56 k).1 (v_u58 k (v_u56 k)) 1).isSome = true) then
 bif ((v_u10 k (v_u56 k).1 (v_u58 k (v_u56 k)) ((2 : Int), (0 : Int), (0 : Int))).2 != (0 : Int) || (v_u11 k (v_u56 k).1 (v_u58 k (v_u56 k)) ((2 : Int), (0 : Int), (0 : Int))).2 != (0 : Int) || (v_u5 k (v_u56 k).1 (v_u58 k (v_u56 k)) (2 : Int)).2 != (0 : Int) || (v_u8 k (v_u56 k).1 (v_u58 k (v_u56 k)) (1 : Int)).2 != (0 : Int)) then
 some false
 else
 bif (!eqT T4 (v_u10 k (v_u56 k).1 (v_u58 k (v_u56 k)) ((2 : Int), (0 : Int), (0 : Int))).1 ((1 : Int), (6 : Int), (99 : Int)) || (!eqT T4 (v_u11 k (v_u56 k).1 (v_u58 k (v_u56 k)) ((2 : Int), (0 : Int), (0 : Int))).1 ((0 : Int), (3 : Int), (0 : Int))) || (v_u8 k (v_u56 k).1 (v_u58 k (v_u56 k)) (1 : Int)).1 != (750 : Int)) then
 some false
 else
 if (((v_u5 k (v_u56 k).1 (v_u58 k (v_u56 k)) (2 : Int)).1.1 == (3 : Int) && (v_u5 k (v_u56 k).1 (v_u58 k (v_u56 k)) (2 : Int)).1.2.1 == (5 : Int) && (! (v_u5 k (v_u56 k).1 (v_u58 k (v_u56 k)) (2 : Int)).1.2.2.1) && (↑ (List.length (v_u5 k (v_u56 k).1 (v_u58 k (v_u56 k)) (2 : Int)).1.2.2.2) : Int) == (1 : Int)) = true → (0 : Int) ≤ (0 : Int)) ∧ (((v_u5 k (v_u56 k).1 (v_u58 k (v_u56 k)) (2 : Int)).1.1 == (3 : Int) && (v_u5 k (v_u56 k).1 (v_u58 k (v_u56 k)) (2 : Int)).1.2.1 == (5 : Int) && (! (v_u5 k (v_u56 k).1 (v_u58 k (v_u56 k)) (2 : Int)).1.2.2.1) && (↑ (List.length (v_u5 k (v_u56 k).1 (v_u58 k (v_u56 k)) (2 : Int)).1.2.2.2) : Int) == (1 : Int)) = true → (0 : Int) < (↑ (List.length (v_u5 k (v_u56 k).1 (v_u58 k (v_u56 k)) (2 : Int)).1.2.2.2) : Int)) then
 some ((v_u5 k (v_u56 k).1 (v_u58 k (v_u56 k)) 2).1.1 == 3 && (v_u5 k (v_u56 k).1 (v_u58 k (v_u56 k)) 2).1.2.1 == 5 && (! (v_u5 k (v_u56 k).1 (v_u58 k (v_u56 k)) 2).1.2.2.1) && (↑ (List.length (v_u5 k (v_u56 k).1 (v_u58 k (v_u56 k)) 2).1.2.2.2) : Int) == 1 && eqT T0 (List.getD (v_u5 k (v_u56 k).1 (v_u58 k (v_u56 k)) 2).1.2.2.2 (Int.toNat 0) T0.dflt) (0, 50, false))
 else none
 else none
 else none
 else none
 else none
 else none
def v_u53 (k : Nat)  : R_u53 := (f_u53 k ).getD false
def K_u53 (k : Nat) : Calld := ⟨fun g xs => match g with
 | 16 => match xs with
  | [_, _, _] => some [false, false, false]
  | _ => none
 | 10 => match xs with
  | [_, _, _] => some [false, false, false]
  | _ => none
 | 14 => match xs with
  | [_, _, _] => some [false, false, false]
  | _ => none
 | 23 => match xs with
  | [_, _, _] => some [false, false, false]
  | _ => none
 | 11 => match xs with
  | [_] => some [false]
  | _ => none
 | 29 => match xs with
  | [] => some []
  | _ => none
 | _ => none, fun g xs bs => match g with
 | 16 => match xs, bs with
  | [.r (.ro tl__ ql_), .agg qweb_, .r (.v (.int .i64 id_))], [] => (castL tl__ T2 ql_).bind fun l_ => (decS [] T5 qweb_).bind fun web_ => some (.one (res_u5 (v_u5 k l_ web_ id_), bo_u5 l_ web_ id_ (v_u5 k l_ web_ id_)))
  | _, _ => none
 | 10 => match xs, bs with
  | [.r (.ro tl__ ql_), .agg qweb_, .agg qp_], [] => (castL tl__ T2 ql_).bind fun l_ => (decS [] T5 qweb_).bind fun web_ => (decS [] T4 qp_).bind fun p_ => some (.one (res_u10 (v_u10 k l_ web_ p_), bo_u10 l_ web_ p_ (v_u10 k l_ web_ p_)))
  | _, _ => none
 | 14 => match xs, bs with
  | [.r (.ro tl__ ql_), .agg qweb_, .agg qp_], [] => (castL tl__ T2 ql_).bind fun l_ => (decS [] T5 qweb_).bind fun web_ => (decS [] T4 qp_).bind fun p_ => some (.one (res_u11 (v_u11 k l_ web_ p_), bo_u11 l_ web_ p_ (v_u11 k l_ web_ p_)))
  | _, _ => none
 | 23 => match xs, bs with
  | [.r (.ro tl__ ql_), .agg qweb_, .r (.v (.int .i64 id_))], [] => (castL tl__ T2 ql_).bind fun l_ => (decS [] T5 qweb_).bind fun web_ => some (.one (res_u8 (v_u8 k l_ web_ id_), bo_u8 l_ web_ id_ (v_u8 k l_ web_ id_)))
  | _, _ => none
 | 11 => match xs, bs with
  | [.agg qx_], [] => (decS [] T3 qx_).bind fun x_ => some (.one (res_u58 (v_u58 k x_), bo_u58 x_ (v_u58 k x_)))
  | _, _ => none
 | 29 => match xs, bs with
  | [], [] => some (.one (res_u56 (v_u56 k ), bo_u56  (v_u56 k )))
  | _, _ => none
 | _ => none⟩
theorem of_u53 (k : Nat)  (r : R_u53) (h : f_u53 k  = some r) : CC Tryz.prog 9 (args_u53 ) (bin_u53 ) (res_u53 r) (bo_u53  r) := by
 refine CC.of (fn := Tryz.f9) (by kernel_rfl) (by kernel_rfl) (by kernel_rfl) (by kernel_rfl) ?_
 unfold f_u53 at h
 refine Ev.tree hm (R := Rt) (K := (K_u53 k)) (l := []) (C := []) (E := [.autoB [0] true []]) (n := 1000) (T := .need [CC Tryz.prog 29 (args_u56 ) (bin_u56 ) (res_u56 (v_u56 k )) (bo_u56  (v_u56 k ))] (.need [CC Tryz.prog 11 (args_u58 (v_u56 k)) (bin_u58 (v_u56 k)) (res_u58 (v_u58 k (v_u56 k))) (bo_u58 (v_u56 k) (v_u58 k (v_u56 k))), CC Tryz.prog 10 (args_u10 (v_u56 k).1 (v_u58 k (v_u56 k)) (2, 0, 0)) (bin_u10 (v_u56 k).1 (v_u58 k (v_u56 k)) (2, 0, 0)) (res_u10 (v_u10 k (v_u56 k).1 (v_u58 k (v_u56 k)) (2, 0, 0))) (bo_u10 (v_u56 k).1 (v_u58 k (v_u56 k)) (2, 0, 0) (v_u10 k (v_u56 k).1 (v_u58 k (v_u56 k)) (2, 0, 0)))] (.need [CC Tryz.prog 11 (args_u58 (v_u56 k)) (bin_u58 (v_u56 k)) (res_u58 (v_u58 k (v_u56 k))) (bo_u58 (v_u56 k) (v_u58 k (v_u56 k))), CC Tryz.prog 14 (args_u11 (v_u56 k).1 (v_u58 k (v_u56 k)) (2, 0, 0)) (bin_u11 (v_u56 k).1 (v_u58 k (v_u56 k)) (2, 0, 0)) (res_u11 (v_u11 k (v_u56 k).1 (v_u58 k (v_u56 k)) (2, 0, 0))) (bo_u11 (v_u56 k).1 (v_u58 k (v_u56 k)) (2, 0, 0) (v_u11 k (v_u56 k).1 (v_u58 k (v_u56 k)) (2, 0, 0)))] (.need [CC Tryz.prog 11 (args_u58 (v_u56 k)) (bin_u58 (v_u56 k)) (res_u58 (v_u58 k (v_u56 k))) (bo_u58 (v_u56 k) (v_u58 k (v_u56 k))), CC Tryz.prog 16 (args_u5 (v_u56 k).1 (v_u58 k (v_u56 k)) 2) (bin_u5 (v_u56 k).1 (v_u58 k (v_u56 k)) 2) (res_u5 (v_u5 k (v_u56 k).1 (v_u58 k (v_u56 k)) 2)) (bo_u5 (v_u56 k).1 (v_u58 k (v_u56 k)) 2 (v_u5 k (v_u56 k).1 (v_u58 k (v_u56 k)) 2))] (.need [CC Tryz.prog 11 (args_u58 (v_u56 k)) (bin_u58 (v_u56 k)) (res_u58 (v_u58 k (v_u56 k))) (bo_u58 (v_u56 k) (v_u58 k (v_u56 k))), CC Tryz.prog 23 (args_u8 (v_u56 k).1 (v_u58 k (v_u56 k)) 1) (bin_u8 (v_u56 k).1 (v_u58 k (v_u56 k)) 1) (res_u8 (v_u8 k (v_u56 k).1 (v_u58 k (v_u56 k)) 1)) (bo_u8 (v_u56 k).1 (v_u58 k (v_u56 k)) 1 (v_u8 k (v_u56 k).1 (v_u58 k (v_u56 k)) 1))] (.test (((v_u10 k (v_u56 k).1 (v_u58 k (v_u56 k)) ((2 : Int), (0 : Int), (0 : Int))).2 != (0 : Int) || (v_u11 k (v_u56 k).1 (v_u58 k (v_u56 k)) ((2 : Int), (0 : Int), (0 : Int))).2 != (0 : Int) || (v_u5 k (v_u56 k).1 (v_u58 k (v_u56 k)) (2 : Int)).2 != (0 : Int) || (v_u8 k (v_u56 k).1 (v_u58 k (v_u56 k)) (1 : Int)).2 != (0 : Int))) (.leaf (res_u53 false) (bo_u53  false)) (.test ((!eqT T4 (v_u10 k (v_u56 k).1 (v_u58 k (v_u56 k)) ((2 : Int), (0 : Int), (0 : Int))).1 ((1 : Int), (6 : Int), (99 : Int)) || (!eqT T4 (v_u11 k (v_u56 k).1 (v_u58 k (v_u56 k)) ((2 : Int), (0 : Int), (0 : Int))).1 ((0 : Int), (3 : Int), (0 : Int))) || (v_u8 k (v_u56 k).1 (v_u58 k (v_u56 k)) (1 : Int)).1 != (750 : Int))) (.leaf (res_u53 false) (bo_u53  false)) (.need [((v_u5 k (v_u56 k).1 (v_u58 k (v_u56 k)) (2 : Int)).1.1 == (3 : Int) && (v_u5 k (v_u56 k).1 (v_u58 k (v_u56 k)) (2 : Int)).1.2.1 == (5 : Int) && (! (v_u5 k (v_u56 k).1 (v_u58 k (v_u56 k)) (2 : Int)).1.2.2.1) && (↑ (List.length (v_u5 k (v_u56 k).1 (v_u58 k (v_u56 k)) (2 : Int)).1.2.2.2) : Int) == (1 : Int)) = true → (0 : Int) ≤ (0 : Int), ((v_u5 k (v_u56 k).1 (v_u58 k (v_u56 k)) (2 : Int)).1.1 == (3 : Int) && (v_u5 k (v_u56 k).1 (v_u58 k (v_u56 k)) (2 : Int)).1.2.1 == (5 : Int) && (! (v_u5 k (v_u56 k).1 (v_u58 k (v_u56 k)) (2 : Int)).1.2.2.1) && (↑ (List.length (v_u5 k (v_u56 k).1 (v_u58 k (v_u56 k)) (2 : Int)).1.2.2.2) : Int) == (1 : Int)) = true → (0 : Int) < (↑ (List.length (v_u5 k (v_u56 k).1 (v_u58 k (v_u56 k)) (2 : Int)).1.2.2.2) : Int)] (.leaf (res_u53 ((v_u5 k (v_u56 k).1 (v_u58 k (v_u56 k)) 2).1.1 == 3 && (v_u5 k (v_u56 k).1 (v_u58 k (v_u56 k)) 2).1.2.1 == 5 && (! (v_u5 k (v_u56 k).1 (v_u58 k (v_u56 k)) 2).1.2.2.1) && (↑ (List.length (v_u5 k (v_u56 k).1 (v_u58 k (v_u56 k)) 2).1.2.2.2) : Int) == 1 && eqT T0 (List.getD (v_u5 k (v_u56 k).1 (v_u58 k (v_u56 k)) 2).1.2.2.2 (Int.toNat 0) T0.dflt) (0, 50, false))) (bo_u53  ((v_u5 k (v_u56 k).1 (v_u58 k (v_u56 k)) 2).1.1 == 3 && (v_u5 k (v_u56 k).1 (v_u58 k (v_u56 k)) 2).1.2.1 == 5 && (! (v_u5 k (v_u56 k).1 (v_u58 k (v_u56 k)) 2).1.2.2.1) && (↑ (List.length (v_u5 k (v_u56 k).1 (v_u58 k (v_u56 k)) 2).1.2.2.2) : Int) == 1 && eqT T0 (List.getD (v_u5 k (v_u56 k).1 (v_u58 k (v_u56 k)) 2).1.2.2.2 (Int.toNat 0) T0.dflt) (0, 50, false)))))))))))) (by kernel_rfl) ?_
 by_cases q : ((f_u56 k ).isSome = true)
 ·rw [if_pos q] at h
  refine ⟨(conjC (cc_u56 k  q) conj0), ?_⟩
  by_cases q : ((f_u58 k (v_u56 k)).isSome = true) ∧ ((f_u10 k (v_u56 k).1 (v_u58 k (v_u56 k)) (2, 0, 0)).isSome = true)
  ·rw [if_pos q] at h
   refine ⟨(conjC (cc_u58 k (v_u56 k) q.1) (conjC (cc_u10 k (v_u56 k).1 (v_u58 k (v_u56 k)) (2, 0, 0) q.2) conj0)), ?_⟩
   by_cases q : ((f_u58 k (v_u56 k)).isSome = true) ∧ ((f_u11 k (v_u56 k).1 (v_u58 k (v_u56 k)) (2, 0, 0)).isSome = true)
   ·rw [if_pos q] at h
    refine ⟨(conjC (cc_u58 k (v_u56 k) q.1) (conjC (cc_u11 k (v_u56 k).1 (v_u58 k (v_u56 k)) (2, 0, 0) q.2) conj0)), ?_⟩
    by_cases q : ((f_u58 k (v_u56 k)).isSome = true) ∧ ((f_u5 k (v_u56 k).1 (v_u58 k (v_u56 k)) 2).isSome = true)
    ·rw [if_pos q] at h
     refine ⟨(conjC (cc_u58 k (v_u56 k) q.1) (conjC (cc_u5 k (v_u56 k).1 (v_u58 k (v_u56 k)) 2 q.2) conj0)), ?_⟩
     by_cases q : ((f_u58 k (v_u56 k)).isSome = true) ∧ ((f_u8 k (v_u56 k).1 (v_u58 k (v_u56 k)) 1).isSome = true)
     ·rw [if_pos q] at h
      refine ⟨(conjC (cc_u58 k (v_u56 k) q.1) (conjC (cc_u8 k (v_u56 k).1 (v_u58 k (v_u56 k)) 1 q.2) conj0)), ?_⟩
      refine ⟨fun c => ?_, fun c => ?_⟩
      ·rw [cond_t (show (((v_u10 k (v_u56 k).1 (v_u58 k (v_u56 k)) ((2 : Int), (0 : Int), (0 : Int))).2 != (0 : Int) || (v_u11 k (v_u56 k).1 (v_u58 k (v_u56 k)) ((2 : Int), (0 : Int), (0 : Int))).2 != (0 : Int) || (v_u5 k (v_u56 k).1 (v_u58 k (v_u56 k)) (2 : Int)).2 != (0 : Int) || (v_u8 k (v_u56 k).1 (v_u58 k (v_u56 k)) (1 : Int)).2 != (0 : Int))) = true from c)] at h
       cases h; exact ⟨rfl, rfl⟩
      ·rw [cond_f (show (((v_u10 k (v_u56 k).1 (v_u58 k (v_u56 k)) ((2 : Int), (0 : Int), (0 : Int))).2 != (0 : Int) || (v_u11 k (v_u56 k).1 (v_u58 k (v_u56 k)) ((2 : Int), (0 : Int), (0 : Int))).2 != (0 : Int) || (v_u5 k (v_u56 k).1 (v_u58 k (v_u56 k)) (2 : Int)).2 != (0 : Int) || (v_u8 k (v_u56 k).1 (v_u58 k (v_u56 k)) (1 : Int)).2 != (0 : Int))) = false from c)] at h
       refine ⟨fun c => ?_, fun c => ?_⟩
       ·rw [cond_t (show ((!eqT T4 (v_u10 k (v_u56 k).1 (v_u58 k (v_u56 k)) ((2 : Int), (0 : Int), (0 : Int))).1 ((1 : Int), (6 : Int), (99 : Int)) || (!eqT T4 (v_u11 k (v_u56 k).1 (v_u58 k (v_u56 k)) ((2 : Int), (0 : Int), (0 : Int))).1 ((0 : Int), (3 : Int), (0 : Int))) || (v_u8 k (v_u56 k).1 (v_u58 k (v_u56 k)) (1 : Int)).1 != (750 : Int))) = true from c)] at h
        cases h; exact ⟨rfl, rfl⟩
       ·rw [cond_f (show ((!eqT T4 (v_u10 k (v_u56 k).1 (v_u58 k (v_u56 k)) ((2 : Int), (0 : Int), (0 : Int))).1 ((1 : Int), (6 : Int), (99 : Int)) || (!eqT T4 (v_u11 k (v_u56 k).1 (v_u58 k (v_u56 k)) ((2 : Int), (0 : Int), (0 : Int))).1 ((0 : Int), (3 : Int), (0 : Int))) || (v_u8 k (v_u56 k).1 (v_u58 k (v_u56 k)) (1 : Int)).1 != (750 : Int))) = false from c)] at h
        by_cases q : (((v_u5 k (v_u56 k).1 (v_u58 k (v_u56 k)) (2 : Int)).1.1 == (3 : Int) && (v_u5 k (v_u56 k).1 (v_u58 k (v_u56 k)) (2 : Int)).1.2.1 == (5 : Int) && (! (v_u5 k (v_u56 k).1 (v_u58 k (v_u56 k)) (2 : Int)).1.2.2.1) && (↑ (List.length (v_u5 k (v_u56 k).1 (v_u58 k (v_u56 k)) (2 : Int)).1.2.2.2) : Int) == (1 : Int)) = true → (0 : Int) ≤ (0 : Int)) ∧ (((v_u5 k (v_u56 k).1 (v_u58 k (v_u56 k)) (2 : Int)).1.1 == (3 : Int) && (v_u5 k (v_u56 k).1 (v_u58 k (v_u56 k)) (2 : Int)).1.2.1 == (5 : Int) && (! (v_u5 k (v_u56 k).1 (v_u58 k (v_u56 k)) (2 : Int)).1.2.2.1) && (↑ (List.length (v_u5 k (v_u56 k).1 (v_u58 k (v_u56 k)) (2 : Int)).1.2.2.2) : Int) == (1 : Int)) = true → (0 : Int) < (↑ (List.length (v_u5 k (v_u56 k).1 (v_u58 k (v_u56 k)) (2 : Int)).1.2.2.2) : Int))
        ·rw [if_pos q] at h
         refine ⟨(conjC q.1 (conjC q.2 conj0)), ?_⟩
         cases h; exact ⟨rfl, rfl⟩
        ·rw [if_neg q] at h; cases h
     ·rw [if_neg q] at h; cases h
    ·rw [if_neg q] at h; cases h
   ·rw [if_neg q] at h; cases h
  ·rw [if_neg q] at h; cases h
 ·rw [if_neg q] at h; cases h
theorem cc_u53 (k : Nat)  (h : (f_u53 k ).isSome = true) : CC Tryz.prog 9 (args_u53 ) (bin_u53 ) (res_u53 (v_u53 k )) (bo_u53  (v_u53 k )) := by
 cases e : f_u53 k  with
 | none => rw [e] at h; cases h
 | some r => rw [show v_u53 k  = r by simp [v_u53, e]]; exact of_u53 k  r e

end
end Go.AM
namespace Go.AM
open Go Go.Proofs Go.IntKind
set_option linter.unusedVariables false
noncomputable section
end
end Go.AM
namespace Go.AM
open Go Go.Proofs Go.IntKind
set_option linter.unusedVariables false
noncomputable section
abbrev R_u55 : Type := Bool
def res_u55 (r : R_u55) : AV := .r (.v (.bool r))
def bo_u55 (x_ : T3.T) (r : R_u55) : List (Nat × Blk) := []
def args_u55 (x_ : T3.T) : List AV := [.agg (rvs (enc T3 x_))]
def bin_u55 (x_ : T3.T) : List Blk := []
def st_u55_4 (y0 : List (T2).T) (y1 : Int) (y2 : Int) : St := ⟨mkS 22 [(10, .r (.ro T2 y0)), (11, .r (.v (.int .i64 y1))), (12, .r (.v (.int .i64 y2)))], []⟩
def f_u55_4 (k : Nat) : Nat → List (T2).T → Int → Int → Option R_u55
 | 0, _, _, _ => none
 | j + 1, y0, y1, y2 =>
 bif (decide (y2 < y1)) then
 if (0 ≤ y2) ∧ (y2 < (↑y0.length : Int)) then
 bif (decide ((↑ (List.length (y0.getD y2.toNat T2.dflt).2.2.2.2.2) : Int) > (20 : Int))) then
 some true
 else
 f_u55_4 k j y0 y1 ((i64.wrap (y2 + 1)))
 else none
 else
 some false
def f_u55 (k : Nat) (x_ : T3.T) : Option R_u55 :=
 bif (decide ((↑ (List.length x_.1) : Int) > (30 : Int))) then
 some true
 else
 f_u55_4 k k x_.1 ((↑ (List.length x_.1) : Int)) 0
def v_u55 (k : Nat) (x_ : T3.T) : R_u55 := (f_u55 k x_).getD false
def K_u55 (k : Nat) : Calld := ⟨fun g xs => match g with
 | _ => none, fun g xs bs => match g with
 | _ => none⟩
theorem ev_u55 (k : Nat) (x_ : T3.T) : ∀ j, (∀ (y0 : List (T2).T) (y1 : Int) (y2 : Int) (r : R_u55), f_u55_4 k j y0 y1 y2 = some r → Ev Tryz.prog Tryz.f8 0 (placeAt Tryz.f8 4) (st_u55_4 y0 y1 y2) (res_u55 r) (bo_u55 x_ r))
 | 0 => by
  intros; rename_i h; simp [f_u55_4] at h
 | j + 1 => by
  have ih := ev_u55 k x_ j
  ·intro y0 y1 y2 r h
   rw [f_u55_4] at h
   refine Ev.tree hm (R := Rt) (K := (K_u55 k)) (l := []) (C := [(4, [.autoB [10, 11, 12] false []])]) (E := [.autoB [2] true []]) (n := 1000) (T := .test ((decide (y2 < y1))) (.need [0 ≤ y2, y2 < (↑y0.length : Int)] (.test ((decide ((↑ (List.length (y0.getD y2.toNat T2.dflt).2.2.2.2.2) : Int) > (20 : Int)))) (.leaf (res_u55 true) (bo_u55 x_ true)) (.cut 4 (placeAt Tryz.f8 4) (st_u55_4 y0 y1 ((i64.wrap (y2 + 1))))))) (.leaf (res_u55 false) (bo_u55 x_ false))) (by kernel_rfl) ?_
   refine ⟨fun c => ?_, fun c => ?_⟩
   ·rw [cond_t (show ((decide (y2 < y1))) = true from c)] at h
    by_cases q : (0 ≤ y2) ∧ (y2 < (↑y0.length : Int))
    ·rw [if_pos q] at h
     refine ⟨(conjC q.1 (conjC q.2 conj0)), ?_⟩
     refine ⟨fun c => ?_, fun c => ?_⟩
     ·rw [cond_t (show ((decide ((↑ (List.length (y0.getD y2.toNat T2.dflt).2.2.2.2.2) : Int) > (20 : Int)))) = true from c)] at h
      cases h; exact ⟨rfl, rfl⟩
     ·rw [cond_f (show ((decide ((↑ (List.length (y0.getD y2.toNat T2.dflt).2.2.2.2.2) : Int) > (20 : Int)))) = false from c)] at h
      exact ih y0 y1 ((i64.wrap (y2 + 1))) _ h
    ·rw [if_neg q] at h; cases h
   ·rw [cond_f (show ((decide (y2 < y1))) = false from c)] at h
    cases h; exact ⟨rfl, rfl⟩
theorem of_u55 (k : Nat) (x_ : T3.T) (r : R_u55) (h : f_u55 k x_ = some r) : CC Tryz.prog 8 (args_u55 x_) (bin_u55 x_) (res_u55 r) (bo_u55 x_ r) := by
 refine CC.of (fn := Tryz.f8) (by kernel_rfl) (by kernel_rfl) (by kernel_rfl) (by kernel_rfl) ?_
 unfold f_u55 at h
 refine Ev.tree hm (R := Rt) (K := (K_u55 k)) (l := []) (C := [(4, [.autoB [10, 11, 12] false []])]) (E := [.autoB [2] true []]) (n := 1000) (T := .test ((decide ((↑ (List.length x_.1) : Int) > (30 : Int)))) (.leaf (res_u55 true) (bo_u55 x_ true)) (.cut 4 (placeAt Tryz.f8 4) (st_u55_4 x_.1 ((↑ (List.length x_.1) : Int)) 0))) (by kernel_rfl) ?_
 refine ⟨fun c => ?_, fun c => ?_⟩
 ·rw [cond_t (show ((decide ((↑ (List.length x_.1) : Int) > (30 : Int)))) = true from c)] at h
  cases h; exact ⟨rfl, rfl⟩
 ·rw [cond_f (show ((decide ((↑ (List.length x_.1) : Int) > (30 : Int)))) = false from c)] at h
  exact (ev_u55 k x_ k) x_.1 ((↑ (List.length x_.1) : Int)) 0 _ h
theorem cc_u55 (k : Nat) (x_ : T3.T) (h : (f_u55 k x_).isSome = true) : CC Tryz.prog 8 (args_u55 x_) (bin_u55 x_) (res_u55 (v_u55 k x_)) (bo_u55 x_ (v_u55 k x_)) := by
 cases e : f_u55 k x_ with
 | none => rw [e] at h; cases h
 | some r => rw [show v_u55 k x_ = r by simp [v_u55, e]]; exact of_u55 k x_ r e

end
end Go.AM
namespace Go.AM
open Go Go.Proofs Go.IntKind
set_option linter.unusedVariables false
noncomputable section
abbrev R_u57 : Type := T6.T
def res_u57 (r : R_u57) : AV := .agg (rvs (enc T6 r))
def bo_u57 (x_ : T3.T) (r : R_u57) : List (Nat × Blk) := []
def args_u57 (x_ : T3.T) : List AV := [.agg (rvs (enc T3 x_))]
def bin_u57 (x_ : T3.T) : List Blk := []
def f_u57 (k : Nat) (x_ : T3.T) : Option R_u57 :=
 some x_.2
def v_u57 (k : Nat) (x_ : T3.T) : R_u57 := (f_u57 k x_).getD (T6).dflt
def K_u57 (k : Nat) : Calld := ⟨fun g xs => match g with
 | _ => none, fun g xs bs => match g with
 | _ => none⟩
theorem of_u57 (k : Nat) (x_ : T3.T) (r : R_u57) (h : f_u57 k x_ = some r) : CC Tryz.prog 13 (args_u57 x_) (bin_u57 x_) (res_u57 r) (bo_u57 x_ r) := by
 refine CC.of (fn := Tryz.f13) (by kernel_rfl) (by kernel_rfl) (by kernel_rfl) (by kernel_rfl) ?_
 unfold f_u57 at h
 refine Ev.tree hm (R := Rt) (K := (K_u57 k)) (l := []) (C := []) (E := [.autoB [2] true []]) (n := 1000) (T := .leaf (res_u57 x_.2) (bo_u57 x_ x_.2)) (by kernel_rfl) ?_
 cases h; exact ⟨rfl, rfl⟩
theorem cc_u57 (k : Nat) (x_ : T3.T) (h : (f_u57 k x_).isSome = true) : CC Tryz.prog 13 (args_u57 x_) (bin_u57 x_) (res_u57 (v_u57 k x_)) (bo_u57 x_ (v_u57 k x_)) := by
 cases e : f_u57 k x_ with
 | none => rw [e] at h; cases h
 | some r => rw [show v_u57 k x_ = r by simp [v_u57, e]]; exact of_u57 k x_ r e

end
end Go.AM
namespace Go.AM
open Go Go.Proofs Go.IntKind
set_option linter.unusedVariables false
noncomputable section
end
end Go.AM
namespace Go.AM
open Go Go.Proofs Go.IntKind
set_option linter.unusedVariables false
noncomputable section
end
end Go.AM
namespace Go.AM
open Go Go.Proofs Go.IntKind
set_option linter.unusedVariables false
noncomputable section
abbrev R_u50 : Type := Bool
def res_u50 (r : R_u50) : AV := .r (.v (.bool r))
def bo_u50 (x_ : T3.T) (across_ : Int) (along_ : Int) (r : R_u50) : List (Nat × Blk) := []
def args_u50 (x_ : T3.T) (across_ : Int) (along_ : Int) : List AV := [.agg (rvs (enc T3 x_)), .r (.v (.int .i64 across_)), .r (.v (.int .i64 along_))]
def bin_u50 (x_ : T3.T) (across_ : Int) (along_ : Int) : List Blk := []
def f_u50 (k : Nat) (x_ : T3.T) (across_ : Int) (along_ : Int) : Option R_u50 :=
 if ((f_u55 k x_).isSome = true) then
 bif (v_u55 k x_) then
 if ((f_u53 k ).isSome = true) then
 some (v_u53 k)
 else none
 else
 if ((f_u58 k x_).isSome = true) ∧ ((f_u6 k x_.1 (v_u58 k x_) across_ along_).isSome = true) then
 if ((f_u57 k x_).isSome = true) ∧ ((f_u81 k x_.1 (v_u57 k x_) across_ along_).isSome = true) then
 bif (eqT T4 (v_u6 k x_.1 (v_u58 k x_) across_ along_).1 (v_u81 k x_.1 (v_u57 k x_) across_ along_).1 && (v_u6 k x_.1 (v_u58 k x_) across_ along_).2 == (v_u81 k x_.1 (v_u57 k x_) across_ along_).2) then
 if ((eqT T4 (v_u6 k x_.1 (v_u58 k x_) across_ along_).1 (v_u81 k x_.1 (v_u57 k x_) across_ along_).1 && (v_u6 k x_.1 (v_u58 k x_) across_ along_).2 == (v_u81 k x_.1 (v_u57 k x_) across_ along_).2) = true) ∧ ((f_u53 k ).isSome = true) then
 some (true && v_u53 k)
 else none
 else
 if ((eqT T4 (v_u6 k x_.1 (v_u58 k x_) across_ along_).1 (v_u81 k x_.1 (v_u57 k x_) across_ along_).1 && (v_u6 k x_.1 (v_u58 k x_) across_ along_).2 == (v_u81 k x_.1 (v_u57 k x_) across_ along_).2) = false) then
 some false
 else none
 else none
 else none
 else none
def K_u50 (k : Nat) : Calld := ⟨fun g xs => match g with
 | 28 => match xs with
  | [_, _, _, _] => some [false, false, false, false]
  | _ => none
 | 27 => match xs with
  | [_, _, _, _] => some [false, false, false, false]
  | _ => none
 | 8 => match xs with
  | [_] => some [false]
  | _ => none
 | 11 => match xs with
  | [_] => some [false]
  | _ => none
 | 9 => match xs with
  | [] => some []
  | _ => none
 | 13 => match xs with
  | [_] => some [false]
  | _ => none
 | _ => none, fun g xs bs => match g with
 | 28 => match xs, bs with
  | [.r (.ro tl__ ql_), .agg qweb_, .r (.v (.int .i64 across_)), .r (.v (.int .i64 along_))], [] => (castL tl__ T2 ql_).bind fun l_ => (decS [] T6 qweb_).bind fun web_ => some (.one (res_u81 (v_u81 k l_ web_ across_ along_), bo_u81 l_ web_ across_ along_ (v_u81 k l_ web_ across_ along_)))
  | _, _ => none
 | 27 => match xs, bs with
  | [.r (.ro tl__ ql_), .agg qweb_, .r (.v (.int .i64 across_)), .r (.v (.int .i64 along_))], [] => (castL tl__ T2 ql_).bind fun l_ => (decS [] T5 qweb_).bind fun web_ => some (.one (res_u6 (v_u6 k l_ web_ across_ along_), bo_u6 l_ web_ across_ along_ (v_u6 k l_ web_ across_ along_)))
  | _, _ => none
 | 8 => match xs, bs with
  | [.agg qx_], [] => (decS [] T3 qx_).bind fun x_ => some (.one (res_u55 (v_u55 k x_), bo_u55 x_ (v_u55 k x_)))
  | _, _ => none
 | 11 => match xs, bs with
  | [.agg qx_], [] => (decS [] T3 qx_).bind fun x_ => some (.one (res_u58 (v_u58 k x_), bo_u58 x_ (v_u58 k x_)))
  | _, _ => none
 | 9 => match xs, bs with
  | [], [] => some (.one (res_u53 (v_u53 k ), bo_u53  (v_u53 k )))
  | _, _ => none
 | 13 => match xs, bs with
  | [.agg qx_], [] => (decS [] T3 qx_).bind fun x_ => some (.one (res_u57 (v_u57 k x_), bo_u57 x_ (v_u57 k x_)))
  | _, _ => none
 | _ => none⟩
theorem of_u50 (k : Nat) (x_ : T3.T) (across_ : Int) (along_ : Int) (r : R_u50) (h : f_u50 k x_ across_ along_ = some r) : CC Tryz.prog 7 (args_u50 x_ across_ along_) (bin_u50 x_ across_ along_) (res_u50 r) (bo_u50 x_ across_ along_ r) := by
 refine CC.of (fn := Tryz.f7) (by kernel_rfl) (by kernel_rfl) (by kernel_rfl) (by kernel_rfl) ?_
 unfold f_u50 at h
 refine Ev.tree hm (R := Rt) (K := (K_u50 k)) (l := []) (C := []) (E := [.autoB [6] true []]) (n := 1000) (T := .need [CC Tryz.prog 8 (args_u55 x_) (bin_u55 x_) (res_u55 (v_u55 k x_)) (bo_u55 x_ (v_u55 k x_))] (.test ((v_u55 k x_)) (.need [CC Tryz.prog 9 (args_u53 ) (bin_u53 ) (res_u53 (v_u53 k )) (bo_u53  (v_u53 k ))] (.leaf (res_u50 (v_u53 k)) (bo_u50 x_ across_ along_ (v_u53 k)))) (.need [CC Tryz.prog 11 (args_u58 x_) (bin_u58 x_) (res_u58 (v_u58 k x_)) (bo_u58 x_ (v_u58 k x_)), CC Tryz.prog 27 (args_u6 x_.1 (v_u58 k x_) across_ along_) (bin_u6 x_.1 (v_u58 k x_) across_ along_) (res_u6 (v_u6 k x_.1 (v_u58 k x_) across_ along_)) (bo_u6 x_.1 (v_u58 k x_) across_ along_ (v_u6 k x_.1 (v_u58 k x_) across_ along_))] (.need [CC Tryz.prog 13 (args_u57 x_) (bin_u57 x_) (res_u57 (v_u57 k x_)) (bo_u57 x_ (v_u57 k x_)), CC Tryz.prog 28 (args_u81 x_.1 (v_u57 k x_) across_ along_) (bin_u81 x_.1 (v_u57 k x_) across_ along_) (res_u81 (v_u81 k x_.1 (v_u57 k x_) across_ along_)) (bo_u81 x_.1 (v_u57 k x_) across_ along_ (v_u81 k x_.1 (v_u57 k x_) across_ along_))] (.test ((eqT T4 (v_u6 k x_.1 (v_u58 k x_) across_ along_).1 (v_u81 k x_.1 (v_u57 k x_) across_ along_).1 && (v_u6 k x_.1 (v_u58 k x_) across_ along_).2 == (v_u81 k x_.1 (v_u57 k x_) across_ along_).2)) (.need [(eqT T4 (v_u6 k x_.1 (v_u58 k x_) across_ along_).1 (v_u81 k x_.1 (v_u57 k x_) across_ along_).1 && (v_u6 k x_.1 (v_u58 k x_) across_ along_).2 == (v_u81 k x_.1 (v_u57 k x_) across_ along_).2) = true, CC Tryz.prog 9 (args_u53 ) (bin_u53 ) (res_u53 (v_u53 k )) (bo_u53  (v_u53 k ))] (.leaf (res_u50 (true && v_u53 k)) (bo_u50 x_ across_ along_ (true && v_u53 k)))) (.need [(eqT T4 (v_u6 k x_.1 (v_u58 k x_) across_ along_).1 (v_u81 k x_.1 (v_u57 k x_) across_ along_).1 && (v_u6 k x_.1 (v_u58 k x_) across_ along_).2 == (v_u81 k x_.1 (v_u57 k x_) across_ along_).2) = false] (.leaf (res_u50 false) (bo_u50 x_ across_ along_ false)))))))) (by kernel_rfl) ?_
 by_cases q : ((f_u55 k x_).isSome = true)
 ·rw [if_pos q] at h
  refine ⟨(conjC (cc_u55 k x_ q) conj0), ?_⟩
  refine ⟨fun c => ?_, fun c => ?_⟩
  ·rw [cond_t (show ((v_u55 k x_)) = true from c)] at h
   by_cases q : ((f_u53 k ).isSome = true)
   ·rw [if_pos q] at h
    refine ⟨(conjC (cc_u53 k  q) conj0), ?_⟩
    cases h; exact ⟨rfl, rfl⟩
   ·rw [if_neg q] at h; cases h
  ·rw [cond_f (show ((v_u55 k x_)) = false from c)] at h
   by_cases q : ((f_u58 k x_).isSome = true) ∧ ((f_u6 k x_.1 (v_u58 k x_) across_ along_).isSome = true)
   ·rw [if_pos q] at h
    refine ⟨(conjC (cc_u58 k x_ q.1) (conjC (cc_u6 k x_.1 (v_u58 k x_) across_ along_ q.2) conj0)), ?_⟩
    by_cases q : ((f_u57 k x_).isSome = true) ∧ ((f_u81 k x_.1 (v_u57 k x_) across_ along_).isSome = true)
    ·rw [if_pos q] at h
     refine ⟨(conjC (cc_u57 k x_ q.1) (conjC (cc_u81 k x_.1 (v_u57 k x_) across_ along_ q.2) conj0)), ?_⟩
     refine ⟨fun c => ?_, fun c => ?_⟩
     ·rw [cond_t (show ((eqT T4 (v_u6 k x_.1 (v_u58 k x_) across_ along_).1 (v_u81 k x_.1 (v_u57 k x_) across_ along_).1 && (v_u6 k x_.1 (v_u58 k x_) across_ along_).2 == (v_u81 k x_.1 (v_u57 k x_) across_ along_).2)) = true from c)] at h
      by_cases q : ((eqT T4 (v_u6 k x_.1 (v_u58 k x_) across_ along_).1 (v_u81 k x_.1 (v_u57 k x_) across_ along_).1 && (v_u6 k x_.1 (v_u58 k x_) across_ along_).2 == (v_u81 k x_.1 (v_u57 k x_) across_ along_).2) = true) ∧ ((f_u53 k ).isSome = true)
      ·rw [if_pos q] at h
       refine ⟨(conjC q.1 (conjC (cc_u53 k  q.2) conj0)), ?_⟩
       cases h; exact ⟨rfl, rfl⟩
      ·rw [if_neg q] at h; cases h
     ·rw [cond_f (show ((eqT T4 (v_u6 k x_.1 (v_u58 k x_) across_ along_).1 (v_u81 k x_.1 (v_u57 k x_) across_ along_).1 && (v_u6 k x_.1 (v_u58 k x_) across_ along_).2 == (v_u81 k x_.1 (v_u57 k x_) across_ along_).2)) = false from c)] at h
      by_cases q : ((eqT T4 (v_u6 k x_.1 (v_u58 k x_) across_ along_).1 (v_u81 k x_.1 (v_u57 k x_) across_ along_).1 && (v_u6 k x_.1 (v_u58 k x_) across_ along_).2 == (v_u81 k x_.1 (v_u57 k x_) across_ along_).2) = false)
      ·rw [if_pos q] at h
       refine ⟨(conjC q conj0), ?_⟩
       cases h; exact ⟨rfl, rfl⟩
      ·rw [if_neg q] at h; cases h
    ·rw [if_neg q] at h; cases h
   ·rw [if_neg q] at h; cases h
 ·rw [if_neg q] at h; cases h
end
end Go.AM
namespace Go.AM
open Go Go.Proofs Go.IntKind
set_option linter.unusedVariables false
noncomputable section
end
end Go.AM
namespace Go.AM
open Go Go.Proofs Go.IntKind
set_option linter.unusedVariables false
noncomputable section
end
end Go.AM
namespace Go.AM
open Go Go.Proofs Go.IntKind

def sm1 : Ro := (1, 0, 0, 10, true, [(99, 100, true)])
def sm2 : Ro := (2, 1, 2, 5, true, [(99, 50, true)])
def sm : List Ro := [sm1, sm2]
theorem single_one (r : Rn) (h : good r) (hc : chk [r] = 0) (hn : Nr (-1) [spn r]) : singleS [r] = true := by
 have e : nf ([r].map spn) = [spn r] := nf_self (spn_in (m := [r]) ⟨h, trivial⟩) hn
 unfold singleS
 rw [e, hc]
 have := h.lohi
 show (decide ((0 : Int) = 0) && ((hi r + 1 - lo r + 0) == r.2.1 + 0)) = true
 rw [beq_iff_eq.2 (by omega)]; rfl
theorem sm_reg : Reg sm 10 100 := by
 have h1 : singleS [(99, 100, true)] = true := single_one _ (by decide) (by decide) ⟨by decide, by decide, trivial⟩
 have h2 : singleS [(99, 50, true)] = true := single_one _ (by decide) (by decide) ⟨by decide, by decide, trivial⟩
 refine ⟨by decide, by decide, by decide, ?_⟩
 have o1 : Okp 10 100 ([] ++ [sm1]) := .snoc [] sm1 .nil ⟨by decide, by decide, .inl rfl, ⟨by decide, by decide, by decide, chk_zero.1 (by decide), by decide, h1, by decide⟩⟩ rfl rfl
 exact .snoc [sm1] sm2 o1 ⟨by decide, by decide, .inr ⟨sm1, rfl⟩, ⟨by decide, by decide, by decide, chk_zero.1 (by decide), by decide, h2, by decide⟩⟩ rfl rfl
theorem sm_err1 : errS sm 10 100 1 = 0 := errS_zero.2 ⟨sm_reg, .inr ⟨sm1, rfl⟩⟩
theorem sm_err2 : errS sm 10 100 2 = 0 := errS_zero.2 ⟨sm_reg, .inr ⟨sm2, rfl⟩⟩
theorem sm_up : upS sm 10 100 (2, 0, 0) = ((1, 6, 99), 0) := by
 unfold upS
 rw [if_neg (fun h : errS sm 10 100 2 ≠ 0 => h sm_err2)]
 rfl
theorem sm_web : webE sm 10 100 (2, 0, 0) = ((0, 3, 0), 0) := by
 have : onE sm 10 100 (2, 0, 0) = 0 := by
  unfold onE
  rw [if_neg (fun h : errS sm 10 100 2 ≠ 0 => h sm_err2)]
  rfl
 unfold webE
 rw [if_neg (fun h => h this)]
 rfl
theorem sm_cut : cutFull sm 10 100 2 = ((3, 5, false, [(0, 50, false)]), 0) := by
 unfold cutFull
 rw [if_neg (fun h : errS sm 10 100 2 ≠ 0 => h sm_err2)]
 rfl
theorem sm_rest : restE sm 10 100 1 = (750, 0) := by
 unfold restE
 rw [if_neg (fun h : errS sm 10 100 1 ≠ 0 => h sm_err1)]
 rfl
theorem awake_s (k : Nat) (hk : 301000 ≤ k) : f_u53 k = some true := by
 have hs : v_u56 k = (sm, 10, 100) := rfl
 have hw : v_u58 k (sm, 10, 100) = (10, 100) := rfl
 unfold f_u53
 rw [hs, hw]
 show (if (some (sm, (10 : Int), (100 : Int))).isSome = true then (if true = true ∧ (f_u10 k sm (10, 100) (2, 0, 0)).isSome = true then (if true = true ∧ (f_u11 k sm (10, 100) (2, 0, 0)).isSome = true then (if true = true ∧ (f_u5 k sm (10, 100) 2).isSome = true then (if true = true ∧ (f_u8 k sm (10, 100) 1).isSome = true then
  (bif ((v_u10 k sm (10, 100) (2, 0, 0)).2 != 0 || (v_u11 k sm (10, 100) (2, 0, 0)).2 != 0 || (v_u5 k sm (10, 100) 2).2 != 0 || (v_u8 k sm (10, 100) 1).2 != 0) then some false
   else bif (!eqT T4 (v_u10 k sm (10, 100) (2, 0, 0)).1 ((1 : Int), (6 : Int), (99 : Int)) || (!eqT T4 (v_u11 k sm (10, 100) (2, 0, 0)).1 ((0 : Int), (3 : Int), (0 : Int))) || (v_u8 k sm (10, 100) 1).1 != 750) then some false
   else _) else _) else _) else _) else _) else _) = _
 rw [fam_Up_s k (by omega), fam_Web_s k (by omega), fam_Cut_s k (by omega), fam_Rest_s k (by omega), fam_Up_v k (by omega), fam_Web_v k (by omega), fam_Cut_v k (by omega), fam_Rest_v k (by omega)]
 show (if (some (sm, (10 : Int), (100 : Int))).isSome = true then (if true = true ∧ (some (upS sm 10 100 (2, 0, 0))).isSome = true then (if true = true ∧ (some (webE sm 10 100 (2, 0, 0))).isSome = true then (if true = true ∧ (some (cutFull sm 10 100 2)).isSome = true then (if true = true ∧ (some (restE sm 10 100 1)).isSome = true then
  (bif ((upS sm 10 100 (2, 0, 0)).2 != 0 || (webE sm 10 100 (2, 0, 0)).2 != 0 || (cutFull sm 10 100 2).2 != 0 || (restE sm 10 100 1).2 != 0) then some false
   else bif (!eqT T4 (upS sm 10 100 (2, 0, 0)).1 ((1 : Int), (6 : Int), (99 : Int)) || (!eqT T4 (webE sm 10 100 (2, 0, 0)).1 ((0 : Int), (3 : Int), (0 : Int))) || (restE sm 10 100 1).1 != 750) then some false
   else _) else _) else _) else _) else _) else _) = _
 rw [sm_up, sm_web, sm_cut, sm_rest]
 rfl
theorem awake_v (k : Nat) (hk : 301000 ≤ k) : v_u53 k = true := by
 unfold v_u53; rw [awake_s k hk]; rfl
theorem web_v (k : Nat) (x : List Ro × Int × Int) : v_u58 k x = x.2 := rfl
theorem theirs_v (k : Nat) (x : List Ro × Int × Int) : v_u57 k x = x.2 := rfl
theorem web_s (k : Nat) (x : List Ro × Int × Int) : f_u58 k x = some x.2 := rfl
theorem theirs_s (k : Nat) (x : List Ro × Int × Int) : f_u57 k x = some x.2 := rfl
theorem great_l (k : Nat) (l : List Ro) (hl : l.length ≤ 30) : ∀ (d i j : Nat), i + d = l.length → d < j → (f_u55_4 k j l (l.length : Int) (i : Int)).isSome = true := by
 intro d
 induction d with
 | zero =>
  intro i j hi hj
  obtain ⟨j, rfl⟩ : ∃ q, j = q + 1 := ⟨j - 1, by omega⟩
  rw [f_u55_4, decide_eq_false (by omega : ¬ (i : Int) < (l.length : Int)), cond_false]; rfl
 | succ d ih =>
  intro i j hi hj
  obtain ⟨j, rfl⟩ : ∃ q, j = q + 1 := ⟨j - 1, by omega⟩
  rw [f_u55_4, decide_eq_true (by omega : (i : Int) < (l.length : Int)), cond_true, if_pos ⟨by omega, by omega⟩, wrapS i (by omega)]
  cases decide ((List.length (l.getD (i : Int).toNat T2.dflt).2.2.2.2.2 : Int) > 20)
  ·rw [cond_false]; exact ih (i + 1) j (by omega) (by omega)
  ·rfl
theorem great_s (k : Nat) (hk : 100 ≤ k) (x : List Ro × Int × Int) : (f_u55 k x).isSome = true := by
 unfold f_u55
 by_cases h : x.1.length > 30
 ·rw [decide_eq_true (by omega : (x.1.length : Int) > 30)]; rfl
 ·rw [decide_eq_false (by omega : ¬ (x.1.length : Int) > 30), cond_false]
  exact great_l k x.1 (by omega) x.1.length 0 k (by omega) (by omega)
theorem eqT_pt (p : Pt) : eqT T4 p p = true := by
 show ((p.1 == p.1) && ((p.2.1 == p.2.1) && (p.2.2 == p.2.2))) = true
 simp
theorem q_FamilyFinds (k : Nat) (hk : 301000 ≤ k) (x : List Ro × Int × Int) (a b : Int) : f_u50 k x a b = some true := by
 unfold f_u50
 rw [great_s k (by omega), awake_s k hk, awake_v k hk, web_s, web_v, theirs_s, theirs_v, fam_Find_s k (by omega), fam_Find_v k (by omega), ref42_Find_s k (by omega), ref42_Find_v k (by omega), eqT_pt, beq_self_eq_true]
 cases v_u55 k x <;> rfl
end Go.AM
