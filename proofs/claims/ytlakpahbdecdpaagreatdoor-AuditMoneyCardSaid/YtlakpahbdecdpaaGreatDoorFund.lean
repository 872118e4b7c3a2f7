/- Contracts of the functions that the law reaches, and the plain law. -/
import Derived.Test.YtlakpahbdecdpaaGreatDoorFunc
set_option linter.unusedVariables false
set_option linter.unusedSimpArgs false
set_option linter.unusedSectionVars false
open Bool renaming and_eq_true → qh, and_false → XT, false_and → wE, false_eq_true → qE, false_or → vH, not_false → qS1, not_true → ve, or_eq_false_iff → v6, or_eq_true → qGc, or_true → qS2, true_and → wH, true_or → vA
open Int renaming le_refl → V6, toNat → ql, toNat_natCast → qe
open List renaming append_assoc → qeY, append_nil → zH, cons_append → qne, drop → Wm, drop_of_length_le → qo, drop_zero → wv, getD → qI, length → qb, length_append → qT, length_cons → wB, length_singleton → qz, length_take → WZ, mem_append → zX, mem_cons → qK, nil_append → wk, pairwise_cons → zR, take_of_length_le → zj
open Nat renaming add_mul → W9, add_zero → qS4, le_refl → qR, mul_le_mul_right → v7, zero_add → wX, zero_le → Q9
open Option renaming getD_some → qMF, isSome_some → qd
open Go.IntKind renaming wrap → qa
namespace Go.AM
open Go Go.Proofs
theorem qEO {P Q : Int → Bool} (n : Nat) (h : ∀ x : Int, 0 ≤ x → x < n → P x = true → Q x = true) : vI P n ≤ vI Q n := by
 induction n with
 | zero => exact qR _
 | succ n ih =>
  have := ih fun x h0 h1 => h x h0 (by omega)
  have h2 := h n (by omega) (by omega)
  unfold vI
  cases h3 : P (n : Int)
  ·simp only [qE, if_false]; split <;> omega
  ·rw [h2 h3]; simp only [if_true]; omega
def XX (c : Ch) (x : Int) : Bool := decide (c.1 ≤ x) && decide (x < c.1 + c.2.1)
def qkk : List Ro → Int → Int
 | [], _ => 0
 | r :: t, x => (if XX r.2.2 x = true then qp r.2.2.2.2.2 else 0) + qkk t x
def Yt : List Ro → Int → Int → Bool
 | [], _, _ => false
 | r :: t, x, z => (XX r.2.2 x && Xo r.2.2.2.2.2 z) || Yt t x z
theorem qjf {m : List Rn} {z : Int} : Xo m z = true ↔ ∃ r ∈ m, lo r ≤ z ∧ z ≤ Go.AM.hi r := by
 unfold Xo
 rw [VS, Qh]
 constructor
 ·rintro ⟨s, hs, h0, h1⟩
  obtain ⟨r, hr, rfl⟩ := List.mem_map.1 hs
  exact ⟨r, hr, h0, by have : z < Go.AM.hi r + 1 := h1; omega⟩
 ·rintro ⟨r, hr, h0, h1⟩
  exact ⟨Qd r, List.mem_map_of_mem hr, h0, by show z < Go.AM.hi r + 1; omega⟩
theorem qEF {a b : Ch} {x z : Int} (h : VV a b = false) (ha : XX a x = true) (hb : XX b x = true) (ia : Xo a.2.2.2 z = true) (ib : Xo b.2.2.2 z = true) : False := by
 obtain ⟨r, hr, r0, r1⟩ := qjf.1 ia
 obtain ⟨s, hs, s0, s1⟩ := qjf.1 ib
 unfold XX at ha hb
 rw [qh, decide_eq_true_eq, decide_eq_true_eq] at ha hb
 have hm : Vt a.2.2.2 b.2.2.2 = true := by
  unfold Vt
  rw [List.any_eq_true]
  refine ⟨r, hr, ?_⟩
  rw [List.any_eq_true]
  refine ⟨s, hs, ?_⟩
  rw [qw (by omega), qw (by omega)]; rfl
 unfold VV at h
 rw [hm, qw (by omega), qw (by omega)] at h
 cases h
theorem qJw (x : Int) : ∀ (C : List Ro), (∀ r ∈ C, vu r.2.2.2.2.2 = true) → C.Pairwise (fun b r => VV r.2.2 b.2.2 = false) → (vI (Yt C x) NN : Int) = qkk C x := by
 intro C
 induction C with
 | nil =>
  intro _ _
  rw [V0 (P := Yt [] x) NN (fun x _ _ => rfl)]; rfl
 | cons r t ih =>
  intro hs hp
  obtain ⟨h1, h2⟩ := zR.1 hp
  have ih := ih (fun q hq => hs q (by simp [hq])) h2
  have hsr := (qxO (hs r (by simp))).2
  have hor := qrL (fun z => XX r.2.2 x && Xo r.2.2.2.2.2 z) (Yt t x) NN
  have hz : vI (fun z => (XX r.2.2 x && Xo r.2.2.2.2.2 z) && Yt t x z) NN = 0 := V0 NN fun z _ _ => by
   cases hc : XX r.2.2 x
   ·rfl
   ·cases hi : Xo r.2.2.2.2.2 z
    ·rfl
    ·have : ∀ (t : List Ro), (∀ a' ∈ t, VV a'.2.2 r.2.2 = false) → Yt t x z = false := fun t => by
      induction t with
      | nil => intro _; rfl
      | cons u v ih =>
       intro h
       unfold Yt
       rw [ih fun q hq => h q (by simp [hq]), Bool.or_false]
       cases hu : XX u.2.2 x
       ·rfl
       ·cases hv : Xo u.2.2.2.2.2 z
        ·rfl
        ·exact (qEF (h u (by simp)) hu hc hv hi).elim
     show (true && Yt t x z) = false
     rw [this t h1]; rfl
  have e : Yt (r :: t) x = fun z => (XX r.2.2 x && Xo r.2.2.2.2.2 z) || Yt t x z := rfl
  rw [e, qkk]
  cases hc : XX r.2.2 x
  ·rw [hc] at hor hz
   have h0 : vI (fun z => false && Xo r.2.2.2.2.2 z) NN = 0 := V0 NN fun _ _ _ => rfl
   simp only [qE, if_false]
   omega
  ·rw [hc] at hor hz
   have h0 : vI (fun z => true && Xo r.2.2.2.2.2 z) NN = vI (Xo r.2.2.2.2.2) NN := qg3 NN fun x _ _ => wH _
   simp only [if_true]
   omega
theorem qNH {C : List Ro} {n : Int} (x : Int) (h0 : 0 ≤ n) (hn : n ≤ 17179869184) (hs : ∀ r ∈ C, vu r.2.2.2.2.2 = true) (hp : C.Pairwise (fun b r => VV r.2.2 b.2.2 = false)) (hf : ∀ r ∈ C, fitsIn n r.2.2.2.2.2) (hg : ∀ r ∈ C, goods r.2.2.2.2.2) : qkk C x ≤ n := by
 rw [← qJw x C hs hp]
 have h1 : vI (Yt C x) NN ≤ vI (fun z => decide (0 ≤ z) && decide (z < n)) NN := qEO NN fun z z0 z1 hu => by
  have : ∀ (C : List Ro), (∀ r ∈ C, fitsIn n r.2.2.2.2.2) → Yt C x z = true → z < n := fun C => by
   induction C with
   | nil => intro _ h; cases h
   | cons r t ih =>
    intro hf h
    unfold Yt at h
    rw [qGc] at h
    rcases h with h | h
    ·rw [qh] at h
     obtain ⟨q, hq, q0, q1⟩ := qjf.1 h.2
     have := qkr (hf r (by simp)) q hq
     omega
    ·exact ih (fun q hq => hf q (by simp [hq])) h
  rw [qw z0, qw (this C hf hu)]; rfl
 have h2 := qiB 0 n (by omega) h0 NN
 omega
def XH (f : Int → Int) : Nat → Int
 | 0 => 0
 | n + 1 => XH f n + f n
theorem qtv (f g : Int → Int) : ∀ n, XH (fun x => f x + g x) n = XH f n + XH g n
 | 0 => rfl
 | n + 1 => by
  have := qtv f g n
  unfold XH; omega
theorem qpF : ∀ n, XH (fun _ => 0) n = 0
 | 0 => rfl
 | n + 1 => by
  have := qpF n
  unfold XH; omega
theorem qwG {f : Int → Int} {m : Int} (h : ∀ x, f x ≤ m) : ∀ n : Nat, XH f n ≤ n * m
 | 0 => by unfold XH; simp
 | n + 1 => by
  have := qwG h n
  have h2 := h n
  unfold XH
  rw [show ((n + 1 : Nat) : Int) = (n : Int) + 1 from rfl, Int.add_mul, Int.one_mul]
  omega
theorem qtw (P : Int → Bool) (v : Int) : ∀ n, XH (fun x => if P x = true then v else 0) n = (vI P n : Int) * v
 | 0 => by unfold XH vI; simp
 | n + 1 => by
  have := qtw P v n
  unfold XH vI
  cases h : P (n : Int)
  ·simp only [qE, if_false]; rw [this]; simp
  ·simp only [if_true]
   rw [show ((vI P n + 1 : Nat) : Int) = (vI P n : Int) + 1 from rfl, Int.add_mul, Int.one_mul, this]
def qqs : List Ro → Int
 | [] => 0
 | r :: t => r.2.2.2.1 * qp r.2.2.2.2.2 + qqs t
theorem qrf (w : Nat) : ∀ (C : List Ro), (∀ r ∈ C, 0 ≤ r.2.2.1 ∧ 1 ≤ r.2.2.2.1 ∧ r.2.2.1 + r.2.2.2.1 ≤ w) → XH (qkk C) w = qqs C
 | [], _ => qpF w
 | r :: t, h => by
  have ih := qrf w t fun q hq => h q (by simp [hq])
  obtain ⟨a, b, c⟩ := h r (by simp)
  have e : qkk (r :: t) = fun x => (if XX r.2.2 x = true then qp r.2.2.2.2.2 else 0) + qkk t x := rfl
  have h1 := qiB r.2.2.1 (r.2.2.1 + r.2.2.2.1) a (by omega) w
  have h2 : (vI (XX r.2.2) w : Int) = r.2.2.2.1 := by
   show (vI (fun x => decide (r.2.2.1 ≤ x) && decide (x < r.2.2.1 + r.2.2.2.1)) w : Int) = _
   omega
  rw [e, qtv, qtw, h2, ih]; rfl
theorem qIF {C : List Ro} {w n : Int} (hw : 0 ≤ w) (h0 : 0 ≤ n) (hn : n ≤ 17179869184) (hc : ∀ r ∈ C, CutOk r.2.2 w n) (hp : C.Pairwise (fun b r => VV r.2.2 b.2.2 = false)) : qqs C ≤ w * n := by
 obtain ⟨w, rfl⟩ : ∃ q : Nat, w = q := ⟨w.toNat, by omega⟩
 rw [← qrf w C fun r hr => ⟨(hc r hr).left, (hc r hr).width, (hc r hr).right⟩]
 exact qwG (fun x => qNH x h0 hn (fun r hr => (hc r hr).single) hp (fun r hr => (hc r hr).fits) (fun r hr => (hc r hr).chk.goods)) w
theorem Okp.pairs {W L : Int} {l : List Ro} (h : Okp W L l) : l.Pairwise (fun b r => r.2.1 = b.2.1 → VV r.2.2 b.2.2 = false) := by
 induction h with
 | nil => exact List.Pairwise.nil
 | snoc p r h f n c ih =>
  refine List.pairwise_append.2 ⟨ih, List.pairwise_singleton _ _, fun b hb q hq e => ?_⟩
  rw [List.mem_singleton] at hq
  subst hq
  unfold QA at c
  rw [List.any_eq_false] at c
  have := c b hb
  rw [beq_iff_eq.2 e, wH] at this
  simpa using this
def qR8 (l : List Ro) (id : Int) : List Ro := l.filter fun r => r.2.1 == id
theorem Reg.area {l : List Ro} {W L id : Int} (reg : Reg l W L) (kn : id = 0 ∨ ∃ q, look l id = some q) : qqs (qR8 l id) ≤ (wh l W L id).1 * (wh l W L id).2 := by
 have hs := reg.small 512 id (reg.anc kn)
 refine qIF hs.1 hs.2.2.1 hs.2.2.2 (fun r hr => ?_) ?_
 ·obtain ⟨h1, h2⟩ := List.mem_filter.1 hr
  have := (reg.ok.ro r h1).cut
  rw [beq_iff_eq.1 h2] at this
  exact this
 ·have h := reg.ok.pairs.sublist (List.filter_sublist (p := fun r => r.2.1 == id))
  refine h.imp_of_mem fun {a b} ha hb q => q ?_
  have h1 := beq_iff_eq.1 (List.mem_filter.1 ha).2
  have h2 := beq_iff_eq.1 (List.mem_filter.1 hb).2
  rw [h1, h2]
end Go.AM
namespace Go.AM
open Go
def Qv : List Rn → Int → Sp → List Sp
 | [], _, _ => []
 | r :: t, Va, s => (if max (lo r) s.1 < min (hi r + 1) s.2 then [(Va + (if r.2.2 = true then hi r + 1 - min (hi r + 1) s.2 else max (lo r) s.1 - lo r), Va + (if r.2.2 = true then hi r + 1 - min (hi r + 1) s.2 else max (lo r) s.1 - lo r) + min (hi r + 1) s.2 - max (lo r) s.1)] else []) ++ Qv t (Va + r.2.1) s
theorem qks : ∀ (m : List Rn) (a : Int) (s : Sp), (Qv m a s).length ≤ m.length
 | [], _, _ => by simp [Qv]
 | r :: t, a, s => by
  have := qks t (a + r.2.1) s
  unfold Qv
  rw [qT, wB]
  split <;> simp <;> omega
theorem qvH : ∀ (m : List Rn) (a : Int) (s : Sp), goods m → ∀ x ∈ Qv m a s, a ≤ x.1 ∧ x.1 < x.2 ∧ x.2 ≤ a + qp m
 | [], _, _, _, x, hx => by simp [Qv] at hx
 | r :: t, a, s, ⟨g1, g2⟩, x, hx => by
  obtain ⟨l1, l2, l3, l4⟩ := g1.lohi
  have h0 := zg g2
  rw [qp]
  unfold Qv at hx
  rcases zX.1 hx with hx | hx
  ·by_cases h : max (lo r) s.1 < min (hi r + 1) s.2
   ·rw [qc h, List.mem_singleton] at hx
    subst hx
    show a ≤ a + _ ∧ a + _ < a + _ + min (hi r + 1) s.2 - max (lo r) s.1 ∧ a + _ + min (hi r + 1) s.2 - max (lo r) s.1 ≤ _
    split <;> omega
   ·rw [qi h] at hx; simp at hx
  ·have := qvH t (a + r.2.1) s g2 x hx
   have := g1.1
   omega
def zZ (m : List Rn) (s : Sp) : List Sp × Int := if chk m ≠ 0 then ([], chk m) else if s.1 < 0 ∨ s.1 > s.2 ∨ s.2 > 17179869184 then ([], 1) else (nf (Qv m 0 s), 0)
end Go.AM
namespace Go.AM
open Go Go.Proofs
noncomputable section
abbrev qyJ (a : T6.T) (r : Int) : Prop := CC Tryz.prog 192 [.agg (qB (qr T6 a))] [] (ri r) (nb r)
def qhf (k : Nat) (a : T6.T) : Option Int :=
 bif (decide (a.1 < (0 : Int)) || decide (a.1 > a.2.1) || decide (a.2.1 > (12000 : Int)) || decide (a.2.2.1 < (0 : Int)) || decide (a.2.2.1 > a.2.2.2) || decide (a.2.2.2 > (17179869184 : Int))) then
 some 1
 else
 some 0
def qeK := fun k a => (qhf k a).getD 0
def qvN (k : Nat) : Ke := (192, mo 1, fun
 | [.agg b], [] => (qX [] T6 b).bind fun a => some (.one (ri (qeK k a), []))
 | _, _ => none)
theorem qKI (k a r) (h : qhf k a = some r): qyJ a r := qO Tryz.f192 (go (qA []) [] [] [.autoB [2] true []] (qu h fun h => gL h))
theorem qIQ {k a} (h : (qhf k a).isSome): qyJ a (qeK k a) := qJ h (qKI k a)
abbrev qyQ (a : List T7.T) (r : Int) : Prop := CC Tryz.prog 147 [ro T7 a] [] (ri r) (nb r)
def qDv := fun y0 y1 => (⟨qM 81 [(0, ro T7 y0), (3, ri y1)], []⟩ : St)
def VA (k : Nat) : Nat → List T7.T → Int → Option Int
 | 0, _, _ => none
 | j + 1, y0, y1 =>
 bif y1 < y0.length then
 if (0 ≤ y1) ∧ (y1 < y0.length) ∧ ((qhf k (y0.getD y1.toNat T7.dflt).1).isSome) then
 bif (qeK k (y0.getD y1.toNat T7.dflt).1 != (0 : Int)) then
 some (qeK k (y0.getD y1.toNat T7.dflt).1)
 else
 if (0 ≤ y1) ∧ (y1 < y0.length) ∧ (0 ≤ y1) ∧ (y1 < y0.length) ∧ (((y0.getD y1.toNat T7.dflt).1.1 == (y0.getD y1.toNat T7.dflt).1.2.1) = false → 0 ≤ y1) ∧ (((y0.getD y1.toNat T7.dflt).1.1 == (y0.getD y1.toNat T7.dflt).1.2.1) = false → y1 < y0.length) ∧ (((y0.getD y1.toNat T7.dflt).1.1 == (y0.getD y1.toNat T7.dflt).1.2.1) = false → 0 ≤ y1) ∧ (((y0.getD y1.toNat T7.dflt).1.1 == (y0.getD y1.toNat T7.dflt).1.2.1) = false → y1 < y0.length) then
 bif ((y0.getD y1.toNat T7.dflt).1.1 == (y0.getD y1.toNat T7.dflt).1.2.1 || (y0.getD y1.toNat T7.dflt).1.2.2.1 == (y0.getD y1.toNat T7.dflt).1.2.2.2) then
 some 10
 else
 if (0 ≤ y1) ∧ (y1 < y0.length) ∧ (decide ((y0.getD y1.toNat T7.dflt).2.1 < (1 : Int)) = false → 0 ≤ y1) ∧ (decide ((y0.getD y1.toNat T7.dflt).2.1 < (1 : Int)) = false → y1 < y0.length) ∧ ((decide ((y0.getD y1.toNat T7.dflt).2.1 < (1 : Int)) || decide ((y0.getD y1.toNat T7.dflt).2.1 > (16 : Int))) = false → 0 ≤ y1) ∧ ((decide ((y0.getD y1.toNat T7.dflt).2.1 < (1 : Int)) || decide ((y0.getD y1.toNat T7.dflt).2.1 > (16 : Int))) = false → y1 < y0.length) ∧ ((decide ((y0.getD y1.toNat T7.dflt).2.1 < (1 : Int)) || decide ((y0.getD y1.toNat T7.dflt).2.1 > (16 : Int)) || decide ((y0.getD y1.toNat T7.dflt).2.2 < (1 : Int))) = false → 0 ≤ y1) ∧ ((decide ((y0.getD y1.toNat T7.dflt).2.1 < (1 : Int)) || decide ((y0.getD y1.toNat T7.dflt).2.1 > (16 : Int)) || decide ((y0.getD y1.toNat T7.dflt).2.2 < (1 : Int))) = false → y1 < y0.length) then
 bif (decide ((y0.getD y1.toNat T7.dflt).2.1 < (1 : Int)) || decide ((y0.getD y1.toNat T7.dflt).2.1 > (16 : Int)) || decide ((y0.getD y1.toNat T7.dflt).2.2 < (1 : Int)) || decide ((y0.getD y1.toNat T7.dflt).2.2 > (100 : Int))) then
 some 1
 else
 VA k j y0 (qa .i64 (y1 + 1))
 else none
 else none
 else none
 else
 some 0
def qbu (k : Nat) (a : List T7.T) : Option Int :=
 bif (↑a.length : Int) > (128 : Int) then
 some 8
 else
 VA k k a 0
def qak := fun k a => (qbu k a).getD 0
def qnV (k : Nat) : Ke := (147, mo 1, fun
 | [.r (.ro d b)], [] => (qC d T7 b).bind fun a => some (.one (ri (qak k a), []))
 | _, _ => none)
def quJ : List (Nat × List Cmd) := [(4, [.autoB [0, 3] false []])]
abbrev qMl := EP Tryz.f147 0 ri nb
theorem qvk (k) : ∀ j, (∀ y0 y1, qMl 4 (qDv y0 y1) (VA k j y0 y1))
 | 0 => by intros; exact e0
 | j + 1 => by
  have ih := @qvk k j
  ·intro y0 y1 r h
   rw [VA] at h
   exact go (qA [qvN k]) [] quJ [.autoB [2] true []] (gS h (fun h => gN h (fun q => qf q.1 (qf q.2.1 (qf (qIQ q.2.2) qP))) fun h => qu h fun h => gN h (fun q => qf q.1 (qf q.2.1 (qf q.2.2.1 (qf q.2.2.2.1 (qf q.2.2.2.2.1 (qf q.2.2.2.2.2.1 (qf q.2.2.2.2.2.2.1 (qf q.2.2.2.2.2.2.2 qP)))))))) fun h => qu h fun h => gN h (fun q => qf q.1 (qf q.2.1 (qf q.2.2.1 (qf q.2.2.2.1 (qf q.2.2.2.2.1 (qf q.2.2.2.2.2.1 (qf q.2.2.2.2.2.2.1 (qf q.2.2.2.2.2.2.2 qP)))))))) fun h => qu h fun h => gC h 4 (ih _ _ _)) fun h => gL h)
theorem qKP (k a r) (h : qbu k a = some r): qyQ a r := qO Tryz.f147 (go (qA [qvN k]) [] quJ [.autoB [2] true []] (qu h fun h => gC h 4 ((qvk k k) _ _ _)))
theorem quq {k a} (h : (qbu k a).isSome): qyQ a (qak k a) := qJ h (qKP k a)
end
abbrev Rc4 := Int × Int × Int × Int   -- Left, Right, From, To
abbrev wO := Rc4 × Int × Int         -- Area, Kind, Level
def YG (r : Rc4) : Bool := decide (r.1 < (0 : Int)) || decide (r.1 > r.2.1) || decide (r.2.1 > (12000 : Int)) || decide (r.2.2.1 < (0 : Int)) || decide (r.2.2.1 > r.2.2.2) || decide (r.2.2.2 > (17179869184 : Int))
def Qr (r : Rc4) : Int := bif YG r then 1 else 0
structure RectOk (r : Rc4) : Prop where
 l : 0 ≤ r.1
 lr : r.1 ≤ r.2.1
 w : r.2.1 ≤ 12000
 f : 0 ≤ r.2.2.1
 ft : r.2.2.1 ≤ r.2.2.2
 t : r.2.2.2 ≤ 17179869184
theorem qxH {r : Rc4} (h : Qr r = 0) : RectOk r := by
 unfold Qr at h
 cases e : YG r
 ·unfold YG at e
  simp only [v6, decide_eq_false_iff_not] at e
  obtain ⟨⟨⟨⟨⟨a, b⟩, c⟩, d⟩, f⟩, g⟩ := e
  exact ⟨by omega, by omega, by omega, by omega, by omega, by omega⟩
 ·rw [e] at h; cases h
theorem qhR (k : Nat) (r : Rc4) : qhh k r = some (Qr r) := by
 show (bif YG r then some (1 : Int) else some 0) = some (bif YG r then 1 else 0)
 cases YG r <;> rfl
theorem qsC (k : Nat) (r : Rc4) : qeR k r = Qr r := by
 unfold qeR; rw [qhR]; rfl
theorem qgt (k : Nat) (r : Rc4) : qhf k r = some (Qr r) := by
 show (bif YG r then some (1 : Int) else some 0) = some (bif YG r then 1 else 0)
 cases YG r <;> rfl
theorem qp3 (k : Nat) (r : Rc4) : qeK k r = Qr r := by
 unfold qeK; rw [qgt]; rfl
def WD (x : wO) : Int := bif (Qr x.1 != 0) then Qr x.1 else bif (x.1.1 == x.1.2.1 || x.1.2.2.1 == x.1.2.2.2) then 10 else bif (decide (x.2.1 < (1 : Int)) || decide (x.2.1 > (16 : Int)) || decide (x.2.2 < (1 : Int)) || decide (x.2.2 > (100 : Int))) then 1 else 0
def WN : List wO → Int
 | [] => 0
 | x :: t => bif (WD x != 0) then WD x else WN t
def zU (l : List wO) : Int := if l.length > 128 then 8 else WN l
structure SpotOk (x : wO) : Prop where
 area : RectOk x.1
 lr : x.1.1 < x.1.2.1
 ft : x.1.2.2.1 < x.1.2.2.2
 kind : 1 ≤ x.2.1 ∧ x.2.1 ≤ 16
 level : 1 ≤ x.2.2 ∧ x.2.2 ≤ 100
theorem qxP {x : wO} (h : WD x = 0) : SpotOk x := by
 unfold WD at h
 by_cases h1 : Qr x.1 = 0
 ·have ok := qxH h1
  rw [show (Qr x.1 != 0) = false by simp [h1], qg] at h
  obtain ⟨a, b, c, d, e, f⟩ := ok
  cases h2 : (x.1.1 == x.1.2.1 || x.1.2.2.1 == x.1.2.2.2)
  ·rw [h2, qg] at h
   simp only [v6, beq_eq_false_iff_ne, ne_eq] at h2
   cases h3 : (decide (x.2.1 < (1 : Int)) || decide (x.2.1 > (16 : Int)) || decide (x.2.2 < (1 : Int)) || decide (x.2.2 > (100 : Int)))
   ·simp only [v6, decide_eq_false_iff_not] at h3
    exact ⟨⟨a, b, c, d, e, f⟩, by omega, by omega, ⟨by omega, by omega⟩, by omega, by omega⟩
   ·rw [h3] at h; cases h
  ·rw [h2] at h; cases h
 ·rw [show (Qr x.1 != 0) = true from bne_iff_ne.2 h1, qj] at h
  exact absurd h h1
theorem qka : ∀ {l : List wO}, WN l = 0 → ∀ x ∈ l, SpotOk x
 | [], _, x, hx => by simp at hx
 | y :: t, h, x, hx => by
  unfold WN at h
  by_cases h1 : WD y = 0
  ·rw [show (WD y != 0) = false by simp [h1], qg] at h
   rcases qK.1 hx with e | hx'
   ·rw [e]; exact qxP h1
   ·exact qka h x hx'
  ·rw [show (WD y != 0) = true from bne_iff_ne.2 h1, qj] at h
   exact absurd h h1
theorem qdF {l : List wO} (h : zU l = 0) : l.length ≤ 128 ∧ ∀ x ∈ l, SpotOk x := by
 unfold zU at h
 by_cases h1 : l.length > 128
 ·rw [qc h1] at h; omega
 ·rw [qi h1] at h
  exact ⟨by omega, qka h⟩
theorem qnA (k : Nat) (l : List wO) (hl : l.length ≤ 128) : ∀ (d i j : Nat), i + d = l.length → d < j → Ya k j l (l.length : Int) (i : Int) = some (WN (l.drop i)) := by
 intro d
 induction d with
 | zero =>
  intro i j hi hj
  obtain ⟨j, rfl⟩ := qW (by omega : 0 < j)
  rw [Ya, qq (by omega : ¬ (i : Int) < (l.length : Int)), qg, qo (by omega)]; rfl
 | succ d ih =>
  intro i j hi hj
  obtain ⟨j, rfl⟩ := qW (by omega : 0 < j)
  rw [Ya, qw (by omega : (i : Int) < (l.length : Int)), qj, qc ⟨by omega, by omega⟩, qe, qH i (by omega), ih (i + 1) j (by omega) (by omega), qt l i T7.dflt (by omega), WN, qhR, qsC, qd, qc rfl]
  generalize l.getD i T7.dflt = x
  generalize WN (l.drop (i + 1)) = g
  show (bif (Qr x.1 != 0) then some (Qr x.1) else bif (x.1.1 == x.1.2.1 || x.1.2.2.1 == x.1.2.2.2) then some 10 else bif (decide (x.2.1 < (1 : Int)) || decide (x.2.1 > (16 : Int)) || decide (x.2.2 < (1 : Int)) || decide (x.2.2 > (100 : Int))) then some 1 else some g) = some (bif (WD x != 0) then WD x else g)
  unfold WD
  cases h1 : (Qr x.1 != 0)
  ·cases (x.1.1 == x.1.2.1 || x.1.2.2.1 == x.1.2.2.2)
   ·cases (decide (x.2.1 < (1 : Int)) || decide (x.2.1 > (16 : Int)) || decide (x.2.2 < (1 : Int)) || decide (x.2.2 > (100 : Int))) <;> rfl
   ·rfl
  ·rw [qj, qj, h1]; rfl
theorem qdQ (k : Nat) (hk : 300 ≤ k) (l : List wO) : qiK k l = some (zU l) := by
 unfold qiK zU
 by_cases h : l.length > 128
 ·rw [qc h, qw (by omega : (l.length : Int) > 128)]; rfl
 ·rw [qi h, qq (by omega : ¬ (l.length : Int) > 128), qg]
  exact qnA k l (by omega) l.length 0 k (by omega) (by omega)
theorem qnB (k : Nat) (hk : 300 ≤ k) (l : List wO) : qjB k l = zU l := by
 unfold qjB; rw [qdQ k hk]; rfl
theorem qp5 (k : Nat) (l : List wO) (hl : l.length ≤ 128) : ∀ (d i j : Nat), i + d = l.length → d < j → VA k j l (i : Int) = some (WN (l.drop i)) := by
 intro d
 induction d with
 | zero =>
  intro i j hi hj
  obtain ⟨j, rfl⟩ := qW (by omega : 0 < j)
  rw [VA, qq (by omega : ¬ (i : Int) < (l.length : Int)), qg, qo (by omega)]; rfl
 | succ d ih =>
  intro i j hi hj
  obtain ⟨j, rfl⟩ := qW (by omega : 0 < j)
  have hx : (i : Int) < (l.length : Int) := by omega
  have hx0 : (0 : Int) ≤ (i : Int) := by omega
  rw [VA, qw hx, qj, qe, qH i (by omega), ih (i + 1) j (by omega) (by omega), qt l i T7.dflt (by omega), WN, qgt, qp3, qc ⟨hx0, hx, rfl⟩, qc ⟨hx0, hx, hx0, hx, fun _ => hx0, fun _ => hx, fun _ => hx0, fun _ => hx⟩, qc ⟨hx0, hx, fun _ => hx0, fun _ => hx, fun _ => hx0, fun _ => hx, fun _ => hx0, fun _ => hx⟩]
  generalize l.getD i T7.dflt = x
  generalize WN (l.drop (i + 1)) = g
  show (bif (Qr x.1 != 0) then some (Qr x.1) else bif (x.1.1 == x.1.2.1 || x.1.2.2.1 == x.1.2.2.2) then some 10 else bif (decide (x.2.1 < (1 : Int)) || decide (x.2.1 > (16 : Int)) || decide (x.2.2 < (1 : Int)) || decide (x.2.2 > (100 : Int))) then some 1 else some g) = some (bif (WD x != 0) then WD x else g)
  unfold WD
  cases h1 : (Qr x.1 != 0)
  ·cases (x.1.1 == x.1.2.1 || x.1.2.2.1 == x.1.2.2.2)
   ·cases (decide (x.2.1 < (1 : Int)) || decide (x.2.1 > (16 : Int)) || decide (x.2.2 < (1 : Int)) || decide (x.2.2 > (100 : Int))) <;> rfl
   ·rfl
  ·rw [qj, qj, h1]; rfl
theorem qaw (k : Nat) (hk : 300 ≤ k) (l : List wO) : qbu k l = some (zU l) := by
 unfold qbu zU
 by_cases h : l.length > 128
 ·rw [qc h, qw (by omega : (l.length : Int) > 128)]; rfl
 ·rw [qi h, qq (by omega : ¬ (l.length : Int) > 128), qg]
  exact qp5 k l (by omega) l.length 0 k (by omega) (by omega)
theorem qgx (k : Nat) (hk : 300 ≤ k) (l : List wO) : qak k l = zU l := by
 unfold qak; rw [qaw k hk]; rfl
end Go.AM
namespace Go.AM
open Go Go.Proofs
noncomputable section
abbrev qgT : Type := List T21.T × Int
def qkW (r : qgT) : AV := .tup [ro T21 r.1, ri r.2]
abbrev qyz (a : List T3.T) (b : T21.T) (r : qgT) : Prop := CC Tryz.prog 149 [ro T3 a, .agg (qB (qr T21 b))] [] (qkW r) (nb r)
def qDm := fun y0 y1 y2 y3 y4 => (⟨qM 115 [(0, ro T3 y0), (3, .ptr 1000000 0 0), (7, .own 1000001 0), (8, ri y1), (9, ri y2)], [(1000000, 0, .var 91 (qB (qr T21 y3))), (1000001, 0, .row 91 T21 y4)]⟩ : St)
def qxR := fun y0 => (⟨qM 115 [(7, ro T21 y0)], []⟩ : St)
mutual
def QW (k : Nat) : Nat → List T3.T → Int → Int → T21.T → List T21.T → Option qgT
 | 0, _, _, _, _, _ => none
 | j + 1, y0, y1, y2, y3, y4 =>
 bif y2 < y0.length then
 if (0 ≤ y2) ∧ (y2 < y0.length) ∧ (0 ≤ y2) ∧ (y2 < y0.length) ∧ (0 ≤ y2) ∧ (y2 < y0.length) then
 if (0 ≤ y2) ∧ (y2 < y0.length) then
 bif (y0.getD y2.toNat T3.dflt).2.2 then
 if (0 ≤ y2) ∧ (y2 < y0.length) ∧ (0 ≤ y2) ∧ (y2 < y0.length) ∧ (0 ≤ y2) ∧ (y2 < y0.length) then
 bif (if qa .i64 (qa .i64 ((y0.getD y2.toNat T3.dflt).1 - y3.2) + (1 : Int)) > (0 : Int) then qa .i64 (qa .i64 ((y0.getD y2.toNat T3.dflt).1 - y3.2) + (1 : Int)) else (0 : Int)) < if qa .i64 (qa .i64 ((y0.getD y2.toNat T3.dflt).1 - y3.1) + (1 : Int)) < (y0.getD y2.toNat T3.dflt).2.1 then qa .i64 (qa .i64 ((y0.getD y2.toNat T3.dflt).1 - y3.1) + (1 : Int)) else (y0.getD y2.toNat T3.dflt).2.1 then
 if ((y4.length + [(qa .i64 (y1 + if qa .i64 (qa .i64 ((y0.getD y2.toNat T3.dflt).1 - y3.2) + (1 : Int)) > (0 : Int) then qa .i64 (qa .i64 ((y0.getD y2.toNat T3.dflt).1 - y3.2) + (1 : Int)) else (0 : Int)), qa .i64 (y1 + if qa .i64 (qa .i64 ((y0.getD y2.toNat T3.dflt).1 - y3.1) + (1 : Int)) < (y0.getD y2.toNat T3.dflt).2.1 then qa .i64 (qa .i64 ((y0.getD y2.toNat T3.dflt).1 - y3.1) + (1 : Int)) else (y0.getD y2.toNat T3.dflt).2.1))].length) * (16 : Nat) ≤ (140737488355328 : Nat)) then
 if (0 ≤ y2) ∧ (y2 < y0.length) then
 QW k j y0 (qa .i64 (y1 + (y0.getD y2.toNat T3.dflt).2.1)) (qa .i64 (y2 + 1)) y3 (y4 ++ [(qa .i64 (y1 + if qa .i64 (qa .i64 ((y0.getD y2.toNat T3.dflt).1 - y3.2) + 1) > 0 then qa .i64 (qa .i64 ((y0.getD y2.toNat T3.dflt).1 - y3.2) + 1) else 0), qa .i64 (y1 + if qa .i64 (qa .i64 ((y0.getD y2.toNat T3.dflt).1 - y3.1) + 1) < (y0.getD y2.toNat T3.dflt).2.1 then qa .i64 (qa .i64 ((y0.getD y2.toNat T3.dflt).1 - y3.1) + 1) else (y0.getD y2.toNat T3.dflt).2.1))])
 else none
 else none
 else
 if (0 ≤ y2) ∧ (y2 < y0.length) then
 QW k j y0 (qa .i64 (y1 + (y0.getD y2.toNat T3.dflt).2.1)) (qa .i64 (y2 + 1)) y3 y4
 else none
 else none
 else
 bif (if qa .i64 (y3.1 - (y0.getD y2.toNat T3.dflt).1) > (0 : Int) then qa .i64 (y3.1 - (y0.getD y2.toNat T3.dflt).1) else (0 : Int)) < if qa .i64 (y3.2 - (y0.getD y2.toNat T3.dflt).1) < (y0.getD y2.toNat T3.dflt).2.1 then qa .i64 (y3.2 - (y0.getD y2.toNat T3.dflt).1) else (y0.getD y2.toNat T3.dflt).2.1 then
 if ((y4.length + [(qa .i64 (y1 + if qa .i64 (y3.1 - (y0.getD y2.toNat T3.dflt).1) > (0 : Int) then qa .i64 (y3.1 - (y0.getD y2.toNat T3.dflt).1) else (0 : Int)), qa .i64 (y1 + if qa .i64 (y3.2 - (y0.getD y2.toNat T3.dflt).1) < (y0.getD y2.toNat T3.dflt).2.1 then qa .i64 (y3.2 - (y0.getD y2.toNat T3.dflt).1) else (y0.getD y2.toNat T3.dflt).2.1))].length) * (16 : Nat) ≤ (140737488355328 : Nat)) then
 if (0 ≤ y2) ∧ (y2 < y0.length) then
 QW k j y0 (qa .i64 (y1 + (y0.getD y2.toNat T3.dflt).2.1)) (qa .i64 (y2 + 1)) y3 (y4 ++ [(qa .i64 (y1 + if qa .i64 (y3.1 - (y0.getD y2.toNat T3.dflt).1) > 0 then qa .i64 (y3.1 - (y0.getD y2.toNat T3.dflt).1) else 0), qa .i64 (y1 + if qa .i64 (y3.2 - (y0.getD y2.toNat T3.dflt).1) < (y0.getD y2.toNat T3.dflt).2.1 then qa .i64 (y3.2 - (y0.getD y2.toNat T3.dflt).1) else (y0.getD y2.toNat T3.dflt).2.1))])
 else none
 else none
 else
 if (0 ≤ y2) ∧ (y2 < y0.length) then
 QW k j y0 (qa .i64 (y1 + (y0.getD y2.toNat T3.dflt).2.1)) (qa .i64 (y2 + 1)) y3 y4
 else none
 else none
 else none
 else
 qct k j y4
def qct (k : Nat) : Nat → List T21.T → Option qgT
 | 0, _ => none
 | j + 1, y0 =>
 if ((qcE k y0).isSome) then
 some ((YP k y0).1, (YP k y0).2)
 else none
end
def qdT (k : Nat) (a : List T3.T) (b : T21.T) : Option qgT :=
 if ((ZW k a).isSome) then
 bif (Qb k a != (0 : Int)) then
 some ([], Qb k a)
 else
 bif (decide (b.1 < (0 : Int)) || decide (b.1 > b.2) || decide (b.2 > (17179869184 : Int))) then
 some ([], 1)
 else
 QW k k a 0 0 b ([])
 else none
def qia := fun k a b => (qdT k a b).getD ([], 0)
def qJP (k : Nat) : Ke := (149, mo 2, fun
 | [.r (.ro f d), .agg e], [] => (qC f T3 d).bind fun a => (qX [] T21 e).bind fun b => some (.one (qkW (qia k a b), []))
 | _, _ => none)
def quA : List (Nat × List Cmd) := [(9, [.row 7 91 T21, .autoB [0, 3, 7, 8, 9] false []]), (17, [.frz 7 false (RTy.list T21), .autoB [7] false []])]
abbrev qzB := EP Tryz.f149 0 qkW nb
theorem qvb (k) : ∀ j, (∀ {y0 y1 y2 y3 y4}, qzB 9 (qDm y0 y1 y2 y3 y4) (QW k j y0 y1 y2 y3 y4)) ∧ (∀ {y0}, qzB 17 (qxR y0) (qct k j y0))
 | 0 => by and_intros <;> intros <;> exact e0
 | j + 1 => by
  have ih := @qvb k j
  have g := @go (qA [qey k, qhG k]) [17] quA [.frz 4 false (RTy.list T21), .autoB [4, 5] true []]
  refine ⟨?_, ?_⟩
  ·intro y0 y1 y2 y3 y4 r h
   rw [QW] at h
   exact g (gS h (fun h => gN h (fun q => qf q.1 (qf q.2.1 (qf q.2.2.1 (qf q.2.2.2.1 (qf q.2.2.2.2.1 (qf q.2.2.2.2.2 qP)))))) fun h => qU h fun h => gS h (fun h => gN h (fun q => qf q.1 (qf q.2.1 (qf q.2.2.1 (qf q.2.2.2.1 (qf q.2.2.2.2.1 (qf q.2.2.2.2.2 qP)))))) fun h => gS h (fun h => qv h id fun h => qU h fun h => gD h 9 ih.1) fun h => qU h fun h => gD h 9 ih.1) fun h => gS h (fun h => qv h id fun h => qU h fun h => gD h 9 ih.1) fun h => qU h fun h => gD h 9 ih.1) fun h => gD h 17 ih.2)
  ·intro y0 r h
   rw [qct] at h
   exact g (qv h qrH fun h => gL h)
theorem qKy (k a b r) (h : qdT k a b = some r): qyz a b r := qO Tryz.f149 (go (qA [qey k, qhG k]) [17] quA [.frz 4 false (RTy.list T21), .autoB [4, 5] true []] (qv h qbm fun h => qu h fun h => qu h fun h => gD h 9 (qvb k k).1))
theorem qIM {k a b} (h : (qdT k a b).isSome): qyz a b (qia k a b) := qJ h (qKy k a b)
end
theorem qmE (a b : Int) : (if a > b then a else b) = max b a := by split <;> omega
theorem qjl (a b : Int) : (if a < b then a else b) = min b a := by split <;> omega
theorem qo5 (s : Sp) : (decide (s.1 < (0 : Int)) || decide (s.1 > s.2) || decide (s.2 > (17179869184 : Int))) = decide (s.1 < 0 ∨ s.1 > s.2 ∨ s.2 > 17179869184) := by
 by_cases h1 : s.1 < 0
 ·rw [qw h1, qw (Or.inl h1), vA, vA]
 ·by_cases h2 : s.1 > s.2
  ·rw [qw h2, qw (Or.inr (Or.inl h2)), qS2, vA]
  ·by_cases h3 : s.2 > 17179869184
   ·rw [qw h3, qw (Or.inr (Or.inr h3)), qS2]
   ·rw [qq h1, qq h2, qq h3, qq (by omega)]; rfl
theorem qjc {m : List Rn} (hc : Chk m) (s : Sp) : In 0 17179869184 (Qv m 0 s) := In.of fun x hx => by
 have h := qvH m 0 s hc.goods x hx
 have := hc.tot
 exact ⟨by omega, by omega, by omega⟩
theorem qo4 {m : List Rn} (hc : Chk m) (s : Sp) : Wz (Qv m 0 s) = (nf (Qv m 0 s), 0) := by
 have hl := qks m 0 s
 have := hc.len
 unfold Wz
 rw [qi (fun e => e (Ze.2 ⟨by omega, qjc hc s⟩))]
def qnL (r : Rn) (a : Int) (s : Sp) : List Sp := if max (lo r) s.1 < min (Go.AM.hi r + 1) s.2 then [(a + (if r.2.2 = true then Go.AM.hi r + 1 - min (Go.AM.hi r + 1) s.2 else max (lo r) s.1 - lo r), a + (if r.2.2 = true then Go.AM.hi r + 1 - min (Go.AM.hi r + 1) s.2 else max (lo r) s.1 - lo r) + min (Go.AM.hi r + 1) s.2 - max (lo r) s.1)] else []
theorem qo7 (r : Rn) (t : List Rn) (a : Int) (s : Sp) : Qv (r :: t) a s = qnL r a s ++ Qv t (a + r.2.1) s := rfl
theorem qxu (k : Nat) (hk : 2100 ≤ k) (m : List Rn) (hc : Chk m) (s : Sp) (s0 : 0 ≤ s.1 ∧ s.1 ≤ 17179869184) (s1 : 0 ≤ s.2 ∧ s.2 ≤ 17179869184) : ∀ (d i j : Nat) (a : Int) (out : List Sp), i + d = m.length → d + 1 < j → 0 ≤ a → a ≤ (i : Int) * 17179869184 → out.length ≤ i → out ++ Qv (m.drop i) a s = Qv m 0 s →
  ZU k j a m (m.length : Int) (i : Int) s out = some (nf (Qv m 0 s), 0) := by
 intro d
 have hl := hc.len
 induction d with
 | zero =>
  intro i j a out hi hj h0 h1 ho he
  obtain ⟨j, rfl⟩ : ∃ q, j = q + 1 + 1 := ⟨j - 2, by omega⟩
  rw [ZU, qq (by omega : ¬ (i : Int) < (m.length : Int)), qg, qfo]
  rw [qo (by omega)] at he
  rw [show Qv ([] : List Rn) a s = [] from rfl, zH] at he
  rw [he, qdE k hk, qj9 k hk, qo4 hc]
  rfl
 | succ d ih =>
  intro i j a out hi hj h0 h1 ho he
  obtain ⟨j, rfl⟩ := qW (by omega : 0 < j)
  have hg : good (m.getD i T3.dflt) := hc.goods.mem _ (w8 _ _ _ (by omega))
  rw [qt m i T3.dflt (by omega), qo7, ← qeY] at he
  rw [ZU, qw (by omega : (i : Int) < (m.length : Int)), qj, qc ⟨by omega, by omega⟩, qe, qbO k _ hg, qhD k _ hg, qd, qc rfl, qH i (by omega)]
  generalize m.getD i T3.dflt = r at *
  obtain ⟨g1, g2, g3, g4, _⟩ := _root_.id hg
  obtain ⟨l1, l2, l3, l4⟩ := hg.lohi
  rw [show (Qd r).1 = lo r from rfl, show (Qd r).2 = Go.AM.hi r + 1 from rfl, qmE, qjl, qm (i := a + r.2.1) (by omega) (by omega), qm (i := Go.AM.hi r + 1 - min (Go.AM.hi r + 1) s.2) (by omega) (by omega), qm (i := max (lo r) s.1 - lo r) (by omega) (by omega)]
  unfold qnL at he
  by_cases h : max (lo r) s.1 < min (Go.AM.hi r + 1) s.2
  ·rw [qw h, qj]
   rw [qc h] at he
   rw [qm (i := a + (Go.AM.hi r + 1 - min (Go.AM.hi r + 1) s.2)) (by omega) (by omega), qm (i := a + (max (lo r) s.1 - lo r)) (by omega) (by omega)]
   rw [qm (i := a + (Go.AM.hi r + 1 - min (Go.AM.hi r + 1) s.2) + min (Go.AM.hi r + 1) s.2) (by omega) (by omega), qm (i := a + (max (lo r) s.1 - lo r) + min (Go.AM.hi r + 1) s.2) (by omega) (by omega)]
   rw [qm (i := a + (Go.AM.hi r + 1 - min (Go.AM.hi r + 1) s.2) + min (Go.AM.hi r + 1) s.2 - max (lo r) s.1) (by omega) (by omega), qm (i := a + (max (lo r) s.1 - lo r) + min (Go.AM.hi r + 1) s.2 - max (lo r) s.1) (by omega) (by omega)]
   cases hb : r.2.2
   ·rw [hb] at he
    rw [qi Bool.false_ne_true] at he
    rw [qg, qc (by rw [qz]; omega)]
    exact ih (i + 1) j _ _ (by omega) (by omega) (by omega) (by omega) (by rw [qT, qz]; omega) he
   ·rw [hb] at he
    rw [qc rfl] at he
    rw [qj, qc (by rw [qz]; omega)]
    exact ih (i + 1) j _ _ (by omega) (by omega) (by omega) (by omega) (by rw [qT, qz]; omega) he
  ·rw [qq h, qg]
   rw [qi h, zH] at he
   exact ih (i + 1) j _ _ (by omega) (by omega) (by omega) (by omega) (by omega) he
theorem qmv (k : Nat) (hk : 2100 ≤ k) (m : List Rn) (s : Sp) : qiW k m s = some (zZ m s) := by
 unfold qiW zZ
 rw [QX k (by omega), WT k (by omega), qd, qc rfl, qo5]
 by_cases h1 : chk m = 0
 ·have hc := wU.1 h1
  have hl := hc.len
  rw [show (chk m != 0) = false by simp [h1], qg, qi (fun h : chk m ≠ 0 => h h1)]
  by_cases h2 : s.1 < 0 ∨ s.1 > s.2 ∨ s.2 > 17179869184
  ·rw [qw h2, qj, qc h2]
  ·rw [qq h2, qg, qi h2]
   exact qxu k hk m hc s ⟨by omega, by omega⟩ ⟨by omega, by omega⟩ m.length 0 k 0 [] (by omega) (by omega) (by omega) (by omega) (by simp) rfl
 ·rw [show (chk m != 0) = true from bne_iff_ne.2 h1, qj, qc h1]
theorem qxv (k : Nat) (hk : 2100 ≤ k) (m : List Rn) (s : Sp) : qc0 k m s = zZ m s := by
 unfold qc0; rw [qmv k hk]; rfl
def Za (g : Int) (p : List wz) : Bool := p.all fun x => x.2.2.2.1 == g
def qe2 (p : List wz) : Bool := p.all fun x => x.2.2.1 == 1
def grS (p : List wz) : Int := if Za (p.getD 0 T2.dflt).2.2.2.1 p = true then (p.getD 0 T2.dflt).2.2.2.1 else -1
theorem qIy (k : Nat) (p : List wz) (hl : p.length ≤ 512) (hp : p.length ≠ 0) : ∀ (d i j : Nat) (g : Int) (a : Bool), i + d = p.length → d < j → Zl k j p g a (i : Int) = some ((if Za (p.getD 0 T2.dflt).2.2.2.1 (p.drop i) = true then g else -1), a && qe2 (p.drop i), 0) := by
 intro d
 induction d with
 | zero =>
  intro i j g a hi hj
  obtain ⟨j, rfl⟩ := qW (by omega : 0 < j)
  rw [Zl, qq (by omega : ¬ (i : Int) < (p.length : Int)), qg, qo (by omega)]
  show _ = some ((if true = true then g else -1), a && true, (0 : Int))
  rw [qc rfl, Bool.and_true]
 | succ d ih =>
  intro i j g a hi hj
  obtain ⟨j, rfl⟩ := qW (by omega : 0 < j)
  have h3 : (0 : Int) ≤ (i : Int) := by omega
  have h4 : (i : Int) < (p.length : Int) := by omega
  rw [Zl, qw h4, qj, qc ⟨h3, h4, V6 0, by omega⟩, qe, qc ⟨fun _ => h3, fun _ => h4⟩, qc ⟨fun _ => h3, fun _ => h4⟩, qH i (by omega), ih (i + 1) j _ _ (by omega) (by omega), ih (i + 1) j _ _ (by omega) (by omega), qt p i T2.dflt (by omega)]
  show _ = some ((if ((p.getD i T2.dflt).2.2.2.1 == (p.getD 0 T2.dflt).2.2.2.1 && Za (p.getD 0 T2.dflt).2.2.2.1 (p.drop (i + 1))) = true then g else -1), a && ((p.getD i T2.dflt).2.2.1 == 1 && qe2 (p.drop (i + 1))), (0 : Int))
  rw [show p.getD (ql 0) T2.dflt = p.getD 0 T2.dflt from rfl]
  show (bif !((p.getD i T2.dflt).2.2.2.1 == (p.getD 0 T2.dflt).2.2.2.1) then _ else _) = _
  cases ((p.getD i T2.dflt).2.2.2.1 == (p.getD 0 T2.dflt).2.2.2.1)
  ·rw [qS1, qj, wE, qi Bool.false_ne_true, Bool.and_assoc]
   split <;> rfl
  ·rw [ve, qg, wH, Bool.and_assoc]
theorem qav (k : Nat) (hk : 1200 ≤ k) {l : List wz} (hz : vt l = 0) {s : Sp} (h0 : 0 ≤ s.1) (hs : s.1 < s.2) (h1 : s.2 ≤ 17179869184) (h2 : s.2 ≤ wQ l) : Y1 k l s = some (grS (zW s l), qe2 (zW s l), 0) := by
 have hne := qod hz h0 hs h2
 have hl := (ZK hz).1
 have hpl := qkL s l
 have hn : (zW s l).length ≠ 0 := fun h => hne (List.length_eq_zero_iff.1 h)
 unfold Y1
 rw [qgw k hk hz h0 (by omega) h1 h2, qp4 k hk hz h0 (by omega) h1 h2, qd, qc rfl, bne_self_eq_false, qg]
 dsimp only
 rw [show (((zW s l).length : Int) == 0) = false from beq_eq_false_iff_ne.2 (by omega), qg, qc ⟨V6 0, by omega⟩]
 have := qIy k (zW s l) (by omega) hn (zW s l).length 0 k ((zW s l).getD 0 T2.dflt).2.2.2.1 true (by omega) (by omega)
 rw [wv, wH] at this
 exact this
theorem qgv (k : Nat) (hk : 1200 ≤ k) {l : List wz} (hz : vt l = 0) {s : Sp} (h0 : 0 ≤ s.1) (hs : s.1 < s.2) (h1 : s.2 ≤ 17179869184) (h2 : s.2 ≤ wQ l) : Vn k l s = (grS (zW s l), qe2 (zW s l), 0) := by
 unfold Vn; rw [qav k hk hz h0 hs h1 h2]; rfl
def W5 (l : List wz) : List Sp → List wz
 | [] => []
 | s :: t => zW s l ++ W5 l t
def Qw : Int → Bool → Bool → List wz → Int × Bool
 | g, a, _, [] => (g, a)
 | g, a, f, x :: t => bif (!f && x.2.2.2.1 != g) then (-1, false) else Qw x.2.2.2.1 (a && x.2.2.1 == 1) false t
theorem qkI {g : Int} (r : List wz) : ∀ (p : List wz) (a : Bool), Za g p = true → Qw g a false (p ++ r) = Qw g (a && qe2 p) false r
 | [], a, _ => by rw [wk]; show _ = Qw g (a && true) false r; rw [Bool.and_true]
 | x :: t, a, h => by
  obtain ⟨h1, h2⟩ := Bool.and_eq_true_iff.1 (show (x.2.2.2.1 == g && Za g t) = true from h)
  rw [qne, Qw]
  have e : x.2.2.2.1 = g := by simpa using h1
  rw [e, bne_self_eq_false, XT, qg, qkI r t _ h2]
  show _ = Qw g (a && (x.2.2.1 == 1 && qe2 t)) false r
  rw [Bool.and_assoc]
theorem qkJ {g : Int} (r : List wz) : ∀ (p : List wz) (a : Bool), Za g p = false → Qw g a false (p ++ r) = (-1, false)
 | [], a, h => by cases h
 | x :: t, a, h => by
  rw [qne, Qw]
  by_cases e : x.2.2.2.1 = g
  ·have h2 : Za g t = false := by
    have h : (x.2.2.2.1 == g && Za g t) = false := h
    rw [e, beq_self_eq_true, wH] at h; exact h
   rw [e, bne_self_eq_false, XT, qg, qkJ r t _ h2]
  ·rw [bne_iff_ne.2 e]; rfl
theorem qsv : ∀ (p : List wz) (g : Int) (a : Bool), g < 0 → (Qw g a false p).1 < 0
 | [], g, _, h => h
 | x :: t, g, a, h => by
  rw [Qw]
  by_cases e : x.2.2.2.1 = g
  ·rw [e, bne_self_eq_false, XT, qg]; exact qsv t g _ h
  ·rw [bne_iff_ne.2 e]; show (-1 : Int) < 0; decide
set_option maxRecDepth 20000 in
theorem qv9 (k : Nat) (hk : 200000 ≤ k) (r : T28.T) (hz : vt r.2.2.1 = 0) (spans : List Sp) (hl : spans.length ≤ 256) (hs : ∀ s ∈ spans, 0 ≤ s.1 ∧ s.1 < s.2 ∧ s.2 ≤ 17179869184 ∧ s.2 ≤ wQ r.2.2.1) : qhk k r spans = some (Qw (-1) true true (W5 r.2.2.1 spans)) := by
 have hsl := (ZK hz).1
 have : ∀ (d i j : Nat) (g : Int) (a f : Bool), i + d = spans.length → d * 600 < j → VK k j g a f spans (spans.length : Int) (i : Int) r = some (Qw g a f (W5 r.2.2.1 (spans.drop i))) := by
  intro d
  induction d with
  | zero =>
   intro i j g a f hi hj
   obtain ⟨j, rfl⟩ := qW (by omega : 0 < j)
   rw [VK, qq (by omega : ¬ (i : Int) < (spans.length : Int)), qg, qo (by omega)]; rfl
  | succ d ih =>
   intro i j g a f hi hj
   obtain ⟨j, rfl⟩ := qW (by omega : 0 < j)
   have hm := hs (spans.getD i T21.dflt) (w8 _ _ _ (by omega))
   obtain ⟨s0, s1, s2, s3⟩ := hm
   have hpl := qkL (spans.getD i T21.dflt) r.2.2.1
   rw [VK, qw (by omega : (i : Int) < (spans.length : Int)), qj, qc ⟨by omega, by omega⟩, qe, qhT k (by omega) hz s0 (by omega) s2 s3, qsD k (by omega) hz s0 (by omega) s2 s3, qd, qc rfl, qt spans i T21.dflt (by omega), W5]
   generalize zW (spans.getD i T21.dflt) r.2.2.1 = P at *
   have inner : ∀ (e q j : Nat) (g : Int) (a f : Bool), q + e = P.length → d * 600 + e + 1 < j → VL k j g a f spans (spans.length : Int) (i : Int) P (P.length : Int) (q : Int) r = some (Qw g a f (P.drop q ++ W5 r.2.2.1 (spans.drop (i + 1)))) := by
    intro e
    induction e with
    | zero =>
     intro q j g a f hq hj
     obtain ⟨j, rfl⟩ := qW (by omega : 0 < j)
     rw [VL, qq (by omega : ¬ (q : Int) < (P.length : Int)), qg, qo (by omega : P.length ≤ q), wk, qH i (by omega)]
     have hj' : d * 600 < j := by omega
     have hi' : i + 1 + d = spans.length := by omega
     exact ih (i + 1) j g a f hi' hj'
    | succ e ihe =>
     intro q j g a f hq hj
     obtain ⟨j, rfl⟩ := qW (by omega : 0 < j)
     rw [VL, qw (by omega : (q : Int) < (P.length : Int)), qj, qc ⟨by omega, by omega⟩, qe, qH q (by omega), ihe (q + 1) j _ _ _ (by omega) (by omega), qt P q T2.dflt (by omega), qne, Qw]
     cases (!f && (P.getD q T2.dflt).2.2.2.1 != g) <;> rfl
   exact inner P.length 0 j g a f (by omega) (by omega)
 exact this spans.length 0 k (-1) true true (by omega) (by omega)
theorem qLH (k : Nat) (hk : 200000 ≤ k) (r : T28.T) (hz : vt r.2.2.1 = 0) (spans : List Sp) (hl : spans.length ≤ 256) (hs : ∀ s ∈ spans, 0 ≤ s.1 ∧ s.1 < s.2 ∧ s.2 ≤ 17179869184 ∧ s.2 ≤ wQ r.2.2.1) : QQ k r spans = Qw (-1) true true (W5 r.2.2.1 spans) := by
 unfold QQ; rw [qv9 k hk r hz spans hl hs]; rfl
theorem qBs (k : Nat) (r : T28.T) (hl : r.2.2.1.length ≤ 512) : qej k r = some (wQ r.2.2.1 == r.2.1.2) := by
 unfold qej wQ
 by_cases h : r.2.2.1.length = 0
 ·rw [qc h, qq (by omega : ¬ (qb r.2.2.1 : Int) > 0), qg]
  show some (r.2.1.2 == 0) = some (0 == r.2.1.2)
  rw [Bool.beq_comm]
 ·rw [qi h, qw (by omega : (qb r.2.2.1 : Int) > 0), qj, qiC hl h, qc ⟨by omega, by omega⟩, qe]
theorem qNI (k : Nat) (r : T28.T) (hl : r.2.2.1.length ≤ 512) : qij k r = (wQ r.2.2.1 == r.2.1.2) := by
 unfold qij; rw [qBs k r hl]; rfl
theorem qCb {r : Rn} (hg : good r) (a : Int) (s : Sp) (hb : r.2.2 = true) : qnL r a s = if max 0 (r.1 - s.2 + 1) < min r.2.1 (r.1 - s.1 + 1) then [(a + max 0 (r.1 - s.2 + 1), a + min r.2.1 (r.1 - s.1 + 1))] else [] := by
 obtain ⟨g1, g2, g3, g4, _⟩ := hg
 unfold qnL lo Go.AM.hi
 rw [hb]
 simp only [if_true]
 by_cases h : max 0 (r.1 - s.2 + 1) < min r.2.1 (r.1 - s.1 + 1)
 ·rw [qc h, qc (by omega)]
  rw [show a + (r.1 + 1 - min (r.1 + 1) s.2) = a + max 0 (r.1 - s.2 + 1) by omega, show a + max 0 (r.1 - s.2 + 1) + min (r.1 + 1) s.2 - max (r.1 - r.2.1 + 1) s.1 = a + min r.2.1 (r.1 - s.1 + 1) by omega]
 ·rw [qi h, qi (by omega)]
theorem qCc {r : Rn} (hg : good r) (a : Int) (s : Sp) (hb : r.2.2 = false) : qnL r a s = if max 0 (s.1 - r.1) < min r.2.1 (s.2 - r.1) then [(a + max 0 (s.1 - r.1), a + min r.2.1 (s.2 - r.1))] else [] := by
 obtain ⟨g1, g2, g3, g4, _⟩ := hg
 unfold qnL lo Go.AM.hi
 rw [hb]
 simp only [qE, if_false]
 by_cases h : max 0 (s.1 - r.1) < min r.2.1 (s.2 - r.1)
 ·rw [qc h, qc (by omega)]
  rw [show a + (max r.1 s.1 - r.1) = a + max 0 (s.1 - r.1) by omega, show a + max 0 (s.1 - r.1) + min (r.1 + r.2.1 - 1 + 1) s.2 - max r.1 s.1 = a + min r.2.1 (s.2 - r.1) by omega]
 ·rw [qi h, qi (by omega)]
theorem qsH (k : Nat) (hk : 2100 ≤ k) (m : List Rn) (hc : Chk m) (s : Sp) (s0 : 0 ≤ s.1 ∧ s.1 ≤ 17179869184) (s1 : 0 ≤ s.2 ∧ s.2 ≤ 17179869184) : ∀ (d i j : Nat) (a : Int) (out : List Sp), i + d = m.length → d + 1 < j → 0 ≤ a → a ≤ (i : Int) * 17179869184 → out.length ≤ i → out ++ Qv (m.drop i) a s = Qv m 0 s →
  QW k j m a (i : Int) s out = some (nf (Qv m 0 s), 0) := by
 intro d
 have hl := hc.len
 induction d with
 | zero =>
  intro i j a out hi hj h0 h1 ho he
  obtain ⟨j, rfl⟩ : ∃ q, j = q + 1 + 1 := ⟨j - 2, by omega⟩
  rw [QW, qq (by omega : ¬ (i : Int) < (m.length : Int)), qg, qct]
  rw [qo (by omega)] at he
  rw [show Qv ([] : List Rn) a s = [] from rfl, zH] at he
  rw [he, Xy k (by omega), qb0 k (by omega), qo4 hc]
  rfl
 | succ d ih =>
  intro i j a out hi hj h0 h1 ho he
  obtain ⟨j, rfl⟩ := qW (by omega : 0 < j)
  have hg : good (m.getD i T3.dflt) := hc.goods.mem _ (w8 _ _ _ (by omega))
  have hx : (i : Int) < (m.length : Int) := by omega
  have hx0 : (0 : Int) ≤ (i : Int) := by omega
  rw [qt m i T3.dflt (by omega), qo7, ← qeY] at he
  rw [QW, qw hx, qj, qc ⟨hx0, hx, hx0, hx, hx0, hx⟩, qc ⟨hx0, hx⟩, qe, qH i (by omega)]
  generalize m.getD i T3.dflt = r at *
  obtain ⟨g1, g2, g3, g4, _⟩ := _root_.id hg
  rw [qmE, qjl, qmE, qjl, qm (i := a + r.2.1) (by omega) (by omega)]
  rw [qm (i := r.1 - s.2) (by omega) (by omega), qm (i := r.1 - s.1) (by omega) (by omega), qm (i := s.1 - r.1) (by omega) (by omega), qm (i := s.2 - r.1) (by omega) (by omega)]
  rw [qm (i := r.1 - s.2 + 1) (by omega) (by omega), qm (i := r.1 - s.1 + 1) (by omega) (by omega)]
  rw [qm (i := a + max 0 (r.1 - s.2 + 1)) (by omega) (by omega), qm (i := a + min r.2.1 (r.1 - s.1 + 1)) (by omega) (by omega), qm (i := a + max 0 (s.1 - r.1)) (by omega) (by omega), qm (i := a + min r.2.1 (s.2 - r.1)) (by omega) (by omega)]
  cases hb : r.2.2
  ·rw [qCc hg a s hb] at he
   rw [qg]
   by_cases h : max 0 (s.1 - r.1) < min r.2.1 (s.2 - r.1)
   ·rw [qc h] at he
    rw [qw h, qj, qc (by rw [qz]; omega), qc ⟨hx0, hx⟩]
    exact ih (i + 1) j _ _ (by omega) (by omega) (by omega) (by omega) (by rw [qT, qz]; omega) he
   ·rw [qi h, zH] at he
    rw [qq h, qg, qc ⟨hx0, hx⟩]
    exact ih (i + 1) j _ _ (by omega) (by omega) (by omega) (by omega) (by omega) he
  ·rw [qCb hg a s hb] at he
   rw [qj, qc ⟨hx0, hx, hx0, hx, hx0, hx⟩]
   by_cases h : max 0 (r.1 - s.2 + 1) < min r.2.1 (r.1 - s.1 + 1)
   ·rw [qc h] at he
    rw [qw h, qj, qc (by rw [qz]; omega), qc ⟨hx0, hx⟩]
    exact ih (i + 1) j _ _ (by omega) (by omega) (by omega) (by omega) (by rw [qT, qz]; omega) he
   ·rw [qi h, zH] at he
    rw [qq h, qg, qc ⟨hx0, hx⟩]
    exact ih (i + 1) j _ _ (by omega) (by omega) (by omega) (by omega) (by omega) he
theorem qhX (k : Nat) (hk : 2100 ≤ k) (m : List Rn) (s : Sp) : qdT k m s = some (zZ m s) := by
 unfold qdT zZ
 rw [vU k (by omega), Qy k (by omega), qd, qc rfl, qo5]
 by_cases h1 : chk m = 0
 ·have hc := wU.1 h1
  have hl := hc.len
  rw [show (chk m != 0) = false by simp [h1], qg, qi (fun h : chk m ≠ 0 => h h1)]
  by_cases h2 : s.1 < 0 ∨ s.1 > s.2 ∨ s.2 > 17179869184
  ·rw [qw h2, qj, qc h2]
  ·rw [qq h2, qg, qi h2]
   exact qsH k hk m hc s ⟨by omega, by omega⟩ ⟨by omega, by omega⟩ m.length 0 k 0 [] (by omega) (by omega) (by omega) (by omega) (by simp) rfl
 ·rw [show (chk m != 0) = true from bne_iff_ne.2 h1, qj, qc h1]
theorem qsI (k : Nat) (hk : 2100 ≤ k) (m : List Rn) (s : Sp) : qia k m s = zZ m s := by
 unfold qia; rw [qhX k hk]; rfl
theorem qbo {l : List Ro} {W L id : Int} (h : (qQ l W L id).2 = 0) : Reg l W L ∧ CutIn l W L id (qQ l W L id).1 512 := by
 have hz : vp l W L id = 0 := by
  unfold qQ at h
  by_cases h2 : vp l W L id = 0
  ·exact h2
  ·rw [qc h2] at h; exact absurd h h2
 obtain ⟨reg, kn⟩ := Zi.1 hz
 have hC : qQ l W L id = W1 l W L 512 id := by unfold qQ; rw [qi (fun h => h hz)]
 refine ⟨reg, qJy reg 512 id _ (reg.anc kn) ?_⟩
 rw [← hC, ← h]
end Go.AM
namespace Go.AM
open Go Go.Proofs
noncomputable section
def qs3 (r : T21.T × Bool) : AV := .tup [.agg (qB (qr T21 r.1)), rb r.2]
abbrev qy5 (a : T4.T) (b : Int) (d : Int) (r : T21.T × Bool) : Prop := CC Tryz.prog 148 [.agg (qB (qr T4 a)), ri b, ri d] [] (qs3 r) (nb r)
def qea (k : Nat) (a : T4.T) (b : Int) (d : Int) : Option (T21.T × Bool) :=
 bif a.2.2.1 then
 some ((qa .i64 (a.2.1 - qa .i64 ((if qa .i64 (a.1 + a.2.1) < d then qa .i64 (a.1 + a.2.1) else d) - a.1)), qa .i64 (a.2.1 - qa .i64 ((if a.1 > b then a.1 else b) - a.1))), decide (qa .i64 (a.2.1 - qa .i64 ((if qa .i64 (a.1 + a.2.1) < d then qa .i64 (a.1 + a.2.1) else d) - a.1)) < qa .i64 (a.2.1 - qa .i64 ((if a.1 > b then a.1 else b) - a.1))))
 else
 some ((qa .i64 ((if a.1 > b then a.1 else b) - a.1), qa .i64 ((if qa .i64 (a.1 + a.2.1) < d then qa .i64 (a.1 + a.2.1) else d) - a.1)), decide (qa .i64 ((if a.1 > b then a.1 else b) - a.1) < qa .i64 ((if qa .i64 (a.1 + a.2.1) < d then qa .i64 (a.1 + a.2.1) else d) - a.1)))
def qif := fun k a b d => (qea k a b d).getD ((T21).dflt, false)
def qJ5 (k : Nat) : Ke := (148, mo 3, fun
 | [.agg e, .r (.v (.int .i64 b)), .r (.v (.int .i64 d))], [] => (qX [] T4 e).bind fun a => some (.one (qs3 (qif k a b d), []))
 | _, _ => none)
theorem qK4 (k a b d r) (h : qea k a b d = some r): qy5 a b d r := qO Tryz.f148 (go (qA []) [] [] [.autoB [6, 7] true []] (qu h fun h => gL h))
theorem qI6 {k a b d} (h : (qea k a b d).isSome): qy5 a b d (qif k a b d) := qJ h (qK4 k a b d)
def qk4 (r : List T7.T × Int) : AV := .tup [ro T7 r.1, ri r.2]
abbrev qy3 (a : List T5.T) (b : T23.T) (d : List T7.T) (e : Int) (r : List T7.T × Int) : Prop := CC Tryz.prog 102 [ro T5 a, .agg (qB (qr T23 b)), ro T7 d, ri e] [] (qk4 r) (nb r)
def qDE := fun y0 y1 y2 y3 => (⟨qM 120 [(2, ro T7 y0), (10, .ptr 1000000 0 0), (13, .own 1000001 0), (14, ri y1)], [(1000000, 0, .var 45 (qB (qr T4 y2))), (1000001, 0, .row 127 T7 y3)]⟩ : St)
def qxZ := fun y0 y1 y2 y3 y4 y5 y6 => (⟨qM 120 [(2, ro T7 y0), (10, .ptr 1000000 0 0), (13, .own 1000001 0), (14, ri y1), (15, .ptr 1000002 0 0), (17, ro T21 y2), (19, ri y3)], [(1000000, 0, .var 45 (qB (qr T4 y4))), (1000001, 0, .row 127 T7 y5), (1000002, 0, .var 91 (qB (qr T21 y6)))]⟩ : St)
mutual
def Wr (k : Nat) : Nat → List T7.T → Int → T4.T → List T7.T → Option (List T7.T × Int)
 | 0, _, _, _, _ => none
 | j + 1, y0, y1, y2, y3 =>
 bif y1 < y0.length then
 if (0 ≤ y1) ∧ (y1 < y0.length) ∧ (0 ≤ y1) ∧ (y1 < y0.length) ∧ ((qea k y2 (y0.getD y1.toNat T7.dflt).1.1 (y0.getD y1.toNat T7.dflt).1.2.1).isSome) then
 bif (! (qif k y2 (y0.getD y1.toNat T7.dflt).1.1 (y0.getD y1.toNat T7.dflt).1.2.1).2) then
 Wr k j y0 (qa .i64 (y1 + 1)) y2 y3
 else
 if (0 ≤ y1) ∧ (y1 < y0.length) ∧ (0 ≤ y1) ∧ (y1 < y0.length) ∧ ((qdT k y2.2.2.2 (y0.getD y1.toNat T7.dflt).1.2.2).isSome) then
 Zr k j y0 y1 ((qia k y2.2.2.2 (y0.getD y1.toNat T7.dflt).1.2.2).1) 0 y2 y3 ((qif k y2 (y0.getD y1.toNat T7.dflt).1.1 (y0.getD y1.toNat T7.dflt).1.2.1).1)
 else none
 else none
 else
 bif (↑y3.length : Int) > (128 : Int) then
 some ([], 8)
 else
 some (y3, 0)
def Zr (k : Nat) : Nat → List T7.T → Int → List T21.T → Int → T4.T → List T7.T → T21.T → Option (List T7.T × Int)
 | 0, _, _, _, _, _, _, _ => none
 | j + 1, y0, y1, y2, y3, y4, y5, y6 =>
 bif y3 < y2.length then
 if (0 ≤ y3) ∧ (y3 < y2.length) ∧ (0 ≤ y3) ∧ (y3 < y2.length) then
 if (0 ≤ y1) ∧ (y1 < y0.length) ∧ (0 ≤ y1) ∧ (y1 < y0.length) ∧ ((y5.length + [((y6.1, y6.2, y2.getD y3.toNat T21.dflt), (y0.getD y1.toNat T7.dflt).2)].length) * (48 : Nat) ≤ (140737488355328 : Nat)) then
 Zr k j y0 y1 y2 (qa .i64 (y3 + 1)) y4 (y5 ++ [((y6.1, y6.2, y2.getD y3.toNat T21.dflt), (y0.getD y1.toNat T7.dflt).2)]) y6
 else none
 else none
 else
 Wr k j y0 (qa .i64 (y1 + 1)) y4 y5
end
def qd8 (k : Nat) (a : List T5.T) (b : T23.T) (d : List T7.T) (e : Int) : Option (List T7.T × Int) :=
 if ((wR k a b e).isSome) then
 bif ((vY k a b e).2 != (0 : Int)) then
 some ([], (vY k a b e).2)
 else
 if ((qbu k d).isSome) then
 bif (qak k d != (0 : Int)) then
 some ([], qak k d)
 else
 Wr k k d 0 ((vY k a b e).1) ([])
 else none
 else none
def XM := fun k a b d e => (qd8 k a b d e).getD ([], 0)
def qJ3 (k : Nat) : Ke := (102, mo 4, fun
 | [.r (.ro m f), .agg l, .r (.ro n i), .r (.v (.int .i64 e))], [] => (qC m T5 f).bind fun a => (qX [] T23 l).bind fun b => (qC n T7 i).bind fun d => some (.one (qk4 (XM k a b d e), []))
 | _, _ => none)
def qzT (k : Nat) : Calld := qA [qnW k, qnV k, qJ5 k, qJP k]
def quR : List (Nat × List Cmd) := [(9, [.row 13 127 T7, .autoB [2, 10, 13, 14] false []]), (15, [.row 13 127 T7, .autoB [2, 10, 13, 14, 15, 17, 19] false []])]
abbrev qzG := EP Tryz.f102 0 qk4 nb
theorem qvr (k) : ∀ j, (∀ {y0 y1 y2 y3}, qzG 9 (qDE y0 y1 y2 y3) (Wr k j y0 y1 y2 y3)) ∧ (∀ {y0 y1 y2 y3 y4 y5 y6}, qzG 15 (qxZ y0 y1 y2 y3 y4 y5 y6) (Zr k j y0 y1 y2 y3 y4 y5 y6))
 | 0 => by and_intros <;> intros <;> exact e0
 | j + 1 => by
  have ih := @qvr k j
  have g := @go (qzT k) [] quR [.frz 8 false (RTy.list T7), .autoB [8, 9] true []]
  refine ⟨?_, ?_⟩
  ·intro y0 y1 y2 y3 r h
   rw [Wr] at h
   exact g (gS h (fun h => gN h (fun q => qf q.1 (qf q.2.1 (qf q.2.2.1 (qf q.2.2.2.1 (qf (qI6 q.2.2.2.2) qP))))) fun h => gS h (fun h => gD h 9 ih.1) fun h => gN h (fun q => qf q.1 (qf q.2.1 (qf q.2.2.1 (qf q.2.2.2.1 (qf (qIM q.2.2.2.2) qP))))) fun h => gD h 15 ih.2) fun h => qu h fun h => gL h)
  ·intro y0 y1 y2 y3 y4 y5 y6 r h
   rw [Zr] at h
   exact g (gS h (fun h => gN h YW fun h => gN h (fun q => qf q.1 (qf q.2.1 (qf q.2.2.1 (qf q.2.2.2.1 (qf q.2.2.2.2 qP))))) fun h => gD h 15 ih.2) fun h => gD h 9 ih.1)
theorem qK2 (k a b d e r) (h : qd8 k a b d e = some r): qy3 a b d e r := qO Tryz.f102 (go (qzT k) [] quR [.frz 8 false (RTy.list T7), .autoB [8, 9] true []] (qv h qur fun h => qu h fun h => qv h quq fun h => qu h fun h => gD h 9 (qvr k k).1))
theorem qI4 {k a b d e} (h : (qd8 k a b d e).isSome): qy3 a b d e (XM k a b d e) := qJ h (qK2 k a b d e)
end
def acL (c : Ch) (a b : Int) : Int := if c.2.2.1 = true then c.2.1 - (b - c.1) else a - c.1
def acR (c : Ch) (a b : Int) : Int := if c.2.2.1 = true then c.2.1 - (a - c.1) else b - c.1
def qnM (c : Ch) (x : wO) : List wO := if max x.1.1 c.1 ≥ min x.1.2.1 (c.1 + c.2.1) then [] else
 (zZ c.2.2.2 x.1.2.2).1.map fun s => ((acL c (max x.1.1 c.1) (min x.1.2.1 (c.1 + c.2.1)), acR c (max x.1.1 c.1) (min x.1.2.1 (c.1 + c.2.1)), s), x.2)
def Qs (c : Ch) : List wO → List wO
 | [] => []
 | x :: t => qnM c x ++ Qs c t
theorem qrT {m : List Rn} (hc : Chk m) {x : wO} (hx : SpotOk x) : (zZ m x.1.2.2).2 = 0 ∧ (zZ m x.1.2.2).1.length ≤ 256 := by
 obtain ⟨⟨a, b, c, d, e, f⟩, _, _, _, _⟩ := hx
 unfold zZ
 rw [qi (fun h => h (wU.2 hc)), qi (by omega)]
 refine ⟨rfl, ?_⟩
 have h1 := qbW (qjc hc x.1.2.2)
 have h2 := qks m 0 x.1.2.2
 have h3 := hc.len
 show (nf (Qv m 0 x.1.2.2)).length ≤ 256
 omega
theorem qED (k : Nat) (a b : Int) (sp : List wO) (len i : Int) (fo : List Sp) (c : Ch) (x : wO) (hf : fo.length ≤ 256) : ∀ (d q n : Nat) (out : List wO), q + d = fo.length → out.length ≤ 100000 + q →
  ZB k (n + d + 1) a b sp len i fo (fo.length : Int) (q : Int) c out x = ZS k n sp len (qa .i64 (i + 1)) c (out ++ (fo.drop q).map fun s => ((a, b, s), x.2)) := by
 intro d
 induction d with
 | zero =>
  intro q n out hq ho
  rw [ZB, qq (by omega : ¬ (q : Int) < (fo.length : Int)), qg, qo (by omega), List.map_nil, zH]
 | succ d ih =>
  intro q n out hq ho
  rw [show n + (d + 1) + 1 = (n + d + 1) + 1 from rfl, ZB, qw (by omega : (q : Int) < (fo.length : Int)), qj, qc ⟨by omega, by omega⟩, qe, qc (by rw [qz]; omega), qH q (by omega), ih (q + 1) n _ (by omega) (by rw [qT, qz]; omega), qt fo q T21.dflt (by omega), List.map_cons, qeY]
  rfl
set_option maxRecDepth 20000 in
theorem qIC (k : Nat) (hk : 2100 ≤ k) (sp : List wO) (hs : ∀ x ∈ sp, SpotOk x) (hsl : sp.length ≤ 128) (c : Ch) (c0 : 0 ≤ c.1) (c1 : c.1 + c.2.1 ≤ 12000) (c2 : 0 ≤ c.2.1) (hc : Chk c.2.2.2) : ∀ (d i j : Nat) (out : List wO), i + d = sp.length → d * 258 < j → out.length ≤ i * 256 →
  ZS k j sp (sp.length : Int) (i : Int) c out = some (if (out ++ Qs c (sp.drop i)).length > 128 then ([], 8) else (out ++ Qs c (sp.drop i), 0)) := by
 intro d
 induction d with
 | zero =>
  intro i j out hi hj ho
  obtain ⟨j, rfl⟩ := qW (by omega : 0 < j)
  rw [ZS, qq (by omega : ¬ (i : Int) < (sp.length : Int)), qg, qo (by omega), Qs, zH]
  by_cases h : out.length > 128
  ·rw [qw (by omega : (out.length : Int) > 128), qc h]; rfl
  ·rw [qq (by omega : ¬ (out.length : Int) > 128), qi h]; rfl
 | succ d ih =>
  intro i j out hi hj ho
  have hx : SpotOk (sp.getD i T7.dflt) := hs _ (w8 _ _ _ (by omega))
  obtain ⟨j, rfl⟩ := qW (by omega : 0 < j)
  rw [ZS, qw (by omega : (i : Int) < (sp.length : Int)), qj, qc ⟨by omega, by omega⟩, qe, qt sp i T7.dflt (by omega), Qs]
  generalize sp.getD i T7.dflt = x at *
  obtain ⟨f1, f2⟩ := qrT hc hx
  obtain ⟨⟨x1, x2, x3, x4, x5, x6⟩, _, _, _, _⟩ := _root_.id hx
  rw [qm (i := c.1 + c.2.1) (by omega) (by omega), qmE, qjl]
  have ha : qiT k c (max x.1.1 c.1) (min x.1.2.1 (c.1 + c.2.1)) = some (acL c (max x.1.1 c.1) (min x.1.2.1 (c.1 + c.2.1)), acR c (max x.1.1 c.1) (min x.1.2.1 (c.1 + c.2.1))) := by
   unfold qiT acL acR
   rw [qm (i := min x.1.2.1 (c.1 + c.2.1) - c.1) (by omega) (by omega), qm (i := max x.1.1 c.1 - c.1) (by omega) (by omega), qm (by omega) (by omega), qm (by omega) (by omega)]
   cases c.2.2.1 <;> rfl
  unfold qnM
  by_cases h : max x.1.1 c.1 ≥ min x.1.2.1 (c.1 + c.2.1)
  ·rw [qw h, qj, qc h, wk, qH i (by omega)]
   exact ih (i + 1) j out (by omega) (by omega) (by omega)
  ·obtain ⟨j, rfl⟩ : ∃ q, j = q + (zZ c.2.2.2 x.1.2.2).1.length + 1 := ⟨j - (zZ c.2.2.2 x.1.2.2).1.length - 1, by omega⟩
   have h18 := qED k (acL c (max x.1.1 c.1) (min x.1.2.1 (c.1 + c.2.1))) (acR c (max x.1.1 c.1) (min x.1.2.1 (c.1 + c.2.1))) sp (sp.length : Int) (i : Int) (zZ c.2.2.2 x.1.2.2).1 c x f2 (zZ c.2.2.2 x.1.2.2).1.length 0 j out (by omega) (by omega)
   rw [qq h, qg, qi h]
   unfold qm7
   rw [ha, qmv k hk, qxv k hk, qd, qc rfl, qd, qc rfl, f1]
   show ZB k (j + (zZ c.2.2.2 x.1.2.2).1.length + 1) _ _ sp _ _ (zZ c.2.2.2 x.1.2.2).1 _ 0 c out x = _
   refine h18.trans ?_
   rw [wv, qH i (by omega), ih (i + 1) j _ (by omega) (by omega) (by rw [qT, List.length_map]; omega), qeY]
def zG (l : List Ro) (W L : Int) (sp : List wO) (id : Int) : List wO × Int :=
 if (qQ l W L id).2 ≠ 0 then ([], (qQ l W L id).2) else if zU sp ≠ 0 then ([], zU sp)
 else if (Qs (qQ l W L id).1 sp).length > 128 then ([], 8) else (Qs (qQ l W L id).1 sp, 0)
theorem qcK (k : Nat) (hk : 300000 ≤ k) (l : List Ro) (web : Int × Int) (sp : List wO) (id : Int) : qiR k l web sp id = some (zG l web.1 web.2 sp id) := by
 unfold qiR zG
 rw [qhn k hk, qo3 k hk, qdQ k (by omega), qnB k (by omega), qd, qc rfl, qd, qc rfl]
 by_cases h1 : (qQ l web.1 web.2 id).2 = 0
 ·obtain ⟨reg, ci⟩ := qbo h1
  have hsz := reg.small 512 id
  generalize (qQ l web.1 web.2 id) = o at *
  obtain ⟨c1, c2, c3, c4, c5, _⟩ := ci
  have hw := reg.w
  rw [show (o.2 != 0) = false by simp [h1], qg, qi (fun h : o.2 ≠ 0 => h h1)]
  by_cases h2 : zU sp = 0
  ·obtain ⟨s1, s2⟩ := qdF h2
   rw [show (zU sp != 0) = false by simp [h2], qg, qi (fun h : zU sp ≠ 0 => h h2)]
   have hwid : 0 ≤ o.1.2.1 := by
    by_cases h : 0 ≤ o.1.2.1
    ·exact h
    ·exfalso
     rw [c3] at h
     unfold wh at h
     by_cases h0 : id = 0
     ·rw [qc h0] at h; exact h (by show 0 ≤ web.1; omega)
     ·rw [qi h0] at h
      cases e : look l id with
      | none => rw [e] at h; exact h (V6 _)
      | some r =>
       rw [e] at h
       have := (reg.wl r (zy e).1).w0
       exact h (by show 0 ≤ r.2.2.2.1; omega)
   have := qIC k (by omega) sp s2 s1 o.1 c1 (by omega) hwid c4 sp.length 0 k [] (by omega) (by omega) (by simp)
   exact this
  ·rw [bne_iff_ne.2 h2, qc h2]; rfl
 ·rw [bne_iff_ne.2 h1, qc h1]; rfl
theorem qmq (k : Nat) (hk : 300000 ≤ k) (l : List Ro) (web : Int × Int) (sp : List wO) (id : Int) : qcY k l web sp id = zG l web.1 web.2 sp id := by
 unfold qcY; rw [qcK k hk]; rfl
theorem qmY {l : List Ro} {W L id : Int} {sp : List wO} : (zG l W L sp id).1.length ≤ 128 := by
 unfold zG
 by_cases h1 : (qQ l W L id).2 ≠ 0
 ·rw [qc h1]; exact Q9 _
 ·rw [qi h1]
  by_cases h2 : zU sp ≠ 0
  ·rw [qc h2]; exact Q9 _
  ·rw [qi h2]
   by_cases h3 : (Qs (qQ l W L id).1 sp).length > 128
   ·rw [qc h3]; exact Q9 _
   ·rw [qi h3]; show (Qs (qQ l W L id).1 sp).length ≤ 128; omega
def qh7 : List wO → Int → Int
 | [], n => n
 | x :: t, n => qh7 t (if x.2.2 > n then x.2.2 else n)
theorem qID (k : Nat) (l : List wO) (hl : l.length ≤ 128) : ∀ (d i j : Nat) (n : Int), i + d = l.length → d < j → Yc k j n l (l.length : Int) (i : Int) = some (qh7 (l.drop i) n, 0) := by
 intro d
 induction d with
 | zero =>
  intro i j n hi hj
  obtain ⟨j, rfl⟩ := qW (by omega : 0 < j)
  rw [Yc, qq (by omega : ¬ (i : Int) < (l.length : Int)), qg, qo (by omega)]; rfl
 | succ d ih =>
  intro i j n hi hj
  obtain ⟨j, rfl⟩ := qW (by omega : 0 < j)
  rw [Yc, qw (by omega : (i : Int) < (l.length : Int)), qj, qc ⟨by omega, by omega⟩, qe, qH i (by omega), qt l i T7.dflt (by omega), qh7, ih (i + 1) j _ (by omega) (by omega)]
def QR (l : List Ro) (W L : Int) (sp : List wO) (id : Int) : Int × Int := if (zG l W L sp id).2 ≠ 0 then (0, (zG l W L sp id).2) else (qh7 (zG l W L sp id).1 0, 0)
theorem qcL (k : Nat) (hk : 300000 ≤ k) (l : List Ro) (web : Int × Int) (sp : List wO) (id : Int) : qiS k l web sp id = some (QR l web.1 web.2 sp id) := by
 have hl := qmY (l := l) (W := web.1) (L := web.2) (id := id) (sp := sp)
 unfold qiS QR
 rw [qcK k hk, qmq k hk, qd, qc rfl]
 by_cases h : (zG l web.1 web.2 sp id).2 = 0
 ·rw [show ((zG l web.1 web.2 sp id).2 != 0) = false by simp [h], qg, qi (fun h' : (zG l web.1 web.2 sp id).2 ≠ 0 => h' h)]
  exact qID k _ hl (zG l web.1 web.2 sp id).1.length 0 k 0 (by omega) (by omega)
 ·rw [bne_iff_ne.2 h, qc h]; rfl
theorem qmr (k : Nat) (hk : 300000 ≤ k) (l : List Ro) (web : Int × Int) (sp : List wO) (id : Int) : qf6 k l web sp id = QR l web.1 web.2 sp id := by
 unfold qf6; rw [qcL k hk]; rfl
end Go.AM
namespace Go.AM
open Go Go.Proofs
noncomputable section
def qk2 (r : Int × Int) : AV := .tup [ri r.1, ri r.2]
abbrev qyR (a : List T7.T) (r : Int × Int) : Prop := CC Tryz.prog 139 [ro T7 a] [] (qk2 r) (nb r)
def qDw := fun y0 y1 y2 => (⟨qM 26 [(0, ro T7 y0), (5, ri y1), (6, ri y2)], []⟩ : St)
def VB (k : Nat) : Nat → List T7.T → Int → Int → Option (Int × Int)
 | 0, _, _, _ => none
 | j + 1, y0, y1, y2 =>
 bif y2 < y0.length then
 if (0 ≤ y2) ∧ (y2 < y0.length) then
 VB k j y0 (if (y0.getD y2.toNat T7.dflt).2.2 > y1 then (y0.getD y2.toNat T7.dflt).2.2 else y1) (qa .i64 (y2 + 1))
 else none
 else
 some (y1, 0)
def qdZ (k : Nat) (a : List T7.T) : Option (Int × Int) :=
 if ((qbu k a).isSome) then
 bif (qak k a != (0 : Int)) then
 some (0, qak k a)
 else
 VB k k a 0 0
 else none
def qeM := fun k a => (qdZ k a).getD (0, 0)
def qJW (k : Nat) : Ke := (139, mo 1, fun
 | [.r (.ro d b)], [] => (qC d T7 b).bind fun a => some (.one (qk2 (qeM k a), []))
 | _, _ => none)
def quK : List (Nat × List Cmd) := [(6, [.autoB [0, 5, 6] false []])]
abbrev qMm := EP Tryz.f139 0 qk2 nb
theorem qvl (k) : ∀ j, (∀ y0 y1 y2, qMm 6 (qDw y0 y1 y2) (VB k j y0 y1 y2))
 | 0 => by intros; exact e0
 | j + 1 => by
  have ih := @qvl k j
  ·intro y0 y1 y2 r h
   rw [VB] at h
   exact go (qA [qnV k]) [] quK [.autoB [2, 3] true []] (gS h (fun h => qU h fun h => gC h 6 (ih _ _ _ _)) fun h => gL h)
theorem qKQ (k a r) (h : qdZ k a = some r): qyR a r := qO Tryz.f139 (go (qA [qnV k]) [] quK [.autoB [2, 3] true []] (qv h quq fun h => qu h fun h => gC h 6 ((qvl k k) _ _ _ _)))
theorem qIW {k a} (h : (qdZ k a).isSome): qyR a (qeM k a) := qJ h (qKQ k a)
def qs2 (r : Int × Int) : AV := .tup [ri r.1, ri r.2]
abbrev qy4 (a : List T5.T) (b : T23.T) (d : List T7.T) (e : Int) (r : Int × Int) : Prop := CC Tryz.prog 98 [ro T5 a, .agg (qB (qr T23 b)), ro T7 d, ri e] [] (qs2 r) (nb r)
def qd9 (k : Nat) (a : List T5.T) (b : T23.T) (d : List T7.T) (e : Int) : Option (Int × Int) :=
 if ((qd8 k a b d e).isSome) then
 bif ((XM k a b d e).2 != (0 : Int)) then
 some (0, (XM k a b d e).2)
 else
 if ((qdZ k (XM k a b d e).1).isSome) then
 some ((qeM k (XM k a b d e).1).1, (qeM k (XM k a b d e).1).2)
 else none
 else none
def qcc := fun k a b d e => (qd9 k a b d e).getD (0, 0)
def qJ4 (k : Nat) : Ke := (98, mo 4, fun
 | [.r (.ro l f), .agg i, .r (.ro m g), .r (.v (.int .i64 e))], [] => (qC l T5 f).bind fun a => (qX [] T23 i).bind fun b => (qC m T7 g).bind fun d => some (.one (qs2 (qcc k a b d e), []))
 | _, _ => none)
theorem qK3 (k a b d e r) (h : qd9 k a b d e = some r): qy4 a b d e r := qO Tryz.f98 (go (qA [qJ3 k, qJW k]) [] [] [.autoB [8, 9] true []] (qv h qI4 fun h => qu h fun h => qv h qIW fun h => gL h))
theorem qI5 {k a b d e} (h : (qd9 k a b d e).isSome): qy4 a b d e (qcc k a b d e) := qJ h (qK3 k a b d e)
end
theorem Nr.pos : ∀ {b : Int} {l : List Sp}, Nr b l → ∀ s ∈ l, s.1 < s.2
 | _, [], _, s, hs => by simp at hs
 | b, u :: t, ⟨_, h2, h3⟩, s, hs => by
  rcases qK.1 hs with e | h
  ·rw [e]; exact h2
  ·exact Nr.pos h3 s h
theorem qEU {m : List Rn} (hc : Chk m) {x : wO} (hx : SpotOk x) {s : Sp} (hs : s ∈ (zZ m x.1.2.2).1) : 0 ≤ s.1 ∧ s.1 < s.2 ∧ s.2 ≤ 17179869184 := by
 obtain ⟨⟨a, b, c, d, e, f⟩, _, _, _, _⟩ := hx
 unfold zZ at hs
 rw [qi (fun h => h (wU.2 hc)), qi (by omega)] at hs
 have h1 := (qcQ (qjc hc x.1.2.2)).mem s hs
 have h2 := (qjo (qjc hc x.1.2.2)).pos s hs
 exact ⟨h1.1, h2, h1.2.2⟩
theorem qEV {c : Ch} {x y : wO} (h : y ∈ qnM c x) : max x.1.1 c.1 < min x.1.2.1 (c.1 + c.2.1) ∧ ∃ s ∈ (zZ c.2.2.2 x.1.2.2).1, y = ((acL c (max x.1.1 c.1) (min x.1.2.1 (c.1 + c.2.1)), acR c (max x.1.1 c.1) (min x.1.2.1 (c.1 + c.2.1)), s), x.2) := by
 unfold qnM at h
 by_cases h1 : max x.1.1 c.1 ≥ min x.1.2.1 (c.1 + c.2.1)
 ·rw [qc h1] at h; exact absurd h (List.not_mem_nil)
 ·rw [qi h1] at h
  obtain ⟨s, hs, e⟩ := List.mem_map.1 h
  exact ⟨by omega, s, hs, e.symm⟩
theorem qtd {c : Ch} : ∀ {sp : List wO} {y : wO}, y ∈ Qs c sp → ∃ x ∈ sp, y ∈ qnM c x
 | [], y, h => by simp [Qs] at h
 | x :: t, y, h => by
  unfold Qs at h
  rcases zX.1 h with h | h
  ·exact ⟨x, by simp, h⟩
  ·obtain ⟨z, hz, hy⟩ := qtd h
   exact ⟨z, by simp [hz], hy⟩
theorem qQ5 {c : Ch} {a b : Int} (h0 : c.1 ≤ a) (h1 : a < b) (h2 : b ≤ c.1 + c.2.1) : 0 ≤ acL c a b ∧ acL c a b < acR c a b ∧ acR c a b ≤ c.2.1 := by
 unfold acL acR
 cases c.2.2.1
 ·rw [qi (by decide), qi (by decide)]; omega
 ·rw [qc rfl, qc rfl]; omega
theorem qLT {c : Ch} (c1 : c.2.1 ≤ 12000) (hc : Chk c.2.2.2) {sp : List wO} (hs : ∀ x ∈ sp, SpotOk x) : ∀ y ∈ Qs c sp, SpotOk y := fun y hy => by
 obtain ⟨x, hx, hy⟩ := qtd hy
 have ok := hs x hx
 obtain ⟨h1, s, h2, e⟩ := qEV hy
 obtain ⟨f1, f2, f3⟩ := qEU hc ok h2
 obtain ⟨a1, a2, a3⟩ := qQ5 (c := c) (a := max x.1.1 c.1) (b := min x.1.2.1 (c.1 + c.2.1)) (by omega) h1 (by omega)
 obtain ⟨_, _, _, k, l⟩ := ok
 subst e
 exact ⟨⟨a1, by show acL _ _ _ ≤ acR _ _ _; omega, by show acR _ _ _ ≤ 12000; omega, f1, by show s.1 ≤ s.2; omega, f3⟩, a2, f2, k, l⟩
theorem qFp {x : wO} (h : SpotOk x) : WD x = 0 := by
 obtain ⟨⟨a, b, c, d, e, f⟩, g, i, ⟨j1, j2⟩, l1, l2⟩ := h
 unfold WD Qr YG
 rw [qq (by omega), qq (by omega), qq (by omega), qq (by omega), qq (by omega), qq (by omega), show (x.1.1 == x.1.2.1) = false from beq_eq_false_iff_ne.2 (by omega), show (x.1.2.2.1 == x.1.2.2.2) = false from beq_eq_false_iff_ne.2 (by omega), qq (by omega), qq (by omega), qq (by omega), qq (by omega)]
 rfl
theorem qpC : ∀ {l : List wO}, (∀ x ∈ l, SpotOk x) → WN l = 0
 | [], _ => rfl
 | x :: t, h => by
  unfold WN
  rw [qFp (h x (by simp))]
  exact qpC fun y hy => h y (by simp [hy])
theorem qDl {l : List wO} (hl : l.length ≤ 128) (h : ∀ x ∈ l, SpotOk x) : zU l = 0 := by
 unfold zU
 rw [qi (by omega)]
 exact qpC h
theorem qDj {l : List Ro} {W L id : Int} (reg : Reg l W L) : 0 ≤ (wh l W L id).1 := by
 have hw := reg.w
 unfold wh
 by_cases h0 : id = 0
 ·rw [qc h0]; show 0 ≤ W; omega
 ·rw [qi h0]
  cases e : look l id with
  | none => exact V6 _
  | some r =>
   have := (reg.wl r (zy e).1).w0
   show 0 ≤ r.2.2.2.1; omega
theorem qFq {l : List Ro} {W L id : Int} {sp : List wO} : ∀ y ∈ (zG l W L sp id).1, SpotOk y := by
 unfold zG
 by_cases h1 : (qQ l W L id).2 ≠ 0
 ·rw [qc h1]; intro y hy; exact absurd hy (List.not_mem_nil)
 ·rw [qi h1]
  by_cases h2 : zU sp ≠ 0
  ·rw [qc h2]; intro y hy; exact absurd hy (List.not_mem_nil)
  ·rw [qi h2]
   by_cases h3 : (Qs (qQ l W L id).1 sp).length > 128
   ·rw [qc h3]; intro y hy; exact absurd hy (List.not_mem_nil)
   ·rw [qi h3]
    obtain ⟨reg, ci⟩ := qbo (Classical.not_not.1 h1)
    have hw := reg.w
    have h0 := ci.left
    have h5 := ci.right
    exact qLT (by omega) ci.chk (qdF (Classical.not_not.1 h2)).2
theorem qIE (k : Nat) (c : Ch) (a b : Int) (c0 : 0 ≤ c.1) (c1 : c.1 + c.2.1 ≤ 12000) (c2 : 0 ≤ c.2.1) (ha : 0 ≤ a ∧ a ≤ 12000) (hb : 0 ≤ b ∧ b ≤ 12000) : qea k c a b = some ((acL c (max a c.1) (min b (c.1 + c.2.1)), acR c (max a c.1) (min b (c.1 + c.2.1))), decide (max a c.1 < min b (c.1 + c.2.1))) := by
 have e1 : (if c.1 > a then c.1 else a) = max a c.1 := by split <;> omega
 have e2 : (if c.1 + c.2.1 < b then c.1 + c.2.1 else b) = min b (c.1 + c.2.1) := by split <;> omega
 unfold qea acL acR
 rw [qm (i := c.1 + c.2.1) (by omega) (by omega), e1, e2, qm (i := min b (c.1 + c.2.1) - c.1) (by omega) (by omega), qm (i := max a c.1 - c.1) (by omega) (by omega), qm (by omega) (by omega), qm (by omega) (by omega)]
 cases c.2.2.1
 ·rw [qg, qi (by decide), qi (by decide), decide_eq_decide.2 (by omega : min b (c.1 + c.2.1) - c.1 > max a c.1 - c.1 ↔ max a c.1 < min b (c.1 + c.2.1))]
 ·rw [qj, qc rfl, qc rfl, decide_eq_decide.2 (by omega : c.2.1 - (min b (c.1 + c.2.1) - c.1) < c.2.1 - (max a c.1 - c.1) ↔ max a c.1 < min b (c.1 + c.2.1))]
theorem qzZ (k : Nat) (A B : Int) (sp : List wO) (i : Nat) (hi : i < sp.length) (fo : List Sp) (c : Ch) (hf : fo.length ≤ 256) (hil : i ≤ 128) : ∀ (d q n : Nat) (out : List wO), q + d = fo.length → out.length ≤ 100000 + q →
  Zr k (n + d + 1) sp (i : Int) fo (q : Int) c out (A, B) = Wr k n sp ((i + 1 : Nat) : Int) c (out ++ (fo.drop q).map fun s => ((A, B, s), (sp.getD i T7.dflt).2)) := by
 intro d
 induction d with
 | zero =>
  intro q n out hq ho
  rw [Zr, qq (by omega : ¬ (q : Int) < (fo.length : Int)), qg, qo (by omega), List.map_nil, zH, qH i (by omega)]
 | succ d ih =>
  intro q n out hq ho
  have h1 : (0 : Int) ≤ (q : Int) := by omega
  have h2 : (q : Int) < (fo.length : Int) := by omega
  have h3 : (0 : Int) ≤ (i : Int) := by omega
  have h4 : (i : Int) < (sp.length : Int) := by omega
  rw [show n + (d + 1) + 1 = (n + d + 1) + 1 from rfl, Zr, qw h2, qj, qc ⟨h1, h2, h1, h2⟩, qc ⟨h3, h4, h3, h4, by rw [qz]; omega⟩, qe, qe, qH q (by omega), ih (q + 1) n _ (by omega) (by rw [qT, qz]; omega), qt fo q T21.dflt (by omega), List.map_cons, qeY]
  rfl
set_option maxRecDepth 20000 in
theorem qEC (k : Nat) (hk : 2100 ≤ k) (sp : List wO) (hs : ∀ x ∈ sp, SpotOk x) (hsl : sp.length ≤ 128) (c : Ch) (c0 : 0 ≤ c.1) (c1 : c.1 + c.2.1 ≤ 12000) (c2 : 0 ≤ c.2.1) (hc : Chk c.2.2.2) : ∀ (d i j : Nat) (out : List wO), i + d = sp.length → d * 258 < j → out.length ≤ i * 256 →
  Wr k j sp (i : Int) c out = some (if (out ++ Qs c (sp.drop i)).length > 128 then ([], 8) else (out ++ Qs c (sp.drop i), 0)) := by
 intro d
 induction d with
 | zero =>
  intro i j out hi hj ho
  obtain ⟨j, rfl⟩ := qW (by omega : 0 < j)
  rw [Wr, qq (by omega : ¬ (i : Int) < (sp.length : Int)), qg, qo (by omega), Qs, zH]
  by_cases h : out.length > 128
  ·rw [qw (by omega : (out.length : Int) > 128), qc h]; rfl
  ·rw [qq (by omega : ¬ (out.length : Int) > 128), qi h]; rfl
 | succ d ih =>
  intro i j out hi hj ho
  have hx : SpotOk (sp.getD i T7.dflt) := hs _ (w8 _ _ _ (by omega))
  obtain ⟨j, rfl⟩ := qW (by omega : 0 < j)
  have h3 : (0 : Int) ≤ (i : Int) := by omega
  have h4 : (i : Int) < (sp.length : Int) := by omega
  obtain ⟨f1, f2⟩ := qrT hc hx
  obtain ⟨⟨x1, x2, x3, x4, x5, x6⟩, _, _, _, _⟩ := _root_.id hx
  have ha := qIE k c (sp.getD i T7.dflt).1.1 (sp.getD i T7.dflt).1.2.1 c0 c1 c2 ⟨x1, by omega⟩ ⟨by omega, x3⟩
  have hv : qif k c (sp.getD i T7.dflt).1.1 (sp.getD i T7.dflt).1.2.1 = _ := congrArg (fun o : Option ((Int × Int) × Bool) => o.getD ((T21).dflt, false)) ha
  rw [Wr, qw h4, qj, qe, ha, hv, qc ⟨h3, h4, h3, h4, rfl⟩, qt sp i T7.dflt (by omega), Qs, qMF]
  unfold qnM
  by_cases h : max (sp.getD i T7.dflt).1.1 c.1 ≥ min (sp.getD i T7.dflt).1.2.1 (c.1 + c.2.1)
  ·rw [qq (by omega : ¬ max (sp.getD i T7.dflt).1.1 c.1 < min (sp.getD i T7.dflt).1.2.1 (c.1 + c.2.1)), qS1, qj, qc h, wk, qH i (by omega)]
   exact ih (i + 1) j out (by omega) (by omega) (by omega)
  ·rw [qw (by omega : max (sp.getD i T7.dflt).1.1 c.1 < min (sp.getD i T7.dflt).1.2.1 (c.1 + c.2.1)), ve, qg, qi h]
   obtain ⟨j, rfl⟩ : ∃ q, j = q + (zZ c.2.2.2 (sp.getD i T7.dflt).1.2.2).1.length + 1 := ⟨j - (zZ c.2.2.2 (sp.getD i T7.dflt).1.2.2).1.length - 1, by omega⟩
   have h15 := qzZ k (acL c (max (sp.getD i T7.dflt).1.1 c.1) (min (sp.getD i T7.dflt).1.2.1 (c.1 + c.2.1))) (acR c (max (sp.getD i T7.dflt).1.1 c.1) (min (sp.getD i T7.dflt).1.2.1 (c.1 + c.2.1))) sp i (by omega) (zZ c.2.2.2 (sp.getD i T7.dflt).1.2.2).1 c f2 (by omega) (zZ c.2.2.2 (sp.getD i T7.dflt).1.2.2).1.length 0 j out (by omega) (by omega)
   rw [qhX k hk, qsI k hk, qc ⟨h3, h4, h3, h4, rfl⟩]
   refine h15.trans ?_
   rw [wv, ih (i + 1) j _ (by omega) (by omega) (by rw [qT, List.length_map]; omega), qeY]
theorem qgA (k : Nat) (hk : 301000 ≤ k) (l : List Ro) (web : Int × Int) (sp : List wO) (id : Int) : qd8 k l web sp id = some (zG l web.1 web.2 sp id) := by
 unfold qd8 zG
 rw [qdC k hk, qj4 k hk, qaw k (by omega), qgx k (by omega), qd, qc rfl, qd, qc rfl]
 by_cases h1 : (qQ l web.1 web.2 id).2 = 0
 ·obtain ⟨reg, ci⟩ := qbo h1
  have hsz := qDj (id := id) reg
  have hw := reg.w
  generalize (qQ l web.1 web.2 id) = o at *
  obtain ⟨c1, c2, c3, c4, c5, _⟩ := ci
  rw [show (o.2 != 0) = false by simp [h1], qg, qi (fun h : o.2 ≠ 0 => h h1)]
  by_cases h2 : zU sp = 0
  ·obtain ⟨s1, s2⟩ := qdF h2
   rw [show (zU sp != 0) = false by simp [h2], qg, qi (fun h : zU sp ≠ 0 => h h2)]
   exact qEC k (by omega) sp s2 s1 o.1 c1 (by omega) (by omega) c4 sp.length 0 k [] (by omega) (by omega) (by simp)
  ·rw [bne_iff_ne.2 h2, qc h2]; rfl
 ·rw [bne_iff_ne.2 h1, qc h1]; rfl
theorem qp9 (k : Nat) (hk : 301000 ≤ k) (l : List Ro) (web : Int × Int) (sp : List wO) (id : Int) : XM k l web sp id = zG l web.1 web.2 sp id := by
 unfold XM; rw [qgA k hk]; rfl
theorem qEE (k : Nat) (l : List wO) (hl : l.length ≤ 128) : ∀ (d i j : Nat) (n : Int), i + d = l.length → d < j → VB k j l n (i : Int) = some (qh7 (l.drop i) n, 0) := by
 intro d
 induction d with
 | zero =>
  intro i j n hi hj
  obtain ⟨j, rfl⟩ := qW (by omega : 0 < j)
  rw [VB, qq (by omega : ¬ (i : Int) < (l.length : Int)), qg, qo (by omega)]; rfl
 | succ d ih =>
  intro i j n hi hj
  obtain ⟨j, rfl⟩ := qW (by omega : 0 < j)
  rw [VB, qw (by omega : (i : Int) < (l.length : Int)), qj, qc ⟨by omega, by omega⟩, qe, qH i (by omega), qt l i T7.dflt (by omega), qh7, ih (i + 1) j _ (by omega) (by omega)]
theorem qgy (k : Nat) (hk : 300 ≤ k) (l : List wO) (hl : l.length ≤ 128) (h : ∀ x ∈ l, SpotOk x) : qdZ k l = some (qh7 l 0, 0) := by
 unfold qdZ
 rw [qaw k hk, qgx k hk, qDl hl h, qd, qc rfl]
 exact qEE k l hl l.length 0 k 0 (by omega) (by omega)
theorem qgB (k : Nat) (hk : 301000 ≤ k) (l : List Ro) (web : Int × Int) (sp : List wO) (id : Int) : qd9 k l web sp id = some (QR l web.1 web.2 sp id) := by
 have hl := qmY (l := l) (W := web.1) (L := web.2) (id := id) (sp := sp)
 have ho := qFq (l := l) (W := web.1) (L := web.2) (id := id) (sp := sp)
 have hv : qeM k (zG l web.1 web.2 sp id).1 = (qh7 (zG l web.1 web.2 sp id).1 0, 0) := by
  unfold qeM; rw [qgy k (by omega) _ hl ho]; rfl
 unfold qd9 QR
 rw [qgA k hk, qp9 k hk, qd, qc rfl]
 by_cases h : (zG l web.1 web.2 sp id).2 = 0
 ·rw [show ((zG l web.1 web.2 sp id).2 != 0) = false by simp [h], qg, qi (fun h' : (zG l web.1 web.2 sp id).2 ≠ 0 => h' h), qgy k (by omega) _ hl ho, hv, qd, qc rfl]
 ·rw [bne_iff_ne.2 h, qc h]; rfl
theorem qqa (k : Nat) (hk : 301000 ≤ k) (l : List Ro) (web : Int × Int) (sp : List wO) (id : Int) : qcc k l web sp id = QR l web.1 web.2 sp id := by
 unfold qcc; rw [qgB k hk]; rfl
theorem qE3 {r : Rn} {t : List Rn} {x : Int} (h : x < r.2.1) : q9 (r :: t) x = wd r x := by unfold q9; rw [qc h]
theorem qE2 {r : Rn} {t : List Rn} {x : Int} (h : ¬ x < r.2.1) : q9 (r :: t) x = q9 t (x - r.2.1) := by rw [q9, qi h]
theorem qJM {r : Rn} (g : good r) {z : Int} (h0 : lo r ≤ z) (h1 : z ≤ Go.AM.hi r) : ∃ x, 0 ≤ x ∧ x < r.2.1 ∧ wd r x = z := by
 unfold lo at h0; unfold Go.AM.hi at h1; unfold wd
 cases e : r.2.2
 ·rw [e] at h0 h1
  simp only [qE, if_false] at h0 h1 ⊢
  exact ⟨z - r.1, by omega, by omega, by omega⟩
 ·rw [e] at h0 h1
  simp only [if_true] at h0 h1 ⊢
  exact ⟨r.1 - z, by omega, by omega, by omega⟩
theorem qrX : ∀ {m : List Rn} {z : Int}, goods m → (∃ r ∈ m, lo r ≤ z ∧ z ≤ Go.AM.hi r) → ∃ x, 0 ≤ x ∧ x < qp m ∧ q9 m x = z
 | [], _, _, ⟨r, hr, _⟩ => by simp at hr
 | r :: t, z, ⟨g1, g2⟩, ⟨y, hy, h0, h1⟩ => by
  have hl := zg g2
  have h1' := g1.1
  rcases qK.1 hy with e | hy
  ·subst e
   obtain ⟨x, a, b, c⟩ := qJM g1 h0 h1
   exact ⟨x, a, by rw [qp]; omega, by rw [qE3 b, c]⟩
  ·obtain ⟨x, a, b, c⟩ := qrX g2 ⟨y, hy, h0, h1⟩
   exact ⟨r.2.1 + x, by omega, by rw [qp]; omega, by rw [qE2 (by omega), show r.2.1 + x - r.2.1 = x by omega, c]⟩
theorem qJL {m : List Rn} (hg : goods m) {z : Int} : Xo m z = true ↔ ∃ x, 0 ≤ x ∧ x < qp m ∧ q9 m x = z := by
 constructor
 ·intro h; exact qrX hg (qjf.1 h)
 ·rintro ⟨x, h0, h1, e⟩
  obtain ⟨r, hr, a, b⟩ := qhz hg h0 h1
  subst e; exact qNT hr a b
theorem qJK {l : List Sp} (h : In 0 17179869184 l) (x : Int) : Wb (nf l) x = Wb l x := by
 rw [Bool.eq_iff_iff, VS, VS, qsl h]
theorem qJz {l : List Ro} {W L id : Int} (h : (qQ l W L id).2 = 0) : Kno l W L id := by
 refine Zi.1 ?_
 unfold qQ at h
 by_cases h2 : vp l W L id = 0
 ·exact h2
 ·rw [qc h2] at h; exact absurd h h2
theorem qLS {l : List Ro} {W L id : Int} (reg : Reg l W L) (kn : id = 0 ∨ ∃ q, look l id = some q) : 1 ≤ (wh l W L id).1 := by
 have hw := reg.w
 unfold wh
 rcases kn with h | ⟨r, e⟩
 ·rw [qc h]; show 1 ≤ W; omega
 ·by_cases h0 : id = 0
  ·rw [qc h0]; show 1 ≤ W; omega
  ·rw [qi h0, e]
   have := (reg.wl r (zy e).1).w0
   show 1 ≤ r.2.2.2.1; omega
end Go.AM
namespace Go.AM
open Go Go.Proofs
noncomputable section
def qk5 (r : T22.T × Int) : AV := .tup [.agg (qB (qr T22 r.1)), ri r.2]
abbrev qy6 (a : T24.T) (b : Int) (r : T22.T × Int) : Prop := CC Tryz.prog 52 [.agg (qB (qr T24 a)), ri b] [] (qk5 r) (nb r)
def qx1 := fun y0 y1 y2 y3 y4 y5 y6 y7 => (⟨qM 156 [(1, ri y0), (2, .ptr 1000000 0 0), (4, .ptr 1000001 0 0), (6, .ptr 1000002 0 0), (9, ro T21 y1), (11, ri y2), (12, rb y3), (13, ri y4)], [(1000000, 0, .var 108 (qB (qr T24 y5))), (1000001, 0, .var 103 (qB (qr T22 y6))), (1000002, 0, .var 45 (qB (qr T4 y7)))]⟩ : St)
def vi (k : Nat) : Nat → Int → List T21.T → Int → Bool → Int → T24.T → T22.T → T4.T → Option (T22.T × Int)
 | 0, _, _, _, _, _, _, _, _ => none
 | j + 1, y0, y1, y2, y3, y4, y5, y6, y7 =>
 bif y4 < y1.length then
 if (0 ≤ y4) ∧ (y4 < y1.length) ∧ ((Y1 k y5.2.2.1 (y1.getD y4.toNat T21.dflt)).isSome) then
 bif (decide ((Vn k y5.2.2.1 (y1.getD y4.toNat T21.dflt)).1 < (0 : Int)) || decide (y4 > 0) && (Vn k y5.2.2.1 (y1.getD y4.toNat T21.dflt)).1 != y2) then
 some ((0, (false, (0, (0, (0, 0))))), 22)
 else
 vi k j y0 y1 ((Vn k y5.2.2.1 (y1.getD y4.toNat T21.dflt)).1) (y3 && (Vn k y5.2.2.1 (y1.getD y4.toNat T21.dflt)).2.1) (qa .i64 (y4 + 1)) y5 y6 y7
 else none
 else
 bif (decide (y2 < 0) || decide (y2 ≥ (↑ (qb y5.2.2.2.2.1) : Int))) then
 some ((0, (false, (0, (0, (0, 0))))), 22)
 else
 if ((Y2 k y7.2.2.2).isSome) ∧ (0 ≤ y2) ∧ (y2 < (↑ (qb y5.2.2.2.2.1) : Int)) ∧ ((qd0 k y5.2.2.2.2.2 (Vp k y7.2.2.2) (qI y5.2.2.2.2.1 y2.toNat T0.dflt).2.2.2.2.2.1).isSome) then
 bif ((qca k y5.2.2.2.2.2 (Vp k y7.2.2.2) (qI y5.2.2.2.2.1 y2.toNat T0.dflt).2.2.2.2.2.1).2 != (0 : Int)) then
 some ((0, (false, (0, (0, (0, 0))))), (qca k y5.2.2.2.2.2 (Vp k y7.2.2.2) (qI y5.2.2.2.2.1 y2.toNat T0.dflt).2.2.2.2.2.1).2)
 else
 if ((qd9 k y5.1 y5.2.1 y5.2.2.2.1 y0).isSome) then
 bif ((qcc k y5.1 y5.2.1 y5.2.2.2.1 y0).2 != (0 : Int)) then
 some ((0, (false, (0, (0, (0, 0))))), (qcc k y5.1 y5.2.1 y5.2.2.2.1 y0).2)
 else
 some ((y2, (y3, (y7.2.1, ((qca k y5.2.2.2.2.2 (Vp k y7.2.2.2) (qI y5.2.2.2.2.1 y2.toNat T0.dflt).2.2.2.2.2.1).1, (qa .i64 ((↑ (qb y7.2.2.2) : Int) - 1), (qcc k y5.1 y5.2.1 y5.2.2.2.1 y0).1))))), 0)
 else none
 else none
def qbv (k : Nat) (a : T24.T) (b : Int) : Option (T22.T × Int) :=
 if ((wR k a.1 a.2.1 b).isSome) then
 bif ((vY k a.1 a.2.1 b).2 != (0 : Int)) then
 some ((0, (false, (0, (0, (0, 0))))), (vY k a.1 a.2.1 b).2)
 else
 bif (b == 0) then
 some ((0, (false, (0, (0, (0, 0))))), 7)
 else
 if ((qbt k a.2.2.1).isSome) then
 bif (qaj k a.2.2.1 != (0 : Int)) then
 some ((0, (false, (0, (0, (0, 0))))), qaj k a.2.2.1)
 else
 bif (↑ (qb a.2.2.1) : Int) > (0 : Int) then
 if ((0 : Int) ≤ qa .i64 ((↑ (qb a.2.2.1) : Int) - (1 : Int))) ∧ (qa .i64 ((↑ (qb a.2.2.1) : Int) - (1 : Int)) < (↑ (qb a.2.2.1) : Int)) then
 bif ((qI a.2.2.1 (qa .i64 ((↑ (qb a.2.2.1) : Int) - (1 : Int))).toNat T2.dflt).2.1 != a.2.1.2) then
 some ((0, (false, (0, (0, (0, 0))))), 21)
 else
 if ((YY k (vY k a.1 a.2.1 b).1.2.2.2).isSome) then
 vi k k b ((ZM k (vY k a.1 a.2.1 b).1.2.2.2).1) (-1) true 0 a (0, (false, (0, (0, (0, 0))))) ((vY k a.1 a.2.1 b).1)
 else none
 else none
 else
 bif ((0 : Int) != a.2.1.2) then
 some ((0, (false, (0, (0, (0, 0))))), 21)
 else
 if ((YY k (vY k a.1 a.2.1 b).1.2.2.2).isSome) then
 vi k k b ((ZM k (vY k a.1 a.2.1 b).1.2.2.2).1) (-1) true 0 a (0, (false, (0, (0, (0, 0))))) ((vY k a.1 a.2.1 b).1)
 else none
 else none
 else none
def WO := fun k a b => (qbv k a b).getD ((T22).dflt, 0)
def qJ6 (k : Nat) : Ke := (52, mo 2, fun
 | [.agg d, .r (.v (.int .i64 b))], [] => (qX [] T24 d).bind fun a => some (.one (qk5 (WO k a b), []))
 | _, _ => none)
def qzU (k : Nat) : Calld := qA [qnU k, qnX k, qvK k, qnW k, qJV k, qJX k, qJ4 k]
def quS : List (Nat × List Cmd) := [(18, [.autoB [1, 2, 4, 6, 9, 11, 12, 13] false []])]
abbrev qMr := EP Tryz.f52 0 qk5 nb
theorem qnF (k) : ∀ j, (∀ y0 y1 y2 y3 y4 y5 y6 y7, qMr 18 (qx1 y0 y1 y2 y3 y4 y5 y6 y7) (vi k j y0 y1 y2 y3 y4 y5 y6 y7))
 | 0 => by intros; exact e0
 | j + 1 => by
  have ih := @qnF k j
  ·intro y0 y1 y2 y3 y4 y5 y6 y7 r h
   rw [vi] at h
   exact go (qzU k) [] quS [.autoB [4, 5] true []] (gS h (fun h => gN h (fun q => qf q.1 (qf q.2.1 (qf (qIT q.2.2) qP))) fun h => qu h fun h => gC h 18 (ih _ _ _ _ _ _ _ _ _)) fun h => qu h fun h => gN h (fun q => qf (qnw q.1) (qf q.2.1 (qf q.2.2.1 (qf (qIX q.2.2.2) qP)))) fun h => qu h fun h => qv h qI5 fun h => qu h fun h => gL h)
theorem qK5 (k a b r) (h : qbv k a b = some r): qy6 a b r := qO Tryz.f52 (go (qzU k) [] quS [.autoB [4, 5] true []] (qv h qur fun h => qu h fun h => qu h fun h => qv h qup fun h => qu h fun h => gS h (fun h => qU h fun h => qu h fun h => qv h qnv fun h => gC h 18 ((qnF k k) _ _ _ _ _ _ _ _ _)) fun h => qu h fun h => qv h qnv fun h => gC h 18 ((qnF k k) _ _ _ _ _ _ _ _ _)))
theorem qI7 {k a b} (h : (qbv k a b).isSome): qy6 a b (WO k a b) := qJ h (qK5 k a b)
end
theorem qQD {l : List Ro} {W L : Int} (reg : Reg l W L) : ∀ (n : Nat) (p : Pt), Anc l n p.1 → On l W L p → On l W L (qga l n p) ∧ (qga l n p).1 = 0 := by
 intro n
 induction n with
 | zero =>
  intro p ha op
  by_cases h0 : p.1 = 0
  ·rw [qim h0]; exact ⟨op, h0⟩
  ·obtain ⟨_, _, e, _⟩ := ha.cases h0
   cases e
 | succ n ih =>
  intro p ha op
  by_cases h0 : p.1 = 0
  ·rw [qim h0]; exact ⟨op, h0⟩
  ·obtain ⟨k, r, ek, el, a⟩ := ha.cases h0
   cases ek
   have ro := reg.ok.ro r (zy el).1
   rw [qpK h0 el]
   exact ih (qaf r p) a (op.place h0 el ro)
theorem qBp {l : List Ro} {W L id : Int} (h : (qQ l W L id).2 = 0) {x : Int} (x0 : 0 ≤ x) (x1 : x < qp (qQ l W L id).1.2.2.2) : 0 ≤ q9 (qQ l W L id).1.2.2.2 x ∧ q9 (qQ l W L id).1.2.2.2 x < L := by
 obtain ⟨reg, ci⟩ := qbo h
 have kn := (qJz h).kn
 have hw := qLS reg kn
 rw [ci.len] at x1
 have on : On l W L (id, 0, x) := ⟨V6 0, by show 0 < (wh l W L id).1; omega, x0, x1⟩
 obtain ⟨o2, _⟩ := qQD reg 512 (id, 0, x) (reg.anc kn) on
 rw [ci.web _ rfl on] at o2
 have b0 := o2.b0
 have b1 := o2.b1
 have hs : wh l W L 0 = (W, L) := by unfold wh; rw [qc rfl]
 rw [hs] at b1
 exact ⟨b0, b1⟩
theorem qoY {l : List Ro} {W L id : Int} (h : (qQ l W L id).2 = 0) : (nf ((qQ l W L id).1.2.2.2.map Qd)).length ≤ 256 ∧ ∀ s ∈ nf ((qQ l W L id).1.2.2.2.map Qd), 0 ≤ s.1 ∧ s.1 < s.2 ∧ s.2 ≤ 17179869184 ∧ s.2 ≤ L := by
 obtain ⟨reg, ci⟩ := qbo h
 have hi := qmX ci.chk.goods
 have hn := qjo hi
 refine ⟨?_, fun s hs => ?_⟩
 ·have h1 := qbW hi
  rw [List.length_map] at h1
  have := ci.chk.len
  omega
 ·have h1 := (qcQ hi).mem s hs
  have h2 := hn.pos s hs
  have h3 : Xo (qQ l W L id).1.2.2.2 (s.2 - 1) = true := by
   show Wb _ _ = true
   rw [← qJK hi, VS, Qh]
   exact ⟨s, hs, by omega, by omega⟩
  obtain ⟨x, x0, x1, e⟩ := (qJL ci.chk.goods).1 h3
  have := qBp h x0 x1
  exact ⟨h1.1, h2, h1.2.2, by omega⟩
abbrev Fac := Int × Bool × Int × Int × Int × Int
abbrev Grd := T0.T
def qhd (e : Int) : Fac × Int := ((0, false, 0, 0, 0, 0), e)
def qdd (gr : List Grd) (g : Int) : Int := (gr.getD g.toNat T0.dflt).2.2.2.2.2.1
def qbH (R : List Ro) (W L : Int) (sp : List wO) (gr : List Grd) (core id : Int) (c : Ch) (g : Int) (a : Bool) : Fac × Int :=
 if g < 0 ∨ g ≥ gr.length then qhd 22
 else if (Xc core (qp c.2.2.2) (qdd gr g)).2 ≠ 0 then qhd (Xc core (qp c.2.2.2) (qdd gr g)).2
 else if (QR R W L sp id).2 ≠ 0 then qhd (QR R W L sp id).2
 else ((g, a, c.2.1, (Xc core (qp c.2.2.2) (qdd gr g)).1, qa .i64 ((c.2.2.2.length : Int) - 1), (QR R W L sp id).1), 0)
def gpS (secs : List wz) (c : Ch) : Int × Bool := Qw (-1) true true (W5 secs (nf (c.2.2.2.map Qd)))
def Qg (R : List Ro) (W L : Int) (secs : List wz) (sp : List wO) (gr : List Grd) (core id : Int) : Fac × Int :=
 if (qQ R W L id).2 ≠ 0 then qhd (qQ R W L id).2
 else if id = 0 then qhd 7
 else if vt secs ≠ 0 then qhd (vt secs)
 else if wQ secs ≠ L then qhd 21
 else qbH R W L sp gr core id (qQ R W L id).1 (gpS secs (qQ R W L id).1).1 (gpS secs (qQ R W L id).1).2
theorem qrW {m : List Rn} (hc : Chk m) : Vg m = (nf (m.map Qd), 0) := by
 unfold Vg
 rw [qi (fun h : chk m ≠ 0 => h (wU.2 hc))]
theorem qb5 (k : Nat) (hk : 301000 ≤ k) (r : T28.T) (id : Int) : Y6 k r id = some (Qg r.1 r.2.1.1 r.2.1.2 r.2.2.1 r.2.2.2.1 r.2.2.2.2.1 r.2.2.2.2.2 id) := by
 unfold Y6 Qg
 rw [qhn k (by omega), qo3 k (by omega), qd, qc rfl]
 by_cases h1 : (qQ r.1 r.2.1.1 r.2.1.2 id).2 = 0
 ·obtain ⟨reg, ci⟩ := qbo h1
  obtain ⟨cl, cs⟩ := qoY h1
  rw [show ((qQ r.1 r.2.1.1 r.2.1.2 id).2 != 0) = false by rw [h1]; rfl, qg, qi (fun h : (qQ r.1 r.2.1.1 r.2.1.2 id).2 ≠ 0 => h h1)]
  by_cases h2 : id = 0
  ·rw [qc h2, show (id == 0) = true from beq_iff_eq.2 h2]; rfl
  ·rw [qi h2, show (id == 0) = false from beq_eq_false_iff_ne.2 h2, qg, qbZ k (by omega), qhS k (by omega), qd, qc rfl]
   by_cases h3 : vt r.2.2.1 = 0
   ·have hl := (ZK h3).1
    rw [show (vt r.2.2.1 != 0) = false by rw [h3]; rfl, qg, qi (fun h : vt r.2.2.1 ≠ 0 => h h3), qBs k r hl, qNI k r hl, qd, qc rfl]
    by_cases h4 : wQ r.2.2.1 = r.2.1.2
    ·have hs : ∀ s ∈ nf ((qQ r.1 r.2.1.1 r.2.1.2 id).1.2.2.2.map Qd), 0 ≤ s.1 ∧ s.1 < s.2 ∧ s.2 ≤ 17179869184 ∧ s.2 ≤ wQ r.2.2.1 := fun s hs => by
      obtain ⟨a, b, c, d⟩ := cs s hs
      exact ⟨a, b, c, by omega⟩
     rw [show (wQ r.2.2.1 == r.2.1.2) = true from beq_iff_eq.2 h4, ve, qg, qi (fun h : wQ r.2.2.1 ≠ r.2.1.2 => h h4), qdv k (by omega), qjU k (by omega), qrW ci.chk, qd, qc rfl, bne_self_eq_false, qg]
     dsimp only
     rw [qv9 k (by omega) r h3 _ cl hs, qLH k (by omega) r h3 _ cl hs, qd, qc rfl]
     show _ = some (qbH _ _ _ _ _ _ _ _ (gpS r.2.2.1 (qQ r.1 r.2.1.1 r.2.1.2 id).1).1 (gpS r.2.2.1 (qQ r.1 r.2.1.1 r.2.1.2 id).1).2)
     rw [show Qw (-1) true true (W5 r.2.2.1 (nf ((qQ r.1 r.2.1.1 r.2.1.2 id).1.2.2.2.map Qd))) = gpS r.2.2.1 (qQ r.1 r.2.1.1 r.2.1.2 id).1 from rfl]
     generalize gpS r.2.2.1 (qQ r.1 r.2.1.1 r.2.1.2 id).1 = gp
     unfold qbH
     by_cases h5 : gp.1 < 0 ∨ gp.1 ≥ (qb r.2.2.2.2.1 : Int)
     ·rw [qc h5, show (decide (gp.1 < 0) || decide (gp.1 ≥ (qb r.2.2.2.2.1 : Int))) = true by rw [qGc, decide_eq_true_iff, decide_eq_true_iff]; exact h5]; rfl
     ·rw [qi h5, qq (fun h => h5 (.inl h)), qq (fun h => h5 (.inr h)), Bool.or_self, qg, qbM k (by omega) _ ci.chk, qhA k (by omega) _ ci.chk, qo1 k (by omega), qBq k (by omega), qd, qc rfl, qc ⟨by omega, by omega, rfl⟩, qcL k (by omega), qmr k (by omega), qd, qc rfl]
      dsimp only
      rw [show (qI r.2.2.2.2.1 gp.1.toNat T0.dflt).2.2.2.2.2.1 = qdd r.2.2.2.2.1 gp.1 from rfl]
      by_cases h6 : (Xc r.2.2.2.2.2 (qp (qQ r.1 r.2.1.1 r.2.1.2 id).1.2.2.2) (qdd r.2.2.2.2.1 gp.1)).2 = 0
      ·rw [qi (fun h => h h6), show ((Xc r.2.2.2.2.2 (qp (qQ r.1 r.2.1.1 r.2.1.2 id).1.2.2.2) (qdd r.2.2.2.2.1 gp.1)).2 != 0) = false by rw [h6]; rfl, qg]
       by_cases h7 : (QR r.1 r.2.1.1 r.2.1.2 r.2.2.2.1 id).2 = 0
       ·rw [qi (fun h => h h7), show ((QR r.1 r.2.1.1 r.2.1.2 r.2.2.2.1 id).2 != 0) = false by rw [h7]; rfl, qg]
       ·rw [qc h7, bne_iff_ne.2 h7]; rfl
      ·rw [qc h6, bne_iff_ne.2 h6]; rfl
    ·rw [show (wQ r.2.2.1 == r.2.1.2) = false from beq_eq_false_iff_ne.2 h4, qc h4]; rfl
   ·rw [qc h3, bne_iff_ne.2 h3]; rfl
 ·rw [qc h1, bne_iff_ne.2 h1]; rfl
theorem qkO (k : Nat) (hk : 301000 ≤ k) (r : T28.T) (id : Int) : va k r id = Qg r.1 r.2.1.1 r.2.1.2 r.2.2.1 r.2.2.2.1 r.2.2.2.2.1 r.2.2.2.2.2 id := by
 unfold va; rw [qb5 k hk]; rfl
theorem qxt {p : List wz} {x : wz} {t : List wz} (e : p = x :: t) : grS p = if Za x.2.2.2.1 t = true then x.2.2.2.1 else -1 := by
 subst e
 unfold grS
 rw [List.getD_cons_zero]
 show (if (x.2.2.2.1 == x.2.2.2.1 && Za x.2.2.2.1 t) = true then _ else _) = _
 rw [beq_self_eq_true, wH]
theorem qJF {g : Int} {p : List wz} (hn : p ≠ []) (h : Za g p = true) : grS p = g := by
 cases p with
 | nil => exact absurd rfl hn
 | cons x t =>
  obtain ⟨h1, h2⟩ := Bool.and_eq_true_iff.1 (show (x.2.2.2.1 == g && Za g t) = true from h)
  have e : x.2.2.2.1 = g := by simpa using h1
  rw [qxt rfl, e, qc h2]
theorem qEY {g : Int} {p : List wz} (hn : p ≠ []) (h : Za g p = false) : grS p < 0 ∨ grS p ≠ g := by
 cases p with
 | nil => exact absurd rfl hn
 | cons x t =>
  rw [qxt rfl]
  by_cases e : Za x.2.2.2.1 t = true
  ·rw [qc e]
   right
   intro he
   rw [he] at e
   have h : (x.2.2.2.1 == g && Za g t) = false := h
   rw [he, beq_self_eq_true, e] at h
   cases h
  ·rw [qi e]; left; decide
def XD (R : List Ro) (W L : Int) (secs : List wz) (sp : List wO) (gr : List Grd) (core : Int) : T24.T := (R, (W, L), secs, sp, gr, core)
theorem qkq (R : List Ro) (W L : Int) (sp : List wO) (gr : List Grd) (core id : Int) (c : Ch) {g : Int} (a : Bool) (h : g < 0) : qbH R W L sp gr core id c g a = qhd 22 := by
 unfold qbH; rw [qc (.inl h)]
theorem qCa (k : Nat) (hk : 301000 ≤ k) (R : List Ro) (W L : Int) (secs : List wz) (sp : List wO) (gr : List Grd) (core id : Int) (spans : List Sp) (c : Ch) (hc : Chk c.2.2.2) (g : Int) (a : Bool) (f0 : Fac) (j i : Nat) (hi : spans.length ≤ i) :
  vi k (j + 1) id spans g a (i : Int) (XD R W L secs sp gr core) f0 c = some (qbH R W L sp gr core id c g a) := by
 rw [vi, qq (by omega : ¬ (i : Int) < (spans.length : Int)), qg]
 unfold qbH XD
 dsimp only
 by_cases h5 : g < 0 ∨ g ≥ (qb gr : Int)
 ·rw [qc h5, show (decide (g < 0) || decide (g ≥ (qb gr : Int))) = true by rw [qGc, decide_eq_true_iff, decide_eq_true_iff]; exact h5]; rfl
 ·rw [qi h5, qq (fun h => h5 (.inl h)), qq (fun h => h5 (.inr h)), Bool.or_self, qg, XA k (by omega) _ hc, qb3 k (by omega) _ hc, qj3 k (by omega), qt3 k (by omega), qc ⟨rfl, by omega, by omega, rfl⟩, qgB k hk, qqa k hk, qd, qc rfl]
  dsimp only
  rw [show (qI gr g.toNat T0.dflt).2.2.2.2.2.1 = qdd gr g from rfl]
  by_cases h6 : (Xc core (qp c.2.2.2) (qdd gr g)).2 = 0
  ·rw [qi (fun h => h h6), show ((Xc core (qp c.2.2.2) (qdd gr g)).2 != 0) = false by rw [h6]; rfl, qg]
   by_cases h7 : (QR R W L sp id).2 = 0
   ·rw [qi (fun h => h h7), show ((QR R W L sp id).2 != 0) = false by rw [h7]; rfl, qg]
   ·rw [qc h7, bne_iff_ne.2 h7]; rfl
  ·rw [qc h6, bne_iff_ne.2 h6]; rfl
section
variable (k : Nat) (hk : 301000 ≤ k) (R : List Ro) (W L : Int) (secs : List wz) (hz : vt secs = 0) (sp : List wO) (gr : List Grd) (core id : Int) (spans : List Sp) (hl : spans.length ≤ 256) (hs : ∀ s ∈ spans, 0 ≤ s.1 ∧ s.1 < s.2 ∧ s.2 ≤ 17179869184 ∧ s.2 ≤ wQ secs) (c : Ch) (hc : Chk c.2.2.2) (f0 : Fac)
include hk hz hl hs hc
theorem qwS : ∀ (d i j : Nat) (g : Int) (a : Bool), i + d = spans.length → d < j → 0 < i → 0 ≤ g → vi k j id spans g a (i : Int) (XD R W L secs sp gr core) f0 c = some (qbH R W L sp gr core id c (Qw g a false (W5 secs (spans.drop i))).1 (Qw g a false (W5 secs (spans.drop i))).2) := by
 intro d
 induction d with
 | zero =>
  intro i j g a hi hj h0 hg
  obtain ⟨j, rfl⟩ := qW (by omega : 0 < j)
  rw [qCa k hk R W L secs sp gr core id spans c hc g a f0 j i (by omega), qo (by omega)]
  rfl
 | succ d ih =>
  intro i j g a hi hj h0 hg
  obtain ⟨j, rfl⟩ := qW (by omega : 0 < j)
  obtain ⟨s0, s1, s2, s3⟩ := hs (spans.getD i T21.dflt) (w8 _ _ _ (by omega))
  have hne := qod hz s0 s1 s3
  have hgs : Y1 k (XD R W L secs sp gr core).2.2.1 (spans.getD i T21.dflt) = _ := qav k (by omega) hz s0 s1 s2 s3
  have hgv : Vn k (XD R W L secs sp gr core).2.2.1 (spans.getD i T21.dflt) = _ := qgv k (by omega) hz s0 s1 s2 s3
  rw [vi, qw (by omega : (i : Int) < (spans.length : Int)), qj, qe, hgs, hgv, qc ⟨by omega, by omega, rfl⟩, qH i (by omega), qt spans i T21.dflt (by omega), W5, qw (by omega : (i : Int) > 0), wH]
  dsimp only
  generalize zW (spans.getD i T21.dflt) secs = P at *
  cases e : Za g P
  ·rw [qkJ _ P a e, qkq _ _ _ _ _ _ _ _ _ (by decide : (-1 : Int) < 0)]
   have : (decide (grS P < 0) || grS P != g) = true := by
    rw [qGc, decide_eq_true_iff, bne_iff_ne]; exact qEY hne e
   rw [this]; rfl
  ·rw [qkI _ P a e, qJF hne e, qq (by omega : ¬ g < 0), bne_self_eq_false, Bool.or_self, qg]
   exact ih (i + 1) j g (a && qe2 P) (by omega) (by omega) (by omega) hg
theorem qzO (j : Nat) (hj : 300 < j) : vi k j id spans (-1) true 0 (XD R W L secs sp gr core) f0 c = some (qbH R W L sp gr core id c (Qw (-1) true true (W5 secs spans)).1 (Qw (-1) true true (W5 secs spans)).2) := by
 obtain ⟨j, rfl⟩ := qW (by omega : 0 < j)
 cases spans with
 | nil => exact qCa k hk R W L secs sp gr core id [] c hc (-1) true f0 j 0 (qR _)
 | cons s t =>
  have hl : t.length + 1 ≤ 256 := hl
  obtain ⟨s0, s1, s2, s3⟩ := hs s (by simp)
  have hne := qod hz s0 s1 s3
  have hgs : Y1 k (XD R W L secs sp gr core).2.2.1 s = _ := qav k (by omega) hz s0 s1 s2 s3
  have hgv : Vn k (XD R W L secs sp gr core).2.2.1 s = _ := qgv k (by omega) hz s0 s1 s2 s3
  have e0 : (s :: t).getD (ql 0) T21.dflt = s := rfl
  have hlen : ((s :: t).length : Int) = (t.length : Int) + 1 := by rw [wB]; omega
  rw [vi, qw (by omega : (0 : Int) < ((s :: t).length : Int)), qj, e0, hgs, hgv, qc ⟨V6 0, by omega, rfl⟩, W5, qq (by decide : ¬ (0 : Int) > 0), wE, Bool.or_false]
  dsimp only
  have ih := qwS k hk R W L secs hz sp gr core id (s :: t) (by rw [wB]; exact hl) hs c hc f0 t.length 1 j
  rw [show qa .i64 ((0 : Int) + 1) = ((1 : Nat) : Int) from rfl]
  obtain ⟨x, p, hp⟩ : ∃ x p, zW s secs = x :: p := by
   cases h : zW s secs with
   | nil => exact absurd h hne
   | cons x p => exact ⟨x, p, rfl⟩
  rw [hp, qxt rfl, qne, Qw, ve, wE, qg]
  have hap : qe2 (x :: p) = (x.2.2.1 == 1 && qe2 p) := rfl
  cases e : Za x.2.2.2.1 p
  ·rw [qi Bool.false_ne_true, qkJ _ p _ e, qkq _ _ _ _ _ _ _ _ _ (by decide : (-1 : Int) < 0)]; rfl
  ·rw [qc rfl, qkI _ p _ e]
   by_cases h : x.2.2.2.1 < 0
   ·rw [qw h, qj, qkq _ _ _ _ _ _ _ _ _ (qsv _ _ _ h)]; rfl
   ·rw [qq h, qg, hap, Bool.and_assoc]
    exact ih x.2.2.2.1 _ (by rw [wB]; omega) (by omega) (by decide) (by omega)
end
theorem qeE (k : Nat) (hk : 301000 ≤ k) (R : List Ro) (W L : Int) (secs : List wz) (sp : List wO) (gr : List Grd) (core id : Int) : qbv k (XD R W L secs sp gr core) id = some (Qg R W L secs sp gr core id) := by
 unfold qbv Qg
 have e1 : (XD R W L secs sp gr core).1 = R := rfl
 have e2 : (XD R W L secs sp gr core).2.1 = (W, L) := rfl
 have e3 : (XD R W L secs sp gr core).2.2.1 = secs := rfl
 rw [e1, e2, e3, qdC k hk, qj4 k hk, qd, qc rfl]
 dsimp only
 by_cases h1 : (qQ R W L id).2 = 0
 ·obtain ⟨reg, ci⟩ := qbo h1
  obtain ⟨cl, cs⟩ := qoY h1
  rw [show ((qQ R W L id).2 != 0) = false by rw [h1]; rfl, qg, qi (fun h : (qQ R W L id).2 ≠ 0 => h h1)]
  by_cases h2 : id = 0
  ·rw [qc h2, show (id == 0) = true from beq_iff_eq.2 h2]; rfl
  ·rw [qi h2, show (id == 0) = false from beq_eq_false_iff_ne.2 h2, qg, qau k (by omega), qgu k (by omega), qd, qc rfl]
   by_cases h3 : vt secs = 0
   ·have hl := (ZK h3).1
    rw [show (vt secs != 0) = false by rw [h3]; rfl, qg, qi (fun h : vt secs ≠ 0 => h h3), qat k (by omega), qgr k (by omega), qrW ci.chk, qd, qc rfl]
    dsimp only
    have key : wQ secs = L → vi k k id (nf ((qQ R W L id).1.2.2.2.map Qd)) (-1) true 0 (XD R W L secs sp gr core) (0, false, 0, 0, 0, 0) (qQ R W L id).1 = some (qbH R W L sp gr core id (qQ R W L id).1 (gpS secs (qQ R W L id).1).1 (gpS secs (qQ R W L id).1).2) := fun h4 =>
     qzO k hk R W L secs h3 sp gr core id _ cl (fun s hs => by
      obtain ⟨a, b, c, d⟩ := cs s hs
      exact ⟨a, b, c, by omega⟩) (qQ R W L id).1 ci.chk (0, false, 0, 0, 0, 0) k (by omega)
    by_cases h : secs.length = 0
    ·have he : wQ secs = 0 := by unfold wQ; rw [qc h]
     rw [qq (by omega : ¬ (secs.length : Int) > 0), qg]
     by_cases h4 : wQ secs = L
     ·rw [qi (fun h : wQ secs ≠ L => h h4), show ((0 : Int) != L) = false from by rw [← h4, he]; rfl, qg]
      exact key h4
     ·rw [qc h4, show ((0 : Int) != L) = true from bne_iff_ne.2 (by rw [← he]; exact h4)]; rfl
    ·have he : wQ secs = (secs.getD (secs.length - 1) T2.dflt).2.1 := by unfold wQ; rw [qi h]
     rw [qw (by omega : (secs.length : Int) > 0), qj, qiC hl h, qc ⟨by omega, by omega⟩, qe, ← he]
     by_cases h4 : wQ secs = L
     ·rw [qi (fun h : wQ secs ≠ L => h h4), show (wQ secs != L) = false by rw [h4]; exact bne_self_eq_false _, qg]
      exact key h4
     ·rw [qc h4, bne_iff_ne.2 h4]; rfl
   ·rw [qc h3, bne_iff_ne.2 h3]; rfl
 ·rw [qc h1, bne_iff_ne.2 h1]; rfl
theorem qok (k : Nat) (hk : 301000 ≤ k) (R : List Ro) (W L : Int) (secs : List wz) (sp : List wO) (gr : List Grd) (core id : Int) : WO k (XD R W L secs sp gr core) id = Qg R W L secs sp gr core id := by
 unfold WO; rw [qeE k hk]; rfl
end Go.AM
namespace Go.AM
open Go Go.Proofs
noncomputable section
abbrev qzb (a : List I.T) (b : Int) (d : Int) (r : Bool) : Prop := CC Tryz.prog 45 [ro I a, ri b, ri d] [] (rb r) (nb r)
def qDI := fun y0 y1 y2 y3 => (⟨qM 19 [(0, ro I y0), (1, ri y1), (2, ri y2), (7, ri y3)], []⟩ : St)
def VH (k : Nat) : Nat → List I.T → Int → Int → Int → Option Bool
 | 0, _, _, _, _ => none
 | j + 1, y0, y1, y2, y3 =>
 bif y3 < y1 then
 if (0 ≤ y3) ∧ (y3 < y0.length) then
 bif (y0.getD y3.toNat I.dflt == y2) then
 some true
 else
 VH k j y0 y1 y2 (qa .i64 (y3 + 1))
 else none
 else
 some false
def qef (k : Nat) (a : List I.T) (b : Int) (d : Int) : Option Bool :=
 VH k k a b d 0
def qih := fun k a b d => (qef k a b d).getD false
def qvT (k : Nat) : Ke := (45, mo 3, fun
 | [.r (.ro f e), .r (.v (.int .i64 b)), .r (.v (.int .i64 d))], [] => (qC f I e).bind fun a => some (.one (rb (qih k a b d), []))
 | _, _ => none)
def quW : List (Nat × List Cmd) := [(2, [.autoB [0, 1, 2, 7] false []])]
abbrev qMt := EP Tryz.f45 0 rb nb
theorem qvu (k) : ∀ j, (∀ y0 y1 y2 y3, qMt 2 (qDI y0 y1 y2 y3) (VH k j y0 y1 y2 y3))
 | 0 => by intros; exact e0
 | j + 1 => by
  have ih := @qvu k j
  ·intro y0 y1 y2 y3 r h
   rw [VH] at h
   exact go (qA []) [] quW [.autoB [6] true []] (gS h (fun h => qU h fun h => qu h fun h => gC h 2 (ih _ _ _ _ _)) fun h => gL h)
theorem qLa (k a b d r) (h : qef k a b d = some r): qzb a b d r := qO Tryz.f45 (go (qA []) [] quW [.autoB [6] true []] (gC h 2 ((qvu k k) _ _ _ _ _)))
theorem qJc {k a b d} (h : (qef k a b d).isSome): qzb a b d (qih k a b d) := qJ h (qLa k a b d)
abbrev qzd (a : T17.T) (b : Int) (r : Int) : Prop := CC Tryz.prog 51 [.agg (qB (qr T17 a)), ri b] [] (ri r) (nb r)
def qDJ := fun y0 y1 y2 => (⟨qM 26 [(1, ri y0), (2, .ptr 1000000 0 0), (5, ri y1)], [(1000000, 0, .var 36 (qB (qr T17 y2)))]⟩ : St)
def VI (k : Nat) : Nat → Int → Int → T17.T → Option Int
 | 0, _, _, _ => none
 | j + 1, y0, y1, y2 =>
 bif y1 < (↑ (qb y2.2.2.2.2.2.2.2.2.2.2.2.2.2.2.2.1) : Int) then
 if (0 ≤ y1) ∧ (y1 < (↑ (qb y2.2.2.2.2.2.2.2.2.2.2.2.2.2.2.2.1) : Int)) then
 if ((qef k (qI y2.2.2.2.2.2.2.2.2.2.2.2.2.2.2.2.1 y1.toNat T9.dflt).2.2.1 (↑ (qb (qI y2.2.2.2.2.2.2.2.2.2.2.2.2.2.2.2.1 y1.toNat T9.dflt).2.2.1) : Int) y0).isSome) then
 bif (qih k (qI y2.2.2.2.2.2.2.2.2.2.2.2.2.2.2.2.1 y1.toNat T9.dflt).2.2.1 (↑ (qb (qI y2.2.2.2.2.2.2.2.2.2.2.2.2.2.2.2.1 y1.toNat T9.dflt).2.2.1) : Int) y0) then
 some y1
 else
 VI k j y0 (qa .i64 (y1 + 1)) y2
 else none
 else none
 else
 some (-1)
def qeg (k : Nat) (a : T17.T) (b : Int) : Option Int :=
 VI k k b 0 a
def Vq := fun k a b => (qeg k a b).getD 0
def qKc (k : Nat) : Ke := (51, mo 2, fun
 | [.agg d, .r (.v (.int .i64 b))], [] => (qX [] T17 d).bind fun a => some (.one (ri (Vq k a b), []))
 | _, _ => none)
def quX : List (Nat × List Cmd) := [(2, [.autoB [1, 2, 5] false []])]
abbrev qMu := EP Tryz.f51 0 ri nb
theorem qvv (k) : ∀ j, (∀ y0 y1 y2, qMu 2 (qDJ y0 y1 y2) (VI k j y0 y1 y2))
 | 0 => by intros; exact e0
 | j + 1 => by
  have ih := @qvv k j
  ·intro y0 y1 y2 r h
   rw [VI] at h
   exact go (qA [qvT k]) [] quX [.autoB [4] true []] (gS h (fun h => qU h fun h => qv h qJc fun h => qu h fun h => gC h 2 (ih _ _ _ _)) fun h => gL h)
theorem qLc (k a b r) (h : qeg k a b = some r): qzd a b r := qO Tryz.f51 (go (qA [qvT k]) [] quX [.autoB [4] true []] (gC h 2 ((qvv k k) _ _ _ _)))
theorem qJe {k a b} (h : (qeg k a b).isSome): qzd a b (Vq k a b) := qJ h (qLc k a b)
end
abbrev Ord := T8.T
abbrev Shp := T11.T
theorem qR6 (k : Nat) (x : Int) (l : List Int) (hl : l.length ≤ 1000000) : ∀ (d i j : Nat), i + d = l.length → d < j → X8 k j x l (l.length : Int) (i : Int) = some (vT x (l.drop i)) := by
 intro d
 induction d with
 | zero =>
  intro i j hi hj
  obtain ⟨j, rfl⟩ := qW (by omega : 0 < j)
  rw [X8, qq (by omega : ¬ (i : Int) < (l.length : Int)), qg, qo (by omega)]; rfl
 | succ d ih =>
  intro i j hi hj
  obtain ⟨j, rfl⟩ := qW (by omega : 0 < j)
  rw [X8, qw (by omega : (i : Int) < (l.length : Int)), qj, qc ⟨by omega, by omega⟩, qe, qH i (by omega), qt l i I.dflt (by omega), ih (i + 1) j (by omega) (by omega)]
  have hb : (x == l.getD i I.dflt) = (l.getD i I.dflt == x) := by
   by_cases h : x = l.getD i I.dflt
   ·rw [beq_iff_eq.2 h]; exact (beq_iff_eq.2 h.symm).symm
   ·rw [beq_eq_false_iff_ne.2 h]; exact (beq_eq_false_iff_ne.2 (fun e => h e.symm)).symm
  rw [hb]
  show _ = some (l.getD i I.dflt == x || vT x (l.drop (i + 1)))
  cases (l.getD i I.dflt == x) <;> rfl
theorem qNU (k : Nat) (l : List Int) (x : Int) (hl : l.length ≤ 1000000) (hk : l.length < k) : qfk k l x = some (vT x l) := by
 unfold qfk
 exact qR6 k x l hl l.length 0 k (by omega) hk
theorem qR7 (k : Nat) (l : List Int) (x : Int) (hl : l.length ≤ 1000000) (hk : l.length < k) : qjy k l x = vT x l := by
 unfold qjy; rw [qNU k l x hl hk]; rfl
theorem qRl (k : Nat) (l : List Int) (x : Int) (n : Nat) (hn : n ≤ l.length) (hb : n ≤ 100000) : ∀ (d i j : Nat), i + d = n → d < j → VH k j l (n : Int) x (i : Int) = some (vT x ((l.drop i).take d)) := by
 intro d
 induction d with
 | zero =>
  intro i j hi hj
  obtain ⟨j, rfl⟩ := qW (by omega : 0 < j)
  rw [VH, qq (by omega : ¬ (i : Int) < (n : Int)), qg, List.take_zero]; rfl
 | succ d ih =>
  intro i j hi hj
  obtain ⟨j, rfl⟩ := qW (by omega : 0 < j)
  rw [VH, qw (by omega : (i : Int) < (n : Int)), qj, qc ⟨by omega, by omega⟩, qe, qH i (by omega), qt l i I.dflt (by omega), List.take_succ_cons, ih (i + 1) j (by omega) (by omega)]
  show _ = some (l.getD i I.dflt == x || vT x _)
  cases (l.getD i I.dflt == x) <;> rfl
theorem qIg (k : Nat) (l : List Int) (x : Int) (n : Nat) (hn : n ≤ l.length) (hb : n ≤ 100000) (hk : n < k) : qef k l (n : Int) x = some (vT x (l.take n)) := by
 unfold qef
 exact qRl k l x n hn hb n 0 k (by omega) hk
theorem qRm (k : Nat) (l : List Int) (x : Int) (n : Nat) (hn : n ≤ l.length) (hb : n ≤ 100000) (hk : n < k) : qih k l (n : Int) x = vT x (l.take n) := by
 unfold qih; rw [qIg k l x n hn hb hk]; rfl
def qar (x : Int) : List T9.T → Option Ord
 | [] => none
 | s :: t => bif vT x s.2.2.1 then some s.1 else qar x t
def qQi : Ord := (0, (0, (0, (0, (0, (0, (0, (0, (0, (0, (0, 0)))))))))))
def qxG (o : Option Ord) : Ord × Bool := match o with
 | some a => (a, true)
 | none => (qQi, false)
theorem qLF (k : Nat) (hk : 100 ≤ k) (b : T17.T) (fnd : List vm) (x y : Int) (l : List T9.T) (hl : l.length ≤ 40) (hs : ∀ s ∈ l, s.2.2.1.length ≤ 40) : ∀ (d i j : Nat), i + d = l.length → d < j →
  X4 k b fnd y j x l (l.length : Int) (i : Int) qQi = some (qxG (qar x (l.drop i))) := by
 intro d
 induction d with
 | zero =>
  intro i j hi hj
  obtain ⟨j, rfl⟩ := qW (by omega : 0 < j)
  rw [X4, qq (by omega : ¬ (i : Int) < (l.length : Int)), qg, qo (by omega)]; rfl
 | succ d ih =>
  intro i j hi hj
  obtain ⟨j, rfl⟩ := qW (by omega : 0 < j)
  have hm := hs _ (gdm l i T9.dflt (by omega))
  rw [X4, qw (by omega : (i : Int) < (l.length : Int)), qj, qc ⟨by omega, by omega⟩, qe, qNU k _ x (by omega) (by omega), qR7 k _ x (by omega) (by omega), qd, qc rfl, qH i (by omega), ih (i + 1) j (by omega) (by omega), qt l i T9.dflt (by omega), qar]
  cases vT x (l.getD i T9.dflt).2.2.1 <;> rfl
theorem qv8 (k : Nat) (hk : 100 ≤ k) (b : T17.T) (g : GB b) (fnd : List vm) (x : Int) : qfg k b fnd x = some (qxG (qar x (b.2.2.2.2.2.2.2.2.2.2.2.2.2.2.2.1))) := by
 have hl := g.bOrders
 unfold qfg
 exact qLF k hk b fnd x x (b.2.2.2.2.2.2.2.2.2.2.2.2.2.2.2.1) hl (fun s h => (g.ord s h).2) (b.2.2.2.2.2.2.2.2.2.2.2.2.2.2.2.1.length) 0 k (by omega) (by omega)
theorem qLG (k : Nat) (hk : 100 ≤ k) (b : T17.T) (g : GB b) (fnd : List vm) (x : Int) : XO k b fnd x = qxG (qar x (b.2.2.2.2.2.2.2.2.2.2.2.2.2.2.2.1)) := by
 unfold XO; rw [qv8 k hk b g fnd x]; rfl
def qdA (x : Int) : List T9.T → Nat → Option Nat
 | [], _ => none
 | s :: t, n => bif vT x s.2.2.1 then some n else qdA x t (n + 1)
theorem qCR (x : Int) : ∀ (l : List T9.T) (n : Nat), match qdA x l n with
  | none => qar x l = none
  | some q => n ≤ q ∧ q - n < l.length ∧ qar x l = some (l.getD (q - n) T9.dflt).1
 | [], n => by simp [qdA, qar]
 | s :: t, n => by
  have ih := qCR x t (n + 1)
  unfold qdA qar
  cases vT x s.2.2.1
  ·rw [qg, qg]
   revert ih
   cases qdA x t (n + 1) with
   | none => exact id
   | some q =>
    intro ih
    obtain ⟨h1, h2, h3⟩ := ih
    refine ⟨by omega, by rw [wB]; omega, ?_⟩
    rw [h3, show q - n = (q - (n + 1)) + 1 by omega]
    rfl
  ·rw [qj, qj]
   refine ⟨qR _, by rw [wB]; omega, ?_⟩
   rw [Nat.sub_self]; rfl
def qxF (o : Option Nat) : Int := match o with
 | some q => (q : Int)
 | none => -1
theorem qDg (k : Nat) (hk : 100 ≤ k) (b : T17.T) (g : GB b) (x : Int) : ∀ (d i j : Nat), i + d = b.2.2.2.2.2.2.2.2.2.2.2.2.2.2.2.1.length → d < j →
  VI k j x (i : Int) b = some (qxF (qdA x (b.2.2.2.2.2.2.2.2.2.2.2.2.2.2.2.1.drop i) i)) := by
 have hl := g.bOrders
 intro d
 induction d with
 | zero =>
  intro i j hi hj
  obtain ⟨j, rfl⟩ := qW (by omega : 0 < j)
  rw [VI, qq (by omega : ¬ (i : Int) < (b.2.2.2.2.2.2.2.2.2.2.2.2.2.2.2.1.length : Int)), qg, qo (by omega)]; rfl
 | succ d ih =>
  intro i j hi hj
  obtain ⟨j, rfl⟩ := qW (by omega : 0 < j)
  have hm := (g.ord _ (gdm (b.2.2.2.2.2.2.2.2.2.2.2.2.2.2.2.1) i T9.dflt (by omega))).2
  have hrw : b.2.2.2.2.2.2.2.2.2.2.2.2.2.2.2.1.drop i = b.2.2.2.2.2.2.2.2.2.2.2.2.2.2.2.1.getD i T9.dflt :: b.2.2.2.2.2.2.2.2.2.2.2.2.2.2.2.1.drop (i + 1) := qt (b.2.2.2.2.2.2.2.2.2.2.2.2.2.2.2.1) i T9.dflt (by omega)
  have hh := qIg k (b.2.2.2.2.2.2.2.2.2.2.2.2.2.2.2.1.getD i T9.dflt).2.2.1 x (b.2.2.2.2.2.2.2.2.2.2.2.2.2.2.2.1.getD i T9.dflt).2.2.1.length (qR _) (by omega) (by omega)
  have hv := qRm k (b.2.2.2.2.2.2.2.2.2.2.2.2.2.2.2.1.getD i T9.dflt).2.2.1 x (b.2.2.2.2.2.2.2.2.2.2.2.2.2.2.2.1.getD i T9.dflt).2.2.1.length (qR _) (by omega) (by omega)
  rw [zj (qR _)] at hh hv
  rw [VI, qw (by omega : (i : Int) < (b.2.2.2.2.2.2.2.2.2.2.2.2.2.2.2.1.length : Int)), qj, qc ⟨by omega, by omega⟩, qe, hh, hv, qd, qc rfl, qH i (by omega), ih (i + 1) j (by omega) (by omega), hrw, qdA]
  cases vT x (b.2.2.2.2.2.2.2.2.2.2.2.2.2.2.2.1.getD i T9.dflt).2.2.1 <;> rfl
theorem qpA (k : Nat) (hk : 100 ≤ k) (b : T17.T) (g : GB b) (x : Int) : qeg k b x = some (qxF (qdA x (b.2.2.2.2.2.2.2.2.2.2.2.2.2.2.2.1) 0)) := by
 have hl := g.bOrders
 unfold qeg
 exact qDg k hk b g x (b.2.2.2.2.2.2.2.2.2.2.2.2.2.2.2.1.length) 0 k (by omega) (by omega)
theorem qDh (k : Nat) (hk : 100 ≤ k) (b : T17.T) (g : GB b) (x : Int) : Vq k b x = qxF (qdA x (b.2.2.2.2.2.2.2.2.2.2.2.2.2.2.2.1) 0) := by
 unfold Vq; rw [qpA k hk b g x]; rfl
end Go.AM
namespace Go.AM
open Go Go.Proofs
noncomputable section
abbrev qy7 (a : T16.T) (r : Int) : Prop := CC Tryz.prog 62 [.agg (qB (qr T16 a))] [] (ri r) (nb r)
def qDF := fun y0 y1 y2 => (⟨qM 73 [(1, .ptr 1000000 0 0), (3, ri y0), (4, ri y1)], [(1000000, 0, .var 117 (qB (qr T16 y2)))]⟩ : St)
def VE (k : Nat) : Nat → Int → Int → T16.T → Option Int
 | 0, _, _, _ => none
 | j + 1, y0, y1, y2 =>
 bif y1 < (↑ (qb y2.2.2) : Int) then
 if (0 ≤ y1) ∧ (y1 < (↑ (qb y2.2.2) : Int)) then
 bif (decide ((qI y2.2.2 y1.toNat T15.dflt).1 < (0 : Int)) || decide ((qI y2.2.2 y1.toNat T15.dflt).1 > (1000000 : Int)) || (qI y2.2.2 y1.toNat T15.dflt).2 == (0 : Int) || decide ((qI y2.2.2 y1.toNat T15.dflt).2 < (-1000000000000 : Int)) || decide ((qI y2.2.2 y1.toNat T15.dflt).2 > (1000000000000 : Int))) then
 some 1
 else
 VE k j (qa .i64 (y0 + (qI y2.2.2 y1.toNat T15.dflt).2)) (qa .i64 (y1 + 1)) y2
 else none
 else
 bif (y0 != 0) then
 some 39
 else
 some 0
def qeb (k : Nat) (a : T16.T) : Option Int :=
 bif (decide (a.1 < (1 : Int)) || decide (a.1 > (1000000 : Int)) || decide (a.2.1 < (0 : Int)) || decide (a.2.1 > (2147483647 : Int))) then
 some 1
 else
 bif (↑ (qb a.2.2) : Int) < (2 : Int) then
 some 10
 else
 bif (↑ (qb a.2.2) : Int) > (16 : Int) then
 some 8
 else
 VE k k 0 0 a
def qcd := fun k a => (qeb k a).getD 0
def qJ7 (k : Nat) : Ke := (62, mo 1, fun
 | [.agg b], [] => (qX [] T16 b).bind fun a => some (.one (ri (qcd k a), []))
 | _, _ => none)
def quT : List (Nat × List Cmd) := [(9, [.autoB [1, 3, 4] false []])]
abbrev qMs := EP Tryz.f62 0 ri nb
theorem qvs (k) : ∀ j, (∀ y0 y1 y2, qMs 9 (qDF y0 y1 y2) (VE k j y0 y1 y2))
 | 0 => by intros; exact e0
 | j + 1 => by
  have ih := @qvs k j
  ·intro y0 y1 y2 r h
   rw [VE] at h
   exact go (qA []) [] quT [.autoB [2] true []] (gS h (fun h => qU h fun h => qu h fun h => gC h 9 (ih _ _ _ _)) fun h => qu h fun h => gL h)
theorem qK6 (k a r) (h : qeb k a = some r): qy7 a r := qO Tryz.f62 (go (qA []) [] quT [.autoB [2] true []] (qu h fun h => qu h fun h => qu h fun h => gC h 9 ((qvs k k) _ _ _ _)))
theorem qI8 {k a} (h : (qeb k a).isSome): qy7 a (qcd k a) := qJ h (qK6 k a)
abbrev qyK (a : T14.T) (r : Int) : Prop := CC Tryz.prog 108 [.agg (qB (qr T14 a))] [] (ri r) (nb r)
def qdV (k : Nat) (a : T14.T) : Option Int :=
 bif (a.2.1 == (6 : Int)) then
 some (qa .i64 (0 - a.2.2.1))
 else
 some a.2.2.1
def qeL := fun k a => (qdV k a).getD 0
def qvO (k : Nat) : Ke := (108, mo 1, fun
 | [.agg b], [] => (qX [] T14 b).bind fun a => some (.one (ri (qeL k a), []))
 | _, _ => none)
theorem qKJ (k a r) (h : qdV k a = some r): qyK a r := qO Tryz.f108 (go (qA []) [] [] [.autoB [2] true []] (qu h fun h => gL h))
theorem qIR {k a} (h : (qdV k a).isSome): qyK a (qeL k a) := qJ h (qKJ k a)
abbrev qyL (a : List T14.T) (b : Int) (r : Int) : Prop := CC Tryz.prog 61 [ro T14 a, ri b] [] (ri r) (nb r)
def qDr := fun y0 y1 y2 => (⟨qM 109 [(0, ro T14 y0), (1, ri y1), (5, ri y2)], []⟩ : St)
def qxT := fun y0 y1 y2 y3 => (⟨qM 109 [(0, ro T14 y0), (1, ri y1), (7, ri y2), (8, ri y3)], []⟩ : St)
mutual
def Vy (k : Nat) : Nat → List T14.T → Int → Int → Option Int
 | 0, _, _, _ => none
 | j + 1, y0, y1, y2 =>
 bif y2 < y0.length then
 if (0 ≤ y2) ∧ (y2 < y0.length) then
 bif (decide ((y0.getD y2.toNat T14.dflt).1 < (0 : Int)) || decide ((y0.getD y2.toNat T14.dflt).1 > (2147483647 : Int))) then
 some 1
 else
 bif (decide ((y0.getD y2.toNat T14.dflt).2.1 < (1 : Int)) || decide ((y0.getD y2.toNat T14.dflt).2.1 > (7 : Int))) then
 some 17
 else
 bif (decide ((y0.getD y2.toNat T14.dflt).2.2.1 < (1 : Int)) || decide ((y0.getD y2.toNat T14.dflt).2.2.1 > (1099511627776 : Int)) || decide ((y0.getD y2.toNat T14.dflt).2.2.2 < (0 : Int)) || decide ((y0.getD y2.toNat T14.dflt).2.2.2 > (206158430208000 : Int))) then
 some 1
 else
 Vy k j y0 y1 (qa .i64 (y2 + 1))
 else none
 else
 Zj k j y0 y1 0 0
def Zj (k : Nat) : Nat → List T14.T → Int → Int → Int → Option Int
 | 0, _, _, _, _ => none
 | j + 1, y0, y1, y2, y3 =>
 bif y3 < y0.length then
 if (decide (y3 > 0) = true → 0 ≤ y3) ∧ (decide (y3 > 0) = true → y3 < y0.length) ∧ (decide (y3 > 0) = true → (0 : Int) ≤ qa .i64 (y3 - 1)) ∧ (decide (y3 > 0) = true → qa .i64 (y3 - 1) < (↑y0.length : Int)) then
 bif (decide (y3 > 0) && decide ((y0.getD y3.toNat T14.dflt).1 < (y0.getD (qa .i64 (y3 - 1)).toNat T14.dflt).1)) then
 some 9
 else
 if (0 ≤ y3) ∧ (y3 < y0.length) ∧ (((y0.getD y3.toNat T14.dflt).2.1 == (6 : Int)) = true → 0 ≤ y3) ∧ (((y0.getD y3.toNat T14.dflt).2.1 == (6 : Int)) = true → y3 < y0.length) then
 bif ((y0.getD y3.toNat T14.dflt).2.1 == (6 : Int) && decide ((y0.getD y3.toNat T14.dflt).2.2.1 > y2)) then
 some 19
 else
 if (0 ≤ y3) ∧ (y3 < y0.length) ∧ ((qdV k (y0.getD y3.toNat T14.dflt)).isSome) then
 bif qa .i64 (y2 + qeL k (y0.getD y3.toNat T14.dflt)) > y1 then
 some 8
 else
 Zj k j y0 y1 (qa .i64 (y2 + qeL k (y0.getD y3.toNat T14.dflt))) (qa .i64 (y3 + 1))
 else none
 else none
 else none
 else
 some 0
end
def qdW (k : Nat) (a : List T14.T) (b : Int) : Option Int :=
 bif (decide (b < 0) || decide (b > 1099511627776)) then
 some 1
 else
 bif (↑a.length : Int) > (512 : Int) then
 some 8
 else
 Vy k k a b 0
def qb9 := fun k a b => (qdW k a b).getD 0
def qJU (k : Nat) : Ke := (61, mo 2, fun
 | [.r (.ro e d), .r (.v (.int .i64 b))], [] => (qC e T14 d).bind fun a => some (.one (ri (qb9 k a b), []))
 | _, _ => none)
def quF : List (Nat × List Cmd) := [(6, [.autoB [0, 1, 5] false []]), (17, [.autoB [0, 1, 7, 8] false []])]
abbrev qzD := EP Tryz.f61 0 ri nb
theorem qvg (k) : ∀ j, (∀ {y0 y1 y2}, qzD 6 (qDr y0 y1 y2) (Vy k j y0 y1 y2)) ∧ (∀ {y0 y1 y2 y3}, qzD 17 (qxT y0 y1 y2 y3) (Zj k j y0 y1 y2 y3))
 | 0 => by and_intros <;> intros <;> exact e0
 | j + 1 => by
  have ih := @qvg k j
  have g := @go (qA [qvO k]) [] quF [.autoB [4] true []]
  refine ⟨?_, ?_⟩
  ·intro y0 y1 y2 r h
   rw [Vy] at h
   exact g (gS h (fun h => qU h fun h => qu h fun h => qu h fun h => qu h fun h => gD h 6 ih.1) fun h => gD h 17 ih.2)
  ·intro y0 y1 y2 y3 r h
   rw [Zj] at h
   exact g (gS h (fun h => gN h YW fun h => qu h fun h => gN h YW fun h => qu h fun h => gN h (fun q => qf q.1 (qf q.2.1 (qf (qIR q.2.2) qP))) fun h => qu h fun h => gD h 17 ih.2) fun h => gL h)
theorem qKK (k a b r) (h : qdW k a b = some r): qyL a b r := qO Tryz.f61 (go (qA [qvO k]) [] quF [.autoB [4] true []] (qu h fun h => qu h fun h => gD h 6 (qvg k k).1))
theorem qIS {k a b} (h : (qdW k a b).isSome): qyL a b (qb9 k a b) := qJ h (qKK k a b)
end
abbrev Itm := T15.T
abbrev Psg := T16.T
abbrev Z4 := T14.T
def qE4 (x : Itm) : Bool := decide (x.1 < (0 : Int)) || decide (x.1 > (1000000 : Int)) || x.2 == (0 : Int) || decide (x.2 < (-1000000000000 : Int)) || decide (x.2 > (1000000000000 : Int))
def qhI : Int → List Itm → Int
 | s, [] => bif s != 0 then 39 else 0
 | s, x :: t => bif qE4 x then 1 else qhI (qa .i64 (s + x.2)) t
def Wd (p : Psg) : Int := bif decide (p.1 < (1 : Int)) || decide (p.1 > (1000000 : Int)) || decide (p.2.1 < (0 : Int)) || decide (p.2.1 > (2147483647 : Int)) then 1 else bif decide ((qb p.2.2 : Int) < 2) then 10 else bif decide ((qb p.2.2 : Int) > 16) then 8 else qhI 0 p.2.2
theorem qRs (k : Nat) (l : List Itm) (hl : l.length ≤ 16) : ∀ (d i j : Nat) (s : Int), i + d = l.length → d < j → Yf k j s l (l.length : Int) (i : Int) = some (qhI s (l.drop i)) := by
 intro d
 induction d with
 | zero =>
  intro i j s hi hj
  obtain ⟨j, rfl⟩ := qW (by omega : 0 < j)
  rw [Yf, qq (by omega : ¬ (i : Int) < (l.length : Int)), qg, qo (by omega), qhI]
  cases (s != 0) <;> rfl
 | succ d ih =>
  intro i j s hi hj
  obtain ⟨j, rfl⟩ := qW (by omega : 0 < j)
  rw [Yf, qw (by omega : (i : Int) < (l.length : Int)), qj, qc ⟨by omega, by omega⟩, qe, qH i (by omega), ih (i + 1) j _ (by omega) (by omega), qt l i T15.dflt (by omega), qhI]
  unfold qE4
  cases (decide ((l.getD i T15.dflt).1 < (0 : Int)) || decide ((l.getD i T15.dflt).1 > (1000000 : Int)) || (l.getD i T15.dflt).2 == (0 : Int) || decide ((l.getD i T15.dflt).2 < (-1000000000000 : Int)) || decide ((l.getD i T15.dflt).2 > (1000000000000 : Int))) <;> rfl
theorem qIn (k : Nat) (hk : 100 ≤ k) (p : Psg) : qi0 k p = some (Wd p) := by
 unfold qi0 Wd
 cases (decide (p.1 < (1 : Int)) || decide (p.1 > (1000000 : Int)) || decide (p.2.1 < (0 : Int)) || decide (p.2.1 > (2147483647 : Int)))
 ·rw [qg, qg]
  by_cases h1 : (qb p.2.2 : Int) < 2
  ·rw [qw h1, qj, qj]
  ·rw [qq h1, qg, qg]
   by_cases h2 : (qb p.2.2 : Int) > 16
   ·rw [qw h2, qj, qj]
   ·rw [qq h2, qg, qg]
    exact qRs k p.2.2 (by omega) (qb p.2.2) 0 k 0 (by omega) (by omega)
 ·rfl
theorem qRt (k : Nat) (hk : 100 ≤ k) (p : Psg) : qc8 k p = Wd p := by unfold qc8; rw [qIn k hk p]; rfl
theorem qQo (k : Nat) (p : Psg) (hl : qb p.2.2 ≤ 16) : ∀ (d i j : Nat) (s : Int), i + d = qb p.2.2 → d < j → VE k j s (i : Int) p = some (qhI s (Wm i p.2.2)) := by
 intro d
 induction d with
 | zero =>
  intro i j s hi hj
  obtain ⟨j, rfl⟩ := qW (by omega : 0 < j)
  have hz : Wm i p.2.2 = [] := qo (by omega)
  rw [VE, qq (by omega : ¬ (i : Int) < (qb p.2.2 : Int)), qg, hz, qhI]
  cases (s != 0) <;> rfl
 | succ d ih =>
  intro i j s hi hj
  obtain ⟨j, rfl⟩ := qW (by omega : 0 < j)
  have hz : Wm i p.2.2 = qI p.2.2 i T15.dflt :: Wm (i + 1) p.2.2 := qt p.2.2 i T15.dflt (by omega)
  rw [VE, qw (by omega : (i : Int) < (qb p.2.2 : Int)), qj, qc ⟨by omega, by omega⟩, qe, qH i (by omega), ih (i + 1) j _ (by omega) (by omega), hz, qhI]
  unfold qE4
  cases (decide ((qI p.2.2 i T15.dflt).1 < (0 : Int)) || decide ((qI p.2.2 i T15.dflt).1 > (1000000 : Int)) || (qI p.2.2 i T15.dflt).2 == (0 : Int) || decide ((qI p.2.2 i T15.dflt).2 < (-1000000000000 : Int)) || decide ((qI p.2.2 i T15.dflt).2 > (1000000000000 : Int))) <;> rfl
theorem qC9 (k : Nat) (hk : 100 ≤ k) (p : Psg) : qeb k p = some (Wd p) := by
 unfold qeb Wd
 cases (decide (p.1 < (1 : Int)) || decide (p.1 > (1000000 : Int)) || decide (p.2.1 < (0 : Int)) || decide (p.2.1 > (2147483647 : Int)))
 ·rw [qg, qg]
  by_cases h1 : (qb p.2.2 : Int) < 2
  ·rw [qw h1, qj, qj]
  ·rw [qq h1, qg, qg]
   by_cases h2 : (qb p.2.2 : Int) > 16
   ·rw [qw h2, qj, qj]
   ·rw [qq h2, qg, qg]
    exact qQo k p (by omega) (qb p.2.2) 0 k 0 (by omega) (by omega)
 ·rfl
theorem qQp (k : Nat) (hk : 100 ≤ k) (p : Psg) : qcd k p = Wd p := by unfold qcd; rw [qC9 k hk p]; rfl
theorem qsd {p : Psg} (h : Wd p = 0) : qb p.2.2 ≤ 16 := by
 unfold Wd at h
 revert h
 cases (decide (p.1 < (1 : Int)) || decide (p.1 > (1000000 : Int)) || decide (p.2.1 < (0 : Int)) || decide (p.2.1 > (2147483647 : Int)))
 ·rw [qg]
  by_cases h2 : (qb p.2.2 : Int) > 16
  ·rw [qw h2, qq (by omega : ¬ (qb p.2.2 : Int) < 2), qg, qj]
   intro h; cases h
  ·intro _; omega
 ·intro h; cases h
def Z6 (x : Z4) : Int := bif decide (x.1 < (0 : Int)) || decide (x.1 > (2147483647 : Int)) then 1 else bif decide (x.2.1 < (1 : Int)) || decide (x.2.1 > (7 : Int)) then 17 else bif decide (x.2.2.1 < (1 : Int)) || decide (x.2.2.1 > (1099511627776 : Int)) || decide (x.2.2.2 < (0 : Int)) || decide (x.2.2.2 > (206158430208000 : Int)) then 1 else 0
def qap (x : Z4) : Int := bif x.2.1 == (6 : Int) then qa .i64 (0 - x.2.2.1) else x.2.2.1
theorem qCQ (k : Nat) (x : Z4) : qiJ k x = some (Z6 x) := by
 unfold qiJ Z6
 cases (decide (x.1 < (0 : Int)) || decide (x.1 > (2147483647 : Int)))
 ·cases (decide (x.2.1 < (1 : Int)) || decide (x.2.1 > (7 : Int)))
  ·cases decide (x.2.2.1 < (1 : Int)) <;> cases decide (x.2.2.1 > (1099511627776 : Int)) <;> cases decide (x.2.2.2 < (0 : Int)) <;> cases decide (x.2.2.2 > (206158430208000 : Int)) <;> rfl
  ·rfl
 ·rfl
theorem qQg (k : Nat) (x : Z4) : qjA k x = Z6 x := by unfold qjA; rw [qCQ]; rfl
theorem qAf {x : Z4} (h : Z6 x = 0) : (1 : Int) ≤ x.2.1 ∧ x.2.1 ≤ (7 : Int) := by
 unfold Z6 at h
 revert h
 cases (decide (x.1 < (0 : Int)) || decide (x.1 > (2147483647 : Int)))
 ·rw [qg]
  by_cases h1 : x.2.1 < (1 : Int)
  ·rw [qw h1, vA, qj]; intro h; cases h
  ·by_cases h2 : x.2.1 > (7 : Int)
   ·rw [qw h2, qS2, qj]; intro h; cases h
   ·intro _; exact ⟨Int.not_lt.1 h1, Int.not_lt.1 h2⟩
 ·intro h; cases h
theorem qIt (k : Nat) (x : Z4) (h : Z6 x = 0) : qfl k x = some (qap x) := by
 obtain ⟨h1, h2⟩ := qAf h
 unfold qfl qap
 have hk : x.2.1 = (1 : Int) ∨ x.2.1 = (2 : Int) ∨ x.2.1 = (3 : Int) ∨ x.2.1 = (4 : Int) ∨ x.2.1 = (5 : Int) ∨ x.2.1 = (6 : Int) ∨ x.2.1 = (7 : Int) := by
  have hz : ∀ z : Int, 1 ≤ z → z ≤ 7 → z = 1 ∨ z = 2 ∨ z = 3 ∨ z = 4 ∨ z = 5 ∨ z = 6 ∨ z = 7 := fun z a b => by omega
  exact hz _ h1 h2
 rcases hk with h | h | h | h | h | h | h <;> rw [h] <;> rfl
theorem qRT (k : Nat) (x : Z4) (h : Z6 x = 0) : qcX k x = qap x := by unfold qcX; rw [qIt k x h]; rfl
theorem qIc (k : Nat) (x : Z4) : qdV k x = some (qap x) := by
 unfold qdV qap
 cases (x.2.1 == (6 : Int)) <;> rfl
theorem qRh (k : Nat) (x : Z4) : qeL k x = qap x := by unfold qeL; rw [qIc]; rfl
def za (l : List Z4) (i : Nat) : Z4 := l.getD i T14.dflt
def qe5 (l : List Z4) : Nat → Nat → Int
 | 0, _ => 0
 | d + 1, i => bif Z6 (za l i) != 0 then Z6 (za l i) else qe5 l d (i + 1)
def qe6 (l : List Z4) (cap : Int) : Nat → Nat → Int → Int
 | 0, _, _ => 0
 | d + 1, i, lev => bif decide ((i : Int) > 0) && decide ((za l i).1 < (za l (qa .i64 ((i : Int) - 1)).toNat).1) then 9 else bif (za l i).2.1 == (6 : Int) && decide ((za l i).2.2.1 > lev) then 19 else bif decide (qa .i64 (lev + qap (za l i)) > cap) then 8 else qe6 l cap d (i + 1) (qa .i64 (lev + qap (za l i)))
def qbi (l : List Z4) (cap : Int) : Int := bif decide (cap < 0) || decide (cap > 1099511627776) then 1 else bif decide ((l.length : Int) > 512) then 8 else bif qe5 l l.length 0 != 0 then qe5 l l.length 0 else qe6 l cap l.length 0 0
theorem qMQ (k : Nat) (l : List Z4) (cap : Int) (hl : l.length ≤ 512) (hb : ∀ i, i < l.length → Z6 (za l i) = 0) : ∀ (d i j : Nat) (lev : Int), i + d = l.length → d < j → Zy k j l cap lev (l.length : Int) (i : Int) = some (qe6 l cap d i lev) := by
 intro d
 induction d with
 | zero =>
  intro i j lev hi hj
  obtain ⟨j, rfl⟩ := qW (by omega : 0 < j)
  rw [Zy, qq (by omega : ¬ (i : Int) < (l.length : Int)), qg]; rfl
 | succ d ih =>
  intro i j lev hi hj
  obtain ⟨j, rfl⟩ := qW (by omega : 0 < j)
  have h0 := hb i (by omega)
  have hw : (i : Int) > 0 → qa .i64 ((i : Int) - 1) = (i : Int) - 1 := fun _ => qm (by omega) (by omega)
  rw [Zy, qw (by omega : (i : Int) < (l.length : Int)), qj, qc ⟨by omega, by omega⟩, qc ⟨fun h => by rw [hw (of_decide_eq_true h)]; have := of_decide_eq_true h; omega, fun h => by rw [hw (of_decide_eq_true h)]; omega⟩, qe]
  show (bif decide ((i : Int) > 0) && decide ((za l i).1 < (za l (qa .i64 ((i : Int) - 1)).toNat).1) then some 9 else bif (za l i).2.1 == (6 : Int) && decide ((za l i).2.2.1 > lev) then some 19 else if ((qfl k (za l i)).isSome = true) then (bif decide (qa .i64 (lev + qcX k (za l i)) > cap) then some 8 else Zy k j l cap (qa .i64 (lev + qcX k (za l i))) (l.length : Int) (qa .i64 ((i : Int) + 1))) else none) = _
  rw [qIt k _ h0, qRT k _ h0, qd, qc rfl, qH i (by omega), ih (i + 1) j _ (by omega) (by omega), qe6]
  cases (decide ((i : Int) > 0) && decide ((za l i).1 < (za l (qa .i64 ((i : Int) - 1)).toNat).1))
  ·cases ((za l i).2.1 == (6 : Int) && decide ((za l i).2.2.1 > lev))
   ·cases decide (qa .i64 (lev + qap (za l i)) > cap) <;> rfl
   ·rfl
  ·rfl
theorem qQ6 (k : Nat) (l : List Z4) (cap : Int) (hl : l.length ≤ 512) : ∀ (d i j : Nat), i + d = l.length → d + l.length + 1 < j → (∀ i', i' < i → Z6 (za l i') = 0) → X9 k j l cap (l.length : Int) (i : Int) = some (bif qe5 l d i != 0 then qe5 l d i else qe6 l cap l.length 0 0) := by
 intro d
 induction d with
 | zero =>
  intro i j hi hj hb
  obtain ⟨j, rfl⟩ := qW (by omega : 0 < j)
  rw [X9, qq (by omega : ¬ (i : Int) < (l.length : Int)), qg]
  exact qMQ k l cap hl (fun i' h => hb i' (by omega)) l.length 0 j 0 (by omega) (by omega)
 | succ d ih =>
  intro i j hi hj hb
  obtain ⟨j, rfl⟩ := qW (by omega : 0 < j)
  rw [X9, qw (by omega : (i : Int) < (l.length : Int)), qj, qe, qCQ, qQg, qc ⟨by omega, by omega, rfl⟩, qe5]
  show (bif Z6 (za l i) != 0 then some (Z6 (za l i)) else _) = _
  cases h : (Z6 (za l i) != 0)
  ·have h0 : Z6 (za l i) = 0 := by simpa using h
   rw [qg, qg, qH i (by omega), ih (i + 1) j (by omega) (by omega) (fun i' h' => by
    rcases Nat.lt_or_eq_of_le (Nat.le_of_lt_succ h') with h1 | h1
    ·exact hb i' h1
    ·rw [h1]; exact h0)]
  ·rw [qj, qj, h, qj]
theorem qug (k : Nat) (hk : 2000 ≤ k) (l : List Z4) (cap : Int) : qiI k l cap = some (qbi l cap) := by
 unfold qiI qbi
 cases (decide (cap < 0) || decide (cap > 1099511627776))
 ·rw [qg, qg]
  by_cases h2 : (l.length : Int) > 512
  ·rw [qw h2, qj, qj]
  ·rw [qq h2, qg, qg]
   exact qQ6 k l cap (by omega) l.length 0 k (by omega) (by omega) (fun i' h => absurd h (Nat.not_lt_zero _))
 ·rfl
theorem qII (k : Nat) (hk : 2000 ≤ k) (l : List Z4) (cap : Int) : YJ k l cap = qbi l cap := by unfold YJ; rw [qug k hk l cap]; rfl
theorem qLI (k : Nat) (l : List Z4) (cap : Int) (hl : l.length ≤ 512) : ∀ (d i j : Nat) (lev : Int), i + d = l.length → d < j → Zj k j l cap lev (i : Int) = some (qe6 l cap d i lev) := by
 intro d
 induction d with
 | zero =>
  intro i j lev hi hj
  obtain ⟨j, rfl⟩ := qW (by omega : 0 < j)
  rw [Zj, qq (by omega : ¬ (i : Int) < (l.length : Int)), qg]; rfl
 | succ d ih =>
  intro i j lev hi hj
  obtain ⟨j, rfl⟩ := qW (by omega : 0 < j)
  have hw : (i : Int) > 0 → qa .i64 ((i : Int) - 1) = (i : Int) - 1 := fun _ => qm (by omega) (by omega)
  rw [Zj, qw (by omega : (i : Int) < (l.length : Int)), qj, qc ⟨fun _ => by omega, fun _ => by omega, fun h => by rw [hw (of_decide_eq_true h)]; have := of_decide_eq_true h; omega, fun h => by rw [hw (of_decide_eq_true h)]; omega⟩, qc ⟨by omega, by omega, fun _ => by omega, fun _ => by omega⟩, qe, qIc, qRh, qc ⟨by omega, by omega, rfl⟩, qH i (by omega), ih (i + 1) j _ (by omega) (by omega), qe6]
  show (bif decide ((i : Int) > 0) && decide ((za l i).1 < (za l (qa .i64 ((i : Int) - 1)).toNat).1) then some 9 else bif (za l i).2.1 == (6 : Int) && decide ((za l i).2.2.1 > lev) then some 19 else bif decide (qa .i64 (lev + qap (za l i)) > cap) then some 8 else some (qe6 l cap d (i + 1) (qa .i64 (lev + qap (za l i))))) = _
  cases (decide ((i : Int) > 0) && decide ((za l i).1 < (za l (qa .i64 ((i : Int) - 1)).toNat).1))
  ·cases ((za l i).2.1 == (6 : Int) && decide ((za l i).2.2.1 > lev))
   ·cases decide (qa .i64 (lev + qap (za l i)) > cap) <;> rfl
   ·rfl
  ·rfl
theorem qQl (k : Nat) (l : List Z4) (cap : Int) (hl : l.length ≤ 512) : ∀ (d i j : Nat), i + d = l.length → d + l.length + 1 < j → Vy k j l cap (i : Int) = some (bif qe5 l d i != 0 then qe5 l d i else qe6 l cap l.length 0 0) := by
 intro d
 induction d with
 | zero =>
  intro i j hi hj
  obtain ⟨j, rfl⟩ := qW (by omega : 0 < j)
  rw [Vy, qq (by omega : ¬ (i : Int) < (l.length : Int)), qg]
  exact qLI k l cap hl l.length 0 j 0 (by omega) (by omega)
 | succ d ih =>
  intro i j hi hj
  obtain ⟨j, rfl⟩ := qW (by omega : 0 < j)
  rw [Vy, qw (by omega : (i : Int) < (l.length : Int)), qj, qe, qc ⟨by omega, by omega⟩, qH i (by omega), ih (i + 1) j (by omega) (by omega), qe5]
  unfold Z6 za
  cases (decide ((l.getD i T14.dflt).1 < (0 : Int)) || decide ((l.getD i T14.dflt).1 > (2147483647 : Int)))
  ·cases (decide ((l.getD i T14.dflt).2.1 < (1 : Int)) || decide ((l.getD i T14.dflt).2.1 > (7 : Int)))
   ·cases (decide ((l.getD i T14.dflt).2.2.1 < (1 : Int)) || decide ((l.getD i T14.dflt).2.2.1 > (1099511627776 : Int)) || decide ((l.getD i T14.dflt).2.2.2 < (0 : Int)) || decide ((l.getD i T14.dflt).2.2.2 > (206158430208000 : Int))) <;> rfl
   ·rfl
  ·rfl
theorem qsB (k : Nat) (hk : 2000 ≤ k) (l : List Z4) (cap : Int) : qdW k l cap = some (qbi l cap) := by
 unfold qdW qbi
 cases (decide (cap < 0) || decide (cap > 1099511627776))
 ·rw [qg, qg]
  by_cases h2 : (l.length : Int) > 512
  ·rw [qw h2, qj, qj]
  ·rw [qq h2, qg, qg]
   exact qQl k l cap (by omega) l.length 0 k (by omega) (by omega)
 ·rfl
theorem qFe (k : Nat) (hk : 2000 ≤ k) (l : List Z4) (cap : Int) : qb9 k l cap = qbi l cap := by unfold qb9; rw [qsB k hk l cap]; rfl
theorem uw (n : Nat) (h : n < 18446744073709551616) : IntKind.u64.wrap (n : Int) = (n : Int) := by
 have : IntKind.u64.wrap (n : Int) = (n : Int) % 18446744073709551616 := rfl
 rw [this]; omega
theorem qw5 (n : Nat) (h : n < 18446744073709551616) : (BitVec.ofInt IntKind.u64.bits (n : Int)).toNat = n := by
 show (BitVec.ofInt 64 (n : Int)).toNat = n
 rw [BitVec.ofInt_natCast, BitVec.toNat_ofNat]
 exact Nat.mod_eq_of_lt h
theorem qxB (n : Nat) (h : n < 18446744073709551616) : ((BitVec.ofInt IntKind.u64.bits (n : Int) &&& BitVec.ofInt IntKind.u64.bits 4294967295).toNat : Int) = ((n % 4294967296 : Nat) : Int) := by
 have h1 : (BitVec.ofInt IntKind.u64.bits (4294967295 : Int)).toNat = 2 ^ 32 - 1 := by decide +kernel
 rw [BitVec.toNat_and, qw5 n h, h1, Nat.and_two_pow_sub_one_eq_mod]
theorem qOM (n : Nat) (h : n < 18446744073709551616) : ((BitVec.ofInt IntKind.u64.bits (n : Int) &&& BitVec.ofInt IntKind.u64.bits 1).toNat : Int) = ((n % 2 : Nat) : Int) := by
 have h1 : (BitVec.ofInt IntKind.u64.bits (1 : Int)).toNat = 2 ^ 1 - 1 := by decide +kernel
 rw [BitVec.toNat_and, qw5 n h, h1, Nat.and_two_pow_sub_one_eq_mod]
theorem orN (i x y : Nat) (h : y < 2 ^ i) (hx : 2 ^ i * x < 18446744073709551616) (hy : y < 18446744073709551616) : ((BitVec.ofInt IntKind.u64.bits ((2 ^ i * x : Nat) : Int) ||| BitVec.ofInt IntKind.u64.bits (y : Int)).toNat : Int) = ((2 ^ i * x + y : Nat) : Int) := by
 rw [BitVec.toNat_or, qw5 _ hx, qw5 y hy, Nat.two_pow_add_eq_or_of_lt h]
theorem qtc (n : Nat) : (n : Int).fdiv (2 ^ min (ql 32) IntKind.u64.bits) = ((n / 4294967296 : Nat) : Int) := by
 have : (2 : Int) ^ min (ql 32) IntKind.u64.bits = ((4294967296 : Nat) : Int) := by decide +kernel
 rw [this, Int.fdiv_eq_ediv_of_nonneg _ (by omega)]; omega
theorem qSe (n : Nat) : (n : Int) * 2 ^ min (ql 32) IntKind.u64.bits = ((2 ^ 32 * n : Nat) : Int) := by
 have : (2 : Int) ^ min (ql 32) IntKind.u64.bits = ((4294967296 : Nat) : Int) := by decide +kernel
 rw [this]; omega
theorem uwm (n : Nat) : IntKind.u64.wrap (n : Int) = ((n % 18446744073709551616 : Nat) : Int) := by
 have : IntKind.u64.wrap (n : Int) = (n : Int) % 18446744073709551616 := rfl
 rw [this]; omega
def qa1 (n : Nat) : Int × Int := (((n / 18446744073709551616 : Nat) : Int), ((n % 18446744073709551616 : Nat) : Int))
theorem qQk (k a b : Nat) (ha : a < 4611686018427387904) (hb : b < 4611686018427387904) : qi2 k (a : Int) (b : Int) = some (qa1 (a * b)) := by
 have a0 : a % 4294967296 < 4294967296 := Nat.mod_lt _ (by omega)
 have b0 : b % 4294967296 < 4294967296 := Nat.mod_lt _ (by omega)
 have a1 : a / 4294967296 < 1073741824 := by omega
 have b1 : b / 4294967296 < 1073741824 := by omega
 have ea : a = 4294967296 * (a / 4294967296) + a % 4294967296 := (Nat.div_add_mod _ _).symm
 have eb : b = 4294967296 * (b / 4294967296) + b % 4294967296 := (Nat.div_add_mod _ _).symm
 unfold qi2
 rw [qtc a, qtc b, qxB a (by omega), qxB b (by omega)]
 generalize a / 4294967296 = A1 at *
 generalize a % 4294967296 = A0 at *
 generalize b / 4294967296 = B1 at *
 generalize b % 4294967296 = B0 at *
 have e : a * b = 18446744073709551616 * (A1 * B1) + 4294967296 * (A1 * B0 + A0 * B1) + A0 * B0 := by
  rw [ea, eb, W9, Nat.mul_add, Nat.mul_add, Nat.mul_mul_mul_comm, Nat.mul_add, Nat.mul_assoc 4294967296 A1 B0, ← Nat.mul_assoc A0 4294967296 B1, Nat.mul_comm A0 4294967296, Nat.mul_assoc 4294967296 A0 B1]
  omega
 have x1 : A1 * B1 ≤ 1073741823 * 1073741823 := Nat.mul_le_mul (by omega) (by omega)
 have x2 : A1 * B0 ≤ 1073741823 * 4294967295 := Nat.mul_le_mul (by omega) (by omega)
 have x3 : A0 * B1 ≤ 4294967295 * 1073741823 := Nat.mul_le_mul (by omega) (by omega)
 have x4 : A0 * B0 ≤ 4294967295 * 4294967295 := Nat.mul_le_mul (by omega) (by omega)
 rw [qc ⟨by decide, by decide⟩, qc (by decide), qc ⟨by decide, by decide, by decide⟩, uw A0 (by omega), uw B0 (by omega), ← Int.natCast_mul A1 B1, ← Int.natCast_mul A1 B0, ← Int.natCast_mul A0 B1, ← Int.natCast_mul A0 B0]
 rw [e]
 clear e ea eb ha hb a0 b0 a1 b1
 generalize A1 * B1 = X at *
 generalize A1 * B0 = Y at *
 generalize A0 * B1 = Z at *
 generalize A0 * B0 = W at *
 rw [uw X (by omega), uw Y (by omega), uw Z (by omega), uw W (by omega), qtc W, ← Int.natCast_add, uw (Y + W / 4294967296) (by omega), qxB _ (by omega), uw _ (by omega : (Y + W / 4294967296) % 4294967296 < 18446744073709551616), ← Int.natCast_add, qtc, ← Int.natCast_add, uw (Z + (Y + W / 4294967296) % 4294967296) (by omega), uw (X + (Y + W / 4294967296) / 4294967296) (by omega), qtc, ← Int.natCast_add, qSe, uwm (2 ^ 32 * _), qxB W (by omega), uw (W % 4294967296) (by omega)]
 have e2 : 2 ^ 32 * (Z + (Y + W / 4294967296) % 4294967296) % 18446744073709551616 = 2 ^ 32 * ((Z + (Y + W / 4294967296) % 4294967296) % 4294967296) := by omega
 rw [e2, orN 32 _ _ (by omega) (by omega) (by omega), uw _ (by omega), uw _ (by omega)]
 unfold qa1
 congr 2 <;> congr 1 <;> omega
theorem dmC (C x y : Nat) (h : y < C) : (C * x + y) / C = x ∧ (C * x + y) % C = y := by
 have hc : 0 < C := by omega
 rw [Nat.mul_add_div hc, Nat.mul_add_mod, Nat.div_eq_of_lt h, Nat.mod_eq_of_lt h]
 exact ⟨rfl, rfl⟩
def qlp (N i : Nat) : Nat := if i / 64 = 0 then N / 18446744073709551616 else N % 18446744073709551616
theorem qSB (N i : Nat) (hi : i < 128) : qlp N i / 2 ^ (63 - i % 64) % 2 = N / 2 ^ (127 - i) % 2 := by
 unfold qlp
 have e64 : (18446744073709551616 : Nat) = 2 ^ 64 := by decide +kernel
 by_cases h : i < 64
 ·rw [qc (by omega), show i % 64 = i by omega, e64, Nat.div_div_eq_div_mul, ← Nat.pow_add, show 64 + (63 - i) = 127 - i by omega]
 ·rw [qi (by omega), show 63 - i % 64 = 127 - i by omega]
  have hm : 127 - i < 64 := by omega
  generalize 127 - i = m at *
  have e : (18446744073709551616 : Nat) = 2 ^ m * (2 * 2 ^ (63 - m)) := by
   rw [e64, ← Nat.pow_succ', ← Nat.pow_add, show m + (63 - m).succ = 64 by omega]
  have hp : 0 < 2 ^ m := Nat.two_pow_pos m
  have h1 : N / 2 ^ m = 2 * 2 ^ (63 - m) * (N / 18446744073709551616) + N % 18446744073709551616 / 2 ^ m := by
   have h2 : N = 2 ^ m * (2 * 2 ^ (63 - m) * (N / 18446744073709551616)) + N % 18446744073709551616 := by
    rw [← Nat.mul_assoc, ← e]; exact (Nat.div_add_mod _ _).symm
   have h3 : (2 ^ m * (2 * 2 ^ (63 - m) * (N / 18446744073709551616)) + N % 18446744073709551616) / 2 ^ m = 2 * 2 ^ (63 - m) * (N / 18446744073709551616) + N % 18446744073709551616 / 2 ^ m := Nat.mul_add_div hp _ _
   rw [← h2] at h3; exact h3
  rw [h1, Nat.mul_assoc, Nat.mul_add_mod]
theorem qR5 (N i : Nat) (hi : i < 128) : N / 2 ^ (128 - (i + 1)) = 2 * (N / 2 ^ (128 - i)) + N / 2 ^ (127 - i) % 2 := by
 rw [show 128 - i = (127 - i) + 1 by omega, show 128 - (i + 1) = 127 - i by omega, Nat.pow_succ, ← Nat.div_div_eq_div_mul]
 omega
def qkn (N C : Nat) : Int × Int × Bool := if N / C < 4611686018427387904 then (((N / C : Nat) : Int), ((N % C : Nat) : Int), true) else (0, 0, false)
theorem fdP (n s : Nat) (h : s < 64) : (n : Int).fdiv (2 ^ min ((s : Int)).toNat IntKind.u64.bits) = ((n / 2 ^ s : Nat) : Int) := by
 have : min ((s : Int)).toNat IntKind.u64.bits = s := by show min ((s : Int)).toNat 64 = s; omega
 rw [this, Int.fdiv_eq_ediv_of_nonneg _ (Int.pow_nonneg (by omega))]
 rw [show (2 : Int) ^ s = ((2 ^ s : Nat) : Int) by rw [Int.natCast_pow]; rfl]
 exact (Int.natCast_ediv _ _).symm
theorem qdt (n : Int) (h0 : 0 ≤ n) (h1 : n < 9223372036854775808) : qa .i64 n = n := qm (by omega) h1
theorem qRk (k N C : Nat) (hC : 0 < C) (hC2 : C ≤ 1125899906842624) (hN : N < 340282366920938463463374607431768211456) : ∀ (d i j q r : Nat), i + d = 128 → d < j → q = N / 2 ^ (128 - i) / C → r = N / 2 ^ (128 - i) % C → q < 4611686018427387904 →
  V3 k j (C : Int) (q : Int) (r : Int) (i : Int) (qa1 N) = some (qkn N C) := by
 intro d
 induction d with
 | zero =>
  intro i j q r hi hj hq hr h2
  obtain ⟨j, rfl⟩ := qW (by omega : 0 < j)
  obtain rfl : i = 128 := by omega
  rw [show 128 - 128 = 0 from rfl, Nat.pow_zero, Nat.div_one] at hq hr
  rw [V3, qq (by omega : ¬ ((128 : Nat) : Int) < 128), qg]
  unfold qkn
  rw [qc (by omega), hq, hr]
 | succ d ih =>
  intro i j q r hi hj hq hr h2
  obtain ⟨j, rfl⟩ := qW (by omega : 0 < j)
  have hrC : r < C := by rw [hr]; exact Nat.mod_lt _ hC
  have t1 : qa .i64 ((i : Int).tdiv 64) = ((i / 64 : Nat) : Int) := by
   rw [Int.tdiv_eq_ediv_of_nonneg (by omega), show (i : Int) / 64 = ((i / 64 : Nat) : Int) by omega]
   exact qdt _ (by omega) (by omega)
  have t2 : IntKind.u64.wrap (qa .i64 (63 - (i : Int).tmod 64)) = ((63 - i % 64 : Nat) : Int) := by
   rw [Int.tmod_eq_emod_of_nonneg (by omega), show (63 : Int) - (i : Int) % 64 = ((63 - i % 64 : Nat) : Int) by omega, qdt _ (by omega) (by omega), uw _ (by omega)]
  have t3 : ([(qa1 N).1, (qa1 N).2].getD (0 + (((i / 64 : Nat) : Int)).toNat * 1) 0) = ((qlp N i : Nat) : Int) := by
   unfold qlp qa1
   by_cases h : i / 64 = 0
   ·rw [qc h, h]; rfl
   ·rw [qi h, show i / 64 = 1 by omega]; rfl
  have hw : qlp N i < 18446744073709551616 := by
   unfold qlp
   by_cases h : i / 64 = 0
   ·rw [qc h]; omega
   ·rw [qi h]; omega
  have hb := qSB N i (by omega)
  have hh := qR5 N i (by omega)
  have t5 : IntKind.u64.wrap (((BitVec.ofInt IntKind.u64.bits ((qlp N i / 2 ^ (63 - i % 64) : Nat) : Int) &&& BitVec.ofInt IntKind.u64.bits 1).toNat : Nat) : Int) = ((N / 2 ^ (127 - i) % 2 : Nat) : Int) := by
   rw [qOM _ (Nat.lt_of_le_of_lt (Nat.div_le_self _ _) hw), hb, uw _ (by omega)]
  have t6 : ∀ x : Nat, (x : Int) * 2 ^ min (ql 1) IntKind.u64.bits = ((2 ^ 1 * x : Nat) : Int) := fun x => by
   have : (2 : Int) ^ min (ql 1) IntKind.u64.bits = 2 := by decide +kernel
   rw [this]; omega
  have t7 : (q : Int).fdiv (2 ^ min (ql 61) IntKind.u64.bits) = ((q / 2 ^ 61 : Nat) : Int) := fdP q 61 (by omega)
  have e61 : (2 : Nat) ^ 61 = 2305843009213693952 := by decide +kernel
  generalize hX : N / 2 ^ (128 - i) = X at *
  generalize hB : N / 2 ^ (127 - i) % 2 = B at *
  have hB2 : B < 2 := by rw [← hB]; exact Nat.mod_lt _ (by omega)
  have eX : X = C * q + r := by rw [hq, hr]; exact (Nat.div_add_mod _ _).symm
  rw [V3, qw (by omega : (i : Int) < 128), qj, t1, t2, t3, qc ⟨by decide, by omega, by omega, by show 0 + (((i / 64 : Nat) : Int)).toNat * 1 < 2; omega, by decide⟩, qc (by decide), t7, e61]
  by_cases h61 : q < 2305843009213693952
  ·rw [show (((q / 2305843009213693952 : Nat) : Int) != 0) = false by rw [Nat.div_eq_of_lt h61]; rfl, qg, qc ⟨by decide, by decide, by omega⟩, fdP _ _ (by omega), t5, t6, t6, uw (2 ^ 1 * r) (by omega), uw (2 ^ 1 * q) (by omega), orN 1 r B (by omega) (by omega) (by omega), uw (2 ^ 1 * r + B) (by omega)]
   have e2 : N / 2 ^ (128 - (i + 1)) = C * (2 * q) + (2 * r + B) := by
    rw [hh, eX, Nat.mul_left_comm C 2 q]; omega
   by_cases hc : C ≤ 2 * r + B
   ·rw [qw (by omega : ((2 ^ 1 * r + B : Nat) : Int) ≥ (C : Int)), qj]
    have o1 : IntKind.u64.wrap (((BitVec.ofInt IntKind.u64.bits ((2 ^ 1 * q : Nat) : Int) ||| BitVec.ofInt IntKind.u64.bits 1).toNat : Nat) : Int) = ((2 * q + 1 : Nat) : Int) := by
     have := orN 1 q 1 (by omega) (by omega) (by omega)
     rw [show (((1 : Nat) : Int)) = (1 : Int) from rfl] at this
     rw [this, uw _ (by omega)]
    have o2 : IntKind.u64.wrap (((2 ^ 1 * r + B : Nat) : Int) - (C : Int)) = ((2 * r + B - C : Nat) : Int) := by
     rw [show ((2 ^ 1 * r + B : Nat) : Int) - (C : Int) = ((2 * r + B - C : Nat) : Int) by omega, uw _ (by omega)]
    have e3 : C * (2 * q) + (2 * r + B) = C * (2 * q + 1) + (2 * r + B - C) := by
     rw [Nat.mul_add C (2 * q) 1]; omega
    obtain ⟨g1, g2⟩ := dmC C (2 * q + 1) (2 * r + B - C) (by omega)
    rw [o1, o2, qH i (by omega), ih (i + 1) j (2 * q + 1) (2 * r + B - C) (by omega) (by omega) (by rw [e2, e3, g1]) (by rw [e2, e3, g2]) (by omega)]
   ·rw [qq (by omega : ¬ ((2 ^ 1 * r + B : Nat) : Int) ≥ (C : Int)), qg]
    obtain ⟨g1, g2⟩ := dmC C (2 * q) (2 * r + B) (by omega)
    rw [qH i (by omega), show (2 ^ 1 * q) = 2 * q from rfl, show 2 ^ 1 * r + B = 2 * r + B from rfl, ih (i + 1) j (2 * q) (2 * r + B) (by omega) (by omega) (by rw [e2, g1]) (by rw [e2, g2]) (by omega)]
  ·have hn : ¬ N / C < 4611686018427387904 := by
    have h1 : X * 2 ≤ N := by
     rw [← hX]
     have : N / 2 ^ (128 - i) * 2 ^ (128 - i) ≤ N := Nat.div_mul_le_self _ _
     refine Nat.le_trans (Nat.mul_le_mul_left _ ?_) this
     rw [show 128 - i = (127 - i) + 1 by omega, Nat.pow_succ]
     have := Nat.two_pow_pos (127 - i)
     omega
    have h3 : C * 4611686018427387904 ≤ N := by
     have h4 : C * 2305843009213693952 ≤ C * q := Nat.mul_le_mul_left _ (by omega)
     have h5 : C * q ≤ X := by rw [eX]; exact Nat.le_add_right _ _
     rw [show (4611686018427387904 : Nat) = 2305843009213693952 * 2 from rfl, ← Nat.mul_assoc]
     exact Nat.le_trans (v7 2 (Nat.le_trans h4 h5)) h1
    have := (Nat.le_div_iff_mul_le hC).2 (show 4611686018427387904 * C ≤ N by rw [Nat.mul_comm]; exact h3)
    omega
   have : (((q / 2305843009213693952 : Nat) : Int) != 0) = true := by
    have : 0 < q / 2305843009213693952 := Nat.div_pos (by omega) (by omega)
    rw [bne_iff_ne]; omega
   rw [this, qj]
   have e : qkn N C = (0, 0, false) := qi hn
   rw [e]
theorem qEQ (k N C : Nat) (hk : 200 ≤ k) (hC : 0 < C) (hC2 : C ≤ 1125899906842624) (hN : N < 340282366920938463463374607431768211456) : qi3 k (qa1 N) (C : Int) = some (qkn N C) := by
 unfold qi3
 have h0 : N / 2 ^ (128 - 0) = 0 := Nat.div_eq_of_lt (by rw [show (2 : Nat) ^ (128 - 0) = 340282366920938463463374607431768211456 by decide +kernel]; exact hN)
 exact qRk k N C hC hC2 hN 128 0 k 0 0 rfl (by omega) (by rw [h0, Nat.zero_div]) (by rw [h0, Nat.zero_mod]) (by omega)
def vn (x : Int) : Bool := !(decide (x < -1125899906842624) || decide (x > 1125899906842624))
def upN (q r c : Nat) : Nat := if 2 * r > c ∨ (2 * r = c ∧ q % 2 = 1) then q + 1 else q
def mdq (a b : Int) (c : Nat) : Nat := upN (a.natAbs * b.natAbs / c) (a.natAbs * b.natAbs % c) c
def Xt (a b : Int) (c : Nat) : Int × Int := bif vn a && vn b then (bif decide (1125899906842624 < mdq a b c) then (0, 2) else (bif !(decide (a < 0) == decide (b < 0)) then -(mdq a b c : Int) else (mdq a b c : Int), 0)) else (0, 1)
theorem qbg {x : Int} (h : vn x = true) : x.natAbs ≤ 1125899906842624 := by
 unfold vn at h
 rw [Bool.not_eq_true', v6] at h
 have h1 := of_decide_eq_false h.1
 have h2 := of_decide_eq_false h.2
 omega
theorem qRz (k : Nat) (l : List Int) (hl : l.length ≤ 100) : ∀ d i j, i + d = l.length → d < j → Yg k j l (l.length : Int) (i : Int) = some ((l.drop i).all vn) := by
 intro d
 induction d with
 | zero =>
  intro i j hi hj
  obtain ⟨j, rfl⟩ := qW (by omega : 0 < j)
  rw [Yg, qq (by omega : ¬ (i : Int) < (l.length : Int)), qg, qo (by omega)]; rfl
 | succ d ih =>
  intro i j hi hj
  obtain ⟨j, rfl⟩ := qW (by omega : 0 < j)
  rw [Yg, qw (by omega : (i : Int) < (l.length : Int)), qj, qc ⟨by omega, by omega⟩, qe, qH i (by omega), ih (i + 1) j (by omega) (by omega), qt l i I.dflt (by omega), List.all_cons]
  unfold vn
  cases (decide (l.getD i I.dflt < -1125899906842624) || decide (l.getD i I.dflt > 1125899906842624)) <;> rfl
theorem qRA (k : Nat) (hk : 200 ≤ k) (l : List Int) (hl : l.length ≤ 100) : qi1 k l = some (l.all vn) := qRz k l hl l.length 0 k (by omega) (by omega)
theorem qmV (k : Nat) (x : Int) (h : vn x = true) : Xk k x = some (x.natAbs : Int) := by
 have := qbg h
 unfold Xk
 by_cases h0 : x < 0
 ·rw [qw h0, qj, qm (by omega) (by omega), show 0 - x = (x.natAbs : Int) by omega, uw _ (by omega)]
 ·rw [qq h0, qg]
  obtain ⟨n, rfl⟩ : ∃ n : Nat, x = n := ⟨x.toNat, by omega⟩
  rw [uw n (by omega), Int.natAbs_natCast]
theorem qmW (k : Nat) (x : Int) (h : vn x = true) : qG k x = (x.natAbs : Int) := by unfold qG; rw [qmV k x h]; rfl
theorem qkf (k : Nat) (hk : 200 ≤ k) (a b : Int) (c : Nat) (hc : 0 < c) (hc2 : c ≤ 1125899906842624) : qaK k a b (c : Int) 2 = some (Xt a b c) := by
 have hcn : vn (c : Int) = true := by
  unfold vn
  rw [qq (by omega), qq (by omega)]; rfl
 have hi : qi1 k [a, b, (c : Int)] = some (vn a && vn b) := by
  rw [qRA k hk _ (by simp)]
  simp only [List.all_cons, List.all_nil, hcn, Bool.and_true]
 have hv : qm8 k [a, b, (c : Int)] = (vn a && vn b) := by unfold qm8; rw [hi]; rfl
 unfold qaK Xt
 rw [hi, hv, qd, qc rfl]
 cases hab : (vn a && vn b)
 ·rw [qS1, qj, qg]
 ·obtain ⟨ha, hb⟩ := Bool.and_eq_true_iff.1 hab
  have pa := qbg ha
  have pb := qbg hb
  have hc0 : (((c : Int) == 0) : Bool) = false := by
   cases h : (((c : Int) == 0) : Bool) with
   | false => rfl
   | true => exact absurd (eq_of_beq h) (by omega)
  have nabs : ((c : Int)).natAbs = c := by omega
  have hN : a.natAbs * b.natAbs ≤ 1125899906842624 * 1125899906842624 := Nat.mul_le_mul pa pb
  have hp := qQk k a.natAbs b.natAbs (by omega) (by omega)
  have hpv : wI k (a.natAbs : Int) (b.natAbs : Int) = qa1 (a.natAbs * b.natAbs) := by unfold wI; rw [hp]; rfl
  have hd := qEQ k (a.natAbs * b.natAbs) c hk hc hc2 (by omega)
  have hdv : wK k (qa1 (a.natAbs * b.natAbs)) (c : Int) = qkn (a.natAbs * b.natAbs) c := by unfold wK; rw [hd]; rfl
  rw [ve, qg, qj, hc0, qg, show (decide ((2 : Int) < 0) || decide ((2 : Int) ≥ 3)) = false from rfl, qg, qmV k a ha, qmV k b hb, qmW k a ha, qmW k b hb, qmV k _ hcn, qmW k _ hcn, nabs, hp, hpv, hd, hdv, qc ⟨rfl, rfl, rfl, rfl, rfl⟩]
  unfold mdq
  generalize a.natAbs * b.natAbs = N at *
  by_cases h62 : N / c < 4611686018427387904
  ·have e : qkn N c = (((N / c : Nat) : Int), ((N % c : Nat) : Int), true) := qc h62
   rw [e]
   have hr : N % c < c := Nat.mod_lt _ hc
   generalize N / c = q at *
   generalize N % c = r at *
   have w2 : IntKind.u64.wrap (2 * (r : Int)) = ((2 * r : Nat) : Int) := by
    rw [show 2 * (r : Int) = ((2 * r : Nat) : Int) by omega, uw _ (by omega)]
   have w1 : IntKind.u64.wrap ((q : Int) + 1) = ((q + 1 : Nat) : Int) := by
    rw [show (q : Int) + 1 = ((q + 1 : Nat) : Int) by omega, uw _ (by omega)]
   have neg : (!((!(decide (a < 0) == decide (b < 0))) == decide ((c : Int) < 0))) = !(decide (a < 0) == decide (b < 0)) := by
    rw [qq (by omega : ¬ (c : Int) < 0)]
    cases (decide (a < 0) == decide (b < 0)) <;> rfl
   rw [ve, qg, show (((2 : Int) == 0) : Bool) = false from rfl, qg, show (((2 : Int) == 1) : Bool) = false from rfl, qg]
   dsimp only
   rw [w2, w1, neg]
   have fin : ∀ Q : Nat, Q < 9223372036854775808 → (bif decide ((Q : Int) > 1125899906842624) then some ((0 : Int), (2 : Int)) else bif !(decide (a < 0) == decide (b < 0)) then some (qa .i64 (0 - qa .i64 (Q : Int)), 0) else some (qa .i64 (Q : Int), 0)) = some (bif decide (1125899906842624 < Q) then (0, 2) else (bif !(decide (a < 0) == decide (b < 0)) then -(Q : Int) else (Q : Int), 0)) := fun Q hQ => by
    rw [qm (by omega : -9223372036854775808 ≤ (Q : Int)) (by omega)]
    by_cases hq : 1125899906842624 < Q
    ·rw [qw (by omega : (Q : Int) > 1125899906842624), qw hq, qj, qj]
    ·rw [qq (by omega : ¬ (Q : Int) > 1125899906842624), qq hq, qg, qg, qm (by omega) (by omega), show 0 - (Q : Int) = -(Q : Int) by omega]
     cases (decide (a < 0) == decide (b < 0)) <;> rfl
   have hk2 : qG k (c : Int) = (c : Int) := by rw [qmW k _ hcn, nabs]
   by_cases hg : 2 * r > c
   ·rw [qw (by omega : ((2 * r : Nat) : Int) > (c : Int)), qj, qc ⟨rfl, rfl⟩, fin (q + 1) (by omega)]
    unfold upN
    rw [qc (.inl hg)]
   ·rw [qq (by omega : ¬ ((2 * r : Nat) : Int) > (c : Int)), qg, qc ⟨rfl, rfl, rfl, fun _ => by decide⟩, vH]
    by_cases hh : 2 * r = c ∧ q % 2 = 1
    ·have b1 : ((((2 * r : Nat) : Int) == (c : Int)) : Bool) = true := by rw [beq_iff_eq]; omega
     have b2 : ((((q : Int).tmod 2) == 1) : Bool) = true := by rw [beq_iff_eq, Int.tmod_eq_emod_of_nonneg (by omega)]; omega
     rw [b1, b2, Bool.and_self, qj, fin (q + 1) (by omega)]
     unfold upN
     rw [qc (.inr hh)]
    ·have b3 : (((((2 * r : Nat) : Int) == (c : Int)) : Bool) && ((((q : Int).tmod 2) == 1) : Bool)) = false := by
      rw [Bool.and_eq_false_iff]
      by_cases hx : 2 * r = c
      ·right
       rw [beq_eq_false_iff_ne, Int.tmod_eq_emod_of_nonneg (by omega)]
       have : ¬ q % 2 = 1 := fun h => hh ⟨hx, h⟩
       omega
      ·left
       rw [beq_eq_false_iff_ne]; omega
     rw [b3, qg, fin q (by omega)]
     unfold upN
     rw [qi (by
      intro h
      rcases h with h | h
      ·exact hg h
      ·exact hh h)]
  ·have e : qkn N c = (0, 0, false) := qi h62
   have hu : 1125899906842624 < upN (N / c) (N % c) c := by
    have : N / c ≤ upN (N / c) (N % c) c := by
     unfold upN
     split <;> omega
    omega
   rw [e, qS1, qj, qw hu, qj]
theorem qqW (k : Nat) (hk : 200 ≤ k) (a b : Int) (c : Nat) (hc : 0 < c) (hc2 : c ≤ 1125899906842624) : Vw k a b (c : Int) 2 = Xt a b c := by unfold Vw; rw [qkf k hk a b c hc hc2]; rfl
end Go.AM
namespace Go.AM
open Go Go.Proofs
noncomputable section
def qbh (r : Int × Int) : AV := .tup [ri r.1, ri r.2]
def qdL (a : Int) (b : Int) (d : Int) (r : Int × Int) : List (Nat × Blk) := []
def qe3 (a : Int) (b : Int) (d : Int) : List AV := [ri a, ri b, ri d]
def qiu (a : Int) (b : Int) (d : Int) : List Blk := []
abbrev qHl (a : Int) (b : Int) (d : Int) (r : Int × Int) : Prop := CC Tryz.prog 158 (qe3 a b d) (qiu a b d) (qbh r) (qdL a b d r)
def qF0 := fun y0 y1 y2 y3 y4 y5 => (⟨qM 38 [(0, ri y0), (1, ri y1), (2, ri y2), (8, ri y3), (9, ri y4), (10, ri y5)], []⟩ : St)
def ZV (k : Nat) : Nat → Int → Int → Int → Int → Int → Int → Option (Int × Int)
 | 0, _, _, _, _, _, _ => none
 | j + 1, y0, y1, y2, y3, y4, y5 =>
 bif y5 ≥ 0 then
 if (0 ≤ y5) then
 bif (qa .i64 (↑ (BitVec.ofInt IntKind.i64.bits (y0.fdiv ((2 : Int) ^ min y5.toNat IntKind.i64.bits)) &&& BitVec.ofInt IntKind.i64.bits (1 : Int)).toNat : Int) == (1 : Int)) then
 if (y2 ≠ (0 : Int)) then
 if (y2 ≠ (0 : Int)) then
 ZV k j y0 y1 y2 (if 4503599627370496 < qa .i64 (qa .i64 (2 * y3) + qa .i64 ((qa .i64 (qa .i64 (2 * y4) + y1)).tdiv y2)) then 4503599627370496 else qa .i64 (qa .i64 (2 * y3) + qa .i64 ((qa .i64 (qa .i64 (2 * y4) + y1)).tdiv y2))) ((qa .i64 (qa .i64 (2 * y4) + y1)).tmod y2) (qa .i64 (y5 - 1))
 else none
 else none
 else
 if (y2 ≠ (0 : Int)) then
 if (y2 ≠ (0 : Int)) then
 ZV k j y0 y1 y2 (if 4503599627370496 < qa .i64 (qa .i64 (2 * y3) + qa .i64 ((qa .i64 (2 * y4)).tdiv y2)) then 4503599627370496 else qa .i64 (qa .i64 (2 * y3) + qa .i64 ((qa .i64 (2 * y4)).tdiv y2))) ((qa .i64 (2 * y4)).tmod y2) (qa .i64 (y5 - 1))
 else none
 else none
 else none
 else
 some (y3, y4)
def qi5 (k : Nat) (a : Int) (b : Int) (d : Int) : Option (Int × Int) :=
 ZV k k a b d 0 0 50
def zD := fun k a b d => (qi5 k a b d).getD (0, 0)
def qOA (k : Nat) : Ke := (158, mo 3, fun
 | [.r (.v (.int .i64 a)), .r (.v (.int .i64 b)), .r (.v (.int .i64 d))], [] => some (.one (qbh (zD k a b d), qdL a b d (zD k a b d)))
 | _, _ => none)
def qBg : List (Nat × List Cmd) := [(3, [.autoB [0, 1, 2, 8, 9, 10] false []])]
abbrev qQX := fun a b d => EP Tryz.f158 0 qbh (qdL a b d)
theorem qB0 (k a b d) : ∀ j, (∀ y0 y1 y2 y3 y4 y5, qQX a b d 3 (qF0 y0 y1 y2 y3 y4 y5) (ZV k j y0 y1 y2 y3 y4 y5))
 | 0 => by intros; exact e0
 | j + 1 => by
  have ih := @qB0 k a b d j
  ·intro y0 y1 y2 y3 y4 y5 r h
   rw [ZV] at h
   exact go (qA []) [] qBg [.autoB [6, 7] true []] (gS h (fun h => qv h id fun h => gS h (fun h => qv h id fun h => qv h id fun h => gC h 3 (ih _ _ _ _ _ _ _)) fun h => qv h id fun h => qv h id fun h => gC h 3 (ih _ _ _ _ _ _ _)) fun h => gL h)
theorem qP3 (k a b d r) (h : qi5 k a b d = some r): qHl a b d r := qO Tryz.f158 (go (qA []) [] qBg [.autoB [6, 7] true []] (gC h 3 ((qB0 k a b d k) _ _ _ _ _ _ _)))
theorem qNy {k a b d} (h : (qi5 k a b d).isSome): qHl a b d (zD k a b d) := qJ h (qP3 k a b d)
def Wh (r : Int) : AV := ri r
def Zc (a : Int) (r : Int) : List (Nat × Blk) := []
def QU (a : Int) : List AV := [ri a]
def WQ (a : Int) : List Blk := []
abbrev qHk (a : Int) (r : Int) : Prop := CC Tryz.prog 159 (QU a) (WQ a) (Wh r) (Zc a r)
def Xl (k : Nat) (a : Int) : Option Int :=
 bif a < 0 then
 some (qa .i64 (0 - a))
 else
 some a
def qD := fun k a => (Xl k a).getD 0
def qOz (k : Nat) : Ke := (159, mo 1, fun
 | [.r (.v (.int .i64 a))], [] => some (.one (Wh (qD k a), Zc a (qD k a)))
 | _, _ => none)
theorem qP2 (k a r) (h : Xl k a = some r): qHk a r := qO Tryz.f159 (go (qA []) [] [] [.autoB [2] true []] (qu h fun h => gL h))
theorem qdO {k a} (h : (Xl k a).isSome): qHk a (qD k a) := qJ h (qP2 k a)
def qju (r : Bool) : AV := rb r
def qlT (a : Int) (r : Bool) : List (Nat × Blk) := []
def qkj (a : Int) : List AV := [ri a]
def qnh (a : Int) : List Blk := []
abbrev qHi (a : Int) (r : Bool) : Prop := CC Tryz.prog 157 (qkj a) (qnh a) (qju r) (qlT a r)
def Vs (k : Nat) (a : Int) : Option Bool :=
 some (decide (a ≥ (-1125899906842624)) && decide (a ≤ 1125899906842624))
def vQ := fun k a => (Vs k a).getD false
def qCA (k : Nat) : Ke := (157, mo 1, fun
 | [.r (.v (.int .i64 a))], [] => some (.one (qju (vQ k a), qlT a (vQ k a)))
 | _, _ => none)
theorem qP0 (k a r) (h : Vs k a = some r): qHi a r := qO Tryz.f157 (go (qA []) [] [] [.autoB [2] true []] (gL h))
theorem qbl {k a} (h : (Vs k a).isSome): qHi a (vQ k a) := qJ h (qP0 k a)
def qwz (r : Int × Int) : AV := .tup [ri r.1, ri r.2]
abbrev qHm (a : Int) (r : Int × Int) : Prop := CC Tryz.prog 160 [ri a] [] (qwz r) (nb r)
def qi6 (k : Nat) (a : Int) : Option (Int × Int) :=
 if ((Vs k a).isSome) then
 bif (!vQ k a) then
 some (0, 2)
 else
 some (a, 0)
 else none
def qjH := fun k a => (qi6 k a).getD (0, 0)
def qOB (k : Nat) : Ke := (160, mo 1, fun
 | [.r (.v (.int .i64 a))], [] => some (.one (qwz (qjH k a), []))
 | _, _ => none)
theorem qP4 (k a r) (h : qi6 k a = some r): qHm a r := qO Tryz.f160 (go (qA [qCA k]) [] [] [.autoB [2, 3] true []] (qv h qbl fun h => qu h fun h => gL h))
theorem qNz {k a} (h : (qi6 k a).isSome): qHm a (qjH k a) := qJ h (qP4 k a)
end
theorem qRy (n : Nat) (h : n < 18446744073709551616) : ((BitVec.ofInt IntKind.i64.bits (n : Int) &&& BitVec.ofInt IntKind.i64.bits 1).toNat : Int) = ((n % 2 : Nat) : Int) := qOM n h
theorem qR3 (n s : Nat) (h : s < 64) : (n : Int).fdiv (2 ^ min ((s : Int)).toNat IntKind.i64.bits) = ((n / 2 ^ s : Nat) : Int) := fdP n s h
theorem tdN (a b : Nat) : (a : Int).tdiv (b : Int) = ((a / b : Nat) : Int) := by
 rw [Int.tdiv_eq_ediv_of_nonneg (by omega)]; exact (Int.natCast_ediv a b).symm
theorem tmN (a b : Nat) : (a : Int).tmod (b : Int) = ((a % b : Nat) : Int) := by
 rw [Int.tmod_eq_emod_of_nonneg (by omega)]; exact (Int.natCast_emod a b).symm
def W2 (n : Nat) : Nat := if 4503599627370496 < n then 4503599627370496 else n
theorem qSd (n : Nat) : (if (4503599627370496 : Int) < (n : Int) then (4503599627370496 : Int) else (n : Int)) = ((W2 n : Nat) : Int) := by
 unfold W2
 by_cases h : 4503599627370496 < n
 ·rw [qc (by omega), qc h]; rfl
 ·rw [qi (by omega), qi h]
theorem qFo (q x : Nat) : W2 (2 * W2 q + x) = W2 (2 * q + x) := by
 unfold W2
 by_cases h1 : 4503599627370496 < q
 ·rw [qc h1, qc (by omega), qc (by omega)]
 ·rw [qi h1]
theorem qQm (k A B C : Nat) (hA : A ≤ 1125899906842624) (hB : B ≤ 1125899906842624) (hC : 0 < C) (hC2 : C ≤ 1125899906842624) : ∀ (m j q r : Nat), m ≤ 51 → m < j → q = W2 (A / 2 ^ m * B / C) → r = A / 2 ^ m * B % C →
  ZV k j (A : Int) (B : Int) (C : Int) (q : Int) (r : Int) ((m : Int) - 1) = some (((W2 (A * B / C) : Nat) : Int), ((A * B % C : Nat) : Int)) := by
 intro m
 induction m with
 | zero =>
  intro j q r hm hj hq hr
  obtain ⟨j, rfl⟩ := qW (by omega : 0 < j)
  rw [Nat.pow_zero, Nat.div_one] at hq hr
  rw [ZV, qq (by omega : ¬ ((0 : Nat) : Int) - 1 ≥ 0), qg, hq, hr]
 | succ m ih =>
  intro j q r hm hj hq hr
  obtain ⟨j, rfl⟩ := qW (by omega : 0 < j)
  have hrC : r < C := by rw [hr]; exact Nat.mod_lt _ hC
  have hq2 : q ≤ 4503599627370496 := by rw [hq]; unfold W2; split <;> omega
  have ei : ((m + 1 : Nat) : Int) - 1 = (m : Int) := by omega
  have hcn : (C : Int) ≠ 0 := by omega
  have hh : A / 2 ^ m = 2 * (A / 2 ^ (m + 1)) + A / 2 ^ m % 2 := by
   rw [Nat.pow_succ, ← Nat.div_div_eq_div_mul]; omega
  have hlt : A / 2 ^ m < 18446744073709551616 := Nat.lt_of_le_of_lt (Nat.div_le_self _ _) (by omega)
  have hb2 : A / 2 ^ m % 2 < 2 := Nat.mod_lt _ (by omega)
  have key : ∀ R : Nat, R = 2 * r + A / 2 ^ m % 2 * B → A / 2 ^ m * B / C = 2 * (A / 2 ^ (m + 1) * B / C) + R / C ∧ A / 2 ^ m * B % C = R % C := fun R hR => by
   have e : A / 2 ^ m * B = C * (2 * (A / 2 ^ (m + 1) * B / C)) + R := by
    have h1 : A / 2 ^ (m + 1) * B = C * (A / 2 ^ (m + 1) * B / C) + r := by rw [hr]; exact (Nat.div_add_mod _ _).symm
    have h2 : A / 2 ^ m * B = 2 * (A / 2 ^ (m + 1) * B) + A / 2 ^ m % 2 * B := by
     conv => lhs; rw [hh]
     rw [W9, Nat.mul_assoc]
    rw [h2, hR, Nat.mul_left_comm C 2]
    generalize C * (A / 2 ^ (m + 1) * B / C) = G at *
    generalize A / 2 ^ m % 2 * B = H at *
    omega
   rw [e, Nat.mul_add_div hC, Nat.mul_add_mod]
   exact ⟨rfl, rfl⟩
  rw [ZV, ei, qw (by omega : (m : Int) ≥ 0), qj, qc (by omega), qR3 A m (by omega), qRy _ hlt, qdt _ (by omega) (by omega), qc hcn, qc hcn, qc hcn, qc hcn]
  have fin : ∀ R : Nat, R < 4503599627370496 → R = 2 * r + A / 2 ^ m % 2 * B → ZV k j (A : Int) (B : Int) (C : Int) (if (4503599627370496 : Int) < qa .i64 (qa .i64 (2 * (q : Int)) + qa .i64 ((R : Int).tdiv (C : Int))) then 4503599627370496 else qa .i64 (qa .i64 (2 * (q : Int)) + qa .i64 ((R : Int).tdiv (C : Int)))) ((R : Int).tmod (C : Int)) (qa .i64 ((m : Int) - 1)) = some (((W2 (A * B / C) : Nat) : Int), ((A * B % C : Nat) : Int)) := fun R hR2 hR => by
   have hRC : R / C ≤ R := Nat.div_le_self _ _
   obtain ⟨k1, k2⟩ := key R hR
   rw [tdN, tmN, ← k2]
   generalize R / C = D at *
   rw [qdt (D : Int) (by omega) (by omega), show 2 * (q : Int) = ((2 * q : Nat) : Int) by omega, qdt ((2 * q : Nat) : Int) (by omega) (by omega), ← Int.natCast_add, qdt ((2 * q + D : Nat) : Int) (by omega) (by omega), qSd, qm (by omega) (by omega), ih j _ _ (by omega) (by omega) (by rw [k1, hq, qFo]) rfl]
  have hbit : A / 2 ^ m % 2 = 0 ∨ A / 2 ^ m % 2 = 1 := by omega
  rcases hbit with h | h
  ·rw [h, show (((((0 : Nat) : Int)) == 1) : Bool) = false from rfl, qg, show 2 * (r : Int) = ((2 * r : Nat) : Int) by omega, qdt ((2 * r : Nat) : Int) (by omega) (by omega)]
   exact fin (2 * r) (by omega) (by rw [h, Nat.zero_mul, qS4])
  ·rw [h, show (((((1 : Nat) : Int)) == 1) : Bool) = true from rfl, qj, show 2 * (r : Int) = ((2 * r : Nat) : Int) by omega, qdt ((2 * r : Nat) : Int) (by omega) (by omega), ← Int.natCast_add, qdt ((2 * r + B : Nat) : Int) (by omega) (by omega)]
   exact fin (2 * r + B) (by omega) (by rw [h, Nat.one_mul])
theorem qCT (k A B C : Nat) (hk : 100 ≤ k) (hA : A ≤ 1125899906842624) (hB : B ≤ 1125899906842624) (hC : 0 < C) (hC2 : C ≤ 1125899906842624) : qi5 k (A : Int) (B : Int) (C : Int) = some (((W2 (A * B / C) : Nat) : Int), ((A * B % C : Nat) : Int)) := by
 unfold qi5
 have h0 : A / 2 ^ 51 = 0 := Nat.div_eq_of_lt (by rw [show (2 : Nat) ^ 51 = 2251799813685248 by decide +kernel]; omega)
 exact qQm k A B C hA hB hC hC2 51 k 0 0 (by omega) (by omega) (by rw [h0, Nat.zero_mul, Nat.zero_div]; rfl) (by rw [h0, Nat.zero_mul, Nat.zero_mod])
end Go.AM
namespace Go.AM
open Go Go.Proofs
noncomputable section
def qoH (r : Int × Int) : AV := .tup [ri r.1, ri r.2]
abbrev qHj (a : Int) (b : Int) (d : Int) (e : Int) (r : Int × Int) : Prop := CC Tryz.prog 110 [ri a, ri b, ri d, ri e] [] (qoH r) (nb r)
def qEh := fun y0 y1 y2 y3 y4 => (⟨qM 101 [(2, ri y0), (3, ri y1), (10, ri y2), (11, ri y3), (12, rb y4)], []⟩ : St)
def qEi := fun y0 y1 y2 y3 y4 => (⟨qM 101 [(2, ri y0), (3, ri y1), (10, ri y2), (11, ri y3), (12, rb y4)], []⟩ : St)
def qEj := fun y0 y1 y2 y3 y4 y5 => (⟨qM 101 [(2, ri y0), (3, ri y1), (10, ri y2), (11, ri y3), (12, rb y4), (13, rb y5)], []⟩ : St)
def qEk := fun y0 y1 y2 y3 => (⟨qM 101 [(10, ri y0), (11, ri y1), (12, rb y2), (13, rb y3)], []⟩ : St)
def qEl := fun y0 y1 => (⟨qM 101 [(10, ri y0), (12, rb y1)], []⟩ : St)
def qEm := fun y0 => (⟨qM 101 [(10, ri y0)], []⟩ : St)
mutual
def VQ (k : Nat) : Nat → Int → Int → Int → Int → Bool → Option (Int × Int)
 | 0, _, _, _, _, _ => none
 | j + 1, y0, y1, y2, y3, y4 =>
 bif y0 < 0 then
 qbF k j y0 y1 y2 y3 (!y4)
 else
 qbF k j y0 y1 y2 y3 y4
def qbF (k : Nat) : Nat → Int → Int → Int → Int → Bool → Option (Int × Int)
 | 0, _, _, _, _, _ => none
 | j + 1, y0, y1, y2, y3, y4 =>
 qfu k j y0 y1 y2 y3 y4 (y1 == 0 && y4 || y1 == 1 && (!y4))
def qfu (k : Nat) : Nat → Int → Int → Int → Int → Bool → Bool → Option (Int × Int)
 | 0, _, _, _, _, _, _ => none
 | j + 1, y0, y1, y2, y3, y4, y5 =>
 bif (y1 == 2) then
 bif qa .i64 ((2 : Int) * y3) > qD k y0 then
 if ((Xl k y0).isSome) ∧ (decide (qa .i64 ((2 : Int) * y3) > qD k y0) = true) then
 VR k j y2 y3 y4 true
 else none
 else
 if ((Xl k y0).isSome) ∧ (decide (qa .i64 ((2 : Int) * y3) > qD k y0) = false) ∧ ((Xl k y0).isSome) ∧ ((qa .i64 ((2 : Int) * y3) == qD k y0) = true → (2 : Int) ≠ (0 : Int)) then
 VR k j y2 y3 y4 (false || qa .i64 (2 * y3) == qD k y0 && y2.tmod 2 == 1)
 else none
 else
 VR k j y2 y3 y4 y5
def VR (k : Nat) : Nat → Int → Int → Bool → Bool → Option (Int × Int)
 | 0, _, _, _, _ => none
 | j + 1, y0, y1, y2, y3 =>
 bif (decide (y1 > 0) && y3) then
 Yk k j (qa .i64 (y0 + 1)) y2
 else
 Yk k j y0 y2
def Yk (k : Nat) : Nat → Int → Bool → Option (Int × Int)
 | 0, _, _ => none
 | j + 1, y0, y1 =>
 bif y1 then
 Yl k j (qa .i64 (0 - y0))
 else
 Yl k j y0
def Yl (k : Nat) : Nat → Int → Option (Int × Int)
 | 0, _ => none
 | j + 1, y0 =>
 if ((qi6 k y0).isSome) then
 some ((qjH k y0).1, (qjH k y0).2)
 else none
end
def qcD (k : Nat) (a : Int) (b : Int) (d : Int) (e : Int) : Option (Int × Int) :=
 bif (!vQ k a) then
 if ((Vs k a).isSome) ∧ ((!vQ k a) = true) ∧ (true = true) then
 some (0, 1)
 else none
 else
 bif (false || (!vQ k b)) then
 if ((Vs k a).isSome) ∧ ((!vQ k a) = false) ∧ ((Vs k b).isSome) ∧ ((false || (!vQ k b)) = true) then
 some (0, 1)
 else none
 else
 if ((Vs k a).isSome) ∧ ((!vQ k a) = false) ∧ ((Vs k b).isSome) ∧ ((false || (!vQ k b)) = false) ∧ ((Vs k d).isSome) then
 bif (false || (!vQ k d)) then
 some (0, 1)
 else
 bif (d == 0) then
 some (0, 16)
 else
 bif (decide (e < 0) || decide (e > 2)) then
 some (0, 17)
 else
 if ((Xl k a).isSome) ∧ ((Xl k b).isSome) ∧ ((Xl k d).isSome) ∧ ((qi5 k (qD k a) (qD k b) (qD k d)).isSome) then
 bif b < 0 then
 VQ k k d e ((zD k (qD k a) (qD k b) (qD k d)).1) ((zD k (qD k a) (qD k b) (qD k d)).2) (!decide (a < 0))
 else
 VQ k k d e ((zD k (qD k a) (qD k b) (qD k d)).1) ((zD k (qD k a) (qD k b) (qD k d)).2) (decide (a < 0))
 else none
 else none
def qa0 := fun k a b d e => (qcD k a b d e).getD (0, 0)
def qCB (k : Nat) : Ke := (110, mo 4, fun
 | [.r (.v (.int .i64 a)), .r (.v (.int .i64 b)), .r (.v (.int .i64 d)), .r (.v (.int .i64 e))], [] => some (.one (qoH (qa0 k a b d e), []))
 | _, _ => none)
def qH1 (k : Nat) : Calld := qA [qCA k, qOA k, qOz k, qOB k]
def qBf : List (Nat × List Cmd) := [(11, [.autoB [2, 3, 10, 11, 12] false []]), (13, [.autoB [2, 3, 10, 11, 12] false []]), (14, [.autoB [2, 3, 10, 11, 12, 13] false []]), (16, [.autoB [10, 11, 12, 13] false []]), (18, [.autoB [10, 12] false []]), (20, [.autoB [10] false []])]
abbrev qis := EE Tryz.f110 0 qoH nb
theorem qrP (k) : ∀ j, (∀ {y0 y1 y2 y3 y4}, qis (zK Tryz.f110 11) (qEh y0 y1 y2 y3 y4) (VQ k j y0 y1 y2 y3 y4)) ∧ (∀ {y0 y1 y2 y3 y4}, qis (zK Tryz.f110 13) (qEi y0 y1 y2 y3 y4) (qbF k j y0 y1 y2 y3 y4)) ∧ (∀ {y0 y1 y2 y3 y4 y5}, qis (zK Tryz.f110 14) (qEj y0 y1 y2 y3 y4 y5) (qfu k j y0 y1 y2 y3 y4 y5)) ∧ (∀ {y0 y1 y2 y3}, qis (zK Tryz.f110 16) (qEk y0 y1 y2 y3) (VR k j y0 y1 y2 y3)) ∧ (∀ {y0 y1}, qis (zK Tryz.f110 18) (qEl y0 y1) (Yk k j y0 y1)) ∧ (∀ {y0}, qis (zK Tryz.f110 20) (qEm y0) (Yl k j y0))
 | 0 => by and_intros <;> intros <;> exact e0
 | j + 1 => by
  have ih := @qrP k j
  have g := @go (qH1 k) [11, 13, 14, 16, 18, 20] qBf [.autoB [8, 9] true []]
  refine ⟨?_, ?_, ?_, ?_, ?_, ?_⟩
  ·intro y0 y1 y2 y3 y4 r h
   rw [VQ] at h
   exact g (gS h (fun h => gD h 13 ih.2.1) fun h => gD h 13 ih.2.1)
  ·intro y0 y1 y2 y3 y4 r h
   rw [qbF] at h
   exact g (gD h 14 ih.2.2.1)
  ·intro y0 y1 y2 y3 y4 y5 r h
   rw [qfu] at h
   exact g (gS h (fun h => gS h (fun h => gN h (fun q => qf (qdO q.1) (qf q.2 qP)) fun h => gD h 16 ih.2.2.2.1) fun h => gN h (fun q => qf (qdO q.1) (qf q.2.1 (qf (qdO q.2.2.1) (qf q.2.2.2 qP)))) fun h => gD h 16 ih.2.2.2.1) fun h => gD h 16 ih.2.2.2.1)
  ·intro y0 y1 y2 y3 r h
   rw [VR] at h
   exact g (gS h (fun h => gD h 18 ih.2.2.2.2.1) fun h => gD h 18 ih.2.2.2.2.1)
  ·intro y0 y1 r h
   rw [Yk] at h
   exact g (gS h (fun h => gD h 20 ih.2.2.2.2.2) fun h => gD h 20 ih.2.2.2.2.2)
  ·intro y0 r h
   rw [Yl] at h
   exact g (qv h qNz fun h => gL h)
theorem qP1 (k a b d e r) (h : qcD k a b d e = some r): qHj a b d e r := qO Tryz.f110 (go (qH1 k) [11, 13, 14, 16, 18, 20] qBf [.autoB [8, 9] true []] (gS h (fun h => gU1 h (.need [CC Tryz.prog 157 (qkj a) (qnh a) (qju (vQ k a)) (qlT a (vQ k a)), (!vQ k a) = true, true = false, CC Tryz.prog 157 (qkj d) (qnh d) (qju (vQ k d)) (qlT d (vQ k d))] (.test (false || (!vQ k d)) (.leaf (.tup [.r (.v (.int .i64 0)), .r (.v (.int .i64 1))]) []) (.test (d == (0 : Int)) (.leaf (.tup [.r (.v (.int .i64 0)), .r (.v (.int .i64 16))]) []) (.test (decide (e < (0 : Int)) || decide (e > (2 : Int))) (.leaf (.tup [.r (.v (.int .i64 0)), .r (.v (.int .i64 17))]) []) (.need [CC Tryz.prog 159 (QU a) (WQ a) (Wh (qD k a)) (Zc a (qD k a)), CC Tryz.prog 159 (QU b) (WQ b) (Wh (qD k b)) (Zc b (qD k b)), CC Tryz.prog 159 (QU d) (WQ d) (Wh (qD k d)) (Zc d (qD k d)), CC Tryz.prog 158 (qe3 (qD k a) (qD k b) (qD k d)) (qiu (qD k a) (qD k b) (qD k d)) (qbh (zD k (qD k a) (qD k b) (qD k d))) (qdL (qD k a) (qD k b) (qD k d) (zD k (qD k a) (qD k b) (qD k d)))] (.test (decide (b < (0 : Int))) (.cut 11 (zK Tryz.f110 11) ⟨qM 101 [(2, .r (.v (.int .i64 d))), (3, .r (.v (.int .i64 e))), (10, .r (.v (.int .i64 ((zD k (qD k a) (qD k b) (qD k d)).1)))), (11, .r (.v (.int .i64 ((zD k (qD k a) (qD k b) (qD k d)).2)))), (12, .r (.v (.bool (!decide (a < 0)))))], []⟩) (.cut 11 (zK Tryz.f110 11) ⟨qM 101 [(2, .r (.v (.int .i64 d))), (3, .r (.v (.int .i64 e))), (10, .r (.v (.int .i64 ((zD k (qD k a) (qD k b) (qD k d)).1)))), (11, .r (.v (.int .i64 ((zD k (qD k a) (qD k b) (qD k d)).2)))), (12, .r (.v (.bool (decide (a < 0)))))], []⟩))))))) fun h => gN h (fun q => qf (qbl q.1) (qf q.2.1 (qf q.2.2 qP))) fun h => gU1 h (.test (d == (0 : Int)) (.leaf (.tup [.r (.v (.int .i64 0)), .r (.v (.int .i64 16))]) []) (.test (decide (e < (0 : Int)) || decide (e > (2 : Int))) (.leaf (.tup [.r (.v (.int .i64 0)), .r (.v (.int .i64 17))]) []) (.need [CC Tryz.prog 159 (QU a) (WQ a) (Wh (qD k a)) (Zc a (qD k a)), CC Tryz.prog 159 (QU b) (WQ b) (Wh (qD k b)) (Zc b (qD k b)), CC Tryz.prog 159 (QU d) (WQ d) (Wh (qD k d)) (Zc d (qD k d)), CC Tryz.prog 158 (qe3 (qD k a) (qD k b) (qD k d)) (qiu (qD k a) (qD k b) (qD k d)) (qbh (zD k (qD k a) (qD k b) (qD k d))) (qdL (qD k a) (qD k b) (qD k d) (zD k (qD k a) (qD k b) (qD k d)))] (.test (decide (b < (0 : Int))) (.cut 11 (zK Tryz.f110 11) ⟨qM 101 [(2, .r (.v (.int .i64 d))), (3, .r (.v (.int .i64 e))), (10, .r (.v (.int .i64 ((zD k (qD k a) (qD k b) (qD k d)).1)))), (11, .r (.v (.int .i64 ((zD k (qD k a) (qD k b) (qD k d)).2)))), (12, .r (.v (.bool (!decide (a < 0)))))], []⟩) (.cut 11 (zK Tryz.f110 11) ⟨qM 101 [(2, .r (.v (.int .i64 d))), (3, .r (.v (.int .i64 e))), (10, .r (.v (.int .i64 ((zD k (qD k a) (qD k b) (qD k d)).1)))), (11, .r (.v (.int .i64 ((zD k (qD k a) (qD k b) (qD k d)).2)))), (12, .r (.v (.bool (decide (a < 0)))))], []⟩))))) fun h => gL h) fun h => gS h (fun h => gN h (fun q => qf (qbl q.1) (qf q.2.1 (qf (qbl q.2.2.1) (qf q.2.2.2 qP)))) fun h => gU1 h (.test (d == (0 : Int)) (.leaf (.tup [.r (.v (.int .i64 0)), .r (.v (.int .i64 16))]) []) (.test (decide (e < (0 : Int)) || decide (e > (2 : Int))) (.leaf (.tup [.r (.v (.int .i64 0)), .r (.v (.int .i64 17))]) []) (.need [CC Tryz.prog 159 (QU a) (WQ a) (Wh (qD k a)) (Zc a (qD k a)), CC Tryz.prog 159 (QU b) (WQ b) (Wh (qD k b)) (Zc b (qD k b)), CC Tryz.prog 159 (QU d) (WQ d) (Wh (qD k d)) (Zc d (qD k d)), CC Tryz.prog 158 (qe3 (qD k a) (qD k b) (qD k d)) (qiu (qD k a) (qD k b) (qD k d)) (qbh (zD k (qD k a) (qD k b) (qD k d))) (qdL (qD k a) (qD k b) (qD k d) (zD k (qD k a) (qD k b) (qD k d)))] (.test (decide (b < (0 : Int))) (.cut 11 (zK Tryz.f110 11) ⟨qM 101 [(2, .r (.v (.int .i64 d))), (3, .r (.v (.int .i64 e))), (10, .r (.v (.int .i64 ((zD k (qD k a) (qD k b) (qD k d)).1)))), (11, .r (.v (.int .i64 ((zD k (qD k a) (qD k b) (qD k d)).2)))), (12, .r (.v (.bool (!decide (a < 0)))))], []⟩) (.cut 11 (zK Tryz.f110 11) ⟨qM 101 [(2, .r (.v (.int .i64 d))), (3, .r (.v (.int .i64 e))), (10, .r (.v (.int .i64 ((zD k (qD k a) (qD k b) (qD k d)).1)))), (11, .r (.v (.int .i64 ((zD k (qD k a) (qD k b) (qD k d)).2)))), (12, .r (.v (.bool (decide (a < 0)))))], []⟩))))) fun h => gL h) fun h => gN h (fun q => qf (qbl q.1) (qf q.2.1 (qf (qbl q.2.2.1) (qf q.2.2.2.1 (qf (qbl q.2.2.2.2) qP))))) fun h => qu h fun h => qu h fun h => qu h fun h => gN h (fun q => qf (qdO q.1) (qf (qdO q.2.1) (qf (qdO q.2.2.1) (qf (qNy q.2.2.2) qP)))) fun h => gS h (fun h => gD h 11 (qrP k k).1) fun h => gD h 11 (qrP k k).1))
theorem qAA {k a b d e} (h : (qcD k a b d e).isSome): qHj a b d e (qa0 k a b d e) := qJ h (qP1 k a b d e)
def qsY (r : Int × Int) : AV := .tup [ri r.1, ri r.2]
abbrev qyU (a : Int) (b : Int) (d : Int) (r : Int × Int) : Prop := CC Tryz.prog 109 [ri a, ri b, ri d] [] (qsY r) (nb r)
def qd2 (k : Nat) (a : Int) (b : Int) (d : Int) : Option (Int × Int) :=
 bif (decide (a < 0) || decide (a > 12000) || decide (b < 0) || decide (b > 17179869184) || decide (d < 0) || decide (d > 1000000)) then
 some (0, 1)
 else
 if ((qcD k (qa .i64 (a * b)) d 1000000000 2).isSome) then
 some ((qa0 k (qa .i64 (a * b)) d 1000000000 2).1, (qa0 k (qa .i64 (a * b)) d 1000000000 2).2)
 else none
def qcb := fun k a b d => (qd2 k a b d).getD (0, 0)
def qJY (k : Nat) : Ke := (109, mo 3, fun
 | [.r (.v (.int .i64 a)), .r (.v (.int .i64 b)), .r (.v (.int .i64 d))], [] => some (.one (qsY (qcb k a b d), []))
 | _, _ => none)
theorem qKT (k a b d r) (h : qd2 k a b d = some r): qyU a b d r := qO Tryz.f109 (go (qA [qCB k]) [] [] [.autoB [6, 7] true []] (qu h fun h => qv h qAA fun h => gL h))
theorem qIZ {k a b d} (h : (qd2 k a b d).isSome): qyU a b d (qcb k a b d) := qJ h (qKT k a b d)
end
theorem qlw (k : Nat) (x : Int) : Vs k x = some (vn x) := by
 unfold Vs vn
 by_cases h1 : x < -1125899906842624
 ·rw [qq (by omega : ¬ x ≥ -1125899906842624), qw h1, wE, vA, ve]
 ·by_cases h2 : x > 1125899906842624
  ·rw [qw (by omega : x ≥ -1125899906842624), qq h1, qw h2, qq (by omega : ¬ x ≤ 1125899906842624), XT, qS2, ve]
  ·rw [qw (by omega : x ≥ -1125899906842624), qq h1, qq h2, qw (by omega : x ≤ 1125899906842624)]; rfl
theorem qqo (k : Nat) (x : Int) : vQ k x = vn x := by unfold vQ; rw [qlw k x]; rfl
theorem qgU (k : Nat) (x : Int) (h : vn x = true) : Xl k x = some (x.natAbs : Int) := by
 have := qbg h
 unfold Xl
 by_cases h0 : x < 0
 ·rw [qw h0, qj, qm (by omega) (by omega), show 0 - x = (x.natAbs : Int) by omega]
 ·rw [qq h0, qg]
  obtain ⟨n, rfl⟩ : ∃ n : Nat, x = n := ⟨x.toNat, by omega⟩
  rw [Int.natAbs_natCast]
theorem qlM (k : Nat) (x : Int) (h : vn x = true) : qD k x = (x.natAbs : Int) := by unfold qD; rw [qgU k x h]; rfl
def qh0 (Q : Nat) (n : Bool) : Int × Int := bif decide (1125899906842624 < Q) then (0, 2) else (bif n then -(Q : Int) else (Q : Int), 0)
theorem qMG (k : Nat) (x : Int) : qi6 k x = some (bif vn x then (x, 0) else (0, 2)) := by
 unfold qi6
 rw [qlw, qqo, qd, qc rfl]
 cases vn x <;> rfl
theorem qMH (k : Nat) (x : Int) : qjH k x = (bif vn x then (x, 0) else (0, 2)) := by unfold qjH; rw [qMG k x]; rfl
theorem qH4 (k j Q : Nat) (n : Bool) (hQ : Q < 9223372036854775808) : Yk k (j + 2) (Q : Int) n = some (qh0 Q n) := by
 have h20 : ∀ x : Int, Yl k (j + 1) x = some (bif vn x then (x, 0) else (0, 2)) := fun x => by
  rw [Yl, qMG, qMH, qd, qc rfl]
 rw [Yk, h20, h20, qm (by omega) (by omega)]
 unfold qh0 vn
 by_cases h : 1125899906842624 < Q
 ·rw [qw h, qj, qw (by omega : 0 - (Q : Int) < -1125899906842624), qw (by omega : (Q : Int) > 1125899906842624)]
  cases n
  ·rw [qg, qS2]; rfl
  ·rw [qj, vA]; rfl
 ·rw [qq h, qg, qq (by omega : ¬ 0 - (Q : Int) < -1125899906842624), qq (by omega : ¬ (Q : Int) > 1125899906842624), qq (by omega : ¬ 0 - (Q : Int) > 1125899906842624), qq (by omega : ¬ (Q : Int) < -1125899906842624)]
  cases n
  ·rfl
  ·rw [qj, qj, show 0 - (Q : Int) = -(Q : Int) by omega]; rfl
theorem qwZ (k j q r : Nat) (n aw : Bool) (hq : q ≤ 4503599627370496) (hr : aw = true → 0 < r) : VR k (j + 3) (q : Int) (r : Int) n aw = some (qh0 (if aw = true then q + 1 else q) n) := by
 rw [VR]
 cases aw
 ·rw [XT, qg, qH4 k j q n (by omega), qi (by decide)]
 ·have := hr rfl
  rw [qw (by omega : (r : Int) > 0), Bool.and_self, qj, qH q (by omega), qH4 k j (q + 1) n (by omega), qc rfl]
theorem qQ4 (k j c q r : Nat) (n : Bool) (hc : 0 < c) (hc2 : c ≤ 1125899906842624) (hq : q ≤ 4503599627370496) (hr : r < c) : VQ k (j + 6) (c : Int) 2 (q : Int) (r : Int) n = some (qh0 (upN q r c) n) := by
 have hcn : vn (c : Int) = true := by
  unfold vn
  rw [qq (by omega), qq (by omega)]; rfl
 have nabs : ((c : Int)).natAbs = c := by omega
 rw [VQ, qq (by omega : ¬ (c : Int) < 0), qg, qbF, qfu, show (((2 : Int) == 2) : Bool) = true from rfl, qj, qgU k _ hcn, qlM k _ hcn, nabs, show 2 * (r : Int) = ((2 * r : Nat) : Int) by omega, qdt ((2 * r : Nat) : Int) (by omega) (by omega)]
 unfold upN
 by_cases hg : 2 * r > c
 ·rw [qw (by omega : ((2 * r : Nat) : Int) > (c : Int)), qj, qc ⟨rfl, rfl⟩, qwZ k j q r n true hq (fun _ => by omega), qc rfl, qc (.inl hg)]
 ·rw [qq (by omega : ¬ ((2 * r : Nat) : Int) > (c : Int)), qg, qc ⟨rfl, rfl, rfl, fun _ => by decide⟩, vH]
  by_cases hh : 2 * r = c ∧ q % 2 = 1
  ·have b1 : ((((2 * r : Nat) : Int) == (c : Int)) : Bool) = true := by rw [beq_iff_eq]; omega
   have b2 : ((((q : Int).tmod 2) == 1) : Bool) = true := by rw [beq_iff_eq, Int.tmod_eq_emod_of_nonneg (by omega)]; omega
   rw [b1, b2, Bool.and_self, qwZ k j q r n true hq (fun _ => by omega), qc rfl, qc (.inr hh)]
  ·have b3 : (((((2 * r : Nat) : Int) == (c : Int)) : Bool) && ((((q : Int).tmod 2) == 1) : Bool)) = false := by
    rw [Bool.and_eq_false_iff]
    by_cases hx : 2 * r = c
    ·right
     rw [beq_eq_false_iff_ne, Int.tmod_eq_emod_of_nonneg (by omega)]
     have : ¬ q % 2 = 1 := fun h => hh ⟨hx, h⟩
     omega
    ·left
     rw [beq_eq_false_iff_ne]; omega
   rw [b3, qwZ k j q r n false hq (fun h => by cases h), qi (by decide), qi (by
    intro h
    rcases h with h | h
    ·exact hg h
    ·exact hh h)]
theorem qgS (k : Nat) (hk : 200 ≤ k) (a b : Int) (c : Nat) (hc : 0 < c) (hc2 : c ≤ 1125899906842624) : qcD k a b (c : Int) 2 = some (Xt a b c) := by
 have hcn : vn (c : Int) = true := by
  unfold vn
  rw [qq (by omega), qq (by omega)]; rfl
 have nabs : ((c : Int)).natAbs = c := by omega
 have hc0 : (((c : Int) == 0) : Bool) = false := by
  cases h : (((c : Int) == 0) : Bool) with
  | false => rfl
  | true => exact absurd (eq_of_beq h) (by omega)
 unfold qcD Xt
 rw [qlw, qlw, qlw, qqo, qqo, qqo]
 cases ha : vn a
 ·rw [qS1, qj, qc ⟨rfl, rfl, rfl⟩, wE, qg]
 ·rw [ve, qg]
  cases hb : vn b
  ·rw [qS1, qS2, qj, qc ⟨rfl, rfl, rfl, rfl⟩, XT, qg]
  ·have pa := qbg ha
   have pb := qbg hb
   have hd := qCT k a.natAbs b.natAbs c (by omega) pa pb hc hc2
   have hdv : zD k (a.natAbs : Int) (b.natAbs : Int) (c : Int) = (((W2 (a.natAbs * b.natAbs / c) : Nat) : Int), ((a.natAbs * b.natAbs % c : Nat) : Int)) := by unfold zD; rw [hd]; rfl
   rw [ve, Bool.or_false, qg, qc ⟨rfl, rfl, rfl, rfl, rfl⟩, hcn, ve, Bool.or_false, qg, hc0, qg, show (decide ((2 : Int) < 0) || decide ((2 : Int) > 2)) = false from rfl, qg, qgU k a ha, qgU k b hb, qgU k _ hcn, qlM k a ha, qlM k b hb, qlM k _ hcn, nabs, hd, hdv, qc ⟨rfl, rfl, rfl, rfl⟩, Bool.and_self, qj]
   have hr : a.natAbs * b.natAbs % c < c := Nat.mod_lt _ hc
   have hs : W2 (a.natAbs * b.natAbs / c) ≤ 4503599627370496 := by unfold W2; split <;> omega
   obtain ⟨k', hk'⟩ : ∃ q, k = q + 6 := ⟨k - 6, by omega⟩
   have h11 : ∀ n : Bool, VQ k k (c : Int) 2 (W2 (a.natAbs * b.natAbs / c) : Int) (((a.natAbs * b.natAbs % c : Nat)) : Int) n = some (qh0 (mdq a b c) n) := fun n => by
    conv => lhs; rw [hk']
    rw [qQ4 (k' + 6) k' c _ _ n hc hc2 hs hr]
    unfold mdq
    generalize a.natAbs * b.natAbs / c = Q at *
    generalize a.natAbs * b.natAbs % c = R at *
    by_cases hQ : 4503599627370496 < Q
    ·have u1 : 1125899906842624 < upN (W2 Q) R c := by
      have : W2 Q = 4503599627370496 := qc hQ
      rw [this]; unfold upN; split <;> omega
     have u2 : 1125899906842624 < upN Q R c := by unfold upN; split <;> omega
     unfold qh0
     rw [qw u1, qw u2, qj, qj]
    ·have : W2 Q = Q := qi hQ
     rw [this]
   dsimp only
   by_cases h : b < 0
   ·rw [qw h, qj, h11]
    unfold qh0
    cases decide (a < 0) <;> rfl
   ·rw [qq h, qg, h11]
    unfold qh0
    cases decide (a < 0) <;> rfl
theorem qoT (k : Nat) (hk : 200 ≤ k) (a b : Int) (c : Nat) (hc : 0 < c) (hc2 : c ≤ 1125899906842624) : qa0 k a b (c : Int) 2 = Xt a b c := by unfold qa0; rw [qgS k hk a b c hc hc2]; rfl
def QI (w l b : Int) : Int × Int := bif decide (w < 0) || decide (w > 12000) || decide (l < 0) || decide (l > 17179869184) || decide (b < 0) || decide (b > 1000000) then (0, 1) else Xt (qa .i64 (w * l)) b 1000000000
theorem qzY (k : Nat) (hk : 200 ≤ k) (w l b : Int) : qiN k w l b = some (QI w l b) := by
 have h := qkf k hk (qa .i64 (w * l)) b 1000000000 (by omega) (by omega)
 have h2 := qqW k hk (qa .i64 (w * l)) b 1000000000 (by omega) (by omega)
 rw [show (((1000000000 : Nat) : Int)) = 1000000000 from rfl] at h h2
 unfold qiN QI
 rw [h, h2, qd, qc rfl]
 cases (decide (w < 0) || decide (w > 12000) || decide (l < 0) || decide (l > 17179869184) || decide (b < 0) || decide (b > 1000000)) <;> rfl
theorem qME (k : Nat) (hk : 200 ≤ k) (w l b : Int) : qaX k w l b = QI w l b := by unfold qaX; rw [qzY k hk w l b]; rfl
theorem qub (k : Nat) (hk : 200 ≤ k) (w l b : Int) : qd2 k w l b = some (QI w l b) := by
 have h := qgS k hk (qa .i64 (w * l)) b 1000000000 (by omega) (by omega)
 have h2 := qoT k hk (qa .i64 (w * l)) b 1000000000 (by omega) (by omega)
 rw [show (((1000000000 : Nat) : Int)) = 1000000000 from rfl] at h h2
 unfold qd2 QI
 rw [h, h2, qd, qc rfl]
 cases (decide (w < 0) || decide (w > 12000) || decide (l < 0) || decide (l > 17179869184) || decide (b < 0) || decide (b > 1000000)) <;> rfl
theorem qIB (k : Nat) (hk : 200 ≤ k) (w l b : Int) : qcb k w l b = QI w l b := by unfold qcb; rw [qub k hk w l b]; rfl
end Go.AM
namespace Go.AM
open Go Go.Proofs
noncomputable section
abbrev qq0 : Type := T23.T
def qs5 (r : qq0) : AV := .agg (qB (qr T23 r))
abbrev qze (a : T17.T) (r : qq0) : Prop := CC Tryz.prog 99 [.agg (qB (qr T17 a))] [] (qs5 r) (nb r)
def qeh (k : Nat) (a : T17.T) : Option qq0 :=
 some (a.2.1, a.2.2.1)
def QO := fun k a => (qeh k a).getD (T23).dflt
def qvU (k : Nat) : Ke := (99, mo 1, fun
 | [.agg b], [] => (qX [] T17 b).bind fun a => some (.one (qs5 (QO k a), []))
 | _, _ => none)
theorem qLd (k a r) (h : qeh k a = some r): qze a r := qO Tryz.f99 (go (qA []) [] [] [.autoB [2] true []] (gL h))
theorem qut {k a} (h : (qeh k a).isSome): qze a (QO k a) := qJ h (qLd k a)
abbrev qqZ : Type := T24.T
def qs4 (r : qqZ) : AV := .agg (qB (qr T24 r))
abbrev qzc (a : T17.T) (r : qqZ) : Prop := CC Tryz.prog 53 [.agg (qB (qr T17 a))] [] (qs4 r) (nb r)
def qhg (k : Nat) (a : T17.T) : Option qqZ :=
 if ((qeh k a).isSome) then
 some (a.2.2.2.2.2.2.2.2.2.2.2.1, (((QO k a).1, (QO k a).2), (a.2.2.2.2.2.2.2.2.2.1, (a.2.2.2.2.2.2.2.2.2.2.2.2.2.2.1, (a.2.2.2.2.2.2.2.1, a.2.2.2.2.2.1)))))
 else none
def ZN := fun k a => (qhg k a).getD (T24).dflt
def qKb (k : Nat) : Ke := (53, mo 1, fun
 | [.agg b], [] => (qX [] T17 b).bind fun a => some (.one (qs4 (ZN k a), []))
 | _, _ => none)
theorem qLb (k a r) (h : qhg k a = some r): qzc a r := qO Tryz.f53 (go (qA [qvU k]) [] [] [.frz 2 true T24, .autoB [2] true []] (qv h qut fun h => gL h))
theorem qJd {k a} (h : (qhg k a).isSome): qzc a (ZN k a) := qJ h (qLb k a)
abbrev qy9 (a : T17.T) (b : Int) (r : Int) : Prop := CC Tryz.prog 63 [.agg (qB (qr T17 a)), ri b] [] (ri r) (nb r)
def qed (k : Nat) (a : T17.T) (b : Int) : Option Int :=
 if ((qeg k a b).isSome) then
 if ((qhg k a).isSome) ∧ ((qbv k (ZN k a) b).isSome) then
 bif (decide (Vq k a b < 0) || (WO k (ZN k a) b).2 != (0 : Int)) then
 some 0
 else
 if ((qeh k a).isSome) ∧ ((Y3 k a.2.2.2.2.2.2.2.2.2.2.2.1 (QO k a) b).isSome) then
 if ((0 : Int) ≤ (WO k (ZN k a) b).1.1) ∧ ((WO k (ZN k a) b).1.1 < (↑ (qb a.2.2.2.2.2.2.2.1) : Int)) ∧ ((qd2 k (vG k a.2.2.2.2.2.2.2.2.2.2.2.1 (QO k a) b).1 (vG k a.2.2.2.2.2.2.2.2.2.2.2.1 (QO k a) b).2.1 (qI a.2.2.2.2.2.2.2.1 (ql (WO k (ZN k a) b).1.1) T0.dflt).2.1).isSome) then
 if ((0 : Int) ≤ Vq k a b) ∧ (Vq k a b < (↑ (qb a.2.2.2.2.2.2.2.2.2.2.2.2.2.2.2.1) : Int)) ∧ ((qcD k (qcb k (vG k a.2.2.2.2.2.2.2.2.2.2.2.1 (QO k a) b).1 (vG k a.2.2.2.2.2.2.2.2.2.2.2.1 (QO k a) b).2.1 (qI a.2.2.2.2.2.2.2.1 (ql (WO k (ZN k a) b).1.1) T0.dflt).2.1).1 (qI a.2.2.2.2.2.2.2.2.2.2.2.2.2.2.2.1 (ql (Vq k a b)) T9.dflt).1.2.2.2.2.2.2.2.2.2.2.2 1000000 2).isSome) then
 some (if 1000000000000 < (qa0 k (qcb k (vG k a.2.2.2.2.2.2.2.2.2.2.2.1 (QO k a) b).1 (vG k a.2.2.2.2.2.2.2.2.2.2.2.1 (QO k a) b).2.1 (qI a.2.2.2.2.2.2.2.1 (ql (WO k (ZN k a) b).1.1) T0.dflt).2.1).1 (qI a.2.2.2.2.2.2.2.2.2.2.2.2.2.2.2.1 (ql (Vq k a b)) T9.dflt).1.2.2.2.2.2.2.2.2.2.2.2 1000000 2).1 then 1000000000000 else (qa0 k (qcb k (vG k a.2.2.2.2.2.2.2.2.2.2.2.1 (QO k a) b).1 (vG k a.2.2.2.2.2.2.2.2.2.2.2.1 (QO k a) b).2.1 (qI a.2.2.2.2.2.2.2.1 (ql (WO k (ZN k a) b).1.1) T0.dflt).2.1).1 (qI a.2.2.2.2.2.2.2.2.2.2.2.2.2.2.2.1 (ql (Vq k a b)) T9.dflt).1.2.2.2.2.2.2.2.2.2.2.2 1000000 2).1)
 else none
 else none
 else none
 else none
 else none
def qig := fun k a b => (qed k a b).getD 0
def qJ9 (k : Nat) : Ke := (63, mo 2, fun
 | [.agg d, .r (.v (.int .i64 b))], [] => (qX [] T17 d).bind fun a => some (.one (ri (qig k a b), []))
 | _, _ => none)
theorem qK8 (k a b r) (h : qed k a b = some r): qy9 a b r := qO Tryz.f63 (go (qA [qKc k, qvS k, qJ6 k, qvU k, qKb k, qCB k, qJY k]) [] [] [.autoB [4] true []] (qv h qJe fun h => gN h (fun q => qf (qJd q.1) (qf (qI7 q.2) qP)) fun h => qu h fun h => gN h (fun q => qf (qut q.1) (qf (qus q.2) qP)) fun h => gN h (fun q => qf q.1 (qf q.2.1 (qf (qIZ q.2.2) qP))) fun h => gN h (fun q => qf q.1 (qf q.2.1 (qf (qAA q.2.2) qP))) fun h => gL h))
theorem qJa {k a b} (h : (qed k a b).isSome): qy9 a b (qig k a b) := qJ h (qK8 k a b)
end
theorem qv2 {a b : Int} {c : Nat} (h : (Xt a b c).2 ≠ 0) : (Xt a b c).1 = 0 := by
 unfold Xt at *
 revert h
 cases (vn a && vn b)
 ·intro _; rfl
 ·rw [qj]
  cases decide (1125899906842624 < mdq a b c)
  ·intro h; exact absurd rfl h
  ·intro _; rfl
theorem qkz (b : Int) {c : Nat} (hc : 0 < c) : (Xt 0 b c).1 = 0 := by
 have e : mdq 0 b c = 0 := by
  unfold mdq upN
  rw [Int.natAbs_zero, Nat.zero_mul, Nat.zero_div, Nat.zero_mod, qi (by omega)]
 unfold Xt
 rw [e]
 cases (vn 0 && vn b)
 ·rfl
 ·cases (!(decide ((0 : Int) < 0) == decide (b < 0))) <;> rfl
theorem qCI {w l b : Int} (h : (QI w l b).2 ≠ 0) : (QI w l b).1 = 0 := by
 unfold QI at *
 revert h
 cases (decide (w < 0) || decide (w > 12000) || decide (l < 0) || decide (l > 17179869184) || decide (b < 0) || decide (b > 1000000))
 ·exact qv2
 ·intro _; rfl
theorem qxz (b : Int) : (QI 0 0 b).1 = 0 := by
 unfold QI
 cases (decide ((0 : Int) < 0) || decide ((0 : Int) > 12000) || decide ((0 : Int) < 0) || decide ((0 : Int) > 17179869184) || decide (b < 0) || decide (b > 1000000))
 ·exact qkz b (by omega)
 ·rfl
theorem qDi {l : List Ro} {W L id : Int} (h : (z8 l W L id).2.2 ≠ 0) : (z8 l W L id).1 = 0 ∧ (z8 l W L id).2.1 = 0 := by
 unfold z8 at *
 by_cases h1 : vp l W L id ≠ 0
 ·rw [qc h1]; exact ⟨rfl, rfl⟩
 ·rw [qi h1] at h; exact absurd rfl h
theorem qCf {R : List Ro} {W L : Int} {secs : List wz} {sp : List wO} {gr : List Grd} {core id : Int} (h : (Qg R W L secs sp gr core id).2 = 0) : 0 ≤ (Qg R W L secs sp gr core id).1.1 ∧ (Qg R W L secs sp gr core id).1.1 < (gr.length : Int) := by
 unfold Qg at *
 by_cases h1 : (qQ R W L id).2 ≠ 0
 ·rw [qc h1] at h; exact absurd h h1
 rw [qi h1] at *
 by_cases h2 : id = 0
 ·rw [qc h2] at h; cases h
 rw [qi h2] at *
 by_cases h3 : vt secs ≠ 0
 ·rw [qc h3] at h; exact absurd h h3
 rw [qi h3] at *
 by_cases h4 : wQ secs ≠ L
 ·rw [qc h4] at h; cases h
 rw [qi h4] at *
 unfold qbH at *
 generalize (gpS secs (qQ R W L id).1).1 = g at *
 generalize (gpS secs (qQ R W L id).1).2 = a at *
 generalize (qQ R W L id).1 = c at *
 by_cases h5 : g < 0 ∨ g ≥ gr.length
 ·rw [qc h5] at h; cases h
 rw [qi h5] at *
 by_cases h6 : (Xc core (qp c.2.2.2) (qdd gr g)).2 ≠ 0
 ·rw [qc h6] at h; exact absurd h h6
 rw [qi h6] at *
 by_cases h7 : (QR R W L sp id).2 ≠ 0
 ·rw [qc h7] at h; exact absurd h h7
 rw [qi h7] at *
 have e1 : ¬ g < 0 := fun x => h5 (.inl x)
 have e2 : ¬ g ≥ gr.length := fun x => h5 (.inr x)
 exact ⟨Int.not_lt.1 e1, by
  show g < (gr.length : Int)
  omega⟩
def QF (b : T17.T) (x : Int) : Fac × Int := Qg (b.2.2.2.2.2.2.2.2.2.2.2.1) (b.2.1) (b.2.2.1) (b.2.2.2.2.2.2.2.2.2.1) (b.2.2.2.2.2.2.2.2.2.2.2.2.2.2.1) (b.2.2.2.2.2.2.2.1) (b.2.2.2.2.2.1) x
def clp (n : Int) : Int := if 1000000000000 < n then 1000000000000 else n
def qE7 (b : T17.T) (x : Int) : Int × Int := QI (z8 (b.2.2.2.2.2.2.2.2.2.2.2.1) (b.2.1) (b.2.2.1) x).1 (z8 (b.2.2.2.2.2.2.2.2.2.2.2.1) (b.2.1) (b.2.2.1) x).2.1 (b.2.2.2.2.2.2.2.1.getD (QF b x).1.1.toNat T0.dflt).2.1
def qkt (b : T17.T) (x : Int) : Int := match qar x (b.2.2.2.2.2.2.2.2.2.2.2.2.2.2.2.1) with
 | none => 0
 | some o => bif (QF b x).2 != 0 then 0 else clp (Xt (qE7 b x).1 o.2.2.2.2.2.2.2.2.2.2.2 1000000).1
theorem qw9 : clp 0 = 0 := by unfold clp; rw [qi (by decide)]
theorem qRu (k : Nat) (hk : 200 ≤ k) (a p : Int) : qaK k a p 1000000 2 = some (Xt a p 1000000) := qkf k hk a p 1000000 (by omega) (by omega)
theorem qRv (k : Nat) (hk : 200 ≤ k) (a p : Int) : Vw k a p 1000000 2 = Xt a p 1000000 := qqW k hk a p 1000000 (by omega) (by omega)
theorem qQq (k : Nat) (hk : 200 ≤ k) (a p : Int) : qcD k a p 1000000 2 = some (Xt a p 1000000) := qgS k hk a p 1000000 (by omega) (by omega)
theorem qQr (k : Nat) (hk : 200 ≤ k) (a p : Int) : qa0 k a p 1000000 2 = Xt a p 1000000 := qoT k hk a p 1000000 (by omega) (by omega)
theorem qpc (k : Nat) (hk : 301000 ≤ k) (b : T17.T) (g : GB b) (fnd : List vm) (x : Int) : qiD k b fnd x = some (qkt b x) := by
 have hgs : Y6 k (b.2.2.2.2.2.2.2.2.2.2.2.1, (b.2.1, b.2.2.1), b.2.2.2.2.2.2.2.2.2.1, b.2.2.2.2.2.2.2.2.2.2.2.2.2.2.1, b.2.2.2.2.2.2.2.1, b.2.2.2.2.2.1) x = some (QF b x) := qb5 k hk (b.2.2.2.2.2.2.2.2.2.2.2.1, (b.2.1, b.2.2.1), b.2.2.2.2.2.2.2.2.2.1, b.2.2.2.2.2.2.2.2.2.2.2.2.2.2.1, b.2.2.2.2.2.2.2.1, b.2.2.2.2.2.1) x
 have hgv : va k (b.2.2.2.2.2.2.2.2.2.2.2.1, (b.2.1, b.2.2.1), b.2.2.2.2.2.2.2.2.2.1, b.2.2.2.2.2.2.2.2.2.2.2.2.2.2.1, b.2.2.2.2.2.2.2.1, b.2.2.2.2.2.1) x = QF b x := qkO k hk (b.2.2.2.2.2.2.2.2.2.2.2.1, (b.2.1, b.2.2.1), b.2.2.2.2.2.2.2.2.2.1, b.2.2.2.2.2.2.2.2.2.2.2.2.2.2.1, b.2.2.2.2.2.2.2.1, b.2.2.2.2.2.1) x
 have hrs : qiF k b fnd = some (b.2.2.2.2.2.2.2.2.2.2.2.1, (b.2.1, b.2.2.1), b.2.2.2.2.2.2.2.2.2.1, b.2.2.2.2.2.2.2.2.2.2.2.2.2.2.1, b.2.2.2.2.2.2.2.1, b.2.2.2.2.2.1) := rfl
 have hrv : vO k b fnd = (b.2.2.2.2.2.2.2.2.2.2.2.1, (b.2.1, b.2.2.1), b.2.2.2.2.2.2.2.2.2.1, b.2.2.2.2.2.2.2.2.2.2.2.2.2.2.1, b.2.2.2.2.2.2.2.1, b.2.2.2.2.2.1) := rfl
 have hms : qiE k b fnd = some (b.2.1, b.2.2.1) := rfl
 have hmv : vN k b fnd = (b.2.1, b.2.2.1) := rfl
 have hss : qfn k (b.2.2.2.2.2.2.2.2.2.2.2.1) (b.2.1, b.2.2.1) x = some (z8 (b.2.2.2.2.2.2.2.2.2.2.2.1) (b.2.1) (b.2.2.1) x) := qmg k (by omega) (b.2.2.2.2.2.2.2.2.2.2.2.1) (b.2.1, b.2.2.1) x
 have hsv : Qt k (b.2.2.2.2.2.2.2.2.2.2.2.1) (b.2.1, b.2.2.1) x = z8 (b.2.2.2.2.2.2.2.2.2.2.2.1) (b.2.1) (b.2.2.1) x := qxm k (by omega) (b.2.2.2.2.2.2.2.2.2.2.2.1) (b.2.1, b.2.2.1) x
 unfold qiD qkt
 rw [qv8 k (by omega) b g, qLG k (by omega) b g, qd, qc rfl]
 cases ho : qar x (b.2.2.2.2.2.2.2.2.2.2.2.2.2.2.2.1) with
 | none => rfl
 | some o =>
  rw [show qxG (some o) = (o, true) from rfl]
  dsimp only
  rw [ve, qg, hrs, hrv, hgs, hgv, qc ⟨rfl, rfl⟩]
  cases hz : ((QF b x).2 != (0 : Int))
  ·have h0 : (QF b x).2 = 0 := by simpa using hz
   obtain ⟨g1, g2⟩ := qCf (show (Qg (b.2.2.2.2.2.2.2.2.2.2.2.1) (b.2.1) (b.2.2.1) (b.2.2.2.2.2.2.2.2.2.1) (b.2.2.2.2.2.2.2.2.2.2.2.2.2.2.1) (b.2.2.2.2.2.2.2.1) (b.2.2.2.2.2.1) x).2 = 0 from h0)
   rw [qg, qg, hms, hmv, hss, hsv, qc ⟨rfl, rfl⟩]
   unfold qE7
   generalize hA : z8 (b.2.2.2.2.2.2.2.2.2.2.2.1) (b.2.1) (b.2.2.1) x = A
   cases h1 : (A.2.2 != (0 : Int))
   ·rw [qg, qzY k (by omega), qME k (by omega), qc ⟨g1, g2, rfl⟩]
    have hme := @qCI A.1 A.2.1 (b.2.2.2.2.2.2.2.1.getD (QF b x).1.1.toNat T0.dflt).2.1
    show (bif (QI A.1 A.2.1 (b.2.2.2.2.2.2.2.1.getD (QF b x).1.1.toNat T0.dflt).2.1).2 != 0 then some 0 else if (qaK k (QI A.1 A.2.1 (b.2.2.2.2.2.2.2.1.getD (QF b x).1.1.toNat T0.dflt).2.1).1 o.2.2.2.2.2.2.2.2.2.2.2 1000000 2).isSome = true then (bif (Vw k (QI A.1 A.2.1 (b.2.2.2.2.2.2.2.1.getD (QF b x).1.1.toNat T0.dflt).2.1).1 o.2.2.2.2.2.2.2.2.2.2.2 1000000 2).2 != 0 then some 0 else some (clp (Vw k (QI A.1 A.2.1 (b.2.2.2.2.2.2.2.1.getD (QF b x).1.1.toNat T0.dflt).2.1).1 o.2.2.2.2.2.2.2.2.2.2.2 1000000 2).1)) else none) = _
    generalize QI A.1 A.2.1 (b.2.2.2.2.2.2.2.1.getD (QF b x).1.1.toNat T0.dflt).2.1 = M at *
    rw [qRu k (by omega), qRv k (by omega), qd, qc rfl]
    cases h3 : (M.2 != (0 : Int))
    ·rw [qg]
     cases h4 : ((Xt M.1 o.2.2.2.2.2.2.2.2.2.2.2 1000000).2 != (0 : Int))
     ·rfl
     ·rw [qj, qv2 (by simpa using h4), qw9]
    ·rw [qj, hme (by simpa using h3), qkz _ (by omega), qw9]
   ·have h2 : (z8 (b.2.2.2.2.2.2.2.2.2.2.2.1) (b.2.1) (b.2.2.1) x).2.2 ≠ 0 := by rw [hA]; simpa using h1
    obtain ⟨e1, e2⟩ := qDi h2
    rw [hA] at e1 e2
    rw [qj, e1, e2, qxz, qkz _ (by omega), qw9]
  ·rw [qj, qj]
theorem qCh (k : Nat) (hk : 301000 ≤ k) (b : T17.T) (g : GB b) (fnd : List vm) (x : Int) : qjx k b fnd x = qkt b x := by
 unfold qjx; rw [qpc k hk b g fnd x]; rfl
theorem qlO (k : Nat) (hk : 301000 ≤ k) (b : T17.T) (g : GB b) (x : Int) : qed k b x = some (qkt b x) := by
 have hgs : qbv k (b.2.2.2.2.2.2.2.2.2.2.2.1, (b.2.1, b.2.2.1), b.2.2.2.2.2.2.2.2.2.1, b.2.2.2.2.2.2.2.2.2.2.2.2.2.2.1, b.2.2.2.2.2.2.2.1, b.2.2.2.2.2.1) x = some (QF b x) := qeE k hk (b.2.2.2.2.2.2.2.2.2.2.2.1) (b.2.1) (b.2.2.1) (b.2.2.2.2.2.2.2.2.2.1) (b.2.2.2.2.2.2.2.2.2.2.2.2.2.2.1) (b.2.2.2.2.2.2.2.1) (b.2.2.2.2.2.1) x
 have hgv : WO k (b.2.2.2.2.2.2.2.2.2.2.2.1, (b.2.1, b.2.2.1), b.2.2.2.2.2.2.2.2.2.1, b.2.2.2.2.2.2.2.2.2.2.2.2.2.2.1, b.2.2.2.2.2.2.2.1, b.2.2.2.2.2.1) x = QF b x := qok k hk (b.2.2.2.2.2.2.2.2.2.2.2.1) (b.2.1) (b.2.2.1) (b.2.2.2.2.2.2.2.2.2.1) (b.2.2.2.2.2.2.2.2.2.2.2.2.2.2.1) (b.2.2.2.2.2.2.2.1) (b.2.2.2.2.2.1) x
 have hrs : qhg k b = some (b.2.2.2.2.2.2.2.2.2.2.2.1, (b.2.1, b.2.2.1), b.2.2.2.2.2.2.2.2.2.1, b.2.2.2.2.2.2.2.2.2.2.2.2.2.2.1, b.2.2.2.2.2.2.2.1, b.2.2.2.2.2.1) := rfl
 have hrv : ZN k b = (b.2.2.2.2.2.2.2.2.2.2.2.1, (b.2.1, b.2.2.1), b.2.2.2.2.2.2.2.2.2.1, b.2.2.2.2.2.2.2.2.2.2.2.2.2.2.1, b.2.2.2.2.2.2.2.1, b.2.2.2.2.2.1) := rfl
 have hms : qeh k b = some (b.2.1, b.2.2.1) := rfl
 have hmv : QO k b = (b.2.1, b.2.2.1) := rfl
 have hss : Y3 k (b.2.2.2.2.2.2.2.2.2.2.2.1) (b.2.1, b.2.2.1) x = some (z8 (b.2.2.2.2.2.2.2.2.2.2.2.1) (b.2.1) (b.2.2.1) x) := ZI k (by omega) (b.2.2.2.2.2.2.2.2.2.2.2.1) (b.2.1, b.2.2.1) x
 have hsv : vG k (b.2.2.2.2.2.2.2.2.2.2.2.1) (b.2.1, b.2.2.1) x = z8 (b.2.2.2.2.2.2.2.2.2.2.2.1) (b.2.1) (b.2.2.1) x := XB k (by omega) (b.2.2.2.2.2.2.2.2.2.2.2.1) (b.2.1, b.2.2.1) x
 have q1 := qCR x (b.2.2.2.2.2.2.2.2.2.2.2.2.2.2.2.1) 0
 unfold qed qkt
 rw [qpA k (by omega) b g x, qDh k (by omega) b g x, qd, qc rfl, hrs, hrv, hgs, hgv, qc ⟨rfl, rfl⟩]
 revert q1
 cases ho : qdA x (b.2.2.2.2.2.2.2.2.2.2.2.2.2.2.2.1) 0 with
 | none =>
  intro q1
  rw [show qar x (b.2.2.2.2.2.2.2.2.2.2.2.2.2.2.2.1) = none from q1]
  rfl
 | some q =>
  intro q1
  obtain ⟨_, q2, q3⟩ := q1
  rw [Nat.sub_zero] at q2 q3
  rw [q3, show qxF (some q) = (q : Int) from rfl, qq (by omega : ¬ (q : Int) < 0), vH]
  show _ = some (bif (QF b x).2 != 0 then 0 else clp (Xt (qE7 b x).1 (b.2.2.2.2.2.2.2.2.2.2.2.2.2.2.2.1.getD q T9.dflt).1.2.2.2.2.2.2.2.2.2.2.2 1000000).1)
  cases hz : ((QF b x).2 != (0 : Int))
  ·have w1 : (0 : Int) ≤ (q : Int) := by omega
   have w2 : (q : Int) < (b.2.2.2.2.2.2.2.2.2.2.2.2.2.2.2.1.length : Int) := by omega
   have h0 : (QF b x).2 = 0 := by simpa using hz
   obtain ⟨g1, g2⟩ := qCf (show (Qg (b.2.2.2.2.2.2.2.2.2.2.2.1) (b.2.1) (b.2.2.1) (b.2.2.2.2.2.2.2.2.2.1) (b.2.2.2.2.2.2.2.2.2.2.2.2.2.2.1) (b.2.2.2.2.2.2.2.1) (b.2.2.2.2.2.1) x).2 = 0 from h0)
   rw [qg, qg, hms, hmv, hss, hsv, qc ⟨rfl, rfl⟩, qub k (by omega), qIB k (by omega), qc ⟨g1, g2, rfl⟩, qQq k (by omega), qQr k (by omega), qc ⟨w1, w2, rfl⟩, qe]
   rfl
  ·rw [qj, qj]
theorem qwY (k : Nat) (hk : 301000 ≤ k) (b : T17.T) (g : GB b) (x : Int) : qig k b x = qkt b x := by
 unfold qig; rw [qlO k hk b g x]; rfl
def bs (b : T17.T) (f : List vm) : qaB := (b, f)
theorem qE8 (M : List (Int × Bool)) (a x : Int) : (wb I (β := Bool) x (zP I (β := Bool) a true M)).getD false = (a == x || (wb I (β := Bool) x M).getD false) := by
 rw [qpX]
 by_cases h : x = a
 ·rw [qc h, h, beq_self_eq_true, vA]; rfl
 ·rw [qi h, show (a == x) = false from beq_eq_false_iff_ne.2 (fun e => h e.symm), vH]
theorem qCi (x a : Int) (l : List Int) : vT x (l ++ [a]) = (a == x || vT x l) := by
 unfold vT
 rw [List.any_append, List.any_cons, List.any_nil, Bool.or_false, Bool.or_comm]
end Go.AM
namespace Go.AM
open Go Go.Proofs
noncomputable section
def qC3 (r : T17.T) : AV := .sub 2 0 1 0 1
def qH9 (a : T17.T) (b : List T18.T) (r : T17.T) : List (Nat × Blk) := [(0, .var 140 ((qB (qr T17 r)) ++ [.own 1 0])), (0, .row 54 T18 b), (0, .var 1 [.fn (Fn.func 60) [.ptr 0 0 0] []])]
abbrev qMa (a : T17.T) (b : List T18.T) (r : T17.T) : Prop := CC Tryz.prog 59 [.ptr 0 0 0] [.var 140 (qB (qr T17 a) ++ [.own 1 0]), .row 54 T18 b] (qC3 r) (qH9 a b r)
def qrR (k : Nat) (a : T17.T) (b : List T18.T) : Option T17.T :=
 some a
def qtA := fun k a b => (qrR k a b).getD (T17).dflt
def qIj (k : Nat) : Ke := (59, fun
 | [.ptr _ _ _] => some [true]
 | _ => none, fun
 | [.ptr 0 0 0], [.var 140 d, .row 54 tx_22_ qx_22] => (qX [] T17 (d.take 22)).bind fun a => (qC tx_22_ T18 qx_22).bind fun b => some (.one (qC3 (qtA k a b), qH9 a b (qtA k a b)))
 | _, _ => none)
theorem qRF (k a b r) (h : qrR k a b = some r): qMa a b r := qO Tryz.f59 (go (qA [qmy k]) [] [] [.autoB [2] true []] (gL h))
theorem qRb {k a b} (h : (qrR k a b).isSome): qMa a b (qtA k a b) := qJ h (qRF k a b)
abbrev qlE : Type := List T18.T × Int
def qou (r : qlE) : AV := .tup [ro T18 r.1, ri r.2]
abbrev qGv (a : T17.T) (r : qlE) : Prop := CC Tryz.prog 33 [.agg (qB (qr T17 a)), .r (.v (.func (.func 59) #[] #[]))] [] (qou r) (nb r)
def qto := fun y0 y1 => (⟨qM 29 [(6, .ptr 1000000 0 0), (16, .sub 1000002 0 1 0 1), (17, ri 1), (18, ri 0)], [(1000000, 0, .var 140 ((qB (qr T17 y0)) ++ [.own 1000001 0])), (1000001, 0, .row 54 T18 y1), (1000002, 0, .var 1 [.fn (Fn.func 60) [.ptr 1000000 0 0] []])]⟩ : St)
def qtp := fun y0 y1 => (⟨qM 29 [(6, .ptr 1000000 0 0), (16, .sub 1000002 0 1 0 1), (17, ri 1), (18, ri 1)], [(1000000, 0, .var 140 ((qB (qr T17 y0)) ++ [.own 1000001 0])), (1000001, 0, .row 54 T18 y1), (1000002, 0, .var 1 [.fn (Fn.func 60) [.ptr 1000000 0 0] []])]⟩ : St)
mutual
def Yw (k : Nat) : Nat → T17.T → List T18.T → Option qlE
 | 0, _, _ => none
 | j + 1, y0, y1 =>
 if ((0 : Int) ≤ (0 : Int)) ∧ ((0 : Int) < (↑ (1 : Nat) : Int)) then
 if ((qff k y0 y1).isSome) then
 Yx k j ((qaV k y0 y1).1) ((qaV k y0 y1).2)
 else none
 else none
def Yx (k : Nat) : Nat → T17.T → List T18.T → Option qlE
 | 0, _, _ => none
 | j + 1, y0, y1 =>
 some (y1, 0)
end
def qiH (k : Nat) (a : T17.T) : Option qlE :=
 if ((qaI k a).isSome) then
 bif (qcW k a) then
 some ([], 8)
 else
 if ((qrR k a []).isSome) then
 Yw k k (qtA k a []) ([])
 else none
 else none
def qjz := fun k a => (qiH k a).getD ([], 0)
def qN1 (k : Nat) : Ke := (33, fun
 | [_, .r (.v (.func (.func 59) _ _))] => some [false, false]
 | _ => none, fun
 | [.agg b, .r (.v (.func (.func 59) _ _))], [] => (qX [] T17 b).bind fun a => some (.one (qou (qjz k a), []))
 | _, _ => none)
def qHU (k : Nat) : Calld := qA [qmB k, qmy k, qIj k]
def qAS : List (Nat × List Cmd) := [(5, [.key 18, .autoB [6, 16, 17, 18] false []])]
abbrev qHz := EP Tryz.f33 0 qou nb
theorem qBE (k) : ∀ j, (∀ {y0 y1}, qHz 5 (qto y0 y1) (Yw k j y0 y1)) ∧ (∀ {y0 y1}, qHz 5 (qtp y0 y1) (Yx k j y0 y1))
 | 0 => by and_intros <;> intros <;> exact e0
 | j + 1 => by
  have ih := @qBE k j
  have g := @go (qHU k) [] qAS [.frz 4 false (RTy.list T18), .autoB [4, 5] true []]
  refine ⟨?_, ?_⟩
  ·intro y0 y1 r h
   rw [Yw] at h
   exact g (gU1 h (.leaf (.tup [.r (.ro T18 y1), .r (.v (.int .i64 0))]) []) fun h => qU h fun h => qv h qAi fun h => gD h 20005 ih.2)
  ·intro y0 y1 r h
   rw [Yx] at h
   exact g (gU2 h (.stuck 5001) fun h => gL h)
theorem qO8 (k a r) (h : qiH k a = some r): qGv a r := qO Tryz.f33 (go (qHU k) [] qAS [.frz 4 false (RTy.list T18), .autoB [4, 5] true []] (qv h qlW fun h => qu h fun h => qv h qRb fun h => gD h 10005 (qBE k k).1))
theorem qM0 {k a} (h : (qiH k a).isSome): qGv a (qjz k a) := qJ h (qO8 k a)
abbrev qEx : Type := List T18.T × Int
def qC2 (r : qEx) : AV := .tup [ro T18 r.1, ri r.2]
abbrev qL9 (a : T17.T) (r : qEx) : Prop := CC Tryz.prog 23 [.agg (qB (qr T17 a))] [] (qC2 r) (nb r)
def qnK (k : Nat) (a : T17.T) : Option qEx :=
 if ((qiH k a).isSome) then
 some ((qjz k a).1, (qjz k a).2)
 else none
def XP := fun k a => (qnK k a).getD ([], 0)
def qRo (k : Nat) : Ke := (23, mo 1, fun
 | [.agg b], [] => (qX [] T17 b).bind fun a => some (.one (qC2 (XP k a), []))
 | _, _ => none)
theorem qRE (k a r) (h : qnK k a = some r): qL9 a r := qO Tryz.f23 (go (qA [qIj k, qN1 k]) [] [] [.frz 2 false (RTy.list T18), .autoB [2, 3] true []] (qv h qM0 fun h => gL h))
theorem qRa {k a} (h : (qnK k a).isSome): qL9 a (XP k a) := qJ h (qRE k a)
end
abbrev Crd := T13.T
def mnI : Int → List Itm → Int
 | d, [] => d
 | d, x :: t => mnI (bif x.1 == (1 : Int) then qa .i64 (d + x.2) else d) t
def W6 : List Int → List Psg → Int → List vm → Int × List vm
 | _, [], d, o => (d, o)
 | bef, p :: t, d, o => bif vT p.1 bef then W6 (bef ++ [p.1]) t d (o ++ [(12, p.1, 0)]) else bif Wd p != 0 then W6 (bef ++ [p.1]) t d (o ++ [(11, p.1, Wd p)]) else W6 (bef ++ [p.1]) t (mnI d p.2.2) o
def mnR (b : T17.T) : Int → List Int → Int
 | d, [] => d
 | d, x :: t => mnR b (qa .i64 (d - qkt b x)) t
def mnS (b : T17.T) : Int → List Shp → Int
 | d, [] => d
 | d, s :: t => mnS b (mnR b d s.2.2) t
def clq (x : Int) : Int := if (if 1000000000000 < x then 1000000000000 else x) > 0 then (if 1000000000000 < x then 1000000000000 else x) else 0
def mnC : Int → List Crd → Int
 | d, [] => d
 | d, c :: t => mnC (qa .i64 (d + clq c.2.2.2)) t
def mnF (d : Int) (o : List vm) : List vm := bif d != 0 then o ++ [(11, 0, d)] else o
def mnB (b : T17.T) : List vm := bif qbi (b.2.2.2.2.2.2.2.2.2.2.2.2.2.2.2.2.2.2.2.2.1) 1099511627776 != 0 then [(10, qbi (b.2.2.2.2.2.2.2.2.2.2.2.2.2.2.2.2.2.2.2.2.1) 1099511627776, 0)] else []
def zF (b : T17.T) : List vm := mnF (mnC (mnS b (W6 [] (b.2.2.2.2.2.2.2.2.2.2.2.2.2.2.2.2.2.2.2.2.2) 0 (mnB b)).1 (b.2.2.2.2.2.2.2.2.2.2.2.2.2.2.2.2.2.1)) (b.2.2.2.2.2.2.2.2.2.2.2.2.2.2.2.2.2.2.2.1)) (W6 [] (b.2.2.2.2.2.2.2.2.2.2.2.2.2.2.2.2.2.2.2.2.2) 0 (mnB b)).2
def Xn (l : List Psg) : List Int := l.map fun p => p.1
theorem qjm : ∀ (l : List Psg) (bef : List Int) (d : Int) (o : List vm), (W6 bef l d o).2.length ≤ o.length + l.length
 | [], _, _, o => qR _
 | p :: t, bef, d, o => by
  have h1 := qjm t (bef ++ [p.1]) d (o ++ [(12, p.1, 0)])
  have h2 := qjm t (bef ++ [p.1]) d (o ++ [(11, p.1, Wd p)])
  have h3 := qjm t (bef ++ [p.1]) (mnI d p.2.2) o
  rw [qT, qz] at h1 h2
  rw [W6, wB]
  cases vT p.1 bef
  ·cases (Wd p != 0)
   ·rw [qg, qg]; omega
   ·rw [qg, qj]; omega
  ·rw [qj]; omega
theorem qOL (k : Nat) (b q : T17.T) (q2 fnd : List vm) (hf : fnd.length ≤ 20000) (L : List Crd) (hl : L.length ≤ 40) : ∀ (dd i j : Nat) (d : Int), i + dd = L.length → dd < j → VN k q q2 j d L (L.length : Int) (i : Int) b fnd = some (b, mnF (mnC d (L.drop i)) fnd) := by
 intro dd
 induction dd with
 | zero =>
  intro i j d hi hj
  obtain ⟨j, rfl⟩ := qW (by omega : 0 < j)
  rw [VN, qq (by omega : ¬ (i : Int) < (L.length : Int)), qg, qo (by omega), mnC, qhr k b fnd _ _ _ (by omega), qmi k b fnd _ _ _ (by omega), qd, qc rfl]
  unfold mnF
  cases (d != 0) <;> rfl
 | succ dd ih =>
  intro i j d hi hj
  obtain ⟨j, rfl⟩ := qW (by omega : 0 < j)
  rw [VN, qw (by omega : (i : Int) < (L.length : Int)), qj, qc ⟨by omega, by omega⟩, qe, qH i (by omega), ih (i + 1) j _ (by omega) (by omega), qt L i T13.dflt (by omega), mnC]
  rfl
theorem qOK (k : Nat) (hk : 301000 ≤ k) (b q : T17.T) (g : GB b) (q2 fnd : List vm) (L : List Shp) (len n : Int) (m : List Int) (hm : m.length ≤ 40) : ∀ (dd i j : Nat) (d : Int), i + dd = m.length → VM k q q2 (dd + 1 + j) d L len n m (m.length : Int) (i : Int) b fnd = Zw k q q2 j (mnR b d (m.drop i)) L len (qa .i64 (n + 1)) b fnd := by
 intro dd
 induction dd with
 | zero =>
  intro i j d hi
  rw [show 0 + 1 + j = j + 1 by omega, VM, qq (by omega : ¬ (i : Int) < (m.length : Int)), qg, qo (by omega), mnR]
 | succ dd ih =>
  intro i j d hi
  rw [show dd + 1 + 1 + j = (dd + 1 + j) + 1 by omega, VM, qw (by omega : (i : Int) < (m.length : Int)), qj, qc ⟨by omega, by omega⟩, qe, qpc k hk b g, qCh k hk b g, qd, qc rfl, qH i (by omega), ih (i + 1) j _ (by omega), qt m i I.dflt (by omega), mnR]
theorem qOJ (k : Nat) (hk : 301000 ≤ k) (b q : T17.T) (g : GB b) (q2 fnd : List vm) (hf : fnd.length ≤ 20000) (L : List Shp) (hl : L.length ≤ 40) (hL : ∀ s ∈ L, s.2.2.length ≤ 40) : ∀ (dd i j : Nat) (d : Int), i + dd = L.length → dd * 50 + 100 < j → Zw k q q2 j d L (L.length : Int) (i : Int) b fnd = some (b, mnF (mnC (mnS b d (L.drop i)) (b.2.2.2.2.2.2.2.2.2.2.2.2.2.2.2.2.2.2.2.1)) fnd) := by
 have hC := g.bCredits
 intro dd
 induction dd with
 | zero =>
  intro i j d hi hj
  obtain ⟨j, rfl⟩ := qW (by omega : 0 < j)
  have h31 := qOL k b q q2 fnd hf (b.2.2.2.2.2.2.2.2.2.2.2.2.2.2.2.2.2.2.2.1) hC (b.2.2.2.2.2.2.2.2.2.2.2.2.2.2.2.2.2.2.2.1.length) 0 j d (wX _) (by omega)
  rw [show ((0 : Nat) : Int) = 0 from rfl, wv] at h31
  rw [Zw, qq (by omega : ¬ (i : Int) < (L.length : Int)), qg, qo (by omega), mnS]
  exact h31
 | succ dd ih =>
  intro i j d hi hj
  rw [Nat.succ_mul] at hj
  have hm := hL _ (gdm L i T11.dflt (by omega))
  generalize hz : dd * 50 = z at *
  obtain ⟨j, rfl⟩ : ∃ q, j = ((L.getD i T11.dflt).2.2.length + 1 + q) + 1 := ⟨j - (L.getD i T11.dflt).2.2.length - 2, by omega⟩
  have h := qOK k hk b q g q2 fnd L (L.length : Int) (i : Int) (L.getD i T11.dflt).2.2 hm (L.getD i T11.dflt).2.2.length 0 j d (by omega)
  rw [show ((0 : Nat) : Int) = 0 from rfl, wv] at h
  rw [Zw, qw (by omega : (i : Int) < (L.length : Int)), qj, qc ⟨by omega, by omega⟩, qe, h, qH i (by omega), ih (i + 1) j _ (by omega) (by omega), qt L i T11.dflt (by omega), mnS]
theorem qOI (k : Nat) (b q : T17.T) (q2 fnd : List vm) (L : List Psg) (len n : Int) (M : List (Int × Bool)) (p : Psg) (m : List Itm) (hm : m.length ≤ 16) : ∀ (dd i j : Nat) (d : Int), i + dd = m.length → Wu k q q2 (dd + 1 + j) d L len n m (m.length : Int) (i : Int) b fnd M p = vq k q q2 j (mnI d (m.drop i)) L len (qa .i64 (n + 1)) b fnd (zP I (β := Bool) p.1 true M) := by
 intro dd
 induction dd with
 | zero =>
  intro i j d hi
  rw [show 0 + 1 + j = j + 1 by omega, Wu, qq (by omega : ¬ (i : Int) < (m.length : Int)), qg, qo (by omega), mnI]
 | succ dd ih =>
  intro i j d hi
  rw [show dd + 1 + 1 + j = (dd + 1 + j) + 1 by omega, Wu, qw (by omega : (i : Int) < (m.length : Int)), qj, qc ⟨by omega, by omega⟩, qe, qH i (by omega), ih (i + 1) j _ (by omega), ih (i + 1) j _ (by omega), qt m i T15.dflt (by omega), mnI]
  cases ((m.getD i T15.dflt).1 == (1 : Int)) <;> rfl
theorem qRx (k : Nat) (hk : 301000 ≤ k) (b q : T17.T) (g : GB b) (q2 : List vm) (L : List Psg) (hl : L.length ≤ 40) : ∀ (dd i j : Nat) (d : Int) (fnd : List vm) (M : List (Int × Bool)), i + dd = L.length → dd * 20 + 6000 < j → fnd.length + dd ≤ 10000 → (∀ x, (wb I (β := Bool) x M).getD false = vT x (Xn (L.take i))) →
  vq k q q2 j d L (L.length : Int) (i : Int) b fnd M = some (b, mnF (mnC (mnS b (W6 (Xn (L.take i)) (L.drop i) d fnd).1 (b.2.2.2.2.2.2.2.2.2.2.2.2.2.2.2.2.2.1)) (b.2.2.2.2.2.2.2.2.2.2.2.2.2.2.2.2.2.2.2.1)) (W6 (Xn (L.take i)) (L.drop i) d fnd).2) := by
 have hS := g.bShipments
 intro dd
 induction dd with
 | zero =>
  intro i j d fnd M hi hj hf hM
  obtain ⟨j, rfl⟩ := qW (by omega : 0 < j)
  have h22 := qOJ k hk b q g q2 fnd (by omega) (b.2.2.2.2.2.2.2.2.2.2.2.2.2.2.2.2.2.1) hS g.shp (b.2.2.2.2.2.2.2.2.2.2.2.2.2.2.2.2.2.1.length) 0 j d (wX _) (by omega)
  rw [show ((0 : Nat) : Int) = 0 from rfl, wv] at h22
  rw [vq, qq (by omega : ¬ (i : Int) < (L.length : Int)), qg, qo (by omega), W6]
  exact h22
 | succ dd ih =>
  intro i j d fnd M hi hj hf hM
  rw [Nat.succ_mul] at hj
  have htk : L.take (i + 1) = L.take i ++ [L.getD i T16.dflt] := zz L i T16.dflt (by omega)
  have hid : Xn (L.take (i + 1)) = Xn (L.take i) ++ [(L.getD i T16.dflt).1] := by rw [htk]; exact List.map_append
  have hM' : ∀ x, (wb I (β := Bool) x (zP I (β := Bool) (L.getD i T16.dflt).1 true M)).getD false = vT x (Xn (L.take (i + 1))) := fun x => by rw [qE8, hM x, hid, qCi]
  have hx : (wb I (β := Bool) (L.getD i T16.dflt).1 M).getD false = vT (L.getD i T16.dflt).1 (Xn (L.take i)) := hM _
  generalize hz : dd * 20 = z at *
  obtain ⟨j, rfl⟩ := qW (by omega : 0 < j)
  have key : ∀ (D : Int) (F : List vm), F.length ≤ fnd.length + 1 → vq k q q2 j D L (L.length : Int) ((i + 1 : Nat) : Int) b F (zP I (β := Bool) (L.getD i T16.dflt).1 true M) = some (b, mnF (mnC (mnS b (W6 (Xn (L.take i) ++ [(L.getD i T16.dflt).1]) (L.drop (i + 1)) D F).1 (b.2.2.2.2.2.2.2.2.2.2.2.2.2.2.2.2.2.1)) (b.2.2.2.2.2.2.2.2.2.2.2.2.2.2.2.2.2.2.2.1)) (W6 (Xn (L.take i) ++ [(L.getD i T16.dflt).1]) (L.drop (i + 1)) D F).2) := fun D F hF => by
   rw [ih (i + 1) j D F _ (by omega) (by omega) (by omega) hM', hid]
  rw [vq, qw (by omega : (i : Int) < (L.length : Int)), qj, qc ⟨by omega, by omega⟩, qe, qIn k (by omega), qRt k (by omega), qd, qc rfl, qhr k b fnd _ _ _ (by omega), qhr k b fnd _ _ _ (by omega), qmi k b fnd _ _ _ (by omega), qmi k b fnd _ _ _ (by omega), qd, qc rfl, qd, qc rfl, qH i (by omega), qt L i T16.dflt (by omega), W6]
  show (bif (wb I (β := Bool) (L.getD i T16.dflt).1 M).getD false then vq k q q2 j d L (L.length : Int) ((i + 1 : Nat) : Int) b (fnd ++ [(12, (L.getD i T16.dflt).1, 0)]) (zP I (β := Bool) (L.getD i T16.dflt).1 true M) else bif Wd (L.getD i T16.dflt) != 0 then vq k q q2 j d L (L.length : Int) ((i + 1 : Nat) : Int) b (fnd ++ [(11, (L.getD i T16.dflt).1, Wd (L.getD i T16.dflt))]) (zP I (β := Bool) (L.getD i T16.dflt).1 true M) else Wu k q q2 j d L (L.length : Int) (i : Int) (L.getD i T16.dflt).2.2 (qb (L.getD i T16.dflt).2.2 : Int) 0 b fnd M (L.getD i T16.dflt)) = _
  rw [hx]
  cases vT (L.getD i T16.dflt).1 (Xn (L.take i))
  ·cases hl0 : (Wd (L.getD i T16.dflt) != 0)
   ·have he : Wd (L.getD i T16.dflt) = 0 := by simpa using hl0
    have hlen := qsd he
    obtain ⟨j', hj'⟩ : ∃ q, j = qb (L.getD i T16.dflt).2.2 + 1 + q := ⟨j - qb (L.getD i T16.dflt).2.2 - 1, by omega⟩
    have h14 := qOI k b q q2 fnd L (L.length : Int) (i : Int) M (L.getD i T16.dflt) (L.getD i T16.dflt).2.2 hlen (qb (L.getD i T16.dflt).2.2) 0 j' d (wX _)
    rw [show ((0 : Nat) : Int) = 0 from rfl, wv, ← hj'] at h14
    rw [qg, qg, qg, qg, h14, qH i (by omega), ih (i + 1) j' _ fnd _ (by omega) (by omega) (by omega) hM', hid]
   ·rw [qg, qj, qg, qj, key _ _ (by rw [qT, qz]; exact qR _)]
  ·rw [qj, qj, key _ _ (by rw [qT, qz]; exact qR _)]
theorem qv4 (k : Nat) (hk : 301000 ≤ k) (b : T17.T) (g : GB b) : qff k b [] = some (b, zF b) := by
 have hP := g.bPostings
 have h6 : ∀ (o : List vm), o.length ≤ 1 → vq k b [] k 0 (b.2.2.2.2.2.2.2.2.2.2.2.2.2.2.2.2.2.2.2.2.2) (b.2.2.2.2.2.2.2.2.2.2.2.2.2.2.2.2.2.2.2.2.2.length : Int) 0 b o [] = some (b, mnF (mnC (mnS b (W6 [] (b.2.2.2.2.2.2.2.2.2.2.2.2.2.2.2.2.2.2.2.2.2) 0 o).1 (b.2.2.2.2.2.2.2.2.2.2.2.2.2.2.2.2.2.1)) (b.2.2.2.2.2.2.2.2.2.2.2.2.2.2.2.2.2.2.2.1)) (W6 [] (b.2.2.2.2.2.2.2.2.2.2.2.2.2.2.2.2.2.2.2.2.2) 0 o).2) := fun o ho => by
  have := qRx k hk b b g [] (b.2.2.2.2.2.2.2.2.2.2.2.2.2.2.2.2.2.2.2.2.2) hP (b.2.2.2.2.2.2.2.2.2.2.2.2.2.2.2.2.2.2.2.2.2.length) 0 k 0 o [] (wX _) (by omega) (by omega) (fun x => rfl)
  rw [show ((0 : Nat) : Int) = 0 from rfl, wv] at this
  exact this
 unfold qff zF mnB
 rw [qug k (by omega), qII k (by omega), qd, qc rfl]
 cases (qbi (b.2.2.2.2.2.2.2.2.2.2.2.2.2.2.2.2.2.2.2.2.1) 1099511627776 != 0)
 ·rw [qg, qg]
  exact h6 [] (by simp)
 ·rw [qj, qj, qhr k b [] _ _ _ (by simp), qmi k b [] _ _ _ (by simp), qd, qc rfl]
  exact h6 _ (by simp)
theorem qKw (k : Nat) (hk : 301000 ≤ k) (b : T17.T) (g : GB b) : qaV k b [] = (b, zF b) := by
 unfold qaV; rw [qv4 k hk b g]; rfl
theorem qua (k : Nat) (hk : 301000 ≤ k) (b : T17.T) (g : GB b) : qnK k b = some (zF b, 0) := by
 have h1 : qiH k b = some (zF b, 0) := by
  unfold qiH
  have e1 : qrR k b [] = some b := rfl
  have e2 : qtA k b [] = b := rfl
  obtain ⟨k', rfl⟩ : ∃ q, k = q + 2 := ⟨k - 2, by omega⟩
  rw [qCd _ (by omega) b g, qNO _ (by omega) b g, e1, e2, qd, qc rfl, qg, qd, qc rfl]
  rw [Yw, qc ⟨by omega, by decide⟩, qv4 _ hk b g, qKw _ hk b g, qd, qc rfl, Yx]
 unfold qnK
 rw [show qjz k b = (zF b, 0) by unfold qjz; rw [h1]; rfl, h1, qd, qc rfl]
theorem qIA (k : Nat) (hk : 301000 ≤ k) (b : T17.T) (g : GB b) : XP k b = (zF b, 0) := by
 unfold XP; rw [qua k hk b g]; rfl
theorem qIG : qfs 400000 = some true := by kernel_rfl
end Go.AM
namespace Go.AM
open Go Go.Proofs
noncomputable section
abbrev V7 : Type := List T18.T × Int
def qk6 (r : V7) : AV := .tup [ro T18 r.1, ri r.2]
abbrev qza (a : T17.T) (r : V7) : Prop := CC Tryz.prog 24 [.agg (qB (qr T17 a))] [] (qk6 r) (nb r)
def qx2 := fun y0 y1 y2 y3 => (⟨qM 155 [(1, .ptr 1000000 0 0), (5, .own 1000001 0), (6, ri y0), (7, ri y1)], [(1000000, 0, .var 36 (qB (qr T17 y2))), (1000001, 0, .row 54 T18 y3)]⟩ : St)
def qx3 := fun y0 y1 y2 y3 y4 y5 y6 => (⟨qM 155 [(1, .ptr 1000000 0 0), (5, .own 1000001 0), (6, ri y0), (7, ri y1), (8, .ptr 1000002 0 0), (9, rb y2), (10, ri y3)], [(1000000, 0, .var 36 (qB (qr T17 y4))), (1000001, 0, .row 54 T18 y5), (1000002, 0, .var 117 (qB (qr T16 y6)))]⟩ : St)
def qx4 := fun y0 y1 y2 y3 y4 y5 => (⟨qM 155 [(1, .ptr 1000000 0 0), (5, .own 1000001 0), (6, ri y0), (7, ri y1), (8, .ptr 1000002 0 0), (11, ri y2)], [(1000000, 0, .var 36 (qB (qr T17 y3))), (1000001, 0, .row 54 T18 y4), (1000002, 0, .var 117 (qB (qr T16 y5)))]⟩ : St)
def qx5 := fun y0 y1 y2 y3 => (⟨qM 155 [(1, .ptr 1000000 0 0), (5, .own 1000001 0), (6, ri y0), (12, ri y1)], [(1000000, 0, .var 36 (qB (qr T17 y2))), (1000001, 0, .row 54 T18 y3)]⟩ : St)
def qx6 := fun y0 y1 y2 y3 y4 => (⟨qM 155 [(1, .ptr 1000000 0 0), (5, .own 1000001 0), (6, ri y0), (12, ri y1), (13, ri y2)], [(1000000, 0, .var 36 (qB (qr T17 y3))), (1000001, 0, .row 54 T18 y4)]⟩ : St)
def qx7 := fun y0 y1 y2 y3 => (⟨qM 155 [(1, .ptr 1000000 0 0), (5, .own 1000001 0), (6, ri y0), (14, ri y1)], [(1000000, 0, .var 36 (qB (qr T17 y2))), (1000001, 0, .row 54 T18 y3)]⟩ : St)
mutual
def zt (k : Nat) : Nat → Int → Int → T17.T → List T18.T → Option V7
 | 0, _, _, _, _ => none
 | j + 1, y0, y1, y2, y3 =>
 bif y1 < (↑ (qb y2.2.2.2.2.2.2.2.2.2.2.2.2.2.2.2.2.2.2.2.2.2) : Int) then
 if (0 ≤ y1) ∧ (y1 < (↑ (qb y2.2.2.2.2.2.2.2.2.2.2.2.2.2.2.2.2.2.2.2.2.2) : Int)) then
 Zs k j y0 y1 false 0 y2 y3 (qI y2.2.2.2.2.2.2.2.2.2.2.2.2.2.2.2.2.2.2.2.2.2 y1.toNat T16.dflt)
 else none
 else
 Wp k j y0 0 y2 y3
def Zs (k : Nat) : Nat → Int → Int → Bool → Int → T17.T → List T18.T → T16.T → Option V7
 | 0, _, _, _, _, _, _, _ => none
 | j + 1, y0, y1, y2, y3, y4, y5, y6 =>
 bif y3 < y1 then
 if (y2 = false → 0 ≤ y3) ∧ (y2 = false → y3 < (↑ (qb y4.2.2.2.2.2.2.2.2.2.2.2.2.2.2.2.2.2.2.2.2.2) : Int)) then
 Zs k j y0 y1 (y2 || (qI y4.2.2.2.2.2.2.2.2.2.2.2.2.2.2.2.2.2.2.2.2.2 y3.toNat T16.dflt).1 == y6.1) (qa .i64 (y3 + 1)) y4 y5 y6
 else none
 else
 if ((qeb k y6).isSome) then
 bif y2 then
 if ((y5.length + [((12 : Int), y6.1, (0 : Int))].length) * (24 : Nat) ≤ (140737488355328 : Nat)) then
 zt k j y0 (qa .i64 (y1 + 1)) y4 (y5 ++ [(12, y6.1, 0)])
 else none
 else
 bif (qcd k y6 != (0 : Int)) then
 if ((y5.length + [((11 : Int), y6.1, qcd k y6)].length) * (24 : Nat) ≤ (140737488355328 : Nat)) then
 zt k j y0 (qa .i64 (y1 + 1)) y4 (y5 ++ [(11, y6.1, qcd k y6)])
 else none
 else
 QC k j y0 y1 0 y4 y5 y6
 else none
def QC (k : Nat) : Nat → Int → Int → Int → T17.T → List T18.T → T16.T → Option V7
 | 0, _, _, _, _, _, _ => none
 | j + 1, y0, y1, y2, y3, y4, y5 =>
 bif y2 < (↑ (qb y5.2.2) : Int) then
 if (0 ≤ y2) ∧ (y2 < (↑ (qb y5.2.2) : Int)) then
 bif ((qI y5.2.2 y2.toNat T15.dflt).1 == (1 : Int)) then
 if (0 ≤ y2) ∧ (y2 < (↑ (qb y5.2.2) : Int)) then
 QC k j (qa .i64 (y0 + (qI y5.2.2 y2.toNat T15.dflt).2)) y1 (qa .i64 (y2 + 1)) y3 y4 y5
 else none
 else
 QC k j y0 y1 (qa .i64 (y2 + 1)) y3 y4 y5
 else none
 else
 zt k j y0 (qa .i64 (y1 + 1)) y3 y4
def Wp (k : Nat) : Nat → Int → Int → T17.T → List T18.T → Option V7
 | 0, _, _, _, _ => none
 | j + 1, y0, y1, y2, y3 =>
 bif y1 < (↑ (qb y2.2.2.2.2.2.2.2.2.2.2.2.2.2.2.2.2.2.1) : Int) then
 Zt k j y0 y1 0 y2 y3
 else
 Zu k j y0 0 y2 y3
def Zt (k : Nat) : Nat → Int → Int → Int → T17.T → List T18.T → Option V7
 | 0, _, _, _, _, _ => none
 | j + 1, y0, y1, y2, y3, y4 =>
 if (0 ≤ y1) ∧ (y1 < (↑ (qb y3.2.2.2.2.2.2.2.2.2.2.2.2.2.2.2.2.2.1) : Int)) then
 bif y2 < (↑ (qb (qI y3.2.2.2.2.2.2.2.2.2.2.2.2.2.2.2.2.2.1 y1.toNat T11.dflt).2.2) : Int) then
 if (0 ≤ y1) ∧ (y1 < (↑ (qb y3.2.2.2.2.2.2.2.2.2.2.2.2.2.2.2.2.2.1) : Int)) ∧ (0 ≤ y2) ∧ (y2 < (↑ (qb (qI y3.2.2.2.2.2.2.2.2.2.2.2.2.2.2.2.2.2.1 y1.toNat T11.dflt).2.2) : Int)) ∧ ((qed k y3 (qI (qI y3.2.2.2.2.2.2.2.2.2.2.2.2.2.2.2.2.2.1 y1.toNat T11.dflt).2.2 y2.toNat I.dflt)).isSome) then
 Zt k j (qa .i64 (y0 - qig k y3 (qI (qI y3.2.2.2.2.2.2.2.2.2.2.2.2.2.2.2.2.2.1 y1.toNat T11.dflt).2.2 y2.toNat I.dflt))) y1 (qa .i64 (y2 + 1)) y3 y4
 else none
 else
 Wp k j y0 (qa .i64 (y1 + 1)) y3 y4
 else none
def Zu (k : Nat) : Nat → Int → Int → T17.T → List T18.T → Option V7
 | 0, _, _, _, _ => none
 | j + 1, y0, y1, y2, y3 =>
 bif y1 < (↑ (qb y2.2.2.2.2.2.2.2.2.2.2.2.2.2.2.2.2.2.2.2.1) : Int) then
 if (0 ≤ y1) ∧ (y1 < (↑ (qb y2.2.2.2.2.2.2.2.2.2.2.2.2.2.2.2.2.2.2.2.1) : Int)) then
 Zu k j (qa .i64 (y0 + if 1000000000000 < if 0 > (qI y2.2.2.2.2.2.2.2.2.2.2.2.2.2.2.2.2.2.2.2.1 y1.toNat T13.dflt).2.2.2 then 0 else (qI y2.2.2.2.2.2.2.2.2.2.2.2.2.2.2.2.2.2.2.2.1 y1.toNat T13.dflt).2.2.2 then 1000000000000 else if 0 > (qI y2.2.2.2.2.2.2.2.2.2.2.2.2.2.2.2.2.2.2.2.1 y1.toNat T13.dflt).2.2.2 then 0 else (qI y2.2.2.2.2.2.2.2.2.2.2.2.2.2.2.2.2.2.2.2.1 y1.toNat T13.dflt).2.2.2)) (qa .i64 (y1 + 1)) y2 y3
 else none
 else
 bif (y0 != 0) then
 if ((y3.length + [((11 : Int), (0 : Int), y0)].length) * (24 : Nat) ≤ (140737488355328 : Nat)) then
 some (y3 ++ [(11, 0, y0)], 0)
 else none
 else
 some (y3, 0)
end
def qee (k : Nat) (a : T17.T) : Option V7 :=
 if ((qec k a).isSome) then
 bif (qeQ k a != (0 : Int)) then
 some ([], qeQ k a)
 else
 if ((qdW k a.2.2.2.2.2.2.2.2.2.2.2.2.2.2.2.2.2.2.2.2.1 1099511627776).isSome) then
 bif (qb9 k a.2.2.2.2.2.2.2.2.2.2.2.2.2.2.2.2.2.2.2.2.1 (1099511627776 : Int) != (0 : Int)) then
 if ([((10 : Int), qb9 k a.2.2.2.2.2.2.2.2.2.2.2.2.2.2.2.2.2.2.2.2.1 (1099511627776 : Int), (0 : Int))].length * (24 : Nat) ≤ (140737488355328 : Nat)) then
 zt k k 0 0 a ([(10, qb9 k a.2.2.2.2.2.2.2.2.2.2.2.2.2.2.2.2.2.2.2.2.1 1099511627776, 0)])
 else none
 else
 zt k k 0 0 a ([])
 else none
 else none
def QN := fun k a => (qee k a).getD ([], 0)
def qKa (k : Nat) : Ke := (24, mo 1, fun
 | [.agg b], [] => (qX [] T17 b).bind fun a => some (.one (qk6 (QN k a), []))
 | _, _ => none)
def qzV (k : Nat) : Calld := qA [qJ8 k, qJU k, qJ7 k, qJ9 k]
def quV : List (Nat × List Cmd) := [(10, [.row 5 54 T18, .autoB [1, 5, 6, 7] false []]), (15, [.autoB [1, 5, 6, 7, 8, 9, 10] false []]), (24, [.autoB [1, 5, 6, 7, 8, 11] false []]), (29, [.autoB [1, 5, 6, 12] false []]), (32, [.autoB [1, 5, 6, 12, 13] false []]), (36, [.autoB [1, 5, 6, 14] false []])]
abbrev qdI := EP Tryz.f24 0 qk6 nb
theorem qnG (k) : ∀ j, (∀ {y0 y1 y2 y3}, qdI 10 (qx2 y0 y1 y2 y3) (zt k j y0 y1 y2 y3)) ∧ (∀ {y0 y1 y2 y3 y4 y5 y6}, qdI 15 (qx3 y0 y1 y2 y3 y4 y5 y6) (Zs k j y0 y1 y2 y3 y4 y5 y6)) ∧ (∀ {y0 y1 y2 y3 y4 y5}, qdI 24 (qx4 y0 y1 y2 y3 y4 y5) (QC k j y0 y1 y2 y3 y4 y5)) ∧ (∀ {y0 y1 y2 y3}, qdI 29 (qx5 y0 y1 y2 y3) (Wp k j y0 y1 y2 y3)) ∧ (∀ {y0 y1 y2 y3 y4}, qdI 32 (qx6 y0 y1 y2 y3 y4) (Zt k j y0 y1 y2 y3 y4)) ∧ (∀ {y0 y1 y2 y3}, qdI 36 (qx7 y0 y1 y2 y3) (Zu k j y0 y1 y2 y3))
 | 0 => by and_intros <;> intros <;> exact e0
 | j + 1 => by
  have ih := @qnG k j
  have g := @go (qzV k) [] quV [.frz 2 false (RTy.list T18), .autoB [2, 3] true []]
  refine ⟨?_, ?_, ?_, ?_, ?_, ?_⟩
  ·intro y0 y1 y2 y3 r h
   rw [zt] at h
   exact g (gS h (fun h => qU h fun h => gD h 15 ih.2.1) fun h => gD h 29 ih.2.2.2.1)
  ·intro y0 y1 y2 y3 y4 y5 y6 r h
   rw [Zs] at h
   exact g (gS h (fun h => qU h fun h => gD h 15 ih.2.1) fun h => qv h qI8 fun h => gS h (fun h => qv h id fun h => gD h 10 ih.1) fun h => gS h (fun h => qv h id fun h => gD h 10 ih.1) fun h => gD h 24 ih.2.2.1)
  ·intro y0 y1 y2 y3 y4 y5 r h
   rw [QC] at h
   exact g (gS h (fun h => qU h fun h => gS h (fun h => qU h fun h => gD h 24 ih.2.2.1) fun h => gD h 24 ih.2.2.1) fun h => gD h 10 ih.1)
  ·intro y0 y1 y2 y3 r h
   rw [Wp] at h
   exact g (gS h (fun h => gD h 32 ih.2.2.2.2.1) fun h => gD h 36 ih.2.2.2.2.2)
  ·intro y0 y1 y2 y3 y4 r h
   rw [Zt] at h
   exact g (qU h fun h => gS h (fun h => gN h (fun q => qf q.1 (qf q.2.1 (qf q.2.2.1 (qf q.2.2.2.1 (qf (qJa q.2.2.2.2) qP))))) fun h => gD h 32 ih.2.2.2.2.1) fun h => gD h 29 ih.2.2.2.1)
  ·intro y0 y1 y2 y3 r h
   rw [Zu] at h
   exact g (gS h (fun h => qU h fun h => gD h 36 ih.2.2.2.2.2) fun h => gS h (fun h => qv h id fun h => gL h) fun h => gL h)
theorem qK9 (k a r) (h : qee k a = some r): qza a r := qO Tryz.f24 (go (qzV k) [] quV [.frz 2 false (RTy.list T18), .autoB [2, 3] true []] (qv h qI9 fun h => qu h fun h => qv h qIS fun h => gS h (fun h => qv h id fun h => gD h 10 (qnG k k).1) fun h => gD h 10 (qnG k k).1))
theorem qJb {k a} (h : (qee k a).isSome): qza a (QN k a) := qJ h (qK9 k a)
abbrev qQF (a : T17.T) (r : Bool) : Prop := CC Tryz.prog 8 [.agg (qB (qr T17 a))] [] (rb r) (nb r)
def qxj (k : Nat) (a : T17.T) : Option Bool :=
 if ((qft k a).isSome) then
 bif (qm9 k a) then
 if ((qfs k ).isSome) then
 some (YM k)
 else none
 else
 if ((qnK k a).isSome) then
 if ((qee k a).isSome) then
 bif ((XP k a).2 == (QN k a).2) then
 bif (true && YN k (XP k a).1 (QN k a).1) then
 if (((XP k a).2 == (QN k a).2) = true) ∧ ((qaL k (XP k a).1 (QN k a).1).isSome) ∧ ((true && YN k (XP k a).1 (QN k a).1) = true) ∧ ((qfs k ).isSome) then
 some (true && YM k)
 else none
 else
 if (((XP k a).2 == (QN k a).2) = true) ∧ ((qaL k (XP k a).1 (QN k a).1).isSome) ∧ ((true && YN k (XP k a).1 (QN k a).1) = false) then
 some false
 else none
 else
 if (((XP k a).2 == (QN k a).2) = false) ∧ (false = false) then
 some false
 else none
 else none
 else none
 else none
theorem qPV (k a r) (h : qxj k a = some r): qQF a r := qO Tryz.f8 (go (qA [qOx k, qOv k, qOw k, qRo k, qKa k]) [] [] [.autoB [2] true []] (qv h qNx fun h => gS h (fun h => qv h qAy fun h => gL h) fun h => qv h qRa fun h => qv h qJb fun h => gS h (fun h => gS h (fun h => gN h (fun q => qf q.1 (qf (qAz q.2.1) (qf q.2.2.1 (qf (qAy q.2.2.2) qP)))) fun h => gL h) fun h => gN h (fun q => qf q.1 (qf (qAz q.2.1) (qf q.2.2 qP))) fun h => gL h) fun h => gU2 h (.need [((XP k a).2 == (QN k a).2) = false, false = true, CC Tryz.prog 13 (qrg ) (qud ) (qoG (YM k )) (qrt  (YM k ))] (.leaf (.r (.v (.bool (true && YM k)))) [])) fun h => qU h fun h => gL h))
end
theorem qRi (x : Int) : (if 1000000000000 < (if (0 : Int) > x then 0 else x) then 1000000000000 else (if (0 : Int) > x then 0 else x)) = clq x := by
 unfold clq
 by_cases h1 : 0 > x
 ·rw [qc h1, qi (by decide), qi (by omega : ¬ 1000000000000 < x), qi (by omega)]
 ·rw [qi h1]
  by_cases h2 : 1000000000000 < x
  ·rw [qc h2, qc (by decide)]
  ·rw [qi h2]
   by_cases h3 : x > 0
   ·rw [qc h3]
   ·rw [qi h3]; omega
theorem qRQ (k : Nat) (b : T17.T) (g : GB b) : ∀ (dd i j : Nat) (d : Int) (out : List vm), i + dd = b.2.2.2.2.2.2.2.2.2.2.2.2.2.2.2.2.2.2.2.1.length → dd < j → out.length ≤ 20000 → Zu k j d (i : Int) b out = some (mnF (mnC d (b.2.2.2.2.2.2.2.2.2.2.2.2.2.2.2.2.2.2.2.1.drop i)) out, 0) := by
 have hC := g.bCredits
 intro dd
 induction dd with
 | zero =>
  intro i j d out hi hj ho
  obtain ⟨j, rfl⟩ := qW (by omega : 0 < j)
  have hz : b.2.2.2.2.2.2.2.2.2.2.2.2.2.2.2.2.2.2.2.1.drop i = [] := qo (by omega)
  rw [Zu, qq (by omega : ¬ (i : Int) < (b.2.2.2.2.2.2.2.2.2.2.2.2.2.2.2.2.2.2.2.1.length : Int)), qg, hz, mnC, qc (by simp only [qz]; omega)]
  unfold mnF
  cases (d != 0) <;> rfl
 | succ dd ih =>
  intro i j d out hi hj ho
  obtain ⟨j, rfl⟩ := qW (by omega : 0 < j)
  have w1 : (0 : Int) ≤ (i : Int) := by omega
  have w2 : (i : Int) < (b.2.2.2.2.2.2.2.2.2.2.2.2.2.2.2.2.2.2.2.1.length : Int) := by omega
  have hz : b.2.2.2.2.2.2.2.2.2.2.2.2.2.2.2.2.2.2.2.1.drop i = b.2.2.2.2.2.2.2.2.2.2.2.2.2.2.2.2.2.2.2.1.getD i T13.dflt :: b.2.2.2.2.2.2.2.2.2.2.2.2.2.2.2.2.2.2.2.1.drop (i + 1) := qt (b.2.2.2.2.2.2.2.2.2.2.2.2.2.2.2.2.2.2.2.1) i T13.dflt (by omega)
  rw [Zu, qw w2, qj, qc ⟨w1, w2⟩, qe, qH i (by omega), qRi, ih (i + 1) j _ out (by omega) (by omega) ho, hz, mnC]
theorem qRP (k : Nat) (hk : 301000 ≤ k) (b : T17.T) (g : GB b) (n : Nat) (hn : n < b.2.2.2.2.2.2.2.2.2.2.2.2.2.2.2.2.2.1.length) (m : List Int) (hm : (b.2.2.2.2.2.2.2.2.2.2.2.2.2.2.2.2.2.1.getD n T11.dflt).2.2 = m) (hm2 : m.length ≤ 40) : ∀ (dd i j : Nat) (d : Int) (out : List vm), i + dd = m.length → Zt k (dd + 1 + j) d (n : Int) (i : Int) b out = Wp k j (mnR b d (m.drop i)) ((n + 1 : Nat) : Int) b out := by
 have hS := g.bShipments
 have v1 : (0 : Int) ≤ (n : Int) := by omega
 have v2 : (n : Int) < (b.2.2.2.2.2.2.2.2.2.2.2.2.2.2.2.2.2.1.length : Int) := by omega
 intro dd
 induction dd with
 | zero =>
  intro i j d out hi
  rw [show 0 + 1 + j = j + 1 by omega, Zt, qc ⟨v1, v2⟩, qe, hm, qq (by omega : ¬ (i : Int) < (m.length : Int)), qg, qo (by omega), mnR, qH n (by omega)]
 | succ dd ih =>
  intro i j d out hi
  have w1 : (0 : Int) ≤ (i : Int) := by omega
  have w2 : (i : Int) < (m.length : Int) := by omega
  rw [show dd + 1 + 1 + j = (dd + 1 + j) + 1 by omega, Zt, qc ⟨v1, v2⟩, qe, hm, qw w2, qj, qe, qlO k hk b g, qwY k hk b g, qc ⟨v1, v2, w1, w2, rfl⟩, qH i (by omega), ih (i + 1) j _ out (by omega), qt m i I.dflt (by omega), mnR]
theorem qRO (k : Nat) (hk : 301000 ≤ k) (b : T17.T) (g : GB b) : ∀ (dd i j : Nat) (d : Int) (out : List vm), i + dd = b.2.2.2.2.2.2.2.2.2.2.2.2.2.2.2.2.2.1.length → dd * 50 + 100 < j → out.length ≤ 20000 → Wp k j d (i : Int) b out = some (mnF (mnC (mnS b d (b.2.2.2.2.2.2.2.2.2.2.2.2.2.2.2.2.2.1.drop i)) (b.2.2.2.2.2.2.2.2.2.2.2.2.2.2.2.2.2.2.2.1)) out, 0) := by
 have hC := g.bCredits
 have hS := g.bShipments
 intro dd
 induction dd with
 | zero =>
  intro i j d out hi hj ho
  obtain ⟨j, rfl⟩ := qW (by omega : 0 < j)
  have hz : b.2.2.2.2.2.2.2.2.2.2.2.2.2.2.2.2.2.1.drop i = [] := qo (by omega)
  have h36 := qRQ k b g (b.2.2.2.2.2.2.2.2.2.2.2.2.2.2.2.2.2.2.2.1.length) 0 j d out (wX _) (by omega) ho
  rw [show ((0 : Nat) : Int) = 0 from rfl, wv] at h36
  rw [Wp, qq (by omega : ¬ (i : Int) < (b.2.2.2.2.2.2.2.2.2.2.2.2.2.2.2.2.2.1.length : Int)), qg, hz, mnS]
  exact h36
 | succ dd ih =>
  intro i j d out hi hj ho
  rw [Nat.succ_mul] at hj
  have w2 : (i : Int) < (b.2.2.2.2.2.2.2.2.2.2.2.2.2.2.2.2.2.1.length : Int) := by omega
  have hm := g.shp _ (gdm (b.2.2.2.2.2.2.2.2.2.2.2.2.2.2.2.2.2.1) i T11.dflt (by omega))
  have hrw : b.2.2.2.2.2.2.2.2.2.2.2.2.2.2.2.2.2.1.drop i = b.2.2.2.2.2.2.2.2.2.2.2.2.2.2.2.2.2.1.getD i T11.dflt :: b.2.2.2.2.2.2.2.2.2.2.2.2.2.2.2.2.2.1.drop (i + 1) := qt (b.2.2.2.2.2.2.2.2.2.2.2.2.2.2.2.2.2.1) i T11.dflt (by omega)
  generalize hz : dd * 50 = z at *
  obtain ⟨j, rfl⟩ : ∃ q, j = ((b.2.2.2.2.2.2.2.2.2.2.2.2.2.2.2.2.2.1.getD i T11.dflt).2.2.length + 1 + q) + 1 := ⟨j - (b.2.2.2.2.2.2.2.2.2.2.2.2.2.2.2.2.2.1.getD i T11.dflt).2.2.length - 2, by omega⟩
  have h := qRP k hk b g i (by omega) (b.2.2.2.2.2.2.2.2.2.2.2.2.2.2.2.2.2.1.getD i T11.dflt).2.2 rfl hm (b.2.2.2.2.2.2.2.2.2.2.2.2.2.2.2.2.2.1.getD i T11.dflt).2.2.length 0 j d out (wX _)
  rw [show ((0 : Nat) : Int) = 0 from rfl, wv] at h
  rw [Wp, qw w2, qj, h, ih (i + 1) j _ out (by omega) (by omega) ho, hrw, mnS]
theorem qRN (k : Nat) (b : T17.T) (n : Int) (p : Psg) (hp : qb p.2.2 ≤ 16) : ∀ (dd i j : Nat) (d : Int) (out : List vm), i + dd = qb p.2.2 → QC k (dd + 1 + j) d n (i : Int) b out p = zt k j (mnI d (Wm i p.2.2)) (qa .i64 (n + 1)) b out := by
 intro dd
 induction dd with
 | zero =>
  intro i j d out hi
  have hz : Wm i p.2.2 = [] := qo (by omega)
  rw [show 0 + 1 + j = j + 1 by omega, QC, qq (by omega : ¬ (i : Int) < (qb p.2.2 : Int)), qg, hz, mnI]
 | succ dd ih =>
  intro i j d out hi
  have w1 : (0 : Int) ≤ (i : Int) := by omega
  have w2 : (i : Int) < (qb p.2.2 : Int) := by omega
  have hz : Wm i p.2.2 = qI p.2.2 i T15.dflt :: Wm (i + 1) p.2.2 := qt p.2.2 i T15.dflt (by omega)
  rw [show dd + 1 + 1 + j = (dd + 1 + j) + 1 by omega, QC, qw w2, qj, qc ⟨w1, w2⟩, qc ⟨w1, w2⟩, qe, qH i (by omega), ih (i + 1) j _ out (by omega), ih (i + 1) j _ out (by omega), hz, mnI]
  cases ((qI p.2.2 i T15.dflt).1 == (1 : Int)) <;> rfl
def phR (k j : Nat) (d n : Int) (rep : Bool) (b : T17.T) (out : List vm) (p : Psg) : Option (List vm × Int) := bif rep then zt k j d (qa .i64 (n + 1)) b (out ++ [(12, p.1, 0)]) else bif Wd p != 0 then zt k j d (qa .i64 (n + 1)) b (out ++ [(11, p.1, Wd p)]) else QC k j d n 0 b out p
theorem qRM (k : Nat) (hk : 100 ≤ k) (b : T17.T) (p : Psg) (d : Int) (out : List vm) (ho : out.length ≤ 20000) (n : Nat) (hn : n ≤ b.2.2.2.2.2.2.2.2.2.2.2.2.2.2.2.2.2.2.2.2.2.length) (hn2 : n ≤ 40) : ∀ (dd i j : Nat) (rep : Bool), i + dd = n → Zs k (dd + 1 + j) d (n : Int) rep (i : Int) b out p = phR k j d (n : Int) (rep || vT p.1 (Xn ((b.2.2.2.2.2.2.2.2.2.2.2.2.2.2.2.2.2.2.2.2.2.take n).drop i))) b out p := by
 have hl : (b.2.2.2.2.2.2.2.2.2.2.2.2.2.2.2.2.2.2.2.2.2.take n).length = n := by rw [WZ]; omega
 intro dd
 induction dd with
 | zero =>
  intro i j rep hi
  have hz : (b.2.2.2.2.2.2.2.2.2.2.2.2.2.2.2.2.2.2.2.2.2.take n).drop i = [] := qo (by omega)
  rw [show 0 + 1 + j = j + 1 by omega, Zs, qq (by omega : ¬ (i : Int) < (n : Int)), qg, hz, qC9 k hk, qQp k hk, qd, qc rfl, qc (by simp only [qz]; omega), qc (by simp only [qz]; omega), show vT p.1 (Xn []) = false from rfl, Bool.or_false]
  rfl
 | succ dd ih =>
  intro i j rep hi
  have w1 : (0 : Int) ≤ (i : Int) := by omega
  have w2 : (i : Int) < (b.2.2.2.2.2.2.2.2.2.2.2.2.2.2.2.2.2.2.2.2.2.length : Int) := by omega
  have hz : (b.2.2.2.2.2.2.2.2.2.2.2.2.2.2.2.2.2.2.2.2.2.take n).drop i = (b.2.2.2.2.2.2.2.2.2.2.2.2.2.2.2.2.2.2.2.2.2.take n).getD i T16.dflt :: (b.2.2.2.2.2.2.2.2.2.2.2.2.2.2.2.2.2.2.2.2.2.take n).drop (i + 1) := qt (b.2.2.2.2.2.2.2.2.2.2.2.2.2.2.2.2.2.2.2.2.2.take n) i T16.dflt (by omega)
  have hg : (b.2.2.2.2.2.2.2.2.2.2.2.2.2.2.2.2.2.2.2.2.2.take n).getD i T16.dflt = b.2.2.2.2.2.2.2.2.2.2.2.2.2.2.2.2.2.2.2.2.2.getD i T16.dflt := by
   rw [List.getD_eq_getElem?_getD, List.getD_eq_getElem?_getD, List.getElem?_take, qc (by omega)]
  rw [show dd + 1 + 1 + j = (dd + 1 + j) + 1 by omega, Zs, qw (by omega : (i : Int) < (n : Int)), qj, qc ⟨fun _ => w1, fun _ => w2⟩, qe, qH i (by omega), ih (i + 1) j _ (by omega), hz, hg, Bool.or_assoc]
  rfl
theorem qRL (k : Nat) (hk : 301000 ≤ k) (b : T17.T) (g : GB b) : ∀ (dd i j : Nat) (d : Int) (out : List vm), i + dd = b.2.2.2.2.2.2.2.2.2.2.2.2.2.2.2.2.2.2.2.2.2.length → dd * 70 + 6000 < j → out.length + dd ≤ 10000 →
  zt k j d (i : Int) b out = some (mnF (mnC (mnS b (W6 (Xn (b.2.2.2.2.2.2.2.2.2.2.2.2.2.2.2.2.2.2.2.2.2.take i)) (b.2.2.2.2.2.2.2.2.2.2.2.2.2.2.2.2.2.2.2.2.2.drop i) d out).1 (b.2.2.2.2.2.2.2.2.2.2.2.2.2.2.2.2.2.1)) (b.2.2.2.2.2.2.2.2.2.2.2.2.2.2.2.2.2.2.2.1)) (W6 (Xn (b.2.2.2.2.2.2.2.2.2.2.2.2.2.2.2.2.2.2.2.2.2.take i)) (b.2.2.2.2.2.2.2.2.2.2.2.2.2.2.2.2.2.2.2.2.2.drop i) d out).2, 0) := by
 have hP := g.bPostings
 have hS := g.bShipments
 intro dd
 induction dd with
 | zero =>
  intro i j d out hi hj ho
  obtain ⟨j, rfl⟩ := qW (by omega : 0 < j)
  have hz : b.2.2.2.2.2.2.2.2.2.2.2.2.2.2.2.2.2.2.2.2.2.drop i = [] := qo (by omega)
  have h29 := qRO k hk b g (b.2.2.2.2.2.2.2.2.2.2.2.2.2.2.2.2.2.1.length) 0 j d out (wX _) (by omega) (by omega)
  rw [show ((0 : Nat) : Int) = 0 from rfl, wv] at h29
  rw [zt, qq (by omega : ¬ (i : Int) < (b.2.2.2.2.2.2.2.2.2.2.2.2.2.2.2.2.2.2.2.2.2.length : Int)), qg, hz, W6]
  exact h29
 | succ dd ih =>
  intro i j d out hi hj ho
  rw [Nat.succ_mul] at hj
  have w1 : (0 : Int) ≤ (i : Int) := by omega
  have w2 : (i : Int) < (b.2.2.2.2.2.2.2.2.2.2.2.2.2.2.2.2.2.2.2.2.2.length : Int) := by omega
  have hrw : b.2.2.2.2.2.2.2.2.2.2.2.2.2.2.2.2.2.2.2.2.2.drop i = b.2.2.2.2.2.2.2.2.2.2.2.2.2.2.2.2.2.2.2.2.2.getD i T16.dflt :: b.2.2.2.2.2.2.2.2.2.2.2.2.2.2.2.2.2.2.2.2.2.drop (i + 1) := qt (b.2.2.2.2.2.2.2.2.2.2.2.2.2.2.2.2.2.2.2.2.2) i T16.dflt (by omega)
  have htk : b.2.2.2.2.2.2.2.2.2.2.2.2.2.2.2.2.2.2.2.2.2.take (i + 1) = b.2.2.2.2.2.2.2.2.2.2.2.2.2.2.2.2.2.2.2.2.2.take i ++ [b.2.2.2.2.2.2.2.2.2.2.2.2.2.2.2.2.2.2.2.2.2.getD i T16.dflt] := zz (b.2.2.2.2.2.2.2.2.2.2.2.2.2.2.2.2.2.2.2.2.2) i T16.dflt (by omega)
  have hid : Xn (b.2.2.2.2.2.2.2.2.2.2.2.2.2.2.2.2.2.2.2.2.2.take (i + 1)) = Xn (b.2.2.2.2.2.2.2.2.2.2.2.2.2.2.2.2.2.2.2.2.2.take i) ++ [(b.2.2.2.2.2.2.2.2.2.2.2.2.2.2.2.2.2.2.2.2.2.getD i T16.dflt).1] := by rw [htk]; exact List.map_append
  generalize hz : dd * 70 = z at *
  obtain ⟨j, rfl⟩ : ∃ q, j = (i + 1 + q) + 1 := ⟨j - i - 2, by omega⟩
  have h15 := qRM k (by omega) b (b.2.2.2.2.2.2.2.2.2.2.2.2.2.2.2.2.2.2.2.2.2.getD i T16.dflt) d out (by omega) i (by omega) (by omega) i 0 j false (wX _)
  rw [show ((0 : Nat) : Int) = 0 from rfl, wv, vH] at h15
  rw [zt, qw w2, qj, qc ⟨w1, w2⟩, qe, h15, hrw, W6]
  unfold phR
  rw [qH i (by omega)]
  have key : ∀ (F : List vm), F.length ≤ out.length + 1 → zt k j d ((i + 1 : Nat) : Int) b F = some (mnF (mnC (mnS b (W6 (Xn (b.2.2.2.2.2.2.2.2.2.2.2.2.2.2.2.2.2.2.2.2.2.take i) ++ [(b.2.2.2.2.2.2.2.2.2.2.2.2.2.2.2.2.2.2.2.2.2.getD i T16.dflt).1]) (b.2.2.2.2.2.2.2.2.2.2.2.2.2.2.2.2.2.2.2.2.2.drop (i + 1)) d F).1 (b.2.2.2.2.2.2.2.2.2.2.2.2.2.2.2.2.2.1)) (b.2.2.2.2.2.2.2.2.2.2.2.2.2.2.2.2.2.2.2.1)) (W6 (Xn (b.2.2.2.2.2.2.2.2.2.2.2.2.2.2.2.2.2.2.2.2.2.take i) ++ [(b.2.2.2.2.2.2.2.2.2.2.2.2.2.2.2.2.2.2.2.2.2.getD i T16.dflt).1]) (b.2.2.2.2.2.2.2.2.2.2.2.2.2.2.2.2.2.2.2.2.2.drop (i + 1)) d F).2, 0) := fun F hF => by
   rw [ih (i + 1) j d F (by omega) (by omega) (by omega), hid]
  cases vT (b.2.2.2.2.2.2.2.2.2.2.2.2.2.2.2.2.2.2.2.2.2.getD i T16.dflt).1 (Xn (b.2.2.2.2.2.2.2.2.2.2.2.2.2.2.2.2.2.2.2.2.2.take i))
  ·cases hl0 : (Wd (b.2.2.2.2.2.2.2.2.2.2.2.2.2.2.2.2.2.2.2.2.2.getD i T16.dflt) != 0)
   ·have he : Wd (b.2.2.2.2.2.2.2.2.2.2.2.2.2.2.2.2.2.2.2.2.2.getD i T16.dflt) = 0 := by simpa using hl0
    have hlen := qsd he
    obtain ⟨j', hj'⟩ : ∃ q, j = qb (b.2.2.2.2.2.2.2.2.2.2.2.2.2.2.2.2.2.2.2.2.2.getD i T16.dflt).2.2 + 1 + q := ⟨j - qb (b.2.2.2.2.2.2.2.2.2.2.2.2.2.2.2.2.2.2.2.2.2.getD i T16.dflt).2.2 - 1, by omega⟩
    have h24 := qRN k b (i : Int) (b.2.2.2.2.2.2.2.2.2.2.2.2.2.2.2.2.2.2.2.2.2.getD i T16.dflt) hlen (qb (b.2.2.2.2.2.2.2.2.2.2.2.2.2.2.2.2.2.2.2.2.2.getD i T16.dflt).2.2) 0 j' d out (wX _)
    rw [show ((0 : Nat) : Int) = 0 from rfl, wv, ← hj'] at h24
    rw [qg, qg, qg, qg, h24, qH i (by omega), ih (i + 1) j' _ out (by omega) (by omega) (by omega), hid]
   ·rw [qg, qj, qg, qj, key _ (by rw [qT, qz]; exact qR _)]
  ·rw [qj, qj, key _ (by rw [qT, qz]; exact qR _)]
theorem qqX (k : Nat) (hk : 301000 ≤ k) (b : T17.T) (g : GB b) : qee k b = some (zF b, 0) := by
 have hP := g.bPostings
 have h10 : ∀ (o : List vm), o.length ≤ 1 → zt k k 0 0 b o = some (mnF (mnC (mnS b (W6 [] (b.2.2.2.2.2.2.2.2.2.2.2.2.2.2.2.2.2.2.2.2.2) 0 o).1 (b.2.2.2.2.2.2.2.2.2.2.2.2.2.2.2.2.2.1)) (b.2.2.2.2.2.2.2.2.2.2.2.2.2.2.2.2.2.2.2.1)) (W6 [] (b.2.2.2.2.2.2.2.2.2.2.2.2.2.2.2.2.2.2.2.2.2) 0 o).2, 0) := fun o ho => by
  have := qRL k hk b g (b.2.2.2.2.2.2.2.2.2.2.2.2.2.2.2.2.2.2.2.2.2.length) 0 k 0 o (wX _) (by omega) (by omega)
  rw [show ((0 : Nat) : Int) = 0 from rfl, wv] at this
  exact this
 unfold qee zF mnB
 rw [qzN k (by omega) b g, qMC k (by omega) b g, qd, qc rfl, bne_self_eq_false, qg, qsB k (by omega), qFe k (by omega), qd, qc rfl]
 cases (qbi (b.2.2.2.2.2.2.2.2.2.2.2.2.2.2.2.2.2.2.2.2.1) 1099511627776 != 0)
 ·rw [qg, qg]
  exact h10 [] (by simp)
 ·rw [qj, qj, qc (by simp only [qz]; omega)]
  exact h10 _ (by simp)
theorem qEv (k : Nat) (hk : 301000 ≤ k) (b : T17.T) (g : GB b) : QN k b = (zF b, 0) := by
 unfold QN; rw [qqX k hk b g]; rfl
theorem qxA (b : T17.T) (g : GB b) : (zF b).length ≤ 100 := by
 have hP := g.bPostings
 have h1 := qjm (b.2.2.2.2.2.2.2.2.2.2.2.2.2.2.2.2.2.2.2.2.2) [] 0 (mnB b)
 have h2 : (mnB b).length ≤ 1 := by
  unfold mnB
  cases (qbi (b.2.2.2.2.2.2.2.2.2.2.2.2.2.2.2.2.2.2.2.2.1) 1099511627776 != 0) <;> simp
 unfold zF mnF
 cases (mnC (mnS b (W6 [] (b.2.2.2.2.2.2.2.2.2.2.2.2.2.2.2.2.2.2.2.2.2) 0 (mnB b)).1 (b.2.2.2.2.2.2.2.2.2.2.2.2.2.2.2.2.2.1)) (b.2.2.2.2.2.2.2.2.2.2.2.2.2.2.2.2.2.2.2.1) != 0)
 ·rw [qg]; omega
 ·rw [qj, qT, qz]; omega
theorem qsA (k : Nat) (hk : 301000 ≤ k) (aw : qfs k = some true) (b : T17.T) (hw : Wf T17 b) : qxj k b = some true := by
 obtain ⟨r, h1, h2⟩ := qJJ k (by omega) b hw
 have av : YM k = true := by unfold YM; rw [aw]; rfl
 have gv : qm9 k b = r := by unfold qm9; rw [h1]; rfl
 unfold qxj
 rw [h1, gv, aw, av, qd, qc rfl]
 cases r with
 | true => rfl
 | false =>
  have g := h2 rfl
  have hl := qxA b g
  rw [qg, qua k hk b g, qIA k hk b g, qqX k hk b g, qEv k hk b g]
  show (if true = true then (if true = true then (bif ((0 : Int) == 0) then (bif (true && YN k (zF b) (zF b)) then (if (((0 : Int) == 0) = true) ∧ ((qaL k (zF b) (zF b)).isSome = true) ∧ ((true && YN k (zF b) (zF b)) = true) ∧ ((some true).isSome = true) then some (true && true) else none) else (if (((0 : Int) == 0) = true) ∧ ((qaL k (zF b) (zF b)).isSome = true) ∧ ((true && YN k (zF b) (zF b)) = false) then some false else none)) else (if (((0 : Int) == 0) = false) ∧ (false = false) then some false else none)) else none) else none) = _
  rw [qmj k _ (by omega) (by omega), qxq k _ (by omega) (by omega)]
  rfl
end Go.AM
