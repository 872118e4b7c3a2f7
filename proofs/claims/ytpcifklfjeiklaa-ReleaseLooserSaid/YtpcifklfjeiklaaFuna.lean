/- Contracts of the functions that the law reaches, and the plain law. -/
import Derived.Test.YtpcifklfjeiklaaLibb
import Derived.Test.YtpcifklfjeiklaaProg
import Derived.KernelRfl
namespace Go.AM
open Go Go.Proofs
set_option linter.unusedVariables false
noncomputable section
theorem cond_t {α : Type} {b : Bool} {x y : α} (c : b = true) : cond b x y = x := by subst c; rfl
theorem cond_f {α : Type} {b : Bool} {x y : α} (c : b = false) : cond b x y = y := by subst c; rfl
abbrev I : RTy := .int .i64
abbrev t7 : RTy := (.pair I (.pair I (.pair .bool (.int .u8))))
abbrev t8 : RTy := (.pair I (.pair I (.pair .bool (.int .u8))))
abbrev t13 : RTy := (.pair .str (.int .u64))
abbrev t14 : RTy := (.pair .str (.int .u64))
abbrev t22 : RTy := (.pair I (.pair I (.pair I (.pair I (.pair I (.pair I (.pair I (.pair I (.pair I (.pair I (.pair I I)))))))))))
abbrev t23 : RTy := (.pair I (.pair I (.pair I (.pair I (.pair I (.pair I (.pair I (.pair I (.pair I (.pair I (.pair I I)))))))))))
abbrev t24 : RTy := (.pair I (.pair .bool (.pair I (.pair I (.pair I I)))))
abbrev t25 : RTy := (.pair I (.pair .bool (.pair I (.pair I (.pair I I)))))
abbrev t36 : RTy := (.pair I (.pair I I))
abbrev t27 : RTy := (.pair I (.list t36))
abbrev t28 : RTy := (.pair I (.list t36))
abbrev t35 : RTy := (.pair I (.pair I I))
abbrev t42 : RTy := (.pair (.int .u8) (.pair (.int .u8) (.int .u8)))
abbrev t45 : RTy := (.pair t25 t23)
abbrev t46 : RTy := (.pair t25 t23)
abbrev t55 : RTy := .unit
abbrev t56 : RTy := .unit
def Rt : Tab := lookT [(1, .fn), (2, I), (3, I), (4, .bool), (5, (.int .u8)), (6, (.int .u8)), (7, t7), (8, t8), (9, .str), (10, .str), (11, .str), (12, (.int .u64)), (13, t13), (14, t14), (21, (.int .i32)), (22, t22), (23, t23), (24, t24), (25, t25), (26, (.list t36)), (27, t27), (28, t28), (29, (.list I)), (30, I), (32, .fn), (33, .fn), (34, .fn), (35, t35), (36, t36), (37, .fn), (38, .fn), (39, .fn), (40, .fn), (41, .fn), (42, t42), (43, .fn), (44, .fn), (45, t45), (46, t46), (47, (.list .fn)), (48, .fn), (49, .fn), (51, .fn), (54, .unit), (55, t55), (56, t56), (57, .fn), (58, (.int .u32)), (59, (.int .u8)), (60, (.int .u8)), (61, .fn), (63, (.int .i32)), (64, (.int .i32))]
theorem hm : Try.prog.follows .mixedOrders = true := by kernel_rfl

end
end Go.AM
namespace Go.AM
open Go Go.Proofs
set_option linter.unusedVariables false
noncomputable section
/-! ### function 16: papermill/order.Check -/
def K16 (k : Nat) : Calld := ⟨fun g => match g with
  | _ => none, fun g xs _ => match g with
  | _ => none⟩
abbrev R16 : Type := Int
def res16 (r : R16) : AV := .r (.v (.int .i64 r))
def bo16 (r : R16) : List (Nat × Blk) := []
def f16 (k : Nat) (o_ : t23.T) : Option R16 :=
  bif (decide (o_.fst < (1 : Int)) || decide (o_.fst > (1000000 : Int))) then
    some 1
  else
    bif (decide (o_.snd.fst < (0 : Int)) || decide (o_.snd.fst ≥ (16 : Int))) then
      some 22
    else
      bif (decide (o_.snd.snd.fst < (1 : Int)) || decide (o_.snd.snd.fst > (12000 : Int))) then
        some 20
      else
        bif (decide (o_.snd.snd.snd.fst < (1 : Int)) || decide (o_.snd.snd.snd.fst ≥ (2500 : Int)) || decide (o_.snd.snd.snd.snd.fst ≤ o_.snd.snd.snd.fst) || decide (o_.snd.snd.snd.snd.fst > (2500 : Int))) then
          some 1
        else
          bif (decide (o_.snd.snd.snd.snd.snd.fst < (0 : Int)) || decide (o_.snd.snd.snd.snd.snd.fst > IntKind.i64.wrap (o_.snd.snd.snd.snd.fst - o_.snd.snd.snd.fst)) || decide (o_.snd.snd.snd.snd.snd.snd.fst < (1 : Int)) || decide (o_.snd.snd.snd.snd.snd.snd.fst > (1000 : Int))) then
            some 1
          else
            bif (decide (o_.snd.snd.snd.snd.snd.snd.snd.fst < (0 : Int)) || decide (o_.snd.snd.snd.snd.snd.snd.snd.fst > (1000 : Int)) || decide (o_.snd.snd.snd.snd.snd.snd.snd.snd.fst < (0 : Int)) || decide (o_.snd.snd.snd.snd.snd.snd.snd.snd.fst > (1000 : Int))) then
              some 1
            else
              bif (decide (o_.snd.snd.snd.snd.snd.snd.snd.snd.snd.fst < (0 : Int)) || decide (o_.snd.snd.snd.snd.snd.snd.snd.snd.snd.fst > (8 : Int)) || decide (o_.snd.snd.snd.snd.snd.snd.snd.snd.snd.snd.fst < (0 : Int)) || decide (o_.snd.snd.snd.snd.snd.snd.snd.snd.snd.snd.fst > (100 : Int))) then
                some 1
              else
                bif (decide (o_.snd.snd.snd.snd.snd.snd.snd.snd.snd.snd.snd < (0 : Int)) || decide (o_.snd.snd.snd.snd.snd.snd.snd.snd.snd.snd.snd > (1000000000 : Int))) then
                  some 1
                else
                  some 0
def args16 (o_ : t23.T) : List AV := [.agg (rvs (enc t23 o_))]
def v16 (k : Nat) (o_ : t23.T) : R16 := (f16 k o_).getD 0
theorem of16 (k : Nat) (o_ : t23.T) (r : R16) (h : f16 k o_ = some r) : CC Try.prog 16 (args16 o_) [] (res16 r) (bo16 r) := by
  refine CC.of (fn := Try.f16) (by kernel_rfl) (by kernel_rfl) (by kernel_rfl) (by kernel_rfl) ?_
  unfold f16 at h
  refine Ev.tree hm (R := Rt) (K := (K16 k)) (l := []) (C := []) (E := [.auto [2] true]) (n := 1000) (T := .test ((decide (o_.fst < (1 : Int)) || decide (o_.fst > (1000000 : Int)))) (.leaf (res16 1) (bo16 1)) (.test ((decide (o_.snd.fst < (0 : Int)) || decide (o_.snd.fst ≥ (16 : Int)))) (.leaf (res16 22) (bo16 22)) (.test ((decide (o_.snd.snd.fst < (1 : Int)) || decide (o_.snd.snd.fst > (12000 : Int)))) (.leaf (res16 20) (bo16 20)) (.test ((decide (o_.snd.snd.snd.fst < (1 : Int)) || decide (o_.snd.snd.snd.fst ≥ (2500 : Int)) || decide (o_.snd.snd.snd.snd.fst ≤ o_.snd.snd.snd.fst) || decide (o_.snd.snd.snd.snd.fst > (2500 : Int)))) (.leaf (res16 1) (bo16 1)) (.test ((decide (o_.snd.snd.snd.snd.snd.fst < (0 : Int)) || decide (o_.snd.snd.snd.snd.snd.fst > IntKind.i64.wrap (o_.snd.snd.snd.snd.fst - o_.snd.snd.snd.fst)) || decide (o_.snd.snd.snd.snd.snd.snd.fst < (1 : Int)) || decide (o_.snd.snd.snd.snd.snd.snd.fst > (1000 : Int)))) (.leaf (res16 1) (bo16 1)) (.test ((decide (o_.snd.snd.snd.snd.snd.snd.snd.fst < (0 : Int)) || decide (o_.snd.snd.snd.snd.snd.snd.snd.fst > (1000 : Int)) || decide (o_.snd.snd.snd.snd.snd.snd.snd.snd.fst < (0 : Int)) || decide (o_.snd.snd.snd.snd.snd.snd.snd.snd.fst > (1000 : Int)))) (.leaf (res16 1) (bo16 1)) (.test ((decide (o_.snd.snd.snd.snd.snd.snd.snd.snd.snd.fst < (0 : Int)) || decide (o_.snd.snd.snd.snd.snd.snd.snd.snd.snd.fst > (8 : Int)) || decide (o_.snd.snd.snd.snd.snd.snd.snd.snd.snd.snd.fst < (0 : Int)) || decide (o_.snd.snd.snd.snd.snd.snd.snd.snd.snd.snd.fst > (100 : Int)))) (.leaf (res16 1) (bo16 1)) (.test ((decide (o_.snd.snd.snd.snd.snd.snd.snd.snd.snd.snd.snd < (0 : Int)) || decide (o_.snd.snd.snd.snd.snd.snd.snd.snd.snd.snd.snd > (1000000000 : Int)))) (.leaf (res16 1) (bo16 1)) (.leaf (res16 0) (bo16 0)))))))))) (by kernel_rfl) ?_
  refine ⟨fun c => ?_, fun c => ?_⟩
  · rw [cond_t c] at h
    cases h; exact ⟨rfl, rfl⟩
  · rw [cond_f c] at h
    refine ⟨fun c => ?_, fun c => ?_⟩
    · rw [cond_t c] at h
      cases h; exact ⟨rfl, rfl⟩
    · rw [cond_f c] at h
      refine ⟨fun c => ?_, fun c => ?_⟩
      · rw [cond_t c] at h
        cases h; exact ⟨rfl, rfl⟩
      · rw [cond_f c] at h
        refine ⟨fun c => ?_, fun c => ?_⟩
        · rw [cond_t c] at h
          cases h; exact ⟨rfl, rfl⟩
        · rw [cond_f c] at h
          refine ⟨fun c => ?_, fun c => ?_⟩
          · rw [cond_t c] at h
            cases h; exact ⟨rfl, rfl⟩
          · rw [cond_f c] at h
            refine ⟨fun c => ?_, fun c => ?_⟩
            · rw [cond_t c] at h
              cases h; exact ⟨rfl, rfl⟩
            · rw [cond_f c] at h
              refine ⟨fun c => ?_, fun c => ?_⟩
              · rw [cond_t c] at h
                cases h; exact ⟨rfl, rfl⟩
              · rw [cond_f c] at h
                refine ⟨fun c => ?_, fun c => ?_⟩
                · rw [cond_t c] at h
                  cases h; exact ⟨rfl, rfl⟩
                · rw [cond_f c] at h
                  cases h; exact ⟨rfl, rfl⟩
theorem cc16 (k : Nat) (o_ : t23.T) (h : (f16 k o_).isSome = true) : CC Try.prog 16 (args16 o_) [] (res16 (v16 k o_)) (bo16 (v16 k o_)) := by
  cases e : f16 k o_ with
  | none => rw [e] at h; cases h
  | some r => rw [show v16 k o_ = r by simp [v16, e]]; exact of16 k o_ r e

end
end Go.AM
namespace Go.AM
open Go Go.Proofs
set_option linter.unusedVariables false
noncomputable section
/-! ### function 17: (papermill/release.held).grade -/
def K17 (k : Nat) : Calld := ⟨fun g => match g with
  | _ => none, fun g xs _ => match g with
  | _ => none⟩
abbrev R17 : Type := Bool
def res17 (r : R17) : AV := .r (.v (.bool r))
def bo17 (r : R17) : List (Nat × Blk) := []
def f17 (k : Nat) (h_ : t46.T) : Option R17 :=
  some (h_.fst.fst != h_.snd.snd.fst)
def args17 (h_ : t46.T) : List AV := [.agg (rvs (enc t46 h_))]
def v17 (k : Nat) (h_ : t46.T) : R17 := (f17 k h_).getD false
theorem of17 (k : Nat) (h_ : t46.T) (r : R17) (h : f17 k h_ = some r) : CC Try.prog 17 (args17 h_) [] (res17 r) (bo17 r) := by
  refine CC.of (fn := Try.f17) (by kernel_rfl) (by kernel_rfl) (by kernel_rfl) (by kernel_rfl) ?_
  unfold f17 at h
  refine Ev.tree hm (R := Rt) (K := (K17 k)) (l := []) (C := []) (E := [.auto [2] true]) (n := 1000) (T := .leaf (res17 (h_.fst.fst != h_.snd.snd.fst)) (bo17 (h_.fst.fst != h_.snd.snd.fst))) (by kernel_rfl) ?_
  cases h; exact ⟨rfl, rfl⟩
theorem cc17 (k : Nat) (h_ : t46.T) (h : (f17 k h_).isSome = true) : CC Try.prog 17 (args17 h_) [] (res17 (v17 k h_)) (bo17 (v17 k h_)) := by
  cases e : f17 k h_ with
  | none => rw [e] at h; cases h
  | some r => rw [show v17 k h_ = r by simp [v17, e]]; exact of17 k h_ r e

end
end Go.AM
namespace Go.AM
open Go Go.Proofs
set_option linter.unusedVariables false
noncomputable section
/-! ### function 18: (papermill/release.held).prime -/
def K18 (k : Nat) : Calld := ⟨fun g => match g with
  | _ => none, fun g xs _ => match g with
  | _ => none⟩
abbrev R18 : Type := Bool
def res18 (r : R18) : AV := .r (.v (.bool r))
def bo18 (r : R18) : List (Nat × Blk) := []
def f18 (k : Nat) (h_ : t46.T) : Option R18 :=
  some (!h_.fst.snd.fst)
def args18 (h_ : t46.T) : List AV := [.agg (rvs (enc t46 h_))]
def v18 (k : Nat) (h_ : t46.T) : R18 := (f18 k h_).getD false
theorem of18 (k : Nat) (h_ : t46.T) (r : R18) (h : f18 k h_ = some r) : CC Try.prog 18 (args18 h_) [] (res18 r) (bo18 r) := by
  refine CC.of (fn := Try.f18) (by kernel_rfl) (by kernel_rfl) (by kernel_rfl) (by kernel_rfl) ?_
  unfold f18 at h
  refine Ev.tree hm (R := Rt) (K := (K18 k)) (l := []) (C := []) (E := [.auto [2] true]) (n := 1000) (T := .leaf (res18 (!h_.fst.snd.fst)) (bo18 (!h_.fst.snd.fst))) (by kernel_rfl) ?_
  cases h; exact ⟨rfl, rfl⟩
theorem cc18 (k : Nat) (h_ : t46.T) (h : (f18 k h_).isSome = true) : CC Try.prog 18 (args18 h_) [] (res18 (v18 k h_)) (bo18 (v18 k h_)) := by
  cases e : f18 k h_ with
  | none => rw [e] at h; cases h
  | some r => rw [show v18 k h_ = r by simp [v18, e]]; exact of18 k h_ r e

end
end Go.AM
namespace Go.AM
open Go Go.Proofs
set_option linter.unusedVariables false
noncomputable section
/-! ### function 19: (papermill/release.held).width -/
def K19 (k : Nat) : Calld := ⟨fun g => match g with
  | _ => none, fun g xs _ => match g with
  | _ => none⟩
abbrev R19 : Type := Bool
def res19 (r : R19) : AV := .r (.v (.bool r))
def bo19 (r : R19) : List (Nat × Blk) := []
def f19 (k : Nat) (h_ : t46.T) : Option R19 :=
  some (h_.fst.snd.snd.fst != h_.snd.snd.snd.fst)
def args19 (h_ : t46.T) : List AV := [.agg (rvs (enc t46 h_))]
def v19 (k : Nat) (h_ : t46.T) : R19 := (f19 k h_).getD false
theorem of19 (k : Nat) (h_ : t46.T) (r : R19) (h : f19 k h_ = some r) : CC Try.prog 19 (args19 h_) [] (res19 r) (bo19 r) := by
  refine CC.of (fn := Try.f19) (by kernel_rfl) (by kernel_rfl) (by kernel_rfl) (by kernel_rfl) ?_
  unfold f19 at h
  refine Ev.tree hm (R := Rt) (K := (K19 k)) (l := []) (C := []) (E := [.auto [2] true]) (n := 1000) (T := .leaf (res19 (h_.fst.snd.snd.fst != h_.snd.snd.snd.fst)) (bo19 (h_.fst.snd.snd.fst != h_.snd.snd.snd.fst))) (by kernel_rfl) ?_
  cases h; exact ⟨rfl, rfl⟩
theorem cc19 (k : Nat) (h_ : t46.T) (h : (f19 k h_).isSome = true) : CC Try.prog 19 (args19 h_) [] (res19 (v19 k h_)) (bo19 (v19 k h_)) := by
  cases e : f19 k h_ with
  | none => rw [e] at h; cases h
  | some r => rw [show v19 k h_ = r by simp [v19, e]]; exact of19 k h_ r e

end
end Go.AM
namespace Go.AM
open Go Go.Proofs
set_option linter.unusedVariables false
noncomputable section
/-! ### function 20: (papermill/release.held).diameter -/
def K20 (k : Nat) : Calld := ⟨fun g => match g with
  | _ => none, fun g xs _ => match g with
  | _ => none⟩
abbrev R20 : Type := Bool
def res20 (r : R20) : AV := .r (.v (.bool r))
def bo20 (r : R20) : List (Nat × Blk) := []
def f20 (k : Nat) (h_ : t46.T) : Option R20 :=
  some (decide (h_.fst.snd.snd.snd.fst < IntKind.i64.wrap (h_.snd.snd.snd.snd.snd.fst - h_.snd.snd.snd.snd.snd.snd.fst)) || decide (h_.fst.snd.snd.snd.fst > h_.snd.snd.snd.snd.snd.fst))
def args20 (h_ : t46.T) : List AV := [.agg (rvs (enc t46 h_))]
def v20 (k : Nat) (h_ : t46.T) : R20 := (f20 k h_).getD false
theorem of20 (k : Nat) (h_ : t46.T) (r : R20) (h : f20 k h_ = some r) : CC Try.prog 20 (args20 h_) [] (res20 r) (bo20 r) := by
  refine CC.of (fn := Try.f20) (by kernel_rfl) (by kernel_rfl) (by kernel_rfl) (by kernel_rfl) ?_
  unfold f20 at h
  refine Ev.tree hm (R := Rt) (K := (K20 k)) (l := []) (C := []) (E := [.auto [2] true]) (n := 1000) (T := .leaf (res20 (decide (h_.fst.snd.snd.snd.fst < IntKind.i64.wrap (h_.snd.snd.snd.snd.snd.fst - h_.snd.snd.snd.snd.snd.snd.fst)) || decide (h_.fst.snd.snd.snd.fst > h_.snd.snd.snd.snd.snd.fst))) (bo20 (decide (h_.fst.snd.snd.snd.fst < IntKind.i64.wrap (h_.snd.snd.snd.snd.snd.fst - h_.snd.snd.snd.snd.snd.snd.fst)) || decide (h_.fst.snd.snd.snd.fst > h_.snd.snd.snd.snd.snd.fst)))) (by kernel_rfl) ?_
  cases h; exact ⟨rfl, rfl⟩
theorem cc20 (k : Nat) (h_ : t46.T) (h : (f20 k h_).isSome = true) : CC Try.prog 20 (args20 h_) [] (res20 (v20 k h_)) (bo20 (v20 k h_)) := by
  cases e : f20 k h_ with
  | none => rw [e] at h; cases h
  | some r => rw [show v20 k h_ = r by simp [v20, e]]; exact of20 k h_ r e

end
end Go.AM
namespace Go.AM
open Go Go.Proofs
set_option linter.unusedVariables false
noncomputable section
/-! ### function 21: (papermill/release.held).splices -/
def K21 (k : Nat) : Calld := ⟨fun g => match g with
  | _ => none, fun g xs _ => match g with
  | _ => none⟩
abbrev R21 : Type := Bool
def res21 (r : R21) : AV := .r (.v (.bool r))
def bo21 (r : R21) : List (Nat × Blk) := []
def f21 (k : Nat) (h_ : t46.T) : Option R21 :=
  some (decide (h_.fst.snd.snd.snd.snd.fst > h_.snd.snd.snd.snd.snd.snd.snd.snd.snd.snd.fst))
def args21 (h_ : t46.T) : List AV := [.agg (rvs (enc t46 h_))]
def v21 (k : Nat) (h_ : t46.T) : R21 := (f21 k h_).getD false
theorem of21 (k : Nat) (h_ : t46.T) (r : R21) (h : f21 k h_ = some r) : CC Try.prog 21 (args21 h_) [] (res21 r) (bo21 r) := by
  refine CC.of (fn := Try.f21) (by kernel_rfl) (by kernel_rfl) (by kernel_rfl) (by kernel_rfl) ?_
  unfold f21 at h
  refine Ev.tree hm (R := Rt) (K := (K21 k)) (l := []) (C := []) (E := [.auto [2] true]) (n := 1000) (T := .leaf (res21 (decide (h_.fst.snd.snd.snd.snd.fst > h_.snd.snd.snd.snd.snd.snd.snd.snd.snd.snd.fst))) (bo21 (decide (h_.fst.snd.snd.snd.snd.fst > h_.snd.snd.snd.snd.snd.snd.snd.snd.snd.snd.fst)))) (by kernel_rfl) ?_
  cases h; exact ⟨rfl, rfl⟩
theorem cc21 (k : Nat) (h_ : t46.T) (h : (f21 k h_).isSome = true) : CC Try.prog 21 (args21 h_) [] (res21 (v21 k h_)) (bo21 (v21 k h_)) := by
  cases e : f21 k h_ with
  | none => rw [e] at h; cases h
  | some r => rw [show v21 k h_ = r by simp [v21, e]]; exact of21 k h_ r e

end
end Go.AM
namespace Go.AM
open Go Go.Proofs
set_option linter.unusedVariables false
noncomputable section
/-! ### function 22: (papermill/release.held).level -/
def K22 (k : Nat) : Calld := ⟨fun g => match g with
  | _ => none, fun g xs _ => match g with
  | _ => none⟩
abbrev R22 : Type := Bool
def res22 (r : R22) : AV := .r (.v (.bool r))
def bo22 (r : R22) : List (Nat × Blk) := []
def f22 (k : Nat) (h_ : t46.T) : Option R22 :=
  some (decide (h_.fst.snd.snd.snd.snd.snd > h_.snd.snd.snd.snd.snd.snd.snd.snd.snd.snd.snd.fst))
def args22 (h_ : t46.T) : List AV := [.agg (rvs (enc t46 h_))]
def v22 (k : Nat) (h_ : t46.T) : R22 := (f22 k h_).getD false
theorem of22 (k : Nat) (h_ : t46.T) (r : R22) (h : f22 k h_ = some r) : CC Try.prog 22 (args22 h_) [] (res22 r) (bo22 r) := by
  refine CC.of (fn := Try.f22) (by kernel_rfl) (by kernel_rfl) (by kernel_rfl) (by kernel_rfl) ?_
  unfold f22 at h
  refine Ev.tree hm (R := Rt) (K := (K22 k)) (l := []) (C := []) (E := [.auto [2] true]) (n := 1000) (T := .leaf (res22 (decide (h_.fst.snd.snd.snd.snd.snd > h_.snd.snd.snd.snd.snd.snd.snd.snd.snd.snd.snd.fst))) (bo22 (decide (h_.fst.snd.snd.snd.snd.snd > h_.snd.snd.snd.snd.snd.snd.snd.snd.snd.snd.snd.fst)))) (by kernel_rfl) ?_
  cases h; exact ⟨rfl, rfl⟩
theorem cc22 (k : Nat) (h_ : t46.T) (h : (f22 k h_).isSome = true) : CC Try.prog 22 (args22 h_) [] (res22 (v22 k h_)) (bo22 (v22 k h_)) := by
  cases e : f22 k h_ with
  | none => rw [e] at h; cases h
  | some r => rw [show v22 k h_ = r by simp [v22, e]]; exact of22 k h_ r e

end
end Go.AM
namespace Go.AM
open Go Go.Proofs
set_option linter.unusedVariables false
noncomputable section
/-! ### function 8: papermill/release.Judge -/
def clos8 (p : t46.T) : List (RTy.fn).T := [(Fn.func 17, [Value.agg (vals t46 p).toArray], []), (Fn.func 18, [Value.agg (vals t46 p).toArray], []), (Fn.func 19, [Value.agg (vals t46 p).toArray], []), (Fn.func 20, [Value.agg (vals t46 p).toArray], []), (Fn.func 21, [Value.agg (vals t46 p).toArray], []), (Fn.func 22, [Value.agg (vals t46 p).toArray], [])]
def K8 (k : Nat) : Calld := ⟨fun g => match g with
  | 16 => some [false]
  | 17 => some [false]
  | 18 => some [false]
  | 19 => some [false]
  | 20 => some [false]
  | 21 => some [false]
  | 22 => some [false]
  | _ => none, fun g xs _ => match g with
  | 16 => match xs with
    | [.agg q0] => (decS [] t23 q0).bind fun o_ => some (res16 (v16 k o_), bo16 (v16 k o_))
    | _ => none
  | 17 => match xs with
    | [.agg q0] => (decS [] t46 q0).bind fun h_ => some (res17 (v17 k h_), bo17 (v17 k h_))
    | _ => none
  | 18 => match xs with
    | [.agg q0] => (decS [] t46 q0).bind fun h_ => some (res18 (v18 k h_), bo18 (v18 k h_))
    | _ => none
  | 19 => match xs with
    | [.agg q0] => (decS [] t46 q0).bind fun h_ => some (res19 (v19 k h_), bo19 (v19 k h_))
    | _ => none
  | 20 => match xs with
    | [.agg q0] => (decS [] t46 q0).bind fun h_ => some (res20 (v20 k h_), bo20 (v20 k h_))
    | _ => none
  | 21 => match xs with
    | [.agg q0] => (decS [] t46 q0).bind fun h_ => some (res21 (v21 k h_), bo21 (v21 k h_))
    | _ => none
  | 22 => match xs with
    | [.agg q0] => (decS [] t46 q0).bind fun h_ => some (res22 (v22 k h_), bo22 (v22 k h_))
    | _ => none
  | _ => none⟩
abbrev R8 : Type := Int × List (I).T
def res8 (r : R8) : AV := .tup [.own 0 0, .r (.v (.int .i64 r.1))]
def bo8 (r : R8) : List (Nat × Blk) := [(0, .row 3 I r.2)]
def st8_10007 (x0 : List (I).T) (x1 : t46.T) : St := ⟨mkS 47 [(8, .own 1000000 0), (31, .own 1000001 0), (32, .r (.v (.int .i64 6))), (33, .r (.v (.int .i64 0)))], [(1000000, 0, .row 3 I x0), (1000001, 0, .row 34 .fn (clos8 x1))]⟩
def st8_20007 (x0 : List (I).T) (x1 : t46.T) : St := ⟨mkS 47 [(8, .own 1000000 0), (31, .own 1000001 0), (32, .r (.v (.int .i64 6))), (33, .r (.v (.int .i64 1)))], [(1000000, 0, .row 3 I x0), (1000001, 0, .row 34 .fn (clos8 x1))]⟩
def st8_30007 (x0 : List (I).T) (x1 : t46.T) : St := ⟨mkS 47 [(8, .own 1000000 0), (31, .own 1000001 0), (32, .r (.v (.int .i64 6))), (33, .r (.v (.int .i64 2)))], [(1000000, 0, .row 3 I x0), (1000001, 0, .row 34 .fn (clos8 x1))]⟩
def st8_40007 (x0 : List (I).T) (x1 : t46.T) : St := ⟨mkS 47 [(8, .own 1000000 0), (31, .own 1000001 0), (32, .r (.v (.int .i64 6))), (33, .r (.v (.int .i64 3)))], [(1000000, 0, .row 3 I x0), (1000001, 0, .row 34 .fn (clos8 x1))]⟩
def st8_50007 (x0 : List (I).T) (x1 : t46.T) : St := ⟨mkS 47 [(8, .own 1000000 0), (31, .own 1000001 0), (32, .r (.v (.int .i64 6))), (33, .r (.v (.int .i64 4)))], [(1000000, 0, .row 3 I x0), (1000001, 0, .row 34 .fn (clos8 x1))]⟩
def st8_60007 (x0 : List (I).T) (x1 : t46.T) : St := ⟨mkS 47 [(8, .own 1000000 0), (31, .own 1000001 0), (32, .r (.v (.int .i64 6))), (33, .r (.v (.int .i64 5)))], [(1000000, 0, .row 3 I x0), (1000001, 0, .row 34 .fn (clos8 x1))]⟩
def st8_70007 (x0 : List (I).T) (x1 : t46.T) : St := ⟨mkS 47 [(8, .own 1000000 0), (31, .own 1000001 0), (32, .r (.v (.int .i64 6))), (33, .r (.v (.int .i64 6)))], [(1000000, 0, .row 3 I x0), (1000001, 0, .row 34 .fn (clos8 x1))]⟩
mutual
def f8_10007 (k : Nat) : Nat → List (I).T → t46.T → Option R8
  | 0, _, _ => none
  | j + 1, x0, x1 =>
    if ((0 : Int) ≤ (0 : Int)) ∧ ((0 : Int) < (↑ (clos8 x1).length : Int)) then
      if ((f17 k x1).isSome = true) then
        bif (v17 k x1) then
          if ((x0.length + [IntKind.i64.wrap ((1 : Int) + (0 : Int))].length) * (8 : Nat) ≤ (140737488355328 : Nat)) then
            f8_20007 k j ((x0 ++ [IntKind.i64.wrap (1 + 0)])) x1
          else none
        else
          f8_20007 k j x0 x1
      else none
    else none
def f8_20007 (k : Nat) : Nat → List (I).T → t46.T → Option R8
  | 0, _, _ => none
  | j + 1, x0, x1 =>
    if ((0 : Int) ≤ (1 : Int)) ∧ ((1 : Int) < (↑ (clos8 x1).length : Int)) then
      if ((f18 k x1).isSome = true) then
        bif (v18 k x1) then
          if ((x0.length + [IntKind.i64.wrap ((1 : Int) + (1 : Int))].length) * (8 : Nat) ≤ (140737488355328 : Nat)) then
            f8_30007 k j ((x0 ++ [IntKind.i64.wrap (1 + 1)])) x1
          else none
        else
          f8_30007 k j x0 x1
      else none
    else none
def f8_30007 (k : Nat) : Nat → List (I).T → t46.T → Option R8
  | 0, _, _ => none
  | j + 1, x0, x1 =>
    if ((0 : Int) ≤ (2 : Int)) ∧ ((2 : Int) < (↑ (clos8 x1).length : Int)) then
      if ((f19 k x1).isSome = true) then
        bif (v19 k x1) then
          if ((x0.length + [IntKind.i64.wrap ((1 : Int) + (2 : Int))].length) * (8 : Nat) ≤ (140737488355328 : Nat)) then
            f8_40007 k j ((x0 ++ [IntKind.i64.wrap (1 + 2)])) x1
          else none
        else
          f8_40007 k j x0 x1
      else none
    else none
def f8_40007 (k : Nat) : Nat → List (I).T → t46.T → Option R8
  | 0, _, _ => none
  | j + 1, x0, x1 =>
    if ((0 : Int) ≤ (3 : Int)) ∧ ((3 : Int) < (↑ (clos8 x1).length : Int)) then
      if ((f20 k x1).isSome = true) then
        bif (v20 k x1) then
          if ((x0.length + [IntKind.i64.wrap ((1 : Int) + (3 : Int))].length) * (8 : Nat) ≤ (140737488355328 : Nat)) then
            f8_50007 k j ((x0 ++ [IntKind.i64.wrap (1 + 3)])) x1
          else none
        else
          f8_50007 k j x0 x1
      else none
    else none
def f8_50007 (k : Nat) : Nat → List (I).T → t46.T → Option R8
  | 0, _, _ => none
  | j + 1, x0, x1 =>
    if ((0 : Int) ≤ (4 : Int)) ∧ ((4 : Int) < (↑ (clos8 x1).length : Int)) then
      if ((f21 k x1).isSome = true) then
        bif (v21 k x1) then
          if ((x0.length + [IntKind.i64.wrap ((1 : Int) + (4 : Int))].length) * (8 : Nat) ≤ (140737488355328 : Nat)) then
            f8_60007 k j ((x0 ++ [IntKind.i64.wrap (1 + 4)])) x1
          else none
        else
          f8_60007 k j x0 x1
      else none
    else none
def f8_60007 (k : Nat) : Nat → List (I).T → t46.T → Option R8
  | 0, _, _ => none
  | j + 1, x0, x1 =>
    if ((0 : Int) ≤ (5 : Int)) ∧ ((5 : Int) < (↑ (clos8 x1).length : Int)) then
      if ((f22 k x1).isSome = true) then
        bif (v22 k x1) then
          if ((x0.length + [IntKind.i64.wrap ((1 : Int) + (5 : Int))].length) * (8 : Nat) ≤ (140737488355328 : Nat)) then
            f8_70007 k j ((x0 ++ [IntKind.i64.wrap (1 + 5)])) x1
          else none
        else
          f8_70007 k j x0 x1
      else none
    else none
def f8_70007 (k : Nat) : Nat → List (I).T → t46.T → Option R8
  | 0, _, _ => none
  | j + 1, x0, x1 =>
    some ((0, x0))
end
def f8 (k : Nat) (o_ : t23.T) (f_ : t25.T) : Option R8 :=
  if ((f16 k o_).isSome = true) then
    bif (v16 k o_ != (0 : Int)) then
      some ((v16 k o_, []))
    else
      f8_10007 k k ([]) ((f_, o_))
  else none
def args8 (o_ : t23.T) (f_ : t25.T) : List AV := [.agg (rvs (enc t23 o_)), .agg (rvs (enc t25 f_))]
def v8 (k : Nat) (o_ : t23.T) (f_ : t25.T) : R8 := (f8 k o_ f_).getD (0, [])
theorem ev8 (k : Nat) : ∀ j, (∀ (x0 : List (I).T) (x1 : t46.T) (r : R8), f8_10007 k j x0 x1 = some r → Ev Try.prog Try.f8 0 (placeAt Try.f8 7) (st8_10007 x0 x1) (res8 r) (bo8 r)) ∧ (∀ (x0 : List (I).T) (x1 : t46.T) (r : R8), f8_20007 k j x0 x1 = some r → Ev Try.prog Try.f8 0 (placeAt Try.f8 7) (st8_20007 x0 x1) (res8 r) (bo8 r)) ∧ (∀ (x0 : List (I).T) (x1 : t46.T) (r : R8), f8_30007 k j x0 x1 = some r → Ev Try.prog Try.f8 0 (placeAt Try.f8 7) (st8_30007 x0 x1) (res8 r) (bo8 r)) ∧ (∀ (x0 : List (I).T) (x1 : t46.T) (r : R8), f8_40007 k j x0 x1 = some r → Ev Try.prog Try.f8 0 (placeAt Try.f8 7) (st8_40007 x0 x1) (res8 r) (bo8 r)) ∧ (∀ (x0 : List (I).T) (x1 : t46.T) (r : R8), f8_50007 k j x0 x1 = some r → Ev Try.prog Try.f8 0 (placeAt Try.f8 7) (st8_50007 x0 x1) (res8 r) (bo8 r)) ∧ (∀ (x0 : List (I).T) (x1 : t46.T) (r : R8), f8_60007 k j x0 x1 = some r → Ev Try.prog Try.f8 0 (placeAt Try.f8 7) (st8_60007 x0 x1) (res8 r) (bo8 r)) ∧ (∀ (x0 : List (I).T) (x1 : t46.T) (r : R8), f8_70007 k j x0 x1 = some r → Ev Try.prog Try.f8 0 (placeAt Try.f8 7) (st8_70007 x0 x1) (res8 r) (bo8 r))
  | 0 => by
    refine ⟨?_, ?_, ?_, ?_, ?_, ?_, ?_⟩ <;> intros <;> rename_i h <;> simp [f8_10007, f8_20007, f8_30007, f8_40007, f8_50007, f8_60007, f8_70007] at h
  | j + 1 => by
    have ih := ev8 k j
    refine ⟨?_, ?_, ?_, ?_, ?_, ?_, ?_⟩
    · intro x0 x1 r h
      rw [f8_10007] at h
      refine Ev.tree hm (R := Rt) (K := (K8 k)) (l := []) (C := [(7, [.key 33, .row 8 3 I, .auto [8, 31, 32, 33] false])]) (E := [.row 4 3 I, .auto [4, 5] true]) (n := 1000) (T := .test (true) (.need [(0 : Int) ≤ (0 : Int), (0 : Int) < (↑ (clos8 x1).length : Int)] (.need [CC Try.prog 17 (args17 x1) [] (res17 (v17 k x1)) (bo17 (v17 k x1))] (.test ((v17 k x1)) (.need [(x0.length + [IntKind.i64.wrap ((1 : Int) + (0 : Int))].length) * (8 : Nat) ≤ (140737488355328 : Nat)] (.cut 20007 (placeAt Try.f8 7) (st8_20007 ((x0 ++ [IntKind.i64.wrap (1 + 0)])) x1))) (.cut 20007 (placeAt Try.f8 7) (st8_20007 x0 x1))))) (.leaf (res8 ((0, x0))) (bo8 ((0, x0))))) (by kernel_rfl) ?_
      refine ⟨fun c => ?_, fun c => ?_⟩
      rotate_left
      · cases c
      by_cases q : ((0 : Int) ≤ (0 : Int)) ∧ ((0 : Int) < (↑ (clos8 x1).length : Int))
      · rw [if_pos q] at h
        refine ⟨(conjC q.1 (conjC q.2 conj0)), ?_⟩
        by_cases q : ((f17 k x1).isSome = true)
        · rw [if_pos q] at h
          refine ⟨(conjC (cc17 k x1 q) conj0), ?_⟩
          refine ⟨fun c => ?_, fun c => ?_⟩
          · rw [cond_t c] at h
            by_cases q : ((x0.length + [IntKind.i64.wrap ((1 : Int) + (0 : Int))].length) * (8 : Nat) ≤ (140737488355328 : Nat))
            · rw [if_pos q] at h
              refine ⟨(conjC q conj0), ?_⟩
              exact ih.2.1 ((x0 ++ [IntKind.i64.wrap (1 + 0)])) x1 _ h
            · rw [if_neg q] at h; cases h
          · rw [cond_f c] at h
            exact ih.2.1 x0 x1 _ h
        · rw [if_neg q] at h; cases h
      · rw [if_neg q] at h; cases h
    · intro x0 x1 r h
      rw [f8_20007] at h
      refine Ev.tree hm (R := Rt) (K := (K8 k)) (l := []) (C := [(7, [.key 33, .row 8 3 I, .auto [8, 31, 32, 33] false])]) (E := [.row 4 3 I, .auto [4, 5] true]) (n := 1000) (T := .test (true) (.need [(0 : Int) ≤ (1 : Int), (1 : Int) < (↑ (clos8 x1).length : Int)] (.need [CC Try.prog 18 (args18 x1) [] (res18 (v18 k x1)) (bo18 (v18 k x1))] (.test ((v18 k x1)) (.need [(x0.length + [IntKind.i64.wrap ((1 : Int) + (1 : Int))].length) * (8 : Nat) ≤ (140737488355328 : Nat)] (.cut 30007 (placeAt Try.f8 7) (st8_30007 ((x0 ++ [IntKind.i64.wrap (1 + 1)])) x1))) (.cut 30007 (placeAt Try.f8 7) (st8_30007 x0 x1))))) (.leaf (res8 ((0, x0))) (bo8 ((0, x0))))) (by kernel_rfl) ?_
      refine ⟨fun c => ?_, fun c => ?_⟩
      rotate_left
      · cases c
      by_cases q : ((0 : Int) ≤ (1 : Int)) ∧ ((1 : Int) < (↑ (clos8 x1).length : Int))
      · rw [if_pos q] at h
        refine ⟨(conjC q.1 (conjC q.2 conj0)), ?_⟩
        by_cases q : ((f18 k x1).isSome = true)
        · rw [if_pos q] at h
          refine ⟨(conjC (cc18 k x1 q) conj0), ?_⟩
          refine ⟨fun c => ?_, fun c => ?_⟩
          · rw [cond_t c] at h
            by_cases q : ((x0.length + [IntKind.i64.wrap ((1 : Int) + (1 : Int))].length) * (8 : Nat) ≤ (140737488355328 : Nat))
            · rw [if_pos q] at h
              refine ⟨(conjC q conj0), ?_⟩
              exact ih.2.2.1 ((x0 ++ [IntKind.i64.wrap (1 + 1)])) x1 _ h
            · rw [if_neg q] at h; cases h
          · rw [cond_f c] at h
            exact ih.2.2.1 x0 x1 _ h
        · rw [if_neg q] at h; cases h
      · rw [if_neg q] at h; cases h
    · intro x0 x1 r h
      rw [f8_30007] at h
      refine Ev.tree hm (R := Rt) (K := (K8 k)) (l := []) (C := [(7, [.key 33, .row 8 3 I, .auto [8, 31, 32, 33] false])]) (E := [.row 4 3 I, .auto [4, 5] true]) (n := 1000) (T := .test (true) (.need [(0 : Int) ≤ (2 : Int), (2 : Int) < (↑ (clos8 x1).length : Int)] (.need [CC Try.prog 19 (args19 x1) [] (res19 (v19 k x1)) (bo19 (v19 k x1))] (.test ((v19 k x1)) (.need [(x0.length + [IntKind.i64.wrap ((1 : Int) + (2 : Int))].length) * (8 : Nat) ≤ (140737488355328 : Nat)] (.cut 40007 (placeAt Try.f8 7) (st8_40007 ((x0 ++ [IntKind.i64.wrap (1 + 2)])) x1))) (.cut 40007 (placeAt Try.f8 7) (st8_40007 x0 x1))))) (.leaf (res8 ((0, x0))) (bo8 ((0, x0))))) (by kernel_rfl) ?_
      refine ⟨fun c => ?_, fun c => ?_⟩
      rotate_left
      · cases c
      by_cases q : ((0 : Int) ≤ (2 : Int)) ∧ ((2 : Int) < (↑ (clos8 x1).length : Int))
      · rw [if_pos q] at h
        refine ⟨(conjC q.1 (conjC q.2 conj0)), ?_⟩
        by_cases q : ((f19 k x1).isSome = true)
        · rw [if_pos q] at h
          refine ⟨(conjC (cc19 k x1 q) conj0), ?_⟩
          refine ⟨fun c => ?_, fun c => ?_⟩
          · rw [cond_t c] at h
            by_cases q : ((x0.length + [IntKind.i64.wrap ((1 : Int) + (2 : Int))].length) * (8 : Nat) ≤ (140737488355328 : Nat))
            · rw [if_pos q] at h
              refine ⟨(conjC q conj0), ?_⟩
              exact ih.2.2.2.1 ((x0 ++ [IntKind.i64.wrap (1 + 2)])) x1 _ h
            · rw [if_neg q] at h; cases h
          · rw [cond_f c] at h
            exact ih.2.2.2.1 x0 x1 _ h
        · rw [if_neg q] at h; cases h
      · rw [if_neg q] at h; cases h
    · intro x0 x1 r h
      rw [f8_40007] at h
      refine Ev.tree hm (R := Rt) (K := (K8 k)) (l := []) (C := [(7, [.key 33, .row 8 3 I, .auto [8, 31, 32, 33] false])]) (E := [.row 4 3 I, .auto [4, 5] true]) (n := 1000) (T := .test (true) (.need [(0 : Int) ≤ (3 : Int), (3 : Int) < (↑ (clos8 x1).length : Int)] (.need [CC Try.prog 20 (args20 x1) [] (res20 (v20 k x1)) (bo20 (v20 k x1))] (.test ((v20 k x1)) (.need [(x0.length + [IntKind.i64.wrap ((1 : Int) + (3 : Int))].length) * (8 : Nat) ≤ (140737488355328 : Nat)] (.cut 50007 (placeAt Try.f8 7) (st8_50007 ((x0 ++ [IntKind.i64.wrap (1 + 3)])) x1))) (.cut 50007 (placeAt Try.f8 7) (st8_50007 x0 x1))))) (.leaf (res8 ((0, x0))) (bo8 ((0, x0))))) (by kernel_rfl) ?_
      refine ⟨fun c => ?_, fun c => ?_⟩
      rotate_left
      · cases c
      by_cases q : ((0 : Int) ≤ (3 : Int)) ∧ ((3 : Int) < (↑ (clos8 x1).length : Int))
      · rw [if_pos q] at h
        refine ⟨(conjC q.1 (conjC q.2 conj0)), ?_⟩
        by_cases q : ((f20 k x1).isSome = true)
        · rw [if_pos q] at h
          refine ⟨(conjC (cc20 k x1 q) conj0), ?_⟩
          refine ⟨fun c => ?_, fun c => ?_⟩
          · rw [cond_t c] at h
            by_cases q : ((x0.length + [IntKind.i64.wrap ((1 : Int) + (3 : Int))].length) * (8 : Nat) ≤ (140737488355328 : Nat))
            · rw [if_pos q] at h
              refine ⟨(conjC q conj0), ?_⟩
              exact ih.2.2.2.2.1 ((x0 ++ [IntKind.i64.wrap (1 + 3)])) x1 _ h
            · rw [if_neg q] at h; cases h
          · rw [cond_f c] at h
            exact ih.2.2.2.2.1 x0 x1 _ h
        · rw [if_neg q] at h; cases h
      · rw [if_neg q] at h; cases h
    · intro x0 x1 r h
      rw [f8_50007] at h
      refine Ev.tree hm (R := Rt) (K := (K8 k)) (l := []) (C := [(7, [.key 33, .row 8 3 I, .auto [8, 31, 32, 33] false])]) (E := [.row 4 3 I, .auto [4, 5] true]) (n := 1000) (T := .test (true) (.need [(0 : Int) ≤ (4 : Int), (4 : Int) < (↑ (clos8 x1).length : Int)] (.need [CC Try.prog 21 (args21 x1) [] (res21 (v21 k x1)) (bo21 (v21 k x1))] (.test ((v21 k x1)) (.need [(x0.length + [IntKind.i64.wrap ((1 : Int) + (4 : Int))].length) * (8 : Nat) ≤ (140737488355328 : Nat)] (.cut 60007 (placeAt Try.f8 7) (st8_60007 ((x0 ++ [IntKind.i64.wrap (1 + 4)])) x1))) (.cut 60007 (placeAt Try.f8 7) (st8_60007 x0 x1))))) (.leaf (res8 ((0, x0))) (bo8 ((0, x0))))) (by kernel_rfl) ?_
      refine ⟨fun c => ?_, fun c => ?_⟩
      rotate_left
      · cases c
      by_cases q : ((0 : Int) ≤ (4 : Int)) ∧ ((4 : Int) < (↑ (clos8 x1).length : Int))
      · rw [if_pos q] at h
        refine ⟨(conjC q.1 (conjC q.2 conj0)), ?_⟩
        by_cases q : ((f21 k x1).isSome = true)
        · rw [if_pos q] at h
          refine ⟨(conjC (cc21 k x1 q) conj0), ?_⟩
          refine ⟨fun c => ?_, fun c => ?_⟩
          · rw [cond_t c] at h
            by_cases q : ((x0.length + [IntKind.i64.wrap ((1 : Int) + (4 : Int))].length) * (8 : Nat) ≤ (140737488355328 : Nat))
            · rw [if_pos q] at h
              refine ⟨(conjC q conj0), ?_⟩
              exact ih.2.2.2.2.2.1 ((x0 ++ [IntKind.i64.wrap (1 + 4)])) x1 _ h
            · rw [if_neg q] at h; cases h
          · rw [cond_f c] at h
            exact ih.2.2.2.2.2.1 x0 x1 _ h
        · rw [if_neg q] at h; cases h
      · rw [if_neg q] at h; cases h
    · intro x0 x1 r h
      rw [f8_60007] at h
      refine Ev.tree hm (R := Rt) (K := (K8 k)) (l := []) (C := [(7, [.key 33, .row 8 3 I, .auto [8, 31, 32, 33] false])]) (E := [.row 4 3 I, .auto [4, 5] true]) (n := 1000) (T := .test (true) (.need [(0 : Int) ≤ (5 : Int), (5 : Int) < (↑ (clos8 x1).length : Int)] (.need [CC Try.prog 22 (args22 x1) [] (res22 (v22 k x1)) (bo22 (v22 k x1))] (.test ((v22 k x1)) (.need [(x0.length + [IntKind.i64.wrap ((1 : Int) + (5 : Int))].length) * (8 : Nat) ≤ (140737488355328 : Nat)] (.cut 70007 (placeAt Try.f8 7) (st8_70007 ((x0 ++ [IntKind.i64.wrap (1 + 5)])) x1))) (.cut 70007 (placeAt Try.f8 7) (st8_70007 x0 x1))))) (.leaf (res8 ((0, x0))) (bo8 ((0, x0))))) (by kernel_rfl) ?_
      refine ⟨fun c => ?_, fun c => ?_⟩
      rotate_left
      · cases c
      by_cases q : ((0 : Int) ≤ (5 : Int)) ∧ ((5 : Int) < (↑ (clos8 x1).length : Int))
      · rw [if_pos q] at h
        refine ⟨(conjC q.1 (conjC q.2 conj0)), ?_⟩
        by_cases q : ((f22 k x1).isSome = true)
        · rw [if_pos q] at h
          refine ⟨(conjC (cc22 k x1 q) conj0), ?_⟩
          refine ⟨fun c => ?_, fun c => ?_⟩
          · rw [cond_t c] at h
            by_cases q : ((x0.length + [IntKind.i64.wrap ((1 : Int) + (5 : Int))].length) * (8 : Nat) ≤ (140737488355328 : Nat))
            · rw [if_pos q] at h
              refine ⟨(conjC q conj0), ?_⟩
              exact ih.2.2.2.2.2.2 ((x0 ++ [IntKind.i64.wrap (1 + 5)])) x1 _ h
            · rw [if_neg q] at h; cases h
          · rw [cond_f c] at h
            exact ih.2.2.2.2.2.2 x0 x1 _ h
        · rw [if_neg q] at h; cases h
      · rw [if_neg q] at h; cases h
    · intro x0 x1 r h
      rw [f8_70007] at h
      refine Ev.tree hm (R := Rt) (K := (K8 k)) (l := []) (C := [(7, [.key 33, .row 8 3 I, .auto [8, 31, 32, 33] false])]) (E := [.row 4 3 I, .auto [4, 5] true]) (n := 1000) (T := .test (false) (.need [(0 : Int) ≤ (6 : Int), (6 : Int) < (↑ (clos8 x1).length : Int)] (.stuck 2001)) (.leaf (res8 ((0, x0))) (bo8 ((0, x0))))) (by kernel_rfl) ?_
      refine ⟨fun c => ?_, fun c => ?_⟩
      · cases c
      cases h; exact ⟨rfl, rfl⟩
theorem of8 (k : Nat) (o_ : t23.T) (f_ : t25.T) (r : R8) (h : f8 k o_ f_ = some r) : CC Try.prog 8 (args8 o_ f_) [] (res8 r) (bo8 r) := by
  refine CC.of (fn := Try.f8) (by kernel_rfl) (by kernel_rfl) (by kernel_rfl) (by kernel_rfl) ?_
  unfold f8 at h
  refine Ev.tree hm (R := Rt) (K := (K8 k)) (l := []) (C := [(7, [.key 33, .row 8 3 I, .auto [8, 31, 32, 33] false])]) (E := [.row 4 3 I, .auto [4, 5] true]) (n := 1000) (T := .need [CC Try.prog 16 (args16 o_) [] (res16 (v16 k o_)) (bo16 (v16 k o_))] (.test ((v16 k o_ != (0 : Int))) (.leaf (res8 ((v16 k o_, []))) (bo8 ((v16 k o_, [])))) (.cut 10007 (placeAt Try.f8 7) (st8_10007 ([]) ((f_, o_)))))) (by kernel_rfl) ?_
  by_cases q : ((f16 k o_).isSome = true)
  · rw [if_pos q] at h
    refine ⟨(conjC (cc16 k o_ q) conj0), ?_⟩
    refine ⟨fun c => ?_, fun c => ?_⟩
    · rw [cond_t c] at h
      cases h; exact ⟨rfl, rfl⟩
    · rw [cond_f c] at h
      exact (ev8 k k).1 ([]) ((f_, o_)) _ h
  · rw [if_neg q] at h; cases h
theorem cc8 (k : Nat) (o_ : t23.T) (f_ : t25.T) (h : (f8 k o_ f_).isSome = true) : CC Try.prog 8 (args8 o_ f_) [] (res8 (v8 k o_ f_)) (bo8 (v8 k o_ f_)) := by
  cases e : f8 k o_ f_ with
  | none => rw [e] at h; cases h
  | some r => rw [show v8 k o_ f_ = r by simp [v8, e]]; exact of8 k o_ f_ r e

end
end Go.AM
namespace Go.AM
open Go Go.Proofs
set_option linter.unusedVariables false
noncomputable section
/-! ### function 25: papermill/release.right -/
def K25 (k : Nat) : Calld := ⟨fun g => match g with
  | _ => none, fun g xs _ => match g with
  | _ => none⟩
abbrev R25 : Type := Int
def res25 (r : R25) : AV := .r (.v (.int .i64 r))
def bo25 (r : R25) : List (Nat × Blk) := []
def st25_4 (x0 : List (t36).T) (x1 : Int) (x2 : Int) : St := ⟨mkS 42 [(8, .r (.ro t36 x0)), (9, .r (.v (.int .i64 x1))), (10, .r (.v (.int .i64 x2)))], []⟩
def f25_4 (k : Nat) : Nat → List (t36).T → Int → Int → Option R25
  | 0, _, _, _ => none
  | j + 1, x0, x1, x2 =>
    bif (decide (x2 < x1)) then
      if ((0 : Int) ≤ x2) ∧ (x2 < (↑x0.length : Int)) then
        bif (decide ((x0.getD x2.toNat t36.dflt).fst < (1 : Int)) || decide ((x0.getD x2.toNat t36.dflt).fst > (1000000 : Int))) then
          some 1
        else
          bif (decide ((x0.getD x2.toNat t36.dflt).snd.fst < (1 : Int)) || decide ((x0.getD x2.toNat t36.dflt).snd.fst > (6 : Int))) then
            some 17
          else
            bif (decide ((x0.getD x2.toNat t36.dflt).snd.snd < (0 : Int)) || decide ((x0.getD x2.toNat t36.dflt).snd.snd > (2147483647 : Int))) then
              some 1
            else
              f25_4 k j x0 x1 ((IntKind.i64.wrap (x2 + 1)))
      else none
    else
      some 0
def f25 (k : Nat) (l_ : List (t36).T) : Option R25 :=
  bif (decide ((↑l_.length : Int) > (512 : Int))) then
    some 8
  else
    f25_4 k k l_ ((↑l_.length : Int)) 0
def args25 (l_ : List (t36).T) : List AV := [.r (.ro t36 l_)]
def v25 (k : Nat) (l_ : List (t36).T) : R25 := (f25 k l_).getD 0
theorem ev25 (k : Nat) : ∀ j, (∀ (x0 : List (t36).T) (x1 : Int) (x2 : Int) (r : R25), f25_4 k j x0 x1 x2 = some r → Ev Try.prog Try.f25 0 (placeAt Try.f25 4) (st25_4 x0 x1 x2) (res25 r) (bo25 r))
  | 0 => by
    intros; rename_i h; simp [f25_4] at h
  | j + 1 => by
    have ih := ev25 k j
    · intro x0 x1 x2 r h
      rw [f25_4] at h
      refine Ev.tree hm (R := Rt) (K := (K25 k)) (l := []) (C := [(4, [.auto [8, 9, 10] false])]) (E := [.auto [2] true]) (n := 1000) (T := .test ((decide (x2 < x1))) (.need [(0 : Int) ≤ x2, x2 < (↑x0.length : Int)] (.test ((decide ((x0.getD x2.toNat t36.dflt).fst < (1 : Int)) || decide ((x0.getD x2.toNat t36.dflt).fst > (1000000 : Int)))) (.leaf (res25 1) (bo25 1)) (.test ((decide ((x0.getD x2.toNat t36.dflt).snd.fst < (1 : Int)) || decide ((x0.getD x2.toNat t36.dflt).snd.fst > (6 : Int)))) (.leaf (res25 17) (bo25 17)) (.test ((decide ((x0.getD x2.toNat t36.dflt).snd.snd < (0 : Int)) || decide ((x0.getD x2.toNat t36.dflt).snd.snd > (2147483647 : Int)))) (.leaf (res25 1) (bo25 1)) (.cut 4 (placeAt Try.f25 4) (st25_4 x0 x1 ((IntKind.i64.wrap (x2 + 1))))))))) (.leaf (res25 0) (bo25 0))) (by kernel_rfl) ?_
      refine ⟨fun c => ?_, fun c => ?_⟩
      · rw [cond_t c] at h
        by_cases q : ((0 : Int) ≤ x2) ∧ (x2 < (↑x0.length : Int))
        · rw [if_pos q] at h
          refine ⟨(conjC q.1 (conjC q.2 conj0)), ?_⟩
          refine ⟨fun c => ?_, fun c => ?_⟩
          · rw [cond_t c] at h
            cases h; exact ⟨rfl, rfl⟩
          · rw [cond_f c] at h
            refine ⟨fun c => ?_, fun c => ?_⟩
            · rw [cond_t c] at h
              cases h; exact ⟨rfl, rfl⟩
            · rw [cond_f c] at h
              refine ⟨fun c => ?_, fun c => ?_⟩
              · rw [cond_t c] at h
                cases h; exact ⟨rfl, rfl⟩
              · rw [cond_f c] at h
                exact ih x0 x1 ((IntKind.i64.wrap (x2 + 1))) _ h
        · rw [if_neg q] at h; cases h
      · rw [cond_f c] at h
        cases h; exact ⟨rfl, rfl⟩
theorem of25 (k : Nat) (l_ : List (t36).T) (r : R25) (h : f25 k l_ = some r) : CC Try.prog 25 (args25 l_) [] (res25 r) (bo25 r) := by
  refine CC.of (fn := Try.f25) (by kernel_rfl) (by kernel_rfl) (by kernel_rfl) (by kernel_rfl) ?_
  unfold f25 at h
  refine Ev.tree hm (R := Rt) (K := (K25 k)) (l := []) (C := [(4, [.auto [8, 9, 10] false])]) (E := [.auto [2] true]) (n := 1000) (T := .test ((decide ((↑l_.length : Int) > (512 : Int)))) (.leaf (res25 8) (bo25 8)) (.cut 4 (placeAt Try.f25 4) (st25_4 l_ ((↑l_.length : Int)) 0))) (by kernel_rfl) ?_
  refine ⟨fun c => ?_, fun c => ?_⟩
  · rw [cond_t c] at h
    cases h; exact ⟨rfl, rfl⟩
  · rw [cond_f c] at h
    exact (ev25 k k) l_ ((↑l_.length : Int)) 0 _ h
theorem cc25 (k : Nat) (l_ : List (t36).T) (h : (f25 k l_).isSome = true) : CC Try.prog 25 (args25 l_) [] (res25 (v25 k l_)) (bo25 (v25 k l_)) := by
  cases e : f25 k l_ with
  | none => rw [e] at h; cases h
  | some r => rw [show v25 k l_ = r by simp [v25, e]]; exact of25 k l_ r e

end
end Go.AM
namespace Go.AM
open Go Go.Proofs
set_option linter.unusedVariables false
noncomputable section
/-! ### function 13: papermill/release.Missing -/
def K13 (k : Nat) : Calld := ⟨fun g => match g with
  | 8 => some [false, false]
  | 25 => some [false]
  | _ => none, fun g xs _ => match g with
  | 8 => match xs with
    | [.agg q0, .agg q1] => (decS [] t23 q0).bind fun o_ => (decS [] t25 q1).bind fun f_ => some (res8 (v8 k o_ f_), bo8 (v8 k o_ f_))
    | _ => none
  | 25 => match xs with
    | [.r (.ro t0_ q0)] => (castL t0_ t36 q0).bind fun l_ => some (res25 (v25 k l_), bo25 (v25 k l_))
    | _ => none
  | _ => none⟩
abbrev R13 : Type := Int × List (I).T
def res13 (r : R13) : AV := .tup [.own 0 0, .r (.v (.int .i64 r.1))]
def bo13 (r : R13) : List (Nat × Blk) := [(0, .row 3 I r.2)]
def st13_9 (x0 : Int) (x1 : List (t36).T) (x2 : Int) (x3 : Int) (x4 : List (I).T) (x5 : List ((I).T × (RTy.bool).T)) : St := ⟨mkS 64 [(2, .r (.v (.int .i64 x0))), (10, .own 1000000 0), (13, .own 1000001 0), (34, .r (.ro t36 x1)), (35, .r (.v (.int .i64 x2))), (36, .r (.v (.int .i64 x3)))], [(1000000, 0, .row 3 I x4), (1000001, 0, .map false I RTy.bool x5)]⟩
def st13_16 (x0 : Int) (x1 : Int) (x2 : List ((I).T × (RTy.bool).T)) (x3 : List (I).T) (x4 : List (I).T) : St := ⟨mkS 64 [(13, .own 1000000 0), (16, .own 1000001 0), (48, .own 1000002 0), (49, .r (.v (.int .i64 x0))), (50, .r (.v (.int .i64 x1)))], [(1000000, 0, .map false I RTy.bool x2), (1000001, 0, .row 3 I x3), (1000002, 0, .row 3 I x4)]⟩
mutual
def f13_9 (k : Nat) : Nat → Int → List (t36).T → Int → Int → List (I).T → List ((I).T × (RTy.bool).T) → Option R13
  | 0, _, _, _, _, _, _ => none
  | j + 1, x0, x1, x2, x3, x4, x5 =>
    bif (decide (x3 < x2)) then
      if ((0 : Int) ≤ x3) ∧ (x3 < (↑x1.length : Int)) then
        bif ((x1.getD x3.toNat t36.dflt).fst == x0) then
          f13_9 k j x0 x1 x2 ((IntKind.i64.wrap (x3 + 1))) x4 ((mset I (x1.getD x3.toNat t36.dflt).snd.fst true x5))
        else
          f13_9 k j x0 x1 x2 ((IntKind.i64.wrap (x3 + 1))) x4 x5
      else none
    else
      f13_16 k j ((↑x4.length : Int)) 0 x5 ([]) x4
def f13_16 (k : Nat) : Nat → Int → Int → List ((I).T × (RTy.bool).T) → List (I).T → List (I).T → Option R13
  | 0, _, _, _, _, _ => none
  | j + 1, x0, x1, x2, x3, x4 =>
    bif (decide (x1 < x0)) then
      if ((0 : Int) ≤ x1) ∧ (x1 < (↑x4.length : Int)) then
        bif (! (mget I (x4.getD x1.toNat I.dflt) x2).getD false) then
          if ((x3.length + [x4.getD x1.toNat I.dflt].length) * (8 : Nat) ≤ (140737488355328 : Nat)) then
            f13_16 k j x0 ((IntKind.i64.wrap (x1 + 1))) x2 ((x3 ++ [x4.getD x1.toNat I.dflt])) x4
          else none
        else
          f13_16 k j x0 ((IntKind.i64.wrap (x1 + 1))) x2 x3 x4
      else none
    else
      some ((0, x3))
end
def f13 (k : Nat) (o_ : t23.T) (f_ : t25.T) (roll_ : Int) (l_ : List (t36).T) : Option R13 :=
  if ((f8 k o_ f_).isSome = true) then
    bif ((v8 k o_ f_).fst != (0 : Int)) then
      some (((v8 k o_ f_).fst, []))
    else
      if ((f25 k l_).isSome = true) then
        bif (v25 k l_ != (0 : Int)) then
          some ((v25 k l_, []))
        else
          f13_9 k k roll_ l_ ((↑l_.length : Int)) 0 ((v8 k o_ f_).snd) ([])
      else none
  else none
def args13 (o_ : t23.T) (f_ : t25.T) (roll_ : Int) (l_ : List (t36).T) : List AV := [.agg (rvs (enc t23 o_)), .agg (rvs (enc t25 f_)), .r (.v (.int .i64 roll_)), .r (.ro t36 l_)]
def v13 (k : Nat) (o_ : t23.T) (f_ : t25.T) (roll_ : Int) (l_ : List (t36).T) : R13 := (f13 k o_ f_ roll_ l_).getD (0, [])
theorem ev13 (k : Nat) : ∀ j, (∀ (x0 : Int) (x1 : List (t36).T) (x2 : Int) (x3 : Int) (x4 : List (I).T) (x5 : List ((I).T × (RTy.bool).T)) (r : R13), f13_9 k j x0 x1 x2 x3 x4 x5 = some r → Ev Try.prog Try.f13 0 (placeAt Try.f13 9) (st13_9 x0 x1 x2 x3 x4 x5) (res13 r) (bo13 r)) ∧ (∀ (x0 : Int) (x1 : Int) (x2 : List ((I).T × (RTy.bool).T)) (x3 : List (I).T) (x4 : List (I).T) (r : R13), f13_16 k j x0 x1 x2 x3 x4 = some r → Ev Try.prog Try.f13 0 (placeAt Try.f13 16) (st13_16 x0 x1 x2 x3 x4) (res13 r) (bo13 r))
  | 0 => by
    refine ⟨?_, ?_⟩ <;> intros <;> rename_i h <;> simp [f13_9, f13_16] at h
  | j + 1 => by
    have ih := ev13 k j
    refine ⟨?_, ?_⟩
    · intro x0 x1 x2 x3 x4 x5 r h
      rw [f13_9] at h
      refine Ev.tree hm (R := Rt) (K := (K13 k)) (l := []) (C := [(9, [.auto [2, 10, 13, 34, 35, 36] false]), (16, [.row 16 3 I, .auto [13, 16, 48, 49, 50] false])]) (E := [.row 8 3 I, .auto [8, 9] true]) (n := 1000) (T := .test ((decide (x3 < x2))) (.need [(0 : Int) ≤ x3, x3 < (↑x1.length : Int)] (.test (((x1.getD x3.toNat t36.dflt).fst == x0)) (.cut 9 (placeAt Try.f13 9) (st13_9 x0 x1 x2 ((IntKind.i64.wrap (x3 + 1))) x4 ((mset I (x1.getD x3.toNat t36.dflt).snd.fst true x5)))) (.cut 9 (placeAt Try.f13 9) (st13_9 x0 x1 x2 ((IntKind.i64.wrap (x3 + 1))) x4 x5)))) (.cut 16 (placeAt Try.f13 16) (st13_16 ((↑x4.length : Int)) 0 x5 ([]) x4))) (by kernel_rfl) ?_
      refine ⟨fun c => ?_, fun c => ?_⟩
      · rw [cond_t c] at h
        by_cases q : ((0 : Int) ≤ x3) ∧ (x3 < (↑x1.length : Int))
        · rw [if_pos q] at h
          refine ⟨(conjC q.1 (conjC q.2 conj0)), ?_⟩
          refine ⟨fun c => ?_, fun c => ?_⟩
          · rw [cond_t c] at h
            exact ih.1 x0 x1 x2 ((IntKind.i64.wrap (x3 + 1))) x4 ((mset I (x1.getD x3.toNat t36.dflt).snd.fst true x5)) _ h
          · rw [cond_f c] at h
            exact ih.1 x0 x1 x2 ((IntKind.i64.wrap (x3 + 1))) x4 x5 _ h
        · rw [if_neg q] at h; cases h
      · rw [cond_f c] at h
        exact ih.2 ((↑x4.length : Int)) 0 x5 ([]) x4 _ h
    · intro x0 x1 x2 x3 x4 r h
      rw [f13_16] at h
      refine Ev.tree hm (R := Rt) (K := (K13 k)) (l := []) (C := [(9, [.auto [2, 10, 13, 34, 35, 36] false]), (16, [.row 16 3 I, .auto [13, 16, 48, 49, 50] false])]) (E := [.row 8 3 I, .auto [8, 9] true]) (n := 1000) (T := .test ((decide (x1 < x0))) (.need [(0 : Int) ≤ x1, x1 < (↑x4.length : Int)] (.test ((! (mget I (x4.getD x1.toNat I.dflt) x2).getD false)) (.need [(x3.length + [x4.getD x1.toNat I.dflt].length) * (8 : Nat) ≤ (140737488355328 : Nat)] (.cut 16 (placeAt Try.f13 16) (st13_16 x0 ((IntKind.i64.wrap (x1 + 1))) x2 ((x3 ++ [x4.getD x1.toNat I.dflt])) x4))) (.cut 16 (placeAt Try.f13 16) (st13_16 x0 ((IntKind.i64.wrap (x1 + 1))) x2 x3 x4)))) (.leaf (res13 ((0, x3))) (bo13 ((0, x3))))) (by kernel_rfl) ?_
      refine ⟨fun c => ?_, fun c => ?_⟩
      · rw [cond_t c] at h
        by_cases q : ((0 : Int) ≤ x1) ∧ (x1 < (↑x4.length : Int))
        · rw [if_pos q] at h
          refine ⟨(conjC q.1 (conjC q.2 conj0)), ?_⟩
          refine ⟨fun c => ?_, fun c => ?_⟩
          · rw [cond_t c] at h
            by_cases q : ((x3.length + [x4.getD x1.toNat I.dflt].length) * (8 : Nat) ≤ (140737488355328 : Nat))
            · rw [if_pos q] at h
              refine ⟨(conjC q conj0), ?_⟩
              exact ih.2 x0 ((IntKind.i64.wrap (x1 + 1))) x2 ((x3 ++ [x4.getD x1.toNat I.dflt])) x4 _ h
            · rw [if_neg q] at h; cases h
          · rw [cond_f c] at h
            exact ih.2 x0 ((IntKind.i64.wrap (x1 + 1))) x2 x3 x4 _ h
        · rw [if_neg q] at h; cases h
      · rw [cond_f c] at h
        cases h; exact ⟨rfl, rfl⟩
theorem of13 (k : Nat) (o_ : t23.T) (f_ : t25.T) (roll_ : Int) (l_ : List (t36).T) (r : R13) (h : f13 k o_ f_ roll_ l_ = some r) : CC Try.prog 13 (args13 o_ f_ roll_ l_) [] (res13 r) (bo13 r) := by
  refine CC.of (fn := Try.f13) (by kernel_rfl) (by kernel_rfl) (by kernel_rfl) (by kernel_rfl) ?_
  unfold f13 at h
  refine Ev.tree hm (R := Rt) (K := (K13 k)) (l := []) (C := [(9, [.auto [2, 10, 13, 34, 35, 36] false]), (16, [.row 16 3 I, .auto [13, 16, 48, 49, 50] false])]) (E := [.row 8 3 I, .auto [8, 9] true]) (n := 1000) (T := .need [CC Try.prog 8 (args8 o_ f_) [] (res8 (v8 k o_ f_)) (bo8 (v8 k o_ f_))] (.test (((v8 k o_ f_).fst != (0 : Int))) (.leaf (res13 (((v8 k o_ f_).fst, []))) (bo13 (((v8 k o_ f_).fst, [])))) (.need [CC Try.prog 25 (args25 l_) [] (res25 (v25 k l_)) (bo25 (v25 k l_))] (.test ((v25 k l_ != (0 : Int))) (.leaf (res13 ((v25 k l_, []))) (bo13 ((v25 k l_, [])))) (.cut 9 (placeAt Try.f13 9) (st13_9 roll_ l_ ((↑l_.length : Int)) 0 ((v8 k o_ f_).snd) ([]))))))) (by kernel_rfl) ?_
  by_cases q : ((f8 k o_ f_).isSome = true)
  · rw [if_pos q] at h
    refine ⟨(conjC (cc8 k o_ f_ q) conj0), ?_⟩
    refine ⟨fun c => ?_, fun c => ?_⟩
    · rw [cond_t c] at h
      cases h; exact ⟨rfl, rfl⟩
    · rw [cond_f c] at h
      by_cases q : ((f25 k l_).isSome = true)
      · rw [if_pos q] at h
        refine ⟨(conjC (cc25 k l_ q) conj0), ?_⟩
        refine ⟨fun c => ?_, fun c => ?_⟩
        · rw [cond_t c] at h
          cases h; exact ⟨rfl, rfl⟩
        · rw [cond_f c] at h
          exact (ev13 k k).1 roll_ l_ ((↑l_.length : Int)) 0 ((v8 k o_ f_).snd) ([]) _ h
      · rw [if_neg q] at h; cases h
  · rw [if_neg q] at h; cases h
theorem cc13 (k : Nat) (o_ : t23.T) (f_ : t25.T) (roll_ : Int) (l_ : List (t36).T) (h : (f13 k o_ f_ roll_ l_).isSome = true) : CC Try.prog 13 (args13 o_ f_ roll_ l_) [] (res13 (v13 k o_ f_ roll_ l_)) (bo13 (v13 k o_ f_ roll_ l_)) := by
  cases e : f13 k o_ f_ roll_ l_ with
  | none => rw [e] at h; cases h
  | some r => rw [show v13 k o_ f_ roll_ l_ = r by simp [v13, e]]; exact of13 k o_ f_ roll_ l_ r e

end
end Go.AM
namespace Go.AM
open Go Go.Proofs
set_option linter.unusedVariables false
noncomputable section
/-! ### function 9: papermill/release.Release -/
def K9 (k : Nat) : Calld := ⟨fun g => match g with
  | 13 => some [false, false, false, false]
  | _ => none, fun g xs _ => match g with
  | 13 => match xs with
    | [.agg q0, .agg q1, .r (.v (.int .i64 roll_)), .r (.ro t3_ q3)] => (decS [] t23 q0).bind fun o_ => (decS [] t25 q1).bind fun f_ => (castL t3_ t36 q3).bind fun l_ => some (res13 (v13 k o_ f_ roll_ l_), bo13 (v13 k o_ f_ roll_ l_))
    | _ => none
  | _ => none⟩
abbrev R9 : Type := Int
def res9 (r : R9) : AV := .r (.v (.int .i64 r))
def bo9 (r : R9) : List (Nat × Blk) := []
def f9 (k : Nat) (o_ : t23.T) (f_ : t25.T) (roll_ : Int) (l_ : List (t36).T) : Option R9 :=
  if ((f13 k o_ f_ roll_ l_).isSome = true) then
    bif ((v13 k o_ f_ roll_ l_).fst != (0 : Int)) then
      some ((v13 k o_ f_ roll_ l_).fst)
    else
      bif (decide ((↑ (v13 k o_ f_ roll_ l_).snd.length : Int) > (0 : Int))) then
        some 31
      else
        some 0
  else none
def args9 (o_ : t23.T) (f_ : t25.T) (roll_ : Int) (l_ : List (t36).T) : List AV := [.agg (rvs (enc t23 o_)), .agg (rvs (enc t25 f_)), .r (.v (.int .i64 roll_)), .r (.ro t36 l_)]
def v9 (k : Nat) (o_ : t23.T) (f_ : t25.T) (roll_ : Int) (l_ : List (t36).T) : R9 := (f9 k o_ f_ roll_ l_).getD 0
theorem of9 (k : Nat) (o_ : t23.T) (f_ : t25.T) (roll_ : Int) (l_ : List (t36).T) (r : R9) (h : f9 k o_ f_ roll_ l_ = some r) : CC Try.prog 9 (args9 o_ f_ roll_ l_) [] (res9 r) (bo9 r) := by
  refine CC.of (fn := Try.f9) (by kernel_rfl) (by kernel_rfl) (by kernel_rfl) (by kernel_rfl) ?_
  unfold f9 at h
  refine Ev.tree hm (R := Rt) (K := (K9 k)) (l := []) (C := []) (E := [.auto [8] true]) (n := 1000) (T := .need [CC Try.prog 13 (args13 o_ f_ roll_ l_) [] (res13 (v13 k o_ f_ roll_ l_)) (bo13 (v13 k o_ f_ roll_ l_))] (.test (((v13 k o_ f_ roll_ l_).fst != (0 : Int))) (.leaf (res9 ((v13 k o_ f_ roll_ l_).fst)) (bo9 ((v13 k o_ f_ roll_ l_).fst))) (.test ((decide ((↑ (v13 k o_ f_ roll_ l_).snd.length : Int) > (0 : Int)))) (.leaf (res9 31) (bo9 31)) (.leaf (res9 0) (bo9 0))))) (by kernel_rfl) ?_
  by_cases q : ((f13 k o_ f_ roll_ l_).isSome = true)
  · rw [if_pos q] at h
    refine ⟨(conjC (cc13 k o_ f_ roll_ l_ q) conj0), ?_⟩
    refine ⟨fun c => ?_, fun c => ?_⟩
    · rw [cond_t c] at h
      cases h; exact ⟨rfl, rfl⟩
    · rw [cond_f c] at h
      refine ⟨fun c => ?_, fun c => ?_⟩
      · rw [cond_t c] at h
        cases h; exact ⟨rfl, rfl⟩
      · rw [cond_f c] at h
        cases h; exact ⟨rfl, rfl⟩
  · rw [if_neg q] at h; cases h
theorem cc9 (k : Nat) (o_ : t23.T) (f_ : t25.T) (roll_ : Int) (l_ : List (t36).T) (h : (f9 k o_ f_ roll_ l_).isSome = true) : CC Try.prog 9 (args9 o_ f_ roll_ l_) [] (res9 (v9 k o_ f_ roll_ l_)) (bo9 (v9 k o_ f_ roll_ l_)) := by
  cases e : f9 k o_ f_ roll_ l_ with
  | none => rw [e] at h; cases h
  | some r => rw [show v9 k o_ f_ roll_ l_ = r by simp [v9, e]]; exact of9 k o_ f_ roll_ l_ r e

end
end Go.AM
namespace Go.AM
open Go Go.Proofs
set_option linter.unusedVariables false
noncomputable section
/-! ### function 23: papermill/papermilllaw55.order -/
def K23 (k : Nat) : Calld := ⟨fun g => match g with
  | _ => none, fun g xs _ => match g with
  | _ => none⟩
abbrev R23 : Type := Int × Int × Int × Int × Int × Int × Int × Int × Int × Int × Int × Int
def res23 (r : R23) : AV := .agg [.r (.v (.int .i64 r.1)), .r (.v (.int .i64 r.2.1)), .r (.v (.int .i64 r.2.2.1)), .r (.v (.int .i64 r.2.2.2.1)), .r (.v (.int .i64 r.2.2.2.2.1)), .r (.v (.int .i64 r.2.2.2.2.2.1)), .r (.v (.int .i64 r.2.2.2.2.2.2.1)), .r (.v (.int .i64 r.2.2.2.2.2.2.2.1)), .r (.v (.int .i64 r.2.2.2.2.2.2.2.2.1)), .r (.v (.int .i64 r.2.2.2.2.2.2.2.2.2.1)), .r (.v (.int .i64 r.2.2.2.2.2.2.2.2.2.2.1)), .r (.v (.int .i64 r.2.2.2.2.2.2.2.2.2.2.2))]
def bo23 (r : R23) : List (Nat × Blk) := []
def f23 (k : Nat)  : Option R23 :=
  some ((1, 0, 200, 100, 120, 20, 1, 0, 0, 0, 5, 0))
def args23  : List AV := []
def v23 (k : Nat)  : R23 := (f23 k ).getD (0, 0, 0, 0, 0, 0, 0, 0, 0, 0, 0, 0)
theorem of23 (k : Nat)  (r : R23) (h : f23 k  = some r) : CC Try.prog 23 (args23 ) [] (res23 r) (bo23 r) := by
  refine CC.of (fn := Try.f23) (by kernel_rfl) (by kernel_rfl) (by kernel_rfl) (by kernel_rfl) ?_
  unfold f23 at h
  refine Ev.tree hm (R := Rt) (K := (K23 k)) (l := []) (C := []) (E := [.auto [0] true]) (n := 1000) (T := .leaf (res23 ((1, 0, 200, 100, 120, 20, 1, 0, 0, 0, 5, 0))) (bo23 ((1, 0, 200, 100, 120, 20, 1, 0, 0, 0, 5, 0)))) (by kernel_rfl) ?_
  cases h; exact ⟨rfl, rfl⟩
theorem cc23 (k : Nat)  (h : (f23 k ).isSome = true) : CC Try.prog 23 (args23 ) [] (res23 (v23 k )) (bo23 (v23 k )) := by
  cases e : f23 k  with
  | none => rw [e] at h; cases h
  | some r => rw [show v23 k  = r by simp [v23, e]]; exact of23 k  r e

end
end Go.AM
namespace Go.AM
open Go Go.Proofs
set_option linter.unusedVariables false
noncomputable section
/-! ### function 10: papermill/papermilllaw55.awake -/
def K10 (k : Nat) : Calld := ⟨fun g => match g with
  | 8 => some [false, false]
  | 13 => some [false, false, false, false]
  | 9 => some [false, false, false, false]
  | 23 => some []
  | _ => none, fun g xs _ => match g with
  | 8 => match xs with
    | [.agg q0, .agg q1] => (decS [] t23 q0).bind fun o_ => (decS [] t25 q1).bind fun f_ => some (res8 (v8 k o_ f_), bo8 (v8 k o_ f_))
    | _ => none
  | 13 => match xs with
    | [.agg q0, .agg q1, .r (.v (.int .i64 roll_)), .r (.ro t3_ q3)] => (decS [] t23 q0).bind fun o_ => (decS [] t25 q1).bind fun f_ => (castL t3_ t36 q3).bind fun l_ => some (res13 (v13 k o_ f_ roll_ l_), bo13 (v13 k o_ f_ roll_ l_))
    | _ => none
  | 9 => match xs with
    | [.agg q0, .agg q1, .r (.v (.int .i64 roll_)), .r (.ro t3_ q3)] => (decS [] t23 q0).bind fun o_ => (decS [] t25 q1).bind fun f_ => (castL t3_ t36 q3).bind fun l_ => some (res9 (v9 k o_ f_ roll_ l_), bo9 (v9 k o_ f_ roll_ l_))
    | _ => none
  | 23 => match xs with
    | [] => some (res23 (v23 k ), bo23 (v23 k ))
    | _ => none
  | _ => none⟩
abbrev R10 : Type := Bool
def res10 (r : R10) : AV := .r (.v (.bool r))
def bo10 (r : R10) : List (Nat × Blk) := []
def f10 (k : Nat)  : Option R10 :=
  if ((f23 k ).isSome = true) ∧ ((f8 k (v23 k) (0, true, 200, 101, 1, 0)).isSome = true) then
    if ((f23 k ).isSome = true) ∧ ((f13 k (v23 k) (0, true, 200, 101, 1, 0) 2 [(2, 5, 0)]).isSome = true) then
      bif ((v8 k (v23 k) ((0 : Int), true, (200 : Int), (101 : Int), (1 : Int), (0 : Int))).fst == (0 : Int) && (v13 k (v23 k) ((0 : Int), true, (200 : Int), (101 : Int), (1 : Int), (0 : Int)) (2 : Int) [((2 : Int), (5 : Int), (0 : Int))]).fst == (0 : Int) && (↑ (v8 k (v23 k) ((0 : Int), true, (200 : Int), (101 : Int), (1 : Int), (0 : Int))).snd.length : Int) == (1 : Int) && (v8 k (v23 k) ((0 : Int), true, (200 : Int), (101 : Int), (1 : Int), (0 : Int))).snd.getD (Int.toNat (0 : Int)) I.dflt == (5 : Int) && (↑ (v13 k (v23 k) ((0 : Int), true, (200 : Int), (101 : Int), (1 : Int), (0 : Int)) (2 : Int) [((2 : Int), (5 : Int), (0 : Int))]).snd.length : Int) == (0 : Int)) then
        bif (true && v9 k (v23 k) ((0 : Int), true, (200 : Int), (101 : Int), (1 : Int), (0 : Int)) (2 : Int) [((2 : Int), (5 : Int), (0 : Int))] == (0 : Int)) then
          if (((v8 k (v23 k) ((0 : Int), true, (200 : Int), (101 : Int), (1 : Int), (0 : Int))).fst == (0 : Int) && (v13 k (v23 k) ((0 : Int), true, (200 : Int), (101 : Int), (1 : Int), (0 : Int)) (2 : Int) [((2 : Int), (5 : Int), (0 : Int))]).fst == (0 : Int) && (↑ (v8 k (v23 k) ((0 : Int), true, (200 : Int), (101 : Int), (1 : Int), (0 : Int))).snd.length : Int) == (1 : Int)) = true → (0 : Int) ≤ (0 : Int)) ∧ (((v8 k (v23 k) ((0 : Int), true, (200 : Int), (101 : Int), (1 : Int), (0 : Int))).fst == (0 : Int) && (v13 k (v23 k) ((0 : Int), true, (200 : Int), (101 : Int), (1 : Int), (0 : Int)) (2 : Int) [((2 : Int), (5 : Int), (0 : Int))]).fst == (0 : Int) && (↑ (v8 k (v23 k) ((0 : Int), true, (200 : Int), (101 : Int), (1 : Int), (0 : Int))).snd.length : Int) == (1 : Int)) = true → (0 : Int) < (↑ (v8 k (v23 k) ((0 : Int), true, (200 : Int), (101 : Int), (1 : Int), (0 : Int))).snd.length : Int)) ∧ (((v8 k (v23 k) ((0 : Int), true, (200 : Int), (101 : Int), (1 : Int), (0 : Int))).fst == (0 : Int) && (v13 k (v23 k) ((0 : Int), true, (200 : Int), (101 : Int), (1 : Int), (0 : Int)) (2 : Int) [((2 : Int), (5 : Int), (0 : Int))]).fst == (0 : Int) && (↑ (v8 k (v23 k) ((0 : Int), true, (200 : Int), (101 : Int), (1 : Int), (0 : Int))).snd.length : Int) == (1 : Int) && (v8 k (v23 k) ((0 : Int), true, (200 : Int), (101 : Int), (1 : Int), (0 : Int))).snd.getD (Int.toNat (0 : Int)) I.dflt == (5 : Int) && (↑ (v13 k (v23 k) ((0 : Int), true, (200 : Int), (101 : Int), (1 : Int), (0 : Int)) (2 : Int) [((2 : Int), (5 : Int), (0 : Int))]).snd.length : Int) == (0 : Int)) = true) ∧ ((f23 k ).isSome = true) ∧ ((f9 k (v23 k) (0, true, 200, 101, 1, 0) 2 [(2, 5, 0)]).isSome = true) ∧ ((true && v9 k (v23 k) ((0 : Int), true, (200 : Int), (101 : Int), (1 : Int), (0 : Int)) (2 : Int) [((2 : Int), (5 : Int), (0 : Int))] == (0 : Int)) = true) ∧ ((f23 k ).isSome = true) ∧ ((f9 k (v23 k) (0, true, 200, 101, 1, 0) 3 [(2, 5, 0)]).isSome = true) then
            some (true && v9 k (v23 k) (0, true, 200, 101, 1, 0) 3 [(2, 5, 0)] == 31)
          else none
        else
          if (((v8 k (v23 k) ((0 : Int), true, (200 : Int), (101 : Int), (1 : Int), (0 : Int))).fst == (0 : Int) && (v13 k (v23 k) ((0 : Int), true, (200 : Int), (101 : Int), (1 : Int), (0 : Int)) (2 : Int) [((2 : Int), (5 : Int), (0 : Int))]).fst == (0 : Int) && (↑ (v8 k (v23 k) ((0 : Int), true, (200 : Int), (101 : Int), (1 : Int), (0 : Int))).snd.length : Int) == (1 : Int)) = true → (0 : Int) ≤ (0 : Int)) ∧ (((v8 k (v23 k) ((0 : Int), true, (200 : Int), (101 : Int), (1 : Int), (0 : Int))).fst == (0 : Int) && (v13 k (v23 k) ((0 : Int), true, (200 : Int), (101 : Int), (1 : Int), (0 : Int)) (2 : Int) [((2 : Int), (5 : Int), (0 : Int))]).fst == (0 : Int) && (↑ (v8 k (v23 k) ((0 : Int), true, (200 : Int), (101 : Int), (1 : Int), (0 : Int))).snd.length : Int) == (1 : Int)) = true → (0 : Int) < (↑ (v8 k (v23 k) ((0 : Int), true, (200 : Int), (101 : Int), (1 : Int), (0 : Int))).snd.length : Int)) ∧ (((v8 k (v23 k) ((0 : Int), true, (200 : Int), (101 : Int), (1 : Int), (0 : Int))).fst == (0 : Int) && (v13 k (v23 k) ((0 : Int), true, (200 : Int), (101 : Int), (1 : Int), (0 : Int)) (2 : Int) [((2 : Int), (5 : Int), (0 : Int))]).fst == (0 : Int) && (↑ (v8 k (v23 k) ((0 : Int), true, (200 : Int), (101 : Int), (1 : Int), (0 : Int))).snd.length : Int) == (1 : Int) && (v8 k (v23 k) ((0 : Int), true, (200 : Int), (101 : Int), (1 : Int), (0 : Int))).snd.getD (Int.toNat (0 : Int)) I.dflt == (5 : Int) && (↑ (v13 k (v23 k) ((0 : Int), true, (200 : Int), (101 : Int), (1 : Int), (0 : Int)) (2 : Int) [((2 : Int), (5 : Int), (0 : Int))]).snd.length : Int) == (0 : Int)) = true) ∧ ((f23 k ).isSome = true) ∧ ((f9 k (v23 k) (0, true, 200, 101, 1, 0) 2 [(2, 5, 0)]).isSome = true) ∧ ((true && v9 k (v23 k) ((0 : Int), true, (200 : Int), (101 : Int), (1 : Int), (0 : Int)) (2 : Int) [((2 : Int), (5 : Int), (0 : Int))] == (0 : Int)) = false) then
            some false
          else none
      else
        if (((v8 k (v23 k) ((0 : Int), true, (200 : Int), (101 : Int), (1 : Int), (0 : Int))).fst == (0 : Int) && (v13 k (v23 k) ((0 : Int), true, (200 : Int), (101 : Int), (1 : Int), (0 : Int)) (2 : Int) [((2 : Int), (5 : Int), (0 : Int))]).fst == (0 : Int) && (↑ (v8 k (v23 k) ((0 : Int), true, (200 : Int), (101 : Int), (1 : Int), (0 : Int))).snd.length : Int) == (1 : Int)) = true → (0 : Int) ≤ (0 : Int)) ∧ (((v8 k (v23 k) ((0 : Int), true, (200 : Int), (101 : Int), (1 : Int), (0 : Int))).fst == (0 : Int) && (v13 k (v23 k) ((0 : Int), true, (200 : Int), (101 : Int), (1 : Int), (0 : Int)) (2 : Int) [((2 : Int), (5 : Int), (0 : Int))]).fst == (0 : Int) && (↑ (v8 k (v23 k) ((0 : Int), true, (200 : Int), (101 : Int), (1 : Int), (0 : Int))).snd.length : Int) == (1 : Int)) = true → (0 : Int) < (↑ (v8 k (v23 k) ((0 : Int), true, (200 : Int), (101 : Int), (1 : Int), (0 : Int))).snd.length : Int)) ∧ (((v8 k (v23 k) ((0 : Int), true, (200 : Int), (101 : Int), (1 : Int), (0 : Int))).fst == (0 : Int) && (v13 k (v23 k) ((0 : Int), true, (200 : Int), (101 : Int), (1 : Int), (0 : Int)) (2 : Int) [((2 : Int), (5 : Int), (0 : Int))]).fst == (0 : Int) && (↑ (v8 k (v23 k) ((0 : Int), true, (200 : Int), (101 : Int), (1 : Int), (0 : Int))).snd.length : Int) == (1 : Int) && (v8 k (v23 k) ((0 : Int), true, (200 : Int), (101 : Int), (1 : Int), (0 : Int))).snd.getD (Int.toNat (0 : Int)) I.dflt == (5 : Int) && (↑ (v13 k (v23 k) ((0 : Int), true, (200 : Int), (101 : Int), (1 : Int), (0 : Int)) (2 : Int) [((2 : Int), (5 : Int), (0 : Int))]).snd.length : Int) == (0 : Int)) = false) ∧ (false = false) then
          some false
        else none
    else none
  else none
def args10  : List AV := []
def v10 (k : Nat)  : R10 := (f10 k ).getD false
theorem of10 (k : Nat)  (r : R10) (h : f10 k  = some r) : CC Try.prog 10 (args10 ) [] (res10 r) (bo10 r) := by
  refine CC.of (fn := Try.f10) (by kernel_rfl) (by kernel_rfl) (by kernel_rfl) (by kernel_rfl) ?_
  unfold f10 at h
  refine Ev.tree hm (R := Rt) (K := (K10 k)) (l := []) (C := []) (E := [.auto [0] true]) (n := 1000) (T := .need [CC Try.prog 23 (args23 ) [] (res23 (v23 k )) (bo23 (v23 k )), CC Try.prog 8 (args8 (v23 k) (0, true, 200, 101, 1, 0)) [] (res8 (v8 k (v23 k) (0, true, 200, 101, 1, 0))) (bo8 (v8 k (v23 k) (0, true, 200, 101, 1, 0)))] (.need [CC Try.prog 23 (args23 ) [] (res23 (v23 k )) (bo23 (v23 k )), CC Try.prog 13 (args13 (v23 k) (0, true, 200, 101, 1, 0) 2 [(2, 5, 0)]) [] (res13 (v13 k (v23 k) (0, true, 200, 101, 1, 0) 2 [(2, 5, 0)])) (bo13 (v13 k (v23 k) (0, true, 200, 101, 1, 0) 2 [(2, 5, 0)]))] (.test (((v8 k (v23 k) ((0 : Int), true, (200 : Int), (101 : Int), (1 : Int), (0 : Int))).fst == (0 : Int) && (v13 k (v23 k) ((0 : Int), true, (200 : Int), (101 : Int), (1 : Int), (0 : Int)) (2 : Int) [((2 : Int), (5 : Int), (0 : Int))]).fst == (0 : Int) && (↑ (v8 k (v23 k) ((0 : Int), true, (200 : Int), (101 : Int), (1 : Int), (0 : Int))).snd.length : Int) == (1 : Int) && (v8 k (v23 k) ((0 : Int), true, (200 : Int), (101 : Int), (1 : Int), (0 : Int))).snd.getD (Int.toNat (0 : Int)) I.dflt == (5 : Int) && (↑ (v13 k (v23 k) ((0 : Int), true, (200 : Int), (101 : Int), (1 : Int), (0 : Int)) (2 : Int) [((2 : Int), (5 : Int), (0 : Int))]).snd.length : Int) == (0 : Int))) (.test ((true && v9 k (v23 k) ((0 : Int), true, (200 : Int), (101 : Int), (1 : Int), (0 : Int)) (2 : Int) [((2 : Int), (5 : Int), (0 : Int))] == (0 : Int))) (.need [((v8 k (v23 k) ((0 : Int), true, (200 : Int), (101 : Int), (1 : Int), (0 : Int))).fst == (0 : Int) && (v13 k (v23 k) ((0 : Int), true, (200 : Int), (101 : Int), (1 : Int), (0 : Int)) (2 : Int) [((2 : Int), (5 : Int), (0 : Int))]).fst == (0 : Int) && (↑ (v8 k (v23 k) ((0 : Int), true, (200 : Int), (101 : Int), (1 : Int), (0 : Int))).snd.length : Int) == (1 : Int)) = true → (0 : Int) ≤ (0 : Int), ((v8 k (v23 k) ((0 : Int), true, (200 : Int), (101 : Int), (1 : Int), (0 : Int))).fst == (0 : Int) && (v13 k (v23 k) ((0 : Int), true, (200 : Int), (101 : Int), (1 : Int), (0 : Int)) (2 : Int) [((2 : Int), (5 : Int), (0 : Int))]).fst == (0 : Int) && (↑ (v8 k (v23 k) ((0 : Int), true, (200 : Int), (101 : Int), (1 : Int), (0 : Int))).snd.length : Int) == (1 : Int)) = true → (0 : Int) < (↑ (v8 k (v23 k) ((0 : Int), true, (200 : Int), (101 : Int), (1 : Int), (0 : Int))).snd.length : Int), ((v8 k (v23 k) ((0 : Int), true, (200 : Int), (101 : Int), (1 : Int), (0 : Int))).fst == (0 : Int) && (v13 k (v23 k) ((0 : Int), true, (200 : Int), (101 : Int), (1 : Int), (0 : Int)) (2 : Int) [((2 : Int), (5 : Int), (0 : Int))]).fst == (0 : Int) && (↑ (v8 k (v23 k) ((0 : Int), true, (200 : Int), (101 : Int), (1 : Int), (0 : Int))).snd.length : Int) == (1 : Int) && (v8 k (v23 k) ((0 : Int), true, (200 : Int), (101 : Int), (1 : Int), (0 : Int))).snd.getD (Int.toNat (0 : Int)) I.dflt == (5 : Int) && (↑ (v13 k (v23 k) ((0 : Int), true, (200 : Int), (101 : Int), (1 : Int), (0 : Int)) (2 : Int) [((2 : Int), (5 : Int), (0 : Int))]).snd.length : Int) == (0 : Int)) = true, CC Try.prog 23 (args23 ) [] (res23 (v23 k )) (bo23 (v23 k )), CC Try.prog 9 (args9 (v23 k) (0, true, 200, 101, 1, 0) 2 [(2, 5, 0)]) [] (res9 (v9 k (v23 k) (0, true, 200, 101, 1, 0) 2 [(2, 5, 0)])) (bo9 (v9 k (v23 k) (0, true, 200, 101, 1, 0) 2 [(2, 5, 0)])), (true && v9 k (v23 k) ((0 : Int), true, (200 : Int), (101 : Int), (1 : Int), (0 : Int)) (2 : Int) [((2 : Int), (5 : Int), (0 : Int))] == (0 : Int)) = true, CC Try.prog 23 (args23 ) [] (res23 (v23 k )) (bo23 (v23 k )), CC Try.prog 9 (args9 (v23 k) (0, true, 200, 101, 1, 0) 3 [(2, 5, 0)]) [] (res9 (v9 k (v23 k) (0, true, 200, 101, 1, 0) 3 [(2, 5, 0)])) (bo9 (v9 k (v23 k) (0, true, 200, 101, 1, 0) 3 [(2, 5, 0)]))] (.leaf (res10 (true && v9 k (v23 k) (0, true, 200, 101, 1, 0) 3 [(2, 5, 0)] == 31)) (bo10 (true && v9 k (v23 k) (0, true, 200, 101, 1, 0) 3 [(2, 5, 0)] == 31)))) (.need [((v8 k (v23 k) ((0 : Int), true, (200 : Int), (101 : Int), (1 : Int), (0 : Int))).fst == (0 : Int) && (v13 k (v23 k) ((0 : Int), true, (200 : Int), (101 : Int), (1 : Int), (0 : Int)) (2 : Int) [((2 : Int), (5 : Int), (0 : Int))]).fst == (0 : Int) && (↑ (v8 k (v23 k) ((0 : Int), true, (200 : Int), (101 : Int), (1 : Int), (0 : Int))).snd.length : Int) == (1 : Int)) = true → (0 : Int) ≤ (0 : Int), ((v8 k (v23 k) ((0 : Int), true, (200 : Int), (101 : Int), (1 : Int), (0 : Int))).fst == (0 : Int) && (v13 k (v23 k) ((0 : Int), true, (200 : Int), (101 : Int), (1 : Int), (0 : Int)) (2 : Int) [((2 : Int), (5 : Int), (0 : Int))]).fst == (0 : Int) && (↑ (v8 k (v23 k) ((0 : Int), true, (200 : Int), (101 : Int), (1 : Int), (0 : Int))).snd.length : Int) == (1 : Int)) = true → (0 : Int) < (↑ (v8 k (v23 k) ((0 : Int), true, (200 : Int), (101 : Int), (1 : Int), (0 : Int))).snd.length : Int), ((v8 k (v23 k) ((0 : Int), true, (200 : Int), (101 : Int), (1 : Int), (0 : Int))).fst == (0 : Int) && (v13 k (v23 k) ((0 : Int), true, (200 : Int), (101 : Int), (1 : Int), (0 : Int)) (2 : Int) [((2 : Int), (5 : Int), (0 : Int))]).fst == (0 : Int) && (↑ (v8 k (v23 k) ((0 : Int), true, (200 : Int), (101 : Int), (1 : Int), (0 : Int))).snd.length : Int) == (1 : Int) && (v8 k (v23 k) ((0 : Int), true, (200 : Int), (101 : Int), (1 : Int), (0 : Int))).snd.getD (Int.toNat (0 : Int)) I.dflt == (5 : Int) && (↑ (v13 k (v23 k) ((0 : Int), true, (200 : Int), (101 : Int), (1 : Int), (0 : Int)) (2 : Int) [((2 : Int), (5 : Int), (0 : Int))]).snd.length : Int) == (0 : Int)) = true, CC Try.prog 23 (args23 ) [] (res23 (v23 k )) (bo23 (v23 k )), CC Try.prog 9 (args9 (v23 k) (0, true, 200, 101, 1, 0) 2 [(2, 5, 0)]) [] (res9 (v9 k (v23 k) (0, true, 200, 101, 1, 0) 2 [(2, 5, 0)])) (bo9 (v9 k (v23 k) (0, true, 200, 101, 1, 0) 2 [(2, 5, 0)])), (true && v9 k (v23 k) ((0 : Int), true, (200 : Int), (101 : Int), (1 : Int), (0 : Int)) (2 : Int) [((2 : Int), (5 : Int), (0 : Int))] == (0 : Int)) = false] (.leaf (res10 false) (bo10 false)))) (.test (false) (.need [((v8 k (v23 k) ((0 : Int), true, (200 : Int), (101 : Int), (1 : Int), (0 : Int))).fst == (0 : Int) && (v13 k (v23 k) ((0 : Int), true, (200 : Int), (101 : Int), (1 : Int), (0 : Int)) (2 : Int) [((2 : Int), (5 : Int), (0 : Int))]).fst == (0 : Int) && (↑ (v8 k (v23 k) ((0 : Int), true, (200 : Int), (101 : Int), (1 : Int), (0 : Int))).snd.length : Int) == (1 : Int)) = true → (0 : Int) ≤ (0 : Int), ((v8 k (v23 k) ((0 : Int), true, (200 : Int), (101 : Int), (1 : Int), (0 : Int))).fst == (0 : Int) && (v13 k (v23 k) ((0 : Int), true, (200 : Int), (101 : Int), (1 : Int), (0 : Int)) (2 : Int) [((2 : Int), (5 : Int), (0 : Int))]).fst == (0 : Int) && (↑ (v8 k (v23 k) ((0 : Int), true, (200 : Int), (101 : Int), (1 : Int), (0 : Int))).snd.length : Int) == (1 : Int)) = true → (0 : Int) < (↑ (v8 k (v23 k) ((0 : Int), true, (200 : Int), (101 : Int), (1 : Int), (0 : Int))).snd.length : Int), ((v8 k (v23 k) ((0 : Int), true, (200 : Int), (101 : Int), (1 : Int), (0 : Int))).fst == (0 : Int) && (v13 k (v23 k) ((0 : Int), true, (200 : Int), (101 : Int), (1 : Int), (0 : Int)) (2 : Int) [((2 : Int), (5 : Int), (0 : Int))]).fst == (0 : Int) && (↑ (v8 k (v23 k) ((0 : Int), true, (200 : Int), (101 : Int), (1 : Int), (0 : Int))).snd.length : Int) == (1 : Int) && (v8 k (v23 k) ((0 : Int), true, (200 : Int), (101 : Int), (1 : Int), (0 : Int))).snd.getD (Int.toNat (0 : Int)) I.dflt == (5 : Int) && (↑ (v13 k (v23 k) ((0 : Int), true, (200 : Int), (101 : Int), (1 : Int), (0 : Int)) (2 : Int) [((2 : Int), (5 : Int), (0 : Int))]).snd.length : Int) == (0 : Int)) = false, false = true, CC Try.prog 23 (args23 ) [] (res23 (v23 k )) (bo23 (v23 k )), CC Try.prog 9 (args9 (v23 k) (0, true, 200, 101, 1, 0) 3 [(2, 5, 0)]) [] (res9 (v9 k (v23 k) (0, true, 200, 101, 1, 0) 3 [(2, 5, 0)])) (bo9 (v9 k (v23 k) (0, true, 200, 101, 1, 0) 3 [(2, 5, 0)]))] (.leaf (res10 (true && v9 k (v23 k) (0, true, 200, 101, 1, 0) 3 [(2, 5, 0)] == 31)) (bo10 (true && v9 k (v23 k) (0, true, 200, 101, 1, 0) 3 [(2, 5, 0)] == 31)))) (.need [((v8 k (v23 k) ((0 : Int), true, (200 : Int), (101 : Int), (1 : Int), (0 : Int))).fst == (0 : Int) && (v13 k (v23 k) ((0 : Int), true, (200 : Int), (101 : Int), (1 : Int), (0 : Int)) (2 : Int) [((2 : Int), (5 : Int), (0 : Int))]).fst == (0 : Int) && (↑ (v8 k (v23 k) ((0 : Int), true, (200 : Int), (101 : Int), (1 : Int), (0 : Int))).snd.length : Int) == (1 : Int)) = true → (0 : Int) ≤ (0 : Int), ((v8 k (v23 k) ((0 : Int), true, (200 : Int), (101 : Int), (1 : Int), (0 : Int))).fst == (0 : Int) && (v13 k (v23 k) ((0 : Int), true, (200 : Int), (101 : Int), (1 : Int), (0 : Int)) (2 : Int) [((2 : Int), (5 : Int), (0 : Int))]).fst == (0 : Int) && (↑ (v8 k (v23 k) ((0 : Int), true, (200 : Int), (101 : Int), (1 : Int), (0 : Int))).snd.length : Int) == (1 : Int)) = true → (0 : Int) < (↑ (v8 k (v23 k) ((0 : Int), true, (200 : Int), (101 : Int), (1 : Int), (0 : Int))).snd.length : Int), ((v8 k (v23 k) ((0 : Int), true, (200 : Int), (101 : Int), (1 : Int), (0 : Int))).fst == (0 : Int) && (v13 k (v23 k) ((0 : Int), true, (200 : Int), (101 : Int), (1 : Int), (0 : Int)) (2 : Int) [((2 : Int), (5 : Int), (0 : Int))]).fst == (0 : Int) && (↑ (v8 k (v23 k) ((0 : Int), true, (200 : Int), (101 : Int), (1 : Int), (0 : Int))).snd.length : Int) == (1 : Int) && (v8 k (v23 k) ((0 : Int), true, (200 : Int), (101 : Int), (1 : Int), (0 : Int))).snd.getD (Int.toNat (0 : Int)) I.dflt == (5 : Int) && (↑ (v13 k (v23 k) ((0 : Int), true, (200 : Int), (101 : Int), (1 : Int), (0 : Int)) (2 : Int) [((2 : Int), (5 : Int), (0 : Int))]).snd.length : Int) == (0 : Int)) = false, false = false] (.leaf (res10 false) (bo10 false))))))) (by kernel_rfl) ?_
  by_cases q : ((f23 k ).isSome = true) ∧ ((f8 k (v23 k) (0, true, 200, 101, 1, 0)).isSome = true)
  · rw [if_pos q] at h
    refine ⟨(conjC (cc23 k  q.1) (conjC (cc8 k (v23 k) (0, true, 200, 101, 1, 0) q.2) conj0)), ?_⟩
    by_cases q : ((f23 k ).isSome = true) ∧ ((f13 k (v23 k) (0, true, 200, 101, 1, 0) 2 [(2, 5, 0)]).isSome = true)
    · rw [if_pos q] at h
      refine ⟨(conjC (cc23 k  q.1) (conjC (cc13 k (v23 k) (0, true, 200, 101, 1, 0) 2 [(2, 5, 0)] q.2) conj0)), ?_⟩
      refine ⟨fun c => ?_, fun c => ?_⟩
      · rw [cond_t c] at h
        refine ⟨fun c => ?_, fun c => ?_⟩
        · rw [cond_t c] at h
          by_cases q : (((v8 k (v23 k) ((0 : Int), true, (200 : Int), (101 : Int), (1 : Int), (0 : Int))).fst == (0 : Int) && (v13 k (v23 k) ((0 : Int), true, (200 : Int), (101 : Int), (1 : Int), (0 : Int)) (2 : Int) [((2 : Int), (5 : Int), (0 : Int))]).fst == (0 : Int) && (↑ (v8 k (v23 k) ((0 : Int), true, (200 : Int), (101 : Int), (1 : Int), (0 : Int))).snd.length : Int) == (1 : Int)) = true → (0 : Int) ≤ (0 : Int)) ∧ (((v8 k (v23 k) ((0 : Int), true, (200 : Int), (101 : Int), (1 : Int), (0 : Int))).fst == (0 : Int) && (v13 k (v23 k) ((0 : Int), true, (200 : Int), (101 : Int), (1 : Int), (0 : Int)) (2 : Int) [((2 : Int), (5 : Int), (0 : Int))]).fst == (0 : Int) && (↑ (v8 k (v23 k) ((0 : Int), true, (200 : Int), (101 : Int), (1 : Int), (0 : Int))).snd.length : Int) == (1 : Int)) = true → (0 : Int) < (↑ (v8 k (v23 k) ((0 : Int), true, (200 : Int), (101 : Int), (1 : Int), (0 : Int))).snd.length : Int)) ∧ (((v8 k (v23 k) ((0 : Int), true, (200 : Int), (101 : Int), (1 : Int), (0 : Int))).fst == (0 : Int) && (v13 k (v23 k) ((0 : Int), true, (200 : Int), (101 : Int), (1 : Int), (0 : Int)) (2 : Int) [((2 : Int), (5 : Int), (0 : Int))]).fst == (0 : Int) && (↑ (v8 k (v23 k) ((0 : Int), true, (200 : Int), (101 : Int), (1 : Int), (0 : Int))).snd.length : Int) == (1 : Int) && (v8 k (v23 k) ((0 : Int), true, (200 : Int), (101 : Int), (1 : Int), (0 : Int))).snd.getD (Int.toNat (0 : Int)) I.dflt == (5 : Int) && (↑ (v13 k (v23 k) ((0 : Int), true, (200 : Int), (101 : Int), (1 : Int), (0 : Int)) (2 : Int) [((2 : Int), (5 : Int), (0 : Int))]).snd.length : Int) == (0 : Int)) = true) ∧ ((f23 k ).isSome = true) ∧ ((f9 k (v23 k) (0, true, 200, 101, 1, 0) 2 [(2, 5, 0)]).isSome = true) ∧ ((true && v9 k (v23 k) ((0 : Int), true, (200 : Int), (101 : Int), (1 : Int), (0 : Int)) (2 : Int) [((2 : Int), (5 : Int), (0 : Int))] == (0 : Int)) = true) ∧ ((f23 k ).isSome = true) ∧ ((f9 k (v23 k) (0, true, 200, 101, 1, 0) 3 [(2, 5, 0)]).isSome = true)
          · rw [if_pos q] at h
            refine ⟨(conjC q.1 (conjC q.2.1 (conjC q.2.2.1 (conjC (cc23 k  q.2.2.2.1) (conjC (cc9 k (v23 k) (0, true, 200, 101, 1, 0) 2 [(2, 5, 0)] q.2.2.2.2.1) (conjC q.2.2.2.2.2.1 (conjC (cc23 k  q.2.2.2.2.2.2.1) (conjC (cc9 k (v23 k) (0, true, 200, 101, 1, 0) 3 [(2, 5, 0)] q.2.2.2.2.2.2.2) conj0)))))))), ?_⟩
            cases h; exact ⟨rfl, rfl⟩
          · rw [if_neg q] at h; cases h
        · rw [cond_f c] at h
          by_cases q : (((v8 k (v23 k) ((0 : Int), true, (200 : Int), (101 : Int), (1 : Int), (0 : Int))).fst == (0 : Int) && (v13 k (v23 k) ((0 : Int), true, (200 : Int), (101 : Int), (1 : Int), (0 : Int)) (2 : Int) [((2 : Int), (5 : Int), (0 : Int))]).fst == (0 : Int) && (↑ (v8 k (v23 k) ((0 : Int), true, (200 : Int), (101 : Int), (1 : Int), (0 : Int))).snd.length : Int) == (1 : Int)) = true → (0 : Int) ≤ (0 : Int)) ∧ (((v8 k (v23 k) ((0 : Int), true, (200 : Int), (101 : Int), (1 : Int), (0 : Int))).fst == (0 : Int) && (v13 k (v23 k) ((0 : Int), true, (200 : Int), (101 : Int), (1 : Int), (0 : Int)) (2 : Int) [((2 : Int), (5 : Int), (0 : Int))]).fst == (0 : Int) && (↑ (v8 k (v23 k) ((0 : Int), true, (200 : Int), (101 : Int), (1 : Int), (0 : Int))).snd.length : Int) == (1 : Int)) = true → (0 : Int) < (↑ (v8 k (v23 k) ((0 : Int), true, (200 : Int), (101 : Int), (1 : Int), (0 : Int))).snd.length : Int)) ∧ (((v8 k (v23 k) ((0 : Int), true, (200 : Int), (101 : Int), (1 : Int), (0 : Int))).fst == (0 : Int) && (v13 k (v23 k) ((0 : Int), true, (200 : Int), (101 : Int), (1 : Int), (0 : Int)) (2 : Int) [((2 : Int), (5 : Int), (0 : Int))]).fst == (0 : Int) && (↑ (v8 k (v23 k) ((0 : Int), true, (200 : Int), (101 : Int), (1 : Int), (0 : Int))).snd.length : Int) == (1 : Int) && (v8 k (v23 k) ((0 : Int), true, (200 : Int), (101 : Int), (1 : Int), (0 : Int))).snd.getD (Int.toNat (0 : Int)) I.dflt == (5 : Int) && (↑ (v13 k (v23 k) ((0 : Int), true, (200 : Int), (101 : Int), (1 : Int), (0 : Int)) (2 : Int) [((2 : Int), (5 : Int), (0 : Int))]).snd.length : Int) == (0 : Int)) = true) ∧ ((f23 k ).isSome = true) ∧ ((f9 k (v23 k) (0, true, 200, 101, 1, 0) 2 [(2, 5, 0)]).isSome = true) ∧ ((true && v9 k (v23 k) ((0 : Int), true, (200 : Int), (101 : Int), (1 : Int), (0 : Int)) (2 : Int) [((2 : Int), (5 : Int), (0 : Int))] == (0 : Int)) = false)
          · rw [if_pos q] at h
            refine ⟨(conjC q.1 (conjC q.2.1 (conjC q.2.2.1 (conjC (cc23 k  q.2.2.2.1) (conjC (cc9 k (v23 k) (0, true, 200, 101, 1, 0) 2 [(2, 5, 0)] q.2.2.2.2.1) (conjC q.2.2.2.2.2 conj0)))))), ?_⟩
            cases h; exact ⟨rfl, rfl⟩
          · rw [if_neg q] at h; cases h
      · rw [cond_f c] at h
        refine ⟨fun c => ?_, fun c => ?_⟩
        · cases c
        by_cases q : (((v8 k (v23 k) ((0 : Int), true, (200 : Int), (101 : Int), (1 : Int), (0 : Int))).fst == (0 : Int) && (v13 k (v23 k) ((0 : Int), true, (200 : Int), (101 : Int), (1 : Int), (0 : Int)) (2 : Int) [((2 : Int), (5 : Int), (0 : Int))]).fst == (0 : Int) && (↑ (v8 k (v23 k) ((0 : Int), true, (200 : Int), (101 : Int), (1 : Int), (0 : Int))).snd.length : Int) == (1 : Int)) = true → (0 : Int) ≤ (0 : Int)) ∧ (((v8 k (v23 k) ((0 : Int), true, (200 : Int), (101 : Int), (1 : Int), (0 : Int))).fst == (0 : Int) && (v13 k (v23 k) ((0 : Int), true, (200 : Int), (101 : Int), (1 : Int), (0 : Int)) (2 : Int) [((2 : Int), (5 : Int), (0 : Int))]).fst == (0 : Int) && (↑ (v8 k (v23 k) ((0 : Int), true, (200 : Int), (101 : Int), (1 : Int), (0 : Int))).snd.length : Int) == (1 : Int)) = true → (0 : Int) < (↑ (v8 k (v23 k) ((0 : Int), true, (200 : Int), (101 : Int), (1 : Int), (0 : Int))).snd.length : Int)) ∧ (((v8 k (v23 k) ((0 : Int), true, (200 : Int), (101 : Int), (1 : Int), (0 : Int))).fst == (0 : Int) && (v13 k (v23 k) ((0 : Int), true, (200 : Int), (101 : Int), (1 : Int), (0 : Int)) (2 : Int) [((2 : Int), (5 : Int), (0 : Int))]).fst == (0 : Int) && (↑ (v8 k (v23 k) ((0 : Int), true, (200 : Int), (101 : Int), (1 : Int), (0 : Int))).snd.length : Int) == (1 : Int) && (v8 k (v23 k) ((0 : Int), true, (200 : Int), (101 : Int), (1 : Int), (0 : Int))).snd.getD (Int.toNat (0 : Int)) I.dflt == (5 : Int) && (↑ (v13 k (v23 k) ((0 : Int), true, (200 : Int), (101 : Int), (1 : Int), (0 : Int)) (2 : Int) [((2 : Int), (5 : Int), (0 : Int))]).snd.length : Int) == (0 : Int)) = false) ∧ (false = false)
        · rw [if_pos q] at h
          refine ⟨(conjC q.1 (conjC q.2.1 (conjC q.2.2.1 (conjC q.2.2.2 conj0)))), ?_⟩
          cases h; exact ⟨rfl, rfl⟩
        · rw [if_neg q] at h; cases h
    · rw [if_neg q] at h; cases h
  · rw [if_neg q] at h; cases h
theorem cc10 (k : Nat)  (h : (f10 k ).isSome = true) : CC Try.prog 10 (args10 ) [] (res10 (v10 k )) (bo10 (v10 k )) := by
  cases e : f10 k  with
  | none => rw [e] at h; cases h
  | some r => rw [show v10 k  = r by simp [v10, e]]; exact of10 k  r e

end
end Go.AM
namespace Go.AM
open Go Go.Proofs
set_option linter.unusedVariables false
noncomputable section
/-! ### function 3: papermill/papermilllaw55.ReleaseWaived -/
def K3 (k : Nat) : Calld := ⟨fun g => match g with
  | 8 => some [false, false]
  | 9 => some [false, false, false, false]
  | 10 => some []
  | _ => none, fun g xs _ => match g with
  | 8 => match xs with
    | [.agg q0, .agg q1] => (decS [] t23 q0).bind fun o_ => (decS [] t25 q1).bind fun f_ => some (res8 (v8 k o_ f_), bo8 (v8 k o_ f_))
    | _ => none
  | 9 => match xs with
    | [.agg q0, .agg q1, .r (.v (.int .i64 roll_)), .r (.ro t3_ q3)] => (decS [] t23 q0).bind fun o_ => (decS [] t25 q1).bind fun f_ => (castL t3_ t36 q3).bind fun l_ => some (res9 (v9 k o_ f_ roll_ l_), bo9 (v9 k o_ f_ roll_ l_))
    | _ => none
  | 10 => match xs with
    | [] => some (res10 (v10 k ), bo10 (v10 k ))
    | _ => none
  | _ => none⟩
abbrev R3 : Type := Bool
def res3 (r : R3) : AV := .r (.v (.bool r))
def bo3 (r : R3) : List (Nat × Blk) := []
def st3_12 (x0 : Int) (x1 : Bool) (x2 : Int) (x3 : Int) (x4 : t28.T) (x5 : List (I).T) : St := ⟨mkS 147 [(5, .ptr 1000000 0 0), (9, .r (.v (.int .i64 x0))), (11, .r (.v (.bool x1))), (107, .own 1000001 0), (108, .r (.v (.int .i64 x2))), (109, .r (.v (.int .i64 x3)))], [(1000000, 0, .var 28 (rvs (enc t28 x4))), (1000001, 0, .row 3 I x5)]⟩
def st3_16 (x0 : Int) (x1 : Bool) (x2 : Int) (x3 : Bool) (x4 : Int) (x5 : Int) (x6 : List (t36).T) (x7 : Int) (x8 : Int) (x9 : t28.T) (x10 : List (I).T) : St := ⟨mkS 147 [(5, .ptr 1000000 0 0), (9, .r (.v (.int .i64 x0))), (11, .r (.v (.bool x1))), (13, .r (.v (.int .i64 x2))), (14, .r (.v (.bool x3))), (107, .own 1000001 0), (108, .r (.v (.int .i64 x4))), (109, .r (.v (.int .i64 x5))), (114, .r (.ro t36 x6)), (115, .r (.v (.int .i64 x7))), (116, .r (.v (.int .i64 x8)))], [(1000000, 0, .var 28 (rvs (enc t28 x9))), (1000001, 0, .row 3 I x10)]⟩
mutual
def f3_12 (k : Nat) : Nat → Int → Bool → Int → Int → t28.T → List (I).T → Option R3
  | 0, _, _, _, _, _, _ => none
  | j + 1, x0, x1, x2, x3, x4, x5 =>
    bif (decide (x3 < x2)) then
      if ((0 : Int) ≤ x3) ∧ (x3 < (↑x5.length : Int)) then
        f3_16 k j x0 x1 ((x5.getD x3.toNat I.dflt)) false x2 x3 x4.snd ((↑ (List.length x4.snd) : Int)) 0 x4 x5
      else none
    else
      bif ((x0 == (0 : Int)) == x1) then
        if (((x0 == (0 : Int)) == x1) = true) ∧ ((f10 k ).isSome = true) then
          some (true && v10 k)
        else none
      else
        if (((x0 == (0 : Int)) == x1) = false) then
          some false
        else none
def f3_16 (k : Nat) : Nat → Int → Bool → Int → Bool → Int → Int → List (t36).T → Int → Int → t28.T → List (I).T → Option R3
  | 0, _, _, _, _, _, _, _, _, _, _, _ => none
  | j + 1, x0, x1, x2, x3, x4, x5, x6, x7, x8, x9, x10 =>
    bif (decide (x8 < x7)) then
      if ((0 : Int) ≤ x8) ∧ (x8 < (↑x6.length : Int)) then
        f3_16 k j x0 x1 x2 ((x3 || (x6.getD x8.toNat t36.dflt).fst == x9.fst && (x6.getD x8.toNat t36.dflt).snd.fst == x2)) x4 x5 x6 x7 ((IntKind.i64.wrap (x8 + 1))) x9 x10
      else none
    else
      f3_12 k j x0 ((x1 && x3)) x4 ((IntKind.i64.wrap (x5 + 1))) x9 x10
end
def f3 (k : Nat) (t_ : t23.T) (o_ : t25.T) (A_ : t28.T) : Option R3 :=
  if ((f8 k t_ o_).isSome = true) then
    if ((f9 k t_ o_ A_.fst A_.snd).isSome = true) then
      bif ((v8 k t_ o_).fst != (0 : Int)) then
        bif (v9 k t_ o_ A_.fst A_.snd == (v8 k t_ o_).fst) then
          if ((v9 k t_ o_ A_.fst A_.snd == (v8 k t_ o_).fst) = true) ∧ ((f10 k ).isSome = true) then
            some (true && v10 k)
          else none
        else
          if ((v9 k t_ o_ A_.fst A_.snd == (v8 k t_ o_).fst) = false) then
            some false
          else none
      else
        bif (! (o_.fst == t_.snd.fst && o_.snd.fst && o_.snd.snd.fst == t_.snd.snd.fst && decide (o_.snd.snd.snd.fst ≤ t_.snd.snd.snd.snd.fst) && decide (o_.snd.snd.snd.fst ≥ IntKind.i64.wrap (t_.snd.snd.snd.snd.fst - t_.snd.snd.snd.snd.snd.fst)) && decide (o_.snd.snd.snd.snd.fst ≤ t_.snd.snd.snd.snd.snd.snd.snd.snd.snd.fst) && decide (o_.snd.snd.snd.snd.snd ≤ t_.snd.snd.snd.snd.snd.snd.snd.snd.snd.snd.fst)) == ((↑ (v8 k t_ o_).snd.length : Int) == (0 : Int))) then
          if ((! (o_.fst == t_.snd.fst && o_.snd.fst && o_.snd.snd.fst == t_.snd.snd.fst && decide (o_.snd.snd.snd.fst ≤ t_.snd.snd.snd.snd.fst) && decide (o_.snd.snd.snd.fst ≥ IntKind.i64.wrap (t_.snd.snd.snd.snd.fst - t_.snd.snd.snd.snd.snd.fst)) && decide (o_.snd.snd.snd.snd.fst ≤ t_.snd.snd.snd.snd.snd.snd.snd.snd.snd.fst) && decide (o_.snd.snd.snd.snd.snd ≤ t_.snd.snd.snd.snd.snd.snd.snd.snd.snd.snd.fst)) == ((↑ (v8 k t_ o_).snd.length : Int) == (0 : Int))) = true) then
            some false
          else none
        else
          if ((! (o_.fst == t_.snd.fst && o_.snd.fst && o_.snd.snd.fst == t_.snd.snd.fst && decide (o_.snd.snd.snd.fst ≤ t_.snd.snd.snd.snd.fst) && decide (o_.snd.snd.snd.fst ≥ IntKind.i64.wrap (t_.snd.snd.snd.snd.fst - t_.snd.snd.snd.snd.snd.fst)) && decide (o_.snd.snd.snd.snd.fst ≤ t_.snd.snd.snd.snd.snd.snd.snd.snd.snd.fst) && decide (o_.snd.snd.snd.snd.snd ≤ t_.snd.snd.snd.snd.snd.snd.snd.snd.snd.snd.fst)) == ((↑ (v8 k t_ o_).snd.length : Int) == (0 : Int))) = false) ∧ ((f9 k t_ o_ A_.fst []).isSome = true) then
            bif (false || ! (v9 k t_ o_ A_.fst [] == (0 : Int)) == (o_.fst == t_.snd.fst && o_.snd.fst && o_.snd.snd.fst == t_.snd.snd.fst && decide (o_.snd.snd.snd.fst ≤ t_.snd.snd.snd.snd.fst) && decide (o_.snd.snd.snd.fst ≥ IntKind.i64.wrap (t_.snd.snd.snd.snd.fst - t_.snd.snd.snd.snd.snd.fst)) && decide (o_.snd.snd.snd.snd.fst ≤ t_.snd.snd.snd.snd.snd.snd.snd.snd.snd.fst) && decide (o_.snd.snd.snd.snd.snd ≤ t_.snd.snd.snd.snd.snd.snd.snd.snd.snd.snd.fst))) then
              some false
            else
              bif (v9 k t_ o_ A_.fst A_.snd != (0 : Int) && v9 k t_ o_ A_.fst A_.snd != (31 : Int)) then
                if ((f10 k ).isSome = true) then
                  some (v10 k)
                else none
              else
                f3_12 k k ((v9 k t_ o_ A_.fst A_.snd)) true ((↑ (v8 k t_ o_).snd.length : Int)) 0 A_ ((v8 k t_ o_).snd)
          else none
    else none
  else none
def args3 (t_ : t23.T) (o_ : t25.T) (A_ : t28.T) : List AV := [.agg (rvs (enc t23 t_)), .agg (rvs (enc t25 o_)), .agg (rvs (enc t28 A_))]
def v3 (k : Nat) (t_ : t23.T) (o_ : t25.T) (A_ : t28.T) : R3 := (f3 k t_ o_ A_).getD false
theorem ev3 (k : Nat) : ∀ j, (∀ (x0 : Int) (x1 : Bool) (x2 : Int) (x3 : Int) (x4 : t28.T) (x5 : List (I).T) (r : R3), f3_12 k j x0 x1 x2 x3 x4 x5 = some r → Ev Try.prog Try.f3 0 (placeAt Try.f3 12) (st3_12 x0 x1 x2 x3 x4 x5) (res3 r) (bo3 r)) ∧ (∀ (x0 : Int) (x1 : Bool) (x2 : Int) (x3 : Bool) (x4 : Int) (x5 : Int) (x6 : List (t36).T) (x7 : Int) (x8 : Int) (x9 : t28.T) (x10 : List (I).T) (r : R3), f3_16 k j x0 x1 x2 x3 x4 x5 x6 x7 x8 x9 x10 = some r → Ev Try.prog Try.f3 0 (placeAt Try.f3 16) (st3_16 x0 x1 x2 x3 x4 x5 x6 x7 x8 x9 x10) (res3 r) (bo3 r))
  | 0 => by
    refine ⟨?_, ?_⟩ <;> intros <;> rename_i h <;> simp [f3_12, f3_16] at h
  | j + 1 => by
    have ih := ev3 k j
    refine ⟨?_, ?_⟩
    · intro x0 x1 x2 x3 x4 x5 r h
      rw [f3_12] at h
      refine Ev.tree hm (R := Rt) (K := (K3 k)) (l := []) (C := [(12, [.auto [5, 9, 11, 107, 108, 109] false]), (16, [.auto [5, 9, 11, 13, 14, 107, 108, 109, 114, 115, 116] false])]) (E := [.auto [6] true]) (n := 1000) (T := .test ((decide (x3 < x2))) (.need [(0 : Int) ≤ x3, x3 < (↑x5.length : Int)] (.cut 16 (placeAt Try.f3 16) (st3_16 x0 x1 ((x5.getD x3.toNat I.dflt)) false x2 x3 x4.snd ((↑ (List.length x4.snd) : Int)) 0 x4 x5))) (.test (((x0 == (0 : Int)) == x1)) (.need [((x0 == (0 : Int)) == x1) = true, CC Try.prog 10 (args10 ) [] (res10 (v10 k )) (bo10 (v10 k ))] (.leaf (res3 (true && v10 k)) (bo3 (true && v10 k)))) (.need [((x0 == (0 : Int)) == x1) = false] (.leaf (res3 false) (bo3 false))))) (by kernel_rfl) ?_
      refine ⟨fun c => ?_, fun c => ?_⟩
      · rw [cond_t c] at h
        by_cases q : ((0 : Int) ≤ x3) ∧ (x3 < (↑x5.length : Int))
        · rw [if_pos q] at h
          refine ⟨(conjC q.1 (conjC q.2 conj0)), ?_⟩
          exact ih.2 x0 x1 ((x5.getD x3.toNat I.dflt)) false x2 x3 x4.snd ((↑ (List.length x4.snd) : Int)) 0 x4 x5 _ h
        · rw [if_neg q] at h; cases h
      · rw [cond_f c] at h
        refine ⟨fun c => ?_, fun c => ?_⟩
        · rw [cond_t c] at h
          by_cases q : (((x0 == (0 : Int)) == x1) = true) ∧ ((f10 k ).isSome = true)
          · rw [if_pos q] at h
            refine ⟨(conjC q.1 (conjC (cc10 k  q.2) conj0)), ?_⟩
            cases h; exact ⟨rfl, rfl⟩
          · rw [if_neg q] at h; cases h
        · rw [cond_f c] at h
          by_cases q : (((x0 == (0 : Int)) == x1) = false)
          · rw [if_pos q] at h
            refine ⟨(conjC q conj0), ?_⟩
            cases h; exact ⟨rfl, rfl⟩
          · rw [if_neg q] at h; cases h
    · intro x0 x1 x2 x3 x4 x5 x6 x7 x8 x9 x10 r h
      rw [f3_16] at h
      refine Ev.tree hm (R := Rt) (K := (K3 k)) (l := []) (C := [(12, [.auto [5, 9, 11, 107, 108, 109] false]), (16, [.auto [5, 9, 11, 13, 14, 107, 108, 109, 114, 115, 116] false])]) (E := [.auto [6] true]) (n := 1000) (T := .test ((decide (x8 < x7))) (.need [(0 : Int) ≤ x8, x8 < (↑x6.length : Int)] (.cut 16 (placeAt Try.f3 16) (st3_16 x0 x1 x2 ((x3 || (x6.getD x8.toNat t36.dflt).fst == x9.fst && (x6.getD x8.toNat t36.dflt).snd.fst == x2)) x4 x5 x6 x7 ((IntKind.i64.wrap (x8 + 1))) x9 x10))) (.cut 12 (placeAt Try.f3 12) (st3_12 x0 ((x1 && x3)) x4 ((IntKind.i64.wrap (x5 + 1))) x9 x10))) (by kernel_rfl) ?_
      refine ⟨fun c => ?_, fun c => ?_⟩
      · rw [cond_t c] at h
        by_cases q : ((0 : Int) ≤ x8) ∧ (x8 < (↑x6.length : Int))
        · rw [if_pos q] at h
          refine ⟨(conjC q.1 (conjC q.2 conj0)), ?_⟩
          exact ih.2 x0 x1 x2 ((x3 || (x6.getD x8.toNat t36.dflt).fst == x9.fst && (x6.getD x8.toNat t36.dflt).snd.fst == x2)) x4 x5 x6 x7 ((IntKind.i64.wrap (x8 + 1))) x9 x10 _ h
        · rw [if_neg q] at h; cases h
      · rw [cond_f c] at h
        exact ih.1 x0 ((x1 && x3)) x4 ((IntKind.i64.wrap (x5 + 1))) x9 x10 _ h
theorem of3 (k : Nat) (t_ : t23.T) (o_ : t25.T) (A_ : t28.T) (r : R3) (h : f3 k t_ o_ A_ = some r) : CC Try.prog 3 (args3 t_ o_ A_) [] (res3 r) (bo3 r) := by
  refine CC.of (fn := Try.f3) (by kernel_rfl) (by kernel_rfl) (by kernel_rfl) (by kernel_rfl) ?_
  unfold f3 at h
  refine Ev.tree hm (R := Rt) (K := (K3 k)) (l := []) (C := [(12, [.auto [5, 9, 11, 107, 108, 109] false]), (16, [.auto [5, 9, 11, 13, 14, 107, 108, 109, 114, 115, 116] false])]) (E := [.auto [6] true]) (n := 1000) (T := .need [CC Try.prog 8 (args8 t_ o_) [] (res8 (v8 k t_ o_)) (bo8 (v8 k t_ o_))] (.need [CC Try.prog 9 (args9 t_ o_ A_.fst A_.snd) [] (res9 (v9 k t_ o_ A_.fst A_.snd)) (bo9 (v9 k t_ o_ A_.fst A_.snd))] (.test (((v8 k t_ o_).fst != (0 : Int))) (.test ((v9 k t_ o_ A_.fst A_.snd == (v8 k t_ o_).fst)) (.need [(v9 k t_ o_ A_.fst A_.snd == (v8 k t_ o_).fst) = true, CC Try.prog 10 (args10 ) [] (res10 (v10 k )) (bo10 (v10 k ))] (.leaf (res3 (true && v10 k)) (bo3 (true && v10 k)))) (.need [(v9 k t_ o_ A_.fst A_.snd == (v8 k t_ o_).fst) = false] (.leaf (res3 false) (bo3 false)))) (.test ((! (o_.fst == t_.snd.fst && o_.snd.fst && o_.snd.snd.fst == t_.snd.snd.fst && decide (o_.snd.snd.snd.fst ≤ t_.snd.snd.snd.snd.fst) && decide (o_.snd.snd.snd.fst ≥ IntKind.i64.wrap (t_.snd.snd.snd.snd.fst - t_.snd.snd.snd.snd.snd.fst)) && decide (o_.snd.snd.snd.snd.fst ≤ t_.snd.snd.snd.snd.snd.snd.snd.snd.snd.fst) && decide (o_.snd.snd.snd.snd.snd ≤ t_.snd.snd.snd.snd.snd.snd.snd.snd.snd.snd.fst)) == ((↑ (v8 k t_ o_).snd.length : Int) == (0 : Int)))) (.need [(! (o_.fst == t_.snd.fst && o_.snd.fst && o_.snd.snd.fst == t_.snd.snd.fst && decide (o_.snd.snd.snd.fst ≤ t_.snd.snd.snd.snd.fst) && decide (o_.snd.snd.snd.fst ≥ IntKind.i64.wrap (t_.snd.snd.snd.snd.fst - t_.snd.snd.snd.snd.snd.fst)) && decide (o_.snd.snd.snd.snd.fst ≤ t_.snd.snd.snd.snd.snd.snd.snd.snd.snd.fst) && decide (o_.snd.snd.snd.snd.snd ≤ t_.snd.snd.snd.snd.snd.snd.snd.snd.snd.snd.fst)) == ((↑ (v8 k t_ o_).snd.length : Int) == (0 : Int))) = true] (.test (true) (.leaf (res3 false) (bo3 false)) (.test ((v9 k t_ o_ A_.fst A_.snd != (0 : Int) && v9 k t_ o_ A_.fst A_.snd != (31 : Int))) (.need [CC Try.prog 10 (args10 ) [] (res10 (v10 k )) (bo10 (v10 k ))] (.leaf (res3 (v10 k)) (bo3 (v10 k)))) (.cut 12 (placeAt Try.f3 12) (st3_12 ((v9 k t_ o_ A_.fst A_.snd)) true ((↑ (v8 k t_ o_).snd.length : Int)) 0 A_ ((v8 k t_ o_).snd)))))) (.need [(! (o_.fst == t_.snd.fst && o_.snd.fst && o_.snd.snd.fst == t_.snd.snd.fst && decide (o_.snd.snd.snd.fst ≤ t_.snd.snd.snd.snd.fst) && decide (o_.snd.snd.snd.fst ≥ IntKind.i64.wrap (t_.snd.snd.snd.snd.fst - t_.snd.snd.snd.snd.snd.fst)) && decide (o_.snd.snd.snd.snd.fst ≤ t_.snd.snd.snd.snd.snd.snd.snd.snd.snd.fst) && decide (o_.snd.snd.snd.snd.snd ≤ t_.snd.snd.snd.snd.snd.snd.snd.snd.snd.snd.fst)) == ((↑ (v8 k t_ o_).snd.length : Int) == (0 : Int))) = false, CC Try.prog 9 (args9 t_ o_ A_.fst []) [] (res9 (v9 k t_ o_ A_.fst [])) (bo9 (v9 k t_ o_ A_.fst []))] (.test ((false || ! (v9 k t_ o_ A_.fst [] == (0 : Int)) == (o_.fst == t_.snd.fst && o_.snd.fst && o_.snd.snd.fst == t_.snd.snd.fst && decide (o_.snd.snd.snd.fst ≤ t_.snd.snd.snd.snd.fst) && decide (o_.snd.snd.snd.fst ≥ IntKind.i64.wrap (t_.snd.snd.snd.snd.fst - t_.snd.snd.snd.snd.snd.fst)) && decide (o_.snd.snd.snd.snd.fst ≤ t_.snd.snd.snd.snd.snd.snd.snd.snd.snd.fst) && decide (o_.snd.snd.snd.snd.snd ≤ t_.snd.snd.snd.snd.snd.snd.snd.snd.snd.snd.fst)))) (.leaf (res3 false) (bo3 false)) (.test ((v9 k t_ o_ A_.fst A_.snd != (0 : Int) && v9 k t_ o_ A_.fst A_.snd != (31 : Int))) (.need [CC Try.prog 10 (args10 ) [] (res10 (v10 k )) (bo10 (v10 k ))] (.leaf (res3 (v10 k)) (bo3 (v10 k)))) (.cut 12 (placeAt Try.f3 12) (st3_12 ((v9 k t_ o_ A_.fst A_.snd)) true ((↑ (v8 k t_ o_).snd.length : Int)) 0 A_ ((v8 k t_ o_).snd)))))))))) (by kernel_rfl) ?_
  by_cases q : ((f8 k t_ o_).isSome = true)
  · rw [if_pos q] at h
    refine ⟨(conjC (cc8 k t_ o_ q) conj0), ?_⟩
    by_cases q : ((f9 k t_ o_ A_.fst A_.snd).isSome = true)
    · rw [if_pos q] at h
      refine ⟨(conjC (cc9 k t_ o_ A_.fst A_.snd q) conj0), ?_⟩
      refine ⟨fun c => ?_, fun c => ?_⟩
      · rw [cond_t c] at h
        refine ⟨fun c => ?_, fun c => ?_⟩
        · rw [cond_t c] at h
          by_cases q : ((v9 k t_ o_ A_.fst A_.snd == (v8 k t_ o_).fst) = true) ∧ ((f10 k ).isSome = true)
          · rw [if_pos q] at h
            refine ⟨(conjC q.1 (conjC (cc10 k  q.2) conj0)), ?_⟩
            cases h; exact ⟨rfl, rfl⟩
          · rw [if_neg q] at h; cases h
        · rw [cond_f c] at h
          by_cases q : ((v9 k t_ o_ A_.fst A_.snd == (v8 k t_ o_).fst) = false)
          · rw [if_pos q] at h
            refine ⟨(conjC q conj0), ?_⟩
            cases h; exact ⟨rfl, rfl⟩
          · rw [if_neg q] at h; cases h
      · rw [cond_f c] at h
        refine ⟨fun c => ?_, fun c => ?_⟩
        · rw [cond_t c] at h
          by_cases q : ((! (o_.fst == t_.snd.fst && o_.snd.fst && o_.snd.snd.fst == t_.snd.snd.fst && decide (o_.snd.snd.snd.fst ≤ t_.snd.snd.snd.snd.fst) && decide (o_.snd.snd.snd.fst ≥ IntKind.i64.wrap (t_.snd.snd.snd.snd.fst - t_.snd.snd.snd.snd.snd.fst)) && decide (o_.snd.snd.snd.snd.fst ≤ t_.snd.snd.snd.snd.snd.snd.snd.snd.snd.fst) && decide (o_.snd.snd.snd.snd.snd ≤ t_.snd.snd.snd.snd.snd.snd.snd.snd.snd.snd.fst)) == ((↑ (v8 k t_ o_).snd.length : Int) == (0 : Int))) = true)
          · rw [if_pos q] at h
            refine ⟨(conjC q conj0), ?_⟩
            refine ⟨fun c => ?_, fun c => ?_⟩
            rotate_left
            · cases c
            cases h; exact ⟨rfl, rfl⟩
          · rw [if_neg q] at h; cases h
        · rw [cond_f c] at h
          by_cases q : ((! (o_.fst == t_.snd.fst && o_.snd.fst && o_.snd.snd.fst == t_.snd.snd.fst && decide (o_.snd.snd.snd.fst ≤ t_.snd.snd.snd.snd.fst) && decide (o_.snd.snd.snd.fst ≥ IntKind.i64.wrap (t_.snd.snd.snd.snd.fst - t_.snd.snd.snd.snd.snd.fst)) && decide (o_.snd.snd.snd.snd.fst ≤ t_.snd.snd.snd.snd.snd.snd.snd.snd.snd.fst) && decide (o_.snd.snd.snd.snd.snd ≤ t_.snd.snd.snd.snd.snd.snd.snd.snd.snd.snd.fst)) == ((↑ (v8 k t_ o_).snd.length : Int) == (0 : Int))) = false) ∧ ((f9 k t_ o_ A_.fst []).isSome = true)
          · rw [if_pos q] at h
            refine ⟨(conjC q.1 (conjC (cc9 k t_ o_ A_.fst [] q.2) conj0)), ?_⟩
            refine ⟨fun c => ?_, fun c => ?_⟩
            · rw [cond_t c] at h
              cases h; exact ⟨rfl, rfl⟩
            · rw [cond_f c] at h
              refine ⟨fun c => ?_, fun c => ?_⟩
              · rw [cond_t c] at h
                by_cases q : ((f10 k ).isSome = true)
                · rw [if_pos q] at h
                  refine ⟨(conjC (cc10 k  q) conj0), ?_⟩
                  cases h; exact ⟨rfl, rfl⟩
                · rw [if_neg q] at h; cases h
              · rw [cond_f c] at h
                exact (ev3 k k).1 ((v9 k t_ o_ A_.fst A_.snd)) true ((↑ (v8 k t_ o_).snd.length : Int)) 0 A_ ((v8 k t_ o_).snd) _ h
          · rw [if_neg q] at h; cases h
    · rw [if_neg q] at h; cases h
  · rw [if_neg q] at h; cases h
theorem cc3 (k : Nat) (t_ : t23.T) (o_ : t25.T) (A_ : t28.T) (h : (f3 k t_ o_ A_).isSome = true) : CC Try.prog 3 (args3 t_ o_ A_) [] (res3 (v3 k t_ o_ A_)) (bo3 (v3 k t_ o_ A_)) := by
  cases e : f3 k t_ o_ A_ with
  | none => rw [e] at h; cases h
  | some r => rw [show v3 k t_ o_ A_ = r by simp [v3, e]]; exact of3 k t_ o_ A_ r e

end
end Go.AM
namespace Go.AM
open Go Go.Proofs
set_option linter.unusedVariables false
noncomputable section
/-! ### function 24: papermill/papermillref51.Check -/
def K24 (k : Nat) : Calld := ⟨fun g => match g with
  | _ => none, fun g xs _ => match g with
  | _ => none⟩
abbrev R24 : Type := Int
def res24 (r : R24) : AV := .r (.v (.int .i64 r))
def bo24 (r : R24) : List (Nat × Blk) := []
def f24 (k : Nat) (o_ : t23.T) : Option R24 :=
  bif (decide (o_.fst < (1 : Int)) || decide (o_.fst > (1000000 : Int))) then
    some 1
  else
    bif (decide (o_.snd.fst < (0 : Int)) || decide (o_.snd.fst ≥ (16 : Int))) then
      some 22
    else
      bif (decide (o_.snd.snd.fst < (1 : Int)) || decide (o_.snd.snd.fst > (12000 : Int))) then
        some 20
      else
        bif (decide (o_.snd.snd.snd.fst < (1 : Int)) || decide (o_.snd.snd.snd.fst ≥ (2500 : Int)) || decide (o_.snd.snd.snd.snd.fst ≤ o_.snd.snd.snd.fst) || decide (o_.snd.snd.snd.snd.fst > (2500 : Int)) || decide (o_.snd.snd.snd.snd.snd.fst < (0 : Int)) || decide (o_.snd.snd.snd.snd.snd.fst > IntKind.i64.wrap (o_.snd.snd.snd.snd.fst - o_.snd.snd.snd.fst))) then
          some 1
        else
          bif (decide (o_.snd.snd.snd.snd.snd.snd.fst < (1 : Int)) || decide (o_.snd.snd.snd.snd.snd.snd.fst > (1000 : Int)) || decide (o_.snd.snd.snd.snd.snd.snd.snd.fst < (0 : Int)) || decide (o_.snd.snd.snd.snd.snd.snd.snd.fst > (1000 : Int)) || decide (o_.snd.snd.snd.snd.snd.snd.snd.snd.fst < (0 : Int)) || decide (o_.snd.snd.snd.snd.snd.snd.snd.snd.fst > (1000 : Int))) then
            some 1
          else
            bif (decide (o_.snd.snd.snd.snd.snd.snd.snd.snd.snd.fst < (0 : Int)) || decide (o_.snd.snd.snd.snd.snd.snd.snd.snd.snd.fst > (8 : Int)) || decide (o_.snd.snd.snd.snd.snd.snd.snd.snd.snd.snd.fst < (0 : Int)) || decide (o_.snd.snd.snd.snd.snd.snd.snd.snd.snd.snd.fst > (100 : Int)) || decide (o_.snd.snd.snd.snd.snd.snd.snd.snd.snd.snd.snd < (0 : Int)) || decide (o_.snd.snd.snd.snd.snd.snd.snd.snd.snd.snd.snd > (1000000000 : Int))) then
              some 1
            else
              some 0
def args24 (o_ : t23.T) : List AV := [.agg (rvs (enc t23 o_))]
def v24 (k : Nat) (o_ : t23.T) : R24 := (f24 k o_).getD 0
theorem of24 (k : Nat) (o_ : t23.T) (r : R24) (h : f24 k o_ = some r) : CC Try.prog 24 (args24 o_) [] (res24 r) (bo24 r) := by
  refine CC.of (fn := Try.f24) (by kernel_rfl) (by kernel_rfl) (by kernel_rfl) (by kernel_rfl) ?_
  unfold f24 at h
  refine Ev.tree hm (R := Rt) (K := (K24 k)) (l := []) (C := []) (E := [.auto [2] true]) (n := 1000) (T := .test ((decide (o_.fst < (1 : Int)) || decide (o_.fst > (1000000 : Int)))) (.leaf (res24 1) (bo24 1)) (.test ((decide (o_.snd.fst < (0 : Int)) || decide (o_.snd.fst ≥ (16 : Int)))) (.leaf (res24 22) (bo24 22)) (.test ((decide (o_.snd.snd.fst < (1 : Int)) || decide (o_.snd.snd.fst > (12000 : Int)))) (.leaf (res24 20) (bo24 20)) (.test ((decide (o_.snd.snd.snd.fst < (1 : Int)) || decide (o_.snd.snd.snd.fst ≥ (2500 : Int)) || decide (o_.snd.snd.snd.snd.fst ≤ o_.snd.snd.snd.fst) || decide (o_.snd.snd.snd.snd.fst > (2500 : Int)) || decide (o_.snd.snd.snd.snd.snd.fst < (0 : Int)) || decide (o_.snd.snd.snd.snd.snd.fst > IntKind.i64.wrap (o_.snd.snd.snd.snd.fst - o_.snd.snd.snd.fst)))) (.leaf (res24 1) (bo24 1)) (.test ((decide (o_.snd.snd.snd.snd.snd.snd.fst < (1 : Int)) || decide (o_.snd.snd.snd.snd.snd.snd.fst > (1000 : Int)) || decide (o_.snd.snd.snd.snd.snd.snd.snd.fst < (0 : Int)) || decide (o_.snd.snd.snd.snd.snd.snd.snd.fst > (1000 : Int)) || decide (o_.snd.snd.snd.snd.snd.snd.snd.snd.fst < (0 : Int)) || decide (o_.snd.snd.snd.snd.snd.snd.snd.snd.fst > (1000 : Int)))) (.leaf (res24 1) (bo24 1)) (.test ((decide (o_.snd.snd.snd.snd.snd.snd.snd.snd.snd.fst < (0 : Int)) || decide (o_.snd.snd.snd.snd.snd.snd.snd.snd.snd.fst > (8 : Int)) || decide (o_.snd.snd.snd.snd.snd.snd.snd.snd.snd.snd.fst < (0 : Int)) || decide (o_.snd.snd.snd.snd.snd.snd.snd.snd.snd.snd.fst > (100 : Int)) || decide (o_.snd.snd.snd.snd.snd.snd.snd.snd.snd.snd.snd < (0 : Int)) || decide (o_.snd.snd.snd.snd.snd.snd.snd.snd.snd.snd.snd > (1000000000 : Int)))) (.leaf (res24 1) (bo24 1)) (.leaf (res24 0) (bo24 0)))))))) (by kernel_rfl) ?_
  refine ⟨fun c => ?_, fun c => ?_⟩
  · rw [cond_t c] at h
    cases h; exact ⟨rfl, rfl⟩
  · rw [cond_f c] at h
    refine ⟨fun c => ?_, fun c => ?_⟩
    · rw [cond_t c] at h
      cases h; exact ⟨rfl, rfl⟩
    · rw [cond_f c] at h
      refine ⟨fun c => ?_, fun c => ?_⟩
      · rw [cond_t c] at h
        cases h; exact ⟨rfl, rfl⟩
      · rw [cond_f c] at h
        refine ⟨fun c => ?_, fun c => ?_⟩
        · rw [cond_t c] at h
          cases h; exact ⟨rfl, rfl⟩
        · rw [cond_f c] at h
          refine ⟨fun c => ?_, fun c => ?_⟩
          · rw [cond_t c] at h
            cases h; exact ⟨rfl, rfl⟩
          · rw [cond_f c] at h
            refine ⟨fun c => ?_, fun c => ?_⟩
            · rw [cond_t c] at h
              cases h; exact ⟨rfl, rfl⟩
            · rw [cond_f c] at h
              cases h; exact ⟨rfl, rfl⟩
theorem cc24 (k : Nat) (o_ : t23.T) (h : (f24 k o_).isSome = true) : CC Try.prog 24 (args24 o_) [] (res24 (v24 k o_)) (bo24 (v24 k o_)) := by
  cases e : f24 k o_ with
  | none => rw [e] at h; cases h
  | some r => rw [show v24 k o_ = r by simp [v24, e]]; exact of24 k o_ r e

end
end Go.AM
namespace Go.AM
open Go Go.Proofs
set_option linter.unusedVariables false
noncomputable section
/-! ### function 11: papermill/papermillref55.Judge -/
def K11 (k : Nat) : Calld := ⟨fun g => match g with
  | 24 => some [false]
  | _ => none, fun g xs _ => match g with
  | 24 => match xs with
    | [.agg q0] => (decS [] t23 q0).bind fun o_ => some (res24 (v24 k o_), bo24 (v24 k o_))
    | _ => none
  | _ => none⟩
abbrev R11 : Type := Int × List (I).T
def res11 (r : R11) : AV := .tup [.own 0 0, .r (.v (.int .i64 r.1))]
def bo11 (r : R11) : List (Nat × Blk) := [(0, .row 3 I r.2)]
def st11_5 (x0 : t23.T) (x1 : t25.T) : St := ⟨mkS 70 [(2, .ptr 1000000 0 0), (3, .ptr 1000001 0 0), (7, .r (.v (Value.slice none 0 0)))], [(1000000, 0, .var 23 (rvs (enc t23 x0))), (1000001, 0, .var 25 (rvs (enc t25 x1)))]⟩
def st11_7 (x0 : t23.T) (x1 : t25.T) (x2 : List (I).T) : St := ⟨mkS 70 [(2, .ptr 1000000 0 0), (3, .ptr 1000001 0 0), (7, .own 1000002 0)], [(1000000, 0, .var 23 (rvs (enc t23 x0))), (1000001, 0, .var 25 (rvs (enc t25 x1))), (1000002, 0, .row 3 I x2)]⟩
def st11_9 (x0 : t23.T) (x1 : t25.T) (x2 : List (I).T) : St := ⟨mkS 70 [(2, .ptr 1000000 0 0), (3, .ptr 1000001 0 0), (7, .own 1000002 0)], [(1000000, 0, .var 23 (rvs (enc t23 x0))), (1000001, 0, .var 25 (rvs (enc t25 x1))), (1000002, 0, .row 3 I x2)]⟩
def st11_11 (x0 : t23.T) (x1 : t25.T) (x2 : List (I).T) : St := ⟨mkS 70 [(2, .ptr 1000000 0 0), (3, .ptr 1000001 0 0), (7, .own 1000002 0)], [(1000000, 0, .var 23 (rvs (enc t23 x0))), (1000001, 0, .var 25 (rvs (enc t25 x1))), (1000002, 0, .row 3 I x2)]⟩
def st11_13 (x0 : t23.T) (x1 : t25.T) (x2 : List (I).T) : St := ⟨mkS 70 [(2, .ptr 1000000 0 0), (3, .ptr 1000001 0 0), (7, .own 1000002 0)], [(1000000, 0, .var 23 (rvs (enc t23 x0))), (1000001, 0, .var 25 (rvs (enc t25 x1))), (1000002, 0, .row 3 I x2)]⟩
def st11_15 (x0 : t23.T) (x1 : t25.T) (x2 : List (I).T) : St := ⟨mkS 70 [(2, .ptr 1000000 0 0), (3, .ptr 1000001 0 0), (7, .own 1000002 0)], [(1000000, 0, .var 23 (rvs (enc t23 x0))), (1000001, 0, .var 25 (rvs (enc t25 x1))), (1000002, 0, .row 3 I x2)]⟩
def st11_17 (x0 : List (I).T) : St := ⟨mkS 70 [(7, .own 1000000 0)], [(1000000, 0, .row 3 I x0)]⟩
mutual
def f11_5 (k : Nat) : Nat → t23.T → t25.T → Option R11
  | 0, _, _ => none
  | j + 1, x0, x1 =>
    bif (x1.fst != x0.snd.fst) then
      if ([(1 : Int)].length * (8 : Nat) ≤ (140737488355328 : Nat)) then
        f11_7 k j x0 x1 ([1])
      else none
    else
      f11_7 k j x0 x1 ([])
def f11_7 (k : Nat) : Nat → t23.T → t25.T → List (I).T → Option R11
  | 0, _, _, _ => none
  | j + 1, x0, x1, x2 =>
    bif (!x1.snd.fst) then
      if ((x2.length + [(2 : Int)].length) * (8 : Nat) ≤ (140737488355328 : Nat)) then
        f11_9 k j x0 x1 ((x2 ++ [2]))
      else none
    else
      f11_9 k j x0 x1 x2
def f11_9 (k : Nat) : Nat → t23.T → t25.T → List (I).T → Option R11
  | 0, _, _, _ => none
  | j + 1, x0, x1, x2 =>
    bif (x1.snd.snd.fst != x0.snd.snd.fst) then
      if ((x2.length + [(3 : Int)].length) * (8 : Nat) ≤ (140737488355328 : Nat)) then
        f11_11 k j x0 x1 ((x2 ++ [3]))
      else none
    else
      f11_11 k j x0 x1 x2
def f11_11 (k : Nat) : Nat → t23.T → t25.T → List (I).T → Option R11
  | 0, _, _, _ => none
  | j + 1, x0, x1, x2 =>
    bif (decide (x1.snd.snd.snd.fst < IntKind.i64.wrap (x0.snd.snd.snd.snd.fst - x0.snd.snd.snd.snd.snd.fst)) || decide (x1.snd.snd.snd.fst > x0.snd.snd.snd.snd.fst)) then
      if ((x2.length + [(4 : Int)].length) * (8 : Nat) ≤ (140737488355328 : Nat)) then
        f11_13 k j x0 x1 ((x2 ++ [4]))
      else none
    else
      f11_13 k j x0 x1 x2
def f11_13 (k : Nat) : Nat → t23.T → t25.T → List (I).T → Option R11
  | 0, _, _, _ => none
  | j + 1, x0, x1, x2 =>
    bif (decide (x1.snd.snd.snd.snd.fst > x0.snd.snd.snd.snd.snd.snd.snd.snd.snd.fst)) then
      if ((x2.length + [(5 : Int)].length) * (8 : Nat) ≤ (140737488355328 : Nat)) then
        f11_15 k j x0 x1 ((x2 ++ [5]))
      else none
    else
      f11_15 k j x0 x1 x2
def f11_15 (k : Nat) : Nat → t23.T → t25.T → List (I).T → Option R11
  | 0, _, _, _ => none
  | j + 1, x0, x1, x2 =>
    bif (decide (x1.snd.snd.snd.snd.snd > x0.snd.snd.snd.snd.snd.snd.snd.snd.snd.snd.fst)) then
      if ((x2.length + [(6 : Int)].length) * (8 : Nat) ≤ (140737488355328 : Nat)) then
        f11_17 k j ((x2 ++ [6]))
      else none
    else
      f11_17 k j x2
def f11_17 (k : Nat) : Nat → List (I).T → Option R11
  | 0, _ => none
  | j + 1, x0 =>
    some ((0, x0))
end
def f11 (k : Nat) (o_ : t23.T) (f_ : t25.T) : Option R11 :=
  if ((f24 k o_).isSome = true) then
    bif (v24 k o_ != (0 : Int)) then
      some ((v24 k o_, []))
    else
      f11_5 k k o_ f_
  else none
def args11 (o_ : t23.T) (f_ : t25.T) : List AV := [.agg (rvs (enc t23 o_)), .agg (rvs (enc t25 f_))]
def v11 (k : Nat) (o_ : t23.T) (f_ : t25.T) : R11 := (f11 k o_ f_).getD (0, [])
theorem ev11 (k : Nat) : ∀ j, (∀ (x0 : t23.T) (x1 : t25.T) (r : R11), f11_5 k j x0 x1 = some r → Ev Try.prog Try.f11 0 (placeAt Try.f11 5) (st11_5 x0 x1) (res11 r) (bo11 r)) ∧ (∀ (x0 : t23.T) (x1 : t25.T) (x2 : List (I).T) (r : R11), f11_7 k j x0 x1 x2 = some r → Ev Try.prog Try.f11 0 (placeAt Try.f11 7) (st11_7 x0 x1 x2) (res11 r) (bo11 r)) ∧ (∀ (x0 : t23.T) (x1 : t25.T) (x2 : List (I).T) (r : R11), f11_9 k j x0 x1 x2 = some r → Ev Try.prog Try.f11 0 (placeAt Try.f11 9) (st11_9 x0 x1 x2) (res11 r) (bo11 r)) ∧ (∀ (x0 : t23.T) (x1 : t25.T) (x2 : List (I).T) (r : R11), f11_11 k j x0 x1 x2 = some r → Ev Try.prog Try.f11 0 (placeAt Try.f11 11) (st11_11 x0 x1 x2) (res11 r) (bo11 r)) ∧ (∀ (x0 : t23.T) (x1 : t25.T) (x2 : List (I).T) (r : R11), f11_13 k j x0 x1 x2 = some r → Ev Try.prog Try.f11 0 (placeAt Try.f11 13) (st11_13 x0 x1 x2) (res11 r) (bo11 r)) ∧ (∀ (x0 : t23.T) (x1 : t25.T) (x2 : List (I).T) (r : R11), f11_15 k j x0 x1 x2 = some r → Ev Try.prog Try.f11 0 (placeAt Try.f11 15) (st11_15 x0 x1 x2) (res11 r) (bo11 r)) ∧ (∀ (x0 : List (I).T) (r : R11), f11_17 k j x0 = some r → Ev Try.prog Try.f11 0 (placeAt Try.f11 17) (st11_17 x0) (res11 r) (bo11 r))
  | 0 => by
    refine ⟨?_, ?_, ?_, ?_, ?_, ?_, ?_⟩ <;> intros <;> rename_i h <;> simp [f11_5, f11_7, f11_9, f11_11, f11_13, f11_15, f11_17] at h
  | j + 1 => by
    have ih := ev11 k j
    refine ⟨?_, ?_, ?_, ?_, ?_, ?_, ?_⟩
    · intro x0 x1 r h
      rw [f11_5] at h
      refine Ev.tree hm (R := Rt) (K := (K11 k)) (l := [5, 7, 9, 11, 13, 15, 17]) (C := [(5, [.auto [2, 3, 7] false]), (7, [.row 7 3 I, .auto [2, 3, 7] false]), (9, [.auto [2, 3, 7] false]), (11, [.auto [2, 3, 7] false]), (13, [.auto [2, 3, 7] false]), (15, [.auto [2, 3, 7] false]), (17, [.auto [7] false])]) (E := [.row 4 3 I, .auto [4, 5] true]) (n := 1000) (T := .test ((x1.fst != x0.snd.fst)) (.need [[(1 : Int)].length * (8 : Nat) ≤ (140737488355328 : Nat)] (.cut 7 (placeAt Try.f11 7) (st11_7 x0 x1 ([1])))) (.cut 7 (placeAt Try.f11 7) (st11_7 x0 x1 ([])))) (by kernel_rfl) ?_
      refine ⟨fun c => ?_, fun c => ?_⟩
      · rw [cond_t c] at h
        by_cases q : ([(1 : Int)].length * (8 : Nat) ≤ (140737488355328 : Nat))
        · rw [if_pos q] at h
          refine ⟨(conjC q conj0), ?_⟩
          exact ih.2.1 x0 x1 ([1]) _ h
        · rw [if_neg q] at h; cases h
      · rw [cond_f c] at h
        exact ih.2.1 x0 x1 ([]) _ h
    · intro x0 x1 x2 r h
      rw [f11_7] at h
      refine Ev.tree hm (R := Rt) (K := (K11 k)) (l := [5, 7, 9, 11, 13, 15, 17]) (C := [(5, [.auto [2, 3, 7] false]), (7, [.row 7 3 I, .auto [2, 3, 7] false]), (9, [.auto [2, 3, 7] false]), (11, [.auto [2, 3, 7] false]), (13, [.auto [2, 3, 7] false]), (15, [.auto [2, 3, 7] false]), (17, [.auto [7] false])]) (E := [.row 4 3 I, .auto [4, 5] true]) (n := 1000) (T := .test ((!x1.snd.fst)) (.need [(x2.length + [(2 : Int)].length) * (8 : Nat) ≤ (140737488355328 : Nat)] (.cut 9 (placeAt Try.f11 9) (st11_9 x0 x1 ((x2 ++ [2]))))) (.cut 9 (placeAt Try.f11 9) (st11_9 x0 x1 x2))) (by kernel_rfl) ?_
      refine ⟨fun c => ?_, fun c => ?_⟩
      · rw [cond_t c] at h
        by_cases q : ((x2.length + [(2 : Int)].length) * (8 : Nat) ≤ (140737488355328 : Nat))
        · rw [if_pos q] at h
          refine ⟨(conjC q conj0), ?_⟩
          exact ih.2.2.1 x0 x1 ((x2 ++ [2])) _ h
        · rw [if_neg q] at h; cases h
      · rw [cond_f c] at h
        exact ih.2.2.1 x0 x1 x2 _ h
    · intro x0 x1 x2 r h
      rw [f11_9] at h
      refine Ev.tree hm (R := Rt) (K := (K11 k)) (l := [5, 7, 9, 11, 13, 15, 17]) (C := [(5, [.auto [2, 3, 7] false]), (7, [.row 7 3 I, .auto [2, 3, 7] false]), (9, [.auto [2, 3, 7] false]), (11, [.auto [2, 3, 7] false]), (13, [.auto [2, 3, 7] false]), (15, [.auto [2, 3, 7] false]), (17, [.auto [7] false])]) (E := [.row 4 3 I, .auto [4, 5] true]) (n := 1000) (T := .test ((x1.snd.snd.fst != x0.snd.snd.fst)) (.need [(x2.length + [(3 : Int)].length) * (8 : Nat) ≤ (140737488355328 : Nat)] (.cut 11 (placeAt Try.f11 11) (st11_11 x0 x1 ((x2 ++ [3]))))) (.cut 11 (placeAt Try.f11 11) (st11_11 x0 x1 x2))) (by kernel_rfl) ?_
      refine ⟨fun c => ?_, fun c => ?_⟩
      · rw [cond_t c] at h
        by_cases q : ((x2.length + [(3 : Int)].length) * (8 : Nat) ≤ (140737488355328 : Nat))
        · rw [if_pos q] at h
          refine ⟨(conjC q conj0), ?_⟩
          exact ih.2.2.2.1 x0 x1 ((x2 ++ [3])) _ h
        · rw [if_neg q] at h; cases h
      · rw [cond_f c] at h
        exact ih.2.2.2.1 x0 x1 x2 _ h
    · intro x0 x1 x2 r h
      rw [f11_11] at h
      refine Ev.tree hm (R := Rt) (K := (K11 k)) (l := [5, 7, 9, 11, 13, 15, 17]) (C := [(5, [.auto [2, 3, 7] false]), (7, [.row 7 3 I, .auto [2, 3, 7] false]), (9, [.auto [2, 3, 7] false]), (11, [.auto [2, 3, 7] false]), (13, [.auto [2, 3, 7] false]), (15, [.auto [2, 3, 7] false]), (17, [.auto [7] false])]) (E := [.row 4 3 I, .auto [4, 5] true]) (n := 1000) (T := .test ((decide (x1.snd.snd.snd.fst < IntKind.i64.wrap (x0.snd.snd.snd.snd.fst - x0.snd.snd.snd.snd.snd.fst)) || decide (x1.snd.snd.snd.fst > x0.snd.snd.snd.snd.fst))) (.need [(x2.length + [(4 : Int)].length) * (8 : Nat) ≤ (140737488355328 : Nat)] (.cut 13 (placeAt Try.f11 13) (st11_13 x0 x1 ((x2 ++ [4]))))) (.cut 13 (placeAt Try.f11 13) (st11_13 x0 x1 x2))) (by kernel_rfl) ?_
      refine ⟨fun c => ?_, fun c => ?_⟩
      · rw [cond_t c] at h
        by_cases q : ((x2.length + [(4 : Int)].length) * (8 : Nat) ≤ (140737488355328 : Nat))
        · rw [if_pos q] at h
          refine ⟨(conjC q conj0), ?_⟩
          exact ih.2.2.2.2.1 x0 x1 ((x2 ++ [4])) _ h
        · rw [if_neg q] at h; cases h
      · rw [cond_f c] at h
        exact ih.2.2.2.2.1 x0 x1 x2 _ h
    · intro x0 x1 x2 r h
      rw [f11_13] at h
      refine Ev.tree hm (R := Rt) (K := (K11 k)) (l := [5, 7, 9, 11, 13, 15, 17]) (C := [(5, [.auto [2, 3, 7] false]), (7, [.row 7 3 I, .auto [2, 3, 7] false]), (9, [.auto [2, 3, 7] false]), (11, [.auto [2, 3, 7] false]), (13, [.auto [2, 3, 7] false]), (15, [.auto [2, 3, 7] false]), (17, [.auto [7] false])]) (E := [.row 4 3 I, .auto [4, 5] true]) (n := 1000) (T := .test ((decide (x1.snd.snd.snd.snd.fst > x0.snd.snd.snd.snd.snd.snd.snd.snd.snd.fst))) (.need [(x2.length + [(5 : Int)].length) * (8 : Nat) ≤ (140737488355328 : Nat)] (.cut 15 (placeAt Try.f11 15) (st11_15 x0 x1 ((x2 ++ [5]))))) (.cut 15 (placeAt Try.f11 15) (st11_15 x0 x1 x2))) (by kernel_rfl) ?_
      refine ⟨fun c => ?_, fun c => ?_⟩
      · rw [cond_t c] at h
        by_cases q : ((x2.length + [(5 : Int)].length) * (8 : Nat) ≤ (140737488355328 : Nat))
        · rw [if_pos q] at h
          refine ⟨(conjC q conj0), ?_⟩
          exact ih.2.2.2.2.2.1 x0 x1 ((x2 ++ [5])) _ h
        · rw [if_neg q] at h; cases h
      · rw [cond_f c] at h
        exact ih.2.2.2.2.2.1 x0 x1 x2 _ h
    · intro x0 x1 x2 r h
      rw [f11_15] at h
      refine Ev.tree hm (R := Rt) (K := (K11 k)) (l := [5, 7, 9, 11, 13, 15, 17]) (C := [(5, [.auto [2, 3, 7] false]), (7, [.row 7 3 I, .auto [2, 3, 7] false]), (9, [.auto [2, 3, 7] false]), (11, [.auto [2, 3, 7] false]), (13, [.auto [2, 3, 7] false]), (15, [.auto [2, 3, 7] false]), (17, [.auto [7] false])]) (E := [.row 4 3 I, .auto [4, 5] true]) (n := 1000) (T := .test ((decide (x1.snd.snd.snd.snd.snd > x0.snd.snd.snd.snd.snd.snd.snd.snd.snd.snd.fst))) (.need [(x2.length + [(6 : Int)].length) * (8 : Nat) ≤ (140737488355328 : Nat)] (.cut 17 (placeAt Try.f11 17) (st11_17 ((x2 ++ [6]))))) (.cut 17 (placeAt Try.f11 17) (st11_17 x2))) (by kernel_rfl) ?_
      refine ⟨fun c => ?_, fun c => ?_⟩
      · rw [cond_t c] at h
        by_cases q : ((x2.length + [(6 : Int)].length) * (8 : Nat) ≤ (140737488355328 : Nat))
        · rw [if_pos q] at h
          refine ⟨(conjC q conj0), ?_⟩
          exact ih.2.2.2.2.2.2 ((x2 ++ [6])) _ h
        · rw [if_neg q] at h; cases h
      · rw [cond_f c] at h
        exact ih.2.2.2.2.2.2 x2 _ h
    · intro x0 r h
      rw [f11_17] at h
      refine Ev.tree hm (R := Rt) (K := (K11 k)) (l := [5, 7, 9, 11, 13, 15, 17]) (C := [(5, [.auto [2, 3, 7] false]), (7, [.row 7 3 I, .auto [2, 3, 7] false]), (9, [.auto [2, 3, 7] false]), (11, [.auto [2, 3, 7] false]), (13, [.auto [2, 3, 7] false]), (15, [.auto [2, 3, 7] false]), (17, [.auto [7] false])]) (E := [.row 4 3 I, .auto [4, 5] true]) (n := 1000) (T := .leaf (res11 ((0, x0))) (bo11 ((0, x0)))) (by kernel_rfl) ?_
      cases h; exact ⟨rfl, rfl⟩
theorem of11 (k : Nat) (o_ : t23.T) (f_ : t25.T) (r : R11) (h : f11 k o_ f_ = some r) : CC Try.prog 11 (args11 o_ f_) [] (res11 r) (bo11 r) := by
  refine CC.of (fn := Try.f11) (by kernel_rfl) (by kernel_rfl) (by kernel_rfl) (by kernel_rfl) ?_
  unfold f11 at h
  refine Ev.tree hm (R := Rt) (K := (K11 k)) (l := [5, 7, 9, 11, 13, 15, 17]) (C := [(5, [.auto [2, 3, 7] false]), (7, [.row 7 3 I, .auto [2, 3, 7] false]), (9, [.auto [2, 3, 7] false]), (11, [.auto [2, 3, 7] false]), (13, [.auto [2, 3, 7] false]), (15, [.auto [2, 3, 7] false]), (17, [.auto [7] false])]) (E := [.row 4 3 I, .auto [4, 5] true]) (n := 1000) (T := .need [CC Try.prog 24 (args24 o_) [] (res24 (v24 k o_)) (bo24 (v24 k o_))] (.test ((v24 k o_ != (0 : Int))) (.leaf (res11 ((v24 k o_, []))) (bo11 ((v24 k o_, [])))) (.cut 5 (placeAt Try.f11 5) (st11_5 o_ f_)))) (by kernel_rfl) ?_
  by_cases q : ((f24 k o_).isSome = true)
  · rw [if_pos q] at h
    refine ⟨(conjC (cc24 k o_ q) conj0), ?_⟩
    refine ⟨fun c => ?_, fun c => ?_⟩
    · rw [cond_t c] at h
      cases h; exact ⟨rfl, rfl⟩
    · rw [cond_f c] at h
      exact (ev11 k k).1 o_ f_ _ h
  · rw [if_neg q] at h; cases h
theorem cc11 (k : Nat) (o_ : t23.T) (f_ : t25.T) (h : (f11 k o_ f_).isSome = true) : CC Try.prog 11 (args11 o_ f_) [] (res11 (v11 k o_ f_)) (bo11 (v11 k o_ f_)) := by
  cases e : f11 k o_ f_ with
  | none => rw [e] at h; cases h
  | some r => rw [show v11 k o_ f_ = r by simp [v11, e]]; exact of11 k o_ f_ r e

end
end Go.AM
namespace Go.AM
open Go Go.Proofs
set_option linter.unusedVariables false
noncomputable section
/-! ### function 12: papermill/papermilllaw55.ints -/
def K12 (k : Nat) : Calld := ⟨fun g => match g with
  | _ => none, fun g xs _ => match g with
  | _ => none⟩
abbrev R12 : Type := Bool
def res12 (r : R12) : AV := .r (.v (.bool r))
def bo12 (r : R12) : List (Nat × Blk) := []
def st12_4 (x0 : List (I).T) (x1 : List (I).T) (x2 : Int) (x3 : Int) : St := ⟨mkS 26 [(0, .r (.ro I x0)), (1, .r (.ro I x1)), (12, .r (.v (.int .i64 x2))), (13, .r (.v (.int .i64 x3)))], []⟩
def f12_4 (k : Nat) : Nat → List (I).T → List (I).T → Int → Int → Option R12
  | 0, _, _, _, _ => none
  | j + 1, x0, x1, x2, x3 =>
    bif (decide (x3 < x2)) then
      if ((0 : Int) ≤ x3) ∧ (x3 < (↑x0.length : Int)) ∧ ((0 : Int) ≤ x3) ∧ (x3 < (↑x1.length : Int)) then
        bif (x0.getD x3.toNat I.dflt != x1.getD x3.toNat I.dflt) then
          some false
        else
          f12_4 k j x0 x1 x2 ((IntKind.i64.wrap (x3 + 1)))
      else none
    else
      some true
def f12 (k : Nat) (a_ : List (I).T) (b_ : List (I).T) : Option R12 :=
  bif ((↑a_.length : Int) != (↑b_.length : Int)) then
    some false
  else
    f12_4 k k a_ b_ ((↑a_.length : Int)) 0
def args12 (a_ : List (I).T) (b_ : List (I).T) : List AV := [.r (.ro I a_), .r (.ro I b_)]
def v12 (k : Nat) (a_ : List (I).T) (b_ : List (I).T) : R12 := (f12 k a_ b_).getD false
theorem ev12 (k : Nat) : ∀ j, (∀ (x0 : List (I).T) (x1 : List (I).T) (x2 : Int) (x3 : Int) (r : R12), f12_4 k j x0 x1 x2 x3 = some r → Ev Try.prog Try.f12 0 (placeAt Try.f12 4) (st12_4 x0 x1 x2 x3) (res12 r) (bo12 r))
  | 0 => by
    intros; rename_i h; simp [f12_4] at h
  | j + 1 => by
    have ih := ev12 k j
    · intro x0 x1 x2 x3 r h
      rw [f12_4] at h
      refine Ev.tree hm (R := Rt) (K := (K12 k)) (l := []) (C := [(4, [.auto [0, 1, 12, 13] false])]) (E := [.auto [4] true]) (n := 1000) (T := .test ((decide (x3 < x2))) (.need [(0 : Int) ≤ x3, x3 < (↑x0.length : Int), (0 : Int) ≤ x3, x3 < (↑x1.length : Int)] (.test ((x0.getD x3.toNat I.dflt != x1.getD x3.toNat I.dflt)) (.leaf (res12 false) (bo12 false)) (.cut 4 (placeAt Try.f12 4) (st12_4 x0 x1 x2 ((IntKind.i64.wrap (x3 + 1))))))) (.leaf (res12 true) (bo12 true))) (by kernel_rfl) ?_
      refine ⟨fun c => ?_, fun c => ?_⟩
      · rw [cond_t c] at h
        by_cases q : ((0 : Int) ≤ x3) ∧ (x3 < (↑x0.length : Int)) ∧ ((0 : Int) ≤ x3) ∧ (x3 < (↑x1.length : Int))
        · rw [if_pos q] at h
          refine ⟨(conjC q.1 (conjC q.2.1 (conjC q.2.2.1 (conjC q.2.2.2 conj0)))), ?_⟩
          refine ⟨fun c => ?_, fun c => ?_⟩
          · rw [cond_t c] at h
            cases h; exact ⟨rfl, rfl⟩
          · rw [cond_f c] at h
            exact ih x0 x1 x2 ((IntKind.i64.wrap (x3 + 1))) _ h
        · rw [if_neg q] at h; cases h
      · rw [cond_f c] at h
        cases h; exact ⟨rfl, rfl⟩
theorem of12 (k : Nat) (a_ : List (I).T) (b_ : List (I).T) (r : R12) (h : f12 k a_ b_ = some r) : CC Try.prog 12 (args12 a_ b_) [] (res12 r) (bo12 r) := by
  refine CC.of (fn := Try.f12) (by kernel_rfl) (by kernel_rfl) (by kernel_rfl) (by kernel_rfl) ?_
  unfold f12 at h
  refine Ev.tree hm (R := Rt) (K := (K12 k)) (l := []) (C := [(4, [.auto [0, 1, 12, 13] false])]) (E := [.auto [4] true]) (n := 1000) (T := .test (((↑a_.length : Int) != (↑b_.length : Int))) (.leaf (res12 false) (bo12 false)) (.cut 4 (placeAt Try.f12 4) (st12_4 a_ b_ ((↑a_.length : Int)) 0))) (by kernel_rfl) ?_
  refine ⟨fun c => ?_, fun c => ?_⟩
  · rw [cond_t c] at h
    cases h; exact ⟨rfl, rfl⟩
  · rw [cond_f c] at h
    exact (ev12 k k) a_ b_ ((↑a_.length : Int)) 0 _ h
theorem cc12 (k : Nat) (a_ : List (I).T) (b_ : List (I).T) (h : (f12 k a_ b_).isSome = true) : CC Try.prog 12 (args12 a_ b_) [] (res12 (v12 k a_ b_)) (bo12 (v12 k a_ b_)) := by
  cases e : f12 k a_ b_ with
  | none => rw [e] at h; cases h
  | some r => rw [show v12 k a_ b_ = r by simp [v12, e]]; exact of12 k a_ b_ r e

end
end Go.AM
namespace Go.AM
open Go Go.Proofs
set_option linter.unusedVariables false
noncomputable section
/-! ### function 4: papermill/papermilllaw55.ReleaseJudges -/
def K4 (k : Nat) : Calld := ⟨fun g => match g with
  | 8 => some [false, false]
  | 10 => some []
  | 11 => some [false, false]
  | 12 => some [false, false]
  | _ => none, fun g xs _ => match g with
  | 8 => match xs with
    | [.agg q0, .agg q1] => (decS [] t23 q0).bind fun o_ => (decS [] t25 q1).bind fun f_ => some (res8 (v8 k o_ f_), bo8 (v8 k o_ f_))
    | _ => none
  | 10 => match xs with
    | [] => some (res10 (v10 k ), bo10 (v10 k ))
    | _ => none
  | 11 => match xs with
    | [.agg q0, .agg q1] => (decS [] t23 q0).bind fun o_ => (decS [] t25 q1).bind fun f_ => some (res11 (v11 k o_ f_), bo11 (v11 k o_ f_))
    | _ => none
  | 12 => match xs with
    | [.r (.ro t0_ q0), .r (.ro t1_ q1)] => (castL t0_ I q0).bind fun a_ => (castL t1_ I q1).bind fun b_ => some (res12 (v12 k a_ b_), bo12 (v12 k a_ b_))
    | _ => none
  | _ => none⟩
abbrev R4 : Type := Bool
def res4 (r : R4) : AV := .r (.v (.bool r))
def bo4 (r : R4) : List (Nat × Blk) := []
def f4 (k : Nat) (o_ : t23.T) (f_ : t25.T) : Option R4 :=
  if ((f8 k o_ f_).isSome = true) then
    if ((f11 k o_ f_).isSome = true) then
      bif (v12 k (v8 k o_ f_).snd (v11 k o_ f_).snd && (v8 k o_ f_).fst == (v11 k o_ f_).fst) then
        if ((f12 k (v8 k o_ f_).snd (v11 k o_ f_).snd).isSome = true) ∧ ((v12 k (v8 k o_ f_).snd (v11 k o_ f_).snd && (v8 k o_ f_).fst == (v11 k o_ f_).fst) = true) ∧ ((f10 k ).isSome = true) then
          some (true && v10 k)
        else none
      else
        if ((f12 k (v8 k o_ f_).snd (v11 k o_ f_).snd).isSome = true) ∧ ((v12 k (v8 k o_ f_).snd (v11 k o_ f_).snd && (v8 k o_ f_).fst == (v11 k o_ f_).fst) = false) then
          some false
        else none
    else none
  else none
def args4 (o_ : t23.T) (f_ : t25.T) : List AV := [.agg (rvs (enc t23 o_)), .agg (rvs (enc t25 f_))]
def v4 (k : Nat) (o_ : t23.T) (f_ : t25.T) : R4 := (f4 k o_ f_).getD false
theorem of4 (k : Nat) (o_ : t23.T) (f_ : t25.T) (r : R4) (h : f4 k o_ f_ = some r) : CC Try.prog 4 (args4 o_ f_) [] (res4 r) (bo4 r) := by
  refine CC.of (fn := Try.f4) (by kernel_rfl) (by kernel_rfl) (by kernel_rfl) (by kernel_rfl) ?_
  unfold f4 at h
  refine Ev.tree hm (R := Rt) (K := (K4 k)) (l := []) (C := []) (E := [.auto [4] true]) (n := 1000) (T := .need [CC Try.prog 8 (args8 o_ f_) [] (res8 (v8 k o_ f_)) (bo8 (v8 k o_ f_))] (.need [CC Try.prog 11 (args11 o_ f_) [] (res11 (v11 k o_ f_)) (bo11 (v11 k o_ f_))] (.test ((v12 k (v8 k o_ f_).snd (v11 k o_ f_).snd && (v8 k o_ f_).fst == (v11 k o_ f_).fst)) (.need [CC Try.prog 12 (args12 (v8 k o_ f_).snd (v11 k o_ f_).snd) [] (res12 (v12 k (v8 k o_ f_).snd (v11 k o_ f_).snd)) (bo12 (v12 k (v8 k o_ f_).snd (v11 k o_ f_).snd)), (v12 k (v8 k o_ f_).snd (v11 k o_ f_).snd && (v8 k o_ f_).fst == (v11 k o_ f_).fst) = true, CC Try.prog 10 (args10 ) [] (res10 (v10 k )) (bo10 (v10 k ))] (.leaf (res4 (true && v10 k)) (bo4 (true && v10 k)))) (.need [CC Try.prog 12 (args12 (v8 k o_ f_).snd (v11 k o_ f_).snd) [] (res12 (v12 k (v8 k o_ f_).snd (v11 k o_ f_).snd)) (bo12 (v12 k (v8 k o_ f_).snd (v11 k o_ f_).snd)), (v12 k (v8 k o_ f_).snd (v11 k o_ f_).snd && (v8 k o_ f_).fst == (v11 k o_ f_).fst) = false] (.leaf (res4 false) (bo4 false)))))) (by kernel_rfl) ?_
  by_cases q : ((f8 k o_ f_).isSome = true)
  · rw [if_pos q] at h
    refine ⟨(conjC (cc8 k o_ f_ q) conj0), ?_⟩
    by_cases q : ((f11 k o_ f_).isSome = true)
    · rw [if_pos q] at h
      refine ⟨(conjC (cc11 k o_ f_ q) conj0), ?_⟩
      refine ⟨fun c => ?_, fun c => ?_⟩
      · rw [cond_t c] at h
        by_cases q : ((f12 k (v8 k o_ f_).snd (v11 k o_ f_).snd).isSome = true) ∧ ((v12 k (v8 k o_ f_).snd (v11 k o_ f_).snd && (v8 k o_ f_).fst == (v11 k o_ f_).fst) = true) ∧ ((f10 k ).isSome = true)
        · rw [if_pos q] at h
          refine ⟨(conjC (cc12 k (v8 k o_ f_).snd (v11 k o_ f_).snd q.1) (conjC q.2.1 (conjC (cc10 k  q.2.2) conj0))), ?_⟩
          cases h; exact ⟨rfl, rfl⟩
        · rw [if_neg q] at h; cases h
      · rw [cond_f c] at h
        by_cases q : ((f12 k (v8 k o_ f_).snd (v11 k o_ f_).snd).isSome = true) ∧ ((v12 k (v8 k o_ f_).snd (v11 k o_ f_).snd && (v8 k o_ f_).fst == (v11 k o_ f_).fst) = false)
        · rw [if_pos q] at h
          refine ⟨(conjC (cc12 k (v8 k o_ f_).snd (v11 k o_ f_).snd q.1) (conjC q.2 conj0)), ?_⟩
          cases h; exact ⟨rfl, rfl⟩
        · rw [if_neg q] at h; cases h
    · rw [if_neg q] at h; cases h
  · rw [if_neg q] at h; cases h
theorem cc4 (k : Nat) (o_ : t23.T) (f_ : t25.T) (h : (f4 k o_ f_).isSome = true) : CC Try.prog 4 (args4 o_ f_) [] (res4 (v4 k o_ f_)) (bo4 (v4 k o_ f_)) := by
  cases e : f4 k o_ f_ with
  | none => rw [e] at h; cases h
  | some r => rw [show v4 k o_ f_ = r by simp [v4, e]]; exact of4 k o_ f_ r e

end
end Go.AM
namespace Go.AM
open Go Go.Proofs
set_option linter.unusedVariables false
noncomputable section
/-! ### function 14: papermill/papermillref55.Missing -/
def K14 (k : Nat) : Calld := ⟨fun g => match g with
  | 11 => some [false, false]
  | _ => none, fun g xs _ => match g with
  | 11 => match xs with
    | [.agg q0, .agg q1] => (decS [] t23 q0).bind fun o_ => (decS [] t25 q1).bind fun f_ => some (res11 (v11 k o_ f_), bo11 (v11 k o_ f_))
    | _ => none
  | _ => none⟩
abbrev R14 : Type := Int × List (I).T
def res14 (r : R14) : AV := .tup [.own 0 0, .r (.v (.int .i64 r.1))]
def bo14 (r : R14) : List (Nat × Blk) := [(0, .row 3 I r.2)]
def st14_7 (x0 : Int) (x1 : List (t36).T) (x2 : Int) (x3 : List (I).T) : St := ⟨mkS 121 [(2, .r (.v (.int .i64 x0))), (3, .r (.ro t36 x1)), (10, .own 1000000 0), (12, .r (.v (.int .i64 x2)))], [(1000000, 0, .row 3 I x3)]⟩
def st14_17 (x0 : Int) (x1 : List (t36).T) (x2 : Int) (x3 : List (I).T) (x4 : List (I).T) : St := ⟨mkS 121 [(2, .r (.v (.int .i64 x0))), (3, .r (.ro t36 x1)), (10, .own 1000000 0), (13, .own 1000001 0), (14, .r (.v (.int .i64 x2)))], [(1000000, 0, .row 3 I x3), (1000001, 0, .row 3 I x4)]⟩
def st14_18 (x0 : Int) (x1 : List (t36).T) (x2 : Int) (x3 : List (I).T) (x4 : List (I).T) : St := ⟨mkS 121 [(2, .r (.v (.int .i64 x0))), (3, .r (.ro t36 x1)), (10, .own 1000000 0), (13, .own 1000001 0), (14, .r (.v (.int .i64 x2)))], [(1000000, 0, .row 3 I x3), (1000001, 0, .row 3 I x4)]⟩
def st14_21 (x0 : Int) (x1 : List (t36).T) (x2 : Int) (x3 : Bool) (x4 : Int) (x5 : List (I).T) (x6 : List (I).T) : St := ⟨mkS 121 [(2, .r (.v (.int .i64 x0))), (3, .r (.ro t36 x1)), (10, .own 1000000 0), (13, .own 1000001 0), (14, .r (.v (.int .i64 x2))), (15, .r (.v (.bool x3))), (16, .r (.v (.int .i64 x4)))], [(1000000, 0, .row 3 I x5), (1000001, 0, .row 3 I x6)]⟩
mutual
def f14_7 (k : Nat) : Nat → Int → List (t36).T → Int → List (I).T → Option R14
  | 0, _, _, _, _ => none
  | j + 1, x0, x1, x2, x3 =>
    bif (decide (x2 < (↑x1.length : Int))) then
      if ((0 : Int) ≤ x2) ∧ (x2 < (↑x1.length : Int)) ∧ (decide ((x1.getD x2.toNat t36.dflt).fst < (1 : Int)) = false → (0 : Int) ≤ x2) ∧ (decide ((x1.getD x2.toNat t36.dflt).fst < (1 : Int)) = false → x2 < (↑x1.length : Int)) then
        bif (decide ((x1.getD x2.toNat t36.dflt).fst < (1 : Int)) || decide ((x1.getD x2.toNat t36.dflt).fst > (1000000 : Int))) then
          some ((1, []))
        else
          if ((0 : Int) ≤ x2) ∧ (x2 < (↑x1.length : Int)) ∧ (decide ((x1.getD x2.toNat t36.dflt).snd.fst < (1 : Int)) = false → (0 : Int) ≤ x2) ∧ (decide ((x1.getD x2.toNat t36.dflt).snd.fst < (1 : Int)) = false → x2 < (↑x1.length : Int)) then
            bif (decide ((x1.getD x2.toNat t36.dflt).snd.fst < (1 : Int)) || decide ((x1.getD x2.toNat t36.dflt).snd.fst > (6 : Int))) then
              some ((17, []))
            else
              if ((0 : Int) ≤ x2) ∧ (x2 < (↑x1.length : Int)) ∧ (decide ((x1.getD x2.toNat t36.dflt).snd.snd < (0 : Int)) = false → (0 : Int) ≤ x2) ∧ (decide ((x1.getD x2.toNat t36.dflt).snd.snd < (0 : Int)) = false → x2 < (↑x1.length : Int)) then
                bif (decide ((x1.getD x2.toNat t36.dflt).snd.snd < (0 : Int)) || decide ((x1.getD x2.toNat t36.dflt).snd.snd > (2147483647 : Int))) then
                  some ((1, []))
                else
                  f14_7 k j x0 x1 ((IntKind.i64.wrap (x2 + 1))) x3
              else none
          else none
      else none
    else
      f14_17 k j x0 x1 0 x3 ([])
def f14_17 (k : Nat) : Nat → Int → List (t36).T → Int → List (I).T → List (I).T → Option R14
  | 0, _, _, _, _, _ => none
  | j + 1, x0, x1, x2, x3, x4 =>
    bif (decide (x2 < (↑x3.length : Int))) then
      f14_21 k j x0 x1 x2 false 0 x3 x4
    else
      some ((0, x4))
def f14_18 (k : Nat) : Nat → Int → List (t36).T → Int → List (I).T → List (I).T → Option R14
  | 0, _, _, _, _, _ => none
  | j + 1, x0, x1, x2, x3, x4 =>
    f14_17 k j x0 x1 ((IntKind.i64.wrap (x2 + 1))) x3 x4
def f14_21 (k : Nat) : Nat → Int → List (t36).T → Int → Bool → Int → List (I).T → List (I).T → Option R14
  | 0, _, _, _, _, _, _, _ => none
  | j + 1, x0, x1, x2, x3, x4, x5, x6 =>
    bif (decide (x4 < (↑x1.length : Int))) then
      if (x3 = false → (0 : Int) ≤ x4) ∧ (x3 = false → x4 < (↑x1.length : Int)) ∧ (((x1.getD x4.toNat t36.dflt).fst == x0) = true → (0 : Int) ≤ x4) ∧ (((x1.getD x4.toNat t36.dflt).fst == x0) = true → x4 < (↑x1.length : Int)) ∧ (((x1.getD x4.toNat t36.dflt).fst == x0) = true → (0 : Int) ≤ x2) ∧ (((x1.getD x4.toNat t36.dflt).fst == x0) = true → x2 < (↑x5.length : Int)) then
        f14_21 k j x0 x1 x2 ((x3 || (x1.getD x4.toNat t36.dflt).fst == x0 && (x1.getD x4.toNat t36.dflt).snd.fst == x5.getD x2.toNat I.dflt)) ((IntKind.i64.wrap (x4 + 1))) x5 x6
      else none
    else
      bif (!x3) then
        if ((0 : Int) ≤ x2) ∧ (x2 < (↑x5.length : Int)) ∧ ((x6.length + [x5.getD x2.toNat I.dflt].length) * (8 : Nat) ≤ (140737488355328 : Nat)) then
          f14_18 k j x0 x1 x2 x5 ((x6 ++ [x5.getD x2.toNat I.dflt]))
        else none
      else
        f14_18 k j x0 x1 x2 x5 x6
end
def f14 (k : Nat) (o_ : t23.T) (f_ : t25.T) (roll_ : Int) (l_ : List (t36).T) : Option R14 :=
  if ((f11 k o_ f_).isSome = true) then
    bif ((v11 k o_ f_).fst != (0 : Int)) then
      some (((v11 k o_ f_).fst, []))
    else
      bif (decide ((↑l_.length : Int) > (512 : Int))) then
        some ((8, []))
      else
        f14_7 k k roll_ l_ 0 ((v11 k o_ f_).snd)
  else none
def args14 (o_ : t23.T) (f_ : t25.T) (roll_ : Int) (l_ : List (t36).T) : List AV := [.agg (rvs (enc t23 o_)), .agg (rvs (enc t25 f_)), .r (.v (.int .i64 roll_)), .r (.ro t36 l_)]
def v14 (k : Nat) (o_ : t23.T) (f_ : t25.T) (roll_ : Int) (l_ : List (t36).T) : R14 := (f14 k o_ f_ roll_ l_).getD (0, [])
theorem ev14 (k : Nat) : ∀ j, (∀ (x0 : Int) (x1 : List (t36).T) (x2 : Int) (x3 : List (I).T) (r : R14), f14_7 k j x0 x1 x2 x3 = some r → Ev Try.prog Try.f14 0 (placeAt Try.f14 7) (st14_7 x0 x1 x2 x3) (res14 r) (bo14 r)) ∧ (∀ (x0 : Int) (x1 : List (t36).T) (x2 : Int) (x3 : List (I).T) (x4 : List (I).T) (r : R14), f14_17 k j x0 x1 x2 x3 x4 = some r → Ev Try.prog Try.f14 0 (placeAt Try.f14 17) (st14_17 x0 x1 x2 x3 x4) (res14 r) (bo14 r)) ∧ (∀ (x0 : Int) (x1 : List (t36).T) (x2 : Int) (x3 : List (I).T) (x4 : List (I).T) (r : R14), f14_18 k j x0 x1 x2 x3 x4 = some r → Ev Try.prog Try.f14 0 (placeAt Try.f14 18) (st14_18 x0 x1 x2 x3 x4) (res14 r) (bo14 r)) ∧ (∀ (x0 : Int) (x1 : List (t36).T) (x2 : Int) (x3 : Bool) (x4 : Int) (x5 : List (I).T) (x6 : List (I).T) (r : R14), f14_21 k j x0 x1 x2 x3 x4 x5 x6 = some r → Ev Try.prog Try.f14 0 (placeAt Try.f14 21) (st14_21 x0 x1 x2 x3 x4 x5 x6) (res14 r) (bo14 r))
  | 0 => by
    refine ⟨?_, ?_, ?_, ?_⟩ <;> intros <;> rename_i h <;> simp [f14_7, f14_17, f14_18, f14_21] at h
  | j + 1 => by
    have ih := ev14 k j
    refine ⟨?_, ?_, ?_, ?_⟩
    · intro x0 x1 x2 x3 r h
      rw [f14_7] at h
      refine Ev.tree hm (R := Rt) (K := (K14 k)) (l := [18]) (C := [(7, [.auto [2, 3, 10, 12] false]), (17, [.row 13 3 I, .auto [2, 3, 10, 13, 14] false]), (18, [.row 13 3 I, .auto [2, 3, 10, 13, 14] false]), (21, [.auto [2, 3, 10, 13, 14, 15, 16] false])]) (E := [.row 8 3 I, .auto [8, 9] true]) (n := 1000) (T := .test ((decide (x2 < (↑x1.length : Int)))) (.need [(0 : Int) ≤ x2, x2 < (↑x1.length : Int), decide ((x1.getD x2.toNat t36.dflt).fst < (1 : Int)) = false → (0 : Int) ≤ x2, decide ((x1.getD x2.toNat t36.dflt).fst < (1 : Int)) = false → x2 < (↑x1.length : Int)] (.test ((decide ((x1.getD x2.toNat t36.dflt).fst < (1 : Int)) || decide ((x1.getD x2.toNat t36.dflt).fst > (1000000 : Int)))) (.leaf (res14 ((1, []))) (bo14 ((1, [])))) (.need [(0 : Int) ≤ x2, x2 < (↑x1.length : Int), decide ((x1.getD x2.toNat t36.dflt).snd.fst < (1 : Int)) = false → (0 : Int) ≤ x2, decide ((x1.getD x2.toNat t36.dflt).snd.fst < (1 : Int)) = false → x2 < (↑x1.length : Int)] (.test ((decide ((x1.getD x2.toNat t36.dflt).snd.fst < (1 : Int)) || decide ((x1.getD x2.toNat t36.dflt).snd.fst > (6 : Int)))) (.leaf (res14 ((17, []))) (bo14 ((17, [])))) (.need [(0 : Int) ≤ x2, x2 < (↑x1.length : Int), decide ((x1.getD x2.toNat t36.dflt).snd.snd < (0 : Int)) = false → (0 : Int) ≤ x2, decide ((x1.getD x2.toNat t36.dflt).snd.snd < (0 : Int)) = false → x2 < (↑x1.length : Int)] (.test ((decide ((x1.getD x2.toNat t36.dflt).snd.snd < (0 : Int)) || decide ((x1.getD x2.toNat t36.dflt).snd.snd > (2147483647 : Int)))) (.leaf (res14 ((1, []))) (bo14 ((1, [])))) (.cut 7 (placeAt Try.f14 7) (st14_7 x0 x1 ((IntKind.i64.wrap (x2 + 1))) x3)))))))) (.cut 17 (placeAt Try.f14 17) (st14_17 x0 x1 0 x3 ([])))) (by kernel_rfl) ?_
      refine ⟨fun c => ?_, fun c => ?_⟩
      · rw [cond_t c] at h
        by_cases q : ((0 : Int) ≤ x2) ∧ (x2 < (↑x1.length : Int)) ∧ (decide ((x1.getD x2.toNat t36.dflt).fst < (1 : Int)) = false → (0 : Int) ≤ x2) ∧ (decide ((x1.getD x2.toNat t36.dflt).fst < (1 : Int)) = false → x2 < (↑x1.length : Int))
        · rw [if_pos q] at h
          refine ⟨(conjC q.1 (conjC q.2.1 (conjC q.2.2.1 (conjC q.2.2.2 conj0)))), ?_⟩
          refine ⟨fun c => ?_, fun c => ?_⟩
          · rw [cond_t c] at h
            cases h; exact ⟨rfl, rfl⟩
          · rw [cond_f c] at h
            by_cases q : ((0 : Int) ≤ x2) ∧ (x2 < (↑x1.length : Int)) ∧ (decide ((x1.getD x2.toNat t36.dflt).snd.fst < (1 : Int)) = false → (0 : Int) ≤ x2) ∧ (decide ((x1.getD x2.toNat t36.dflt).snd.fst < (1 : Int)) = false → x2 < (↑x1.length : Int))
            · rw [if_pos q] at h
              refine ⟨(conjC q.1 (conjC q.2.1 (conjC q.2.2.1 (conjC q.2.2.2 conj0)))), ?_⟩
              refine ⟨fun c => ?_, fun c => ?_⟩
              · rw [cond_t c] at h
                cases h; exact ⟨rfl, rfl⟩
              · rw [cond_f c] at h
                by_cases q : ((0 : Int) ≤ x2) ∧ (x2 < (↑x1.length : Int)) ∧ (decide ((x1.getD x2.toNat t36.dflt).snd.snd < (0 : Int)) = false → (0 : Int) ≤ x2) ∧ (decide ((x1.getD x2.toNat t36.dflt).snd.snd < (0 : Int)) = false → x2 < (↑x1.length : Int))
                · rw [if_pos q] at h
                  refine ⟨(conjC q.1 (conjC q.2.1 (conjC q.2.2.1 (conjC q.2.2.2 conj0)))), ?_⟩
                  refine ⟨fun c => ?_, fun c => ?_⟩
                  · rw [cond_t c] at h
                    cases h; exact ⟨rfl, rfl⟩
                  · rw [cond_f c] at h
                    exact ih.1 x0 x1 ((IntKind.i64.wrap (x2 + 1))) x3 _ h
                · rw [if_neg q] at h; cases h
            · rw [if_neg q] at h; cases h
        · rw [if_neg q] at h; cases h
      · rw [cond_f c] at h
        exact ih.2.1 x0 x1 0 x3 ([]) _ h
    · intro x0 x1 x2 x3 x4 r h
      rw [f14_17] at h
      refine Ev.tree hm (R := Rt) (K := (K14 k)) (l := [18]) (C := [(7, [.auto [2, 3, 10, 12] false]), (17, [.row 13 3 I, .auto [2, 3, 10, 13, 14] false]), (18, [.row 13 3 I, .auto [2, 3, 10, 13, 14] false]), (21, [.auto [2, 3, 10, 13, 14, 15, 16] false])]) (E := [.row 8 3 I, .auto [8, 9] true]) (n := 1000) (T := .test ((decide (x2 < (↑x3.length : Int)))) (.cut 21 (placeAt Try.f14 21) (st14_21 x0 x1 x2 false 0 x3 x4)) (.leaf (res14 ((0, x4))) (bo14 ((0, x4))))) (by kernel_rfl) ?_
      refine ⟨fun c => ?_, fun c => ?_⟩
      · rw [cond_t c] at h
        exact ih.2.2.2 x0 x1 x2 false 0 x3 x4 _ h
      · rw [cond_f c] at h
        cases h; exact ⟨rfl, rfl⟩
    · intro x0 x1 x2 x3 x4 r h
      rw [f14_18] at h
      refine Ev.tree hm (R := Rt) (K := (K14 k)) (l := [18]) (C := [(7, [.auto [2, 3, 10, 12] false]), (17, [.row 13 3 I, .auto [2, 3, 10, 13, 14] false]), (18, [.row 13 3 I, .auto [2, 3, 10, 13, 14] false]), (21, [.auto [2, 3, 10, 13, 14, 15, 16] false])]) (E := [.row 8 3 I, .auto [8, 9] true]) (n := 1000) (T := .cut 17 (placeAt Try.f14 17) (st14_17 x0 x1 ((IntKind.i64.wrap (x2 + 1))) x3 x4)) (by kernel_rfl) ?_
      exact ih.2.1 x0 x1 ((IntKind.i64.wrap (x2 + 1))) x3 x4 _ h
    · intro x0 x1 x2 x3 x4 x5 x6 r h
      rw [f14_21] at h
      refine Ev.tree hm (R := Rt) (K := (K14 k)) (l := [18]) (C := [(7, [.auto [2, 3, 10, 12] false]), (17, [.row 13 3 I, .auto [2, 3, 10, 13, 14] false]), (18, [.row 13 3 I, .auto [2, 3, 10, 13, 14] false]), (21, [.auto [2, 3, 10, 13, 14, 15, 16] false])]) (E := [.row 8 3 I, .auto [8, 9] true]) (n := 1000) (T := .test ((decide (x4 < (↑x1.length : Int)))) (.need [x3 = false → (0 : Int) ≤ x4, x3 = false → x4 < (↑x1.length : Int), ((x1.getD x4.toNat t36.dflt).fst == x0) = true → (0 : Int) ≤ x4, ((x1.getD x4.toNat t36.dflt).fst == x0) = true → x4 < (↑x1.length : Int), ((x1.getD x4.toNat t36.dflt).fst == x0) = true → (0 : Int) ≤ x2, ((x1.getD x4.toNat t36.dflt).fst == x0) = true → x2 < (↑x5.length : Int)] (.cut 21 (placeAt Try.f14 21) (st14_21 x0 x1 x2 ((x3 || (x1.getD x4.toNat t36.dflt).fst == x0 && (x1.getD x4.toNat t36.dflt).snd.fst == x5.getD x2.toNat I.dflt)) ((IntKind.i64.wrap (x4 + 1))) x5 x6))) (.test ((!x3)) (.need [(0 : Int) ≤ x2, x2 < (↑x5.length : Int), (x6.length + [x5.getD x2.toNat I.dflt].length) * (8 : Nat) ≤ (140737488355328 : Nat)] (.cut 18 (placeAt Try.f14 18) (st14_18 x0 x1 x2 x5 ((x6 ++ [x5.getD x2.toNat I.dflt]))))) (.cut 18 (placeAt Try.f14 18) (st14_18 x0 x1 x2 x5 x6)))) (by kernel_rfl) ?_
      refine ⟨fun c => ?_, fun c => ?_⟩
      · rw [cond_t c] at h
        by_cases q : (x3 = false → (0 : Int) ≤ x4) ∧ (x3 = false → x4 < (↑x1.length : Int)) ∧ (((x1.getD x4.toNat t36.dflt).fst == x0) = true → (0 : Int) ≤ x4) ∧ (((x1.getD x4.toNat t36.dflt).fst == x0) = true → x4 < (↑x1.length : Int)) ∧ (((x1.getD x4.toNat t36.dflt).fst == x0) = true → (0 : Int) ≤ x2) ∧ (((x1.getD x4.toNat t36.dflt).fst == x0) = true → x2 < (↑x5.length : Int))
        · rw [if_pos q] at h
          refine ⟨(conjC q.1 (conjC q.2.1 (conjC q.2.2.1 (conjC q.2.2.2.1 (conjC q.2.2.2.2.1 (conjC q.2.2.2.2.2 conj0)))))), ?_⟩
          exact ih.2.2.2 x0 x1 x2 ((x3 || (x1.getD x4.toNat t36.dflt).fst == x0 && (x1.getD x4.toNat t36.dflt).snd.fst == x5.getD x2.toNat I.dflt)) ((IntKind.i64.wrap (x4 + 1))) x5 x6 _ h
        · rw [if_neg q] at h; cases h
      · rw [cond_f c] at h
        refine ⟨fun c => ?_, fun c => ?_⟩
        · rw [cond_t c] at h
          by_cases q : ((0 : Int) ≤ x2) ∧ (x2 < (↑x5.length : Int)) ∧ ((x6.length + [x5.getD x2.toNat I.dflt].length) * (8 : Nat) ≤ (140737488355328 : Nat))
          · rw [if_pos q] at h
            refine ⟨(conjC q.1 (conjC q.2.1 (conjC q.2.2 conj0))), ?_⟩
            exact ih.2.2.1 x0 x1 x2 x5 ((x6 ++ [x5.getD x2.toNat I.dflt])) _ h
          · rw [if_neg q] at h; cases h
        · rw [cond_f c] at h
          exact ih.2.2.1 x0 x1 x2 x5 x6 _ h
theorem of14 (k : Nat) (o_ : t23.T) (f_ : t25.T) (roll_ : Int) (l_ : List (t36).T) (r : R14) (h : f14 k o_ f_ roll_ l_ = some r) : CC Try.prog 14 (args14 o_ f_ roll_ l_) [] (res14 r) (bo14 r) := by
  refine CC.of (fn := Try.f14) (by kernel_rfl) (by kernel_rfl) (by kernel_rfl) (by kernel_rfl) ?_
  unfold f14 at h
  refine Ev.tree hm (R := Rt) (K := (K14 k)) (l := [18]) (C := [(7, [.auto [2, 3, 10, 12] false]), (17, [.row 13 3 I, .auto [2, 3, 10, 13, 14] false]), (18, [.row 13 3 I, .auto [2, 3, 10, 13, 14] false]), (21, [.auto [2, 3, 10, 13, 14, 15, 16] false])]) (E := [.row 8 3 I, .auto [8, 9] true]) (n := 1000) (T := .need [CC Try.prog 11 (args11 o_ f_) [] (res11 (v11 k o_ f_)) (bo11 (v11 k o_ f_))] (.test (((v11 k o_ f_).fst != (0 : Int))) (.leaf (res14 (((v11 k o_ f_).fst, []))) (bo14 (((v11 k o_ f_).fst, [])))) (.test ((decide ((↑l_.length : Int) > (512 : Int)))) (.leaf (res14 ((8, []))) (bo14 ((8, [])))) (.cut 7 (placeAt Try.f14 7) (st14_7 roll_ l_ 0 ((v11 k o_ f_).snd)))))) (by kernel_rfl) ?_
  by_cases q : ((f11 k o_ f_).isSome = true)
  · rw [if_pos q] at h
    refine ⟨(conjC (cc11 k o_ f_ q) conj0), ?_⟩
    refine ⟨fun c => ?_, fun c => ?_⟩
    · rw [cond_t c] at h
      cases h; exact ⟨rfl, rfl⟩
    · rw [cond_f c] at h
      refine ⟨fun c => ?_, fun c => ?_⟩
      · rw [cond_t c] at h
        cases h; exact ⟨rfl, rfl⟩
      · rw [cond_f c] at h
        exact (ev14 k k).1 roll_ l_ 0 ((v11 k o_ f_).snd) _ h
  · rw [if_neg q] at h; cases h
theorem cc14 (k : Nat) (o_ : t23.T) (f_ : t25.T) (roll_ : Int) (l_ : List (t36).T) (h : (f14 k o_ f_ roll_ l_).isSome = true) : CC Try.prog 14 (args14 o_ f_ roll_ l_) [] (res14 (v14 k o_ f_ roll_ l_)) (bo14 (v14 k o_ f_ roll_ l_)) := by
  cases e : f14 k o_ f_ roll_ l_ with
  | none => rw [e] at h; cases h
  | some r => rw [show v14 k o_ f_ roll_ l_ = r by simp [v14, e]]; exact of14 k o_ f_ roll_ l_ r e

end
end Go.AM
namespace Go.AM
open Go Go.Proofs
set_option linter.unusedVariables false
noncomputable section
/-! ### function 15: papermill/papermillref55.Release -/
def K15 (k : Nat) : Calld := ⟨fun g => match g with
  | 14 => some [false, false, false, false]
  | _ => none, fun g xs _ => match g with
  | 14 => match xs with
    | [.agg q0, .agg q1, .r (.v (.int .i64 roll_)), .r (.ro t3_ q3)] => (decS [] t23 q0).bind fun o_ => (decS [] t25 q1).bind fun f_ => (castL t3_ t36 q3).bind fun l_ => some (res14 (v14 k o_ f_ roll_ l_), bo14 (v14 k o_ f_ roll_ l_))
    | _ => none
  | _ => none⟩
abbrev R15 : Type := Int
def res15 (r : R15) : AV := .r (.v (.int .i64 r))
def bo15 (r : R15) : List (Nat × Blk) := []
def f15 (k : Nat) (o_ : t23.T) (f_ : t25.T) (roll_ : Int) (l_ : List (t36).T) : Option R15 :=
  if ((f14 k o_ f_ roll_ l_).isSome = true) then
    bif ((v14 k o_ f_ roll_ l_).fst != (0 : Int)) then
      some ((v14 k o_ f_ roll_ l_).fst)
    else
      bif (decide ((↑ (v14 k o_ f_ roll_ l_).snd.length : Int) > (0 : Int))) then
        some 31
      else
        some 0
  else none
def args15 (o_ : t23.T) (f_ : t25.T) (roll_ : Int) (l_ : List (t36).T) : List AV := [.agg (rvs (enc t23 o_)), .agg (rvs (enc t25 f_)), .r (.v (.int .i64 roll_)), .r (.ro t36 l_)]
def v15 (k : Nat) (o_ : t23.T) (f_ : t25.T) (roll_ : Int) (l_ : List (t36).T) : R15 := (f15 k o_ f_ roll_ l_).getD 0
theorem of15 (k : Nat) (o_ : t23.T) (f_ : t25.T) (roll_ : Int) (l_ : List (t36).T) (r : R15) (h : f15 k o_ f_ roll_ l_ = some r) : CC Try.prog 15 (args15 o_ f_ roll_ l_) [] (res15 r) (bo15 r) := by
  refine CC.of (fn := Try.f15) (by kernel_rfl) (by kernel_rfl) (by kernel_rfl) (by kernel_rfl) ?_
  unfold f15 at h
  refine Ev.tree hm (R := Rt) (K := (K15 k)) (l := []) (C := []) (E := [.auto [8] true]) (n := 1000) (T := .need [CC Try.prog 14 (args14 o_ f_ roll_ l_) [] (res14 (v14 k o_ f_ roll_ l_)) (bo14 (v14 k o_ f_ roll_ l_))] (.test (((v14 k o_ f_ roll_ l_).fst != (0 : Int))) (.leaf (res15 ((v14 k o_ f_ roll_ l_).fst)) (bo15 ((v14 k o_ f_ roll_ l_).fst))) (.test ((decide ((↑ (v14 k o_ f_ roll_ l_).snd.length : Int) > (0 : Int)))) (.leaf (res15 31) (bo15 31)) (.leaf (res15 0) (bo15 0))))) (by kernel_rfl) ?_
  by_cases q : ((f14 k o_ f_ roll_ l_).isSome = true)
  · rw [if_pos q] at h
    refine ⟨(conjC (cc14 k o_ f_ roll_ l_ q) conj0), ?_⟩
    refine ⟨fun c => ?_, fun c => ?_⟩
    · rw [cond_t c] at h
      cases h; exact ⟨rfl, rfl⟩
    · rw [cond_f c] at h
      refine ⟨fun c => ?_, fun c => ?_⟩
      · rw [cond_t c] at h
        cases h; exact ⟨rfl, rfl⟩
      · rw [cond_f c] at h
        cases h; exact ⟨rfl, rfl⟩
  · rw [if_neg q] at h; cases h
theorem cc15 (k : Nat) (o_ : t23.T) (f_ : t25.T) (roll_ : Int) (l_ : List (t36).T) (h : (f15 k o_ f_ roll_ l_).isSome = true) : CC Try.prog 15 (args15 o_ f_ roll_ l_) [] (res15 (v15 k o_ f_ roll_ l_)) (bo15 (v15 k o_ f_ roll_ l_)) := by
  cases e : f15 k o_ f_ roll_ l_ with
  | none => rw [e] at h; cases h
  | some r => rw [show v15 k o_ f_ roll_ l_ = r by simp [v15, e]]; exact of15 k o_ f_ roll_ l_ r e

end
end Go.AM
namespace Go.AM
open Go Go.Proofs
set_option linter.unusedVariables false
noncomputable section
/-! ### function 5: papermill/papermilllaw55.ReleaseMissing -/
def K5 (k : Nat) : Calld := ⟨fun g => match g with
  | 13 => some [false, false, false, false]
  | 9 => some [false, false, false, false]
  | 10 => some []
  | 12 => some [false, false]
  | 14 => some [false, false, false, false]
  | 15 => some [false, false, false, false]
  | _ => none, fun g xs _ => match g with
  | 13 => match xs with
    | [.agg q0, .agg q1, .r (.v (.int .i64 roll_)), .r (.ro t3_ q3)] => (decS [] t23 q0).bind fun o_ => (decS [] t25 q1).bind fun f_ => (castL t3_ t36 q3).bind fun l_ => some (res13 (v13 k o_ f_ roll_ l_), bo13 (v13 k o_ f_ roll_ l_))
    | _ => none
  | 9 => match xs with
    | [.agg q0, .agg q1, .r (.v (.int .i64 roll_)), .r (.ro t3_ q3)] => (decS [] t23 q0).bind fun o_ => (decS [] t25 q1).bind fun f_ => (castL t3_ t36 q3).bind fun l_ => some (res9 (v9 k o_ f_ roll_ l_), bo9 (v9 k o_ f_ roll_ l_))
    | _ => none
  | 10 => match xs with
    | [] => some (res10 (v10 k ), bo10 (v10 k ))
    | _ => none
  | 12 => match xs with
    | [.r (.ro t0_ q0), .r (.ro t1_ q1)] => (castL t0_ I q0).bind fun a_ => (castL t1_ I q1).bind fun b_ => some (res12 (v12 k a_ b_), bo12 (v12 k a_ b_))
    | _ => none
  | 14 => match xs with
    | [.agg q0, .agg q1, .r (.v (.int .i64 roll_)), .r (.ro t3_ q3)] => (decS [] t23 q0).bind fun o_ => (decS [] t25 q1).bind fun f_ => (castL t3_ t36 q3).bind fun l_ => some (res14 (v14 k o_ f_ roll_ l_), bo14 (v14 k o_ f_ roll_ l_))
    | _ => none
  | 15 => match xs with
    | [.agg q0, .agg q1, .r (.v (.int .i64 roll_)), .r (.ro t3_ q3)] => (decS [] t23 q0).bind fun o_ => (decS [] t25 q1).bind fun f_ => (castL t3_ t36 q3).bind fun l_ => some (res15 (v15 k o_ f_ roll_ l_), bo15 (v15 k o_ f_ roll_ l_))
    | _ => none
  | _ => none⟩
abbrev R5 : Type := Bool
def res5 (r : R5) : AV := .r (.v (.bool r))
def bo5 (r : R5) : List (Nat × Blk) := []
def f5 (k : Nat) (o_ : t23.T) (f_ : t25.T) (q_ : t28.T) : Option R5 :=
  if ((f13 k o_ f_ q_.fst q_.snd).isSome = true) then
    if ((f14 k o_ f_ q_.fst q_.snd).isSome = true) then
      bif (v12 k (v13 k o_ f_ q_.fst q_.snd).snd (v14 k o_ f_ q_.fst q_.snd).snd && (v13 k o_ f_ q_.fst q_.snd).fst == (v14 k o_ f_ q_.fst q_.snd).fst) then
        bif (true && v9 k o_ f_ q_.fst q_.snd == v15 k o_ f_ q_.fst q_.snd) then
          if ((f12 k (v13 k o_ f_ q_.fst q_.snd).snd (v14 k o_ f_ q_.fst q_.snd).snd).isSome = true) ∧ ((v12 k (v13 k o_ f_ q_.fst q_.snd).snd (v14 k o_ f_ q_.fst q_.snd).snd && (v13 k o_ f_ q_.fst q_.snd).fst == (v14 k o_ f_ q_.fst q_.snd).fst) = true) ∧ ((f9 k o_ f_ q_.fst q_.snd).isSome = true) ∧ ((f15 k o_ f_ q_.fst q_.snd).isSome = true) ∧ ((true && v9 k o_ f_ q_.fst q_.snd == v15 k o_ f_ q_.fst q_.snd) = true) ∧ ((f10 k ).isSome = true) then
            some (true && v10 k)
          else none
        else
          if ((f12 k (v13 k o_ f_ q_.fst q_.snd).snd (v14 k o_ f_ q_.fst q_.snd).snd).isSome = true) ∧ ((v12 k (v13 k o_ f_ q_.fst q_.snd).snd (v14 k o_ f_ q_.fst q_.snd).snd && (v13 k o_ f_ q_.fst q_.snd).fst == (v14 k o_ f_ q_.fst q_.snd).fst) = true) ∧ ((f9 k o_ f_ q_.fst q_.snd).isSome = true) ∧ ((f15 k o_ f_ q_.fst q_.snd).isSome = true) ∧ ((true && v9 k o_ f_ q_.fst q_.snd == v15 k o_ f_ q_.fst q_.snd) = false) then
            some false
          else none
      else
        if ((f12 k (v13 k o_ f_ q_.fst q_.snd).snd (v14 k o_ f_ q_.fst q_.snd).snd).isSome = true) ∧ ((v12 k (v13 k o_ f_ q_.fst q_.snd).snd (v14 k o_ f_ q_.fst q_.snd).snd && (v13 k o_ f_ q_.fst q_.snd).fst == (v14 k o_ f_ q_.fst q_.snd).fst) = false) ∧ (false = false) then
          some false
        else none
    else none
  else none
def args5 (o_ : t23.T) (f_ : t25.T) (q_ : t28.T) : List AV := [.agg (rvs (enc t23 o_)), .agg (rvs (enc t25 f_)), .agg (rvs (enc t28 q_))]
def v5 (k : Nat) (o_ : t23.T) (f_ : t25.T) (q_ : t28.T) : R5 := (f5 k o_ f_ q_).getD false
theorem of5 (k : Nat) (o_ : t23.T) (f_ : t25.T) (q_ : t28.T) (r : R5) (h : f5 k o_ f_ q_ = some r) : CC Try.prog 5 (args5 o_ f_ q_) [] (res5 r) (bo5 r) := by
  refine CC.of (fn := Try.f5) (by kernel_rfl) (by kernel_rfl) (by kernel_rfl) (by kernel_rfl) ?_
  unfold f5 at h
  refine Ev.tree hm (R := Rt) (K := (K5 k)) (l := []) (C := []) (E := [.auto [6] true]) (n := 1000) (T := .need [CC Try.prog 13 (args13 o_ f_ q_.fst q_.snd) [] (res13 (v13 k o_ f_ q_.fst q_.snd)) (bo13 (v13 k o_ f_ q_.fst q_.snd))] (.need [CC Try.prog 14 (args14 o_ f_ q_.fst q_.snd) [] (res14 (v14 k o_ f_ q_.fst q_.snd)) (bo14 (v14 k o_ f_ q_.fst q_.snd))] (.test ((v12 k (v13 k o_ f_ q_.fst q_.snd).snd (v14 k o_ f_ q_.fst q_.snd).snd && (v13 k o_ f_ q_.fst q_.snd).fst == (v14 k o_ f_ q_.fst q_.snd).fst)) (.test ((true && v9 k o_ f_ q_.fst q_.snd == v15 k o_ f_ q_.fst q_.snd)) (.need [CC Try.prog 12 (args12 (v13 k o_ f_ q_.fst q_.snd).snd (v14 k o_ f_ q_.fst q_.snd).snd) [] (res12 (v12 k (v13 k o_ f_ q_.fst q_.snd).snd (v14 k o_ f_ q_.fst q_.snd).snd)) (bo12 (v12 k (v13 k o_ f_ q_.fst q_.snd).snd (v14 k o_ f_ q_.fst q_.snd).snd)), (v12 k (v13 k o_ f_ q_.fst q_.snd).snd (v14 k o_ f_ q_.fst q_.snd).snd && (v13 k o_ f_ q_.fst q_.snd).fst == (v14 k o_ f_ q_.fst q_.snd).fst) = true, CC Try.prog 9 (args9 o_ f_ q_.fst q_.snd) [] (res9 (v9 k o_ f_ q_.fst q_.snd)) (bo9 (v9 k o_ f_ q_.fst q_.snd)), CC Try.prog 15 (args15 o_ f_ q_.fst q_.snd) [] (res15 (v15 k o_ f_ q_.fst q_.snd)) (bo15 (v15 k o_ f_ q_.fst q_.snd)), (true && v9 k o_ f_ q_.fst q_.snd == v15 k o_ f_ q_.fst q_.snd) = true, CC Try.prog 10 (args10 ) [] (res10 (v10 k )) (bo10 (v10 k ))] (.leaf (res5 (true && v10 k)) (bo5 (true && v10 k)))) (.need [CC Try.prog 12 (args12 (v13 k o_ f_ q_.fst q_.snd).snd (v14 k o_ f_ q_.fst q_.snd).snd) [] (res12 (v12 k (v13 k o_ f_ q_.fst q_.snd).snd (v14 k o_ f_ q_.fst q_.snd).snd)) (bo12 (v12 k (v13 k o_ f_ q_.fst q_.snd).snd (v14 k o_ f_ q_.fst q_.snd).snd)), (v12 k (v13 k o_ f_ q_.fst q_.snd).snd (v14 k o_ f_ q_.fst q_.snd).snd && (v13 k o_ f_ q_.fst q_.snd).fst == (v14 k o_ f_ q_.fst q_.snd).fst) = true, CC Try.prog 9 (args9 o_ f_ q_.fst q_.snd) [] (res9 (v9 k o_ f_ q_.fst q_.snd)) (bo9 (v9 k o_ f_ q_.fst q_.snd)), CC Try.prog 15 (args15 o_ f_ q_.fst q_.snd) [] (res15 (v15 k o_ f_ q_.fst q_.snd)) (bo15 (v15 k o_ f_ q_.fst q_.snd)), (true && v9 k o_ f_ q_.fst q_.snd == v15 k o_ f_ q_.fst q_.snd) = false] (.leaf (res5 false) (bo5 false)))) (.test (false) (.need [CC Try.prog 12 (args12 (v13 k o_ f_ q_.fst q_.snd).snd (v14 k o_ f_ q_.fst q_.snd).snd) [] (res12 (v12 k (v13 k o_ f_ q_.fst q_.snd).snd (v14 k o_ f_ q_.fst q_.snd).snd)) (bo12 (v12 k (v13 k o_ f_ q_.fst q_.snd).snd (v14 k o_ f_ q_.fst q_.snd).snd)), (v12 k (v13 k o_ f_ q_.fst q_.snd).snd (v14 k o_ f_ q_.fst q_.snd).snd && (v13 k o_ f_ q_.fst q_.snd).fst == (v14 k o_ f_ q_.fst q_.snd).fst) = false, false = true, CC Try.prog 10 (args10 ) [] (res10 (v10 k )) (bo10 (v10 k ))] (.leaf (res5 (true && v10 k)) (bo5 (true && v10 k)))) (.need [CC Try.prog 12 (args12 (v13 k o_ f_ q_.fst q_.snd).snd (v14 k o_ f_ q_.fst q_.snd).snd) [] (res12 (v12 k (v13 k o_ f_ q_.fst q_.snd).snd (v14 k o_ f_ q_.fst q_.snd).snd)) (bo12 (v12 k (v13 k o_ f_ q_.fst q_.snd).snd (v14 k o_ f_ q_.fst q_.snd).snd)), (v12 k (v13 k o_ f_ q_.fst q_.snd).snd (v14 k o_ f_ q_.fst q_.snd).snd && (v13 k o_ f_ q_.fst q_.snd).fst == (v14 k o_ f_ q_.fst q_.snd).fst) = false, false = false] (.leaf (res5 false) (bo5 false))))))) (by kernel_rfl) ?_
  by_cases q : ((f13 k o_ f_ q_.fst q_.snd).isSome = true)
  · rw [if_pos q] at h
    refine ⟨(conjC (cc13 k o_ f_ q_.fst q_.snd q) conj0), ?_⟩
    by_cases q : ((f14 k o_ f_ q_.fst q_.snd).isSome = true)
    · rw [if_pos q] at h
      refine ⟨(conjC (cc14 k o_ f_ q_.fst q_.snd q) conj0), ?_⟩
      refine ⟨fun c => ?_, fun c => ?_⟩
      · rw [cond_t c] at h
        refine ⟨fun c => ?_, fun c => ?_⟩
        · rw [cond_t c] at h
          by_cases q : ((f12 k (v13 k o_ f_ q_.fst q_.snd).snd (v14 k o_ f_ q_.fst q_.snd).snd).isSome = true) ∧ ((v12 k (v13 k o_ f_ q_.fst q_.snd).snd (v14 k o_ f_ q_.fst q_.snd).snd && (v13 k o_ f_ q_.fst q_.snd).fst == (v14 k o_ f_ q_.fst q_.snd).fst) = true) ∧ ((f9 k o_ f_ q_.fst q_.snd).isSome = true) ∧ ((f15 k o_ f_ q_.fst q_.snd).isSome = true) ∧ ((true && v9 k o_ f_ q_.fst q_.snd == v15 k o_ f_ q_.fst q_.snd) = true) ∧ ((f10 k ).isSome = true)
          · rw [if_pos q] at h
            refine ⟨(conjC (cc12 k (v13 k o_ f_ q_.fst q_.snd).snd (v14 k o_ f_ q_.fst q_.snd).snd q.1) (conjC q.2.1 (conjC (cc9 k o_ f_ q_.fst q_.snd q.2.2.1) (conjC (cc15 k o_ f_ q_.fst q_.snd q.2.2.2.1) (conjC q.2.2.2.2.1 (conjC (cc10 k  q.2.2.2.2.2) conj0)))))), ?_⟩
            cases h; exact ⟨rfl, rfl⟩
          · rw [if_neg q] at h; cases h
        · rw [cond_f c] at h
          by_cases q : ((f12 k (v13 k o_ f_ q_.fst q_.snd).snd (v14 k o_ f_ q_.fst q_.snd).snd).isSome = true) ∧ ((v12 k (v13 k o_ f_ q_.fst q_.snd).snd (v14 k o_ f_ q_.fst q_.snd).snd && (v13 k o_ f_ q_.fst q_.snd).fst == (v14 k o_ f_ q_.fst q_.snd).fst) = true) ∧ ((f9 k o_ f_ q_.fst q_.snd).isSome = true) ∧ ((f15 k o_ f_ q_.fst q_.snd).isSome = true) ∧ ((true && v9 k o_ f_ q_.fst q_.snd == v15 k o_ f_ q_.fst q_.snd) = false)
          · rw [if_pos q] at h
            refine ⟨(conjC (cc12 k (v13 k o_ f_ q_.fst q_.snd).snd (v14 k o_ f_ q_.fst q_.snd).snd q.1) (conjC q.2.1 (conjC (cc9 k o_ f_ q_.fst q_.snd q.2.2.1) (conjC (cc15 k o_ f_ q_.fst q_.snd q.2.2.2.1) (conjC q.2.2.2.2 conj0))))), ?_⟩
            cases h; exact ⟨rfl, rfl⟩
          · rw [if_neg q] at h; cases h
      · rw [cond_f c] at h
        refine ⟨fun c => ?_, fun c => ?_⟩
        · cases c
        by_cases q : ((f12 k (v13 k o_ f_ q_.fst q_.snd).snd (v14 k o_ f_ q_.fst q_.snd).snd).isSome = true) ∧ ((v12 k (v13 k o_ f_ q_.fst q_.snd).snd (v14 k o_ f_ q_.fst q_.snd).snd && (v13 k o_ f_ q_.fst q_.snd).fst == (v14 k o_ f_ q_.fst q_.snd).fst) = false) ∧ (false = false)
        · rw [if_pos q] at h
          refine ⟨(conjC (cc12 k (v13 k o_ f_ q_.fst q_.snd).snd (v14 k o_ f_ q_.fst q_.snd).snd q.1) (conjC q.2.1 (conjC q.2.2 conj0))), ?_⟩
          cases h; exact ⟨rfl, rfl⟩
        · rw [if_neg q] at h; cases h
    · rw [if_neg q] at h; cases h
  · rw [if_neg q] at h; cases h
theorem cc5 (k : Nat) (o_ : t23.T) (f_ : t25.T) (q_ : t28.T) (h : (f5 k o_ f_ q_).isSome = true) : CC Try.prog 5 (args5 o_ f_ q_) [] (res5 (v5 k o_ f_ q_)) (bo5 (v5 k o_ f_ q_)) := by
  cases e : f5 k o_ f_ q_ with
  | none => rw [e] at h; cases h
  | some r => rw [show v5 k o_ f_ q_ = r by simp [v5, e]]; exact of5 k o_ f_ q_ r e

end
end Go.AM
namespace Go.AM
open Go Go.Proofs
set_option linter.unusedVariables false
noncomputable section
/-! ### function 6: papermill/papermilllaw55.ReleaseMore -/
def K6 (k : Nat) : Calld := ⟨fun g => match g with
  | 9 => some [false, false, false, false]
  | 10 => some []
  | _ => none, fun g xs _ => match g with
  | 9 => match xs with
    | [.agg q0, .agg q1, .r (.v (.int .i64 roll_)), .r (.ro t3_ q3)] => (decS [] t23 q0).bind fun o_ => (decS [] t25 q1).bind fun f_ => (castL t3_ t36 q3).bind fun l_ => some (res9 (v9 k o_ f_ roll_ l_), bo9 (v9 k o_ f_ roll_ l_))
    | _ => none
  | 10 => match xs with
    | [] => some (res10 (v10 k ), bo10 (v10 k ))
    | _ => none
  | _ => none⟩
abbrev R6 : Type := Bool
def res6 (r : R6) : AV := .r (.v (.bool r))
def bo6 (r : R6) : List (Nat × Blk) := []
def f6 (k : Nat) (o_ : t23.T) (f_ : t25.T) (q_ : t28.T) (w_ : t36.T) : Option R6 :=
  bif (decide ((↑ (List.length q_.snd) : Int) ≥ (512 : Int))) then
    if ((f10 k ).isSome = true) then
      some (v10 k)
    else none
  else
    if ((f9 k o_ f_ q_.fst q_.snd).isSome = true) then
      if (((0 : Nat) + List.length q_.snd) * (24 : Nat) ≤ (140737488355328 : Nat)) ∧ ((([] ++ q_.snd).length + [w_].length) * (24 : Nat) ≤ (140737488355328 : Nat)) then
        if ((f9 k o_ f_ q_.fst ([] ++ q_.snd ++ [w_])).isSome = true) then
          bif (decide (w_.fst < (1 : Int)) || decide (w_.fst > (1000000 : Int)) || decide (w_.snd.fst < (1 : Int)) || decide (w_.snd.fst > (6 : Int)) || decide (w_.snd.snd < (0 : Int)) || decide (w_.snd.snd > (2147483647 : Int))) then
            bif (v9 k o_ f_ q_.fst ([] ++ q_.snd ++ [w_]) != (0 : Int)) then
              if ((v9 k o_ f_ q_.fst ([] ++ q_.snd ++ [w_]) != (0 : Int)) = true) ∧ ((f10 k ).isSome = true) then
                some (true && v10 k)
              else none
            else
              if ((v9 k o_ f_ q_.fst ([] ++ q_.snd ++ [w_]) != (0 : Int)) = false) then
                some false
              else none
          else
            bif (v9 k o_ f_ q_.fst q_.snd == (0 : Int) && v9 k o_ f_ q_.fst ([] ++ q_.snd ++ [w_]) != (0 : Int) || w_.fst != q_.fst && v9 k o_ f_ q_.fst q_.snd != v9 k o_ f_ q_.fst ([] ++ q_.snd ++ [w_])) then
              some false
            else
              if ((f10 k ).isSome = true) then
                some (v10 k)
              else none
        else none
      else none
    else none
def args6 (o_ : t23.T) (f_ : t25.T) (q_ : t28.T) (w_ : t36.T) : List AV := [.agg (rvs (enc t23 o_)), .agg (rvs (enc t25 f_)), .agg (rvs (enc t28 q_)), .agg (rvs (enc t36 w_))]
def v6 (k : Nat) (o_ : t23.T) (f_ : t25.T) (q_ : t28.T) (w_ : t36.T) : R6 := (f6 k o_ f_ q_ w_).getD false
theorem of6 (k : Nat) (o_ : t23.T) (f_ : t25.T) (q_ : t28.T) (w_ : t36.T) (r : R6) (h : f6 k o_ f_ q_ w_ = some r) : CC Try.prog 6 (args6 o_ f_ q_ w_) [] (res6 r) (bo6 r) := by
  refine CC.of (fn := Try.f6) (by kernel_rfl) (by kernel_rfl) (by kernel_rfl) (by kernel_rfl) ?_
  unfold f6 at h
  refine Ev.tree hm (R := Rt) (K := (K6 k)) (l := []) (C := []) (E := [.auto [8] true]) (n := 1000) (T := .test ((decide ((↑ (List.length q_.snd) : Int) ≥ (512 : Int)))) (.need [CC Try.prog 10 (args10 ) [] (res10 (v10 k )) (bo10 (v10 k ))] (.leaf (res6 (v10 k)) (bo6 (v10 k)))) (.need [CC Try.prog 9 (args9 o_ f_ q_.fst q_.snd) [] (res9 (v9 k o_ f_ q_.fst q_.snd)) (bo9 (v9 k o_ f_ q_.fst q_.snd))] (.need [((0 : Nat) + List.length q_.snd) * (24 : Nat) ≤ (140737488355328 : Nat), (([] ++ q_.snd).length + [w_].length) * (24 : Nat) ≤ (140737488355328 : Nat)] (.need [CC Try.prog 9 (args9 o_ f_ q_.fst ([] ++ q_.snd ++ [w_])) [] (res9 (v9 k o_ f_ q_.fst ([] ++ q_.snd ++ [w_]))) (bo9 (v9 k o_ f_ q_.fst ([] ++ q_.snd ++ [w_])))] (.test ((decide (w_.fst < (1 : Int)) || decide (w_.fst > (1000000 : Int)) || decide (w_.snd.fst < (1 : Int)) || decide (w_.snd.fst > (6 : Int)) || decide (w_.snd.snd < (0 : Int)) || decide (w_.snd.snd > (2147483647 : Int)))) (.test ((v9 k o_ f_ q_.fst ([] ++ q_.snd ++ [w_]) != (0 : Int))) (.need [(v9 k o_ f_ q_.fst ([] ++ q_.snd ++ [w_]) != (0 : Int)) = true, CC Try.prog 10 (args10 ) [] (res10 (v10 k )) (bo10 (v10 k ))] (.leaf (res6 (true && v10 k)) (bo6 (true && v10 k)))) (.need [(v9 k o_ f_ q_.fst ([] ++ q_.snd ++ [w_]) != (0 : Int)) = false] (.leaf (res6 false) (bo6 false)))) (.test ((v9 k o_ f_ q_.fst q_.snd == (0 : Int) && v9 k o_ f_ q_.fst ([] ++ q_.snd ++ [w_]) != (0 : Int) || w_.fst != q_.fst && v9 k o_ f_ q_.fst q_.snd != v9 k o_ f_ q_.fst ([] ++ q_.snd ++ [w_]))) (.leaf (res6 false) (bo6 false)) (.need [CC Try.prog 10 (args10 ) [] (res10 (v10 k )) (bo10 (v10 k ))] (.leaf (res6 (v10 k)) (bo6 (v10 k)))))))))) (by kernel_rfl) ?_
  refine ⟨fun c => ?_, fun c => ?_⟩
  · rw [cond_t c] at h
    by_cases q : ((f10 k ).isSome = true)
    · rw [if_pos q] at h
      refine ⟨(conjC (cc10 k  q) conj0), ?_⟩
      cases h; exact ⟨rfl, rfl⟩
    · rw [if_neg q] at h; cases h
  · rw [cond_f c] at h
    by_cases q : ((f9 k o_ f_ q_.fst q_.snd).isSome = true)
    · rw [if_pos q] at h
      refine ⟨(conjC (cc9 k o_ f_ q_.fst q_.snd q) conj0), ?_⟩
      by_cases q : (((0 : Nat) + List.length q_.snd) * (24 : Nat) ≤ (140737488355328 : Nat)) ∧ ((([] ++ q_.snd).length + [w_].length) * (24 : Nat) ≤ (140737488355328 : Nat))
      · rw [if_pos q] at h
        refine ⟨(conjC q.1 (conjC q.2 conj0)), ?_⟩
        by_cases q : ((f9 k o_ f_ q_.fst ([] ++ q_.snd ++ [w_])).isSome = true)
        · rw [if_pos q] at h
          refine ⟨(conjC (cc9 k o_ f_ q_.fst ([] ++ q_.snd ++ [w_]) q) conj0), ?_⟩
          refine ⟨fun c => ?_, fun c => ?_⟩
          · rw [cond_t c] at h
            refine ⟨fun c => ?_, fun c => ?_⟩
            · rw [cond_t c] at h
              by_cases q : ((v9 k o_ f_ q_.fst ([] ++ q_.snd ++ [w_]) != (0 : Int)) = true) ∧ ((f10 k ).isSome = true)
              · rw [if_pos q] at h
                refine ⟨(conjC q.1 (conjC (cc10 k  q.2) conj0)), ?_⟩
                cases h; exact ⟨rfl, rfl⟩
              · rw [if_neg q] at h; cases h
            · rw [cond_f c] at h
              by_cases q : ((v9 k o_ f_ q_.fst ([] ++ q_.snd ++ [w_]) != (0 : Int)) = false)
              · rw [if_pos q] at h
                refine ⟨(conjC q conj0), ?_⟩
                cases h; exact ⟨rfl, rfl⟩
              · rw [if_neg q] at h; cases h
          · rw [cond_f c] at h
            refine ⟨fun c => ?_, fun c => ?_⟩
            · rw [cond_t c] at h
              cases h; exact ⟨rfl, rfl⟩
            · rw [cond_f c] at h
              by_cases q : ((f10 k ).isSome = true)
              · rw [if_pos q] at h
                refine ⟨(conjC (cc10 k  q) conj0), ?_⟩
                cases h; exact ⟨rfl, rfl⟩
              · rw [if_neg q] at h; cases h
        · rw [if_neg q] at h; cases h
      · rw [if_neg q] at h; cases h
    · rw [if_neg q] at h; cases h
theorem cc6 (k : Nat) (o_ : t23.T) (f_ : t25.T) (q_ : t28.T) (w_ : t36.T) (h : (f6 k o_ f_ q_ w_).isSome = true) : CC Try.prog 6 (args6 o_ f_ q_ w_) [] (res6 (v6 k o_ f_ q_ w_)) (bo6 (v6 k o_ f_ q_ w_)) := by
  cases e : f6 k o_ f_ q_ w_ with
  | none => rw [e] at h; cases h
  | some r => rw [show v6 k o_ f_ q_ w_ = r by simp [v6, e]]; exact of6 k o_ f_ q_ w_ r e

end
end Go.AM
namespace Go.AM
open Go Go.Proofs
set_option linter.unusedVariables false
noncomputable section
/-! ### function 7: papermill/papermilllaw55.ReleaseLooser -/
def K7 (k : Nat) : Calld := ⟨fun g => match g with
  | 8 => some [false, false]
  | 10 => some []
  | _ => none, fun g xs _ => match g with
  | 8 => match xs with
    | [.agg q0, .agg q1] => (decS [] t23 q0).bind fun o_ => (decS [] t25 q1).bind fun f_ => some (res8 (v8 k o_ f_), bo8 (v8 k o_ f_))
    | _ => none
  | 10 => match xs with
    | [] => some (res10 (v10 k ), bo10 (v10 k ))
    | _ => none
  | _ => none⟩
abbrev R7 : Type := Bool
def res7 (r : R7) : AV := .r (.v (.bool r))
def bo7 (r : R7) : List (Nat × Blk) := []
def st7_12 (x0 : Int) (x1 : Int) (x2 : List (I).T) (x3 : List (I).T) : St := ⟨mkS 87 [(8, .own 1000000 0), (64, .own 1000001 0), (65, .r (.v (.int .i64 x0))), (66, .r (.v (.int .i64 x1)))], [(1000000, 0, .row 3 I x2), (1000001, 0, .row 3 I x3)]⟩
def st7_16 (x0 : Int) (x1 : Bool) (x2 : Int) (x3 : Int) (x4 : Int) (x5 : Int) (x6 : List (I).T) (x7 : List (I).T) : St := ⟨mkS 87 [(8, .own 1000000 0), (13, .r (.v (.int .i64 x0))), (14, .r (.v (.bool x1))), (64, .own 1000001 0), (65, .r (.v (.int .i64 x2))), (66, .r (.v (.int .i64 x3))), (70, .own 1000000 0), (71, .r (.v (.int .i64 x4))), (72, .r (.v (.int .i64 x5)))], [(1000000, 0, .row 3 I x6), (1000001, 0, .row 3 I x7)]⟩
mutual
def f7_12 (k : Nat) : Nat → Int → Int → List (I).T → List (I).T → Option R7
  | 0, _, _, _, _ => none
  | j + 1, x0, x1, x2, x3 =>
    bif (decide (x1 < x0)) then
      if ((0 : Int) ≤ x1) ∧ (x1 < (↑x3.length : Int)) then
        f7_16 k j ((x3.getD x1.toNat I.dflt)) false x0 x1 ((↑x2.length : Int)) 0 x2 x3
      else none
    else
      if ((f10 k ).isSome = true) then
        some (v10 k)
      else none
def f7_16 (k : Nat) : Nat → Int → Bool → Int → Int → Int → Int → List (I).T → List (I).T → Option R7
  | 0, _, _, _, _, _, _, _, _ => none
  | j + 1, x0, x1, x2, x3, x4, x5, x6, x7 =>
    bif (decide (x5 < x4)) then
      if ((0 : Int) ≤ x5) ∧ (x5 < (↑x6.length : Int)) then
        f7_16 k j x0 ((x1 || x0 == x6.getD x5.toNat I.dflt)) x2 x3 x4 ((IntKind.i64.wrap (x5 + 1))) x6 x7
      else none
    else
      bif (!x1) then
        some false
      else
        f7_12 k j x2 ((IntKind.i64.wrap (x3 + 1))) x6 x7
end
def f7 (k : Nat) (o_ : t23.T) (f_ : t25.T) (more_ : t42.T) : Option R7 :=
  if ((0 : Int) ≤ (0 : Int)) ∧ ((0 : Int) < (↑ (3 : Nat) : Int)) then
    if ((0 : Int) ≤ (1 : Int)) ∧ ((1 : Int) < (↑ (3 : Nat) : Int)) then
      if ((0 : Int) ≤ (2 : Int)) ∧ ((2 : Int) < (↑ (3 : Nat) : Int)) then
        if ((f8 k o_ f_).isSome = true) then
          if ((f8 k (o_.fst, o_.snd.fst, o_.snd.snd.fst, o_.snd.snd.snd.fst, o_.snd.snd.snd.snd.fst, if IntKind.i64.wrap (o_.snd.snd.snd.snd.snd.fst + IntKind.i64.wrap more_.fst) < IntKind.i64.wrap (o_.snd.snd.snd.snd.fst - o_.snd.snd.snd.fst) then IntKind.i64.wrap (o_.snd.snd.snd.snd.snd.fst + IntKind.i64.wrap more_.fst) else IntKind.i64.wrap (o_.snd.snd.snd.snd.fst - o_.snd.snd.snd.fst), o_.snd.snd.snd.snd.snd.snd.fst, o_.snd.snd.snd.snd.snd.snd.snd.fst, o_.snd.snd.snd.snd.snd.snd.snd.snd.fst, if IntKind.i64.wrap (o_.snd.snd.snd.snd.snd.snd.snd.snd.snd.fst + IntKind.i64.wrap more_.snd.fst) < 8 then IntKind.i64.wrap (o_.snd.snd.snd.snd.snd.snd.snd.snd.snd.fst + IntKind.i64.wrap more_.snd.fst) else 8, if IntKind.i64.wrap (o_.snd.snd.snd.snd.snd.snd.snd.snd.snd.snd.fst + IntKind.i64.wrap more_.snd.snd) < 100 then IntKind.i64.wrap (o_.snd.snd.snd.snd.snd.snd.snd.snd.snd.snd.fst + IntKind.i64.wrap more_.snd.snd) else 100, o_.snd.snd.snd.snd.snd.snd.snd.snd.snd.snd.snd) f_).isSome = true) then
            bif ((v8 k o_ f_).fst != (0 : Int)) then
              if ((f10 k ).isSome = true) then
                some (v10 k)
              else none
            else
              bif ((v8 k (o_.fst, o_.snd.fst, o_.snd.snd.fst, o_.snd.snd.snd.fst, o_.snd.snd.snd.snd.fst, if IntKind.i64.wrap (o_.snd.snd.snd.snd.snd.fst + IntKind.i64.wrap more_.fst) < IntKind.i64.wrap (o_.snd.snd.snd.snd.fst - o_.snd.snd.snd.fst) then IntKind.i64.wrap (o_.snd.snd.snd.snd.snd.fst + IntKind.i64.wrap more_.fst) else IntKind.i64.wrap (o_.snd.snd.snd.snd.fst - o_.snd.snd.snd.fst), o_.snd.snd.snd.snd.snd.snd.fst, o_.snd.snd.snd.snd.snd.snd.snd.fst, o_.snd.snd.snd.snd.snd.snd.snd.snd.fst, if IntKind.i64.wrap (o_.snd.snd.snd.snd.snd.snd.snd.snd.snd.fst + IntKind.i64.wrap more_.snd.fst) < (8 : Int) then IntKind.i64.wrap (o_.snd.snd.snd.snd.snd.snd.snd.snd.snd.fst + IntKind.i64.wrap more_.snd.fst) else (8 : Int), if IntKind.i64.wrap (o_.snd.snd.snd.snd.snd.snd.snd.snd.snd.snd.fst + IntKind.i64.wrap more_.snd.snd) < (100 : Int) then IntKind.i64.wrap (o_.snd.snd.snd.snd.snd.snd.snd.snd.snd.snd.fst + IntKind.i64.wrap more_.snd.snd) else (100 : Int), o_.snd.snd.snd.snd.snd.snd.snd.snd.snd.snd.snd) f_).fst != (0 : Int)) then
                some false
              else
                f7_12 k k ((↑ (v8 k (o_.fst, o_.snd.fst, o_.snd.snd.fst, o_.snd.snd.snd.fst, o_.snd.snd.snd.snd.fst, if IntKind.i64.wrap (o_.snd.snd.snd.snd.snd.fst + IntKind.i64.wrap more_.fst) < IntKind.i64.wrap (o_.snd.snd.snd.snd.fst - o_.snd.snd.snd.fst) then IntKind.i64.wrap (o_.snd.snd.snd.snd.snd.fst + IntKind.i64.wrap more_.fst) else IntKind.i64.wrap (o_.snd.snd.snd.snd.fst - o_.snd.snd.snd.fst), o_.snd.snd.snd.snd.snd.snd.fst, o_.snd.snd.snd.snd.snd.snd.snd.fst, o_.snd.snd.snd.snd.snd.snd.snd.snd.fst, if IntKind.i64.wrap (o_.snd.snd.snd.snd.snd.snd.snd.snd.snd.fst + IntKind.i64.wrap more_.snd.fst) < 8 then IntKind.i64.wrap (o_.snd.snd.snd.snd.snd.snd.snd.snd.snd.fst + IntKind.i64.wrap more_.snd.fst) else 8, if IntKind.i64.wrap (o_.snd.snd.snd.snd.snd.snd.snd.snd.snd.snd.fst + IntKind.i64.wrap more_.snd.snd) < 100 then IntKind.i64.wrap (o_.snd.snd.snd.snd.snd.snd.snd.snd.snd.snd.fst + IntKind.i64.wrap more_.snd.snd) else 100, o_.snd.snd.snd.snd.snd.snd.snd.snd.snd.snd.snd) f_).snd.length : Int)) 0 ((v8 k o_ f_).snd) ((v8 k (o_.fst, o_.snd.fst, o_.snd.snd.fst, o_.snd.snd.snd.fst, o_.snd.snd.snd.snd.fst, if IntKind.i64.wrap (o_.snd.snd.snd.snd.snd.fst + IntKind.i64.wrap more_.fst) < IntKind.i64.wrap (o_.snd.snd.snd.snd.fst - o_.snd.snd.snd.fst) then IntKind.i64.wrap (o_.snd.snd.snd.snd.snd.fst + IntKind.i64.wrap more_.fst) else IntKind.i64.wrap (o_.snd.snd.snd.snd.fst - o_.snd.snd.snd.fst), o_.snd.snd.snd.snd.snd.snd.fst, o_.snd.snd.snd.snd.snd.snd.snd.fst, o_.snd.snd.snd.snd.snd.snd.snd.snd.fst, if IntKind.i64.wrap (o_.snd.snd.snd.snd.snd.snd.snd.snd.snd.fst + IntKind.i64.wrap more_.snd.fst) < 8 then IntKind.i64.wrap (o_.snd.snd.snd.snd.snd.snd.snd.snd.snd.fst + IntKind.i64.wrap more_.snd.fst) else 8, if IntKind.i64.wrap (o_.snd.snd.snd.snd.snd.snd.snd.snd.snd.snd.fst + IntKind.i64.wrap more_.snd.snd) < 100 then IntKind.i64.wrap (o_.snd.snd.snd.snd.snd.snd.snd.snd.snd.snd.fst + IntKind.i64.wrap more_.snd.snd) else 100, o_.snd.snd.snd.snd.snd.snd.snd.snd.snd.snd.snd) f_).snd)
          else none
        else none
      else none
    else none
  else none
def args7 (o_ : t23.T) (f_ : t25.T) (more_ : t42.T) : List AV := [.agg (rvs (enc t23 o_)), .agg (rvs (enc t25 f_)), .agg (rvs (enc t42 more_))]
def v7 (k : Nat) (o_ : t23.T) (f_ : t25.T) (more_ : t42.T) : R7 := (f7 k o_ f_ more_).getD false
theorem ev7 (k : Nat) : ∀ j, (∀ (x0 : Int) (x1 : Int) (x2 : List (I).T) (x3 : List (I).T) (r : R7), f7_12 k j x0 x1 x2 x3 = some r → Ev Try.prog Try.f7 0 (placeAt Try.f7 12) (st7_12 x0 x1 x2 x3) (res7 r) (bo7 r)) ∧ (∀ (x0 : Int) (x1 : Bool) (x2 : Int) (x3 : Int) (x4 : Int) (x5 : Int) (x6 : List (I).T) (x7 : List (I).T) (r : R7), f7_16 k j x0 x1 x2 x3 x4 x5 x6 x7 = some r → Ev Try.prog Try.f7 0 (placeAt Try.f7 16) (st7_16 x0 x1 x2 x3 x4 x5 x6 x7) (res7 r) (bo7 r))
  | 0 => by
    refine ⟨?_, ?_⟩ <;> intros <;> rename_i h <;> simp [f7_12, f7_16] at h
  | j + 1 => by
    have ih := ev7 k j
    refine ⟨?_, ?_⟩
    · intro x0 x1 x2 x3 r h
      rw [f7_12] at h
      refine Ev.tree hm (R := Rt) (K := (K7 k)) (l := []) (C := [(12, [.auto [8, 64, 65, 66] false]), (16, [.auto [8, 13, 14, 64, 65, 66, 70, 71, 72] false])]) (E := [.auto [6] true]) (n := 1000) (T := .test ((decide (x1 < x0))) (.need [(0 : Int) ≤ x1, x1 < (↑x3.length : Int)] (.cut 16 (placeAt Try.f7 16) (st7_16 ((x3.getD x1.toNat I.dflt)) false x0 x1 ((↑x2.length : Int)) 0 x2 x3))) (.need [CC Try.prog 10 (args10 ) [] (res10 (v10 k )) (bo10 (v10 k ))] (.leaf (res7 (v10 k)) (bo7 (v10 k))))) (by kernel_rfl) ?_
      refine ⟨fun c => ?_, fun c => ?_⟩
      · rw [cond_t c] at h
        by_cases q : ((0 : Int) ≤ x1) ∧ (x1 < (↑x3.length : Int))
        · rw [if_pos q] at h
          refine ⟨(conjC q.1 (conjC q.2 conj0)), ?_⟩
          exact ih.2 ((x3.getD x1.toNat I.dflt)) false x0 x1 ((↑x2.length : Int)) 0 x2 x3 _ h
        · rw [if_neg q] at h; cases h
      · rw [cond_f c] at h
        by_cases q : ((f10 k ).isSome = true)
        · rw [if_pos q] at h
          refine ⟨(conjC (cc10 k  q) conj0), ?_⟩
          cases h; exact ⟨rfl, rfl⟩
        · rw [if_neg q] at h; cases h
    · intro x0 x1 x2 x3 x4 x5 x6 x7 r h
      rw [f7_16] at h
      refine Ev.tree hm (R := Rt) (K := (K7 k)) (l := []) (C := [(12, [.auto [8, 64, 65, 66] false]), (16, [.auto [8, 13, 14, 64, 65, 66, 70, 71, 72] false])]) (E := [.auto [6] true]) (n := 1000) (T := .test ((decide (x5 < x4))) (.need [(0 : Int) ≤ x5, x5 < (↑x6.length : Int)] (.cut 16 (placeAt Try.f7 16) (st7_16 x0 ((x1 || x0 == x6.getD x5.toNat I.dflt)) x2 x3 x4 ((IntKind.i64.wrap (x5 + 1))) x6 x7))) (.test ((!x1)) (.leaf (res7 false) (bo7 false)) (.cut 12 (placeAt Try.f7 12) (st7_12 x2 ((IntKind.i64.wrap (x3 + 1))) x6 x7)))) (by kernel_rfl) ?_
      refine ⟨fun c => ?_, fun c => ?_⟩
      · rw [cond_t c] at h
        by_cases q : ((0 : Int) ≤ x5) ∧ (x5 < (↑x6.length : Int))
        · rw [if_pos q] at h
          refine ⟨(conjC q.1 (conjC q.2 conj0)), ?_⟩
          exact ih.2 x0 ((x1 || x0 == x6.getD x5.toNat I.dflt)) x2 x3 x4 ((IntKind.i64.wrap (x5 + 1))) x6 x7 _ h
        · rw [if_neg q] at h; cases h
      · rw [cond_f c] at h
        refine ⟨fun c => ?_, fun c => ?_⟩
        · rw [cond_t c] at h
          cases h; exact ⟨rfl, rfl⟩
        · rw [cond_f c] at h
          exact ih.1 x2 ((IntKind.i64.wrap (x3 + 1))) x6 x7 _ h
theorem of7 (k : Nat) (o_ : t23.T) (f_ : t25.T) (more_ : t42.T) (r : R7) (h : f7 k o_ f_ more_ = some r) : CC Try.prog 7 (args7 o_ f_ more_) [] (res7 r) (bo7 r) := by
  refine CC.of (fn := Try.f7) (by kernel_rfl) (by kernel_rfl) (by kernel_rfl) (by kernel_rfl) ?_
  unfold f7 at h
  refine Ev.tree hm (R := Rt) (K := (K7 k)) (l := []) (C := [(12, [.auto [8, 64, 65, 66] false]), (16, [.auto [8, 13, 14, 64, 65, 66, 70, 71, 72] false])]) (E := [.auto [6] true]) (n := 1000) (T := .need [(0 : Int) ≤ (0 : Int), (0 : Int) < (↑ (3 : Nat) : Int)] (.need [(0 : Int) ≤ (1 : Int), (1 : Int) < (↑ (3 : Nat) : Int)] (.need [(0 : Int) ≤ (2 : Int), (2 : Int) < (↑ (3 : Nat) : Int)] (.need [CC Try.prog 8 (args8 o_ f_) [] (res8 (v8 k o_ f_)) (bo8 (v8 k o_ f_))] (.need [CC Try.prog 8 (args8 (o_.fst, o_.snd.fst, o_.snd.snd.fst, o_.snd.snd.snd.fst, o_.snd.snd.snd.snd.fst, if IntKind.i64.wrap (o_.snd.snd.snd.snd.snd.fst + IntKind.i64.wrap more_.fst) < IntKind.i64.wrap (o_.snd.snd.snd.snd.fst - o_.snd.snd.snd.fst) then IntKind.i64.wrap (o_.snd.snd.snd.snd.snd.fst + IntKind.i64.wrap more_.fst) else IntKind.i64.wrap (o_.snd.snd.snd.snd.fst - o_.snd.snd.snd.fst), o_.snd.snd.snd.snd.snd.snd.fst, o_.snd.snd.snd.snd.snd.snd.snd.fst, o_.snd.snd.snd.snd.snd.snd.snd.snd.fst, if IntKind.i64.wrap (o_.snd.snd.snd.snd.snd.snd.snd.snd.snd.fst + IntKind.i64.wrap more_.snd.fst) < 8 then IntKind.i64.wrap (o_.snd.snd.snd.snd.snd.snd.snd.snd.snd.fst + IntKind.i64.wrap more_.snd.fst) else 8, if IntKind.i64.wrap (o_.snd.snd.snd.snd.snd.snd.snd.snd.snd.snd.fst + IntKind.i64.wrap more_.snd.snd) < 100 then IntKind.i64.wrap (o_.snd.snd.snd.snd.snd.snd.snd.snd.snd.snd.fst + IntKind.i64.wrap more_.snd.snd) else 100, o_.snd.snd.snd.snd.snd.snd.snd.snd.snd.snd.snd) f_) [] (res8 (v8 k (o_.fst, o_.snd.fst, o_.snd.snd.fst, o_.snd.snd.snd.fst, o_.snd.snd.snd.snd.fst, if IntKind.i64.wrap (o_.snd.snd.snd.snd.snd.fst + IntKind.i64.wrap more_.fst) < IntKind.i64.wrap (o_.snd.snd.snd.snd.fst - o_.snd.snd.snd.fst) then IntKind.i64.wrap (o_.snd.snd.snd.snd.snd.fst + IntKind.i64.wrap more_.fst) else IntKind.i64.wrap (o_.snd.snd.snd.snd.fst - o_.snd.snd.snd.fst), o_.snd.snd.snd.snd.snd.snd.fst, o_.snd.snd.snd.snd.snd.snd.snd.fst, o_.snd.snd.snd.snd.snd.snd.snd.snd.fst, if IntKind.i64.wrap (o_.snd.snd.snd.snd.snd.snd.snd.snd.snd.fst + IntKind.i64.wrap more_.snd.fst) < 8 then IntKind.i64.wrap (o_.snd.snd.snd.snd.snd.snd.snd.snd.snd.fst + IntKind.i64.wrap more_.snd.fst) else 8, if IntKind.i64.wrap (o_.snd.snd.snd.snd.snd.snd.snd.snd.snd.snd.fst + IntKind.i64.wrap more_.snd.snd) < 100 then IntKind.i64.wrap (o_.snd.snd.snd.snd.snd.snd.snd.snd.snd.snd.fst + IntKind.i64.wrap more_.snd.snd) else 100, o_.snd.snd.snd.snd.snd.snd.snd.snd.snd.snd.snd) f_)) (bo8 (v8 k (o_.fst, o_.snd.fst, o_.snd.snd.fst, o_.snd.snd.snd.fst, o_.snd.snd.snd.snd.fst, if IntKind.i64.wrap (o_.snd.snd.snd.snd.snd.fst + IntKind.i64.wrap more_.fst) < IntKind.i64.wrap (o_.snd.snd.snd.snd.fst - o_.snd.snd.snd.fst) then IntKind.i64.wrap (o_.snd.snd.snd.snd.snd.fst + IntKind.i64.wrap more_.fst) else IntKind.i64.wrap (o_.snd.snd.snd.snd.fst - o_.snd.snd.snd.fst), o_.snd.snd.snd.snd.snd.snd.fst, o_.snd.snd.snd.snd.snd.snd.snd.fst, o_.snd.snd.snd.snd.snd.snd.snd.snd.fst, if IntKind.i64.wrap (o_.snd.snd.snd.snd.snd.snd.snd.snd.snd.fst + IntKind.i64.wrap more_.snd.fst) < 8 then IntKind.i64.wrap (o_.snd.snd.snd.snd.snd.snd.snd.snd.snd.fst + IntKind.i64.wrap more_.snd.fst) else 8, if IntKind.i64.wrap (o_.snd.snd.snd.snd.snd.snd.snd.snd.snd.snd.fst + IntKind.i64.wrap more_.snd.snd) < 100 then IntKind.i64.wrap (o_.snd.snd.snd.snd.snd.snd.snd.snd.snd.snd.fst + IntKind.i64.wrap more_.snd.snd) else 100, o_.snd.snd.snd.snd.snd.snd.snd.snd.snd.snd.snd) f_))] (.test (((v8 k o_ f_).fst != (0 : Int))) (.need [CC Try.prog 10 (args10 ) [] (res10 (v10 k )) (bo10 (v10 k ))] (.leaf (res7 (v10 k)) (bo7 (v10 k)))) (.test (((v8 k (o_.fst, o_.snd.fst, o_.snd.snd.fst, o_.snd.snd.snd.fst, o_.snd.snd.snd.snd.fst, if IntKind.i64.wrap (o_.snd.snd.snd.snd.snd.fst + IntKind.i64.wrap more_.fst) < IntKind.i64.wrap (o_.snd.snd.snd.snd.fst - o_.snd.snd.snd.fst) then IntKind.i64.wrap (o_.snd.snd.snd.snd.snd.fst + IntKind.i64.wrap more_.fst) else IntKind.i64.wrap (o_.snd.snd.snd.snd.fst - o_.snd.snd.snd.fst), o_.snd.snd.snd.snd.snd.snd.fst, o_.snd.snd.snd.snd.snd.snd.snd.fst, o_.snd.snd.snd.snd.snd.snd.snd.snd.fst, if IntKind.i64.wrap (o_.snd.snd.snd.snd.snd.snd.snd.snd.snd.fst + IntKind.i64.wrap more_.snd.fst) < (8 : Int) then IntKind.i64.wrap (o_.snd.snd.snd.snd.snd.snd.snd.snd.snd.fst + IntKind.i64.wrap more_.snd.fst) else (8 : Int), if IntKind.i64.wrap (o_.snd.snd.snd.snd.snd.snd.snd.snd.snd.snd.fst + IntKind.i64.wrap more_.snd.snd) < (100 : Int) then IntKind.i64.wrap (o_.snd.snd.snd.snd.snd.snd.snd.snd.snd.snd.fst + IntKind.i64.wrap more_.snd.snd) else (100 : Int), o_.snd.snd.snd.snd.snd.snd.snd.snd.snd.snd.snd) f_).fst != (0 : Int))) (.leaf (res7 false) (bo7 false)) (.cut 12 (placeAt Try.f7 12) (st7_12 ((↑ (v8 k (o_.fst, o_.snd.fst, o_.snd.snd.fst, o_.snd.snd.snd.fst, o_.snd.snd.snd.snd.fst, if IntKind.i64.wrap (o_.snd.snd.snd.snd.snd.fst + IntKind.i64.wrap more_.fst) < IntKind.i64.wrap (o_.snd.snd.snd.snd.fst - o_.snd.snd.snd.fst) then IntKind.i64.wrap (o_.snd.snd.snd.snd.snd.fst + IntKind.i64.wrap more_.fst) else IntKind.i64.wrap (o_.snd.snd.snd.snd.fst - o_.snd.snd.snd.fst), o_.snd.snd.snd.snd.snd.snd.fst, o_.snd.snd.snd.snd.snd.snd.snd.fst, o_.snd.snd.snd.snd.snd.snd.snd.snd.fst, if IntKind.i64.wrap (o_.snd.snd.snd.snd.snd.snd.snd.snd.snd.fst + IntKind.i64.wrap more_.snd.fst) < 8 then IntKind.i64.wrap (o_.snd.snd.snd.snd.snd.snd.snd.snd.snd.fst + IntKind.i64.wrap more_.snd.fst) else 8, if IntKind.i64.wrap (o_.snd.snd.snd.snd.snd.snd.snd.snd.snd.snd.fst + IntKind.i64.wrap more_.snd.snd) < 100 then IntKind.i64.wrap (o_.snd.snd.snd.snd.snd.snd.snd.snd.snd.snd.fst + IntKind.i64.wrap more_.snd.snd) else 100, o_.snd.snd.snd.snd.snd.snd.snd.snd.snd.snd.snd) f_).snd.length : Int)) 0 ((v8 k o_ f_).snd) ((v8 k (o_.fst, o_.snd.fst, o_.snd.snd.fst, o_.snd.snd.snd.fst, o_.snd.snd.snd.snd.fst, if IntKind.i64.wrap (o_.snd.snd.snd.snd.snd.fst + IntKind.i64.wrap more_.fst) < IntKind.i64.wrap (o_.snd.snd.snd.snd.fst - o_.snd.snd.snd.fst) then IntKind.i64.wrap (o_.snd.snd.snd.snd.snd.fst + IntKind.i64.wrap more_.fst) else IntKind.i64.wrap (o_.snd.snd.snd.snd.fst - o_.snd.snd.snd.fst), o_.snd.snd.snd.snd.snd.snd.fst, o_.snd.snd.snd.snd.snd.snd.snd.fst, o_.snd.snd.snd.snd.snd.snd.snd.snd.fst, if IntKind.i64.wrap (o_.snd.snd.snd.snd.snd.snd.snd.snd.snd.fst + IntKind.i64.wrap more_.snd.fst) < 8 then IntKind.i64.wrap (o_.snd.snd.snd.snd.snd.snd.snd.snd.snd.fst + IntKind.i64.wrap more_.snd.fst) else 8, if IntKind.i64.wrap (o_.snd.snd.snd.snd.snd.snd.snd.snd.snd.snd.fst + IntKind.i64.wrap more_.snd.snd) < 100 then IntKind.i64.wrap (o_.snd.snd.snd.snd.snd.snd.snd.snd.snd.snd.fst + IntKind.i64.wrap more_.snd.snd) else 100, o_.snd.snd.snd.snd.snd.snd.snd.snd.snd.snd.snd) f_).snd)))))))))) (by kernel_rfl) ?_
  by_cases q : ((0 : Int) ≤ (0 : Int)) ∧ ((0 : Int) < (↑ (3 : Nat) : Int))
  · rw [if_pos q] at h
    refine ⟨(conjC q.1 (conjC q.2 conj0)), ?_⟩
    by_cases q : ((0 : Int) ≤ (1 : Int)) ∧ ((1 : Int) < (↑ (3 : Nat) : Int))
    · rw [if_pos q] at h
      refine ⟨(conjC q.1 (conjC q.2 conj0)), ?_⟩
      by_cases q : ((0 : Int) ≤ (2 : Int)) ∧ ((2 : Int) < (↑ (3 : Nat) : Int))
      · rw [if_pos q] at h
        refine ⟨(conjC q.1 (conjC q.2 conj0)), ?_⟩
        by_cases q : ((f8 k o_ f_).isSome = true)
        · rw [if_pos q] at h
          refine ⟨(conjC (cc8 k o_ f_ q) conj0), ?_⟩
          by_cases q : ((f8 k (o_.fst, o_.snd.fst, o_.snd.snd.fst, o_.snd.snd.snd.fst, o_.snd.snd.snd.snd.fst, if IntKind.i64.wrap (o_.snd.snd.snd.snd.snd.fst + IntKind.i64.wrap more_.fst) < IntKind.i64.wrap (o_.snd.snd.snd.snd.fst - o_.snd.snd.snd.fst) then IntKind.i64.wrap (o_.snd.snd.snd.snd.snd.fst + IntKind.i64.wrap more_.fst) else IntKind.i64.wrap (o_.snd.snd.snd.snd.fst - o_.snd.snd.snd.fst), o_.snd.snd.snd.snd.snd.snd.fst, o_.snd.snd.snd.snd.snd.snd.snd.fst, o_.snd.snd.snd.snd.snd.snd.snd.snd.fst, if IntKind.i64.wrap (o_.snd.snd.snd.snd.snd.snd.snd.snd.snd.fst + IntKind.i64.wrap more_.snd.fst) < 8 then IntKind.i64.wrap (o_.snd.snd.snd.snd.snd.snd.snd.snd.snd.fst + IntKind.i64.wrap more_.snd.fst) else 8, if IntKind.i64.wrap (o_.snd.snd.snd.snd.snd.snd.snd.snd.snd.snd.fst + IntKind.i64.wrap more_.snd.snd) < 100 then IntKind.i64.wrap (o_.snd.snd.snd.snd.snd.snd.snd.snd.snd.snd.fst + IntKind.i64.wrap more_.snd.snd) else 100, o_.snd.snd.snd.snd.snd.snd.snd.snd.snd.snd.snd) f_).isSome = true)
          · rw [if_pos q] at h
            refine ⟨(conjC (cc8 k (o_.fst, o_.snd.fst, o_.snd.snd.fst, o_.snd.snd.snd.fst, o_.snd.snd.snd.snd.fst, if IntKind.i64.wrap (o_.snd.snd.snd.snd.snd.fst + IntKind.i64.wrap more_.fst) < IntKind.i64.wrap (o_.snd.snd.snd.snd.fst - o_.snd.snd.snd.fst) then IntKind.i64.wrap (o_.snd.snd.snd.snd.snd.fst + IntKind.i64.wrap more_.fst) else IntKind.i64.wrap (o_.snd.snd.snd.snd.fst - o_.snd.snd.snd.fst), o_.snd.snd.snd.snd.snd.snd.fst, o_.snd.snd.snd.snd.snd.snd.snd.fst, o_.snd.snd.snd.snd.snd.snd.snd.snd.fst, if IntKind.i64.wrap (o_.snd.snd.snd.snd.snd.snd.snd.snd.snd.fst + IntKind.i64.wrap more_.snd.fst) < 8 then IntKind.i64.wrap (o_.snd.snd.snd.snd.snd.snd.snd.snd.snd.fst + IntKind.i64.wrap more_.snd.fst) else 8, if IntKind.i64.wrap (o_.snd.snd.snd.snd.snd.snd.snd.snd.snd.snd.fst + IntKind.i64.wrap more_.snd.snd) < 100 then IntKind.i64.wrap (o_.snd.snd.snd.snd.snd.snd.snd.snd.snd.snd.fst + IntKind.i64.wrap more_.snd.snd) else 100, o_.snd.snd.snd.snd.snd.snd.snd.snd.snd.snd.snd) f_ q) conj0), ?_⟩
            refine ⟨fun c => ?_, fun c => ?_⟩
            · rw [cond_t c] at h
              by_cases q : ((f10 k ).isSome = true)
              · rw [if_pos q] at h
                refine ⟨(conjC (cc10 k  q) conj0), ?_⟩
                cases h; exact ⟨rfl, rfl⟩
              · rw [if_neg q] at h; cases h
            · rw [cond_f c] at h
              refine ⟨fun c => ?_, fun c => ?_⟩
              · rw [cond_t c] at h
                cases h; exact ⟨rfl, rfl⟩
              · rw [cond_f c] at h
                exact (ev7 k k).1 ((↑ (v8 k (o_.fst, o_.snd.fst, o_.snd.snd.fst, o_.snd.snd.snd.fst, o_.snd.snd.snd.snd.fst, if IntKind.i64.wrap (o_.snd.snd.snd.snd.snd.fst + IntKind.i64.wrap more_.fst) < IntKind.i64.wrap (o_.snd.snd.snd.snd.fst - o_.snd.snd.snd.fst) then IntKind.i64.wrap (o_.snd.snd.snd.snd.snd.fst + IntKind.i64.wrap more_.fst) else IntKind.i64.wrap (o_.snd.snd.snd.snd.fst - o_.snd.snd.snd.fst), o_.snd.snd.snd.snd.snd.snd.fst, o_.snd.snd.snd.snd.snd.snd.snd.fst, o_.snd.snd.snd.snd.snd.snd.snd.snd.fst, if IntKind.i64.wrap (o_.snd.snd.snd.snd.snd.snd.snd.snd.snd.fst + IntKind.i64.wrap more_.snd.fst) < 8 then IntKind.i64.wrap (o_.snd.snd.snd.snd.snd.snd.snd.snd.snd.fst + IntKind.i64.wrap more_.snd.fst) else 8, if IntKind.i64.wrap (o_.snd.snd.snd.snd.snd.snd.snd.snd.snd.snd.fst + IntKind.i64.wrap more_.snd.snd) < 100 then IntKind.i64.wrap (o_.snd.snd.snd.snd.snd.snd.snd.snd.snd.snd.fst + IntKind.i64.wrap more_.snd.snd) else 100, o_.snd.snd.snd.snd.snd.snd.snd.snd.snd.snd.snd) f_).snd.length : Int)) 0 ((v8 k o_ f_).snd) ((v8 k (o_.fst, o_.snd.fst, o_.snd.snd.fst, o_.snd.snd.snd.fst, o_.snd.snd.snd.snd.fst, if IntKind.i64.wrap (o_.snd.snd.snd.snd.snd.fst + IntKind.i64.wrap more_.fst) < IntKind.i64.wrap (o_.snd.snd.snd.snd.fst - o_.snd.snd.snd.fst) then IntKind.i64.wrap (o_.snd.snd.snd.snd.snd.fst + IntKind.i64.wrap more_.fst) else IntKind.i64.wrap (o_.snd.snd.snd.snd.fst - o_.snd.snd.snd.fst), o_.snd.snd.snd.snd.snd.snd.fst, o_.snd.snd.snd.snd.snd.snd.snd.fst, o_.snd.snd.snd.snd.snd.snd.snd.snd.fst, if IntKind.i64.wrap (o_.snd.snd.snd.snd.snd.snd.snd.snd.snd.fst + IntKind.i64.wrap more_.snd.fst) < 8 then IntKind.i64.wrap (o_.snd.snd.snd.snd.snd.snd.snd.snd.snd.fst + IntKind.i64.wrap more_.snd.fst) else 8, if IntKind.i64.wrap (o_.snd.snd.snd.snd.snd.snd.snd.snd.snd.snd.fst + IntKind.i64.wrap more_.snd.snd) < 100 then IntKind.i64.wrap (o_.snd.snd.snd.snd.snd.snd.snd.snd.snd.snd.fst + IntKind.i64.wrap more_.snd.snd) else 100, o_.snd.snd.snd.snd.snd.snd.snd.snd.snd.snd.snd) f_).snd) _ h
          · rw [if_neg q] at h; cases h
        · rw [if_neg q] at h; cases h
      · rw [if_neg q] at h; cases h
    · rw [if_neg q] at h; cases h
  · rw [if_neg q] at h; cases h
theorem cc7 (k : Nat) (o_ : t23.T) (f_ : t25.T) (more_ : t42.T) (h : (f7 k o_ f_ more_).isSome = true) : CC Try.prog 7 (args7 o_ f_ more_) [] (res7 (v7 k o_ f_ more_)) (bo7 (v7 k o_ f_ more_)) := by
  cases e : f7 k o_ f_ more_ with
  | none => rw [e] at h; cases h
  | some r => rw [show v7 k o_ f_ more_ = r by simp [v7, e]]; exact of7 k o_ f_ more_ r e

end
end Go.AM
namespace Go.AM
open Go

/-! ### plain laws of the release -/
theorem cond_some {α : Type} {b : Bool} {x y : Option α} (hx : x.isSome = true) (hy : y.isSome = true) : (cond b x y).isSome = true := by cases b <;> assumption
noncomputable def chk (o : t23.T) : Int := (f16 0 o).getD 0
theorem f16_s (k : Nat) (o : t23.T) : f16 k o = some (chk o) := by
  have h : (f16 0 o).isSome = true := by
    unfold f16
    repeat (first | exact rfl | apply cond_some)
  show f16 0 o = some ((f16 0 o).getD 0)
  revert h
  cases f16 0 o <;> simp
theorem f24_s (k : Nat) (o : t23.T) : f24 k o = some (chk o) := by
  rw [← f16_s 0 o]
  unfold f24 f16
  simp only [cond_or']

def c1 (o : t23.T) (f : t25.T) : Bool := f.fst != o.snd.fst
def c2 (_o : t23.T) (f : t25.T) : Bool := !f.snd.fst
def c3 (o : t23.T) (f : t25.T) : Bool := f.snd.snd.fst != o.snd.snd.fst
def c4 (o : t23.T) (f : t25.T) : Bool := decide (f.snd.snd.snd.fst < IntKind.i64.wrap (o.snd.snd.snd.snd.fst - o.snd.snd.snd.snd.snd.fst)) || decide (f.snd.snd.snd.fst > o.snd.snd.snd.snd.fst)
def c5 (o : t23.T) (f : t25.T) : Bool := decide (f.snd.snd.snd.snd.fst > o.snd.snd.snd.snd.snd.snd.snd.snd.snd.fst)
def c6 (o : t23.T) (f : t25.T) : Bool := decide (f.snd.snd.snd.snd.snd > o.snd.snd.snd.snd.snd.snd.snd.snd.snd.snd.fst)
def cat (b : Bool) (n : Int) (l : List Int) : List Int := bif b then l ++ [n] else l
def faults (o : t23.T) (f : t25.T) : List Int := cat (c6 o f) 6 (cat (c5 o f) 5 (cat (c4 o f) 4 (cat (c3 o f) 3 (cat (c2 o f) 2 (cat (c1 o f) 1 [])))))
noncomputable def judge (o : t23.T) (f : t25.T) : Int × List Int := if chk o = 0 then (0, faults o f) else (chk o, [])

theorem cat_len (b : Bool) (n : Int) (l : List Int) : (cat b n l).length ≤ l.length + 1 := by cases b <;> simp [cat]
theorem cat_step {β : Type} (b : Bool) (n : Int) (l : List Int) (h : l.length ≤ 100) (F : List Int → Option β) : (bif b then (if ((l.length + [n].length) * 8 ≤ 140737488355328) then F (l ++ [n]) else none) else F l) = F (cat b n l) := by
  cases b
  · rfl
  · simp only [cond_true, cat]
    rw [if_pos (by simp; omega)]
theorem faults_len (o : t23.T) (f : t25.T) : (faults o f).length ≤ 6 := by
  have h1 := cat_len (c1 o f) 1 []
  have h2 := cat_len (c2 o f) 2 (cat (c1 o f) 1 [])
  have h3 := cat_len (c3 o f) 3 (cat (c2 o f) 2 (cat (c1 o f) 1 []))
  have h4 := cat_len (c4 o f) 4 (cat (c3 o f) 3 (cat (c2 o f) 2 (cat (c1 o f) 1 [])))
  have h5 := cat_len (c5 o f) 5 (cat (c4 o f) 4 (cat (c3 o f) 3 (cat (c2 o f) 2 (cat (c1 o f) 1 []))))
  have h6 := cat_len (c6 o f) 6 (cat (c5 o f) 5 (cat (c4 o f) 4 (cat (c3 o f) 3 (cat (c2 o f) 2 (cat (c1 o f) 1 [])))))
  simp only [faults]
  simp at h1
  omega

theorem f11_s (k j : Nat) (o : t23.T) (f : t25.T) : f11_5 k (j + 7) o f = some (0, faults o f) := by
  have h1 := cat_len (c1 o f) 1 []
  have h2 := cat_len (c2 o f) 2 (cat (c1 o f) 1 [])
  have h3 := cat_len (c3 o f) 3 (cat (c2 o f) 2 (cat (c1 o f) 1 []))
  have h4 := cat_len (c4 o f) 4 (cat (c3 o f) 3 (cat (c2 o f) 2 (cat (c1 o f) 1 [])))
  have h5 := cat_len (c5 o f) 5 (cat (c4 o f) 4 (cat (c3 o f) 3 (cat (c2 o f) 2 (cat (c1 o f) 1 []))))
  simp at h1
  have e5 : f11_5 k (j + 7) o f = f11_7 k (j + 6) o f (cat (c1 o f) 1 []) := by
    rw [f11_5]
    exact cat_step (c1 o f) 1 [] (by simp) (f11_7 k (j + 6) o f)
  have e7 : ∀ l : List Int, l.length ≤ 100 → f11_7 k (j + 6) o f l = f11_9 k (j + 5) o f (cat (c2 o f) 2 l) := fun l hl => by
    rw [f11_7]; exact cat_step (c2 o f) 2 l hl (f11_9 k (j + 5) o f)
  have e9 : ∀ l : List Int, l.length ≤ 100 → f11_9 k (j + 5) o f l = f11_11 k (j + 4) o f (cat (c3 o f) 3 l) := fun l hl => by
    rw [f11_9]; exact cat_step (c3 o f) 3 l hl (f11_11 k (j + 4) o f)
  have e11 : ∀ l : List Int, l.length ≤ 100 → f11_11 k (j + 4) o f l = f11_13 k (j + 3) o f (cat (c4 o f) 4 l) := fun l hl => by
    rw [f11_11]; exact cat_step (c4 o f) 4 l hl (f11_13 k (j + 3) o f)
  have e13 : ∀ l : List Int, l.length ≤ 100 → f11_13 k (j + 3) o f l = f11_15 k (j + 2) o f (cat (c5 o f) 5 l) := fun l hl => by
    rw [f11_13]; exact cat_step (c5 o f) 5 l hl (f11_15 k (j + 2) o f)
  have e15 : ∀ l : List Int, l.length ≤ 100 → f11_15 k (j + 2) o f l = f11_17 k (j + 1) (cat (c6 o f) 6 l) := fun l hl => by
    rw [f11_15]; exact cat_step (c6 o f) 6 l hl (f11_17 k (j + 1))
  rw [e5, e7 _ (by omega), e9 _ (by omega), e11 _ (by omega), e13 _ (by omega), e15 _ (by omega), f11_17]
  rfl

theorem f11_j (k : Nat) (hk : 100 ≤ k) (o : t23.T) (f : t25.T) : f11 k o f = some (judge o f) := by
  obtain ⟨j, rfl⟩ : ∃ j, k = j + 7 := ⟨k - 7, by omega⟩
  unfold f11 v24 judge
  rw [f24_s]
  by_cases h : chk o = 0
  · simp [h, f11_s]
  · simp [h, bne, beqf h]

theorem f8_s (k j : Nat) (o : t23.T) (f : t25.T) : f8_10007 k (j + 7) [] (f, o) = some (0, faults o f) := by
  have h1 := cat_len (c1 o f) 1 []
  have h2 := cat_len (c2 o f) 2 (cat (c1 o f) 1 [])
  have h3 := cat_len (c3 o f) 3 (cat (c2 o f) 2 (cat (c1 o f) 1 []))
  have h4 := cat_len (c4 o f) 4 (cat (c3 o f) 3 (cat (c2 o f) 2 (cat (c1 o f) 1 [])))
  have h5 := cat_len (c5 o f) 5 (cat (c4 o f) 4 (cat (c3 o f) 3 (cat (c2 o f) 2 (cat (c1 o f) 1 []))))
  simp at h1
  have hc : (↑ (clos8 (f, o)).length : Int) = 6 := rfl
  have e1 : f8_10007 k (j + 7) [] (f, o) = f8_20007 k (j + 6) (cat (c1 o f) 1 []) (f, o) := by
    rw [f8_10007, hc, if_pos (by omega), if_pos (show (f17 k (f, o)).isSome = true from rfl)]
    exact cat_step (c1 o f) 1 [] (by simp) (f8_20007 k (j + 6) · (f, o))
  have e2 : ∀ l : List Int, l.length ≤ 100 → f8_20007 k (j + 6) l (f, o) = f8_30007 k (j + 5) (cat (c2 o f) 2 l) (f, o) := fun l hl => by
    rw [f8_20007, hc, if_pos (by omega), if_pos (show (f18 k (f, o)).isSome = true from rfl)]
    exact cat_step (c2 o f) 2 l hl (f8_30007 k (j + 5) · (f, o))
  have e3 : ∀ l : List Int, l.length ≤ 100 → f8_30007 k (j + 5) l (f, o) = f8_40007 k (j + 4) (cat (c3 o f) 3 l) (f, o) := fun l hl => by
    rw [f8_30007, hc, if_pos (by omega), if_pos (show (f19 k (f, o)).isSome = true from rfl)]
    exact cat_step (c3 o f) 3 l hl (f8_40007 k (j + 4) · (f, o))
  have e4 : ∀ l : List Int, l.length ≤ 100 → f8_40007 k (j + 4) l (f, o) = f8_50007 k (j + 3) (cat (c4 o f) 4 l) (f, o) := fun l hl => by
    rw [f8_40007, hc, if_pos (by omega), if_pos (show (f20 k (f, o)).isSome = true from rfl)]
    exact cat_step (c4 o f) 4 l hl (f8_50007 k (j + 3) · (f, o))
  have e5 : ∀ l : List Int, l.length ≤ 100 → f8_50007 k (j + 3) l (f, o) = f8_60007 k (j + 2) (cat (c5 o f) 5 l) (f, o) := fun l hl => by
    rw [f8_50007, hc, if_pos (by omega), if_pos (show (f21 k (f, o)).isSome = true from rfl)]
    exact cat_step (c5 o f) 5 l hl (f8_60007 k (j + 2) · (f, o))
  have e6 : ∀ l : List Int, l.length ≤ 100 → f8_60007 k (j + 2) l (f, o) = f8_70007 k (j + 1) (cat (c6 o f) 6 l) (f, o) := fun l hl => by
    rw [f8_60007, hc, if_pos (by omega), if_pos (show (f22 k (f, o)).isSome = true from rfl)]
    exact cat_step (c6 o f) 6 l hl (f8_70007 k (j + 1) · (f, o))
  rw [e1, e2 _ (by omega), e3 _ (by omega), e4 _ (by omega), e5 _ (by omega), e6 _ (by omega), f8_70007]
  rfl

theorem f8_j (k : Nat) (hk : 100 ≤ k) (o : t23.T) (f : t25.T) : f8 k o f = some (judge o f) := by
  obtain ⟨j, rfl⟩ : ∃ j, k = j + 7 := ⟨k - 7, by omega⟩
  unfold f8 v16 judge
  rw [f16_s]
  by_cases h : chk o = 0
  · simp [h]
    exact f8_s _ _ _ _
  · simp [h, bne, beqf h]
end Go.AM
namespace Go.AM
open Go

def badW (w : t36.T) : Int := bif decide (w.fst < 1) || decide (w.fst > 1000000) then 1 else bif decide (w.snd.fst < 1) || decide (w.snd.fst > 6) then 17 else bif decide (w.snd.snd < 0) || decide (w.snd.snd > 2147483647) then 1 else 0
theorem badW_step {β : Type} (w : t36.T) (F : Int → Option β) (x : Option β) : (bif decide (w.fst < 1) || decide (w.fst > 1000000) then F 1 else bif decide (w.snd.fst < 1) || decide (w.snd.fst > 6) then F 17 else bif decide (w.snd.snd < 0) || decide (w.snd.snd > 2147483647) then F 1 else x) = if badW w = 0 then x else F (badW w) := by
  unfold badW
  cases decide (w.fst < 1) || decide (w.fst > 1000000) <;> cases decide (w.snd.fst < 1) || decide (w.snd.fst > 6) <;> cases decide (w.snd.snd < 0) || decide (w.snd.snd > 2147483647) <;> simp
def rightS : List t36.T → Int
  | [] => 0
  | w :: r => if badW w = 0 then rightS r else badW w
def rightF (l : List t36.T) : Int := if l.length ≤ 512 then rightS l else 8

theorem f25_loop (k : Nat) (l : List t36.T) (hl : l.length ≤ 512) : ∀ (d j i : Nat), i + d = l.length → d < j → f25_4 k j l (l.length : Int) (i : Int) = some (rightS (l.drop i)) := by
  intro d
  induction d with
  | zero =>
    intro j i h hj
    obtain ⟨j, rfl⟩ := fuel1 hj
    rw [f25_4, decide_eq_false (by omega), cond_false, drop_all l i (by omega)]
    rfl
  | succ d ih =>
    intro j i h hj
    obtain ⟨j, rfl⟩ := fuel1 hj
    have hi : i < l.length := by omega
    rw [f25_4, decide_eq_true (by omega), cond_true, if_pos ⟨by omega, by omega⟩, drop_cons' l i t36.dflt hi, wrapS i (by omega), ih j (i + 1) (by omega) (by omega)]
    simp only [Int.toNat_natCast, rightS]
    refine (badW_step (l.getD i t36.dflt) some _).trans ?_
    split <;> rfl

theorem f25_j (k : Nat) (hk : 1000 ≤ k) (l : List t36.T) : f25 k l = some (rightF l) := by
  unfold f25 rightF
  by_cases h : l.length ≤ 512
  · rw [decide_eq_false (by omega), cond_false, if_pos h]
    have := f25_loop k l h l.length k 0 (by omega) (by omega)
    simpa using this
  · rw [decide_eq_true (by omega), cond_true, if_neg h]

def waived (roll : Int) (l : List t36.T) (n : Int) : Bool := l.any fun w => w.fst == roll && w.snd.fst == n
noncomputable def missing (o : t23.T) (f : t25.T) (roll : Int) (l : List t36.T) : Int × List Int :=
  if chk o = 0 then (if rightF l = 0 then (0, (faults o f).filter fun n => !waived roll l n) else (rightF l, [])) else (chk o, [])
noncomputable def release (o : t23.T) (f : t25.T) (roll : Int) (l : List t36.T) : Int := if (missing o f roll l).fst = 0 then (if (missing o f roll l).snd = [] then 0 else 31) else (missing o f roll l).fst

theorem f13_b (k : Nat) (m : List (Int × Bool)) (xs : List Int) (hx : xs.length ≤ 100) : ∀ (d j i : Nat) (acc : List Int), i + d = xs.length → d < j → acc.length + d ≤ 100 →
    f13_16 k j (xs.length : Int) (i : Int) m acc xs = some (0, acc ++ (xs.drop i).filter fun n => !((mget I (β := Bool) n m).getD false)) := by
  intro d
  induction d with
  | zero =>
    intro j i acc h hj ha
    obtain ⟨j, rfl⟩ := fuel1 hj
    rw [f13_16, decide_eq_false (by omega), cond_false, drop_all xs i (by omega)]
    simp
  | succ d ih =>
    intro j i acc h hj ha
    obtain ⟨j, rfl⟩ := fuel1 hj
    have hi : i < xs.length := by omega
    rw [f13_16, decide_eq_true (by omega), cond_true, if_pos ⟨by omega, by omega⟩, drop_cons' xs i I.dflt hi, wrapS i (by omega)]
    simp only [Int.toNat_natCast]
    generalize xs.getD i I.dflt = n
    rw [ih j (i + 1) acc (by omega) (by omega) (by omega), if_pos (by simp; omega), ih j (i + 1) (acc ++ [n]) (by omega) (by omega) (by simp; omega)]
    cases hm : (mget I (β := Bool) n m).getD false <;> simp [hm]

theorem f13_a (k : Nat) (roll : Int) (l : List t36.T) (hl : l.length ≤ 512) (xs : List Int) (hx : xs.length ≤ 100) : ∀ (d j i : Nat) (m : List (Int × Bool)), i + d = l.length → d + 102 < j →
    f13_9 k j roll l (l.length : Int) (i : Int) xs m = some (0, xs.filter fun n => !((mget I (β := Bool) n m).getD false || waived roll (l.drop i) n)) := by
  intro d
  induction d with
  | zero =>
    intro j i m h hj
    obtain ⟨j, rfl⟩ := fuel1 hj
    rw [f13_9, decide_eq_false (by omega), cond_false, drop_all l i (by omega)]
    have := f13_b k m xs hx xs.length j 0 [] (by omega) (by omega) (by simp; omega)
    simpa [waived] using this
  | succ d ih =>
    intro j i m h hj
    obtain ⟨j, rfl⟩ := fuel1 hj
    have hi : i < l.length := by omega
    rw [f13_9, decide_eq_true (by omega), cond_true, if_pos ⟨by omega, by omega⟩, drop_cons' l i t36.dflt hi, wrapS i (by omega)]
    simp only [Int.toNat_natCast]
    generalize l.getD i t36.dflt = w
    rw [ih j (i + 1) _ (by omega) (by omega), ih j (i + 1) _ (by omega) (by omega)]
    cases hw : (w.fst == roll)
    · simp only [cond_false, waived, List.any_cons, hw, Bool.false_and, Bool.false_or]
    · simp only [cond_true, waived, List.any_cons, hw, Bool.true_and]
      congr 2
      apply List.filter_congr
      intro n _
      have := mget_mset_int m w.snd.fst n true
      by_cases hn : n = w.snd.fst
      · subst hn
        simp at this
        simp [this]
      · have h2 : (w.snd.fst == n) = false := beqf fun e => hn e.symm
        simp [hn] at this
        simp [this, h2]

theorem f13_j (k : Nat) (hk : 1000 ≤ k) (o : t23.T) (f : t25.T) (roll : Int) (l : List t36.T) : f13 k o f roll l = some (missing o f roll l) := by
  unfold f13 v8 v25 missing
  rw [f8_j k (by omega), f25_j k hk]
  unfold judge
  by_cases h : chk o = 0
  · by_cases h2 : rightF l = 0
    · have hl : l.length ≤ 512 := by
        by_cases hl : l.length ≤ 512
        · exact hl
        · simp [rightF, hl] at h2
      have := f13_a k roll l hl (faults o f) (by have := faults_len o f; omega) l.length k 0 [] (by omega) (by omega)
      simp [h, h2]
      simpa [mget] using this
    · simp [h, h2, bne, beqf h2]
  · simp [h, bne, beqf h]

theorem f9_j (k : Nat) (hk : 1000 ≤ k) (o : t23.T) (f : t25.T) (roll : Int) (l : List t36.T) : f9 k o f roll l = some (release o f roll l) := by
  unfold f9 v13 release
  rw [f13_j k hk]
  by_cases h : (missing o f roll l).fst = 0
  · by_cases h2 : (missing o f roll l).snd = []
    · simp [h, h2]
    · have : (0 : Int) < ((missing o f roll l).snd.length : Int) := by
        have q := List.length_pos_iff.2 h2; omega
      have p := List.length_pos_iff.2 h2
      simp [h, h2, p]
  · simp [h, bne, beqf h]

/-! the reference -/
theorem f14_c (k : Nat) (roll : Int) (l : List t36.T) (hl : l.length ≤ 512) (xs : List Int) (i : Nat) (hi : i < xs.length) (acc : List Int) (ha : acc.length ≤ 100) (j : Nat) : ∀ (d m : Nat) (w : Bool), m + d = l.length →
    f14_21 k (d + 1 + j) roll l (i : Int) w (m : Int) xs acc = f14_18 k j roll l (i : Int) xs (bif !(w || waived roll (l.drop m) (xs.getD i I.dflt)) then acc ++ [xs.getD i I.dflt] else acc) := by
  intro d
  induction d with
  | zero =>
    intro m w h
    rw [show 0 + 1 + j = j + 1 by omega, f14_21, decide_eq_false (by omega), cond_false, drop_all l m (by omega), if_pos ⟨by omega, by omega, by simp; omega⟩]
    simp only [Int.toNat_natCast, waived, List.any_nil, Bool.or_false]
    cases w <;> rfl
  | succ d ih =>
    intro m w h
    have hm : m < l.length := by omega
    rw [show d + 1 + 1 + j = (d + 1 + j) + 1 by omega, f14_21, decide_eq_true (by omega), cond_true, if_pos ⟨fun _ => by omega, fun _ => by omega, fun _ => by omega, fun _ => by omega, fun _ => by omega, fun _ => by omega⟩, drop_cons' l m t36.dflt hm, wrapS m (by omega), ih (m + 1) _ (by omega)]
    simp only [Int.toNat_natCast, waived, List.any_cons, Bool.or_assoc]

theorem f14_b (k : Nat) (roll : Int) (l : List t36.T) (hl : l.length ≤ 512) (xs : List Int) (hx : xs.length ≤ 100) : ∀ (d j i : Nat) (acc : List Int), i + d = xs.length → d * 520 < j → acc.length + d ≤ 100 →
    f14_17 k j roll l (i : Int) xs acc = some (0, acc ++ (xs.drop i).filter fun n => !waived roll l n) := by
  intro d
  induction d with
  | zero =>
    intro j i acc h hj ha
    obtain ⟨j, rfl⟩ := fuel1 hj
    rw [f14_17, decide_eq_false (by omega), cond_false, drop_all xs i (by omega)]
    simp
  | succ d ih =>
    intro j i acc h hj ha
    have hi : i < xs.length := by omega
    rw [Nat.add_mul, Nat.one_mul] at hj
    generalize hq : d * 520 = q at hj ih
    obtain ⟨j', rfl⟩ : ∃ j', j = (l.length + 1 + (j' + 1)) + 1 := ⟨j - l.length - 3, by omega⟩
    have hj2 : q < j' := by omega
    rw [f14_17, decide_eq_true (by omega), cond_true]
    have := f14_c k roll l hl xs i hi acc (by omega) (j' + 1) l.length 0 false (by omega)
    simp only [Int.natCast_zero, Bool.false_or, List.drop_zero] at this
    rw [this, f14_18, wrapS i (by omega), drop_cons' xs i I.dflt hi]
    generalize xs.getD i I.dflt = n
    have hlen : (bif !waived roll l n then acc ++ [n] else acc).length + d ≤ 100 := by cases waived roll l n <;> simp <;> omega
    rw [ih j' (i + 1) _ (by omega) hj2 hlen]
    cases hw : waived roll l n <;> simp [hw]

theorem f14_a (k : Nat) (roll : Int) (l : List t36.T) (hl : l.length ≤ 512) (xs : List Int) (hx : xs.length ≤ 6) : ∀ (d j i : Nat), i + d = l.length → d + 4000 < j →
    f14_7 k j roll l (i : Int) xs = some (if rightS (l.drop i) = 0 then (0, xs.filter fun n => !waived roll l n) else (rightS (l.drop i), [])) := by
  intro d
  induction d with
  | zero =>
    intro j i h hj
    obtain ⟨j, rfl⟩ := fuel1 hj
    rw [f14_7, decide_eq_false (by omega), cond_false, drop_all l i (by omega)]
    have := f14_b k roll l hl xs (by omega) xs.length j 0 [] (by omega) (by omega) (by simp; omega)
    simpa [rightS] using this
  | succ d ih =>
    intro j i h hj
    obtain ⟨j, rfl⟩ := fuel1 hj
    have hi : i < l.length := by omega
    have p1 : (0 : Int) ≤ (i : Int) := by omega
    have p2 : (i : Int) < (l.length : Int) := by omega
    rw [f14_7, decide_eq_true p2, cond_true, if_pos ⟨p1, p2, fun _ => p1, fun _ => p2⟩, if_pos ⟨p1, p2, fun _ => p1, fun _ => p2⟩, if_pos ⟨p1, p2, fun _ => p1, fun _ => p2⟩, drop_cons' l i t36.dflt hi, wrapS i (by omega), ih j (i + 1) (by omega) (by omega)]
    simp only [Int.toNat_natCast, rightS]
    refine (badW_step (l.getD i t36.dflt) (fun e => some (e, [])) _).trans ?_
    by_cases hb : badW (l.getD i t36.dflt) = 0
    · simp only [hb, if_true]
    · simp only [hb, if_false]

theorem f14_j (k : Nat) (hk : 10000 ≤ k) (o : t23.T) (f : t25.T) (roll : Int) (l : List t36.T) : f14 k o f roll l = some (missing o f roll l) := by
  unfold f14 v11 missing
  rw [f11_j k (by omega)]
  unfold judge
  by_cases h : chk o = 0
  · by_cases hl : l.length ≤ 512
    · have := f14_a k roll l hl (faults o f) (faults_len o f) l.length k 0 (by omega) (by omega)
      simp only [Int.natCast_zero, List.drop_zero] at this
      have q : ¬ (512 : Int) < (l.length : Int) := by omega
      simp [h, rightF, hl, this, q]
    · have q : (512 : Int) < (l.length : Int) := by omega
      simp [h, rightF, hl, q]
  · simp [h, bne, beqf h]

theorem f15_j (k : Nat) (hk : 10000 ≤ k) (o : t23.T) (f : t25.T) (roll : Int) (l : List t36.T) : f15 k o f roll l = some (release o f roll l) := by
  unfold f15 v14 release
  rw [f14_j k hk]
  by_cases h : (missing o f roll l).fst = 0
  · by_cases h2 : (missing o f roll l).snd = []
    · simp [h, h2]
    · have : (0 : Int) < ((missing o f roll l).snd.length : Int) := by
        have q := List.length_pos_iff.2 h2; omega
      have p := List.length_pos_iff.2 h2
      simp [h, h2, p]
  · simp [h, bne, beqf h]

theorem f12_loop (k : Nat) (a : List Int) (ha : a.length ≤ 1000) : ∀ (d j i : Nat), i + d = a.length → d < j → f12_4 k j a a (a.length : Int) (i : Int) = some true := by
  intro d
  induction d with
  | zero =>
    intro j i h hj
    obtain ⟨j, rfl⟩ := fuel1 hj
    rw [f12_4, decide_eq_false (by omega), cond_false]
  | succ d ih =>
    intro j i h hj
    obtain ⟨j, rfl⟩ := fuel1 hj
    rw [f12_4, decide_eq_true (by omega), cond_true, if_pos ⟨by omega, by omega, by omega, by omega⟩, wrapS i (by omega), ih j (i + 1) (by omega) (by omega)]
    simp [bne]
theorem f12_j (k : Nat) (a : List Int) (ha : a.length ≤ 1000) (hk : 1000 < k) : f12 k a a = some true := by
  unfold f12
  have := f12_loop k a ha a.length k 0 (by omega) (by omega)
  simpa [bne] using this
end Go.AM
namespace Go.AM
open Go

theorem v8_j {k : Nat} (hk : 100 ≤ k) (o : t23.T) (f : t25.T) : v8 k o f = judge o f := by unfold v8; rw [f8_j k hk]; rfl
theorem v11_j {k : Nat} (hk : 100 ≤ k) (o : t23.T) (f : t25.T) : v11 k o f = judge o f := by unfold v11; rw [f11_j k hk]; rfl
theorem v13_j {k : Nat} (hk : 1000 ≤ k) (o : t23.T) (f : t25.T) (r : Int) (l : List t36.T) : v13 k o f r l = missing o f r l := by unfold v13; rw [f13_j k hk]; rfl
theorem v14_j {k : Nat} (hk : 10000 ≤ k) (o : t23.T) (f : t25.T) (r : Int) (l : List t36.T) : v14 k o f r l = missing o f r l := by unfold v14; rw [f14_j k hk]; rfl
theorem v9_j {k : Nat} (hk : 1000 ≤ k) (o : t23.T) (f : t25.T) (r : Int) (l : List t36.T) : v9 k o f r l = release o f r l := by unfold v9; rw [f9_j k hk]; rfl
theorem v15_j {k : Nat} (hk : 10000 ≤ k) (o : t23.T) (f : t25.T) (r : Int) (l : List t36.T) : v15 k o f r l = release o f r l := by unfold v15; rw [f15_j k hk]; rfl
theorem v23_s (k : Nat) : v23 k = v23 0 := rfl
theorem f23_s (k : Nat) : f23 k = f23 0 := rfl

theorem f10_j (k : Nat) (hk : 10000 ≤ k) : f10 k = some true := by
  unfold f10
  simp only [f8_j k (by omega), f13_j k (by omega), f9_j k (by omega), v8_j (show 100 ≤ k by omega), v13_j (show 1000 ≤ k by omega), v9_j (show 1000 ≤ k by omega), v23_s k, f23_s k]
  kernel_rfl
theorem v10_j {k : Nat} (hk : 10000 ≤ k) : v10 k = true := by unfold v10; rw [f10_j k hk]; rfl

theorem judge_len (o : t23.T) (f : t25.T) : (judge o f).snd.length ≤ 6 := by
  unfold judge
  split
  · exact faults_len o f
  · simp
theorem missing_len (o : t23.T) (f : t25.T) (r : Int) (l : List t36.T) : (missing o f r l).snd.length ≤ 6 := by
  unfold missing
  split
  · split
    · exact Nat.le_trans (List.length_filter_le _ _) (faults_len o f)
    · simp
  · simp

theorem f4_j (k : Nat) (hk : 10000 ≤ k) (o : t23.T) (f : t25.T) : f4 k o f = some true := by
  unfold f4 v12
  simp only [f8_j k (by omega), f11_j k (by omega), v8_j (show 100 ≤ k by omega), v11_j (show 100 ≤ k by omega), f12_j k (judge o f).snd (by have := judge_len o f; omega) (by omega), f10_j k hk, v10_j hk]
  simp

theorem f5_j (k : Nat) (hk : 10000 ≤ k) (o : t23.T) (f : t25.T) (q : t28.T) : f5 k o f q = some true := by
  unfold f5 v12
  simp only [f9_j k (by omega), f13_j k (by omega), f14_j k hk, f15_j k hk, v9_j (show 1000 ≤ k by omega), v15_j hk, v13_j (show 1000 ≤ k by omega), v14_j hk, f12_j k (missing o f q.fst q.snd).snd (by have := missing_len o f q.fst q.snd; omega) (by omega), f10_j k hk, v10_j hk]
  simp

theorem rightS_app (l : List t36.T) (w : t36.T) : rightS (l ++ [w]) = if rightS l = 0 then badW w else rightS l := by
  induction l with
  | nil => simp only [List.nil_append, rightS, if_true]; split <;> simp_all
  | cons x r ih =>
    simp only [List.cons_append, rightS, ih]
    by_cases h : badW x = 0 <;> simp [h]
theorem rightS_bad {l : List t36.T} (h : rightS l = 0) : ∀ w ∈ l, badW w = 0 := by
  induction l with
  | nil => simp
  | cons x r ih =>
    simp only [rightS] at h
    by_cases hx : badW x = 0
    · simp only [hx, if_true] at h
      intro w hw
      rcases List.mem_cons.1 hw with rfl | hw
      · exact hx
      · exact ih h w hw
    · simp [hx] at h

theorem badW_iff (w : t36.T) : (decide (w.fst < (1 : Int)) || decide (w.fst > (1000000 : Int)) || decide (w.snd.fst < (1 : Int)) || decide (w.snd.fst > (6 : Int)) || decide (w.snd.snd < (0 : Int)) || decide (w.snd.snd > (2147483647 : Int))) = !(decide (badW w = 0)) := by
  unfold badW
  simp only [Bool.or_assoc]
  cases decide (w.fst < 1) <;> cases decide (w.fst > 1000000) <;> cases decide (w.snd.fst < 1) <;> cases decide (w.snd.fst > 6) <;> cases decide (w.snd.snd < 0) <;> cases decide (w.snd.snd > 2147483647) <;> rfl

theorem waived_app (r : Int) (l : List t36.T) (w : t36.T) (n : Int) : waived r (l ++ [w]) n = (waived r l n || (w.fst == r && w.snd.fst == n)) := by simp [waived]

theorem release_more (o : t23.T) (f : t25.T) (r : Int) (l : List t36.T) (w : t36.T) (hl : l.length < 512) :
    (badW w ≠ 0 → release o f r (l ++ [w]) ≠ 0) ∧ (badW w = 0 → (release o f r l = 0 → release o f r (l ++ [w]) = 0) ∧ (w.fst ≠ r → release o f r (l ++ [w]) = release o f r l)) := by
  have e1 : rightF l = rightS l := by unfold rightF; rw [if_pos (by omega)]
  have e2 : rightF (l ++ [w]) = if rightS l = 0 then badW w else rightS l := by unfold rightF; rw [if_pos (by simp; omega), rightS_app]
  by_cases hc : chk o = 0
  · by_cases hr : rightS l = 0
    · refine ⟨fun hb => ?_, fun hb => ⟨fun h => ?_, fun hw => ?_⟩⟩
      · simp [release, missing, hc, e2, hr, hb]
      · simp only [release, missing, hc, e1, e2, hr, hb, if_true] at h ⊢
        split at h
        · rename_i h2
          have : (faults o f).filter (fun n => !waived r (l ++ [w]) n) = [] := by
            rw [List.filter_eq_nil_iff] at h2 ⊢
            intro n hn
            have := h2 n hn
            rw [waived_app]
            revert this
            cases waived r l n <;> simp
          simp [this]
        · simp at h
      · have : ∀ n, waived r (l ++ [w]) n = waived r l n := fun n => by
          rw [waived_app, show (w.fst == r) = false from beqf hw, Bool.false_and, Bool.or_false]
        simp only [release, missing, hc, e1, e2, hr, hb, if_true, this]
    · refine ⟨fun hb => ?_, fun hb => ⟨fun h => ?_, fun hw => ?_⟩⟩
      · simp [release, missing, hc, e2, hr]
      · simp [release, missing, hc, e1, hr] at h
      · simp [release, missing, hc, e1, e2, hr]
  · have e : ∀ l, release o f r l = chk o := fun l => by
      have : missing o f r l = (chk o, []) := by unfold missing; rw [if_neg hc]
      unfold release; rw [this]; exact if_neg hc
    rw [e, e]
    exact ⟨fun _ => hc, fun _ => ⟨fun h => h, fun _ => rfl⟩⟩

theorem cond_cg {α : Type} {b b' : Bool} {x y z : α} (h : b = b') (h2 : cond b' x y = z) : cond b x y = z := by subst h; exact h2
theorem f6_j (k : Nat) (hk : 10000 ≤ k) (o : t23.T) (f : t25.T) (q : t28.T) (w : t36.T) : f6 k o f q w = some true := by
  unfold f6
  simp only [f9_j k (by omega), v9_j (show 1000 ≤ k by omega), f10_j k hk, v10_j hk, List.nil_append, Option.isSome_some]
  by_cases hl : q.snd.length < 512
  · obtain ⟨h1, h2⟩ := release_more o f q.fst q.snd w hl
    rw [decide_eq_false (by omega), cond_false, if_pos (by trivial), if_pos ⟨by omega, by simp; omega⟩, if_pos (by trivial)]
    refine cond_cg (badW_iff w) ?_
    by_cases hb : badW w = 0
    · obtain ⟨h3, h4⟩ := h2 hb
      simp only [hb, decide_true, Bool.not_true, cond_false]
      have : (release o f q.fst q.snd == (0 : Int) && release o f q.fst (q.snd ++ [w]) != (0 : Int) || w.fst != q.fst && release o f q.fst q.snd != release o f q.fst (q.snd ++ [w])) = false := by
        by_cases h5 : release o f q.fst q.snd = 0
        · by_cases h6 : w.fst = q.fst
          · simp [h5, h3 h5, h6, bne]
          · simp [h5, h3 h5, bne]
        · by_cases h6 : w.fst = q.fst
          · simp [beqf h5, h6, bne]
          · simp [beqf h5, h4 h6, bne]
      rw [this]
      simp
    · have := h1 hb
      simp [hb, bne, beqf this]
  · have : (512 : Int) ≤ (q.snd.length : Int) := by omega
    simp [this]
end Go.AM
namespace Go.AM
open Go

/-! ### ReleaseWaived -/
theorem cat_nil {b : Bool} {n : Int} {l : List Int} : cat b n l = [] ↔ b = false ∧ l = [] := by cases b <;> simp [cat]
theorem faults_nil (o : t23.T) (f : t25.T) : faults o f = [] ↔ (c1 o f = false ∧ c2 o f = false ∧ c3 o f = false ∧ c4 o f = false ∧ c5 o f = false ∧ c6 o f = false) := by
  unfold faults
  simp only [cat_nil, and_true]
  constructor <;> (rintro ⟨a, b, c, d, e, g⟩; exact ⟨g, e, d, c, b, a⟩)
def meets (o : t23.T) (f : t25.T) : Bool := f.fst == o.snd.fst && f.snd.fst && f.snd.snd.fst == o.snd.snd.fst && decide (f.snd.snd.snd.fst ≤ o.snd.snd.snd.snd.fst) && decide (f.snd.snd.snd.fst ≥ IntKind.i64.wrap (o.snd.snd.snd.snd.fst - o.snd.snd.snd.snd.snd.fst)) && decide (f.snd.snd.snd.snd.fst ≤ o.snd.snd.snd.snd.snd.snd.snd.snd.snd.fst) && decide (f.snd.snd.snd.snd.snd ≤ o.snd.snd.snd.snd.snd.snd.snd.snd.snd.snd.fst)
theorem meets_iff (o : t23.T) (f : t25.T) : meets o f = decide (faults o f = []) := by
  have : (meets o f = true) ↔ faults o f = [] := by
    rw [faults_nil]
    simp only [meets, c1, c2, c3, c4, c5, c6, Bool.and_eq_true, beq_iff_eq, decide_eq_true_eq, bne_eq_false_iff_eq, Bool.not_eq_false', Bool.or_eq_false_iff, decide_eq_false_iff_not]
    constructor
    · rintro ⟨⟨⟨⟨⟨⟨a, b⟩, c⟩, d⟩, e⟩, g⟩, h⟩
      exact ⟨a, by simpa using b, c, ⟨Int.not_lt.2 e, Int.not_lt.2 d⟩, Int.not_lt.2 g, Int.not_lt.2 h⟩
    · rintro ⟨a, b, c, ⟨d, e⟩, g, h⟩
      exact ⟨⟨⟨⟨⟨⟨a, by simpa using b⟩, c⟩, Int.not_lt.1 e⟩, Int.not_lt.1 d⟩, Int.not_lt.1 g⟩, Int.not_lt.1 h⟩
  cases h : meets o f
  · have : ¬ faults o f = [] := fun e => by rw [this.2 e] at h; simp at h
    simp [this]
  · simp [this.1 h]

theorem f3_b (k : Nat) (x0 : Int) (x1 : Bool) (x2 : Int) (x4 x5 : Int) (q : t28.T) (hq : q.snd.length ≤ 512) (xs : List Int) (j : Nat) : ∀ (d m : Nat) (w : Bool), m + d = q.snd.length →
    f3_16 k (d + 1 + j) x0 x1 x2 w x4 x5 q.snd (q.snd.length : Int) (m : Int) q xs = f3_12 k j x0 (x1 && (w || waived q.fst (q.snd.drop m) x2)) x4 (IntKind.i64.wrap (x5 + 1)) q xs := by
  intro d
  induction d with
  | zero =>
    intro m w h
    rw [show 0 + 1 + j = j + 1 by omega, f3_16, decide_eq_false (by omega), cond_false, drop_all q.snd m (by omega)]
    simp [waived]
  | succ d ih =>
    intro m w h
    have hm : m < q.snd.length := by omega
    rw [show d + 1 + 1 + j = (d + 1 + j) + 1 by omega, f3_16, decide_eq_true (by omega), cond_true, if_pos ⟨by omega, by omega⟩, drop_cons' q.snd m t36.dflt hm, wrapS m (by omega), ih (m + 1) _ (by omega)]
    simp only [Int.toNat_natCast, waived, List.any_cons, Bool.or_assoc]

theorem f3_a (k : Nat) (hk : 10000 ≤ k) (g : Int) (q : t28.T) (hq : q.snd.length ≤ 512) (xs : List Int) (hx : xs.length ≤ 6) : ∀ (d j i : Nat) (all : Bool), i + d = xs.length → d * 520 < j →
    f3_12 k j g all (xs.length : Int) (i : Int) q xs = some ((g == 0) == (all && (xs.drop i).all fun x => waived q.fst q.snd x)) := by
  intro d
  induction d with
  | zero =>
    intro j i all h hj
    obtain ⟨j, rfl⟩ := fuel1 hj
    rw [f3_12, decide_eq_false (by omega), cond_false, drop_all xs i (by omega), f10_j k hk, v10_j hk]
    cases hb : ((g == (0 : Int)) == all) <;> simp [hb]
  | succ d ih =>
    intro j i all h hj
    rw [Nat.add_mul, Nat.one_mul] at hj
    generalize hqq : d * 520 = p at hj ih
    obtain ⟨j', rfl⟩ : ∃ j', j = (q.snd.length + 1 + j') + 1 := ⟨j - q.snd.length - 2, by omega⟩
    have hj2 : p < j' := by omega
    have hi : i < xs.length := by omega
    rw [f3_12, decide_eq_true (by omega), cond_true, if_pos ⟨by omega, by omega⟩]
    have := f3_b k g all (xs.getD i I.dflt) (xs.length : Int) (i : Int) q hq xs j' q.snd.length 0 false (by omega)
    simp only [Int.natCast_zero, Bool.false_or, List.drop_zero] at this
    simp only [Int.toNat_natCast]
    rw [this, wrapS i (by omega), ih j' (i + 1) _ (by omega) hj2, drop_cons' xs i I.dflt hi, List.all_cons, Bool.and_assoc]

theorem release_zero (o : t23.T) (f : t25.T) (r : Int) (l : List t36.T) (hc : chk o = 0) (hr : rightF l = 0) : release o f r l = if (faults o f).filter (fun n => !waived r l n) = [] then 0 else 31 := by
  unfold release missing
  simp only [hc, hr, if_true]
theorem filter_all (xs : List Int) (p : Int → Bool) : (xs.filter (fun n => !p n) = []) ↔ xs.all p = true := by
  rw [List.filter_eq_nil_iff, List.all_eq_true]
  constructor
  · intro h x hx
    have := h x hx
    cases hp : p x <;> simp_all
  · intro h x hx
    simp [h x hx]

theorem f3_j (k : Nat) (hk : 10000 ≤ k) (o : t23.T) (f : t25.T) (q : t28.T) : f3 k o f q = some true := by
  unfold f3
  simp only [f8_j k (by omega), f9_j k (by omega), v8_j (show 100 ≤ k by omega), v9_j (show 1000 ≤ k by omega), f10_j k hk, v10_j hk]
  by_cases hc : chk o = 0
  · have hj : judge o f = (0, faults o f) := by unfold judge; rw [if_pos hc]
    have hnil : release o f q.fst [] = if faults o f = [] then 0 else 31 := by
      rw [release_zero o f q.fst [] hc rfl]
      have : (faults o f).filter (fun n => !waived q.fst [] n) = faults o f := by
        rw [List.filter_eq_self]
        intro n _
        rfl
      rw [this]
    simp only [hj, hnil]
    have hlen : (((faults o f).length : Int) == 0) = decide (faults o f = []) := by
      cases h : faults o f
      · rfl
      · simp; omega
    have e1 : (!(meets o f == (((faults o f).length : Int) == 0))) = false := by
      rw [hlen, meets_iff]
      cases decide (faults o f = []) <;> rfl
    have e2 : (false || !(((if faults o f = [] then (0 : Int) else 31) == 0) == meets o f)) = false := by
      rw [meets_iff]
      by_cases h : faults o f = [] <;> simp [h]
    refine (if_pos rfl).trans ?_
    refine (if_pos rfl).trans ?_
    refine cond_cg (b' := false) (by simp [bne]) ?_
    rw [cond_false]
    refine cond_cg e1 ?_
    rw [cond_false]
    refine (if_pos ⟨e1, rfl⟩).trans ?_
    refine cond_cg e2 ?_
    rw [cond_false]
    cases hg : (release o f q.fst q.snd != (0 : Int) && release o f q.fst q.snd != (31 : Int))
    · rw [cond_false]
      have hr : rightF q.snd = 0 := by
        by_cases hr : rightF q.snd = 0
        · exact hr
        · exfalso
          have e : release o f q.fst q.snd = rightF q.snd := by
            unfold release missing
            simp only [hc, hr, if_true, if_false]
          rw [e] at hg
          have : rightF q.snd = 1 ∨ rightF q.snd = 17 ∨ rightF q.snd = 8 ∨ rightF q.snd = 0 := by
            unfold rightF
            split
            · generalize q.snd = l
              induction l with
              | nil => exact .inr (.inr (.inr rfl))
              | cons w l ih =>
                have hb : badW w = 1 ∨ badW w = 17 ∨ badW w = 0 := by
                  unfold badW
                  cases decide (w.fst < 1) || decide (w.fst > 1000000) <;> cases decide (w.snd.fst < 1) || decide (w.snd.fst > 6) <;> cases decide (w.snd.snd < 0) || decide (w.snd.snd > 2147483647) <;> simp
                simp only [rightS]
                split
                · exact ih
                · rcases hb with h | h | h
                  · exact .inl h
                  · exact .inr (.inl h)
                  · contradiction
            · exact .inr (.inr (.inl rfl))
          rcases this with h | h | h | h <;> rw [h] at hg <;> first | (exact absurd hg (by decide)) | exact hr h
      have hl : q.snd.length ≤ 512 := by
        by_cases hl : q.snd.length ≤ 512
        · exact hl
        · simp [rightF, hl] at hr
      have := f3_a k hk (release o f q.fst q.snd) q hl (faults o f) (faults_len o f) (faults o f).length k 0 true (by omega) (by have := faults_len o f; omega)
      simp only [Int.natCast_zero, List.drop_zero, Bool.true_and] at this
      rw [this, release_zero o f q.fst q.snd hc hr]
      by_cases ha : (faults o f).all (fun x => waived q.fst q.snd x) = true
      · rw [if_pos ((filter_all _ _).2 ha), ha]; rfl
      · rw [if_neg (fun h => ha ((filter_all _ _).1 h))]
        have : (faults o f).all (fun x => waived q.fst q.snd x) = false := by simpa using ha
        rw [this]; rfl
    · rw [cond_true]; rfl
  · have hj : judge o f = (chk o, []) := by unfold judge; rw [if_neg hc]
    have e : release o f q.fst q.snd = chk o := by
      have : missing o f q.fst q.snd = (chk o, []) := by unfold missing; rw [if_neg hc]
      unfold release; rw [this]; exact if_neg hc
    simp [hj, e, bne, beqf hc]
end Go.AM
namespace Go.AM
open Go

/-! ### ReleaseLooser -/
theorem getD_cond {e : Int} {a : Bool} {x : Option Int} (he : e ≠ 0) : ((cond a (some e) x).getD 0 = 0) ↔ (a = false ∧ x.getD 0 = 0) := by
  cases a <;> simp [he]
theorem chk_iff (id gr w co di sl cn ov un sp le pr : Int) : chk (id, gr, w, co, di, sl, cn, ov, un, sp, le, pr) = 0 ↔
    ((¬ id < 1 ∧ ¬ id > 1000000) ∧ (¬ gr < 0 ∧ ¬ gr ≥ 16) ∧ (¬ w < 1 ∧ ¬ w > 12000) ∧ (((¬ co < 1 ∧ ¬ co ≥ 2500) ∧ ¬ di ≤ co) ∧ ¬ di > 2500) ∧ (((¬ sl < 0 ∧ ¬ sl > IntKind.i64.wrap (di - co)) ∧ ¬ cn < 1) ∧ ¬ cn > 1000) ∧
      (((¬ ov < 0 ∧ ¬ ov > 1000) ∧ ¬ un < 0) ∧ ¬ un > 1000) ∧ (((¬ sp < 0 ∧ ¬ sp > 8) ∧ ¬ le < 0) ∧ ¬ le > 100) ∧ (¬ pr < 0 ∧ ¬ pr > 1000000000)) := by
  unfold chk f16
  rw [getD_cond (by decide), getD_cond (by decide), getD_cond (by decide), getD_cond (by decide), getD_cond (by decide), getD_cond (by decide), getD_cond (by decide), getD_cond (by decide)]
  simp only [Bool.or_eq_false_iff, decide_eq_false_iff_not, Option.getD_some, and_true]

abbrev mn (a b : Int) : Int := if a < b then a else b
theorem mem_cat {x n : Int} {b : Bool} {l : List Int} : x ∈ cat b n l ↔ (b = true ∧ x = n) ∨ x ∈ l := by
  cases b <;> simp [cat, or_comm]
theorem mem_faults (o : t23.T) (f : t25.T) (x : Int) : x ∈ faults o f ↔ (c6 o f = true ∧ x = 6) ∨ (c5 o f = true ∧ x = 5) ∨ (c4 o f = true ∧ x = 4) ∨ (c3 o f = true ∧ x = 3) ∨ (c2 o f = true ∧ x = 2) ∨ (c1 o f = true ∧ x = 1) := by
  unfold faults
  simp only [mem_cat, List.not_mem_nil, or_false]

theorem looser (id gr w co di sl cn ov un sp le pr a b c : Int) (ha : 0 ≤ a ∧ a ≤ 255) (hb : 0 ≤ b ∧ b ≤ 255) (hc : 0 ≤ c ∧ c ≤ 255) (h : chk (id, gr, w, co, di, sl, cn, ov, un, sp, le, pr) = 0) (f1 : Int) (f2 : Bool) (f3 f4 f5 f6 : Int) :
    let p : t23.T := (id, gr, w, co, di, if IntKind.i64.wrap (sl + IntKind.i64.wrap a) < IntKind.i64.wrap (di - co) then IntKind.i64.wrap (sl + IntKind.i64.wrap a) else IntKind.i64.wrap (di - co), cn, ov, un,
      if IntKind.i64.wrap (sp + IntKind.i64.wrap b) < 8 then IntKind.i64.wrap (sp + IntKind.i64.wrap b) else 8, if IntKind.i64.wrap (le + IntKind.i64.wrap c) < 100 then IntKind.i64.wrap (le + IntKind.i64.wrap c) else 100, pr)
    chk p = 0 ∧ ∀ x ∈ faults p (f1, f2, f3, f4, f5, f6), x ∈ faults (id, gr, w, co, di, sl, cn, ov, un, sp, le, pr) (f1, f2, f3, f4, f5, f6) := by
  have h' := (chk_iff _ _ _ _ _ _ _ _ _ _ _ _).1 h
  have wa : IntKind.i64.wrap a = a := wrap_id (by omega) (by omega)
  have wb : IntKind.i64.wrap b = b := wrap_id (by omega) (by omega)
  have wc : IntKind.i64.wrap c = c := wrap_id (by omega) (by omega)
  have wd : IntKind.i64.wrap (di - co) = di - co := wrap_id (by omega) (by omega)
  rw [wd] at h'
  rw [wa, wb, wc, wd, wrap_id (i := sl + a) (by omega) (by omega), wrap_id (i := sp + b) (by omega) (by omega), wrap_id (i := le + c) (by omega) (by omega)]
  refine ⟨?_, ?_⟩
  · refine (chk_iff _ _ _ _ _ _ _ _ _ _ _ _).2 ?_
    rw [wd]
    refine ⟨h'.1, h'.2.1, h'.2.2.1, h'.2.2.2.1, ?_, h'.2.2.2.2.2.1, ?_, h'.2.2.2.2.2.2.2⟩
    · split <;> omega
    · split <;> split <;> omega
  · intro x hx
    rw [mem_faults] at hx ⊢
    have s1 : sl ≤ (if sl + a < di - co then sl + a else di - co) := by split <;> omega
    have s2 : sp ≤ (if sp + b < 8 then sp + b else 8) := by split <;> omega
    have s3 : le ≤ (if le + c < 100 then le + c else 100) := by split <;> omega
    have s4 : (if sl + a < di - co then sl + a else di - co) ≤ di - co := by split <;> omega
    generalize (if sl + a < di - co then sl + a else di - co) = S at hx s1 s4
    generalize (if sp + b < 8 then sp + b else 8) = P at hx s2
    generalize (if le + c < 100 then le + c else 100) = L at hx s3
    have k6 : decide (f6 > L) = true → decide (f6 > le) = true := by simp; omega
    have k5 : decide (f5 > P) = true → decide (f5 > sp) = true := by simp; omega
    have k4 : (decide (f4 < IntKind.i64.wrap (di - S)) || decide (f4 > di)) = true → (decide (f4 < IntKind.i64.wrap (di - sl)) || decide (f4 > di)) = true := by
      rw [wrap_id (i := di - S) (by omega) (by omega), wrap_id (i := di - sl) (by omega) (by omega)]
      simp; omega
    rcases hx with h | h | h | h | h | h
    · exact .inl ⟨k6 h.1, h.2⟩
    · exact .inr (.inl ⟨k5 h.1, h.2⟩)
    · exact .inr (.inr (.inl ⟨k4 h.1, h.2⟩))
    · exact .inr (.inr (.inr (.inl h)))
    · exact .inr (.inr (.inr (.inr (.inl h))))
    · exact .inr (.inr (.inr (.inr (.inr h))))

theorem f7_b (k : Nat) (y : Int) (n i : Int) (a : List Int) (ha : a.length ≤ 6) (xs : List Int) (j : Nat) : ∀ (d m : Nat) (w : Bool), m + d = a.length →
    f7_16 k (d + 1 + j) y w n i (a.length : Int) (m : Int) a xs = bif !(w || (a.drop m).any (y == ·)) then some false else f7_12 k j n (IntKind.i64.wrap (i + 1)) a xs := by
  intro d
  induction d with
  | zero =>
    intro m w h
    rw [show 0 + 1 + j = j + 1 by omega, f7_16, decide_eq_false (by omega), cond_false, drop_all a m (by omega)]
    simp
  | succ d ih =>
    intro m w h
    have hm : m < a.length := by omega
    rw [show d + 1 + 1 + j = (d + 1 + j) + 1 by omega, f7_16, decide_eq_true (by omega), cond_true, if_pos ⟨by omega, by omega⟩, drop_cons' a m I.dflt hm, wrapS m (by omega), ih (m + 1) _ (by omega)]
    simp only [Int.toNat_natCast, List.any_cons, Bool.or_assoc]

theorem f7_a (k : Nat) (hk : 10000 ≤ k) (a xs : List Int) (ha : a.length ≤ 6) (hx : xs.length ≤ 6) (sub : ∀ x ∈ xs, x ∈ a) : ∀ (d j i : Nat), i + d = xs.length → d * 20 < j →
    f7_12 k j (xs.length : Int) (i : Int) a xs = some true := by
  intro d
  induction d with
  | zero =>
    intro j i h hj
    obtain ⟨j, rfl⟩ := fuel1 hj
    rw [f7_12, decide_eq_false (by omega), cond_false, f10_j k hk, v10_j hk]
    rfl
  | succ d ih =>
    intro j i h hj
    obtain ⟨j', rfl⟩ : ∃ j', j = (a.length + 1 + j') + 1 := ⟨j - a.length - 2, by omega⟩
    have hi : i < xs.length := by omega
    have hin : xs.getD i I.dflt ∈ a := sub _ (by rw [List.getD_eq_getElem?_getD, List.getElem?_eq_getElem hi]; exact List.getElem_mem hi)
    rw [f7_12, decide_eq_true (by omega), cond_true, if_pos ⟨by omega, by omega⟩]
    have := f7_b k (xs.getD i I.dflt) (xs.length : Int) (i : Int) a ha xs j' a.length 0 false (by omega)
    simp only [Int.natCast_zero, Bool.false_or, List.drop_zero] at this
    simp only [Int.toNat_natCast]
    have hany : a.any (xs.getD i I.dflt == ·) = true := List.any_eq_true.2 ⟨_, hin, by simp⟩
    rw [this, hany, wrapS i (by omega), ih j' (i + 1) (by omega) (by omega)]
    rfl

theorem f7_j (k : Nat) (hk : 10000 ≤ k) (o : t23.T) (f : t25.T) (more : t42.T) (hm : Wf t42 more) : f7 k o f more = some true := by
  unfold f7
  rw [if_pos (by decide), if_pos (by decide), if_pos (by decide)]
  simp only [f8_j k (by omega), v8_j (show 100 ≤ k by omega), f10_j k hk, v10_j hk]
  refine (if_pos rfl).trans ?_
  refine (if_pos rfl).trans ?_
  by_cases hc : chk o = 0
  · obtain ⟨h1, h2⟩ := looser o.fst o.snd.fst o.snd.snd.fst o.snd.snd.snd.fst o.snd.snd.snd.snd.fst o.snd.snd.snd.snd.snd.fst o.snd.snd.snd.snd.snd.snd.fst o.snd.snd.snd.snd.snd.snd.snd.fst o.snd.snd.snd.snd.snd.snd.snd.snd.fst o.snd.snd.snd.snd.snd.snd.snd.snd.snd.fst o.snd.snd.snd.snd.snd.snd.snd.snd.snd.snd.fst o.snd.snd.snd.snd.snd.snd.snd.snd.snd.snd.snd more.fst more.snd.fst more.snd.snd
      (u8_range hm.1) (u8_range hm.2.1) (u8_range hm.2.2) hc f.fst f.snd.fst f.snd.snd.fst f.snd.snd.snd.fst f.snd.snd.snd.snd.fst f.snd.snd.snd.snd.snd
    have hj : judge o f = (0, faults o f) := by unfold judge; rw [if_pos hc]
    have hp : ∀ p : t23.T, chk p = 0 → judge p f = (0, faults p f) := fun p h => by unfold judge; rw [if_pos h]
    rw [hj]
    refine cond_cg (b' := false) rfl ?_
    rw [cond_false, hp _ h1]
    refine cond_cg (b' := false) rfl ?_
    rw [cond_false]
    have fin : ∀ p : t23.T, (∀ x ∈ faults p f, x ∈ faults o f) → f7_12 k k ((faults p f).length : Int) ((0 : Nat) : Int) (faults o f) (faults p f) = some true := fun p hs => f7_a k hk (faults o f) (faults p f) (faults_len o f) (faults_len p f) hs (faults p f).length k 0 (by omega) (by have := faults_len p f; omega)
    exact fin _ h2
  · have hj : judge o f = (chk o, []) := by unfold judge; rw [if_neg hc]
    rw [hj]
    refine cond_cg (b' := true) (by simp [bne, beqf hc]) ?_
    rfl
end Go.AM
