/- The law ReleaseLooser: for every input it returns true, and each argument reads afterwards as it read before. -/
import Derived.Test.YtpcifklfjeiklaaFuna
import Derived.Test.YtpcifklfjeiklaaRows
import Derived.JoinedOf
import Derived.ProofKit
namespace Go.Proofs.Ytpcifklfjeiklaa.ReleaseLooserLaw
open Go Go.AM Go.Proofs
set_option linter.unusedVariables false
theorem own : ownKnob Try.prog.godebug = none := by kernel_rfl
theorem laidOut : laidOutB Try.prog = true := by kernel_rfl
abbrev tys : List (Bool × RTy) := [(true, t23), (true, t25), (true, t42)]
theorem main : ∀ xs : ArgsT tys, WfA tys xs → CC Try.prog 7 (avs tys xs) [] (.r (.v (.bool true))) [] := by
  intro xs hx
  exact of7 10000 xs.1 xs.2.1 xs.2.2.1 true (f7_j 10000 (by omega) _ _ _ hx.2.2.1)
set_option maxRecDepth 100000 in
theorem lifted (os : Os) (started : os.Started) (H : Type) (enc : TypeId × Value → H) :
    ReturnsInHanded {} Try.checked os 7 .any (Rows.releaseLooserSpec.pre6 enc Try.prog Try.f7 Rows.releaseLooserRow.domain false) (Rows.releaseLooserSpec.post enc Try.prog Try.f7 false true false false) := by
  refine returnsInHanded_of_change_sized (C := Try.checked) own started (by kernel_rfl) Try.func7
    (ChangeSpec.witness6 (enc := enc) (C := Try.checked) false ⟨#[], #[.agg #[.int .i64 0, .int .i64 0, .int .i64 0, .int .i64 0, .int .i64 0, .int .i64 0, .int .i64 0, .int .i64 0, .int .i64 0, .int .i64 0, .int .i64 0, .int .i64 0], .agg #[.int .i64 0, .bool false, .int .i64 0, .int .i64 0, .int .i64 0, .int .i64 0], .agg #[.int .u8 0, .int .u8 0, .int .u8 0]], []⟩ 8 (by kernel_rfl) (by kernel_rfl) (by kernel_rfl) (by kernel_rfl)) ?_
  intro W base args ds gs before hval hW hcnd hsz _
  exact law_call (l := tys) laidOut (by kernel_rfl) rfl Try.underlying4 rfl (fun ds h => by
    match ds, h with
    | [d0, d1, d2], _ => rfl) main hval hW hsz
theorem over : Rows.releaseLooserRow.holds Try.pinned (OpenSpec.ofChange Rows.releaseLooserSpec) :=
  OpenClaim.holds_of_wide 7 Try.f7 rfl rfl rfl rfl rfl rfl rfl ⟨rfl, rfl, rfl, rfl, rfl⟩ rfl rfl rfl rfl rfl (by kernel_rfl) Try.func7 (by kernel_rfl)
    (of_decide_eq_true (by kernel_rfl)) (by unfold Func.isWrapper; first | (rw [if_pos (by decide +kernel)]; kernel_rfl) | (rw [if_neg (by decide +kernel)]; exact ⟨rfl, rfl⟩))
    (fun os started H enc _ => lifted os started H enc)
end Go.Proofs.Ytpcifklfjeiklaa.ReleaseLooserLaw
namespace Go.Proofs.Ytpcifklfjeiklaa
/-- The row, under a short name, for the claim. -/
theorem releaseLooser_holds : Rows.ReleaseLooserSaid := ReleaseLooserLaw.over
end Go.Proofs.Ytpcifklfjeiklaa
