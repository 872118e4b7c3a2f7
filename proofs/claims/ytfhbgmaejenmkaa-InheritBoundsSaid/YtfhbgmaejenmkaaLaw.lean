/- The law InheritBounds: for every input it returns true, and each argument reads afterwards as it read before. -/
import Derived.Test.YtfhbgmaejenmkaaFunb
import Derived.Test.YtfhbgmaejenmkaaRows
import Derived.JoinedOf
import Derived.ProofKit
set_option linter.unusedVariables false
set_option linter.unusedSimpArgs false
set_option linter.unusedSectionVars false
namespace Go.Proofs.Ytfhbgmaejenmkaa.InheritBoundsLaw
open Go Go.AM Go.Proofs
theorem own : ownKnob Try.prog.godebug = none := by kernel_rfl
theorem laidOut : laidOutB Try.prog = true := by kernel_rfl
abbrev tys : List (Bool × RTy) := [(true, T5), (true, T7)]
theorem main : ∀ xs : ArgsT tys, WfA tys xs → CC Try.prog 4 (avs tys xs) [] (.r (.v (.bool true))) [] := by
  intro xs hx
  exact of_u48 400000 xs.1 xs.2.1 true (q_InheritBounds 400000 (by omega) _ _)
set_option maxRecDepth 100000 in
theorem lifted (os : Os) (started : os.Started) (H : Type) (enc : TypeId × Value → H) :
    ReturnsInHanded {} Try.checked os 4 .any (Rows.inheritBoundsSpec.pre6 enc Try.prog Try.f4 Rows.inheritBoundsRow.domain false) (Rows.inheritBoundsSpec.post enc Try.prog Try.f4 false true false false) := by
  refine returnsInHanded_of_change_sized (C := Try.checked) own started (by kernel_rfl) Try.func4
    (ChangeSpec.witness6 (enc := enc) (C := Try.checked) false ⟨#[], #[.agg #[.slice none 0 0, .int .i64 0, .int .i64 0, .slice none 0 0], .agg #[.int .i64 0, .int .i64 0, .int .i64 0]], []⟩ 8 (by kernel_rfl) (by kernel_rfl) (by kernel_rfl) (by kernel_rfl)) ?_
  intro W base args ds gs before hval hW hcnd hsz _
  exact law_call (l := tys) (trivial) laidOut (by kernel_rfl) rfl Try.underlying4 rfl (fun ds h => by
    match ds, h with
    | [d0, d1], _ => rfl) main hval hW hsz
theorem over : Rows.inheritBoundsRow.holds Try.pinned (OpenSpec.ofChange Rows.inheritBoundsSpec) :=
  OpenClaim.holds_of_wide 4 Try.f4 rfl rfl rfl rfl rfl rfl rfl ⟨rfl, rfl, rfl, rfl, rfl⟩ rfl rfl rfl rfl rfl (by kernel_rfl) Try.func4 (by kernel_rfl)
    (of_decide_eq_true (by kernel_rfl)) (by unfold Func.isWrapper; first | (rw [if_pos (by decide +kernel)]; kernel_rfl) | (rw [if_neg (by decide +kernel)]; exact ⟨rfl, rfl⟩))
    (fun os started H enc _ => lifted os started H enc)
end Go.Proofs.Ytfhbgmaejenmkaa.InheritBoundsLaw
namespace Go.Proofs.Ytfhbgmaejenmkaa
/-- The row, under a short name, for the claim. -/
theorem inheritBounds_holds : Rows.InheritBoundsSaid := InheritBoundsLaw.over
end Go.Proofs.Ytfhbgmaejenmkaa
