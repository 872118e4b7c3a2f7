/- The law ReleaseTurned: for every input it returns true, and each argument reads afterwards as it read before. -/
import Derived.Test.YtpcifklfjeiklaaGreatFunc
import Derived.Test.YtpcifklfjeiklaaGreatRows
import Derived.JoinedOf
import Derived.ProofKit
set_option linter.unusedVariables false
set_option linter.unusedSimpArgs false
set_option linter.unusedSectionVars false
namespace Go.Proofs.YtpcifklfjeiklaaGreat.ReleaseTurnedLaw
open Go Go.AM Go.Proofs
theorem own : ownKnob Tryz.prog.godebug = none := by kernel_rfl
theorem laidOut : laidOutB Tryz.prog = true := by kernel_rfl
abbrev tys : List (Bool × RTy) := [(true, T7), (false, I)]
theorem main : ∀ xs : ArgsT tys, WfA tys xs → CC Tryz.prog 4 (avs tys xs) [] (.r (.v (.bool true))) [] := by
  intro xs hx
  exact of_u36 400000 xs.1 xs.2.1 true (q_ReleaseTurned _ _)
set_option maxRecDepth 100000 in
theorem lifted (os : Os) (started : os.Started) (H : Type) (enc : TypeId × Value → H) :
    ReturnsInHanded {} Tryz.checked os 4 .any (Rows.releaseTurnedSpec.pre6 enc Tryz.prog Tryz.f4 Rows.releaseTurnedRow.domain false) (Rows.releaseTurnedSpec.post enc Tryz.prog Tryz.f4 false true false false) := by
  refine returnsInHanded_of_change_sized (C := Tryz.checked) own started (by kernel_rfl) Tryz.func4
    (ChangeSpec.witness6 (enc := enc) (C := Tryz.checked) false ⟨#[], #[.agg #[.slice none 0 0, .int .i64 0, .int .i64 0, .slice none 0 0, .slice none 0 0, .slice none 0 0, .int .i64 0], .int .i64 0], []⟩ 8 (by kernel_rfl) (by kernel_rfl) (by kernel_rfl) (by kernel_rfl)) ?_
  intro W base args ds gs before hval hW hcnd hsz _
  exact law_call (l := tys) (trivial) laidOut (by kernel_rfl) rfl Tryz.underlying4 rfl (fun ds h => by
    match ds, h with
    | [d0, d1], _ => rfl) main hval hW hsz
theorem over : Rows.releaseTurnedRow.holds Tryz.pinned (OpenSpec.ofChange Rows.releaseTurnedSpec) :=
  OpenClaim.holds_of_wide 4 Tryz.f4 rfl rfl rfl rfl rfl rfl rfl ⟨rfl, rfl, rfl, rfl, rfl⟩ rfl rfl rfl rfl rfl (by kernel_rfl) Tryz.func4 (by kernel_rfl)
    (of_decide_eq_true (by kernel_rfl)) (by unfold Func.isWrapper; first | (rw [if_pos (by decide +kernel)]; kernel_rfl) | (rw [if_neg (by decide +kernel)]; exact ⟨rfl, rfl⟩))
    (fun os started H enc _ => lifted os started H enc)
end Go.Proofs.YtpcifklfjeiklaaGreat.ReleaseTurnedLaw
namespace Go.Proofs.YtpcifklfjeiklaaGreat
/-- The row, under a short name, for the claim. -/
theorem releaseTurned_holds : Rows.ReleaseTurnedSaid := ReleaseTurnedLaw.over
end Go.Proofs.YtpcifklfjeiklaaGreat
