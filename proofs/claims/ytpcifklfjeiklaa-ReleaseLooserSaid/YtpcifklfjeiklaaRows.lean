/-
  No cell of these rows narrows 'for every input' (looked for: loops, veiled, ifaces, maps, wideKeys, modest, calm, conditions, laid).
  DERIVED. THE GIVEN ROWS OF THIS SEAT. 5 by the template 'for every input the law returns true; each argument reads behind the call as it read before'; 0 by the template 'total and deterministic' (their statements: YtpcifklfjeiklaaTotals.lean).
  GIVEN WITH THE SEED: the statements are not yours to turn. If you find one false, say at which input.
  Laid BY PROGRAM, IN A SANDBOX (cutbox-rows.mjs): the forced cells as the released guide's own fill.sh prints them over the translation ef17600ef0a4266c… (all of the seat's roots in one cut). By AI agents, Wed Nov 11 2026. No macro, syntax, notation, axiom, sorry.
-/
import Derived.Test.YtpcifklfjeiklaaChecked
import GoSem.Claim
import GoSem.ClaimJoined
import GoSem.ClaimMapViews
import Derived.JoinedTies
import Derived.KernelRfl
namespace Go.Proofs.Ytpcifklfjeiklaa
/- THE CELL 'sum', in the pinned program and in every row, IS THE sha256 OF THE DUMP (.gsa) THAT YtpcifklfjeiklaaProg.lean LOADS. Nothing in Lean hashes anything: it is a label: what it is worth is what the hold of that sum in a sandbox is worth. -/
noncomputable def Try.pinned : Pinned := { name := "ytpcifklfjeiklaa", sum := "ef17600ef0a4266cbb5c65869acc0f5152ef3bd745c8fc66514dfdec995108ca", checked := Try.checked }
namespace Rows
def none {H : Type} : Left H := { results := [], args := [] }

/-- 'papermilllaw55.ReleaseWaived': WHATEVER THE INPUT: true; the input reads as it did. -/
def releaseWaivedSpec : ChangeSpec := { name := "releaseWaived", fn := fun _ => fun
  | [d1, d2, d3] => { results := [.lit (.bool true)], args := [d1, d2, d3] }
  | _ => none }
def releaseWaivedRow : OpenClaim := { program := "ytpcifklfjeiklaa", sum := "ef17600ef0a4266cbb5c65869acc0f5152ef3bd745c8fc66514dfdec995108ca", func := "papermill/papermilllaw55.ReleaseWaived", spec := "releaseWaived", unfollowed := true, recurses := true, apart := false }
def ReleaseWaivedSaid : Prop := releaseWaivedRow.holds Try.pinned (OpenSpec.ofChange releaseWaivedSpec)

/-- ITS FALSE NEIGHBOUR: 'it returns false'. Refute it at one input. -/
def releaseWaivedWrong : ChangeSpec := { name := "releaseWaived", fn := fun _ => fun
  | [d1, d2, d3] => { results := [.lit (.bool false)], args := [d1, d2, d3] }
  | _ => none }
def ReleaseWaivedWrongFalsely : Prop := releaseWaivedRow.holds Try.pinned (OpenSpec.ofChange releaseWaivedWrong)

/-- 'papermilllaw55.ReleaseJudges': WHATEVER THE INPUT: true; the input reads as it did. -/
def releaseJudgesSpec : ChangeSpec := { name := "releaseJudges", fn := fun _ => fun
  | [d1, d2] => { results := [.lit (.bool true)], args := [d1, d2] }
  | _ => none }
def releaseJudgesRow : OpenClaim := { program := "ytpcifklfjeiklaa", sum := "ef17600ef0a4266cbb5c65869acc0f5152ef3bd745c8fc66514dfdec995108ca", func := "papermill/papermilllaw55.ReleaseJudges", spec := "releaseJudges", unfollowed := true, recurses := true, apart := false }
def ReleaseJudgesSaid : Prop := releaseJudgesRow.holds Try.pinned (OpenSpec.ofChange releaseJudgesSpec)

/-- ITS FALSE NEIGHBOUR: 'it returns false'. Refute it at one input. -/
def releaseJudgesWrong : ChangeSpec := { name := "releaseJudges", fn := fun _ => fun
  | [d1, d2] => { results := [.lit (.bool false)], args := [d1, d2] }
  | _ => none }
def ReleaseJudgesWrongFalsely : Prop := releaseJudgesRow.holds Try.pinned (OpenSpec.ofChange releaseJudgesWrong)

/-- 'papermilllaw55.ReleaseMissing': WHATEVER THE INPUT: true; the input reads as it did. -/
def releaseMissingSpec : ChangeSpec := { name := "releaseMissing", fn := fun _ => fun
  | [d1, d2, d3] => { results := [.lit (.bool true)], args := [d1, d2, d3] }
  | _ => none }
def releaseMissingRow : OpenClaim := { program := "ytpcifklfjeiklaa", sum := "ef17600ef0a4266cbb5c65869acc0f5152ef3bd745c8fc66514dfdec995108ca", func := "papermill/papermilllaw55.ReleaseMissing", spec := "releaseMissing", unfollowed := true, recurses := true, apart := false }
def ReleaseMissingSaid : Prop := releaseMissingRow.holds Try.pinned (OpenSpec.ofChange releaseMissingSpec)

/-- ITS FALSE NEIGHBOUR: 'it returns false'. Refute it at one input. -/
def releaseMissingWrong : ChangeSpec := { name := "releaseMissing", fn := fun _ => fun
  | [d1, d2, d3] => { results := [.lit (.bool false)], args := [d1, d2, d3] }
  | _ => none }
def ReleaseMissingWrongFalsely : Prop := releaseMissingRow.holds Try.pinned (OpenSpec.ofChange releaseMissingWrong)

/-- 'papermilllaw55.ReleaseMore': WHATEVER THE INPUT: true; the input reads as it did. -/
def releaseMoreSpec : ChangeSpec := { name := "releaseMore", fn := fun _ => fun
  | [d1, d2, d3, d4] => { results := [.lit (.bool true)], args := [d1, d2, d3, d4] }
  | _ => none }
def releaseMoreRow : OpenClaim := { program := "ytpcifklfjeiklaa", sum := "ef17600ef0a4266cbb5c65869acc0f5152ef3bd745c8fc66514dfdec995108ca", func := "papermill/papermilllaw55.ReleaseMore", spec := "releaseMore", unfollowed := true, recurses := true, apart := false }
def ReleaseMoreSaid : Prop := releaseMoreRow.holds Try.pinned (OpenSpec.ofChange releaseMoreSpec)

/-- ITS FALSE NEIGHBOUR: 'it returns false'. Refute it at one input. -/
def releaseMoreWrong : ChangeSpec := { name := "releaseMore", fn := fun _ => fun
  | [d1, d2, d3, d4] => { results := [.lit (.bool false)], args := [d1, d2, d3, d4] }
  | _ => none }
def ReleaseMoreWrongFalsely : Prop := releaseMoreRow.holds Try.pinned (OpenSpec.ofChange releaseMoreWrong)

/-- 'papermilllaw55.ReleaseLooser': WHATEVER THE INPUT: true; the input reads as it did. -/
def releaseLooserSpec : ChangeSpec := { name := "releaseLooser", fn := fun _ => fun
  | [d1, d2, d3] => { results := [.lit (.bool true)], args := [d1, d2, d3] }
  | _ => none }
def releaseLooserRow : OpenClaim := { program := "ytpcifklfjeiklaa", sum := "ef17600ef0a4266cbb5c65869acc0f5152ef3bd745c8fc66514dfdec995108ca", func := "papermill/papermilllaw55.ReleaseLooser", spec := "releaseLooser", unfollowed := true, recurses := true, apart := false }
def ReleaseLooserSaid : Prop := releaseLooserRow.holds Try.pinned (OpenSpec.ofChange releaseLooserSpec)

/-- ITS FALSE NEIGHBOUR: 'it returns false'. Refute it at one input. -/
def releaseLooserWrong : ChangeSpec := { name := "releaseLooser", fn := fun _ => fun
  | [d1, d2, d3] => { results := [.lit (.bool false)], args := [d1, d2, d3] }
  | _ => none }
def ReleaseLooserWrongFalsely : Prop := releaseLooserRow.holds Try.pinned (OpenSpec.ofChange releaseLooserWrong)

/- THE SECOND FORM. 'bulk': how many values and letters a reading holds, each counted each time it is reached (what is shared counts as often as it is met; a slice's spare places count too). A statement '..UptoSaid' is the law's where the arguments, and the package variables that the reading takes, are together of bulk at most 1048576: NARROWER than '..Said'. Prove '..Said' where nothing that the law and all that it calls make is longer than what came in: it says more and counts as full. Else prove '..UptoSaid'. A law counts once. -/
mutual
def uptoBulk {H : Type} : DataW H → Nat
  | .lit (.string bytes) => bytes.length + 1
  | .lit _ => 1
  | .nil => 1
  | .ptr d => uptoBulk d + 1
  | .slice elems spare => uptoBulkAll elems + uptoBulkAll spare + 1
  | .agg parts => uptoBulkAll parts + 1
  | .iface _ d => uptoBulk d + 1
  | .map entries => uptoBulkEntries entries + 1
  | .held _ => 1
def uptoBulkAll {H : Type} : List (DataW H) → Nat
  | [] => 0
  | d :: r => uptoBulk d + uptoBulkAll r
def uptoBulkEntries {H : Type} : List (Lit × DataW H) → Nat
  | [] => 0
  | x :: r => uptoBulkEntry x + uptoBulkEntries r
def uptoBulkEntry {H : Type} : Lit × DataW H → Nat
  | (.string bytes, d) => bytes.length + uptoBulk d + 1
  | (_, d) => uptoBulk d + 1
 end
def uptoSmall : (H : Type) → List (DataW H) → Bool := fun _ ds => decide (uptoBulkAll ds ≤ 1048576)
def OpenSpec.upto (s : _root_.Go.ChangeSpec) : _root_.Go.OpenSpec := { _root_.Go.OpenSpec.ofChange s with cond := some uptoSmall }

/-- 'papermilllaw55.ReleaseWaived', WHERE WHAT IT READS IS OF BULK AT MOST 1048576: true; the input reads as it did. -/
def releaseWaivedUptoRow : OpenClaim := { program := "ytpcifklfjeiklaa", sum := "ef17600ef0a4266cbb5c65869acc0f5152ef3bd745c8fc66514dfdec995108ca", func := "papermill/papermilllaw55.ReleaseWaived", spec := "releaseWaived", unfollowed := true, recurses := true, apart := false, narrowed := true }
def ReleaseWaivedUptoSaid : Prop := releaseWaivedUptoRow.holds Try.pinned (OpenSpec.upto releaseWaivedSpec)

/-- 'papermilllaw55.ReleaseJudges', WHERE WHAT IT READS IS OF BULK AT MOST 1048576: true; the input reads as it did. -/
def releaseJudgesUptoRow : OpenClaim := { program := "ytpcifklfjeiklaa", sum := "ef17600ef0a4266cbb5c65869acc0f5152ef3bd745c8fc66514dfdec995108ca", func := "papermill/papermilllaw55.ReleaseJudges", spec := "releaseJudges", unfollowed := true, recurses := true, apart := false, narrowed := true }
def ReleaseJudgesUptoSaid : Prop := releaseJudgesUptoRow.holds Try.pinned (OpenSpec.upto releaseJudgesSpec)

/-- 'papermilllaw55.ReleaseMissing', WHERE WHAT IT READS IS OF BULK AT MOST 1048576: true; the input reads as it did. -/
def releaseMissingUptoRow : OpenClaim := { program := "ytpcifklfjeiklaa", sum := "ef17600ef0a4266cbb5c65869acc0f5152ef3bd745c8fc66514dfdec995108ca", func := "papermill/papermilllaw55.ReleaseMissing", spec := "releaseMissing", unfollowed := true, recurses := true, apart := false, narrowed := true }
def ReleaseMissingUptoSaid : Prop := releaseMissingUptoRow.holds Try.pinned (OpenSpec.upto releaseMissingSpec)

/-- 'papermilllaw55.ReleaseMore', WHERE WHAT IT READS IS OF BULK AT MOST 1048576: true; the input reads as it did. -/
def releaseMoreUptoRow : OpenClaim := { program := "ytpcifklfjeiklaa", sum := "ef17600ef0a4266cbb5c65869acc0f5152ef3bd745c8fc66514dfdec995108ca", func := "papermill/papermilllaw55.ReleaseMore", spec := "releaseMore", unfollowed := true, recurses := true, apart := false, narrowed := true }
def ReleaseMoreUptoSaid : Prop := releaseMoreUptoRow.holds Try.pinned (OpenSpec.upto releaseMoreSpec)

/-- 'papermilllaw55.ReleaseLooser', WHERE WHAT IT READS IS OF BULK AT MOST 1048576: true; the input reads as it did. -/
def releaseLooserUptoRow : OpenClaim := { program := "ytpcifklfjeiklaa", sum := "ef17600ef0a4266cbb5c65869acc0f5152ef3bd745c8fc66514dfdec995108ca", func := "papermill/papermilllaw55.ReleaseLooser", spec := "releaseLooser", unfollowed := true, recurses := true, apart := false, narrowed := true }
def ReleaseLooserUptoSaid : Prop := releaseLooserUptoRow.holds Try.pinned (OpenSpec.upto releaseLooserSpec)

end Rows
end Go.Proofs.Ytpcifklfjeiklaa
