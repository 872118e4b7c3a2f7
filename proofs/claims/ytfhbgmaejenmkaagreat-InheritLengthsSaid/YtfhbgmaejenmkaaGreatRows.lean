/-
  No cell of these rows narrows 'for every input' (looked for: loops, veiled, ifaces, maps, wideKeys, modest, calm, conditions, laid).
  DERIVED. THE GIVEN ROWS OF THIS SEAT. 3 by the template 'for every input the law returns true; each argument reads behind the call as it read before'; 0 by the template 'total and deterministic' (their statements: YtfhbgmaejenmkaaGreatTotals.lean).
  GIVEN WITH THE SEED: the statements are not yours to turn. If you find one false, say at which input.
  Laid BY PROGRAM, IN A SANDBOX (cutbox-rows.mjs): the forced cells as the released guide's own fill.sh prints them over the translation 89aa3cc609f64ea5… (all of the seat's roots in one cut). By AI agents, Wed Nov 11 2026. No macro, syntax, notation, axiom, sorry.
-/
import Derived.Test.YtfhbgmaejenmkaaGreatChecked
import GoSem.Claim
import GoSem.ClaimJoined
import GoSem.ClaimMapViews
import Derived.JoinedTies
import Derived.KernelRfl
namespace Go.Proofs.YtfhbgmaejenmkaaGreat
/- THE CELL 'sum', in the pinned program and in every row, IS THE sha256 OF THE DUMP (.gsa) THAT YtfhbgmaejenmkaaGreatProg.lean LOADS. Nothing in Lean hashes anything: it is a label: what it is worth is what the hold of that sum in a sandbox is worth. -/
noncomputable def Tryz.pinned : Pinned := { name := "ytfhbgmaejenmkaagreat", sum := "89aa3cc609f64ea54e0631bb1f02f78ec469852b709e029d72835b74ef085730", checked := Tryz.checked }
namespace Rows
def none {H : Type} : Left H := { results := [], args := [] }

/-- 'papermilllaw43.InheritSpots': WHATEVER THE INPUT: true; the input reads as it did. -/
def inheritSpotsSpec : ChangeSpec := { name := "inheritSpots", fn := fun _ => fun
  | [d1, d2] => { results := [.lit (.bool true)], args := [d1, d2] }
  | _ => none }
def inheritSpotsRow : OpenClaim := { program := "ytfhbgmaejenmkaagreat", sum := "89aa3cc609f64ea54e0631bb1f02f78ec469852b709e029d72835b74ef085730", func := "papermill/papermilllaw43.InheritSpots", spec := "inheritSpots", unfollowed := true, recurses := true, apart := false }
def InheritSpotsSaid : Prop := inheritSpotsRow.holds Tryz.pinned (OpenSpec.ofChange inheritSpotsSpec)

/-- ITS FALSE NEIGHBOUR: 'it returns false'. Refute it at one input. -/
def inheritSpotsWrong : ChangeSpec := { name := "inheritSpots", fn := fun _ => fun
  | [d1, d2] => { results := [.lit (.bool false)], args := [d1, d2] }
  | _ => none }
def InheritSpotsWrongFalsely : Prop := inheritSpotsRow.holds Tryz.pinned (OpenSpec.ofChange inheritSpotsWrong)

/-- 'papermilllaw43.InheritBacks': WHATEVER THE INPUT: true; the input reads as it did. -/
def inheritBacksSpec : ChangeSpec := { name := "inheritBacks", fn := fun _ => fun
  | [d1, d2, d3] => { results := [.lit (.bool true)], args := [d1, d2, d3] }
  | _ => none }
def inheritBacksRow : OpenClaim := { program := "ytfhbgmaejenmkaagreat", sum := "89aa3cc609f64ea54e0631bb1f02f78ec469852b709e029d72835b74ef085730", func := "papermill/papermilllaw43.InheritBacks", spec := "inheritBacks", unfollowed := true, recurses := true, apart := false }
def InheritBacksSaid : Prop := inheritBacksRow.holds Tryz.pinned (OpenSpec.ofChange inheritBacksSpec)

/-- ITS FALSE NEIGHBOUR: 'it returns false'. Refute it at one input. -/
def inheritBacksWrong : ChangeSpec := { name := "inheritBacks", fn := fun _ => fun
  | [d1, d2, d3] => { results := [.lit (.bool false)], args := [d1, d2, d3] }
  | _ => none }
def InheritBacksWrongFalsely : Prop := inheritBacksRow.holds Tryz.pinned (OpenSpec.ofChange inheritBacksWrong)

/-- 'papermilllaw43.InheritLengths': WHATEVER THE INPUT: true; the input reads as it did. -/
def inheritLengthsSpec : ChangeSpec := { name := "inheritLengths", fn := fun _ => fun
  | [d1, d2] => { results := [.lit (.bool true)], args := [d1, d2] }
  | _ => none }
def inheritLengthsRow : OpenClaim := { program := "ytfhbgmaejenmkaagreat", sum := "89aa3cc609f64ea54e0631bb1f02f78ec469852b709e029d72835b74ef085730", func := "papermill/papermilllaw43.InheritLengths", spec := "inheritLengths", unfollowed := true, recurses := true, apart := false }
def InheritLengthsSaid : Prop := inheritLengthsRow.holds Tryz.pinned (OpenSpec.ofChange inheritLengthsSpec)

/-- ITS FALSE NEIGHBOUR: 'it returns false'. Refute it at one input. -/
def inheritLengthsWrong : ChangeSpec := { name := "inheritLengths", fn := fun _ => fun
  | [d1, d2] => { results := [.lit (.bool false)], args := [d1, d2] }
  | _ => none }
def InheritLengthsWrongFalsely : Prop := inheritLengthsRow.holds Tryz.pinned (OpenSpec.ofChange inheritLengthsWrong)

/- THE SECOND FORM. 'bulk': how many values and letters a reading holds, each counted each time it is reached (what is shared counts as often as it is met; a slice's spare places count too). A statement '..UptoSaid' is the law's where the arguments, and the package variables that the reading takes, are together of bulk at most 1048576: NARROWER than '..Said'. Prove '..Said' where nothing that the law and all that it calls make is longer than what came in: it says more and counts as full. Else prove '..UptoSaid'. A law counts once. -/
mutual
def uptoBulk {H : Type} : DataW H → Nat
  | .lit (.string bytes) => bytes.length + 1
  | .lit _ => 1
  | .nil => 1
  | .ptr d => uptoBulk d + 1
  | .slice elems spare => uptoBulkAll elems + uptoBulkAll spare + 1
  | .agg parts => uptoBulkAll parts + 1
  | .iface _ d => uptoBulk d + 1
  | .map entries => uptoBulkEntries entries + 1
  | .held _ => 1
def uptoBulkAll {H : Type} : List (DataW H) → Nat
  | [] => 0
  | d :: r => uptoBulk d + uptoBulkAll r
def uptoBulkEntries {H : Type} : List (Lit × DataW H) → Nat
  | [] => 0
  | x :: r => uptoBulkEntry x + uptoBulkEntries r
def uptoBulkEntry {H : Type} : Lit × DataW H → Nat
  | (.string bytes, d) => bytes.length + uptoBulk d + 1
  | (_, d) => uptoBulk d + 1
 end
def uptoSmall : (H : Type) → List (DataW H) → Bool := fun _ ds => decide (uptoBulkAll ds ≤ 1048576)
def OpenSpec.upto (s : _root_.Go.ChangeSpec) : _root_.Go.OpenSpec := { _root_.Go.OpenSpec.ofChange s with cond := some uptoSmall }

/-- 'papermilllaw43.InheritSpots', WHERE WHAT IT READS IS OF BULK AT MOST 1048576: true; the input reads as it did. -/
def inheritSpotsUptoRow : OpenClaim := { program := "ytfhbgmaejenmkaagreat", sum := "89aa3cc609f64ea54e0631bb1f02f78ec469852b709e029d72835b74ef085730", func := "papermill/papermilllaw43.InheritSpots", spec := "inheritSpots", unfollowed := true, recurses := true, apart := false, narrowed := true }
def InheritSpotsUptoSaid : Prop := inheritSpotsUptoRow.holds Tryz.pinned (OpenSpec.upto inheritSpotsSpec)

/-- 'papermilllaw43.InheritBacks', WHERE WHAT IT READS IS OF BULK AT MOST 1048576: true; the input reads as it did. -/
def inheritBacksUptoRow : OpenClaim := { program := "ytfhbgmaejenmkaagreat", sum := "89aa3cc609f64ea54e0631bb1f02f78ec469852b709e029d72835b74ef085730", func := "papermill/papermilllaw43.InheritBacks", spec := "inheritBacks", unfollowed := true, recurses := true, apart := false, narrowed := true }
def InheritBacksUptoSaid : Prop := inheritBacksUptoRow.holds Tryz.pinned (OpenSpec.upto inheritBacksSpec)

/-- 'papermilllaw43.InheritLengths', WHERE WHAT IT READS IS OF BULK AT MOST 1048576: true; the input reads as it did. -/
def inheritLengthsUptoRow : OpenClaim := { program := "ytfhbgmaejenmkaagreat", sum := "89aa3cc609f64ea54e0631bb1f02f78ec469852b709e029d72835b74ef085730", func := "papermill/papermilllaw43.InheritLengths", spec := "inheritLengths", unfollowed := true, recurses := true, apart := false, narrowed := true }
def InheritLengthsUptoSaid : Prop := inheritLengthsUptoRow.holds Tryz.pinned (OpenSpec.upto inheritLengthsSpec)

end Rows
end Go.Proofs.YtfhbgmaejenmkaaGreat
