/-
  No cell of these rows narrows 'for every input' (looked for: loops, veiled, ifaces, maps, wideKeys, modest, calm, conditions, laid).
  DERIVED. THE GIVEN ROWS OF THIS SEAT. 4 by the template 'for every input the law returns true; each argument reads behind the call as it read before'; 0 by the template 'total and deterministic' (their statements: YtfhbgmaejenmkaaTotals.lean).
  GIVEN WITH THE SEED: the statements are not yours to turn. If you find one false, say at which input.
  Laid BY PROGRAM, IN A SANDBOX (cutbox-rows.mjs): the forced cells as the released guide's own fill.sh prints them over the translation 5c3b0e2f2b8e4a7b… (all of the seat's roots in one cut). By AI agents, Wed Nov 11 2026. No macro, syntax, notation, axiom, sorry.
-/
import Derived.Test.YtfhbgmaejenmkaaChecked
import GoSem.Claim
import GoSem.ClaimJoined
import GoSem.ClaimMapViews
import Derived.JoinedTies
import Derived.KernelRfl
namespace Go.Proofs.Ytfhbgmaejenmkaa
/- THE CELL 'sum', in the pinned program and in every row, IS THE sha256 OF THE DUMP (.gsa) THAT YtfhbgmaejenmkaaProg.lean LOADS. Nothing in Lean hashes anything: it is a label: what it is worth is what the hold of that sum in a sandbox is worth. -/
noncomputable def Try.pinned : Pinned := { name := "ytfhbgmaejenmkaa", sum := "5c3b0e2f2b8e4a7bb80c1db414fecd80b16278162b4ab620cdbad4d036d581d9", checked := Try.checked }
namespace Rows
def none {H : Type} : Left H := { results := [], args := [] }

/-- 'papermilllaw43.InheritAreas': WHATEVER THE INPUT: true; the input reads as it did. -/
def inheritAreasSpec : ChangeSpec := { name := "inheritAreas", fn := fun _ => fun
  | [d1, d2] => { results := [.lit (.bool true)], args := [d1, d2] }
  | _ => none }
def inheritAreasRow : OpenClaim := { program := "ytfhbgmaejenmkaa", sum := "5c3b0e2f2b8e4a7bb80c1db414fecd80b16278162b4ab620cdbad4d036d581d9", func := "papermill/papermilllaw43.InheritAreas", spec := "inheritAreas", unfollowed := true, recurses := true, apart := false }
def InheritAreasSaid : Prop := inheritAreasRow.holds Try.pinned (OpenSpec.ofChange inheritAreasSpec)

/-- ITS FALSE NEIGHBOUR: 'it returns false'. Refute it at one input. -/
def inheritAreasWrong : ChangeSpec := { name := "inheritAreas", fn := fun _ => fun
  | [d1, d2] => { results := [.lit (.bool false)], args := [d1, d2] }
  | _ => none }
def InheritAreasWrongFalsely : Prop := inheritAreasRow.holds Try.pinned (OpenSpec.ofChange inheritAreasWrong)

/-- 'papermilllaw43.InheritBounds': WHATEVER THE INPUT: true; the input reads as it did. -/
def inheritBoundsSpec : ChangeSpec := { name := "inheritBounds", fn := fun _ => fun
  | [d1, d2] => { results := [.lit (.bool true)], args := [d1, d2] }
  | _ => none }
def inheritBoundsRow : OpenClaim := { program := "ytfhbgmaejenmkaa", sum := "5c3b0e2f2b8e4a7bb80c1db414fecd80b16278162b4ab620cdbad4d036d581d9", func := "papermill/papermilllaw43.InheritBounds", spec := "inheritBounds", unfollowed := true, recurses := true, apart := false }
def InheritBoundsSaid : Prop := inheritBoundsRow.holds Try.pinned (OpenSpec.ofChange inheritBoundsSpec)

/-- ITS FALSE NEIGHBOUR: 'it returns false'. Refute it at one input. -/
def inheritBoundsWrong : ChangeSpec := { name := "inheritBounds", fn := fun _ => fun
  | [d1, d2] => { results := [.lit (.bool false)], args := [d1, d2] }
  | _ => none }
def InheritBoundsWrongFalsely : Prop := inheritBoundsRow.holds Try.pinned (OpenSpec.ofChange inheritBoundsWrong)

/-- 'papermilllaw43.InheritExact': WHATEVER THE INPUT: true; the input reads as it did. -/
def inheritExactSpec : ChangeSpec := { name := "inheritExact", fn := fun _ => fun
  | [d1, d2, d3] => { results := [.lit (.bool true)], args := [d1, d2, d3] }
  | _ => none }
def inheritExactRow : OpenClaim := { program := "ytfhbgmaejenmkaa", sum := "5c3b0e2f2b8e4a7bb80c1db414fecd80b16278162b4ab620cdbad4d036d581d9", func := "papermill/papermilllaw43.InheritExact", spec := "inheritExact", unfollowed := true, recurses := true, apart := false }
def InheritExactSaid : Prop := inheritExactRow.holds Try.pinned (OpenSpec.ofChange inheritExactSpec)

/-- ITS FALSE NEIGHBOUR: 'it returns false'. Refute it at one input. -/
def inheritExactWrong : ChangeSpec := { name := "inheritExact", fn := fun _ => fun
  | [d1, d2, d3] => { results := [.lit (.bool false)], args := [d1, d2, d3] }
  | _ => none }
def InheritExactWrongFalsely : Prop := inheritExactRow.holds Try.pinned (OpenSpec.ofChange inheritExactWrong)

/-- 'papermilllaw43.InheritBack': WHATEVER THE INPUT: true; the input reads as it did. -/
def inheritBackSpec : ChangeSpec := { name := "inheritBack", fn := fun _ => fun
  | [d1, d2, d3] => { results := [.lit (.bool true)], args := [d1, d2, d3] }
  | _ => none }
def inheritBackRow : OpenClaim := { program := "ytfhbgmaejenmkaa", sum := "5c3b0e2f2b8e4a7bb80c1db414fecd80b16278162b4ab620cdbad4d036d581d9", func := "papermill/papermilllaw43.InheritBack", spec := "inheritBack", unfollowed := true, recurses := true, apart := false }
def InheritBackSaid : Prop := inheritBackRow.holds Try.pinned (OpenSpec.ofChange inheritBackSpec)

/-- ITS FALSE NEIGHBOUR: 'it returns false'. Refute it at one input. -/
def inheritBackWrong : ChangeSpec := { name := "inheritBack", fn := fun _ => fun
  | [d1, d2, d3] => { results := [.lit (.bool false)], args := [d1, d2, d3] }
  | _ => none }
def InheritBackWrongFalsely : Prop := inheritBackRow.holds Try.pinned (OpenSpec.ofChange inheritBackWrong)

/- THE SECOND FORM. 'bulk': how many values and letters a reading holds, each counted each time it is reached (what is shared counts as often as it is met; a slice's spare places count too). A statement '..UptoSaid' is the law's where the arguments, and the package variables that the reading takes, are together of bulk at most 1048576: NARROWER than '..Said'. Prove '..Said' where nothing that the law and all that it calls make is longer than what came in: it says more and counts as full. Else prove '..UptoSaid'. A law counts once. -/
mutual
def uptoBulk {H : Type} : DataW H → Nat
  | .lit (.string bytes) => bytes.length + 1
  | .lit _ => 1
  | .nil => 1
  | .ptr d => uptoBulk d + 1
  | .slice elems spare => uptoBulkAll elems + uptoBulkAll spare + 1
  | .agg parts => uptoBulkAll parts + 1
  | .iface _ d => uptoBulk d + 1
  | .map entries => uptoBulkEntries entries + 1
  | .held _ => 1
def uptoBulkAll {H : Type} : List (DataW H) → Nat
  | [] => 0
  | d :: r => uptoBulk d + uptoBulkAll r
def uptoBulkEntries {H : Type} : List (Lit × DataW H) → Nat
  | [] => 0
  | x :: r => uptoBulkEntry x + uptoBulkEntries r
def uptoBulkEntry {H : Type} : Lit × DataW H → Nat
  | (.string bytes, d) => bytes.length + uptoBulk d + 1
  | (_, d) => uptoBulk d + 1
 end
def uptoSmall : (H : Type) → List (DataW H) → Bool := fun _ ds => decide (uptoBulkAll ds ≤ 1048576)
def OpenSpec.upto (s : _root_.Go.ChangeSpec) : _root_.Go.OpenSpec := { _root_.Go.OpenSpec.ofChange s with cond := some uptoSmall }

/-- 'papermilllaw43.InheritAreas', WHERE WHAT IT READS IS OF BULK AT MOST 1048576: true; the input reads as it did. -/
def inheritAreasUptoRow : OpenClaim := { program := "ytfhbgmaejenmkaa", sum := "5c3b0e2f2b8e4a7bb80c1db414fecd80b16278162b4ab620cdbad4d036d581d9", func := "papermill/papermilllaw43.InheritAreas", spec := "inheritAreas", unfollowed := true, recurses := true, apart := false, narrowed := true }
def InheritAreasUptoSaid : Prop := inheritAreasUptoRow.holds Try.pinned (OpenSpec.upto inheritAreasSpec)

/-- 'papermilllaw43.InheritBounds', WHERE WHAT IT READS IS OF BULK AT MOST 1048576: true; the input reads as it did. -/
def inheritBoundsUptoRow : OpenClaim := { program := "ytfhbgmaejenmkaa", sum := "5c3b0e2f2b8e4a7bb80c1db414fecd80b16278162b4ab620cdbad4d036d581d9", func := "papermill/papermilllaw43.InheritBounds", spec := "inheritBounds", unfollowed := true, recurses := true, apart := false, narrowed := true }
def InheritBoundsUptoSaid : Prop := inheritBoundsUptoRow.holds Try.pinned (OpenSpec.upto inheritBoundsSpec)

/-- 'papermilllaw43.InheritExact', WHERE WHAT IT READS IS OF BULK AT MOST 1048576: true; the input reads as it did. -/
def inheritExactUptoRow : OpenClaim := { program := "ytfhbgmaejenmkaa", sum := "5c3b0e2f2b8e4a7bb80c1db414fecd80b16278162b4ab620cdbad4d036d581d9", func := "papermill/papermilllaw43.InheritExact", spec := "inheritExact", unfollowed := true, recurses := true, apart := false, narrowed := true }
def InheritExactUptoSaid : Prop := inheritExactUptoRow.holds Try.pinned (OpenSpec.upto inheritExactSpec)

/-- 'papermilllaw43.InheritBack', WHERE WHAT IT READS IS OF BULK AT MOST 1048576: true; the input reads as it did. -/
def inheritBackUptoRow : OpenClaim := { program := "ytfhbgmaejenmkaa", sum := "5c3b0e2f2b8e4a7bb80c1db414fecd80b16278162b4ab620cdbad4d036d581d9", func := "papermill/papermilllaw43.InheritBack", spec := "inheritBack", unfollowed := true, recurses := true, apart := false, narrowed := true }
def InheritBackUptoSaid : Prop := inheritBackUptoRow.holds Try.pinned (OpenSpec.upto inheritBackSpec)

end Rows
end Go.Proofs.Ytfhbgmaejenmkaa
