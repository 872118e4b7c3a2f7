/-
  No cell of these rows narrows 'for every input' (looked for: loops, veiled, ifaces, maps, wideKeys, modest, calm, conditions, laid).
  DERIVED. THE GIVEN ROWS OF THIS SEAT. 5 by the template 'for every input the law returns true; each argument reads behind the call as it read before'; 0 by the template 'total and deterministic' (their statements: YtbenjjjcafbmmaaGreatTotals.lean).
  GIVEN WITH THE SEED: the statements are not yours to turn. If you find one false, say at which input.
  Laid BY PROGRAM, IN A SANDBOX (cutbox-rows.mjs): the forced cells as the released guide's own fill.sh prints them over the translation f78b2401f3befe35… (all of the seat's roots in one cut). By AI agents, Wed Nov 11 2026. No macro, syntax, notation, axiom, sorry.
-/
import Derived.Test.YtbenjjjcafbmmaaGreatChecked
import GoSem.Claim
import GoSem.ClaimJoined
import GoSem.ClaimMapViews
import Derived.JoinedTies
import Derived.KernelRfl
namespace Go.Proofs.YtbenjjjcafbmmaaGreat
/- THE CELL 'sum', in the pinned program and in every row, IS THE sha256 OF THE DUMP (.gsa) THAT YtbenjjjcafbmmaaGreatProg.lean LOADS. Nothing in Lean hashes anything: it is a label: what it is worth is what the hold of that sum in a sandbox is worth. -/
noncomputable def Tryz.pinned : Pinned := { name := "ytbenjjjcafbmmaagreat", sum := "f78b2401f3befe357ce020f9b22251088d3f7285cf55c8b5476967744b56396a", checked := Tryz.checked }
namespace Rows
def none {H : Type} : Left H := { results := [], args := [] }

/-- 'papermilllaw42.FamilyPoints': WHATEVER THE INPUT: true; the input reads as it did. -/
def familyPointsSpec : ChangeSpec := { name := "familyPoints", fn := fun _ => fun
  | [d1, d2] => { results := [.lit (.bool true)], args := [d1, d2] }
  | _ => none }
def familyPointsRow : OpenClaim := { program := "ytbenjjjcafbmmaagreat", sum := "f78b2401f3befe357ce020f9b22251088d3f7285cf55c8b5476967744b56396a", func := "papermill/papermilllaw42.FamilyPoints", spec := "familyPoints", unfollowed := true, recurses := true, apart := false }
def FamilyPointsSaid : Prop := familyPointsRow.holds Tryz.pinned (OpenSpec.ofChange familyPointsSpec)

/-- ITS FALSE NEIGHBOUR: 'it returns false'. Refute it at one input. -/
def familyPointsWrong : ChangeSpec := { name := "familyPoints", fn := fun _ => fun
  | [d1, d2] => { results := [.lit (.bool false)], args := [d1, d2] }
  | _ => none }
def FamilyPointsWrongFalsely : Prop := familyPointsRow.holds Tryz.pinned (OpenSpec.ofChange familyPointsWrong)

/-- 'papermilllaw42.FamilyCuts': WHATEVER THE INPUT: true; the input reads as it did. -/
def familyCutsSpec : ChangeSpec := { name := "familyCuts", fn := fun _ => fun
  | [d1, d2] => { results := [.lit (.bool true)], args := [d1, d2] }
  | _ => none }
def familyCutsRow : OpenClaim := { program := "ytbenjjjcafbmmaagreat", sum := "f78b2401f3befe357ce020f9b22251088d3f7285cf55c8b5476967744b56396a", func := "papermill/papermilllaw42.FamilyCuts", spec := "familyCuts", unfollowed := true, recurses := true, apart := false }
def FamilyCutsSaid : Prop := familyCutsRow.holds Tryz.pinned (OpenSpec.ofChange familyCutsSpec)

/-- ITS FALSE NEIGHBOUR: 'it returns false'. Refute it at one input. -/
def familyCutsWrong : ChangeSpec := { name := "familyCuts", fn := fun _ => fun
  | [d1, d2] => { results := [.lit (.bool false)], args := [d1, d2] }
  | _ => none }
def FamilyCutsWrongFalsely : Prop := familyCutsRow.holds Tryz.pinned (OpenSpec.ofChange familyCutsWrong)

/-- 'papermilllaw42.FamilyChecks': WHATEVER THE INPUT: true; the input reads as it did. -/
def familyChecksSpec : ChangeSpec := { name := "familyChecks", fn := fun _ => fun
  | [d] => { results := [.lit (.bool true)], args := [d] }
  | _ => none }
def familyChecksRow : OpenClaim := { program := "ytbenjjjcafbmmaagreat", sum := "f78b2401f3befe357ce020f9b22251088d3f7285cf55c8b5476967744b56396a", func := "papermill/papermilllaw42.FamilyChecks", spec := "familyChecks", unfollowed := true, recurses := true, apart := false }
def FamilyChecksSaid : Prop := familyChecksRow.holds Tryz.pinned (OpenSpec.ofChange familyChecksSpec)

/-- ITS FALSE NEIGHBOUR: 'it returns false'. Refute it at one input. -/
def familyChecksWrong : ChangeSpec := { name := "familyChecks", fn := fun _ => fun
  | [d] => { results := [.lit (.bool false)], args := [d] }
  | _ => none }
def FamilyChecksWrongFalsely : Prop := familyChecksRow.holds Tryz.pinned (OpenSpec.ofChange familyChecksWrong)

/-- 'papermilllaw42.FamilySizes': WHATEVER THE INPUT: true; the input reads as it did. -/
def familySizesSpec : ChangeSpec := { name := "familySizes", fn := fun _ => fun
  | [d1, d2] => { results := [.lit (.bool true)], args := [d1, d2] }
  | _ => none }
def familySizesRow : OpenClaim := { program := "ytbenjjjcafbmmaagreat", sum := "f78b2401f3befe357ce020f9b22251088d3f7285cf55c8b5476967744b56396a", func := "papermill/papermilllaw42.FamilySizes", spec := "familySizes", unfollowed := true, recurses := true, apart := false }
def FamilySizesSaid : Prop := familySizesRow.holds Tryz.pinned (OpenSpec.ofChange familySizesSpec)

/-- ITS FALSE NEIGHBOUR: 'it returns false'. Refute it at one input. -/
def familySizesWrong : ChangeSpec := { name := "familySizes", fn := fun _ => fun
  | [d1, d2] => { results := [.lit (.bool false)], args := [d1, d2] }
  | _ => none }
def FamilySizesWrongFalsely : Prop := familySizesRow.holds Tryz.pinned (OpenSpec.ofChange familySizesWrong)

/-- 'papermilllaw42.FamilyFinds': WHATEVER THE INPUT: true; the input reads as it did. -/
def familyFindsSpec : ChangeSpec := { name := "familyFinds", fn := fun _ => fun
  | [d1, d2, d3] => { results := [.lit (.bool true)], args := [d1, d2, d3] }
  | _ => none }
def familyFindsRow : OpenClaim := { program := "ytbenjjjcafbmmaagreat", sum := "f78b2401f3befe357ce020f9b22251088d3f7285cf55c8b5476967744b56396a", func := "papermill/papermilllaw42.FamilyFinds", spec := "familyFinds", unfollowed := true, recurses := true, apart := false }
def FamilyFindsSaid : Prop := familyFindsRow.holds Tryz.pinned (OpenSpec.ofChange familyFindsSpec)

/-- ITS FALSE NEIGHBOUR: 'it returns false'. Refute it at one input. -/
def familyFindsWrong : ChangeSpec := { name := "familyFinds", fn := fun _ => fun
  | [d1, d2, d3] => { results := [.lit (.bool false)], args := [d1, d2, d3] }
  | _ => none }
def FamilyFindsWrongFalsely : Prop := familyFindsRow.holds Tryz.pinned (OpenSpec.ofChange familyFindsWrong)

/- THE SECOND FORM. 'bulk': how many values and letters a reading holds, each counted each time it is reached (what is shared counts as often as it is met; a slice's spare places count too). A statement '..UptoSaid' is the law's where the arguments, and the package variables that the reading takes, are together of bulk at most 1048576: NARROWER than '..Said'. Prove '..Said' where nothing that the law and all that it calls make is longer than what came in: it says more and counts as full. Else prove '..UptoSaid'. A law counts once. -/
mutual
def uptoBulk {H : Type} : DataW H → Nat
  | .lit (.string bytes) => bytes.length + 1
  | .lit _ => 1
  | .nil => 1
  | .ptr d => uptoBulk d + 1
  | .slice elems spare => uptoBulkAll elems + uptoBulkAll spare + 1
  | .agg parts => uptoBulkAll parts + 1
  | .iface _ d => uptoBulk d + 1
  | .map entries => uptoBulkEntries entries + 1
  | .held _ => 1
def uptoBulkAll {H : Type} : List (DataW H) → Nat
  | [] => 0
  | d :: r => uptoBulk d + uptoBulkAll r
def uptoBulkEntries {H : Type} : List (Lit × DataW H) → Nat
  | [] => 0
  | x :: r => uptoBulkEntry x + uptoBulkEntries r
def uptoBulkEntry {H : Type} : Lit × DataW H → Nat
  | (.string bytes, d) => bytes.length + uptoBulk d + 1
  | (_, d) => uptoBulk d + 1
 end
def uptoSmall : (H : Type) → List (DataW H) → Bool := fun _ ds => decide (uptoBulkAll ds ≤ 1048576)
def OpenSpec.upto (s : _root_.Go.ChangeSpec) : _root_.Go.OpenSpec := { _root_.Go.OpenSpec.ofChange s with cond := some uptoSmall }

/-- 'papermilllaw42.FamilyPoints', WHERE WHAT IT READS IS OF BULK AT MOST 1048576: true; the input reads as it did. -/
def familyPointsUptoRow : OpenClaim := { program := "ytbenjjjcafbmmaagreat", sum := "f78b2401f3befe357ce020f9b22251088d3f7285cf55c8b5476967744b56396a", func := "papermill/papermilllaw42.FamilyPoints", spec := "familyPoints", unfollowed := true, recurses := true, apart := false, narrowed := true }
def FamilyPointsUptoSaid : Prop := familyPointsUptoRow.holds Tryz.pinned (OpenSpec.upto familyPointsSpec)

/-- 'papermilllaw42.FamilyCuts', WHERE WHAT IT READS IS OF BULK AT MOST 1048576: true; the input reads as it did. -/
def familyCutsUptoRow : OpenClaim := { program := "ytbenjjjcafbmmaagreat", sum := "f78b2401f3befe357ce020f9b22251088d3f7285cf55c8b5476967744b56396a", func := "papermill/papermilllaw42.FamilyCuts", spec := "familyCuts", unfollowed := true, recurses := true, apart := false, narrowed := true }
def FamilyCutsUptoSaid : Prop := familyCutsUptoRow.holds Tryz.pinned (OpenSpec.upto familyCutsSpec)

/-- 'papermilllaw42.FamilyChecks', WHERE WHAT IT READS IS OF BULK AT MOST 1048576: true; the input reads as it did. -/
def familyChecksUptoRow : OpenClaim := { program := "ytbenjjjcafbmmaagreat", sum := "f78b2401f3befe357ce020f9b22251088d3f7285cf55c8b5476967744b56396a", func := "papermill/papermilllaw42.FamilyChecks", spec := "familyChecks", unfollowed := true, recurses := true, apart := false, narrowed := true }
def FamilyChecksUptoSaid : Prop := familyChecksUptoRow.holds Tryz.pinned (OpenSpec.upto familyChecksSpec)

/-- 'papermilllaw42.FamilySizes', WHERE WHAT IT READS IS OF BULK AT MOST 1048576: true; the input reads as it did. -/
def familySizesUptoRow : OpenClaim := { program := "ytbenjjjcafbmmaagreat", sum := "f78b2401f3befe357ce020f9b22251088d3f7285cf55c8b5476967744b56396a", func := "papermill/papermilllaw42.FamilySizes", spec := "familySizes", unfollowed := true, recurses := true, apart := false, narrowed := true }
def FamilySizesUptoSaid : Prop := familySizesUptoRow.holds Tryz.pinned (OpenSpec.upto familySizesSpec)

/-- 'papermilllaw42.FamilyFinds', WHERE WHAT IT READS IS OF BULK AT MOST 1048576: true; the input reads as it did. -/
def familyFindsUptoRow : OpenClaim := { program := "ytbenjjjcafbmmaagreat", sum := "f78b2401f3befe357ce020f9b22251088d3f7285cf55c8b5476967744b56396a", func := "papermill/papermilllaw42.FamilyFinds", spec := "familyFinds", unfollowed := true, recurses := true, apart := false, narrowed := true }
def FamilyFindsUptoSaid : Prop := familyFindsUptoRow.holds Tryz.pinned (OpenSpec.upto familyFindsSpec)

end Rows
end Go.Proofs.YtbenjjjcafbmmaaGreat
