/-
  No cell of these rows narrows 'for every input' (looked for: loops, veiled, ifaces, maps, wideKeys, modest, calm, conditions, laid).
  DERIVED. THE GIVEN ROWS OF THIS SEAT. 3 by the template 'for every input the law returns true; each argument reads behind the call as it read before'; 0 by the template 'total and deterministic' (their statements: YtbenjjjcafbmmaaTotals.lean).
  GIVEN WITH THE SEED: the statements are not yours to turn. If you find one false, say at which input.
  Laid BY PROGRAM, IN A SANDBOX (cutbox-rows.mjs): the forced cells as the released guide's own fill.sh prints them over the translation 96ebe5d0c9c1f6d1… (all of the seat's roots in one cut). By AI agents, Wed Nov 11 2026. No macro, syntax, notation, axiom, sorry.
-/
import Derived.Test.YtbenjjjcafbmmaaChecked
import GoSem.Claim
import GoSem.ClaimJoined
import GoSem.ClaimMapViews
import Derived.JoinedTies
import Derived.KernelRfl
namespace Go.Proofs.Ytbenjjjcafbmmaa
/- THE CELL 'sum', in the pinned program and in every row, IS THE sha256 OF THE DUMP (.gsa) THAT YtbenjjjcafbmmaaProg.lean LOADS. Nothing in Lean hashes anything: it is a label: what it is worth is what the hold of that sum in a sandbox is worth. -/
noncomputable def Try.pinned : Pinned := { name := "ytbenjjjcafbmmaa", sum := "96ebe5d0c9c1f6d1edc375a20b297b8e1597968d4ccd2214a1d76f3b2c325320", checked := Try.checked }
namespace Rows
def none {H : Type} : Left H := { results := [], args := [] }

/-- 'papermilllaw42.FamilyComposed': WHATEVER THE INPUT: true; the input reads as it did. -/
def familyComposedSpec : ChangeSpec := { name := "familyComposed", fn := fun _ => fun
  | [d1, d2] => { results := [.lit (.bool true)], args := [d1, d2] }
  | _ => none }
def familyComposedRow : OpenClaim := { program := "ytbenjjjcafbmmaa", sum := "96ebe5d0c9c1f6d1edc375a20b297b8e1597968d4ccd2214a1d76f3b2c325320", func := "papermill/papermilllaw42.FamilyComposed", spec := "familyComposed", unfollowed := true, recurses := true, apart := false }
def FamilyComposedSaid : Prop := familyComposedRow.holds Try.pinned (OpenSpec.ofChange familyComposedSpec)

/-- ITS FALSE NEIGHBOUR: 'it returns false'. Refute it at one input. -/
def familyComposedWrong : ChangeSpec := { name := "familyComposed", fn := fun _ => fun
  | [d1, d2] => { results := [.lit (.bool false)], args := [d1, d2] }
  | _ => none }
def FamilyComposedWrongFalsely : Prop := familyComposedRow.holds Try.pinned (OpenSpec.ofChange familyComposedWrong)

/-- 'papermilllaw42.FamilyAreas': WHATEVER THE INPUT: true; the input reads as it did. -/
def familyAreasSpec : ChangeSpec := { name := "familyAreas", fn := fun _ => fun
  | [d] => { results := [.lit (.bool true)], args := [d] }
  | _ => none }
def familyAreasRow : OpenClaim := { program := "ytbenjjjcafbmmaa", sum := "96ebe5d0c9c1f6d1edc375a20b297b8e1597968d4ccd2214a1d76f3b2c325320", func := "papermill/papermilllaw42.FamilyAreas", spec := "familyAreas", unfollowed := true, recurses := true, apart := false }
def FamilyAreasSaid : Prop := familyAreasRow.holds Try.pinned (OpenSpec.ofChange familyAreasSpec)

/-- ITS FALSE NEIGHBOUR: 'it returns false'. Refute it at one input. -/
def familyAreasWrong : ChangeSpec := { name := "familyAreas", fn := fun _ => fun
  | [d] => { results := [.lit (.bool false)], args := [d] }
  | _ => none }
def FamilyAreasWrongFalsely : Prop := familyAreasRow.holds Try.pinned (OpenSpec.ofChange familyAreasWrong)

/-- 'papermilllaw42.FamilyOnce': WHATEVER THE INPUT: true; the input reads as it did. -/
def familyOnceSpec : ChangeSpec := { name := "familyOnce", fn := fun _ => fun
  | [d1, d2, d3] => { results := [.lit (.bool true)], args := [d1, d2, d3] }
  | _ => none }
def familyOnceRow : OpenClaim := { program := "ytbenjjjcafbmmaa", sum := "96ebe5d0c9c1f6d1edc375a20b297b8e1597968d4ccd2214a1d76f3b2c325320", func := "papermill/papermilllaw42.FamilyOnce", spec := "familyOnce", unfollowed := true, recurses := true, apart := false }
def FamilyOnceSaid : Prop := familyOnceRow.holds Try.pinned (OpenSpec.ofChange familyOnceSpec)

/-- ITS FALSE NEIGHBOUR: 'it returns false'. Refute it at one input. -/
def familyOnceWrong : ChangeSpec := { name := "familyOnce", fn := fun _ => fun
  | [d1, d2, d3] => { results := [.lit (.bool false)], args := [d1, d2, d3] }
  | _ => none }
def FamilyOnceWrongFalsely : Prop := familyOnceRow.holds Try.pinned (OpenSpec.ofChange familyOnceWrong)

/- THE SECOND FORM. 'bulk': how many values and letters a reading holds, each counted each time it is reached (what is shared counts as often as it is met; a slice's spare places count too). A statement '..UptoSaid' is the law's where the arguments, and the package variables that the reading takes, are together of bulk at most 1048576: NARROWER than '..Said'. Prove '..Said' where nothing that the law and all that it calls make is longer than what came in: it says more and counts as full. Else prove '..UptoSaid'. A law counts once. -/
mutual
def uptoBulk {H : Type} : DataW H → Nat
  | .lit (.string bytes) => bytes.length + 1
  | .lit _ => 1
  | .nil => 1
  | .ptr d => uptoBulk d + 1
  | .slice elems spare => uptoBulkAll elems + uptoBulkAll spare + 1
  | .agg parts => uptoBulkAll parts + 1
  | .iface _ d => uptoBulk d + 1
  | .map entries => uptoBulkEntries entries + 1
  | .held _ => 1
def uptoBulkAll {H : Type} : List (DataW H) → Nat
  | [] => 0
  | d :: r => uptoBulk d + uptoBulkAll r
def uptoBulkEntries {H : Type} : List (Lit × DataW H) → Nat
  | [] => 0
  | x :: r => uptoBulkEntry x + uptoBulkEntries r
def uptoBulkEntry {H : Type} : Lit × DataW H → Nat
  | (.string bytes, d) => bytes.length + uptoBulk d + 1
  | (_, d) => uptoBulk d + 1
 end
def uptoSmall : (H : Type) → List (DataW H) → Bool := fun _ ds => decide (uptoBulkAll ds ≤ 1048576)
def OpenSpec.upto (s : _root_.Go.ChangeSpec) : _root_.Go.OpenSpec := { _root_.Go.OpenSpec.ofChange s with cond := some uptoSmall }

/-- 'papermilllaw42.FamilyComposed', WHERE WHAT IT READS IS OF BULK AT MOST 1048576: true; the input reads as it did. -/
def familyComposedUptoRow : OpenClaim := { program := "ytbenjjjcafbmmaa", sum := "96ebe5d0c9c1f6d1edc375a20b297b8e1597968d4ccd2214a1d76f3b2c325320", func := "papermill/papermilllaw42.FamilyComposed", spec := "familyComposed", unfollowed := true, recurses := true, apart := false, narrowed := true }
def FamilyComposedUptoSaid : Prop := familyComposedUptoRow.holds Try.pinned (OpenSpec.upto familyComposedSpec)

/-- 'papermilllaw42.FamilyAreas', WHERE WHAT IT READS IS OF BULK AT MOST 1048576: true; the input reads as it did. -/
def familyAreasUptoRow : OpenClaim := { program := "ytbenjjjcafbmmaa", sum := "96ebe5d0c9c1f6d1edc375a20b297b8e1597968d4ccd2214a1d76f3b2c325320", func := "papermill/papermilllaw42.FamilyAreas", spec := "familyAreas", unfollowed := true, recurses := true, apart := false, narrowed := true }
def FamilyAreasUptoSaid : Prop := familyAreasUptoRow.holds Try.pinned (OpenSpec.upto familyAreasSpec)

/-- 'papermilllaw42.FamilyOnce', WHERE WHAT IT READS IS OF BULK AT MOST 1048576: true; the input reads as it did. -/
def familyOnceUptoRow : OpenClaim := { program := "ytbenjjjcafbmmaa", sum := "96ebe5d0c9c1f6d1edc375a20b297b8e1597968d4ccd2214a1d76f3b2c325320", func := "papermill/papermilllaw42.FamilyOnce", spec := "familyOnce", unfollowed := true, recurses := true, apart := false, narrowed := true }
def FamilyOnceUptoSaid : Prop := familyOnceUptoRow.holds Try.pinned (OpenSpec.upto familyOnceSpec)

end Rows
end Go.Proofs.Ytbenjjjcafbmmaa
