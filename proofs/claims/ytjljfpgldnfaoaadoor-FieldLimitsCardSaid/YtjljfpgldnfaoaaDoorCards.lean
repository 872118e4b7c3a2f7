/-
  DERIVED. GIVEN WITH THE SEED: THE CARDS: each row of YtjljfpgldnfaoaaDoorRows.lean that lists a variable, with what it lists TIED to the program's text (the seventh form; the later family's looks); each row that meets fmt, with fmt's text TOLD by the authors' own Lean function (tested against real Go, not proved from fmt's source: count such statements apart). THE CARD IS WHAT COUNTS. Prove the row's statement (the work); the ties are given (YtjljfpgldnfaoaaDoorTie.lean); close each card by the builder's one call (the guide's Derived/Test/ToyasCard.lean, 'card_holds'). Laid BY PROGRAM, IN A SANDBOX (cutbox-door.mjs). By AI agents, Wed Nov 11 2026. No macro, syntax, notation, axiom, sorry.
-/
import Derived.Test.YtjljfpgldnfaoaaDoorRows
import GoSem.ClaimSeven
namespace Go.Proofs.YtjljfpgldnfaoaaDoor
namespace Rows

/-- THE TIED CARD OF 'papermilllaw07.FieldJoins'. -/
def fieldJoinsCard : Claim7 := { stood := { row := fieldJoinsRow, standIns := [], harness := (true, "a97c1ccfdd0e8a45c536360c0c6eed9f1920b2b02d3c816b4f678b10ad7a34eb"), looks := false }, kinds := [], alts := [], laidByText := true, laidKinds := [.data, .pinned], laidTests := true, laidLooks := .later }
def FieldJoinsCardSaid : Prop := Claim7.holds Tryd.pinned (.plain (OpenSpec.ofChange fieldJoinsSpec)) fieldJoinsCard

/-- THE TIED CARD OF 'papermilllaw07.FieldSplits'. -/
def fieldSplitsCard : Claim7 := { stood := { row := fieldSplitsRow, standIns := [], harness := (true, "a97c1ccfdd0e8a45c536360c0c6eed9f1920b2b02d3c816b4f678b10ad7a34eb"), looks := false }, kinds := [], alts := [], laidByText := true, laidKinds := [.data, .pinned], laidTests := true, laidLooks := .later }
def FieldSplitsCardSaid : Prop := Claim7.holds Tryd.pinned (.plain (OpenSpec.ofChange fieldSplitsSpec)) fieldSplitsCard

/-- THE TIED CARD OF 'papermilllaw07.FieldLines'. -/
def fieldLinesCard : Claim7 := { stood := { row := fieldLinesRow, standIns := [], harness := (true, "a97c1ccfdd0e8a45c536360c0c6eed9f1920b2b02d3c816b4f678b10ad7a34eb"), looks := false }, kinds := [], alts := [], laidByText := true, laidKinds := [.data, .pinned], laidTests := true, laidLooks := .later }
def FieldLinesCardSaid : Prop := Claim7.holds Tryd.pinned (.plain (OpenSpec.ofChange fieldLinesSpec)) fieldLinesCard

/-- THE TIED CARD OF 'papermilllaw07.FieldNumbers'. -/
def fieldNumbersCard : Claim7 := { stood := { row := fieldNumbersRow, standIns := [], harness := (true, "a97c1ccfdd0e8a45c536360c0c6eed9f1920b2b02d3c816b4f678b10ad7a34eb"), looks := false }, kinds := [], alts := [], laidByText := true, laidKinds := [.data, .pinned], laidTests := true, laidLooks := .later }
def FieldNumbersCardSaid : Prop := Claim7.holds Tryd.pinned (.plain (OpenSpec.ofChange fieldNumbersSpec)) fieldNumbersCard

/-- THE TIED CARD OF 'papermilllaw07.FieldRoundTrip'. -/
def fieldRoundTripCard : Claim7 := { stood := { row := fieldRoundTripRow, standIns := [], harness := (true, "a97c1ccfdd0e8a45c536360c0c6eed9f1920b2b02d3c816b4f678b10ad7a34eb"), looks := false }, kinds := [], alts := [], laidByText := true, laidKinds := [.data, .pinned], laidTests := true, laidLooks := .later }
def FieldRoundTripCardSaid : Prop := Claim7.holds Tryd.pinned (.plain (OpenSpec.ofChange fieldRoundTripSpec)) fieldRoundTripCard

/-- THE TIED CARD OF 'papermilllaw07.FieldAppends'. -/
def fieldAppendsCard : Claim7 := { stood := { row := fieldAppendsRow, standIns := [], harness := (true, "a97c1ccfdd0e8a45c536360c0c6eed9f1920b2b02d3c816b4f678b10ad7a34eb"), looks := false }, kinds := [], alts := [], laidByText := true, laidKinds := [.data, .pinned], laidTests := true, laidLooks := .later }
def FieldAppendsCardSaid : Prop := Claim7.holds Tryd.pinned (.plain (OpenSpec.ofChange fieldAppendsSpec)) fieldAppendsCard

/-- THE TIED CARD OF 'papermilllaw07.FieldText'. -/
def fieldTextCard : Claim7 := { stood := { row := fieldTextRow, standIns := [], harness := (true, "a97c1ccfdd0e8a45c536360c0c6eed9f1920b2b02d3c816b4f678b10ad7a34eb"), looks := false }, kinds := [], alts := [], laidByText := true, laidKinds := [.data, .pinned], laidTests := true, laidLooks := .later }
def FieldTextCardSaid : Prop := Claim7.holds Tryd.pinned (.plain (OpenSpec.ofChange fieldTextSpec)) fieldTextCard

/-- THE TIED CARD OF 'papermilllaw07.FieldLimits'. -/
def fieldLimitsCard : Claim7 := { stood := { row := fieldLimitsRow, standIns := [], harness := (true, "a97c1ccfdd0e8a45c536360c0c6eed9f1920b2b02d3c816b4f678b10ad7a34eb"), looks := false }, kinds := [], alts := [], laidByText := true, laidKinds := [.data, .pinned], laidTests := true, laidLooks := .later }
def FieldLimitsCardSaid : Prop := Claim7.holds Tryd.pinned (.plain (OpenSpec.ofChange fieldLimitsSpec)) fieldLimitsCard

/-- THE TIED CARD OF 'papermilllaw07.FieldDigits'. -/
def fieldDigitsCard : Claim7 := { stood := { row := fieldDigitsRow, standIns := [], harness := (true, "a97c1ccfdd0e8a45c536360c0c6eed9f1920b2b02d3c816b4f678b10ad7a34eb"), looks := false }, kinds := [], alts := [], laidByText := true, laidKinds := [.data, .data, .data, .data, .pinned], laidTests := true, laidLooks := .later }
def FieldDigitsCardSaid : Prop := Claim7.holds Tryd.pinned (.plain (OpenSpec.ofChange fieldDigitsSpec)) fieldDigitsCard

/-- THE SECOND FORM's CARD OF 'papermilllaw07.FieldJoins'. -/
def fieldJoinsUptoCard : Claim7 := { stood := { row := fieldJoinsUptoRow, standIns := [], harness := (true, "a97c1ccfdd0e8a45c536360c0c6eed9f1920b2b02d3c816b4f678b10ad7a34eb"), looks := false }, kinds := [], alts := [], laidByText := true, laidKinds := [.data, .pinned], laidTests := true, laidLooks := .later }
def FieldJoinsUptoCardSaid : Prop := Claim7.holds Tryd.pinned (.plain (OpenSpec.upto fieldJoinsSpec)) fieldJoinsUptoCard

/-- THE SECOND FORM's CARD OF 'papermilllaw07.FieldSplits'. -/
def fieldSplitsUptoCard : Claim7 := { stood := { row := fieldSplitsUptoRow, standIns := [], harness := (true, "a97c1ccfdd0e8a45c536360c0c6eed9f1920b2b02d3c816b4f678b10ad7a34eb"), looks := false }, kinds := [], alts := [], laidByText := true, laidKinds := [.data, .pinned], laidTests := true, laidLooks := .later }
def FieldSplitsUptoCardSaid : Prop := Claim7.holds Tryd.pinned (.plain (OpenSpec.upto fieldSplitsSpec)) fieldSplitsUptoCard

/-- THE SECOND FORM's CARD OF 'papermilllaw07.FieldLines'. -/
def fieldLinesUptoCard : Claim7 := { stood := { row := fieldLinesUptoRow, standIns := [], harness := (true, "a97c1ccfdd0e8a45c536360c0c6eed9f1920b2b02d3c816b4f678b10ad7a34eb"), looks := false }, kinds := [], alts := [], laidByText := true, laidKinds := [.data, .pinned], laidTests := true, laidLooks := .later }
def FieldLinesUptoCardSaid : Prop := Claim7.holds Tryd.pinned (.plain (OpenSpec.upto fieldLinesSpec)) fieldLinesUptoCard

/-- THE SECOND FORM's CARD OF 'papermilllaw07.FieldNumbers'. -/
def fieldNumbersUptoCard : Claim7 := { stood := { row := fieldNumbersUptoRow, standIns := [], harness := (true, "a97c1ccfdd0e8a45c536360c0c6eed9f1920b2b02d3c816b4f678b10ad7a34eb"), looks := false }, kinds := [], alts := [], laidByText := true, laidKinds := [.data, .pinned], laidTests := true, laidLooks := .later }
def FieldNumbersUptoCardSaid : Prop := Claim7.holds Tryd.pinned (.plain (OpenSpec.upto fieldNumbersSpec)) fieldNumbersUptoCard

/-- THE SECOND FORM's CARD OF 'papermilllaw07.FieldRoundTrip'. -/
def fieldRoundTripUptoCard : Claim7 := { stood := { row := fieldRoundTripUptoRow, standIns := [], harness := (true, "a97c1ccfdd0e8a45c536360c0c6eed9f1920b2b02d3c816b4f678b10ad7a34eb"), looks := false }, kinds := [], alts := [], laidByText := true, laidKinds := [.data, .pinned], laidTests := true, laidLooks := .later }
def FieldRoundTripUptoCardSaid : Prop := Claim7.holds Tryd.pinned (.plain (OpenSpec.upto fieldRoundTripSpec)) fieldRoundTripUptoCard

/-- THE SECOND FORM's CARD OF 'papermilllaw07.FieldAppends'. -/
def fieldAppendsUptoCard : Claim7 := { stood := { row := fieldAppendsUptoRow, standIns := [], harness := (true, "a97c1ccfdd0e8a45c536360c0c6eed9f1920b2b02d3c816b4f678b10ad7a34eb"), looks := false }, kinds := [], alts := [], laidByText := true, laidKinds := [.data, .pinned], laidTests := true, laidLooks := .later }
def FieldAppendsUptoCardSaid : Prop := Claim7.holds Tryd.pinned (.plain (OpenSpec.upto fieldAppendsSpec)) fieldAppendsUptoCard

/-- THE SECOND FORM's CARD OF 'papermilllaw07.FieldText'. -/
def fieldTextUptoCard : Claim7 := { stood := { row := fieldTextUptoRow, standIns := [], harness := (true, "a97c1ccfdd0e8a45c536360c0c6eed9f1920b2b02d3c816b4f678b10ad7a34eb"), looks := false }, kinds := [], alts := [], laidByText := true, laidKinds := [.data, .pinned], laidTests := true, laidLooks := .later }
def FieldTextUptoCardSaid : Prop := Claim7.holds Tryd.pinned (.plain (OpenSpec.upto fieldTextSpec)) fieldTextUptoCard

/-- THE SECOND FORM's CARD OF 'papermilllaw07.FieldLimits'. -/
def fieldLimitsUptoCard : Claim7 := { stood := { row := fieldLimitsUptoRow, standIns := [], harness := (true, "a97c1ccfdd0e8a45c536360c0c6eed9f1920b2b02d3c816b4f678b10ad7a34eb"), looks := false }, kinds := [], alts := [], laidByText := true, laidKinds := [.data, .pinned], laidTests := true, laidLooks := .later }
def FieldLimitsUptoCardSaid : Prop := Claim7.holds Tryd.pinned (.plain (OpenSpec.upto fieldLimitsSpec)) fieldLimitsUptoCard

/-- THE SECOND FORM's CARD OF 'papermilllaw07.FieldDigits'. -/
def fieldDigitsUptoCard : Claim7 := { stood := { row := fieldDigitsUptoRow, standIns := [], harness := (true, "a97c1ccfdd0e8a45c536360c0c6eed9f1920b2b02d3c816b4f678b10ad7a34eb"), looks := false }, kinds := [], alts := [], laidByText := true, laidKinds := [.data, .data, .data, .data, .pinned], laidTests := true, laidLooks := .later }
def FieldDigitsUptoCardSaid : Prop := Claim7.holds Tryd.pinned (.plain (OpenSpec.upto fieldDigitsSpec)) fieldDigitsUptoCard
end Rows
end Go.Proofs.YtjljfpgldnfaoaaDoor
