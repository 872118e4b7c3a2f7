/-
  DERIVED. GIVEN WITH THE SEED: THE CARDS: each row of YticaonjigdicfaaDoorRows.lean that lists a variable, with what it lists TIED to the program's text (the seventh form; the later family's looks); each row that meets fmt, with fmt's text TOLD by the authors' own Lean function (tested against real Go, not proved from fmt's source: count such statements apart). THE CARD IS WHAT COUNTS. Prove the row's statement (the work); the ties are given (YticaonjigdicfaaDoorTie.lean); close each card by the builder's one call (the guide's Derived/Test/ToyasCard.lean, 'card_holds'). Laid BY PROGRAM, IN A SANDBOX (cutbox-door.mjs). By AI agents, Wed Nov 11 2026. No macro, syntax, notation, axiom, sorry.
-/
import Derived.Test.YticaonjigdicfaaDoorRows
import GoSem.ClaimSeven
namespace Go.Proofs.YticaonjigdicfaaDoor
namespace Rows

/-- THE TIED CARD OF 'papermilllaw05.ClockShifts'. -/
def clockShiftsCard : Claim7 := { stood := { row := clockShiftsRow, standIns := [], harness := (true, "c1f836a17c04046186eedc38bf3d931e70de143001f0cbfb9fb5ada6f5fc6ed0"), looks := false }, kinds := [], alts := [], laidByText := true, laidKinds := [.data, .data, .data], laidTests := true, laidLooks := .later }
def ClockShiftsCardSaid : Prop := Claim7.holds Tryd.pinned (.plain (OpenSpec.ofChange clockShiftsSpec)) clockShiftsCard

/-- THE TIED CARD OF 'papermilllaw05.ClockCrews'. -/
def clockCrewsCard : Claim7 := { stood := { row := clockCrewsRow, standIns := [], harness := (true, "c1f836a17c04046186eedc38bf3d931e70de143001f0cbfb9fb5ada6f5fc6ed0"), looks := false }, kinds := [], alts := [], laidByText := true, laidKinds := [.data, .data, .data], laidTests := true, laidLooks := .later }
def ClockCrewsCardSaid : Prop := Claim7.holds Tryd.pinned (.plain (OpenSpec.ofChange clockCrewsSpec)) clockCrewsCard

/-- THE TIED CARD OF 'papermilllaw05.ClockNexts'. -/
def clockNextsCard : Claim7 := { stood := { row := clockNextsRow, standIns := [], harness := (true, "c1f836a17c04046186eedc38bf3d931e70de143001f0cbfb9fb5ada6f5fc6ed0"), looks := false }, kinds := [], alts := [], laidByText := true, laidKinds := [.data, .data, .data], laidTests := true, laidLooks := .later }
def ClockNextsCardSaid : Prop := Claim7.holds Tryd.pinned (.plain (OpenSpec.ofChange clockNextsSpec)) clockNextsCard

/-- THE TIED CARD OF 'papermilllaw05.ClockParts'. -/
def clockPartsCard : Claim7 := { stood := { row := clockPartsRow, standIns := [], harness := (true, "c1f836a17c04046186eedc38bf3d931e70de143001f0cbfb9fb5ada6f5fc6ed0"), looks := false }, kinds := [], alts := [], laidByText := true, laidKinds := [.data, .data, .data], laidTests := true, laidLooks := .later }
def ClockPartsCardSaid : Prop := Claim7.holds Tryd.pinned (.plain (OpenSpec.ofChange clockPartsSpec)) clockPartsCard

/-- THE TIED CARD OF 'papermilllaw05.ClockSteps'. -/
def clockStepsCard : Claim7 := { stood := { row := clockStepsRow, standIns := [], harness := (true, "c1f836a17c04046186eedc38bf3d931e70de143001f0cbfb9fb5ada6f5fc6ed0"), looks := false }, kinds := [], alts := [], laidByText := true, laidKinds := [.data, .data, .data], laidTests := true, laidLooks := .later }
def ClockStepsCardSaid : Prop := Claim7.holds Tryd.pinned (.plain (OpenSpec.ofChange clockStepsSpec)) clockStepsCard

/-- THE TIED CARD OF 'papermilllaw05.ClockAdds'. -/
def clockAddsCard : Claim7 := { stood := { row := clockAddsRow, standIns := [], harness := (true, "c1f836a17c04046186eedc38bf3d931e70de143001f0cbfb9fb5ada6f5fc6ed0"), looks := false }, kinds := [], alts := [], laidByText := true, laidKinds := [.data, .data, .data], laidTests := true, laidLooks := .later }
def ClockAddsCardSaid : Prop := Claim7.holds Tryd.pinned (.plain (OpenSpec.ofChange clockAddsSpec)) clockAddsCard

/-- THE TIED CARD OF 'papermilllaw05.ClockForms'. -/
def clockFormsCard : Claim7 := { stood := { row := clockFormsRow, standIns := [], harness := (true, "c1f836a17c04046186eedc38bf3d931e70de143001f0cbfb9fb5ada6f5fc6ed0"), looks := false }, kinds := [], alts := [], laidByText := true, laidKinds := [.data, .data, .data], laidTests := true, laidLooks := .later }
def ClockFormsCardSaid : Prop := Claim7.holds Tryd.pinned (.plain (OpenSpec.ofChange clockFormsSpec)) clockFormsCard

/-- THE TIED CARD OF 'papermilllaw05.ClockRoundTrip'. -/
def clockRoundTripCard : Claim7 := { stood := { row := clockRoundTripRow, standIns := [], harness := (true, "c1f836a17c04046186eedc38bf3d931e70de143001f0cbfb9fb5ada6f5fc6ed0"), looks := false }, kinds := [], alts := [], laidByText := true, laidKinds := [.data, .data, .data], laidTests := true, laidLooks := .later }
def ClockRoundTripCardSaid : Prop := Claim7.holds Tryd.pinned (.plain (OpenSpec.ofChange clockRoundTripSpec)) clockRoundTripCard

/-- THE SECOND FORM's CARD OF 'papermilllaw05.ClockShifts'. -/
def clockShiftsUptoCard : Claim7 := { stood := { row := clockShiftsUptoRow, standIns := [], harness := (true, "c1f836a17c04046186eedc38bf3d931e70de143001f0cbfb9fb5ada6f5fc6ed0"), looks := false }, kinds := [], alts := [], laidByText := true, laidKinds := [.data, .data, .data], laidTests := true, laidLooks := .later }
def ClockShiftsUptoCardSaid : Prop := Claim7.holds Tryd.pinned (.plain (OpenSpec.upto clockShiftsSpec)) clockShiftsUptoCard

/-- THE SECOND FORM's CARD OF 'papermilllaw05.ClockCrews'. -/
def clockCrewsUptoCard : Claim7 := { stood := { row := clockCrewsUptoRow, standIns := [], harness := (true, "c1f836a17c04046186eedc38bf3d931e70de143001f0cbfb9fb5ada6f5fc6ed0"), looks := false }, kinds := [], alts := [], laidByText := true, laidKinds := [.data, .data, .data], laidTests := true, laidLooks := .later }
def ClockCrewsUptoCardSaid : Prop := Claim7.holds Tryd.pinned (.plain (OpenSpec.upto clockCrewsSpec)) clockCrewsUptoCard

/-- THE SECOND FORM's CARD OF 'papermilllaw05.ClockNexts'. -/
def clockNextsUptoCard : Claim7 := { stood := { row := clockNextsUptoRow, standIns := [], harness := (true, "c1f836a17c04046186eedc38bf3d931e70de143001f0cbfb9fb5ada6f5fc6ed0"), looks := false }, kinds := [], alts := [], laidByText := true, laidKinds := [.data, .data, .data], laidTests := true, laidLooks := .later }
def ClockNextsUptoCardSaid : Prop := Claim7.holds Tryd.pinned (.plain (OpenSpec.upto clockNextsSpec)) clockNextsUptoCard

/-- THE SECOND FORM's CARD OF 'papermilllaw05.ClockParts'. -/
def clockPartsUptoCard : Claim7 := { stood := { row := clockPartsUptoRow, standIns := [], harness := (true, "c1f836a17c04046186eedc38bf3d931e70de143001f0cbfb9fb5ada6f5fc6ed0"), looks := false }, kinds := [], alts := [], laidByText := true, laidKinds := [.data, .data, .data], laidTests := true, laidLooks := .later }
def ClockPartsUptoCardSaid : Prop := Claim7.holds Tryd.pinned (.plain (OpenSpec.upto clockPartsSpec)) clockPartsUptoCard

/-- THE SECOND FORM's CARD OF 'papermilllaw05.ClockSteps'. -/
def clockStepsUptoCard : Claim7 := { stood := { row := clockStepsUptoRow, standIns := [], harness := (true, "c1f836a17c04046186eedc38bf3d931e70de143001f0cbfb9fb5ada6f5fc6ed0"), looks := false }, kinds := [], alts := [], laidByText := true, laidKinds := [.data, .data, .data], laidTests := true, laidLooks := .later }
def ClockStepsUptoCardSaid : Prop := Claim7.holds Tryd.pinned (.plain (OpenSpec.upto clockStepsSpec)) clockStepsUptoCard

/-- THE SECOND FORM's CARD OF 'papermilllaw05.ClockAdds'. -/
def clockAddsUptoCard : Claim7 := { stood := { row := clockAddsUptoRow, standIns := [], harness := (true, "c1f836a17c04046186eedc38bf3d931e70de143001f0cbfb9fb5ada6f5fc6ed0"), looks := false }, kinds := [], alts := [], laidByText := true, laidKinds := [.data, .data, .data], laidTests := true, laidLooks := .later }
def ClockAddsUptoCardSaid : Prop := Claim7.holds Tryd.pinned (.plain (OpenSpec.upto clockAddsSpec)) clockAddsUptoCard

/-- THE SECOND FORM's CARD OF 'papermilllaw05.ClockForms'. -/
def clockFormsUptoCard : Claim7 := { stood := { row := clockFormsUptoRow, standIns := [], harness := (true, "c1f836a17c04046186eedc38bf3d931e70de143001f0cbfb9fb5ada6f5fc6ed0"), looks := false }, kinds := [], alts := [], laidByText := true, laidKinds := [.data, .data, .data], laidTests := true, laidLooks := .later }
def ClockFormsUptoCardSaid : Prop := Claim7.holds Tryd.pinned (.plain (OpenSpec.upto clockFormsSpec)) clockFormsUptoCard

/-- THE SECOND FORM's CARD OF 'papermilllaw05.ClockRoundTrip'. -/
def clockRoundTripUptoCard : Claim7 := { stood := { row := clockRoundTripUptoRow, standIns := [], harness := (true, "c1f836a17c04046186eedc38bf3d931e70de143001f0cbfb9fb5ada6f5fc6ed0"), looks := false }, kinds := [], alts := [], laidByText := true, laidKinds := [.data, .data, .data], laidTests := true, laidLooks := .later }
def ClockRoundTripUptoCardSaid : Prop := Claim7.holds Tryd.pinned (.plain (OpenSpec.upto clockRoundTripSpec)) clockRoundTripUptoCard
end Rows
end Go.Proofs.YticaonjigdicfaaDoor
