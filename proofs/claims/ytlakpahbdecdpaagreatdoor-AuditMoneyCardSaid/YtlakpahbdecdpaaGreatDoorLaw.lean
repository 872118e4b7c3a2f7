/- The law AuditMoneyCard: for every input it returns true, and each argument reads afterwards as it read before. -/
import Derived.Test.YtlakpahbdecdpaaGreatDoorFund
import Derived.Test.YtlakpahbdecdpaaGreatDoorRows
import Derived.Test.YtlakpahbdecdpaaGreatDoorCards
import Derived.Test.YtlakpahbdecdpaaGreatDoorTie
import Derived.JoinedOf
import Derived.ProofKit
import Derived.LaidMore
import Derived.Stop.Joined
import Derived.SevenTiedAt
import Derived.MakeChecks
import Derived.Stop.LaidErr
set_option linter.unusedVariables false
set_option linter.unusedSimpArgs false
set_option linter.unusedSectionVars false
namespace Go.Proofs.YtlakpahbdecdpaaGreatDoor.AuditMoneyLaw
open Go Go.AM Go.Proofs
theorem own : ownKnob Tryz.prog.godebug = none := by kernel_rfl
theorem laidOut : laidOutB Tryz.prog = true := by kernel_rfl
abbrev laid : List (String × DataW Unit) := Rows.auditMoneyRow.laid
theorem door_met (os : Os) (args : Array Value) : laidMetH Tryz.prog laid ((World.doorLaid Tryz.prog 400 os).forCall (fun _ _ => 0) ⟨#[], args, []⟩).memory :=
 laidMetH_of_parts3 (fuel := 8) (laidMet_of_run' 8 (by kernel_rfl) (by kernel_rfl)) (by kernel_rfl) (by kernel_rfl)
abbrev tys : List (Bool × RTy) := [(true, T17)]
theorem main : ∀ xs : qiq tys, WfA tys xs → CC Tryz.prog 8 (avs tys xs) [] (.r (.v (.bool true))) [] := by
 intro xs hx
 exact qPV 400000 xs.1 true (qsA 400000 (by omega) qIG _ hx.1)
set_option maxRecDepth 100000 in
theorem lifted (os : Os) (started : os.Started) (H : Type) (qr : TypeId × Value → H) :
  ReturnsInHanded {} Tryz.checked os 8 .any (fun w args => (Rows.auditMoneySpec.pre qr Tryz.prog Tryz.f8 [] false w args ∧ laidMetH Tryz.prog laid w) ∧ sizedMet qr Tryz.prog Tryz.f8 (OpenSpec.ofChange Rows.auditMoneySpec) false w args)
   (Rows.auditMoneySpec.post qr Tryz.prog Tryz.f8 false true false false) := by
 refine returnsInHanded_of_change_and (C := Tryz.checked) (X := fun w _ => laidMetH Tryz.prog laid w) (fun _ _ _ hh h => h.of_heap hh) own started (by kernel_rfl) Tryz.func8
  (ChangeSpec.witness_shaped (enc := qr) (C := Tryz.checked) (os := os) (X := fun w _ => laidMetH Tryz.prog laid w) false (World.doorLaid Tryz.prog 400 os) #[.agg #[.int .i64 0, .int .i64 0, .int .i64 0, .int .i64 0, .int .i64 0, .int .i64 0, .int .i64 0, .slice none 0 0, .slice none 0 0, .slice none 0 0, .slice none 0 0, .slice none 0 0, .slice none 0 0, .slice none 0 0, .slice none 0 0, .slice none 0 0, .slice none 0 0, .slice none 0 0, .slice none 0 0, .slice none 0 0, .slice none 0 0, .slice none 0 0]] 8 rfl (World.shaped_of_RefB (by kernel_rfl) (by kernel_rfl)) (by kernel_rfl) (by kernel_rfl) (by kernel_rfl) (door_met os _)) ?_
 intro W base args ds gs vD hval hW _ hsz hL _
 exact qE5 (l := tys) (trivial) laidOut (by kernel_rfl) rfl Tryz.underlying4 rfl (fun ds h => by
  match ds, h with
  | [d0], _ => rfl) main hval hW hsz
theorem fact1 : (Rows.auditMoneyRow.wf (OpenSpec.ofChange Rows.auditMoneySpec)) = true := by kernel_rfl
theorem fact2 : (laidOutB Tryz.prog) = true := by kernel_rfl
theorem fact3 : (mapsRowed Tryz.prog) = true := by kernel_rfl
theorem fact4 : (Tryz.f8.params.all (Tryz.prog.readableRec ·)) = true := by kernel_rfl
theorem fact5 : (namedTie Tryz.prog Rows.auditMoneyRow.named Rows.auditMoneySpec.vars) = true := by kernel_rfl
theorem fact6 : (Rows.auditMoneyRow.stops == []) = true := by kernel_rfl
theorem fact7 : (Tryz.prog.stops == []) = true := by kernel_rfl
theorem fact8 : (Rows.auditMoneyRow.knobs == []) = true := by kernel_rfl
theorem fact9 : (Tryz.prog.stopKnobs == []) = true := by kernel_rfl
theorem fact10 : (Rows.auditMoneyRow.inPlace == Tryz.prog.inPlace 8) = true := by kernel_rfl
theorem fact11 : (Rows.auditMoneyRow.unfollowed == Tryz.prog.unfollowed 8) = true := by kernel_rfl
theorem fact12 : (Rows.auditMoneyRow.recurses == Tryz.prog.recurses 8) = true := by kernel_rfl
theorem fact13 : (Rows.auditMoneyRow.named == Tryz.prog.varsNamed 8) = true := by kernel_rfl
theorem fact14 : (Rows.auditMoneyRow.maps == (Tryz.f8.params.toList ++ Rows.auditMoneySpec.plain.varTypes Tryz.prog).any (Tryz.prog.mapsRec ·)) = true := by kernel_rfl
theorem fact15 : (Rows.auditMoneyRow.ifaces == (Tryz.f8.params.toList ++ Rows.auditMoneySpec.plain.varTypes Tryz.prog).any (Tryz.prog.ifacesRec ·)) = true := by kernel_rfl
theorem fact16 : (Rows.auditMoneyRow.mapsOut == Tryz.prog.mapsAmong Tryz.f8.resultTypes.toList) = true := by kernel_rfl
theorem fact17 : (Rows.auditMoneyRow.loops == (Tryz.f8.params.toList ++ Rows.auditMoneySpec.plain.varTypes Tryz.prog).any (Tryz.prog.loopsFrom ·)) = true := by kernel_rfl
theorem andT {a b : Bool} (h : a = true) (k : b = true) : (a && b) = true := by rw [h, k]; rfl
theorem closed_ : joinedFacts Tryz.prog 8 Tryz.f8 Rows.auditMoneySpec Rows.auditMoneyRow = true := (andT (andT (andT (andT (andT (andT (andT (andT (andT (andT (andT (andT (andT (andT (andT (andT (andT (andT (andT (andT (andT (andT (andT (andT (andT (andT (andT (andT (andT (andT (andT fact1 fact2) fact3) fact4) fact5) fact6) fact7) fact8) fact9) fact10) fact11) fact12) fact13) fact14) fact15) fact16) fact17) (by kernel_rfl)) (by kernel_rfl)) (by kernel_rfl)) (by kernel_rfl)) (by kernel_rfl)) (by kernel_rfl)) (by kernel_rfl)) (by kernel_rfl)) (by kernel_rfl)) (by kernel_rfl)) (by kernel_rfl)) (by kernel_rfl)) (by kernel_rfl)) (by kernel_rfl)) (by kernel_rfl))
theorem named_ : Tryz.prog.funcNamed Rows.auditMoneyRow.func = some 8 := by kernel_rfl
theorem wrap_ : Tryz.f8.isWrapper Tryz.prog Rows.auditMoneyRow.wrapper Rows.auditMoneyRow.mainSum := by unfold Func.isWrapper; first | (rw [if_pos (by decide +kernel)]; kernel_rfl) | (rw [if_neg (by decide +kernel)]; exact ⟨rfl, rfl⟩)
theorem inst_ : Tryz.f8.isInstance Tryz.prog Rows.auditMoneyRow.origin Rows.auditMoneyRow.targs := of_decide_eq_true (by kernel_rfl)
theorem over : Rows.auditMoneyRow.holds Tryz.pinned (OpenSpec.ofChange Rows.auditMoneySpec) :=
 OpenClaim.holds_of_wide 8 Tryz.f8 rfl rfl rfl rfl rfl rfl rfl ⟨rfl, rfl, rfl, rfl, rfl⟩ rfl rfl rfl rfl rfl named_ Tryz.func8 closed_
  inst_ wrap_
  (fun os started H qr _ => lifted os started H qr)
theorem wf_ : Rows.auditMoneyRow.wfByText (OpenSpec.ofChange Rows.auditMoneySpec) = true := by kernel_rfl
theorem main_ : Tryz.prog.mainIs = some ((true, "9444f3804505cc9aae2f8798667109f7fc78ecf00f6bbc75ba3f3d551aa54681").1, (true, "9444f3804505cc9aae2f8798667109f7fc78ecf00f6bbc75ba3f3d551aa54681").2.toList) := by kernel_rfl
theorem looks_ : true = Tryz.prog.looks [] := by kernel_rfl
theorem goes_ : false = Rows.auditMoneyRow.goesBy Tryz.prog := by kernel_rfl
theorem stand_ : ([36].all fun u => !Tryz.prog.wantsStandIn u) = true := by kernel_rfl
theorem tied : Rows.AuditMoneyCardSaid :=
 Claim7.holds_tied_plain_at .later [] [.data, .data, .data] true (true, "9444f3804505cc9aae2f8798667109f7fc78ecf00f6bbc75ba3f3d551aa54681") true
  over (fun _ h => by cases h) wf_ (fun _ h => by cases h) auditMoney_row_tie rfl ⟨rfl, rfl⟩ main_ rfl
  (fun f fn hf hfn => by
    obtain rfl : f = 8 := Option.some.inj (named_.symm.trans hf) |>.symm
    obtain rfl : fn = Tryz.f8 := (Option.some.inj (Tryz.func8.symm.trans hfn)).symm
    exact ⟨looks_, fun j t ht => by
     rw [Tryz.params8] at ht
     have hm : t ∈ [36] := by simpa using Array.mem_of_getElem? ht
     exact (show Tryz.prog.wantsStandIn t = false by simpa using List.all_eq_true.1 stand_ t hm)⟩)
  goes_
end Go.Proofs.YtlakpahbdecdpaaGreatDoor.AuditMoneyLaw
namespace Go.Proofs.YtlakpahbdecdpaaGreatDoor
/-- The card, under a short name, for the claim. -/
theorem auditMoney_holds : Rows.AuditMoneyCardSaid := AuditMoneyLaw.tied
end Go.Proofs.YtlakpahbdecdpaaGreatDoor
