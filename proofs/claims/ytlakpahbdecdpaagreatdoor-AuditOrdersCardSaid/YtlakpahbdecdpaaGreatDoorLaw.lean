/- The law AuditOrdersCard: for every input it returns true, and each argument reads afterwards as it read before. -/
import Derived.Test.YtlakpahbdecdpaaGreatDoorFund
import Derived.Test.YtlakpahbdecdpaaGreatDoorRows
import Derived.Test.YtlakpahbdecdpaaGreatDoorCards
import Derived.Test.YtlakpahbdecdpaaGreatDoorTie
import Derived.JoinedOf
import Derived.ProofKit
import Derived.LaidMore
import Derived.Stop.Joined
import Derived.SevenTiedAt
import Derived.MakeChecks
import Derived.Stop.LaidErr
set_option linter.unusedVariables false
set_option linter.unusedSimpArgs false
set_option linter.unusedSectionVars false
namespace Go.Proofs.YtlakpahbdecdpaaGreatDoor.AuditOrdersLaw
open Go Go.AM Go.Proofs
theorem own : ownKnob Tryz.prog.godebug = none := by kernel_rfl
theorem laidOut : laidOutB Tryz.prog = true := by kernel_rfl
abbrev laid : List (String × DataW Unit) := Rows.auditOrdersRow.laid
theorem door_met (os : Os) (args : Array Value) : laidMetH Tryz.prog laid ((World.doorLaid Tryz.prog 400 os).forCall (fun _ _ => 0) ⟨#[], args, []⟩).memory :=
 laidMetH_of_parts3 (fuel := 8) (laidMet_of_run' 8 (by kernel_rfl) (by kernel_rfl)) (by kernel_rfl) (by kernel_rfl)
abbrev tys : List (Bool × RTy) := [(true, T17)]
theorem main : ∀ xs : qjC tys, WfA tys xs → CC Tryz.prog 6 (avs tys xs) [] (.r (.v (.bool true))) [] := by
 intro xs hx
 exact qN7 400000 xs.1 true (qqR 400000 (by omega) qLj _ hx.1)
set_option maxRecDepth 100000 in
theorem lifted (os : Os) (started : os.Started) (H : Type) (qr : TypeId × Value → H) :
  ReturnsInHanded {} Tryz.checked os 6 .any (fun w args => (Rows.auditOrdersSpec.pre qr Tryz.prog Tryz.f6 [] false w args ∧ laidMetH Tryz.prog laid w) ∧ sizedMet qr Tryz.prog Tryz.f6 (OpenSpec.ofChange Rows.auditOrdersSpec) false w args)
   (Rows.auditOrdersSpec.post qr Tryz.prog Tryz.f6 false true false false) := by
 refine returnsInHanded_of_change_and (C := Tryz.checked) (X := fun w _ => laidMetH Tryz.prog laid w) (fun _ _ _ hh h => h.of_heap hh) own started (by kernel_rfl) Tryz.func6
  (ChangeSpec.witness_shaped (enc := qr) (C := Tryz.checked) (os := os) (X := fun w _ => laidMetH Tryz.prog laid w) false (World.doorLaid Tryz.prog 400 os) #[.agg #[.int .i64 0, .int .i64 0, .int .i64 0, .int .i64 0, .int .i64 0, .int .i64 0, .int .i64 0, .slice none 0 0, .slice none 0 0, .slice none 0 0, .slice none 0 0, .slice none 0 0, .slice none 0 0, .slice none 0 0, .slice none 0 0, .slice none 0 0, .slice none 0 0, .slice none 0 0, .slice none 0 0, .slice none 0 0, .slice none 0 0, .slice none 0 0]] 8 rfl (World.shaped_of_RefB (by kernel_rfl) (by kernel_rfl)) (by kernel_rfl) (by kernel_rfl) (by kernel_rfl) (door_met os _)) ?_
 intro W base args ds gs vp hval hW _ hsz hL _
 exact qGQ (l := tys) (trivial) laidOut (by kernel_rfl) rfl Tryz.underlying4 rfl (fun ds h => by
  match ds, h with
  | [d0], _ => rfl) main hval hW hsz
theorem fact1 : (Rows.auditOrdersRow.wf (OpenSpec.ofChange Rows.auditOrdersSpec)) = true := by kernel_rfl
theorem fact2 : (laidOutB Tryz.prog) = true := by kernel_rfl
theorem fact3 : (mapsRowed Tryz.prog) = true := by kernel_rfl
theorem fact4 : (Tryz.f6.params.all (Tryz.prog.readableRec ·)) = true := by kernel_rfl
theorem fact5 : (namedTie Tryz.prog Rows.auditOrdersRow.named Rows.auditOrdersSpec.vars) = true := by kernel_rfl
theorem fact6 : (Rows.auditOrdersRow.stops == []) = true := by kernel_rfl
theorem fact7 : (Tryz.prog.stops == []) = true := by kernel_rfl
theorem fact8 : (Rows.auditOrdersRow.knobs == []) = true := by kernel_rfl
theorem fact9 : (Tryz.prog.stopKnobs == []) = true := by kernel_rfl
theorem fact10 : (Rows.auditOrdersRow.inPlace == Tryz.prog.inPlace 6) = true := by kernel_rfl
theorem fact11 : (Rows.auditOrdersRow.unfollowed == Tryz.prog.unfollowed 6) = true := by kernel_rfl
theorem fact12 : (Rows.auditOrdersRow.recurses == Tryz.prog.recurses 6) = true := by kernel_rfl
theorem fact13 : (Rows.auditOrdersRow.named == Tryz.prog.varsNamed 6) = true := by kernel_rfl
theorem fact14 : (Rows.auditOrdersRow.maps == (Tryz.f6.params.toList ++ Rows.auditOrdersSpec.plain.varTypes Tryz.prog).any (Tryz.prog.mapsRec ·)) = true := by kernel_rfl
theorem fact15 : (Rows.auditOrdersRow.ifaces == (Tryz.f6.params.toList ++ Rows.auditOrdersSpec.plain.varTypes Tryz.prog).any (Tryz.prog.ifacesRec ·)) = true := by kernel_rfl
theorem fact16 : (Rows.auditOrdersRow.mapsOut == Tryz.prog.mapsAmong Tryz.f6.resultTypes.toList) = true := by kernel_rfl
theorem fact17 : (Rows.auditOrdersRow.loops == (Tryz.f6.params.toList ++ Rows.auditOrdersSpec.plain.varTypes Tryz.prog).any (Tryz.prog.loopsFrom ·)) = true := by kernel_rfl
theorem andT {a b : Bool} (h : a = true) (k : b = true) : (a && b) = true := by rw [h, k]; rfl
theorem closed_ : joinedFacts Tryz.prog 6 Tryz.f6 Rows.auditOrdersSpec Rows.auditOrdersRow = true := (andT (andT (andT (andT (andT (andT (andT (andT (andT (andT (andT (andT (andT (andT (andT (andT (andT (andT (andT (andT (andT (andT (andT (andT (andT (andT (andT (andT (andT (andT (andT fact1 fact2) fact3) fact4) fact5) fact6) fact7) fact8) fact9) fact10) fact11) fact12) fact13) fact14) fact15) fact16) fact17) (by kernel_rfl)) (by kernel_rfl)) (by kernel_rfl)) (by kernel_rfl)) (by kernel_rfl)) (by kernel_rfl)) (by kernel_rfl)) (by kernel_rfl)) (by kernel_rfl)) (by kernel_rfl)) (by kernel_rfl)) (by kernel_rfl)) (by kernel_rfl)) (by kernel_rfl)) (by kernel_rfl))
theorem named_ : Tryz.prog.funcNamed Rows.auditOrdersRow.func = some 6 := by kernel_rfl
theorem wrap_ : Tryz.f6.isWrapper Tryz.prog Rows.auditOrdersRow.wrapper Rows.auditOrdersRow.mainSum := by unfold Func.isWrapper; first | (rw [if_pos (by decide +kernel)]; kernel_rfl) | (rw [if_neg (by decide +kernel)]; exact ⟨rfl, rfl⟩)
theorem inst_ : Tryz.f6.isInstance Tryz.prog Rows.auditOrdersRow.origin Rows.auditOrdersRow.targs := of_decide_eq_true (by kernel_rfl)
theorem over : Rows.auditOrdersRow.holds Tryz.pinned (OpenSpec.ofChange Rows.auditOrdersSpec) :=
 OpenClaim.holds_of_wide 6 Tryz.f6 rfl rfl rfl rfl rfl rfl rfl ⟨rfl, rfl, rfl, rfl, rfl⟩ rfl rfl rfl rfl rfl named_ Tryz.func6 closed_
  inst_ wrap_
  (fun os started H qr _ => lifted os started H qr)
theorem wf_ : Rows.auditOrdersRow.wfByText (OpenSpec.ofChange Rows.auditOrdersSpec) = true := by kernel_rfl
theorem main_ : Tryz.prog.mainIs = some ((true, "9444f3804505cc9aae2f8798667109f7fc78ecf00f6bbc75ba3f3d551aa54681").1, (true, "9444f3804505cc9aae2f8798667109f7fc78ecf00f6bbc75ba3f3d551aa54681").2.toList) := by kernel_rfl
theorem looks_ : true = Tryz.prog.looks [] := by kernel_rfl
theorem goes_ : false = Rows.auditOrdersRow.goesBy Tryz.prog := by kernel_rfl
theorem stand_ : ([36].all fun u => !Tryz.prog.wantsStandIn u) = true := by kernel_rfl
theorem tied : Rows.AuditOrdersCardSaid :=
 Claim7.holds_tied_plain_at .later [] [.data, .data, .data] true (true, "9444f3804505cc9aae2f8798667109f7fc78ecf00f6bbc75ba3f3d551aa54681") true
  over (fun _ h => by cases h) wf_ (fun _ h => by cases h) auditOrders_row_tie rfl ⟨rfl, rfl⟩ main_ rfl
  (fun f fn hf hfn => by
    obtain rfl : f = 6 := Option.some.inj (named_.symm.trans hf) |>.symm
    obtain rfl : fn = Tryz.f6 := (Option.some.inj (Tryz.func6.symm.trans hfn)).symm
    exact ⟨looks_, fun j t ht => by
     rw [Tryz.params6] at ht
     have hm : t ∈ [36] := by simpa using Array.mem_of_getElem? ht
     exact (show Tryz.prog.wantsStandIn t = false by simpa using List.all_eq_true.1 stand_ t hm)⟩)
  goes_
end Go.Proofs.YtlakpahbdecdpaaGreatDoor.AuditOrdersLaw
namespace Go.Proofs.YtlakpahbdecdpaaGreatDoor
/-- The card, under a short name, for the claim. -/
theorem auditOrders_holds : Rows.AuditOrdersCardSaid := AuditOrdersLaw.tied
end Go.Proofs.YtlakpahbdecdpaaGreatDoor
