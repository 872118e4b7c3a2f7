/- The law ClockRoundTripCard: for every input it returns true, and each argument reads afterwards as it read before. -/
import Derived.Test.YticaonjigdicfaaDoorFuna
import Derived.Test.YticaonjigdicfaaDoorRows
import Derived.Test.YticaonjigdicfaaDoorCards
import Derived.Test.YticaonjigdicfaaDoorTie
import Derived.JoinedOf
import Derived.ProofKit
import Derived.LaidMore
import Derived.Stop.Joined
import Derived.SevenTiedAt
import Derived.MakeChecks
import Derived.Stop.LaidErr
namespace Go.Proofs.YticaonjigdicfaaDoor.ClockRoundTripLaw
open Go Go.AM Go.Proofs
set_option linter.unusedVariables false
theorem own : ownKnob Tryd.prog.godebug = none := by kernel_rfl
theorem laidOut : laidOutB Tryd.prog = true := by kernel_rfl
abbrev laid : List (String × DataW Unit) := Rows.clockRoundTripRow.laid
theorem door_met (os : Os) (args : Array Value) : laidMetH Tryd.prog laid ((World.doorLaid Tryd.prog 400 os).forCall (fun _ _ => 0) ⟨#[], args, []⟩).memory :=
  laidMetH_of_parts3 (fuel := 8) (laidMet_of_run' 8 (by kernel_rfl) (by kernel_rfl)) (by kernel_rfl) (by kernel_rfl)
abbrev tys : List (Bool × RTy) := [(false, I), (false, .str), (true, t34)]
theorem main : ∀ xs : ArgsT tys, WfA tys xs → CC Tryd.prog 10 (avs tys xs) [] (.r (.v (.bool true))) [] := by
  intro xs hx
  exact of10 KK xs.1 xs.2.1 xs.2.2.1 true (f10_j _ _ _ _)
theorem gt_met {W : World} (h : laidMetH Tryd.prog laid W) : GT.G Tryd.prog W := by
  rw [MakeChecks.laidMetH_plain _ _ _ (by kernel_rfl)] at h
  exact Lib.tabIs_of_head (g := 0) (t := 67) (n := 20) (by kernel_rfl) (by kernel_rfl) Tryd.underlying67 Tryd.underlying59 (by kernel_rfl) (by kernel_rfl) h.tail.tail
set_option maxRecDepth 100000 in
theorem lifted (os : Os) (started : os.Started) (H : Type) (enc : TypeId × Value → H) :
    ReturnsInHanded {} Tryd.checked os 10 .any (fun w args => (Rows.clockRoundTripSpec.pre enc Tryd.prog Tryd.f10 [] false w args ∧ laidMetH Tryd.prog laid w) ∧ sizedMet enc Tryd.prog Tryd.f10 (OpenSpec.ofChange Rows.clockRoundTripSpec) false w args)
      (Rows.clockRoundTripSpec.post enc Tryd.prog Tryd.f10 false true false false) := by
  refine returnsInHanded_of_change_and (C := Tryd.checked) (X := fun w _ => laidMetH Tryd.prog laid w) (fun _ _ _ hh h => h.of_heap hh) own started (by kernel_rfl) Tryd.func10
    (ChangeSpec.witness_shaped (enc := enc) (C := Tryd.checked) (os := os) (X := fun w _ => laidMetH Tryd.prog laid w) false (World.doorLaid Tryd.prog 400 os) #[.int .i64 0, .string ByteArray.empty, .agg #[.int .i64 0, .int .i64 0]] 8 rfl (World.shaped_of_RefB (by kernel_rfl) (by kernel_rfl)) (by kernel_rfl) (by kernel_rfl) (by kernel_rfl) (door_met os _)) ?_
  intro W base args ds gs before hval hW _ hsz hL _
  exact law_call (l := tys) (gt_met hL) laidOut (by kernel_rfl) rfl Tryd.underlying4 rfl (fun ds h => by
    match ds, h with
    | [d0, d1, d2], _ => rfl) main hval hW hsz
theorem over : Rows.clockRoundTripRow.holds Tryd.pinned (OpenSpec.ofChange Rows.clockRoundTripSpec) :=
  OpenClaim.holds_of_wide 10 Tryd.f10 rfl rfl rfl rfl rfl rfl rfl ⟨rfl, rfl, rfl, rfl, rfl⟩ rfl rfl rfl rfl rfl (by kernel_rfl) Tryd.func10 (by kernel_rfl)
    (of_decide_eq_true (by kernel_rfl)) (by unfold Func.isWrapper; first | (rw [if_pos (by decide +kernel)]; kernel_rfl) | (rw [if_neg (by decide +kernel)]; exact ⟨rfl, rfl⟩))
    (fun os started H enc _ => lifted os started H enc)
theorem tied : Rows.ClockRoundTripCardSaid :=
  Claim7.holds_tied_plain_at .later [] [.data, .data, .data] true (true, "c1f836a17c04046186eedc38bf3d931e70de143001f0cbfb9fb5ada6f5fc6ed0") false
    over (fun _ h => by cases h) (by kernel_rfl) (fun _ h => by cases h) clockRoundTrip_row_tie rfl ⟨rfl, rfl⟩ (by kernel_rfl) rfl
    (fun f fn hf hfn => by
      obtain rfl : f = 10 := Option.some.inj ((show Tryd.prog.funcNamed "papermill/papermilllaw05.ClockRoundTrip" = some 10 by kernel_rfl).symm.trans hf) |>.symm
      obtain rfl : fn = Tryd.f10 := (Option.some.inj (Tryd.func10.symm.trans hfn)).symm
      exact ⟨by kernel_rfl, fun j t ht => by
        rw [Tryd.params10] at ht
        have hm : t ∈ [3, 9, 34] := by simpa using Array.mem_of_getElem? ht
        have hall : ([3, 9, 34].all fun u => !Tryd.prog.wantsStandIn u) = true := by kernel_rfl
        exact (show Tryd.prog.wantsStandIn t = false by simpa using List.all_eq_true.1 hall t hm)⟩)
    (by kernel_rfl)
end Go.Proofs.YticaonjigdicfaaDoor.ClockRoundTripLaw
namespace Go.Proofs.YticaonjigdicfaaDoor
/-- The card, under a short name, for the claim. -/
theorem clockRoundTrip_holds : Rows.ClockRoundTripCardSaid := ClockRoundTripLaw.tied
end Go.Proofs.YticaonjigdicfaaDoor
