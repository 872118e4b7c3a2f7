/- The law FieldLimitsCard: for every input it returns true, and each argument reads afterwards as it read before. -/
import Derived.Test.YtjljfpgldnfaoaaDoorFunb
import Derived.Test.YtjljfpgldnfaoaaDoorRows
import Derived.Test.YtjljfpgldnfaoaaDoorCards
import Derived.Test.YtjljfpgldnfaoaaDoorTie
import Derived.JoinedOf
import Derived.ProofKit
import Derived.LaidMore
import Derived.Lay
import Derived.Stop.Joined
import Derived.SevenTiedAt
import Derived.MakeChecks
import Derived.Stop.LaidErr
namespace Go.Proofs.YtjljfpgldnfaoaaDoor.FieldLimitsLaw
open Go Go.AM Go.Proofs
set_option linter.unusedVariables false
theorem own : ownKnob Tryd.prog.godebug = none := by kernel_rfl
theorem laidOut : laidOutB Tryd.prog = true := by kernel_rfl
abbrev laid : List (String × DataW Unit) := Rows.fieldLimitsRow.laid
theorem door_met (os : Os) (args : Array Value) : laidMetH Tryd.prog laid ((World.laidAll Tryd.prog os laid).forCall (fun _ _ => 0) ⟨#[], args, []⟩).memory := by
  rw [MakeChecks.laidMetH_plain _ _ _ (by kernel_rfl)]; exact laidMet_laidAll _ (by kernel_rfl) (by kernel_rfl)
abbrev tys : List (Bool × RTy) := [(false, (RTy.int .u16)), (false, (RTy.int .u16)), (false, (RTy.int .u8))]
theorem main : ∀ xs : ArgsT tys, WfA tys xs → CC Tryd.prog 10 (avs tys xs) [] (.r (.v (.bool true))) [] := by
  intro xs hx
  have hn : 0 ≤ xs.1 ∧ xs.1 ≤ 65535 := by
    have h := hx.1
    simpa [Wf, Lit.wf, IntKind.min, IntKind.max, IntKind.signed, IntKind.bits] using h
  have hm : 0 ≤ xs.2.1 ∧ xs.2.1 ≤ 65535 := by
    have h := hx.2.1
    simpa [Wf, Lit.wf, IntKind.min, IntKind.max, IntKind.signed, IntKind.bits] using h
  exact of10 KS xs.1 xs.2.1 xs.2.2.1 true (f10_j _ _ _ hn hm)
theorem gt_met {W : World} (h : W.ShapedOpen Tryd.prog) : GT.G Tryd.prog W :=
  Go.Proofs.cell_of_shapedOpen_int (zero := #[.int .i64 0]) (t := 3) h (of_decide_eq_true (by kernel_rfl)) (by kernel_rfl) rfl (by kernel_rfl) (by kernel_rfl) Tryd.underlying3
set_option maxRecDepth 100000 in
theorem lifted (os : Os) (started : os.Started) (H : Type) (enc : TypeId × Value → H) :
    ReturnsInHanded {} Tryd.checked os 10 .any (fun w args => (Rows.fieldLimitsSpec.pre enc Tryd.prog Tryd.f10 [] false w args ∧ laidMetH Tryd.prog laid w) ∧ sizedMet enc Tryd.prog Tryd.f10 (OpenSpec.ofChange Rows.fieldLimitsSpec) false w args)
      (Rows.fieldLimitsSpec.post enc Tryd.prog Tryd.f10 false true false false) := by
  refine returnsInHanded_and_shaped (C := Tryd.checked) (X := fun w _ => laidMetH Tryd.prog laid w) (fun _ _ _ hh h => h.of_heap hh) own started (by kernel_rfl) Tryd.func10
    (ChangeSpec.witness_shaped (enc := enc) (C := Tryd.checked) (os := os) (X := fun w _ => laidMetH Tryd.prog laid w) false (World.laidAll Tryd.prog os laid) #[.int .u16 0, .int .u16 0, .int .u8 0] 8 (World.laidAll_os _ _ _) (World.shaped_of_ZipB (by kernel_rfl) (by kernel_rfl)) (by kernel_rfl) (by kernel_rfl) (by kernel_rfl) (door_met os _)) ?_
  intro W base args ds gs before hval hW _ hsz hL hS _
  exact law_call (l := tys) (gt_met hS) laidOut (by kernel_rfl) rfl Tryd.underlying4 rfl (fun ds h => by
    match ds, h with
    | [d0, d1, d2], _ => rfl) main hval hW hsz
theorem over : Rows.fieldLimitsRow.holds Tryd.pinned (OpenSpec.ofChange Rows.fieldLimitsSpec) :=
  OpenClaim.holds_of_wide 10 Tryd.f10 rfl rfl rfl rfl rfl rfl rfl ⟨rfl, rfl, rfl, rfl, rfl⟩ rfl rfl rfl rfl rfl (by kernel_rfl) Tryd.func10 (by kernel_rfl)
    (of_decide_eq_true (by kernel_rfl)) (by unfold Func.isWrapper; first | (rw [if_pos (by decide +kernel)]; kernel_rfl) | (rw [if_neg (by decide +kernel)]; exact ⟨rfl, rfl⟩))
    (fun os started H enc _ => lifted os started H enc)
theorem tied : Rows.FieldLimitsCardSaid :=
  Claim7.holds_tied_plain_at .later [] [.data, .pinned] true (true, "a97c1ccfdd0e8a45c536360c0c6eed9f1920b2b02d3c816b4f678b10ad7a34eb") false
    over (fun _ h => by cases h) (by kernel_rfl) (fun _ h => by cases h) fieldLimits_row_tie rfl ⟨rfl, rfl⟩ (by kernel_rfl) rfl
    (fun f fn hf hfn => by
      obtain rfl : f = 10 := Option.some.inj ((show Tryd.prog.funcNamed "papermill/papermilllaw07.FieldLimits" = some 10 by kernel_rfl).symm.trans hf) |>.symm
      obtain rfl : fn = Tryd.f10 := (Option.some.inj (Tryd.func10.symm.trans hfn)).symm
      exact ⟨by kernel_rfl, fun j t ht => by
        rw [Tryd.params10] at ht
        have hm : t ∈ [42, 42, 5] := by simpa using Array.mem_of_getElem? ht
        have hall : ([42, 42, 5].all fun u => !Tryd.prog.wantsStandIn u) = true := by kernel_rfl
        exact (show Tryd.prog.wantsStandIn t = false by simpa using List.all_eq_true.1 hall t hm)⟩)
    (by kernel_rfl)
end Go.Proofs.YtjljfpgldnfaoaaDoor.FieldLimitsLaw
namespace Go.Proofs.YtjljfpgldnfaoaaDoor
/-- The card, under a short name, for the claim. -/
theorem fieldLimits_holds : Rows.FieldLimitsCardSaid := FieldLimitsLaw.tied
end Go.Proofs.YtjljfpgldnfaoaaDoor
