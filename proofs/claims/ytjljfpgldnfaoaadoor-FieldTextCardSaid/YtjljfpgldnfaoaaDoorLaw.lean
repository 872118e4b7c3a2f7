/- The law FieldTextCard: for every input it returns true, and each argument reads afterwards as it read before. -/
import Derived.Test.YtjljfpgldnfaoaaDoorFunc
import Derived.Test.YtjljfpgldnfaoaaDoorRows
import Derived.Test.YtjljfpgldnfaoaaDoorCards
import Derived.Test.YtjljfpgldnfaoaaDoorTie
import Derived.JoinedOf
import Derived.ProofKit
import Derived.LaidMore
import Derived.Lay
import Derived.Stop.Joined
import Derived.SevenTiedAt
import Derived.MakeChecks
import Derived.Stop.LaidErr
namespace Go.Proofs.YtjljfpgldnfaoaaDoor.FieldTextLaw
open Go Go.AM Go.Proofs
set_option linter.unusedVariables false
theorem own : ownKnob Tryd.prog.godebug = none := by kernel_rfl
theorem laidOut : laidOutB Tryd.prog = true := by kernel_rfl
abbrev laid : List (String × DataW Unit) := Rows.fieldTextRow.laid
theorem door_met (os : Os) (args : Array Value) : laidMetH Tryd.prog laid ((World.laidAll Tryd.prog os laid).forCall (fun _ _ => 0) ⟨#[], args, []⟩).memory := by
  rw [MakeChecks.laidMetH_plain _ _ _ (by kernel_rfl)]; exact laidMet_laidAll _ (by kernel_rfl) (by kernel_rfl)
abbrev tys : List (Bool × RTy) := [(false, RTy.str)]
theorem main : ∀ xs : ArgsT tys, WfA tys xs → CC Tryd.prog 9 (avs tys xs) [] (.r (.v (.bool true))) [] := by
  intro xs hx
  exact of9 KS xs.1 true (f9_j _)
theorem gt_met {W : World} (h : W.ShapedOpen Tryd.prog) : GT.G Tryd.prog W :=
  Go.Proofs.cell_of_shapedOpen_int (zero := #[.int .i64 0]) (t := 3) h (of_decide_eq_true (by kernel_rfl)) (by kernel_rfl) rfl (by kernel_rfl) (by kernel_rfl) Tryd.underlying3
set_option maxRecDepth 100000 in
theorem lifted (os : Os) (started : os.Started) (H : Type) (enc : TypeId × Value → H) :
    ReturnsInHanded {} Tryd.checked os 9 .any (fun w args => (Rows.fieldTextSpec.pre enc Tryd.prog Tryd.f9 [] false w args ∧ laidMetH Tryd.prog laid w) ∧ sizedMet enc Tryd.prog Tryd.f9 (OpenSpec.ofChange Rows.fieldTextSpec) false w args)
      (Rows.fieldTextSpec.post enc Tryd.prog Tryd.f9 false true false false) := by
  refine returnsInHanded_and_shaped (C := Tryd.checked) (X := fun w _ => laidMetH Tryd.prog laid w) (fun _ _ _ hh h => h.of_heap hh) own started (by kernel_rfl) Tryd.func9
    (ChangeSpec.witness_shaped (enc := enc) (C := Tryd.checked) (os := os) (X := fun w _ => laidMetH Tryd.prog laid w) false (World.laidAll Tryd.prog os laid) #[.string ByteArray.empty] 8 (World.laidAll_os _ _ _) (World.shaped_of_ZipB (by kernel_rfl) (by kernel_rfl)) (by kernel_rfl) (by kernel_rfl) (by kernel_rfl) (door_met os _)) ?_
  intro W base args ds gs before hval hW _ hsz hL hS _
  exact law_call (l := tys) (gt_met hS) laidOut (by kernel_rfl) rfl Tryd.underlying4 rfl (fun ds h => by
    match ds, h with
    | [d0], _ => rfl) main hval hW hsz
theorem over : Rows.fieldTextRow.holds Tryd.pinned (OpenSpec.ofChange Rows.fieldTextSpec) :=
  OpenClaim.holds_of_wide 9 Tryd.f9 rfl rfl rfl rfl rfl rfl rfl ⟨rfl, rfl, rfl, rfl, rfl⟩ rfl rfl rfl rfl rfl (by kernel_rfl) Tryd.func9 (by kernel_rfl)
    (of_decide_eq_true (by kernel_rfl)) (by unfold Func.isWrapper; first | (rw [if_pos (by decide +kernel)]; kernel_rfl) | (rw [if_neg (by decide +kernel)]; exact ⟨rfl, rfl⟩))
    (fun os started H enc _ => lifted os started H enc)
theorem tied : Rows.FieldTextCardSaid :=
  Claim7.holds_tied_plain_at .later [] [.data, .pinned] true (true, "a97c1ccfdd0e8a45c536360c0c6eed9f1920b2b02d3c816b4f678b10ad7a34eb") false
    over (fun _ h => by cases h) (by kernel_rfl) (fun _ h => by cases h) fieldText_row_tie rfl ⟨rfl, rfl⟩ (by kernel_rfl) rfl
    (fun f fn hf hfn => by
      obtain rfl : f = 9 := Option.some.inj ((show Tryd.prog.funcNamed "papermill/papermilllaw07.FieldText" = some 9 by kernel_rfl).symm.trans hf) |>.symm
      obtain rfl : fn = Tryd.f9 := (Option.some.inj (Tryd.func9.symm.trans hfn)).symm
      exact ⟨by kernel_rfl, fun j t ht => by
        rw [Tryd.params9] at ht
        have hm : t ∈ [9] := by simpa using Array.mem_of_getElem? ht
        have hall : ([9].all fun u => !Tryd.prog.wantsStandIn u) = true := by kernel_rfl
        exact (show Tryd.prog.wantsStandIn t = false by simpa using List.all_eq_true.1 hall t hm)⟩)
    (by kernel_rfl)
end Go.Proofs.YtjljfpgldnfaoaaDoor.FieldTextLaw
namespace Go.Proofs.YtjljfpgldnfaoaaDoor
/-- The card, under a short name, for the claim. -/
theorem fieldText_holds : Rows.FieldTextCardSaid := FieldTextLaw.tied
end Go.Proofs.YtjljfpgldnfaoaaDoor
