/- FnBatches: whatever data come in, the law's function returns true, and the data read as they did. No condition. -/
import Derived.Test.YtbeplmdadjgamaaGreatRows
import Derived.Test.YtbeplmdadjgamaaGreatRvE11
import Derived.Test.YtbeplmdadjgamaaGreatPure11
import Derived.SizedLaws
import Derived.OpenShut
import Derived.WalkKit
import Derived.ProofKit
namespace Go.Proofs.YtbeplmdadjgamaaGreat
open Go.Rv Go.RvP Go.RowKit Go.ChangeShapes Go.WideShapes
theorem own11 : ownKnob Tryz.prog.godebug = none := by kernel_rfl
set_option maxRecDepth 100000 in
theorem lifted11 (os : Os) (started : os.Started) (H : Type) (enc : TypeId × Value → H) :
    ReturnsInHanded {} Tryz.checked os 11 .any (Rows.fnBatchesSpec.pre6 enc Tryz.prog Tryz.f11 Rows.fnBatchesRow.domain false) (Rows.fnBatchesSpec.post enc Tryz.prog Tryz.f11 false true false false) := by
  refine returnsInHanded_of_change_sized (C := Tryz.checked) own11 started (by kernel_rfl) Tryz.func11
    (ChangeSpec.witness6 (enc := enc) (C := Tryz.checked) false ⟨#[], #[.slice none 0 0], []⟩ 8 (by kernel_rfl) (by kernel_rfl) (by kernel_rfl) (by kernel_rfl)) ?_
  intro W base args ds gs before hval0 hW hcnd hsz0 _
  exact law_calls (C := Tryz.checked) (f := 11) (fn := Tryz.f11) (F := S_w115q) (n := 1) (ok_w115q 11 S_w115q rfl).2 (by kernel_rfl) (by kernel_rfl) rfl Tryz.underlying4 (fun x h => ⟨true, law_w115q x h, rfl⟩) rfl rfl
    (fun T ds h => by
      match ds, h with
      | [d0], _ => exact ⟨rfl, rfl, rfl⟩) hval0 hW
theorem fact11_0 : Rows.fnBatchesRow.wf (OpenSpec.ofChange Rows.fnBatchesSpec) = true := by kernel_rfl
theorem fact11_1 : laidOutB Tryz.pinned.checked.prog = true := by kernel_rfl
theorem fact11_2 : mapsRowed Tryz.pinned.checked.prog = true := by kernel_rfl
theorem fact11_3 : Tryz.f11.params.all (Tryz.pinned.checked.prog.readableRec ·) = true := by kernel_rfl
theorem fact11_4 : namedTie Tryz.pinned.checked.prog Rows.fnBatchesRow.named Rows.fnBatchesSpec.vars = true := by kernel_rfl
theorem fact11_5 : (Tryz.pinned.checked.prog.stops == []) = true := by kernel_rfl
theorem fact11_6 : (Tryz.pinned.checked.prog.stopKnobs == []) = true := by kernel_rfl
theorem fact11_7 : (Rows.fnBatchesRow.inPlace == Tryz.pinned.checked.prog.inPlace 11) = true := by kernel_rfl
theorem fact11_8 : (Rows.fnBatchesRow.unfollowed == Tryz.pinned.checked.prog.unfollowed 11) = true := by kernel_rfl
theorem fact11_9 : (Rows.fnBatchesRow.recurses == Tryz.pinned.checked.prog.recurses 11) = true := by kernel_rfl
theorem fact11_10 : (Rows.fnBatchesRow.named == Tryz.pinned.checked.prog.varsNamed 11) = true := by kernel_rfl
theorem fact11_11 : (Rows.fnBatchesRow.maps == (Tryz.f11.params.toList ++ Rows.fnBatchesSpec.plain.varTypes Tryz.pinned.checked.prog).any (Tryz.pinned.checked.prog.mapsRec ·)) = true := by kernel_rfl
theorem fact11_12 : (Rows.fnBatchesRow.ifaces == (Tryz.f11.params.toList ++ Rows.fnBatchesSpec.plain.varTypes Tryz.pinned.checked.prog).any (Tryz.pinned.checked.prog.ifacesRec ·)) = true := by kernel_rfl
theorem fact11_13 : (Rows.fnBatchesRow.mapsOut == Tryz.pinned.checked.prog.mapsAmong Tryz.f11.resultTypes.toList) = true := by kernel_rfl
theorem fact11_14 : (Rows.fnBatchesRow.loops == (Tryz.f11.params.toList ++ Rows.fnBatchesSpec.plain.varTypes Tryz.pinned.checked.prog).any (Tryz.pinned.checked.prog.loopsFrom ·)) = true := by kernel_rfl
theorem fact11_15 : (Rows.fnBatchesRow.wideKeys == (Tryz.f11.params.toList ++ Rows.fnBatchesSpec.plain.varTypes Tryz.pinned.checked.prog ++ Tryz.f11.resultTypes.toList).any (Tryz.pinned.checked.prog.wideKeysFrom ·)) = true := by kernel_rfl
theorem fact11_16 : Tryz.f11.resultTypes.all (fun t => Tryz.pinned.checked.prog.readableRec t && decide (t < Tryz.pinned.checked.prog.types.size)) = true := by kernel_rfl
theorem fact11_17 : (Rows.fnBatchesRow.ifacesOut == Tryz.f11.resultTypes.toList.any (Tryz.pinned.checked.prog.ifacesRec ·)) = true := by kernel_rfl
theorem fact11_18 : (Rows.fnBatchesRow.loopsOut == Tryz.f11.resultTypes.toList.any (Tryz.pinned.checked.prog.loopsFrom ·)) = true := by kernel_rfl
theorem fact11_19 : (Rows.fnBatchesRow.plainKeys == Tryz.pinned.checked.prog.plainKeys) = true := by kernel_rfl
theorem fact11_20 : Tryz.pinned.checked.prog.stopsHeard = true := by kernel_rfl
theorem fact11_21 : Tryz.pinned.checked.prog.mayEnter = true := by kernel_rfl
theorem fact11_22 : (Rows.fnBatchesRow.lifted == Tryz.pinned.checked.prog.liftsFinal) = true := by kernel_rfl
theorem fact11_23 : (Tryz.pinned.checked.prog.make == some Rows.fnBatchesRow.make) = true := by kernel_rfl
theorem fact11_24 : (Rows.fnBatchesRow.pinned == Rows.fnBatchesRow.pinnedBy) = true := by kernel_rfl
theorem fact11_25 : (Rows.fnBatchesRow.veiled == (Tryz.f11.params.toList ++ Rows.fnBatchesSpec.plain.varTypes Tryz.pinned.checked.prog ++ Tryz.f11.resultTypes.toList).any (Tryz.pinned.checked.prog.veiledRec ·)) = true := by kernel_rfl
theorem fact11_26 : Rows.fnBatchesRow.veiledFits Tryz.pinned.checked.prog Tryz.f11.params.toList (Tryz.f11.params.toList ++ Rows.fnBatchesSpec.plain.varTypes Tryz.pinned.checked.prog ++ Tryz.f11.resultTypes.toList) = true := by kernel_rfl
theorem closed11 : joinedFacts Tryz.pinned.checked.prog 11 Tryz.f11 Rows.fnBatchesSpec Rows.fnBatchesRow = true := by
  unfold joinedFacts
  rw [fact11_0, fact11_1, fact11_2, fact11_3, fact11_4, fact11_5, fact11_6, fact11_7, fact11_8, fact11_9, fact11_10, fact11_11, fact11_12, fact11_13, fact11_14, fact11_15, fact11_16, fact11_17, fact11_18, fact11_19, fact11_20, fact11_21, fact11_22, fact11_23, fact11_24, fact11_25, fact11_26]
  rfl
theorem over11 : Rows.fnBatchesRow.holds Tryz.pinned (OpenSpec.ofChange Rows.fnBatchesSpec) :=
  OpenClaim.holds_of_wide 11 Tryz.f11 rfl rfl rfl rfl rfl rfl rfl ⟨rfl, rfl, rfl, rfl, rfl⟩ rfl rfl rfl rfl rfl (by kernel_rfl) Tryz.func11 closed11
    (of_decide_eq_true (by kernel_rfl)) (by unfold Func.isWrapper; first | (rw [if_pos (by decide +kernel)]; kernel_rfl) | (rw [if_neg (by decide +kernel)]; exact ⟨rfl, rfl⟩))
    (fun os started H enc _ => lifted11 os started H enc)
/-- The row. -/
theorem fnBatches_holds : Rows.FnBatchesSaid := over11
#print axioms fnBatches_holds
end Go.Proofs.YtbeplmdadjgamaaGreat
