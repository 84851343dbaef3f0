/- FnExactAllRows: whatever data come in, the law's function returns true, and the data read as they did. No condition. -/
import Derived.Test.YtbeplmdadjgamaaGreatRows
import Derived.Test.YtbeplmdadjgamaaGreatRvE9
import Derived.Test.YtbeplmdadjgamaaGreatPure9
import Derived.SizedLaws
import Derived.OpenShut
import Derived.WalkKit
import Derived.ProofKit
namespace Go.Proofs.YtbeplmdadjgamaaGreat
open Go.Rv Go.RvP Go.RowKit Go.ChangeShapes Go.WideShapes
theorem own9 : ownKnob Tryz.prog.godebug = none := by kernel_rfl
set_option maxRecDepth 100000 in
theorem lifted9 (os : Os) (started : os.Started) (H : Type) (enc : TypeId × Value → H) :
    ReturnsInHanded {} Tryz.checked os 9 .any (Rows.fnExactAllRowsSpec.pre6 enc Tryz.prog Tryz.f9 Rows.fnExactAllRowsRow.domain false) (Rows.fnExactAllRowsSpec.post enc Tryz.prog Tryz.f9 false true false false) := by
  refine returnsInHanded_of_change_sized (C := Tryz.checked) own9 started (by kernel_rfl) Tryz.func9
    (ChangeSpec.witness6 (enc := enc) (C := Tryz.checked) false ⟨#[], #[.agg #[.slice none 0 0, .slice none 0 0, .slice none 0 0, .slice none 0 0, .int .i64 0]], []⟩ 8 (by kernel_rfl) (by kernel_rfl) (by kernel_rfl) (by kernel_rfl)) ?_
  intro W base args ds gs before hval0 hW hcnd hsz0 _
  exact law_calls (C := Tryz.checked) (f := 9) (fn := Tryz.f9) (F := S_w103q) (n := 1) (ok_w103q 9 S_w103q rfl).2 (by kernel_rfl) (by kernel_rfl) rfl Tryz.underlying4 (fun x h => ⟨true, law_w103q x h, rfl⟩) rfl rfl
    (fun T ds h => by
      match ds, h with
      | [d0], _ => exact ⟨rfl, rfl, rfl⟩) hval0 hW
theorem fact9_0 : Rows.fnExactAllRowsRow.wf (OpenSpec.ofChange Rows.fnExactAllRowsSpec) = true := by kernel_rfl
theorem fact9_1 : laidOutB Tryz.pinned.checked.prog = true := by kernel_rfl
theorem fact9_2 : mapsRowed Tryz.pinned.checked.prog = true := by kernel_rfl
theorem fact9_3 : Tryz.f9.params.all (Tryz.pinned.checked.prog.readableRec ·) = true := by kernel_rfl
theorem fact9_4 : namedTie Tryz.pinned.checked.prog Rows.fnExactAllRowsRow.named Rows.fnExactAllRowsSpec.vars = true := by kernel_rfl
theorem fact9_5 : (Tryz.pinned.checked.prog.stops == []) = true := by kernel_rfl
theorem fact9_6 : (Tryz.pinned.checked.prog.stopKnobs == []) = true := by kernel_rfl
theorem fact9_7 : (Rows.fnExactAllRowsRow.inPlace == Tryz.pinned.checked.prog.inPlace 9) = true := by kernel_rfl
theorem fact9_8 : (Rows.fnExactAllRowsRow.unfollowed == Tryz.pinned.checked.prog.unfollowed 9) = true := by kernel_rfl
theorem fact9_9 : (Rows.fnExactAllRowsRow.recurses == Tryz.pinned.checked.prog.recurses 9) = true := by kernel_rfl
theorem fact9_10 : (Rows.fnExactAllRowsRow.named == Tryz.pinned.checked.prog.varsNamed 9) = true := by kernel_rfl
theorem fact9_11 : (Rows.fnExactAllRowsRow.maps == (Tryz.f9.params.toList ++ Rows.fnExactAllRowsSpec.plain.varTypes Tryz.pinned.checked.prog).any (Tryz.pinned.checked.prog.mapsRec ·)) = true := by kernel_rfl
theorem fact9_12 : (Rows.fnExactAllRowsRow.ifaces == (Tryz.f9.params.toList ++ Rows.fnExactAllRowsSpec.plain.varTypes Tryz.pinned.checked.prog).any (Tryz.pinned.checked.prog.ifacesRec ·)) = true := by kernel_rfl
theorem fact9_13 : (Rows.fnExactAllRowsRow.mapsOut == Tryz.pinned.checked.prog.mapsAmong Tryz.f9.resultTypes.toList) = true := by kernel_rfl
theorem fact9_14 : (Rows.fnExactAllRowsRow.loops == (Tryz.f9.params.toList ++ Rows.fnExactAllRowsSpec.plain.varTypes Tryz.pinned.checked.prog).any (Tryz.pinned.checked.prog.loopsFrom ·)) = true := by kernel_rfl
theorem fact9_15 : (Rows.fnExactAllRowsRow.wideKeys == (Tryz.f9.params.toList ++ Rows.fnExactAllRowsSpec.plain.varTypes Tryz.pinned.checked.prog ++ Tryz.f9.resultTypes.toList).any (Tryz.pinned.checked.prog.wideKeysFrom ·)) = true := by kernel_rfl
theorem fact9_16 : Tryz.f9.resultTypes.all (fun t => Tryz.pinned.checked.prog.readableRec t && decide (t < Tryz.pinned.checked.prog.types.size)) = true := by kernel_rfl
theorem fact9_17 : (Rows.fnExactAllRowsRow.ifacesOut == Tryz.f9.resultTypes.toList.any (Tryz.pinned.checked.prog.ifacesRec ·)) = true := by kernel_rfl
theorem fact9_18 : (Rows.fnExactAllRowsRow.loopsOut == Tryz.f9.resultTypes.toList.any (Tryz.pinned.checked.prog.loopsFrom ·)) = true := by kernel_rfl
theorem fact9_19 : (Rows.fnExactAllRowsRow.plainKeys == Tryz.pinned.checked.prog.plainKeys) = true := by kernel_rfl
theorem fact9_20 : Tryz.pinned.checked.prog.stopsHeard = true := by kernel_rfl
theorem fact9_21 : Tryz.pinned.checked.prog.mayEnter = true := by kernel_rfl
theorem fact9_22 : (Rows.fnExactAllRowsRow.lifted == Tryz.pinned.checked.prog.liftsFinal) = true := by kernel_rfl
theorem fact9_23 : (Tryz.pinned.checked.prog.make == some Rows.fnExactAllRowsRow.make) = true := by kernel_rfl
theorem fact9_24 : (Rows.fnExactAllRowsRow.pinned == Rows.fnExactAllRowsRow.pinnedBy) = true := by kernel_rfl
theorem fact9_25 : (Rows.fnExactAllRowsRow.veiled == (Tryz.f9.params.toList ++ Rows.fnExactAllRowsSpec.plain.varTypes Tryz.pinned.checked.prog ++ Tryz.f9.resultTypes.toList).any (Tryz.pinned.checked.prog.veiledRec ·)) = true := by kernel_rfl
theorem fact9_26 : Rows.fnExactAllRowsRow.veiledFits Tryz.pinned.checked.prog Tryz.f9.params.toList (Tryz.f9.params.toList ++ Rows.fnExactAllRowsSpec.plain.varTypes Tryz.pinned.checked.prog ++ Tryz.f9.resultTypes.toList) = true := by kernel_rfl
theorem closed9 : joinedFacts Tryz.pinned.checked.prog 9 Tryz.f9 Rows.fnExactAllRowsSpec Rows.fnExactAllRowsRow = true := by
  unfold joinedFacts
  rw [fact9_0, fact9_1, fact9_2, fact9_3, fact9_4, fact9_5, fact9_6, fact9_7, fact9_8, fact9_9, fact9_10, fact9_11, fact9_12, fact9_13, fact9_14, fact9_15, fact9_16, fact9_17, fact9_18, fact9_19, fact9_20, fact9_21, fact9_22, fact9_23, fact9_24, fact9_25, fact9_26]
  rfl
theorem over9 : Rows.fnExactAllRowsRow.holds Tryz.pinned (OpenSpec.ofChange Rows.fnExactAllRowsSpec) :=
  OpenClaim.holds_of_wide 9 Tryz.f9 rfl rfl rfl rfl rfl rfl rfl ⟨rfl, rfl, rfl, rfl, rfl⟩ rfl rfl rfl rfl rfl (by kernel_rfl) Tryz.func9 closed9
    (of_decide_eq_true (by kernel_rfl)) (by unfold Func.isWrapper; first | (rw [if_pos (by decide +kernel)]; kernel_rfl) | (rw [if_neg (by decide +kernel)]; exact ⟨rfl, rfl⟩))
    (fun os started H enc _ => lifted9 os started H enc)
/-- The row. -/
theorem fnExactAllRows_holds : Rows.FnExactAllRowsSaid := over9
#print axioms fnExactAllRows_holds
end Go.Proofs.YtbeplmdadjgamaaGreat
