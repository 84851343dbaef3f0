/- FnOutcomes: whatever data come in, the law's function returns true, and the data read as they did. No condition. -/
import Derived.Test.YtccghpomkikjoaaGreatRows
import Derived.Test.YtccghpomkikjoaaGreatRvE5
import Derived.Test.YtccghpomkikjoaaGreatPure5
import Derived.SizedLaws
import Derived.OpenShut
import Derived.WalkKit
import Derived.ProofKit
namespace Go.Proofs.YtccghpomkikjoaaGreat
open Go.Rv Go.RvP Go.RowKit Go.ChangeShapes Go.WideShapes
theorem own5 : ownKnob Tryz.prog.godebug = none := by kernel_rfl
set_option maxRecDepth 100000 in
theorem lifted5 (os : Os) (started : os.Started) (H : Type) (enc : TypeId × Value → H) :
    ReturnsInHanded {} Tryz.checked os 5 .any (Rows.fnOutcomesSpec.pre6 enc Tryz.prog Tryz.f5 Rows.fnOutcomesRow.domain false) (Rows.fnOutcomesSpec.post enc Tryz.prog Tryz.f5 false true false false) := by
  refine returnsInHanded_of_change_sized (C := Tryz.checked) own5 started (by kernel_rfl) Tryz.func5
    (ChangeSpec.witness6 (enc := enc) (C := Tryz.checked) false ⟨#[], #[.slice none 0 0], []⟩ 8 (by kernel_rfl) (by kernel_rfl) (by kernel_rfl) (by kernel_rfl)) ?_
  intro W base args ds gs before hval0 hW hcnd hsz0 _
  exact law_calls (C := Tryz.checked) (f := 5) (fn := Tryz.f5) (F := S_laws_FnOutcomes) (n := 1) (ok_laws_FnOutcomes 5 S_laws_FnOutcomes rfl).2 (by kernel_rfl) (by kernel_rfl) rfl Tryz.underlying4 (fun x h => ⟨true, law_laws_FnOutcomes x h, rfl⟩) rfl rfl
    (fun T ds h => by
      match ds, h with
      | [d0], _ => exact ⟨rfl, rfl, rfl⟩) hval0 hW
theorem fact5_0 : Rows.fnOutcomesRow.wf (OpenSpec.ofChange Rows.fnOutcomesSpec) = true := by kernel_rfl
theorem fact5_1 : laidOutB Tryz.pinned.checked.prog = true := by kernel_rfl
theorem fact5_2 : mapsRowed Tryz.pinned.checked.prog = true := by kernel_rfl
theorem fact5_3 : Tryz.f5.params.all (Tryz.pinned.checked.prog.readableRec ·) = true := by kernel_rfl
theorem fact5_4 : namedTie Tryz.pinned.checked.prog Rows.fnOutcomesRow.named Rows.fnOutcomesSpec.vars = true := by kernel_rfl
theorem fact5_5 : (Tryz.pinned.checked.prog.stops == []) = true := by kernel_rfl
theorem fact5_6 : (Tryz.pinned.checked.prog.stopKnobs == []) = true := by kernel_rfl
theorem fact5_7 : (Rows.fnOutcomesRow.inPlace == Tryz.pinned.checked.prog.inPlace 5) = true := by kernel_rfl
theorem fact5_8 : (Rows.fnOutcomesRow.unfollowed == Tryz.pinned.checked.prog.unfollowed 5) = true := by kernel_rfl
theorem fact5_9 : (Rows.fnOutcomesRow.recurses == Tryz.pinned.checked.prog.recurses 5) = true := by kernel_rfl
theorem fact5_10 : (Rows.fnOutcomesRow.named == Tryz.pinned.checked.prog.varsNamed 5) = true := by kernel_rfl
theorem fact5_11 : (Rows.fnOutcomesRow.maps == (Tryz.f5.params.toList ++ Rows.fnOutcomesSpec.plain.varTypes Tryz.pinned.checked.prog).any (Tryz.pinned.checked.prog.mapsRec ·)) = true := by kernel_rfl
theorem fact5_12 : (Rows.fnOutcomesRow.ifaces == (Tryz.f5.params.toList ++ Rows.fnOutcomesSpec.plain.varTypes Tryz.pinned.checked.prog).any (Tryz.pinned.checked.prog.ifacesRec ·)) = true := by kernel_rfl
theorem fact5_13 : (Rows.fnOutcomesRow.mapsOut == Tryz.pinned.checked.prog.mapsAmong Tryz.f5.resultTypes.toList) = true := by kernel_rfl
theorem fact5_14 : (Rows.fnOutcomesRow.loops == (Tryz.f5.params.toList ++ Rows.fnOutcomesSpec.plain.varTypes Tryz.pinned.checked.prog).any (Tryz.pinned.checked.prog.loopsFrom ·)) = true := by kernel_rfl
theorem fact5_15 : (Rows.fnOutcomesRow.wideKeys == (Tryz.f5.params.toList ++ Rows.fnOutcomesSpec.plain.varTypes Tryz.pinned.checked.prog ++ Tryz.f5.resultTypes.toList).any (Tryz.pinned.checked.prog.wideKeysFrom ·)) = true := by kernel_rfl
theorem fact5_16 : Tryz.f5.resultTypes.all (fun t => Tryz.pinned.checked.prog.readableRec t && decide (t < Tryz.pinned.checked.prog.types.size)) = true := by kernel_rfl
theorem fact5_17 : (Rows.fnOutcomesRow.ifacesOut == Tryz.f5.resultTypes.toList.any (Tryz.pinned.checked.prog.ifacesRec ·)) = true := by kernel_rfl
theorem fact5_18 : (Rows.fnOutcomesRow.loopsOut == Tryz.f5.resultTypes.toList.any (Tryz.pinned.checked.prog.loopsFrom ·)) = true := by kernel_rfl
theorem fact5_19 : (Rows.fnOutcomesRow.plainKeys == Tryz.pinned.checked.prog.plainKeys) = true := by kernel_rfl
theorem fact5_20 : Tryz.pinned.checked.prog.stopsHeard = true := by kernel_rfl
theorem fact5_21 : Tryz.pinned.checked.prog.mayEnter = true := by kernel_rfl
theorem fact5_22 : (Rows.fnOutcomesRow.lifted == Tryz.pinned.checked.prog.liftsFinal) = true := by kernel_rfl
theorem fact5_23 : (Tryz.pinned.checked.prog.make == some Rows.fnOutcomesRow.make) = true := by kernel_rfl
theorem fact5_24 : (Rows.fnOutcomesRow.pinned == Rows.fnOutcomesRow.pinnedBy) = true := by kernel_rfl
theorem fact5_25 : (Rows.fnOutcomesRow.veiled == (Tryz.f5.params.toList ++ Rows.fnOutcomesSpec.plain.varTypes Tryz.pinned.checked.prog ++ Tryz.f5.resultTypes.toList).any (Tryz.pinned.checked.prog.veiledRec ·)) = true := by kernel_rfl
theorem fact5_26 : Rows.fnOutcomesRow.veiledFits Tryz.pinned.checked.prog Tryz.f5.params.toList (Tryz.f5.params.toList ++ Rows.fnOutcomesSpec.plain.varTypes Tryz.pinned.checked.prog ++ Tryz.f5.resultTypes.toList) = true := by kernel_rfl
theorem closed5 : joinedFacts Tryz.pinned.checked.prog 5 Tryz.f5 Rows.fnOutcomesSpec Rows.fnOutcomesRow = true := by
  unfold joinedFacts
  rw [fact5_0, fact5_1, fact5_2, fact5_3, fact5_4, fact5_5, fact5_6, fact5_7, fact5_8, fact5_9, fact5_10, fact5_11, fact5_12, fact5_13, fact5_14, fact5_15, fact5_16, fact5_17, fact5_18, fact5_19, fact5_20, fact5_21, fact5_22, fact5_23, fact5_24, fact5_25, fact5_26]
  rfl
theorem over5 : Rows.fnOutcomesRow.holds Tryz.pinned (OpenSpec.ofChange Rows.fnOutcomesSpec) :=
  OpenClaim.holds_of_wide 5 Tryz.f5 rfl rfl rfl rfl rfl rfl rfl ⟨rfl, rfl, rfl, rfl, rfl⟩ rfl rfl rfl rfl rfl (by kernel_rfl) Tryz.func5 closed5
    (of_decide_eq_true (by kernel_rfl)) (by unfold Func.isWrapper; first | (rw [if_pos (by decide +kernel)]; kernel_rfl) | (rw [if_neg (by decide +kernel)]; exact ⟨rfl, rfl⟩))
    (fun os started H enc _ => lifted5 os started H enc)
/-- The row. -/
theorem fnOutcomes_holds : Rows.FnOutcomesSaid := over5
#print axioms fnOutcomes_holds
end Go.Proofs.YtccghpomkikjoaaGreat
