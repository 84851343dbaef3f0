/- FnExactWriteBatch: whatever data come in, the law's function returns true, and the data read as they did. No condition. -/
import Derived.Test.YtbeplmdadjgamaaGreatRows
import Derived.Test.YtbeplmdadjgamaaGreatRvE10
import Derived.Test.YtbeplmdadjgamaaGreatPure10
import Derived.SizedLaws
import Derived.OpenShut
import Derived.WalkKit
import Derived.ProofKit
namespace Go.Proofs.YtbeplmdadjgamaaGreat
open Go.Rv Go.RvP Go.RowKit Go.ChangeShapes Go.WideShapes
theorem own10 : ownKnob Tryz.prog.godebug = none := by kernel_rfl
set_option maxRecDepth 100000 in
theorem lifted10 (os : Os) (started : os.Started) (H : Type) (enc : TypeId × Value → H) :
    ReturnsInHanded {} Tryz.checked os 10 .any (Rows.fnExactWriteBatchSpec.pre6 enc Tryz.prog Tryz.f10 Rows.fnExactWriteBatchRow.domain false) (Rows.fnExactWriteBatchSpec.post enc Tryz.prog Tryz.f10 false true false false) := by
  refine returnsInHanded_of_change_sized (C := Tryz.checked) own10 started (by kernel_rfl) Tryz.func10
    (ChangeSpec.witness6 (enc := enc) (C := Tryz.checked) false ⟨#[], #[.agg #[.slice none 0 0, .slice none 0 0, .slice none 0 0, .slice none 0 0, .int .i64 0], .slice none 0 0, .bool false], []⟩ 8 (by kernel_rfl) (by kernel_rfl) (by kernel_rfl) (by kernel_rfl)) ?_
  intro W base args ds gs before hval0 hW hcnd hsz0 _
  exact law_calls (C := Tryz.checked) (f := 10) (fn := Tryz.f10) (F := S_laws_FnExactWriteBatch) (n := 3) (ok_laws_FnExactWriteBatch 10 S_laws_FnExactWriteBatch rfl).2 (by kernel_rfl) (by kernel_rfl) rfl Tryz.underlying4 (fun x h => ⟨true, law_laws_FnExactWriteBatch x h, rfl⟩) rfl rfl
    (fun T ds h => by
      match ds, h with
      | [d0, d1, d2], _ => exact ⟨rfl, rfl, rfl⟩) hval0 hW
theorem fact10_0 : Rows.fnExactWriteBatchRow.wf (OpenSpec.ofChange Rows.fnExactWriteBatchSpec) = true := by kernel_rfl
theorem fact10_1 : laidOutB Tryz.pinned.checked.prog = true := by kernel_rfl
theorem fact10_2 : mapsRowed Tryz.pinned.checked.prog = true := by kernel_rfl
theorem fact10_3 : Tryz.f10.params.all (Tryz.pinned.checked.prog.readableRec ·) = true := by kernel_rfl
theorem fact10_4 : namedTie Tryz.pinned.checked.prog Rows.fnExactWriteBatchRow.named Rows.fnExactWriteBatchSpec.vars = true := by kernel_rfl
theorem fact10_5 : (Tryz.pinned.checked.prog.stops == []) = true := by kernel_rfl
theorem fact10_6 : (Tryz.pinned.checked.prog.stopKnobs == []) = true := by kernel_rfl
theorem fact10_7 : (Rows.fnExactWriteBatchRow.inPlace == Tryz.pinned.checked.prog.inPlace 10) = true := by kernel_rfl
theorem fact10_8 : (Rows.fnExactWriteBatchRow.unfollowed == Tryz.pinned.checked.prog.unfollowed 10) = true := by kernel_rfl
theorem fact10_9 : (Rows.fnExactWriteBatchRow.recurses == Tryz.pinned.checked.prog.recurses 10) = true := by kernel_rfl
theorem fact10_10 : (Rows.fnExactWriteBatchRow.named == Tryz.pinned.checked.prog.varsNamed 10) = true := by kernel_rfl
theorem fact10_11 : (Rows.fnExactWriteBatchRow.maps == (Tryz.f10.params.toList ++ Rows.fnExactWriteBatchSpec.plain.varTypes Tryz.pinned.checked.prog).any (Tryz.pinned.checked.prog.mapsRec ·)) = true := by kernel_rfl
theorem fact10_12 : (Rows.fnExactWriteBatchRow.ifaces == (Tryz.f10.params.toList ++ Rows.fnExactWriteBatchSpec.plain.varTypes Tryz.pinned.checked.prog).any (Tryz.pinned.checked.prog.ifacesRec ·)) = true := by kernel_rfl
theorem fact10_13 : (Rows.fnExactWriteBatchRow.mapsOut == Tryz.pinned.checked.prog.mapsAmong Tryz.f10.resultTypes.toList) = true := by kernel_rfl
theorem fact10_14 : (Rows.fnExactWriteBatchRow.loops == (Tryz.f10.params.toList ++ Rows.fnExactWriteBatchSpec.plain.varTypes Tryz.pinned.checked.prog).any (Tryz.pinned.checked.prog.loopsFrom ·)) = true := by kernel_rfl
theorem fact10_15 : (Rows.fnExactWriteBatchRow.wideKeys == (Tryz.f10.params.toList ++ Rows.fnExactWriteBatchSpec.plain.varTypes Tryz.pinned.checked.prog ++ Tryz.f10.resultTypes.toList).any (Tryz.pinned.checked.prog.wideKeysFrom ·)) = true := by kernel_rfl
theorem fact10_16 : Tryz.f10.resultTypes.all (fun t => Tryz.pinned.checked.prog.readableRec t && decide (t < Tryz.pinned.checked.prog.types.size)) = true := by kernel_rfl
theorem fact10_17 : (Rows.fnExactWriteBatchRow.ifacesOut == Tryz.f10.resultTypes.toList.any (Tryz.pinned.checked.prog.ifacesRec ·)) = true := by kernel_rfl
theorem fact10_18 : (Rows.fnExactWriteBatchRow.loopsOut == Tryz.f10.resultTypes.toList.any (Tryz.pinned.checked.prog.loopsFrom ·)) = true := by kernel_rfl
theorem fact10_19 : (Rows.fnExactWriteBatchRow.plainKeys == Tryz.pinned.checked.prog.plainKeys) = true := by kernel_rfl
theorem fact10_20 : Tryz.pinned.checked.prog.stopsHeard = true := by kernel_rfl
theorem fact10_21 : Tryz.pinned.checked.prog.mayEnter = true := by kernel_rfl
theorem fact10_22 : (Rows.fnExactWriteBatchRow.lifted == Tryz.pinned.checked.prog.liftsFinal) = true := by kernel_rfl
theorem fact10_23 : (Tryz.pinned.checked.prog.make == some Rows.fnExactWriteBatchRow.make) = true := by kernel_rfl
theorem fact10_24 : (Rows.fnExactWriteBatchRow.pinned == Rows.fnExactWriteBatchRow.pinnedBy) = true := by kernel_rfl
theorem fact10_25 : (Rows.fnExactWriteBatchRow.veiled == (Tryz.f10.params.toList ++ Rows.fnExactWriteBatchSpec.plain.varTypes Tryz.pinned.checked.prog ++ Tryz.f10.resultTypes.toList).any (Tryz.pinned.checked.prog.veiledRec ·)) = true := by kernel_rfl
theorem fact10_26 : Rows.fnExactWriteBatchRow.veiledFits Tryz.pinned.checked.prog Tryz.f10.params.toList (Tryz.f10.params.toList ++ Rows.fnExactWriteBatchSpec.plain.varTypes Tryz.pinned.checked.prog ++ Tryz.f10.resultTypes.toList) = true := by kernel_rfl
theorem closed10 : joinedFacts Tryz.pinned.checked.prog 10 Tryz.f10 Rows.fnExactWriteBatchSpec Rows.fnExactWriteBatchRow = true := by
  unfold joinedFacts
  rw [fact10_0, fact10_1, fact10_2, fact10_3, fact10_4, fact10_5, fact10_6, fact10_7, fact10_8, fact10_9, fact10_10, fact10_11, fact10_12, fact10_13, fact10_14, fact10_15, fact10_16, fact10_17, fact10_18, fact10_19, fact10_20, fact10_21, fact10_22, fact10_23, fact10_24, fact10_25, fact10_26]
  rfl
theorem over10 : Rows.fnExactWriteBatchRow.holds Tryz.pinned (OpenSpec.ofChange Rows.fnExactWriteBatchSpec) :=
  OpenClaim.holds_of_wide 10 Tryz.f10 rfl rfl rfl rfl rfl rfl rfl ⟨rfl, rfl, rfl, rfl, rfl⟩ rfl rfl rfl rfl rfl (by kernel_rfl) Tryz.func10 closed10
    (of_decide_eq_true (by kernel_rfl)) (by unfold Func.isWrapper; first | (rw [if_pos (by decide +kernel)]; kernel_rfl) | (rw [if_neg (by decide +kernel)]; exact ⟨rfl, rfl⟩))
    (fun os started H enc _ => lifted10 os started H enc)
/-- The row. -/
theorem fnExactWriteBatch_holds : Rows.FnExactWriteBatchSaid := over10
#print axioms fnExactWriteBatch_holds
end Go.Proofs.YtbeplmdadjgamaaGreat
