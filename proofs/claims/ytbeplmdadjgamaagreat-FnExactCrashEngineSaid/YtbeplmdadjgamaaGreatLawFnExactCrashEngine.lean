/- FnExactCrashEngine: whatever data come in, the law's function returns true, and the data read as they did. No condition. -/
import Derived.Test.YtbeplmdadjgamaaGreatRows
import Derived.Test.YtbeplmdadjgamaaGreatRvE7
import Derived.Test.YtbeplmdadjgamaaGreatPure7
import Derived.SizedLaws
import Derived.OpenShut
import Derived.WalkKit
import Derived.ProofKit
namespace Go.Proofs.YtbeplmdadjgamaaGreat
open Go.Rv Go.RvP Go.RowKit Go.ChangeShapes Go.WideShapes
theorem own7 : ownKnob Tryz.prog.godebug = none := by kernel_rfl
set_option maxRecDepth 100000 in
theorem lifted7 (os : Os) (started : os.Started) (H : Type) (enc : TypeId × Value → H) :
    ReturnsInHanded {} Tryz.checked os 7 .any (Rows.fnExactCrashEngineSpec.pre6 enc Tryz.prog Tryz.f7 Rows.fnExactCrashEngineRow.domain false) (Rows.fnExactCrashEngineSpec.post enc Tryz.prog Tryz.f7 false true false false) := by
  refine returnsInHanded_of_change_sized (C := Tryz.checked) own7 started (by kernel_rfl) Tryz.func7
    (ChangeSpec.witness6 (enc := enc) (C := Tryz.checked) false ⟨#[], #[.agg #[.slice none 0 0, .slice none 0 0, .slice none 0 0, .slice none 0 0, .int .i64 0], .int .i64 0], []⟩ 8 (by kernel_rfl) (by kernel_rfl) (by kernel_rfl) (by kernel_rfl)) ?_
  intro W base args ds gs before hval0 hW hcnd hsz0 _
  exact law_calls (C := Tryz.checked) (f := 7) (fn := Tryz.f7) (F := S_laws_FnExactCrashEngine) (n := 2) (ok_laws_FnExactCrashEngine 7 S_laws_FnExactCrashEngine rfl).2 (by kernel_rfl) (by kernel_rfl) rfl Tryz.underlying4 (fun x h => ⟨true, law_laws_FnExactCrashEngine x h, rfl⟩) rfl rfl
    (fun T ds h => by
      match ds, h with
      | [d0, d1], _ => exact ⟨rfl, rfl, rfl⟩) hval0 hW
theorem fact7_0 : Rows.fnExactCrashEngineRow.wf (OpenSpec.ofChange Rows.fnExactCrashEngineSpec) = true := by kernel_rfl
theorem fact7_1 : laidOutB Tryz.pinned.checked.prog = true := by kernel_rfl
theorem fact7_2 : mapsRowed Tryz.pinned.checked.prog = true := by kernel_rfl
theorem fact7_3 : Tryz.f7.params.all (Tryz.pinned.checked.prog.readableRec ·) = true := by kernel_rfl
theorem fact7_4 : namedTie Tryz.pinned.checked.prog Rows.fnExactCrashEngineRow.named Rows.fnExactCrashEngineSpec.vars = true := by kernel_rfl
theorem fact7_5 : (Tryz.pinned.checked.prog.stops == []) = true := by kernel_rfl
theorem fact7_6 : (Tryz.pinned.checked.prog.stopKnobs == []) = true := by kernel_rfl
theorem fact7_7 : (Rows.fnExactCrashEngineRow.inPlace == Tryz.pinned.checked.prog.inPlace 7) = true := by kernel_rfl
theorem fact7_8 : (Rows.fnExactCrashEngineRow.unfollowed == Tryz.pinned.checked.prog.unfollowed 7) = true := by kernel_rfl
theorem fact7_9 : (Rows.fnExactCrashEngineRow.recurses == Tryz.pinned.checked.prog.recurses 7) = true := by kernel_rfl
theorem fact7_10 : (Rows.fnExactCrashEngineRow.named == Tryz.pinned.checked.prog.varsNamed 7) = true := by kernel_rfl
theorem fact7_11 : (Rows.fnExactCrashEngineRow.maps == (Tryz.f7.params.toList ++ Rows.fnExactCrashEngineSpec.plain.varTypes Tryz.pinned.checked.prog).any (Tryz.pinned.checked.prog.mapsRec ·)) = true := by kernel_rfl
theorem fact7_12 : (Rows.fnExactCrashEngineRow.ifaces == (Tryz.f7.params.toList ++ Rows.fnExactCrashEngineSpec.plain.varTypes Tryz.pinned.checked.prog).any (Tryz.pinned.checked.prog.ifacesRec ·)) = true := by kernel_rfl
theorem fact7_13 : (Rows.fnExactCrashEngineRow.mapsOut == Tryz.pinned.checked.prog.mapsAmong Tryz.f7.resultTypes.toList) = true := by kernel_rfl
theorem fact7_14 : (Rows.fnExactCrashEngineRow.loops == (Tryz.f7.params.toList ++ Rows.fnExactCrashEngineSpec.plain.varTypes Tryz.pinned.checked.prog).any (Tryz.pinned.checked.prog.loopsFrom ·)) = true := by kernel_rfl
theorem fact7_15 : (Rows.fnExactCrashEngineRow.wideKeys == (Tryz.f7.params.toList ++ Rows.fnExactCrashEngineSpec.plain.varTypes Tryz.pinned.checked.prog ++ Tryz.f7.resultTypes.toList).any (Tryz.pinned.checked.prog.wideKeysFrom ·)) = true := by kernel_rfl
theorem fact7_16 : Tryz.f7.resultTypes.all (fun t => Tryz.pinned.checked.prog.readableRec t && decide (t < Tryz.pinned.checked.prog.types.size)) = true := by kernel_rfl
theorem fact7_17 : (Rows.fnExactCrashEngineRow.ifacesOut == Tryz.f7.resultTypes.toList.any (Tryz.pinned.checked.prog.ifacesRec ·)) = true := by kernel_rfl
theorem fact7_18 : (Rows.fnExactCrashEngineRow.loopsOut == Tryz.f7.resultTypes.toList.any (Tryz.pinned.checked.prog.loopsFrom ·)) = true := by kernel_rfl
theorem fact7_19 : (Rows.fnExactCrashEngineRow.plainKeys == Tryz.pinned.checked.prog.plainKeys) = true := by kernel_rfl
theorem fact7_20 : Tryz.pinned.checked.prog.stopsHeard = true := by kernel_rfl
theorem fact7_21 : Tryz.pinned.checked.prog.mayEnter = true := by kernel_rfl
theorem fact7_22 : (Rows.fnExactCrashEngineRow.lifted == Tryz.pinned.checked.prog.liftsFinal) = true := by kernel_rfl
theorem fact7_23 : (Tryz.pinned.checked.prog.make == some Rows.fnExactCrashEngineRow.make) = true := by kernel_rfl
theorem fact7_24 : (Rows.fnExactCrashEngineRow.pinned == Rows.fnExactCrashEngineRow.pinnedBy) = true := by kernel_rfl
theorem fact7_25 : (Rows.fnExactCrashEngineRow.veiled == (Tryz.f7.params.toList ++ Rows.fnExactCrashEngineSpec.plain.varTypes Tryz.pinned.checked.prog ++ Tryz.f7.resultTypes.toList).any (Tryz.pinned.checked.prog.veiledRec ·)) = true := by kernel_rfl
theorem fact7_26 : Rows.fnExactCrashEngineRow.veiledFits Tryz.pinned.checked.prog Tryz.f7.params.toList (Tryz.f7.params.toList ++ Rows.fnExactCrashEngineSpec.plain.varTypes Tryz.pinned.checked.prog ++ Tryz.f7.resultTypes.toList) = true := by kernel_rfl
theorem closed7 : joinedFacts Tryz.pinned.checked.prog 7 Tryz.f7 Rows.fnExactCrashEngineSpec Rows.fnExactCrashEngineRow = true := by
  unfold joinedFacts
  rw [fact7_0, fact7_1, fact7_2, fact7_3, fact7_4, fact7_5, fact7_6, fact7_7, fact7_8, fact7_9, fact7_10, fact7_11, fact7_12, fact7_13, fact7_14, fact7_15, fact7_16, fact7_17, fact7_18, fact7_19, fact7_20, fact7_21, fact7_22, fact7_23, fact7_24, fact7_25, fact7_26]
  rfl
theorem over7 : Rows.fnExactCrashEngineRow.holds Tryz.pinned (OpenSpec.ofChange Rows.fnExactCrashEngineSpec) :=
  OpenClaim.holds_of_wide 7 Tryz.f7 rfl rfl rfl rfl rfl rfl rfl ⟨rfl, rfl, rfl, rfl, rfl⟩ rfl rfl rfl rfl rfl (by kernel_rfl) Tryz.func7 closed7
    (of_decide_eq_true (by kernel_rfl)) (by unfold Func.isWrapper; first | (rw [if_pos (by decide +kernel)]; kernel_rfl) | (rw [if_neg (by decide +kernel)]; exact ⟨rfl, rfl⟩))
    (fun os started H enc _ => lifted7 os started H enc)
/-- The row. -/
theorem fnExactCrashEngine_holds : Rows.FnExactCrashEngineSaid := over7
#print axioms fnExactCrashEngine_holds
end Go.Proofs.YtbeplmdadjgamaaGreat
