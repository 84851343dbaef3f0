/- FnExactCompactEngine: whatever data come in, the law's function returns true, and the data read as they did. No condition. -/
import Derived.Test.YtijgnpdbdgilkaaGreatRows
import Derived.Test.YtijgnpdbdgilkaaGreatRvE3
import Derived.Test.YtijgnpdbdgilkaaGreatPure3
import Derived.SizedLaws
import Derived.OpenShut
import Derived.WalkKit
import Derived.ProofKit
namespace Go.Proofs.YtijgnpdbdgilkaaGreat
open Go.Rv Go.RvP Go.RowKit Go.ChangeShapes Go.WideShapes
theorem own3 : ownKnob Tryz.prog.godebug = none := by kernel_rfl
set_option maxRecDepth 100000 in
theorem lifted3 (os : Os) (started : os.Started) (H : Type) (enc : TypeId × Value → H) :
    ReturnsInHanded {} Tryz.checked os 3 .any (Rows.fnExactCompactEngineSpec.pre6 enc Tryz.prog Tryz.f3 Rows.fnExactCompactEngineRow.domain false) (Rows.fnExactCompactEngineSpec.post enc Tryz.prog Tryz.f3 false true false false) := by
  refine returnsInHanded_of_change_sized (C := Tryz.checked) own3 started (by kernel_rfl) Tryz.func3
    (ChangeSpec.witness6 (enc := enc) (C := Tryz.checked) false ⟨#[], #[.agg #[.slice none 0 0, .slice none 0 0, .slice none 0 0, .slice none 0 0, .int .i64 0], .int .i64 0], []⟩ 8 (by kernel_rfl) (by kernel_rfl) (by kernel_rfl) (by kernel_rfl)) ?_
  intro W base args ds gs before hval0 hW hcnd hsz0 _
  exact law_calls (C := Tryz.checked) (f := 3) (fn := Tryz.f3) (F := S_w113q) (n := 2) (ok_w113q 3 S_w113q rfl).2 (by kernel_rfl) (by kernel_rfl) rfl Tryz.underlying4 (fun x h => ⟨true, law_w113q x h, rfl⟩) rfl rfl
    (fun T ds h => by
      match ds, h with
      | [d0, d1], _ => exact ⟨rfl, rfl, rfl⟩) hval0 hW
theorem fact3_0 : Rows.fnExactCompactEngineRow.wf (OpenSpec.ofChange Rows.fnExactCompactEngineSpec) = true := by kernel_rfl
theorem fact3_1 : laidOutB Tryz.pinned.checked.prog = true := by kernel_rfl
theorem fact3_2 : mapsRowed Tryz.pinned.checked.prog = true := by kernel_rfl
theorem fact3_3 : Tryz.f3.params.all (Tryz.pinned.checked.prog.readableRec ·) = true := by kernel_rfl
theorem fact3_4 : namedTie Tryz.pinned.checked.prog Rows.fnExactCompactEngineRow.named Rows.fnExactCompactEngineSpec.vars = true := by kernel_rfl
theorem fact3_5 : (Tryz.pinned.checked.prog.stops == []) = true := by kernel_rfl
theorem fact3_6 : (Tryz.pinned.checked.prog.stopKnobs == []) = true := by kernel_rfl
theorem fact3_7 : (Rows.fnExactCompactEngineRow.inPlace == Tryz.pinned.checked.prog.inPlace 3) = true := by kernel_rfl
theorem fact3_8 : (Rows.fnExactCompactEngineRow.unfollowed == Tryz.pinned.checked.prog.unfollowed 3) = true := by kernel_rfl
theorem fact3_9 : (Rows.fnExactCompactEngineRow.recurses == Tryz.pinned.checked.prog.recurses 3) = true := by kernel_rfl
theorem fact3_10 : (Rows.fnExactCompactEngineRow.named == Tryz.pinned.checked.prog.varsNamed 3) = true := by kernel_rfl
theorem fact3_11 : (Rows.fnExactCompactEngineRow.maps == (Tryz.f3.params.toList ++ Rows.fnExactCompactEngineSpec.plain.varTypes Tryz.pinned.checked.prog).any (Tryz.pinned.checked.prog.mapsRec ·)) = true := by kernel_rfl
theorem fact3_12 : (Rows.fnExactCompactEngineRow.ifaces == (Tryz.f3.params.toList ++ Rows.fnExactCompactEngineSpec.plain.varTypes Tryz.pinned.checked.prog).any (Tryz.pinned.checked.prog.ifacesRec ·)) = true := by kernel_rfl
theorem fact3_13 : (Rows.fnExactCompactEngineRow.mapsOut == Tryz.pinned.checked.prog.mapsAmong Tryz.f3.resultTypes.toList) = true := by kernel_rfl
theorem fact3_14 : (Rows.fnExactCompactEngineRow.loops == (Tryz.f3.params.toList ++ Rows.fnExactCompactEngineSpec.plain.varTypes Tryz.pinned.checked.prog).any (Tryz.pinned.checked.prog.loopsFrom ·)) = true := by kernel_rfl
theorem fact3_15 : (Rows.fnExactCompactEngineRow.wideKeys == (Tryz.f3.params.toList ++ Rows.fnExactCompactEngineSpec.plain.varTypes Tryz.pinned.checked.prog ++ Tryz.f3.resultTypes.toList).any (Tryz.pinned.checked.prog.wideKeysFrom ·)) = true := by kernel_rfl
theorem fact3_16 : Tryz.f3.resultTypes.all (fun t => Tryz.pinned.checked.prog.readableRec t && decide (t < Tryz.pinned.checked.prog.types.size)) = true := by kernel_rfl
theorem fact3_17 : (Rows.fnExactCompactEngineRow.ifacesOut == Tryz.f3.resultTypes.toList.any (Tryz.pinned.checked.prog.ifacesRec ·)) = true := by kernel_rfl
theorem fact3_18 : (Rows.fnExactCompactEngineRow.loopsOut == Tryz.f3.resultTypes.toList.any (Tryz.pinned.checked.prog.loopsFrom ·)) = true := by kernel_rfl
theorem fact3_19 : (Rows.fnExactCompactEngineRow.plainKeys == Tryz.pinned.checked.prog.plainKeys) = true := by kernel_rfl
theorem fact3_20 : Tryz.pinned.checked.prog.stopsHeard = true := by kernel_rfl
theorem fact3_21 : Tryz.pinned.checked.prog.mayEnter = true := by kernel_rfl
theorem fact3_22 : (Rows.fnExactCompactEngineRow.lifted == Tryz.pinned.checked.prog.liftsFinal) = true := by kernel_rfl
theorem fact3_23 : (Tryz.pinned.checked.prog.make == some Rows.fnExactCompactEngineRow.make) = true := by kernel_rfl
theorem fact3_24 : (Rows.fnExactCompactEngineRow.pinned == Rows.fnExactCompactEngineRow.pinnedBy) = true := by kernel_rfl
theorem fact3_25 : (Rows.fnExactCompactEngineRow.veiled == (Tryz.f3.params.toList ++ Rows.fnExactCompactEngineSpec.plain.varTypes Tryz.pinned.checked.prog ++ Tryz.f3.resultTypes.toList).any (Tryz.pinned.checked.prog.veiledRec ·)) = true := by kernel_rfl
theorem fact3_26 : Rows.fnExactCompactEngineRow.veiledFits Tryz.pinned.checked.prog Tryz.f3.params.toList (Tryz.f3.params.toList ++ Rows.fnExactCompactEngineSpec.plain.varTypes Tryz.pinned.checked.prog ++ Tryz.f3.resultTypes.toList) = true := by kernel_rfl
theorem closed3 : joinedFacts Tryz.pinned.checked.prog 3 Tryz.f3 Rows.fnExactCompactEngineSpec Rows.fnExactCompactEngineRow = true := by
  unfold joinedFacts
  rw [fact3_0, fact3_1, fact3_2, fact3_3, fact3_4, fact3_5, fact3_6, fact3_7, fact3_8, fact3_9, fact3_10, fact3_11, fact3_12, fact3_13, fact3_14, fact3_15, fact3_16, fact3_17, fact3_18, fact3_19, fact3_20, fact3_21, fact3_22, fact3_23, fact3_24, fact3_25, fact3_26]
  rfl
theorem over3 : Rows.fnExactCompactEngineRow.holds Tryz.pinned (OpenSpec.ofChange Rows.fnExactCompactEngineSpec) :=
  OpenClaim.holds_of_wide 3 Tryz.f3 rfl rfl rfl rfl rfl rfl rfl ⟨rfl, rfl, rfl, rfl, rfl⟩ rfl rfl rfl rfl rfl (by kernel_rfl) Tryz.func3 closed3
    (of_decide_eq_true (by kernel_rfl)) (by unfold Func.isWrapper; first | (rw [if_pos (by decide +kernel)]; kernel_rfl) | (rw [if_neg (by decide +kernel)]; exact ⟨rfl, rfl⟩))
    (fun os started H enc _ => lifted3 os started H enc)
/-- The row. -/
theorem fnExactCompactEngine_holds : Rows.FnExactCompactEngineSaid := over3
#print axioms fnExactCompactEngine_holds
end Go.Proofs.YtijgnpdbdgilkaaGreat
