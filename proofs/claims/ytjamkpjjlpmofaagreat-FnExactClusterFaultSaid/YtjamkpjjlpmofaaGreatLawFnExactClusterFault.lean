/- FnExactClusterFault: whatever data come in, the law's function returns true, and the data read as they did. No condition. -/
import Derived.Test.YtjamkpjjlpmofaaGreatRows
import Derived.Test.YtjamkpjjlpmofaaGreatRvE5
import Derived.Test.YtjamkpjjlpmofaaGreatPure5
import Derived.SizedLaws
import Derived.OpenShut
import Derived.WalkKit
import Derived.ProofKit
namespace Go.Proofs.YtjamkpjjlpmofaaGreat
open Go.Rv Go.RvP Go.RowKit Go.ChangeShapes Go.WideShapes
theorem own5 : ownKnob Tryz.prog.godebug = none := by kernel_rfl
set_option maxRecDepth 100000 in
theorem lifted5 (os : Os) (started : os.Started) (H : Type) (enc : TypeId × Value → H) :
    ReturnsInHanded {} Tryz.checked os 5 .any (Rows.fnExactClusterFaultSpec.pre6 enc Tryz.prog Tryz.f5 Rows.fnExactClusterFaultRow.domain false) (Rows.fnExactClusterFaultSpec.post enc Tryz.prog Tryz.f5 false true false false) := by
  refine returnsInHanded_of_change_sized (C := Tryz.checked) own5 started (by kernel_rfl) Tryz.func5
    (ChangeSpec.witness6 (enc := enc) (C := Tryz.checked) false ⟨#[], #[.agg #[.slice none 0 0, .slice none 0 0, .slice none 0 0, .slice none 0 0, .slice none 0 0]], []⟩ 8 (by kernel_rfl) (by kernel_rfl) (by kernel_rfl) (by kernel_rfl)) ?_
  intro W base args ds gs before hval0 hW hcnd hsz0 _
  exact law_calls (C := Tryz.checked) (f := 5) (fn := Tryz.f5) (F := S_w184q) (n := 1) (ok_w184q 5 S_w184q rfl).2.1 (by kernel_rfl) (by kernel_rfl) (by kernel_rfl) rfl Tryz.underlying4 (fun x h => ⟨true, law_w184q x h, rfl⟩) rfl rfl
    (fun T ds h => by
      match ds, h with
      | [d0], _ => exact ⟨rfl, rfl, rfl⟩) hval0 hW
theorem fact5_0 : Rows.fnExactClusterFaultRow.wf (OpenSpec.ofChange Rows.fnExactClusterFaultSpec) = true := by kernel_rfl
theorem fact5_1 : laidOutB Tryz.pinned.checked.prog = true := by kernel_rfl
theorem fact5_2 : mapsRowed Tryz.pinned.checked.prog = true := by kernel_rfl
theorem fact5_3 : Tryz.f5.params.all (Tryz.pinned.checked.prog.readableRec ·) = true := by kernel_rfl
theorem fact5_4 : namedTie Tryz.pinned.checked.prog Rows.fnExactClusterFaultRow.named Rows.fnExactClusterFaultSpec.vars = true := by kernel_rfl
theorem fact5_5 : (Tryz.pinned.checked.prog.stops == []) = true := by kernel_rfl
theorem fact5_6 : (Tryz.pinned.checked.prog.stopKnobs == []) = true := by kernel_rfl
theorem fact5_7 : (Rows.fnExactClusterFaultRow.inPlace == Tryz.pinned.checked.prog.inPlace 5) = true := by kernel_rfl
theorem fact5_8 : (Rows.fnExactClusterFaultRow.unfollowed == Tryz.pinned.checked.prog.unfollowed 5) = true := by kernel_rfl
theorem fact5_9 : (Rows.fnExactClusterFaultRow.recurses == Tryz.pinned.checked.prog.recurses 5) = true := by kernel_rfl
theorem fact5_10 : (Rows.fnExactClusterFaultRow.named == Tryz.pinned.checked.prog.varsNamed 5) = true := by kernel_rfl
theorem fact5_11 : (Rows.fnExactClusterFaultRow.maps == (Tryz.f5.params.toList ++ Rows.fnExactClusterFaultSpec.plain.varTypes Tryz.pinned.checked.prog).any (Tryz.pinned.checked.prog.mapsRec ·)) = true := by kernel_rfl
theorem fact5_12 : (Rows.fnExactClusterFaultRow.ifaces == (Tryz.f5.params.toList ++ Rows.fnExactClusterFaultSpec.plain.varTypes Tryz.pinned.checked.prog).any (Tryz.pinned.checked.prog.ifacesRec ·)) = true := by kernel_rfl
theorem fact5_13 : (Rows.fnExactClusterFaultRow.mapsOut == Tryz.pinned.checked.prog.mapsAmong Tryz.f5.resultTypes.toList) = true := by kernel_rfl
theorem fact5_14 : (Rows.fnExactClusterFaultRow.loops == (Tryz.f5.params.toList ++ Rows.fnExactClusterFaultSpec.plain.varTypes Tryz.pinned.checked.prog).any (Tryz.pinned.checked.prog.loopsFrom ·)) = true := by kernel_rfl
theorem fact5_15 : (Rows.fnExactClusterFaultRow.wideKeys == (Tryz.f5.params.toList ++ Rows.fnExactClusterFaultSpec.plain.varTypes Tryz.pinned.checked.prog ++ Tryz.f5.resultTypes.toList).any (Tryz.pinned.checked.prog.wideKeysFrom ·)) = true := by kernel_rfl
theorem fact5_16 : Tryz.f5.resultTypes.all (fun t => Tryz.pinned.checked.prog.readableRec t && decide (t < Tryz.pinned.checked.prog.types.size)) = true := by kernel_rfl
theorem fact5_17 : (Rows.fnExactClusterFaultRow.ifacesOut == Tryz.f5.resultTypes.toList.any (Tryz.pinned.checked.prog.ifacesRec ·)) = true := by kernel_rfl
theorem fact5_18 : (Rows.fnExactClusterFaultRow.loopsOut == Tryz.f5.resultTypes.toList.any (Tryz.pinned.checked.prog.loopsFrom ·)) = true := by kernel_rfl
theorem fact5_19 : (Rows.fnExactClusterFaultRow.plainKeys == Tryz.pinned.checked.prog.plainKeys) = true := by kernel_rfl
theorem fact5_20 : Tryz.pinned.checked.prog.stopsHeard = true := by kernel_rfl
theorem fact5_21 : Tryz.pinned.checked.prog.mayEnter = true := by kernel_rfl
theorem fact5_22 : (Rows.fnExactClusterFaultRow.lifted == Tryz.pinned.checked.prog.liftsFinal) = true := by kernel_rfl
theorem fact5_23 : (Tryz.pinned.checked.prog.make == some Rows.fnExactClusterFaultRow.make) = true := by kernel_rfl
theorem fact5_24 : (Rows.fnExactClusterFaultRow.pinned == Rows.fnExactClusterFaultRow.pinnedBy) = true := by kernel_rfl
theorem fact5_25 : (Rows.fnExactClusterFaultRow.veiled == (Tryz.f5.params.toList ++ Rows.fnExactClusterFaultSpec.plain.varTypes Tryz.pinned.checked.prog ++ Tryz.f5.resultTypes.toList).any (Tryz.pinned.checked.prog.veiledRec ·)) = true := by kernel_rfl
theorem fact5_26 : Rows.fnExactClusterFaultRow.veiledFits Tryz.pinned.checked.prog Tryz.f5.params.toList (Tryz.f5.params.toList ++ Rows.fnExactClusterFaultSpec.plain.varTypes Tryz.pinned.checked.prog ++ Tryz.f5.resultTypes.toList) = true := by kernel_rfl
theorem closed5 : joinedFacts Tryz.pinned.checked.prog 5 Tryz.f5 Rows.fnExactClusterFaultSpec Rows.fnExactClusterFaultRow = true := by
  unfold joinedFacts
  rw [fact5_0, fact5_1, fact5_2, fact5_3, fact5_4, fact5_5, fact5_6, fact5_7, fact5_8, fact5_9, fact5_10, fact5_11, fact5_12, fact5_13, fact5_14, fact5_15, fact5_16, fact5_17, fact5_18, fact5_19, fact5_20, fact5_21, fact5_22, fact5_23, fact5_24, fact5_25, fact5_26]
  rfl
theorem over5 : Rows.fnExactClusterFaultRow.holds Tryz.pinned (OpenSpec.ofChange Rows.fnExactClusterFaultSpec) :=
  OpenClaim.holds_of_wide 5 Tryz.f5 rfl rfl rfl rfl rfl rfl rfl ⟨rfl, rfl, rfl, rfl, rfl⟩ rfl rfl rfl rfl rfl (by kernel_rfl) Tryz.func5 closed5
    (of_decide_eq_true (by kernel_rfl)) (by unfold Func.isWrapper; first | (rw [if_pos (by decide +kernel)]; kernel_rfl) | (rw [if_neg (by decide +kernel)]; exact ⟨rfl, rfl⟩))
    (fun os started H enc _ => lifted5 os started H enc)
/-- The row. -/
theorem fnExactClusterFault_holds : Rows.FnExactClusterFaultSaid := over5
#print axioms fnExactClusterFault_holds
end Go.Proofs.YtjamkpjjlpmofaaGreat
