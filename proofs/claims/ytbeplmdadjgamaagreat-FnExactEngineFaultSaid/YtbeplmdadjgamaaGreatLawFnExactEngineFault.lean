/- FnExactEngineFault: whatever data come in, the law's function returns true, and the data read as they did. No condition. -/
import Derived.Test.YtbeplmdadjgamaaGreatRows
import Derived.Test.YtbeplmdadjgamaaGreatRvE4
import Derived.Test.YtbeplmdadjgamaaGreatPure4
import Derived.SizedLaws
import Derived.OpenShut
import Derived.WalkKit
import Derived.ProofKit
namespace Go.Proofs.YtbeplmdadjgamaaGreat
open Go.Rv Go.RvP Go.RowKit Go.ChangeShapes Go.WideShapes
theorem own4 : ownKnob Tryz.prog.godebug = none := by kernel_rfl
set_option maxRecDepth 100000 in
theorem lifted4 (os : Os) (started : os.Started) (H : Type) (enc : TypeId × Value → H) :
    ReturnsInHanded {} Tryz.checked os 4 .any (Rows.fnExactEngineFaultSpec.pre6 enc Tryz.prog Tryz.f4 Rows.fnExactEngineFaultRow.domain false) (Rows.fnExactEngineFaultSpec.post enc Tryz.prog Tryz.f4 false true false false) := by
  refine returnsInHanded_of_change_sized (C := Tryz.checked) own4 started (by kernel_rfl) Tryz.func4
    (ChangeSpec.witness6 (enc := enc) (C := Tryz.checked) false ⟨#[], #[.agg #[.slice none 0 0, .slice none 0 0, .slice none 0 0, .slice none 0 0, .int .i64 0]], []⟩ 8 (by kernel_rfl) (by kernel_rfl) (by kernel_rfl) (by kernel_rfl)) ?_
  intro W base args ds gs before hval0 hW hcnd hsz0 _
  exact law_calls (C := Tryz.checked) (f := 4) (fn := Tryz.f4) (F := S_laws_FnExactEngineFault) (n := 1) (ok_laws_FnExactEngineFault 4 S_laws_FnExactEngineFault rfl).2 (by kernel_rfl) (by kernel_rfl) rfl Tryz.underlying4 (fun x h => ⟨true, law_laws_FnExactEngineFault x h, rfl⟩) rfl rfl
    (fun T ds h => by
      match ds, h with
      | [d0], _ => exact ⟨rfl, rfl, rfl⟩) hval0 hW
theorem fact4_0 : Rows.fnExactEngineFaultRow.wf (OpenSpec.ofChange Rows.fnExactEngineFaultSpec) = true := by kernel_rfl
theorem fact4_1 : laidOutB Tryz.pinned.checked.prog = true := by kernel_rfl
theorem fact4_2 : mapsRowed Tryz.pinned.checked.prog = true := by kernel_rfl
theorem fact4_3 : Tryz.f4.params.all (Tryz.pinned.checked.prog.readableRec ·) = true := by kernel_rfl
theorem fact4_4 : namedTie Tryz.pinned.checked.prog Rows.fnExactEngineFaultRow.named Rows.fnExactEngineFaultSpec.vars = true := by kernel_rfl
theorem fact4_5 : (Tryz.pinned.checked.prog.stops == []) = true := by kernel_rfl
theorem fact4_6 : (Tryz.pinned.checked.prog.stopKnobs == []) = true := by kernel_rfl
theorem fact4_7 : (Rows.fnExactEngineFaultRow.inPlace == Tryz.pinned.checked.prog.inPlace 4) = true := by kernel_rfl
theorem fact4_8 : (Rows.fnExactEngineFaultRow.unfollowed == Tryz.pinned.checked.prog.unfollowed 4) = true := by kernel_rfl
theorem fact4_9 : (Rows.fnExactEngineFaultRow.recurses == Tryz.pinned.checked.prog.recurses 4) = true := by kernel_rfl
theorem fact4_10 : (Rows.fnExactEngineFaultRow.named == Tryz.pinned.checked.prog.varsNamed 4) = true := by kernel_rfl
theorem fact4_11 : (Rows.fnExactEngineFaultRow.maps == (Tryz.f4.params.toList ++ Rows.fnExactEngineFaultSpec.plain.varTypes Tryz.pinned.checked.prog).any (Tryz.pinned.checked.prog.mapsRec ·)) = true := by kernel_rfl
theorem fact4_12 : (Rows.fnExactEngineFaultRow.ifaces == (Tryz.f4.params.toList ++ Rows.fnExactEngineFaultSpec.plain.varTypes Tryz.pinned.checked.prog).any (Tryz.pinned.checked.prog.ifacesRec ·)) = true := by kernel_rfl
theorem fact4_13 : (Rows.fnExactEngineFaultRow.mapsOut == Tryz.pinned.checked.prog.mapsAmong Tryz.f4.resultTypes.toList) = true := by kernel_rfl
theorem fact4_14 : (Rows.fnExactEngineFaultRow.loops == (Tryz.f4.params.toList ++ Rows.fnExactEngineFaultSpec.plain.varTypes Tryz.pinned.checked.prog).any (Tryz.pinned.checked.prog.loopsFrom ·)) = true := by kernel_rfl
theorem fact4_15 : (Rows.fnExactEngineFaultRow.wideKeys == (Tryz.f4.params.toList ++ Rows.fnExactEngineFaultSpec.plain.varTypes Tryz.pinned.checked.prog ++ Tryz.f4.resultTypes.toList).any (Tryz.pinned.checked.prog.wideKeysFrom ·)) = true := by kernel_rfl
theorem fact4_16 : Tryz.f4.resultTypes.all (fun t => Tryz.pinned.checked.prog.readableRec t && decide (t < Tryz.pinned.checked.prog.types.size)) = true := by kernel_rfl
theorem fact4_17 : (Rows.fnExactEngineFaultRow.ifacesOut == Tryz.f4.resultTypes.toList.any (Tryz.pinned.checked.prog.ifacesRec ·)) = true := by kernel_rfl
theorem fact4_18 : (Rows.fnExactEngineFaultRow.loopsOut == Tryz.f4.resultTypes.toList.any (Tryz.pinned.checked.prog.loopsFrom ·)) = true := by kernel_rfl
theorem fact4_19 : (Rows.fnExactEngineFaultRow.plainKeys == Tryz.pinned.checked.prog.plainKeys) = true := by kernel_rfl
theorem fact4_20 : Tryz.pinned.checked.prog.stopsHeard = true := by kernel_rfl
theorem fact4_21 : Tryz.pinned.checked.prog.mayEnter = true := by kernel_rfl
theorem fact4_22 : (Rows.fnExactEngineFaultRow.lifted == Tryz.pinned.checked.prog.liftsFinal) = true := by kernel_rfl
theorem fact4_23 : (Tryz.pinned.checked.prog.make == some Rows.fnExactEngineFaultRow.make) = true := by kernel_rfl
theorem fact4_24 : (Rows.fnExactEngineFaultRow.pinned == Rows.fnExactEngineFaultRow.pinnedBy) = true := by kernel_rfl
theorem fact4_25 : (Rows.fnExactEngineFaultRow.veiled == (Tryz.f4.params.toList ++ Rows.fnExactEngineFaultSpec.plain.varTypes Tryz.pinned.checked.prog ++ Tryz.f4.resultTypes.toList).any (Tryz.pinned.checked.prog.veiledRec ·)) = true := by kernel_rfl
theorem fact4_26 : Rows.fnExactEngineFaultRow.veiledFits Tryz.pinned.checked.prog Tryz.f4.params.toList (Tryz.f4.params.toList ++ Rows.fnExactEngineFaultSpec.plain.varTypes Tryz.pinned.checked.prog ++ Tryz.f4.resultTypes.toList) = true := by kernel_rfl
theorem closed4 : joinedFacts Tryz.pinned.checked.prog 4 Tryz.f4 Rows.fnExactEngineFaultSpec Rows.fnExactEngineFaultRow = true := by
  unfold joinedFacts
  rw [fact4_0, fact4_1, fact4_2, fact4_3, fact4_4, fact4_5, fact4_6, fact4_7, fact4_8, fact4_9, fact4_10, fact4_11, fact4_12, fact4_13, fact4_14, fact4_15, fact4_16, fact4_17, fact4_18, fact4_19, fact4_20, fact4_21, fact4_22, fact4_23, fact4_24, fact4_25, fact4_26]
  rfl
theorem over4 : Rows.fnExactEngineFaultRow.holds Tryz.pinned (OpenSpec.ofChange Rows.fnExactEngineFaultSpec) :=
  OpenClaim.holds_of_wide 4 Tryz.f4 rfl rfl rfl rfl rfl rfl rfl ⟨rfl, rfl, rfl, rfl, rfl⟩ rfl rfl rfl rfl rfl (by kernel_rfl) Tryz.func4 closed4
    (of_decide_eq_true (by kernel_rfl)) (by unfold Func.isWrapper; first | (rw [if_pos (by decide +kernel)]; kernel_rfl) | (rw [if_neg (by decide +kernel)]; exact ⟨rfl, rfl⟩))
    (fun os started H enc _ => lifted4 os started H enc)
/-- The row. -/
theorem fnExactEngineFault_holds : Rows.FnExactEngineFaultSaid := over4
#print axioms fnExactEngineFault_holds
end Go.Proofs.YtbeplmdadjgamaaGreat
