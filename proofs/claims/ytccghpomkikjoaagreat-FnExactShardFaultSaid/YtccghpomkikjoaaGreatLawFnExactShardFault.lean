/- FnExactShardFault: whatever data come in, the law's function returns true, and the data read as they did. No condition. -/
import Derived.Test.YtccghpomkikjoaaGreatRows
import Derived.Test.YtccghpomkikjoaaGreatRvE7
import Derived.Test.YtccghpomkikjoaaGreatPure7
import Derived.SizedLaws
import Derived.OpenShut
import Derived.WalkKit
import Derived.ProofKit
namespace Go.Proofs.YtccghpomkikjoaaGreat
open Go.Rv Go.RvP Go.RowKit Go.ChangeShapes Go.WideShapes
theorem own7 : ownKnob Tryz.prog.godebug = none := by kernel_rfl
set_option maxRecDepth 100000 in
theorem lifted7 (os : Os) (started : os.Started) (H : Type) (enc : TypeId × Value → H) :
    ReturnsInHanded {} Tryz.checked os 7 .any (Rows.fnExactShardFaultSpec.pre6 enc Tryz.prog Tryz.f7 Rows.fnExactShardFaultRow.domain false) (Rows.fnExactShardFaultSpec.post enc Tryz.prog Tryz.f7 false true false false) := by
  refine returnsInHanded_of_change_sized (C := Tryz.checked) own7 started (by kernel_rfl) Tryz.func7
    (ChangeSpec.witness6 (enc := enc) (C := Tryz.checked) false ⟨#[], #[.agg #[.int .i64 0, .slice none 0 0, .slice none 0 0, .slice none 0 0, .slice none 0 0, .slice none 0 0]], []⟩ 8 (by kernel_rfl) (by kernel_rfl) (by kernel_rfl) (by kernel_rfl)) ?_
  intro W base args ds gs before hval0 hW hcnd hsz0 _
  exact law_calls (C := Tryz.checked) (f := 7) (fn := Tryz.f7) (F := S_laws_FnExactShardFault) (n := 1) (ok_laws_FnExactShardFault 7 S_laws_FnExactShardFault rfl).2 (by kernel_rfl) (by kernel_rfl) rfl Tryz.underlying4 (fun x h => ⟨true, law_laws_FnExactShardFault x h, rfl⟩) rfl rfl
    (fun T ds h => by
      match ds, h with
      | [d0], _ => exact ⟨rfl, rfl, rfl⟩) hval0 hW
theorem fact7_0 : Rows.fnExactShardFaultRow.wf (OpenSpec.ofChange Rows.fnExactShardFaultSpec) = true := by kernel_rfl
theorem fact7_1 : laidOutB Tryz.pinned.checked.prog = true := by kernel_rfl
theorem fact7_2 : mapsRowed Tryz.pinned.checked.prog = true := by kernel_rfl
theorem fact7_3 : Tryz.f7.params.all (Tryz.pinned.checked.prog.readableRec ·) = true := by kernel_rfl
theorem fact7_4 : namedTie Tryz.pinned.checked.prog Rows.fnExactShardFaultRow.named Rows.fnExactShardFaultSpec.vars = true := by kernel_rfl
theorem fact7_5 : (Tryz.pinned.checked.prog.stops == []) = true := by kernel_rfl
theorem fact7_6 : (Tryz.pinned.checked.prog.stopKnobs == []) = true := by kernel_rfl
theorem fact7_7 : (Rows.fnExactShardFaultRow.inPlace == Tryz.pinned.checked.prog.inPlace 7) = true := by kernel_rfl
theorem fact7_8 : (Rows.fnExactShardFaultRow.unfollowed == Tryz.pinned.checked.prog.unfollowed 7) = true := by kernel_rfl
theorem fact7_9 : (Rows.fnExactShardFaultRow.recurses == Tryz.pinned.checked.prog.recurses 7) = true := by kernel_rfl
theorem fact7_10 : (Rows.fnExactShardFaultRow.named == Tryz.pinned.checked.prog.varsNamed 7) = true := by kernel_rfl
theorem fact7_11 : (Rows.fnExactShardFaultRow.maps == (Tryz.f7.params.toList ++ Rows.fnExactShardFaultSpec.plain.varTypes Tryz.pinned.checked.prog).any (Tryz.pinned.checked.prog.mapsRec ·)) = true := by kernel_rfl
theorem fact7_12 : (Rows.fnExactShardFaultRow.ifaces == (Tryz.f7.params.toList ++ Rows.fnExactShardFaultSpec.plain.varTypes Tryz.pinned.checked.prog).any (Tryz.pinned.checked.prog.ifacesRec ·)) = true := by kernel_rfl
theorem fact7_13 : (Rows.fnExactShardFaultRow.mapsOut == Tryz.pinned.checked.prog.mapsAmong Tryz.f7.resultTypes.toList) = true := by kernel_rfl
theorem fact7_14 : (Rows.fnExactShardFaultRow.loops == (Tryz.f7.params.toList ++ Rows.fnExactShardFaultSpec.plain.varTypes Tryz.pinned.checked.prog).any (Tryz.pinned.checked.prog.loopsFrom ·)) = true := by kernel_rfl
theorem fact7_15 : (Rows.fnExactShardFaultRow.wideKeys == (Tryz.f7.params.toList ++ Rows.fnExactShardFaultSpec.plain.varTypes Tryz.pinned.checked.prog ++ Tryz.f7.resultTypes.toList).any (Tryz.pinned.checked.prog.wideKeysFrom ·)) = true := by kernel_rfl
theorem fact7_16 : Tryz.f7.resultTypes.all (fun t => Tryz.pinned.checked.prog.readableRec t && decide (t < Tryz.pinned.checked.prog.types.size)) = true := by kernel_rfl
theorem fact7_17 : (Rows.fnExactShardFaultRow.ifacesOut == Tryz.f7.resultTypes.toList.any (Tryz.pinned.checked.prog.ifacesRec ·)) = true := by kernel_rfl
theorem fact7_18 : (Rows.fnExactShardFaultRow.loopsOut == Tryz.f7.resultTypes.toList.any (Tryz.pinned.checked.prog.loopsFrom ·)) = true := by kernel_rfl
theorem fact7_19 : (Rows.fnExactShardFaultRow.plainKeys == Tryz.pinned.checked.prog.plainKeys) = true := by kernel_rfl
theorem fact7_20 : Tryz.pinned.checked.prog.stopsHeard = true := by kernel_rfl
theorem fact7_21 : Tryz.pinned.checked.prog.mayEnter = true := by kernel_rfl
theorem fact7_22 : (Rows.fnExactShardFaultRow.lifted == Tryz.pinned.checked.prog.liftsFinal) = true := by kernel_rfl
theorem fact7_23 : (Tryz.pinned.checked.prog.make == some Rows.fnExactShardFaultRow.make) = true := by kernel_rfl
theorem fact7_24 : (Rows.fnExactShardFaultRow.pinned == Rows.fnExactShardFaultRow.pinnedBy) = true := by kernel_rfl
theorem fact7_25 : (Rows.fnExactShardFaultRow.veiled == (Tryz.f7.params.toList ++ Rows.fnExactShardFaultSpec.plain.varTypes Tryz.pinned.checked.prog ++ Tryz.f7.resultTypes.toList).any (Tryz.pinned.checked.prog.veiledRec ·)) = true := by kernel_rfl
theorem fact7_26 : Rows.fnExactShardFaultRow.veiledFits Tryz.pinned.checked.prog Tryz.f7.params.toList (Tryz.f7.params.toList ++ Rows.fnExactShardFaultSpec.plain.varTypes Tryz.pinned.checked.prog ++ Tryz.f7.resultTypes.toList) = true := by kernel_rfl
theorem closed7 : joinedFacts Tryz.pinned.checked.prog 7 Tryz.f7 Rows.fnExactShardFaultSpec Rows.fnExactShardFaultRow = true := by
  unfold joinedFacts
  rw [fact7_0, fact7_1, fact7_2, fact7_3, fact7_4, fact7_5, fact7_6, fact7_7, fact7_8, fact7_9, fact7_10, fact7_11, fact7_12, fact7_13, fact7_14, fact7_15, fact7_16, fact7_17, fact7_18, fact7_19, fact7_20, fact7_21, fact7_22, fact7_23, fact7_24, fact7_25, fact7_26]
  rfl
theorem over7 : Rows.fnExactShardFaultRow.holds Tryz.pinned (OpenSpec.ofChange Rows.fnExactShardFaultSpec) :=
  OpenClaim.holds_of_wide 7 Tryz.f7 rfl rfl rfl rfl rfl rfl rfl ⟨rfl, rfl, rfl, rfl, rfl⟩ rfl rfl rfl rfl rfl (by kernel_rfl) Tryz.func7 closed7
    (of_decide_eq_true (by kernel_rfl)) (by unfold Func.isWrapper; first | (rw [if_pos (by decide +kernel)]; kernel_rfl) | (rw [if_neg (by decide +kernel)]; exact ⟨rfl, rfl⟩))
    (fun os started H enc _ => lifted7 os started H enc)
/-- The row. -/
theorem fnExactShardFault_holds : Rows.FnExactShardFaultSaid := over7
#print axioms fnExactShardFault_holds
end Go.Proofs.YtccghpomkikjoaaGreat
