/- FnFlushes: whatever data come in, the law's function returns true, and the data read as they did. No condition. -/
import Derived.Test.YtbeplmdadjgamaaGreatRows
import Derived.Test.YtbeplmdadjgamaaGreatRvE12
import Derived.Test.YtbeplmdadjgamaaGreatPure12
import Derived.SizedLaws
import Derived.OpenShut
import Derived.WalkKit
import Derived.ProofKit
namespace Go.Proofs.YtbeplmdadjgamaaGreat
open Go.Rv Go.RvP Go.RowKit Go.ChangeShapes Go.WideShapes
theorem own12 : ownKnob Tryz.prog.godebug = none := by kernel_rfl
set_option maxRecDepth 100000 in
theorem lifted12 (os : Os) (started : os.Started) (H : Type) (enc : TypeId × Value → H) :
    ReturnsInHanded {} Tryz.checked os 12 .any (Rows.fnFlushesSpec.pre6 enc Tryz.prog Tryz.f12 Rows.fnFlushesRow.domain false) (Rows.fnFlushesSpec.post enc Tryz.prog Tryz.f12 false true false false) := by
  refine returnsInHanded_of_change_sized (C := Tryz.checked) own12 started (by kernel_rfl) Tryz.func12
    (ChangeSpec.witness6 (enc := enc) (C := Tryz.checked) false ⟨#[], #[.slice none 0 0], []⟩ 8 (by kernel_rfl) (by kernel_rfl) (by kernel_rfl) (by kernel_rfl)) ?_
  intro W base args ds gs before hval0 hW hcnd hsz0 _
  exact law_calls (C := Tryz.checked) (f := 12) (fn := Tryz.f12) (F := S_w115q) (n := 1) (ok_w115q 12 S_w115q rfl).2 (by kernel_rfl) (by kernel_rfl) rfl Tryz.underlying4 (fun x h => ⟨true, law_w115q x h, rfl⟩) rfl rfl
    (fun T ds h => by
      match ds, h with
      | [d0], _ => exact ⟨rfl, rfl, rfl⟩) hval0 hW
theorem fact12_0 : Rows.fnFlushesRow.wf (OpenSpec.ofChange Rows.fnFlushesSpec) = true := by kernel_rfl
theorem fact12_1 : laidOutB Tryz.pinned.checked.prog = true := by kernel_rfl
theorem fact12_2 : mapsRowed Tryz.pinned.checked.prog = true := by kernel_rfl
theorem fact12_3 : Tryz.f12.params.all (Tryz.pinned.checked.prog.readableRec ·) = true := by kernel_rfl
theorem fact12_4 : namedTie Tryz.pinned.checked.prog Rows.fnFlushesRow.named Rows.fnFlushesSpec.vars = true := by kernel_rfl
theorem fact12_5 : (Tryz.pinned.checked.prog.stops == []) = true := by kernel_rfl
theorem fact12_6 : (Tryz.pinned.checked.prog.stopKnobs == []) = true := by kernel_rfl
theorem fact12_7 : (Rows.fnFlushesRow.inPlace == Tryz.pinned.checked.prog.inPlace 12) = true := by kernel_rfl
theorem fact12_8 : (Rows.fnFlushesRow.unfollowed == Tryz.pinned.checked.prog.unfollowed 12) = true := by kernel_rfl
theorem fact12_9 : (Rows.fnFlushesRow.recurses == Tryz.pinned.checked.prog.recurses 12) = true := by kernel_rfl
theorem fact12_10 : (Rows.fnFlushesRow.named == Tryz.pinned.checked.prog.varsNamed 12) = true := by kernel_rfl
theorem fact12_11 : (Rows.fnFlushesRow.maps == (Tryz.f12.params.toList ++ Rows.fnFlushesSpec.plain.varTypes Tryz.pinned.checked.prog).any (Tryz.pinned.checked.prog.mapsRec ·)) = true := by kernel_rfl
theorem fact12_12 : (Rows.fnFlushesRow.ifaces == (Tryz.f12.params.toList ++ Rows.fnFlushesSpec.plain.varTypes Tryz.pinned.checked.prog).any (Tryz.pinned.checked.prog.ifacesRec ·)) = true := by kernel_rfl
theorem fact12_13 : (Rows.fnFlushesRow.mapsOut == Tryz.pinned.checked.prog.mapsAmong Tryz.f12.resultTypes.toList) = true := by kernel_rfl
theorem fact12_14 : (Rows.fnFlushesRow.loops == (Tryz.f12.params.toList ++ Rows.fnFlushesSpec.plain.varTypes Tryz.pinned.checked.prog).any (Tryz.pinned.checked.prog.loopsFrom ·)) = true := by kernel_rfl
theorem fact12_15 : (Rows.fnFlushesRow.wideKeys == (Tryz.f12.params.toList ++ Rows.fnFlushesSpec.plain.varTypes Tryz.pinned.checked.prog ++ Tryz.f12.resultTypes.toList).any (Tryz.pinned.checked.prog.wideKeysFrom ·)) = true := by kernel_rfl
theorem fact12_16 : Tryz.f12.resultTypes.all (fun t => Tryz.pinned.checked.prog.readableRec t && decide (t < Tryz.pinned.checked.prog.types.size)) = true := by kernel_rfl
theorem fact12_17 : (Rows.fnFlushesRow.ifacesOut == Tryz.f12.resultTypes.toList.any (Tryz.pinned.checked.prog.ifacesRec ·)) = true := by kernel_rfl
theorem fact12_18 : (Rows.fnFlushesRow.loopsOut == Tryz.f12.resultTypes.toList.any (Tryz.pinned.checked.prog.loopsFrom ·)) = true := by kernel_rfl
theorem fact12_19 : (Rows.fnFlushesRow.plainKeys == Tryz.pinned.checked.prog.plainKeys) = true := by kernel_rfl
theorem fact12_20 : Tryz.pinned.checked.prog.stopsHeard = true := by kernel_rfl
theorem fact12_21 : Tryz.pinned.checked.prog.mayEnter = true := by kernel_rfl
theorem fact12_22 : (Rows.fnFlushesRow.lifted == Tryz.pinned.checked.prog.liftsFinal) = true := by kernel_rfl
theorem fact12_23 : (Tryz.pinned.checked.prog.make == some Rows.fnFlushesRow.make) = true := by kernel_rfl
theorem fact12_24 : (Rows.fnFlushesRow.pinned == Rows.fnFlushesRow.pinnedBy) = true := by kernel_rfl
theorem fact12_25 : (Rows.fnFlushesRow.veiled == (Tryz.f12.params.toList ++ Rows.fnFlushesSpec.plain.varTypes Tryz.pinned.checked.prog ++ Tryz.f12.resultTypes.toList).any (Tryz.pinned.checked.prog.veiledRec ·)) = true := by kernel_rfl
theorem fact12_26 : Rows.fnFlushesRow.veiledFits Tryz.pinned.checked.prog Tryz.f12.params.toList (Tryz.f12.params.toList ++ Rows.fnFlushesSpec.plain.varTypes Tryz.pinned.checked.prog ++ Tryz.f12.resultTypes.toList) = true := by kernel_rfl
theorem closed12 : joinedFacts Tryz.pinned.checked.prog 12 Tryz.f12 Rows.fnFlushesSpec Rows.fnFlushesRow = true := by
  unfold joinedFacts
  rw [fact12_0, fact12_1, fact12_2, fact12_3, fact12_4, fact12_5, fact12_6, fact12_7, fact12_8, fact12_9, fact12_10, fact12_11, fact12_12, fact12_13, fact12_14, fact12_15, fact12_16, fact12_17, fact12_18, fact12_19, fact12_20, fact12_21, fact12_22, fact12_23, fact12_24, fact12_25, fact12_26]
  rfl
theorem over12 : Rows.fnFlushesRow.holds Tryz.pinned (OpenSpec.ofChange Rows.fnFlushesSpec) :=
  OpenClaim.holds_of_wide 12 Tryz.f12 rfl rfl rfl rfl rfl rfl rfl ⟨rfl, rfl, rfl, rfl, rfl⟩ rfl rfl rfl rfl rfl (by kernel_rfl) Tryz.func12 closed12
    (of_decide_eq_true (by kernel_rfl)) (by unfold Func.isWrapper; first | (rw [if_pos (by decide +kernel)]; kernel_rfl) | (rw [if_neg (by decide +kernel)]; exact ⟨rfl, rfl⟩))
    (fun os started H enc _ => lifted12 os started H enc)
/-- The row. -/
theorem fnFlushes_holds : Rows.FnFlushesSaid := over12
#print axioms fnFlushes_holds
end Go.Proofs.YtbeplmdadjgamaaGreat
