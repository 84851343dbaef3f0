/- FnExactReadKey: whatever data come in, the law's function returns true, and the data read as they did. No condition. -/
import Derived.Test.YtbeplmdadjgamaaGreatRows
import Derived.Test.YtbeplmdadjgamaaGreatRvE8
import Derived.Test.YtbeplmdadjgamaaGreatPure8
import Derived.SizedLaws
import Derived.OpenShut
import Derived.WalkKit
import Derived.ProofKit
namespace Go.Proofs.YtbeplmdadjgamaaGreat
open Go.Rv Go.RvP Go.RowKit Go.ChangeShapes Go.WideShapes
theorem own8 : ownKnob Tryz.prog.godebug = none := by kernel_rfl
set_option maxRecDepth 100000 in
theorem lifted8 (os : Os) (started : os.Started) (H : Type) (enc : TypeId × Value → H) :
    ReturnsInHanded {} Tryz.checked os 8 .any (Rows.fnExactReadKeySpec.pre6 enc Tryz.prog Tryz.f8 Rows.fnExactReadKeyRow.domain false) (Rows.fnExactReadKeySpec.post enc Tryz.prog Tryz.f8 false true false false) := by
  refine returnsInHanded_of_change_sized (C := Tryz.checked) own8 started (by kernel_rfl) Tryz.func8
    (ChangeSpec.witness6 (enc := enc) (C := Tryz.checked) false ⟨#[], #[.agg #[.slice none 0 0, .slice none 0 0, .slice none 0 0, .slice none 0 0, .int .i64 0], .string ⟨#[]⟩, .int .i64 0], []⟩ 8 (by kernel_rfl) (by kernel_rfl) (by kernel_rfl) (by kernel_rfl)) ?_
  intro W base args ds gs before hval0 hW hcnd hsz0 _
  exact law_calls (C := Tryz.checked) (f := 8) (fn := Tryz.f8) (F := S_w103q) (n := 3) (ok_w103q 8 S_w103q rfl).2 (by kernel_rfl) (by kernel_rfl) rfl Tryz.underlying4 (fun x h => ⟨true, law_w103q x h, rfl⟩) rfl rfl
    (fun T ds h => by
      match ds, h with
      | [d0, d1, d2], _ => exact ⟨rfl, rfl, rfl⟩) hval0 hW
theorem fact8_0 : Rows.fnExactReadKeyRow.wf (OpenSpec.ofChange Rows.fnExactReadKeySpec) = true := by kernel_rfl
theorem fact8_1 : laidOutB Tryz.pinned.checked.prog = true := by kernel_rfl
theorem fact8_2 : mapsRowed Tryz.pinned.checked.prog = true := by kernel_rfl
theorem fact8_3 : Tryz.f8.params.all (Tryz.pinned.checked.prog.readableRec ·) = true := by kernel_rfl
theorem fact8_4 : namedTie Tryz.pinned.checked.prog Rows.fnExactReadKeyRow.named Rows.fnExactReadKeySpec.vars = true := by kernel_rfl
theorem fact8_5 : (Tryz.pinned.checked.prog.stops == []) = true := by kernel_rfl
theorem fact8_6 : (Tryz.pinned.checked.prog.stopKnobs == []) = true := by kernel_rfl
theorem fact8_7 : (Rows.fnExactReadKeyRow.inPlace == Tryz.pinned.checked.prog.inPlace 8) = true := by kernel_rfl
theorem fact8_8 : (Rows.fnExactReadKeyRow.unfollowed == Tryz.pinned.checked.prog.unfollowed 8) = true := by kernel_rfl
theorem fact8_9 : (Rows.fnExactReadKeyRow.recurses == Tryz.pinned.checked.prog.recurses 8) = true := by kernel_rfl
theorem fact8_10 : (Rows.fnExactReadKeyRow.named == Tryz.pinned.checked.prog.varsNamed 8) = true := by kernel_rfl
theorem fact8_11 : (Rows.fnExactReadKeyRow.maps == (Tryz.f8.params.toList ++ Rows.fnExactReadKeySpec.plain.varTypes Tryz.pinned.checked.prog).any (Tryz.pinned.checked.prog.mapsRec ·)) = true := by kernel_rfl
theorem fact8_12 : (Rows.fnExactReadKeyRow.ifaces == (Tryz.f8.params.toList ++ Rows.fnExactReadKeySpec.plain.varTypes Tryz.pinned.checked.prog).any (Tryz.pinned.checked.prog.ifacesRec ·)) = true := by kernel_rfl
theorem fact8_13 : (Rows.fnExactReadKeyRow.mapsOut == Tryz.pinned.checked.prog.mapsAmong Tryz.f8.resultTypes.toList) = true := by kernel_rfl
theorem fact8_14 : (Rows.fnExactReadKeyRow.loops == (Tryz.f8.params.toList ++ Rows.fnExactReadKeySpec.plain.varTypes Tryz.pinned.checked.prog).any (Tryz.pinned.checked.prog.loopsFrom ·)) = true := by kernel_rfl
theorem fact8_15 : (Rows.fnExactReadKeyRow.wideKeys == (Tryz.f8.params.toList ++ Rows.fnExactReadKeySpec.plain.varTypes Tryz.pinned.checked.prog ++ Tryz.f8.resultTypes.toList).any (Tryz.pinned.checked.prog.wideKeysFrom ·)) = true := by kernel_rfl
theorem fact8_16 : Tryz.f8.resultTypes.all (fun t => Tryz.pinned.checked.prog.readableRec t && decide (t < Tryz.pinned.checked.prog.types.size)) = true := by kernel_rfl
theorem fact8_17 : (Rows.fnExactReadKeyRow.ifacesOut == Tryz.f8.resultTypes.toList.any (Tryz.pinned.checked.prog.ifacesRec ·)) = true := by kernel_rfl
theorem fact8_18 : (Rows.fnExactReadKeyRow.loopsOut == Tryz.f8.resultTypes.toList.any (Tryz.pinned.checked.prog.loopsFrom ·)) = true := by kernel_rfl
theorem fact8_19 : (Rows.fnExactReadKeyRow.plainKeys == Tryz.pinned.checked.prog.plainKeys) = true := by kernel_rfl
theorem fact8_20 : Tryz.pinned.checked.prog.stopsHeard = true := by kernel_rfl
theorem fact8_21 : Tryz.pinned.checked.prog.mayEnter = true := by kernel_rfl
theorem fact8_22 : (Rows.fnExactReadKeyRow.lifted == Tryz.pinned.checked.prog.liftsFinal) = true := by kernel_rfl
theorem fact8_23 : (Tryz.pinned.checked.prog.make == some Rows.fnExactReadKeyRow.make) = true := by kernel_rfl
theorem fact8_24 : (Rows.fnExactReadKeyRow.pinned == Rows.fnExactReadKeyRow.pinnedBy) = true := by kernel_rfl
theorem fact8_25 : (Rows.fnExactReadKeyRow.veiled == (Tryz.f8.params.toList ++ Rows.fnExactReadKeySpec.plain.varTypes Tryz.pinned.checked.prog ++ Tryz.f8.resultTypes.toList).any (Tryz.pinned.checked.prog.veiledRec ·)) = true := by kernel_rfl
theorem fact8_26 : Rows.fnExactReadKeyRow.veiledFits Tryz.pinned.checked.prog Tryz.f8.params.toList (Tryz.f8.params.toList ++ Rows.fnExactReadKeySpec.plain.varTypes Tryz.pinned.checked.prog ++ Tryz.f8.resultTypes.toList) = true := by kernel_rfl
theorem closed8 : joinedFacts Tryz.pinned.checked.prog 8 Tryz.f8 Rows.fnExactReadKeySpec Rows.fnExactReadKeyRow = true := by
  unfold joinedFacts
  rw [fact8_0, fact8_1, fact8_2, fact8_3, fact8_4, fact8_5, fact8_6, fact8_7, fact8_8, fact8_9, fact8_10, fact8_11, fact8_12, fact8_13, fact8_14, fact8_15, fact8_16, fact8_17, fact8_18, fact8_19, fact8_20, fact8_21, fact8_22, fact8_23, fact8_24, fact8_25, fact8_26]
  rfl
theorem over8 : Rows.fnExactReadKeyRow.holds Tryz.pinned (OpenSpec.ofChange Rows.fnExactReadKeySpec) :=
  OpenClaim.holds_of_wide 8 Tryz.f8 rfl rfl rfl rfl rfl rfl rfl ⟨rfl, rfl, rfl, rfl, rfl⟩ rfl rfl rfl rfl rfl (by kernel_rfl) Tryz.func8 closed8
    (of_decide_eq_true (by kernel_rfl)) (by unfold Func.isWrapper; first | (rw [if_pos (by decide +kernel)]; kernel_rfl) | (rw [if_neg (by decide +kernel)]; exact ⟨rfl, rfl⟩))
    (fun os started H enc _ => lifted8 os started H enc)
/-- The row. -/
theorem fnExactReadKey_holds : Rows.FnExactReadKeySaid := over8
#print axioms fnExactReadKey_holds
end Go.Proofs.YtbeplmdadjgamaaGreat
