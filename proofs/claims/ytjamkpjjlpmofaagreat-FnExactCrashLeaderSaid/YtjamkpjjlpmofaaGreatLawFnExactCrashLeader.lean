/- FnExactCrashLeader: whatever data come in, the law's function returns true, and the data read as they did. No condition. -/
import Derived.Test.YtjamkpjjlpmofaaGreatRows
import Derived.Test.YtjamkpjjlpmofaaGreatRvE6
import Derived.Test.YtjamkpjjlpmofaaGreatPure6
import Derived.SizedLaws
import Derived.OpenShut
import Derived.WalkKit
import Derived.ProofKit
namespace Go.Proofs.YtjamkpjjlpmofaaGreat
open Go.Rv Go.RvP Go.RowKit Go.ChangeShapes Go.WideShapes
theorem own6 : ownKnob Tryz.prog.godebug = none := by kernel_rfl
set_option maxRecDepth 100000 in
theorem lifted6 (os : Os) (started : os.Started) (H : Type) (enc : TypeId × Value → H) :
    ReturnsInHanded {} Tryz.checked os 6 .any (Rows.fnExactCrashLeaderSpec.pre6 enc Tryz.prog Tryz.f6 Rows.fnExactCrashLeaderRow.domain false) (Rows.fnExactCrashLeaderSpec.post enc Tryz.prog Tryz.f6 false true false false) := by
  refine returnsInHanded_of_change_sized (C := Tryz.checked) own6 started (by kernel_rfl) Tryz.func6
    (ChangeSpec.witness6 (enc := enc) (C := Tryz.checked) false ⟨#[], #[.agg #[.slice none 0 0, .slice none 0 0, .slice none 0 0, .slice none 0 0, .slice none 0 0], .int .i64 0], []⟩ 8 (by kernel_rfl) (by kernel_rfl) (by kernel_rfl) (by kernel_rfl)) ?_
  intro W base args ds gs before hval0 hW hcnd hsz0 _
  exact law_calls (C := Tryz.checked) (f := 6) (fn := Tryz.f6) (F := S_w237q) (n := 2) (ok_w237q 6 S_w237q rfl).2.1 (by kernel_rfl) (by kernel_rfl) (by kernel_rfl) rfl Tryz.underlying4 (fun x h => ⟨true, law_w237q x h, rfl⟩) rfl rfl
    (fun T ds h => by
      match ds, h with
      | [d0, d1], _ => exact ⟨rfl, rfl, rfl⟩) hval0 hW
theorem fact6_0 : Rows.fnExactCrashLeaderRow.wf (OpenSpec.ofChange Rows.fnExactCrashLeaderSpec) = true := by kernel_rfl
theorem fact6_1 : laidOutB Tryz.pinned.checked.prog = true := by kernel_rfl
theorem fact6_2 : mapsRowed Tryz.pinned.checked.prog = true := by kernel_rfl
theorem fact6_3 : Tryz.f6.params.all (Tryz.pinned.checked.prog.readableRec ·) = true := by kernel_rfl
theorem fact6_4 : namedTie Tryz.pinned.checked.prog Rows.fnExactCrashLeaderRow.named Rows.fnExactCrashLeaderSpec.vars = true := by kernel_rfl
theorem fact6_5 : (Tryz.pinned.checked.prog.stops == []) = true := by kernel_rfl
theorem fact6_6 : (Tryz.pinned.checked.prog.stopKnobs == []) = true := by kernel_rfl
theorem fact6_7 : (Rows.fnExactCrashLeaderRow.inPlace == Tryz.pinned.checked.prog.inPlace 6) = true := by kernel_rfl
theorem fact6_8 : (Rows.fnExactCrashLeaderRow.unfollowed == Tryz.pinned.checked.prog.unfollowed 6) = true := by kernel_rfl
theorem fact6_9 : (Rows.fnExactCrashLeaderRow.recurses == Tryz.pinned.checked.prog.recurses 6) = true := by kernel_rfl
theorem fact6_10 : (Rows.fnExactCrashLeaderRow.named == Tryz.pinned.checked.prog.varsNamed 6) = true := by kernel_rfl
theorem fact6_11 : (Rows.fnExactCrashLeaderRow.maps == (Tryz.f6.params.toList ++ Rows.fnExactCrashLeaderSpec.plain.varTypes Tryz.pinned.checked.prog).any (Tryz.pinned.checked.prog.mapsRec ·)) = true := by kernel_rfl
theorem fact6_12 : (Rows.fnExactCrashLeaderRow.ifaces == (Tryz.f6.params.toList ++ Rows.fnExactCrashLeaderSpec.plain.varTypes Tryz.pinned.checked.prog).any (Tryz.pinned.checked.prog.ifacesRec ·)) = true := by kernel_rfl
theorem fact6_13 : (Rows.fnExactCrashLeaderRow.mapsOut == Tryz.pinned.checked.prog.mapsAmong Tryz.f6.resultTypes.toList) = true := by kernel_rfl
theorem fact6_14 : (Rows.fnExactCrashLeaderRow.loops == (Tryz.f6.params.toList ++ Rows.fnExactCrashLeaderSpec.plain.varTypes Tryz.pinned.checked.prog).any (Tryz.pinned.checked.prog.loopsFrom ·)) = true := by kernel_rfl
theorem fact6_15 : (Rows.fnExactCrashLeaderRow.wideKeys == (Tryz.f6.params.toList ++ Rows.fnExactCrashLeaderSpec.plain.varTypes Tryz.pinned.checked.prog ++ Tryz.f6.resultTypes.toList).any (Tryz.pinned.checked.prog.wideKeysFrom ·)) = true := by kernel_rfl
theorem fact6_16 : Tryz.f6.resultTypes.all (fun t => Tryz.pinned.checked.prog.readableRec t && decide (t < Tryz.pinned.checked.prog.types.size)) = true := by kernel_rfl
theorem fact6_17 : (Rows.fnExactCrashLeaderRow.ifacesOut == Tryz.f6.resultTypes.toList.any (Tryz.pinned.checked.prog.ifacesRec ·)) = true := by kernel_rfl
theorem fact6_18 : (Rows.fnExactCrashLeaderRow.loopsOut == Tryz.f6.resultTypes.toList.any (Tryz.pinned.checked.prog.loopsFrom ·)) = true := by kernel_rfl
theorem fact6_19 : (Rows.fnExactCrashLeaderRow.plainKeys == Tryz.pinned.checked.prog.plainKeys) = true := by kernel_rfl
theorem fact6_20 : Tryz.pinned.checked.prog.stopsHeard = true := by kernel_rfl
theorem fact6_21 : Tryz.pinned.checked.prog.mayEnter = true := by kernel_rfl
theorem fact6_22 : (Rows.fnExactCrashLeaderRow.lifted == Tryz.pinned.checked.prog.liftsFinal) = true := by kernel_rfl
theorem fact6_23 : (Tryz.pinned.checked.prog.make == some Rows.fnExactCrashLeaderRow.make) = true := by kernel_rfl
theorem fact6_24 : (Rows.fnExactCrashLeaderRow.pinned == Rows.fnExactCrashLeaderRow.pinnedBy) = true := by kernel_rfl
theorem fact6_25 : (Rows.fnExactCrashLeaderRow.veiled == (Tryz.f6.params.toList ++ Rows.fnExactCrashLeaderSpec.plain.varTypes Tryz.pinned.checked.prog ++ Tryz.f6.resultTypes.toList).any (Tryz.pinned.checked.prog.veiledRec ·)) = true := by kernel_rfl
theorem fact6_26 : Rows.fnExactCrashLeaderRow.veiledFits Tryz.pinned.checked.prog Tryz.f6.params.toList (Tryz.f6.params.toList ++ Rows.fnExactCrashLeaderSpec.plain.varTypes Tryz.pinned.checked.prog ++ Tryz.f6.resultTypes.toList) = true := by kernel_rfl
theorem closed6 : joinedFacts Tryz.pinned.checked.prog 6 Tryz.f6 Rows.fnExactCrashLeaderSpec Rows.fnExactCrashLeaderRow = true := by
  unfold joinedFacts
  rw [fact6_0, fact6_1, fact6_2, fact6_3, fact6_4, fact6_5, fact6_6, fact6_7, fact6_8, fact6_9, fact6_10, fact6_11, fact6_12, fact6_13, fact6_14, fact6_15, fact6_16, fact6_17, fact6_18, fact6_19, fact6_20, fact6_21, fact6_22, fact6_23, fact6_24, fact6_25, fact6_26]
  rfl
theorem over6 : Rows.fnExactCrashLeaderRow.holds Tryz.pinned (OpenSpec.ofChange Rows.fnExactCrashLeaderSpec) :=
  OpenClaim.holds_of_wide 6 Tryz.f6 rfl rfl rfl rfl rfl rfl rfl ⟨rfl, rfl, rfl, rfl, rfl⟩ rfl rfl rfl rfl rfl (by kernel_rfl) Tryz.func6 closed6
    (of_decide_eq_true (by kernel_rfl)) (by unfold Func.isWrapper; first | (rw [if_pos (by decide +kernel)]; kernel_rfl) | (rw [if_neg (by decide +kernel)]; exact ⟨rfl, rfl⟩))
    (fun os started H enc _ => lifted6 os started H enc)
/-- The row. -/
theorem fnExactCrashLeader_holds : Rows.FnExactCrashLeaderSaid := over6
#print axioms fnExactCrashLeader_holds
end Go.Proofs.YtjamkpjjlpmofaaGreat
