/- FnExactShardTextCard: whatever data come in, the law's function returns true, and the data read as they did; the library's tables are tied to the program's text. No condition. -/
import Derived.Test.YtjamkpjjlpmofaaGreatDoorCards
import Derived.Test.YtjamkpjjlpmofaaGreatDoorTie
import Derived.Test.YtjamkpjjlpmofaaGreatDoorRvE3
import Derived.Test.YtjamkpjjlpmofaaGreatDoorRvKp
import Derived.Test.YtjamkpjjlpmofaaGreatDoorPure3
import Derived.SizedLaws
import Derived.LaidMore
import Derived.Stop.Joined
import Derived.OpenShut
import Derived.WalkKit
import Derived.ProofKit
import Derived.SevenTiedAt
namespace Go.Proofs.YtjamkpjjlpmofaaGreatDoor
open Go Go.Rv Go.RvP Go.RowKit Go.ChangeShapes Go.WideShapes
theorem own3 : ownKnob Tryz.prog.godebug = none := by kernel_rfl
set_option maxRecDepth 100000
theorem met3 (os : Os) (args : Array Value) : laidMetH Tryz.prog Rows.fnExactShardTextRow.laid ((World.doorLaid Tryz.prog 400 os).forCall (fun _ _ => 0) ⟨#[], args, []⟩).memory :=
  laidMetH_of_parts3 (fuel := 8) (laidMet_of_run' 8 (by kernel_rfl) (by kernel_rfl)) (by kernel_rfl) (by kernel_rfl)
theorem lifted3 (os : Os) (started : os.Started) (H : Type) (enc : TypeId × Value → H) :
    ReturnsInHanded {} Tryz.checked os 3 .any (fun w args => (Rows.fnExactShardTextSpec.pre enc Tryz.prog Tryz.f3 [] false w args ∧ laidMetH Tryz.prog Rows.fnExactShardTextRow.laid w) ∧ sizedMet enc Tryz.prog Tryz.f3 (OpenSpec.ofChange Rows.fnExactShardTextSpec) false w args) (Rows.fnExactShardTextSpec.post enc Tryz.prog Tryz.f3 false true false false) := by
  refine returnsInHanded_of_change_and (C := Tryz.checked) (X := fun w _ => laidMetH Tryz.prog Rows.fnExactShardTextRow.laid w) (fun _ _ _ hh h => h.of_heap hh) own3 started (by kernel_rfl) Tryz.func3
    (ChangeSpec.witness_shaped (enc := enc) (C := Tryz.checked) (os := os) (X := fun w _ => laidMetH Tryz.prog Rows.fnExactShardTextRow.laid w) false (World.doorLaid Tryz.prog 400 os) #[.agg #[.int .i64 0, .slice none 0 0, .slice none 0 0, .slice none 0 0, .slice none 0 0, .slice none 0 0]] 8 rfl (World.shaped_of_RefB (by kernel_rfl) (by kernel_rfl)) (by kernel_rfl) (by kernel_rfl) (by kernel_rfl) (met3 os _)) ?_
  intro W base args ds gs before hval0 hW _ _ hL _
  exact law_callsK (C := Tryz.checked) (f := 3) (fn := Tryz.f3) (F := S_w91q) (n := 1) (ok_w91q 3 S_w91q rfl).2.1 (by kernel_rfl) (by kernel_rfl) rfl Tryz.underlying4 (fun x h => ⟨true, law_w91q x h, rfl⟩) rfl rfl
    (fun T ds h => by
      match ds, h with
      | [d0], _ => exact ⟨rfl, rfl, rfl⟩) hval0 hW (keeps_of 2 (by kernel_rfl) (by kernel_rfl) (by kernel_rfl) hL)
theorem fact3_0 : Rows.fnExactShardTextRow.wf (OpenSpec.ofChange Rows.fnExactShardTextSpec) = true := by kernel_rfl
theorem fact3_1 : laidOutB Tryz.pinned.checked.prog = true := by kernel_rfl
theorem fact3_2 : mapsRowed Tryz.pinned.checked.prog = true := by kernel_rfl
theorem fact3_3 : Tryz.f3.params.all (Tryz.pinned.checked.prog.readableRec ·) = true := by kernel_rfl
theorem fact3_4 : namedTie Tryz.pinned.checked.prog Rows.fnExactShardTextRow.named Rows.fnExactShardTextSpec.vars = true := by kernel_rfl
theorem fact3_5 : (Tryz.pinned.checked.prog.stops == []) = true := by kernel_rfl
theorem fact3_6 : (Tryz.pinned.checked.prog.stopKnobs == []) = true := by kernel_rfl
theorem fact3_7 : (Rows.fnExactShardTextRow.inPlace == Tryz.pinned.checked.prog.inPlace 3) = true := by kernel_rfl
theorem fact3_8 : (Rows.fnExactShardTextRow.unfollowed == Tryz.pinned.checked.prog.unfollowed 3) = true := by kernel_rfl
theorem fact3_9 : (Rows.fnExactShardTextRow.recurses == Tryz.pinned.checked.prog.recurses 3) = true := by kernel_rfl
theorem fact3_10 : (Rows.fnExactShardTextRow.named == Tryz.pinned.checked.prog.varsNamed 3) = true := by kernel_rfl
theorem fact3_11 : (Rows.fnExactShardTextRow.maps == (Tryz.f3.params.toList ++ Rows.fnExactShardTextSpec.plain.varTypes Tryz.pinned.checked.prog).any (Tryz.pinned.checked.prog.mapsRec ·)) = true := by kernel_rfl
theorem fact3_12 : (Rows.fnExactShardTextRow.ifaces == (Tryz.f3.params.toList ++ Rows.fnExactShardTextSpec.plain.varTypes Tryz.pinned.checked.prog).any (Tryz.pinned.checked.prog.ifacesRec ·)) = true := by kernel_rfl
theorem fact3_13 : (Rows.fnExactShardTextRow.mapsOut == Tryz.pinned.checked.prog.mapsAmong Tryz.f3.resultTypes.toList) = true := by kernel_rfl
theorem fact3_14 : (Rows.fnExactShardTextRow.loops == (Tryz.f3.params.toList ++ Rows.fnExactShardTextSpec.plain.varTypes Tryz.pinned.checked.prog).any (Tryz.pinned.checked.prog.loopsFrom ·)) = true := by kernel_rfl
theorem fact3_15 : (Rows.fnExactShardTextRow.wideKeys == (Tryz.f3.params.toList ++ Rows.fnExactShardTextSpec.plain.varTypes Tryz.pinned.checked.prog ++ Tryz.f3.resultTypes.toList).any (Tryz.pinned.checked.prog.wideKeysFrom ·)) = true := by kernel_rfl
theorem fact3_16 : Tryz.f3.resultTypes.all (fun t => Tryz.pinned.checked.prog.readableRec t && decide (t < Tryz.pinned.checked.prog.types.size)) = true := by kernel_rfl
theorem fact3_17 : (Rows.fnExactShardTextRow.ifacesOut == Tryz.f3.resultTypes.toList.any (Tryz.pinned.checked.prog.ifacesRec ·)) = true := by kernel_rfl
theorem fact3_18 : (Rows.fnExactShardTextRow.loopsOut == Tryz.f3.resultTypes.toList.any (Tryz.pinned.checked.prog.loopsFrom ·)) = true := by kernel_rfl
theorem fact3_19 : (Rows.fnExactShardTextRow.plainKeys == Tryz.pinned.checked.prog.plainKeys) = true := by kernel_rfl
theorem fact3_20 : Tryz.pinned.checked.prog.stopsHeard = true := by kernel_rfl
theorem fact3_21 : Tryz.pinned.checked.prog.mayEnter = true := by kernel_rfl
theorem fact3_22 : (Rows.fnExactShardTextRow.lifted == Tryz.pinned.checked.prog.liftsFinal) = true := by kernel_rfl
theorem fact3_23 : (Tryz.pinned.checked.prog.make == some Rows.fnExactShardTextRow.make) = true := by kernel_rfl
theorem fact3_24 : (Rows.fnExactShardTextRow.pinned == Rows.fnExactShardTextRow.pinnedBy) = true := by kernel_rfl
theorem fact3_25 : (Rows.fnExactShardTextRow.veiled == (Tryz.f3.params.toList ++ Rows.fnExactShardTextSpec.plain.varTypes Tryz.pinned.checked.prog ++ Tryz.f3.resultTypes.toList).any (Tryz.pinned.checked.prog.veiledRec ·)) = true := by kernel_rfl
theorem fact3_26 : Rows.fnExactShardTextRow.veiledFits Tryz.pinned.checked.prog Tryz.f3.params.toList (Tryz.f3.params.toList ++ Rows.fnExactShardTextSpec.plain.varTypes Tryz.pinned.checked.prog ++ Tryz.f3.resultTypes.toList) = true := by kernel_rfl
theorem closed3 : joinedFacts Tryz.pinned.checked.prog 3 Tryz.f3 Rows.fnExactShardTextSpec Rows.fnExactShardTextRow = true := by
  unfold joinedFacts
  rw [fact3_0, fact3_1, fact3_2, fact3_3, fact3_4, fact3_5, fact3_6, fact3_7, fact3_8, fact3_9, fact3_10, fact3_11, fact3_12, fact3_13, fact3_14, fact3_15, fact3_16, fact3_17, fact3_18, fact3_19, fact3_20, fact3_21, fact3_22, fact3_23, fact3_24, fact3_25, fact3_26]
  rfl
theorem over3 : Rows.fnExactShardTextRow.holds Tryz.pinned (OpenSpec.ofChange Rows.fnExactShardTextSpec) :=
  OpenClaim.holds_of_wide 3 Tryz.f3 rfl rfl rfl rfl rfl rfl rfl ⟨rfl, rfl, rfl, rfl, rfl⟩ rfl rfl rfl rfl rfl (by kernel_rfl) Tryz.func3 closed3
    (of_decide_eq_true (by kernel_rfl)) (by unfold Func.isWrapper; first | (rw [if_pos (by decide +kernel)]; kernel_rfl) | (rw [if_neg (by decide +kernel)]; exact ⟨rfl, rfl⟩))
    (fun os started H enc _ => lifted3 os started H enc)
/-- The card. -/
theorem fnExactShardTextCard_holds : Rows.FnExactShardTextCardSaid :=
  Claim7.holds_tied_plain_at .later [] [.data, .data, .data] true (true, "fec7a9893d60c27e5e56b43a565f5fdf54d4927b98b5d33dc698f69e31367ce2") false over3 (fun _ h => by cases h) (by kernel_rfl) (fun _ h => by cases h) fnExactShardText_row_tie rfl ⟨rfl, rfl⟩ (by kernel_rfl) rfl
    (fun f fn hf hfn => by
      obtain rfl : f = 3 := Option.some.inj ((show Tryz.prog.funcNamed "loop.example/g00203/laws.FnExactShardText" = some 3 by kernel_rfl).symm.trans hf) |>.symm
      obtain rfl : fn = Tryz.f3 := (Option.some.inj (Tryz.func3.symm.trans hfn)).symm
      exact ⟨by kernel_rfl, fun j t ht => by
        rw [Tryz.params3] at ht
        have hm : t ∈ [27] := by simpa using Array.mem_of_getElem? ht
        have hall : ([27].all fun u => !Tryz.prog.wantsStandIn u) = true := by kernel_rfl
        exact (show Tryz.prog.wantsStandIn t = false by simpa using List.all_eq_true.1 hall t hm)⟩)
    (by kernel_rfl)
#print axioms fnExactShardTextCard_holds
end Go.Proofs.YtjamkpjjlpmofaaGreatDoor
