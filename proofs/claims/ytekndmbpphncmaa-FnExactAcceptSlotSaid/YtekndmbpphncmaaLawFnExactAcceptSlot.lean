/- FnExactAcceptSlot: whatever data come in, the law's function returns true, and the data read as they did. No condition. -/
import Derived.Test.YtekndmbpphncmaaRows
import Derived.Test.YtekndmbpphncmaaRvE10
import Derived.Test.YtekndmbpphncmaaPure10
import Derived.SizedLaws
import Derived.OpenShut
import Derived.WalkKit
import Derived.ProofKit
namespace Go.Proofs.Ytekndmbpphncmaa
open Go.Rv Go.RvP Go.RowKit Go.ChangeShapes Go.WideShapes
theorem own10 : ownKnob Try.prog.godebug = none := by kernel_rfl
set_option maxRecDepth 100000 in
theorem lifted10 (os : Os) (started : os.Started) (H : Type) (enc : TypeId × Value → H) :
    ReturnsInHanded {} Try.checked os 10 .any (Rows.fnExactAcceptSlotSpec.pre6 enc Try.prog Try.f10 Rows.fnExactAcceptSlotRow.domain false) (Rows.fnExactAcceptSlotSpec.post enc Try.prog Try.f10 false true false false) := by
  refine returnsInHanded_of_change_sized (C := Try.checked) own10 started (by kernel_rfl) Try.func10
    (ChangeSpec.witness6 (enc := enc) (C := Try.checked) false ⟨#[], #[.agg #[.int .i64 0, .int .i64 0, .int .i64 0, .int .i64 0, .int .i64 0, .slice none 0 0], .int .i64 0, .int .i64 0], []⟩ 8 (by kernel_rfl) (by kernel_rfl) (by kernel_rfl) (by kernel_rfl)) ?_
  intro W base args ds gs before hval0 hW hcnd hsz0 _
  exact law_calls (C := Try.checked) (f := 10) (fn := Try.f10) (F := S_laws_FnExactAcceptSlot) (n := 3) (ok_laws_FnExactAcceptSlot 10 S_laws_FnExactAcceptSlot rfl).2 (by kernel_rfl) (by kernel_rfl) rfl Try.underlying4 (fun x h => ⟨true, law_laws_FnExactAcceptSlot x h, rfl⟩) rfl rfl
    (fun T ds h => by
      match ds, h with
      | [d0, d1, d2], _ => exact ⟨rfl, rfl, rfl⟩) hval0 hW
theorem over10 : Rows.fnExactAcceptSlotRow.holds Try.pinned (OpenSpec.ofChange Rows.fnExactAcceptSlotSpec) :=
  OpenClaim.holds_of_wide 10 Try.f10 rfl rfl rfl rfl rfl rfl rfl ⟨rfl, rfl, rfl, rfl, rfl⟩ rfl rfl rfl rfl rfl (by kernel_rfl) Try.func10 (by kernel_rfl)
    (of_decide_eq_true (by kernel_rfl)) (by unfold Func.isWrapper; first | (rw [if_pos (by decide +kernel)]; kernel_rfl) | (rw [if_neg (by decide +kernel)]; exact ⟨rfl, rfl⟩))
    (fun os started H enc _ => lifted10 os started H enc)
/-- The row. -/
theorem fnExactAcceptSlot_holds : Rows.FnExactAcceptSlotSaid := over10
#print axioms fnExactAcceptSlot_holds
end Go.Proofs.Ytekndmbpphncmaa
