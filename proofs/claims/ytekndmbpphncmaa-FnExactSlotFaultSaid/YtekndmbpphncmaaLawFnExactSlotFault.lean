/- FnExactSlotFault: whatever data come in, the law's function returns true, and the data read as they did. No condition. -/
import Derived.Test.YtekndmbpphncmaaRows
import Derived.Test.YtekndmbpphncmaaRvE7
import Derived.Test.YtekndmbpphncmaaPure7
import Derived.SizedLaws
import Derived.OpenShut
import Derived.WalkKit
import Derived.ProofKit
namespace Go.Proofs.Ytekndmbpphncmaa
open Go.Rv Go.RvP Go.RowKit Go.ChangeShapes Go.WideShapes
theorem own7 : ownKnob Try.prog.godebug = none := by kernel_rfl
set_option maxRecDepth 100000 in
theorem lifted7 (os : Os) (started : os.Started) (H : Type) (enc : TypeId × Value → H) :
    ReturnsInHanded {} Try.checked os 7 .any (Rows.fnExactSlotFaultSpec.pre6 enc Try.prog Try.f7 Rows.fnExactSlotFaultRow.domain false) (Rows.fnExactSlotFaultSpec.post enc Try.prog Try.f7 false true false false) := by
  refine returnsInHanded_of_change_sized (C := Try.checked) own7 started (by kernel_rfl) Try.func7
    (ChangeSpec.witness6 (enc := enc) (C := Try.checked) false ⟨#[], #[.agg #[.int .i64 0, .int .i64 0, .int .i64 0, .int .i64 0, .int .i64 0, .slice none 0 0]], []⟩ 8 (by kernel_rfl) (by kernel_rfl) (by kernel_rfl) (by kernel_rfl)) ?_
  intro W base args ds gs before hval0 hW hcnd hsz0 _
  exact law_calls (C := Try.checked) (f := 7) (fn := Try.f7) (F := S7) (n := 1) (ok7 7 S7 rfl).2 (by kernel_rfl) (by kernel_rfl) rfl Try.underlying4 (fun x h => ⟨true, law7 x h, rfl⟩) rfl rfl
    (fun T ds h => by
      match ds, h with
      | [d0], _ => exact ⟨rfl, rfl, rfl⟩) hval0 hW
theorem over7 : Rows.fnExactSlotFaultRow.holds Try.pinned (OpenSpec.ofChange Rows.fnExactSlotFaultSpec) :=
  OpenClaim.holds_of_wide 7 Try.f7 rfl rfl rfl rfl rfl rfl rfl ⟨rfl, rfl, rfl, rfl, rfl⟩ rfl rfl rfl rfl rfl (by kernel_rfl) Try.func7 (by kernel_rfl)
    (of_decide_eq_true (by kernel_rfl)) (by unfold Func.isWrapper; first | (rw [if_pos (by decide +kernel)]; kernel_rfl) | (rw [if_neg (by decide +kernel)]; exact ⟨rfl, rfl⟩))
    (fun os started H enc _ => lifted7 os started H enc)
/-- The row. -/
theorem fnExactSlotFault_holds : Rows.FnExactSlotFaultSaid := over7
#print axioms fnExactSlotFault_holds
end Go.Proofs.Ytekndmbpphncmaa
