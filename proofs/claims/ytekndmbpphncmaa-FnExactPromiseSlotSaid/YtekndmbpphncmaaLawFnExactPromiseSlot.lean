/- FnExactPromiseSlot: whatever data come in, the law's function returns true, and the data read as they did. No condition. -/
import Derived.Test.YtekndmbpphncmaaRows
import Derived.Test.YtekndmbpphncmaaRvE9
import Derived.Test.YtekndmbpphncmaaPure9
import Derived.SizedLaws
import Derived.OpenShut
import Derived.WalkKit
import Derived.ProofKit
namespace Go.Proofs.Ytekndmbpphncmaa
open Go.Rv Go.RvP Go.RowKit Go.ChangeShapes Go.WideShapes
theorem own9 : ownKnob Try.prog.godebug = none := by kernel_rfl
set_option maxRecDepth 100000 in
theorem lifted9 (os : Os) (started : os.Started) (H : Type) (enc : TypeId × Value → H) :
    ReturnsInHanded {} Try.checked os 9 .any (Rows.fnExactPromiseSlotSpec.pre6 enc Try.prog Try.f9 Rows.fnExactPromiseSlotRow.domain false) (Rows.fnExactPromiseSlotSpec.post enc Try.prog Try.f9 false true false false) := by
  refine returnsInHanded_of_change_sized (C := Try.checked) own9 started (by kernel_rfl) Try.func9
    (ChangeSpec.witness6 (enc := enc) (C := Try.checked) false ⟨#[], #[.agg #[.int .i64 0, .int .i64 0, .int .i64 0, .int .i64 0, .int .i64 0, .slice none 0 0], .int .i64 0], []⟩ 8 (by kernel_rfl) (by kernel_rfl) (by kernel_rfl) (by kernel_rfl)) ?_
  intro W base args ds gs before hval0 hW hcnd hsz0 _
  exact law_calls (C := Try.checked) (f := 9) (fn := Try.f9) (F := S_laws_FnExactPromiseSlot) (n := 2) (ok_laws_FnExactPromiseSlot 9 S_laws_FnExactPromiseSlot rfl).2 (by kernel_rfl) (by kernel_rfl) rfl Try.underlying4 (fun x h => ⟨true, law_laws_FnExactPromiseSlot x h, rfl⟩) rfl rfl
    (fun T ds h => by
      match ds, h with
      | [d0, d1], _ => exact ⟨rfl, rfl, rfl⟩) hval0 hW
theorem over9 : Rows.fnExactPromiseSlotRow.holds Try.pinned (OpenSpec.ofChange Rows.fnExactPromiseSlotSpec) :=
  OpenClaim.holds_of_wide 9 Try.f9 rfl rfl rfl rfl rfl rfl rfl ⟨rfl, rfl, rfl, rfl, rfl⟩ rfl rfl rfl rfl rfl (by kernel_rfl) Try.func9 (by kernel_rfl)
    (of_decide_eq_true (by kernel_rfl)) (by unfold Func.isWrapper; first | (rw [if_pos (by decide +kernel)]; kernel_rfl) | (rw [if_neg (by decide +kernel)]; exact ⟨rfl, rfl⟩))
    (fun os started H enc _ => lifted9 os started H enc)
/-- The row. -/
theorem fnExactPromiseSlot_holds : Rows.FnExactPromiseSlotSaid := over9
#print axioms fnExactPromiseSlot_holds
end Go.Proofs.Ytekndmbpphncmaa
