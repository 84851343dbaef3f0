/- FnExactSlotsFor: whatever data come in, the law's function returns true, and the data read as they did. No condition. -/
import Derived.Test.YtekndmbpphncmaaRows
import Derived.Test.YtekndmbpphncmaaRvE14
import Derived.Test.YtekndmbpphncmaaPure14
import Derived.SizedLaws
import Derived.OpenShut
import Derived.WalkKit
import Derived.ProofKit
namespace Go.Proofs.Ytekndmbpphncmaa
open Go.Rv Go.RvP Go.RowKit Go.ChangeShapes Go.WideShapes
theorem own14 : ownKnob Try.prog.godebug = none := by kernel_rfl
set_option maxRecDepth 100000 in
theorem lifted14 (os : Os) (started : os.Started) (H : Type) (enc : TypeId × Value → H) :
    ReturnsInHanded {} Try.checked os 14 .any (Rows.fnExactSlotsForSpec.pre6 enc Try.prog Try.f14 Rows.fnExactSlotsForRow.domain false) (Rows.fnExactSlotsForSpec.post enc Try.prog Try.f14 false true false false) := by
  refine returnsInHanded_of_change_sized (C := Try.checked) own14 started (by kernel_rfl) Try.func14
    (ChangeSpec.witness6 (enc := enc) (C := Try.checked) false ⟨#[], #[.slice none 0 0, .int .i64 0, .int .i64 0], []⟩ 8 (by kernel_rfl) (by kernel_rfl) (by kernel_rfl) (by kernel_rfl)) ?_
  intro W base args ds gs before hval0 hW hcnd hsz0 _
  exact law_calls (C := Try.checked) (f := 14) (fn := Try.f14) (F := S_laws_FnExactSlotsFor) (n := 3) (ok_laws_FnExactSlotsFor 14 S_laws_FnExactSlotsFor rfl).2 (by kernel_rfl) (by kernel_rfl) rfl Try.underlying4 (fun x h => ⟨true, law_laws_FnExactSlotsFor x h, rfl⟩) rfl rfl
    (fun T ds h => by
      match ds, h with
      | [d0, d1, d2], _ => exact ⟨rfl, rfl, rfl⟩) hval0 hW
theorem over14 : Rows.fnExactSlotsForRow.holds Try.pinned (OpenSpec.ofChange Rows.fnExactSlotsForSpec) :=
  OpenClaim.holds_of_wide 14 Try.f14 rfl rfl rfl rfl rfl rfl rfl ⟨rfl, rfl, rfl, rfl, rfl⟩ rfl rfl rfl rfl rfl (by kernel_rfl) Try.func14 (by kernel_rfl)
    (of_decide_eq_true (by kernel_rfl)) (by unfold Func.isWrapper; first | (rw [if_pos (by decide +kernel)]; kernel_rfl) | (rw [if_neg (by decide +kernel)]; exact ⟨rfl, rfl⟩))
    (fun os started H enc _ => lifted14 os started H enc)
/-- The row. -/
theorem fnExactSlotsFor_holds : Rows.FnExactSlotsForSaid := over14
#print axioms fnExactSlotsFor_holds
end Go.Proofs.Ytekndmbpphncmaa
