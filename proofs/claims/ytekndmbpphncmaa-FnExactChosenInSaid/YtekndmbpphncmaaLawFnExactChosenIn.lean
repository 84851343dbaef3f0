/- FnExactChosenIn: whatever data come in, the law's function returns true, and the data read as they did. No condition. -/
import Derived.Test.YtekndmbpphncmaaRows
import Derived.Test.YtekndmbpphncmaaRvE12
import Derived.Test.YtekndmbpphncmaaPure12
import Derived.SizedLaws
import Derived.OpenShut
import Derived.WalkKit
import Derived.ProofKit
namespace Go.Proofs.Ytekndmbpphncmaa
open Go.Rv Go.RvP Go.RowKit Go.ChangeShapes Go.WideShapes
theorem own12 : ownKnob Try.prog.godebug = none := by kernel_rfl
set_option maxRecDepth 100000 in
theorem lifted12 (os : Os) (started : os.Started) (H : Type) (enc : TypeId × Value → H) :
    ReturnsInHanded {} Try.checked os 12 .any (Rows.fnExactChosenInSpec.pre6 enc Try.prog Try.f12 Rows.fnExactChosenInRow.domain false) (Rows.fnExactChosenInSpec.post enc Try.prog Try.f12 false true false false) := by
  refine returnsInHanded_of_change_sized (C := Try.checked) own12 started (by kernel_rfl) Try.func12
    (ChangeSpec.witness6 (enc := enc) (C := Try.checked) false ⟨#[], #[.slice none 0 0], []⟩ 8 (by kernel_rfl) (by kernel_rfl) (by kernel_rfl) (by kernel_rfl)) ?_
  intro W base args ds gs before hval0 hW hcnd hsz0 _
  exact law_calls (C := Try.checked) (f := 12) (fn := Try.f12) (F := S_laws_FnExactChosenIn) (n := 1) (ok_laws_FnExactChosenIn 12 S_laws_FnExactChosenIn rfl).2 (by kernel_rfl) (by kernel_rfl) rfl Try.underlying4 (fun x h => ⟨true, law_laws_FnExactChosenIn x h, rfl⟩) rfl rfl
    (fun T ds h => by
      match ds, h with
      | [d0], _ => exact ⟨rfl, rfl, rfl⟩) hval0 hW
theorem over12 : Rows.fnExactChosenInRow.holds Try.pinned (OpenSpec.ofChange Rows.fnExactChosenInSpec) :=
  OpenClaim.holds_of_wide 12 Try.f12 rfl rfl rfl rfl rfl rfl rfl ⟨rfl, rfl, rfl, rfl, rfl⟩ rfl rfl rfl rfl rfl (by kernel_rfl) Try.func12 (by kernel_rfl)
    (of_decide_eq_true (by kernel_rfl)) (by unfold Func.isWrapper; first | (rw [if_pos (by decide +kernel)]; kernel_rfl) | (rw [if_neg (by decide +kernel)]; exact ⟨rfl, rfl⟩))
    (fun os started H enc _ => lifted12 os started H enc)
/-- The row. -/
theorem fnExactChosenIn_holds : Rows.FnExactChosenInSaid := over12
#print axioms fnExactChosenIn_holds
end Go.Proofs.Ytekndmbpphncmaa
