/- FnExactChosenAt: whatever data come in, the law's function returns true, and the data read as they did. No condition. -/
import Derived.Test.YtccghpomkikjoaaRows
import Derived.Test.YtccghpomkikjoaaRvE4
import Derived.Test.YtccghpomkikjoaaPure4
import Derived.SizedLaws
import Derived.OpenShut
import Derived.WalkKit
import Derived.ProofKit
namespace Go.Proofs.Ytccghpomkikjoaa
open Go.Rv Go.RvP Go.RowKit Go.ChangeShapes Go.WideShapes
theorem own4 : ownKnob Try.prog.godebug = none := by kernel_rfl
set_option maxRecDepth 100000 in
theorem lifted4 (os : Os) (started : os.Started) (H : Type) (enc : TypeId × Value → H) :
    ReturnsInHanded {} Try.checked os 4 .any (Rows.fnExactChosenAtSpec.pre6 enc Try.prog Try.f4 Rows.fnExactChosenAtRow.domain false) (Rows.fnExactChosenAtSpec.post enc Try.prog Try.f4 false true false false) := by
  refine returnsInHanded_of_change_sized (C := Try.checked) own4 started (by kernel_rfl) Try.func4
    (ChangeSpec.witness6 (enc := enc) (C := Try.checked) false ⟨#[], #[.slice none 0 0, .int .i64 0, .int .i64 0], []⟩ 8 (by kernel_rfl) (by kernel_rfl) (by kernel_rfl) (by kernel_rfl)) ?_
  intro W base args ds gs before hval0 hW hcnd hsz0 _
  exact law_calls (C := Try.checked) (f := 4) (fn := Try.f4) (F := S_laws_FnExactChosenAt) (n := 3) (ok_laws_FnExactChosenAt 4 S_laws_FnExactChosenAt rfl).2 (by kernel_rfl) (by kernel_rfl) rfl Try.underlying4 (fun x h => ⟨true, law_laws_FnExactChosenAt x h, rfl⟩) rfl rfl
    (fun T ds h => by
      match ds, h with
      | [d0, d1, d2], _ => exact ⟨rfl, rfl, rfl⟩) hval0 hW
theorem over4 : Rows.fnExactChosenAtRow.holds Try.pinned (OpenSpec.ofChange Rows.fnExactChosenAtSpec) :=
  OpenClaim.holds_of_wide 4 Try.f4 rfl rfl rfl rfl rfl rfl rfl ⟨rfl, rfl, rfl, rfl, rfl⟩ rfl rfl rfl rfl rfl (by kernel_rfl) Try.func4 (by kernel_rfl)
    (of_decide_eq_true (by kernel_rfl)) (by unfold Func.isWrapper; first | (rw [if_pos (by decide +kernel)]; kernel_rfl) | (rw [if_neg (by decide +kernel)]; exact ⟨rfl, rfl⟩))
    (fun os started H enc _ => lifted4 os started H enc)
/-- The row. -/
theorem fnExactChosenAt_holds : Rows.FnExactChosenAtSaid := over4
#print axioms fnExactChosenAt_holds
end Go.Proofs.Ytccghpomkikjoaa
