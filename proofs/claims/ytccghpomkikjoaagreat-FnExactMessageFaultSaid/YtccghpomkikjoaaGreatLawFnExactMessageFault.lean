/- FnExactMessageFault: whatever data come in, the law's function returns true, and the data read as they did. No condition. -/
import Derived.Test.YtccghpomkikjoaaGreatRows
import Derived.Test.YtccghpomkikjoaaGreatRvE6
import Derived.Test.YtccghpomkikjoaaGreatPure6
import Derived.SizedLaws
import Derived.OpenShut
import Derived.WalkKit
import Derived.ProofKit
namespace Go.Proofs.YtccghpomkikjoaaGreat
open Go.Rv Go.RvP Go.RowKit Go.ChangeShapes Go.WideShapes
theorem own6 : ownKnob Tryz.prog.godebug = none := by kernel_rfl
set_option maxRecDepth 100000 in
theorem lifted6 (os : Os) (started : os.Started) (H : Type) (enc : TypeId × Value → H) :
    ReturnsInHanded {} Tryz.checked os 6 .any (Rows.fnExactMessageFaultSpec.pre6 enc Tryz.prog Tryz.f6 Rows.fnExactMessageFaultRow.domain false) (Rows.fnExactMessageFaultSpec.post enc Tryz.prog Tryz.f6 false true false false) := by
  refine returnsInHanded_of_change_sized (C := Tryz.checked) own6 started (by kernel_rfl) Tryz.func6
    (ChangeSpec.witness6 (enc := enc) (C := Tryz.checked) false ⟨#[], #[.agg #[.slice none 0 0, .slice none 0 0, .slice none 0 0, .slice none 0 0, .slice none 0 0], .agg #[.int .i64 0, .int .i64 0, .int .i64 0, .int .i64 0, .int .i64 0, .int .i64 0, .int .i64 0, .int .i64 0, .int .i64 0]], []⟩ 8 (by kernel_rfl) (by kernel_rfl) (by kernel_rfl) (by kernel_rfl)) ?_
  intro W base args ds gs before hval0 hW hcnd hsz0 _
  exact law_calls (C := Tryz.checked) (f := 6) (fn := Tryz.f6) (F := S_laws_FnExactMessageFault) (n := 2) (ok_laws_FnExactMessageFault 6 S_laws_FnExactMessageFault rfl).2 (by kernel_rfl) (by kernel_rfl) rfl Tryz.underlying4 (fun x h => ⟨true, law_laws_FnExactMessageFault x h, rfl⟩) rfl rfl
    (fun T ds h => by
      match ds, h with
      | [d0, d1], _ => exact ⟨rfl, rfl, rfl⟩) hval0 hW
theorem over6 : Rows.fnExactMessageFaultRow.holds Tryz.pinned (OpenSpec.ofChange Rows.fnExactMessageFaultSpec) :=
  OpenClaim.holds_of_wide 6 Tryz.f6 rfl rfl rfl rfl rfl rfl rfl ⟨rfl, rfl, rfl, rfl, rfl⟩ rfl rfl rfl rfl rfl (by kernel_rfl) Tryz.func6 (by kernel_rfl)
    (of_decide_eq_true (by kernel_rfl)) (by unfold Func.isWrapper; first | (rw [if_pos (by decide +kernel)]; kernel_rfl) | (rw [if_neg (by decide +kernel)]; exact ⟨rfl, rfl⟩))
    (fun os started H enc _ => lifted6 os started H enc)
/-- The row. -/
theorem fnExactMessageFault_holds : Rows.FnExactMessageFaultSaid := over6
#print axioms fnExactMessageFault_holds
end Go.Proofs.YtccghpomkikjoaaGreat
