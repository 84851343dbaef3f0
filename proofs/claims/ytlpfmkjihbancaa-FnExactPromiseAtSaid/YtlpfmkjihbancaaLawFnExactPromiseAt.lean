/- FnExactPromiseAt: whatever data come in, the law's function returns true, and the data read as they did. No condition. -/
import Derived.Test.YtlpfmkjihbancaaRows
import Derived.Test.YtlpfmkjihbancaaRvE6
import Derived.Test.YtlpfmkjihbancaaPure6
import Derived.SizedLaws
import Derived.OpenShut
import Derived.WalkKit
import Derived.ProofKit
namespace Go.Proofs.Ytlpfmkjihbancaa
open Go.Rv Go.RvP Go.RowKit Go.ChangeShapes Go.WideShapes
theorem own6 : ownKnob Try.prog.godebug = none := by kernel_rfl
set_option maxRecDepth 100000 in
theorem lifted6 (os : Os) (started : os.Started) (H : Type) (enc : TypeId × Value → H) :
    ReturnsInHanded {} Try.checked os 6 .any (Rows.fnExactPromiseAtSpec.pre6 enc Try.prog Try.f6 Rows.fnExactPromiseAtRow.domain false) (Rows.fnExactPromiseAtSpec.post enc Try.prog Try.f6 false true false false) := by
  refine returnsInHanded_of_change_sized (C := Try.checked) own6 started (by kernel_rfl) Try.func6
    (ChangeSpec.witness6 (enc := enc) (C := Try.checked) false ⟨#[], #[.agg #[.slice none 0 0], .int .i64 0, .int .i64 0, .int .i64 0], []⟩ 8 (by kernel_rfl) (by kernel_rfl) (by kernel_rfl) (by kernel_rfl)) ?_
  intro W base args ds gs before hval0 hW hcnd hsz0 _
  exact law_calls (C := Try.checked) (f := 6) (fn := Try.f6) (F := S_laws_FnExactPromiseAt) (n := 4) (ok_laws_FnExactPromiseAt 6 S_laws_FnExactPromiseAt rfl).2 (by kernel_rfl) (by kernel_rfl) rfl Try.underlying4 (fun x h => ⟨true, law_laws_FnExactPromiseAt x h, rfl⟩) rfl rfl
    (fun T ds h => by
      match ds, h with
      | [d0, d1, d2, d3], _ => exact ⟨rfl, rfl, rfl⟩) hval0 hW
theorem over6 : Rows.fnExactPromiseAtRow.holds Try.pinned (OpenSpec.ofChange Rows.fnExactPromiseAtSpec) :=
  OpenClaim.holds_of_wide 6 Try.f6 rfl rfl rfl rfl rfl rfl rfl ⟨rfl, rfl, rfl, rfl, rfl⟩ rfl rfl rfl rfl rfl (by kernel_rfl) Try.func6 (by kernel_rfl)
    (of_decide_eq_true (by kernel_rfl)) (by unfold Func.isWrapper; first | (rw [if_pos (by decide +kernel)]; kernel_rfl) | (rw [if_neg (by decide +kernel)]; exact ⟨rfl, rfl⟩))
    (fun os started H enc _ => lifted6 os started H enc)
/-- The row. -/
theorem fnExactPromiseAt_holds : Rows.FnExactPromiseAtSaid := over6
#print axioms fnExactPromiseAt_holds
end Go.Proofs.Ytlpfmkjihbancaa
