/- FnExactAcceptAt: whatever data come in, the law's function returns true, and the data read as they did. No condition. -/
import Derived.Test.YtlpfmkjihbancaaRows
import Derived.Test.YtlpfmkjihbancaaRvE7
import Derived.Test.YtlpfmkjihbancaaPure7
import Derived.SizedLaws
import Derived.OpenShut
import Derived.WalkKit
import Derived.ProofKit
namespace Go.Proofs.Ytlpfmkjihbancaa
open Go.Rv Go.RvP Go.RowKit Go.ChangeShapes Go.WideShapes
theorem own7 : ownKnob Try.prog.godebug = none := by kernel_rfl
set_option maxRecDepth 100000 in
theorem lifted7 (os : Os) (started : os.Started) (H : Type) (enc : TypeId × Value → H) :
    ReturnsInHanded {} Try.checked os 7 .any (Rows.fnExactAcceptAtSpec.pre6 enc Try.prog Try.f7 Rows.fnExactAcceptAtRow.domain false) (Rows.fnExactAcceptAtSpec.post enc Try.prog Try.f7 false true false false) := by
  refine returnsInHanded_of_change_sized (C := Try.checked) own7 started (by kernel_rfl) Try.func7
    (ChangeSpec.witness6 (enc := enc) (C := Try.checked) false ⟨#[], #[.agg #[.slice none 0 0], .int .i64 0, .int .i64 0, .int .i64 0, .int .i64 0], []⟩ 8 (by kernel_rfl) (by kernel_rfl) (by kernel_rfl) (by kernel_rfl)) ?_
  intro W base args ds gs before hval0 hW hcnd hsz0 _
  exact law_calls (C := Try.checked) (f := 7) (fn := Try.f7) (F := S_laws_FnExactAcceptAt) (n := 5) (ok_laws_FnExactAcceptAt 7 S_laws_FnExactAcceptAt rfl).2 (by kernel_rfl) (by kernel_rfl) rfl Try.underlying4 (fun x h => ⟨true, law_laws_FnExactAcceptAt x h, rfl⟩) rfl rfl
    (fun T ds h => by
      match ds, h with
      | [d0, d1, d2, d3, d4], _ => exact ⟨rfl, rfl, rfl⟩) hval0 hW
theorem over7 : Rows.fnExactAcceptAtRow.holds Try.pinned (OpenSpec.ofChange Rows.fnExactAcceptAtSpec) :=
  OpenClaim.holds_of_wide 7 Try.f7 rfl rfl rfl rfl rfl rfl rfl ⟨rfl, rfl, rfl, rfl, rfl⟩ rfl rfl rfl rfl rfl (by kernel_rfl) Try.func7 (by kernel_rfl)
    (of_decide_eq_true (by kernel_rfl)) (by unfold Func.isWrapper; first | (rw [if_pos (by decide +kernel)]; kernel_rfl) | (rw [if_neg (by decide +kernel)]; exact ⟨rfl, rfl⟩))
    (fun os started H enc _ => lifted7 os started H enc)
/-- The row. -/
theorem fnExactAcceptAt_holds : Rows.FnExactAcceptAtSaid := over7
#print axioms fnExactAcceptAt_holds
end Go.Proofs.Ytlpfmkjihbancaa
