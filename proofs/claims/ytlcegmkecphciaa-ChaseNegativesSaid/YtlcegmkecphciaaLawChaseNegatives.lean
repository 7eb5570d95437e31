/- The statement ChaseNegatives: of the law's contract in the engine's words, the claim. Conditions: none beyond the statement's own. -/
import Derived.Test.YtlcegmkecphciaaNegs
namespace Go.Proofs.Ytlcegmkecphciaa.chaseNegatives
open Go Go.Eng Go.ChangeShapes Go.WideShapes Go.ChangeAt Go.RowKit
set_option linter.unusedVariables false
theorem own : ownKnob Try.prog.godebug = none := by kernel_rfl
theorem laidOut : laidOutB Try.prog = true := by kernel_rfl
set_option maxRecDepth 100000 in
theorem lifted (os : Os) (started : os.Started) (H : Type) (enc : TypeId × Value → H) :
    ReturnsInHanded {} Try.checked os 6 .any (Rows.chaseNegativesSpec.pre6 enc Try.prog Try.f6 Rows.chaseNegativesRow.domain false) (Rows.chaseNegativesSpec.post enc Try.prog Try.f6 false true false false) := by
  refine returnsInHanded_of_change_sized (C := Try.checked) own started (by kernel_rfl) Try.func6
    (ChangeSpec.witness6 (enc := enc) (C := Try.checked) false ⟨#[], #[.int .i64 0, .slice none 0 0], []⟩ 8 (by kernel_rfl) (by kernel_rfl) (by kernel_rfl) (by kernel_rfl)) ?_
  intro W base args ds gs before hval hW _ hsz _
  exact contract tabOk laidOut (ts := [3, 46]) (rt := 4) (by kernel_rfl) (by kernel_rfl) (by kernel_rfl) (by kernel_rfl) rfl
    (fun ds h => by
      match ds, h with
      | [d0, d1], _ => rfl) hval hW hsz law_ChaseNegatives
theorem over : Rows.chaseNegativesRow.holds Try.pinned (OpenSpec.ofChange Rows.chaseNegativesSpec) :=
  OpenClaim.holds_of_wide 6 Try.f6 rfl rfl rfl rfl rfl rfl rfl ⟨rfl, rfl, rfl, rfl, rfl⟩ rfl rfl rfl rfl rfl (by kernel_rfl) Try.func6 (by kernel_rfl)
    (of_decide_eq_true (by kernel_rfl)) (by unfold Func.isWrapper; first | (rw [if_pos (by decide +kernel)]; kernel_rfl) | (rw [if_neg (by decide +kernel)]; exact ⟨rfl, rfl⟩))
    (fun os started H enc _ => lifted os started H enc)
theorem proved : Rows.ChaseNegativesSaid := over
end Go.Proofs.Ytlcegmkecphciaa.chaseNegatives
namespace Go.Proofs.Ytlcegmkecphciaa
/-- The row, under a short name, for the claim. -/
theorem chaseNegatives_holds : Rows.ChaseNegativesSaid := chaseNegatives.proved
#print axioms chaseNegatives_holds
end Go.Proofs.Ytlcegmkecphciaa
