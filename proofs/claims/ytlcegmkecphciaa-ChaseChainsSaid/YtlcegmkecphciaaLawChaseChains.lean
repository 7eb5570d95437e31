/- The statement ChaseChains: of the law's contract in the engine's words, the claim. Conditions: none beyond the statement's own. -/
import Derived.Test.YtlcegmkecphciaaChains
namespace Go.Proofs.Ytlcegmkecphciaa.chaseChains
open Go Go.Eng Go.ChangeShapes Go.WideShapes Go.ChangeAt Go.RowKit
set_option linter.unusedVariables false
theorem own : ownKnob Try.prog.godebug = none := by kernel_rfl
theorem laidOut : laidOutB Try.prog = true := by kernel_rfl
set_option maxRecDepth 100000 in
theorem lifted (os : Os) (started : os.Started) (H : Type) (enc : TypeId × Value → H) :
    ReturnsInHanded {} Try.checked os 4 .any (Rows.chaseChainsSpec.pre6 enc Try.prog Try.f4 Rows.chaseChainsRow.domain false) (Rows.chaseChainsSpec.post enc Try.prog Try.f4 false true false false) := by
  refine returnsInHanded_of_change_sized (C := Try.checked) own started (by kernel_rfl) Try.func4
    (ChangeSpec.witness6 (enc := enc) (C := Try.checked) false ⟨#[], #[.int .i64 0, .bool false], []⟩ 8 (by kernel_rfl) (by kernel_rfl) (by kernel_rfl) (by kernel_rfl)) ?_
  intro W base args ds gs before hval hW _ hsz _
  exact contract tabOk laidOut (ts := [3, 4]) (rt := 4) (by kernel_rfl) (by kernel_rfl) (by kernel_rfl) (by kernel_rfl) rfl
    (fun ds h => by
      match ds, h with
      | [d0, d1], _ => rfl) hval hW hsz law_ChaseChains
theorem over : Rows.chaseChainsRow.holds Try.pinned (OpenSpec.ofChange Rows.chaseChainsSpec) :=
  OpenClaim.holds_of_wide 4 Try.f4 rfl rfl rfl rfl rfl rfl rfl ⟨rfl, rfl, rfl, rfl, rfl⟩ rfl rfl rfl rfl rfl (by kernel_rfl) Try.func4 (by kernel_rfl)
    (of_decide_eq_true (by kernel_rfl)) (by unfold Func.isWrapper; first | (rw [if_pos (by decide +kernel)]; kernel_rfl) | (rw [if_neg (by decide +kernel)]; exact ⟨rfl, rfl⟩))
    (fun os started H enc _ => lifted os started H enc)
theorem proved : Rows.ChaseChainsSaid := over
end Go.Proofs.Ytlcegmkecphciaa.chaseChains
namespace Go.Proofs.Ytlcegmkecphciaa
/-- The row, under a short name, for the claim. -/
theorem chaseChains_holds : Rows.ChaseChainsSaid := chaseChains.proved
#print axioms chaseChains_holds
end Go.Proofs.Ytlcegmkecphciaa
