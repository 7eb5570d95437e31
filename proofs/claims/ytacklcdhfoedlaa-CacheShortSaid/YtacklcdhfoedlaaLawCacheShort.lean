/- The statement CacheShort: of the law's contract in the engine's words, the claim. Conditions: none beyond the statement's own. -/
import Derived.Test.YtacklcdhfoedlaaShort
namespace Go.Proofs.Ytacklcdhfoedlaa.cacheShort
open Go Go.Eng Go.ChangeShapes Go.WideShapes Go.ChangeAt Go.RowKit
set_option linter.unusedVariables false
theorem own : ownKnob Try.prog.godebug = none := by kernel_rfl
theorem laidOut : laidOutB Try.prog = true := by kernel_rfl
set_option maxRecDepth 100000 in
theorem lifted (os : Os) (started : os.Started) (H : Type) (enc : TypeId × Value → H) :
    ReturnsInHanded {} Try.checked os 5 .any (Rows.cacheShortSpec.pre6 enc Try.prog Try.f5 Rows.cacheShortRow.domain false) (Rows.cacheShortSpec.post enc Try.prog Try.f5 false true false false) := by
  refine returnsInHanded_of_change_sized (C := Try.checked) own started (by kernel_rfl) Try.func5
    (ChangeSpec.witness6 (enc := enc) (C := Try.checked) false ⟨#[], #[.slice none 0 0], []⟩ 8 (by kernel_rfl) (by kernel_rfl) (by kernel_rfl) (by kernel_rfl)) ?_
  intro W base args ds gs before hval hW _ hsz _
  exact contract tabOk laidOut (ts := [40]) (rt := 4) (by kernel_rfl) (by kernel_rfl) (by kernel_rfl) (by kernel_rfl) rfl
    (fun ds h => by
      match ds, h with
      | [d0], _ => rfl) hval hW hsz law_CacheShort
theorem over : Rows.cacheShortRow.holds Try.pinned (OpenSpec.ofChange Rows.cacheShortSpec) :=
  OpenClaim.holds_of_wide 5 Try.f5 rfl rfl rfl rfl rfl rfl rfl ⟨rfl, rfl, rfl, rfl, rfl⟩ rfl rfl rfl rfl rfl (by kernel_rfl) Try.func5 (by kernel_rfl)
    (of_decide_eq_true (by kernel_rfl)) (by unfold Func.isWrapper; first | (rw [if_pos (by decide +kernel)]; kernel_rfl) | (rw [if_neg (by decide +kernel)]; exact ⟨rfl, rfl⟩))
    (fun os started H enc _ => lifted os started H enc)
theorem proved : Rows.CacheShortSaid := over
end Go.Proofs.Ytacklcdhfoedlaa.cacheShort
namespace Go.Proofs.Ytacklcdhfoedlaa
/-- The row, under a short name, for the claim. -/
theorem cacheShort_holds : Rows.CacheShortSaid := cacheShort.proved
#print axioms cacheShort_holds
end Go.Proofs.Ytacklcdhfoedlaa
