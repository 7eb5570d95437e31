/- The statement RankSorts: of the law's contract in the engine's words, the claim. Conditions: none beyond the statement's own. -/
import Derived.Test.YtdcdccdhdingbaaSorts
namespace Go.Proofs.Ytdcdccdhdingbaa.rankSorts
open Go Go.Eng Go.ChangeShapes Go.WideShapes Go.ChangeAt Go.RowKit
set_option linter.unusedVariables false
theorem own : ownKnob Try.prog.godebug = none := by kernel_rfl
theorem laidOut : laidOutB Try.prog = true := by kernel_rfl
set_option maxRecDepth 100000 in
theorem lifted (os : Os) (started : os.Started) (H : Type) (enc : TypeId × Value → H) :
    ReturnsInHanded {} Try.checked os 5 .any (Rows.rankSortsSpec.pre6 enc Try.prog Try.f5 Rows.rankSortsRow.domain false) (Rows.rankSortsSpec.post enc Try.prog Try.f5 false true false false) := by
  refine returnsInHanded_of_change_sized (C := Try.checked) own started (by kernel_rfl) Try.func5
    (ChangeSpec.witness6 (enc := enc) (C := Try.checked) false ⟨#[], #[.slice none 0 0, .slice none 0 0], []⟩ 8 (by kernel_rfl) (by kernel_rfl) (by kernel_rfl) (by kernel_rfl)) ?_
  intro W base args ds gs before hval hW _ hsz _
  exact contract tabOk laidOut (ts := [22, 42]) (rt := 4) (by kernel_rfl) (by kernel_rfl) (by kernel_rfl) (by kernel_rfl) rfl
    (fun ds h => by
      match ds, h with
      | [d0, d1], _ => rfl) hval hW hsz law_RankSorts
theorem over : Rows.rankSortsRow.holds Try.pinned (OpenSpec.ofChange Rows.rankSortsSpec) :=
  OpenClaim.holds_of_wide 5 Try.f5 rfl rfl rfl rfl rfl rfl rfl ⟨rfl, rfl, rfl, rfl, rfl⟩ rfl rfl rfl rfl rfl (by kernel_rfl) Try.func5 (by kernel_rfl)
    (of_decide_eq_true (by kernel_rfl)) (by unfold Func.isWrapper; first | (rw [if_pos (by decide +kernel)]; kernel_rfl) | (rw [if_neg (by decide +kernel)]; exact ⟨rfl, rfl⟩))
    (fun os started H enc _ => lifted os started H enc)
theorem proved : Rows.RankSortsSaid := over
end Go.Proofs.Ytdcdccdhdingbaa.rankSorts
namespace Go.Proofs.Ytdcdccdhdingbaa
/-- The row, under a short name, for the claim. -/
theorem rankSorts_holds : Rows.RankSortsSaid := rankSorts.proved
#print axioms rankSorts_holds
end Go.Proofs.Ytdcdccdhdingbaa
