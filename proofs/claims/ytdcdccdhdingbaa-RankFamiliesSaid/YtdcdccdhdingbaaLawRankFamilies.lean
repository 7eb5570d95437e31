/- The statement RankFamilies: of the law's contract in the engine's words, the claim. Conditions: none beyond the statement's own. -/
import Derived.Test.YtdcdccdhdingbaaFam
namespace Go.Proofs.Ytdcdccdhdingbaa.rankFamilies
open Go Go.Eng Go.ChangeShapes Go.WideShapes Go.ChangeAt Go.RowKit
set_option linter.unusedVariables false
theorem own : ownKnob Try.prog.godebug = none := by kernel_rfl
theorem laidOut : laidOutB Try.prog = true := by kernel_rfl
set_option maxRecDepth 100000 in
theorem lifted (os : Os) (started : os.Started) (H : Type) (enc : TypeId × Value → H) :
    ReturnsInHanded {} Try.checked os 4 .any (Rows.rankFamiliesSpec.pre6 enc Try.prog Try.f4 Rows.rankFamiliesRow.domain false) (Rows.rankFamiliesSpec.post enc Try.prog Try.f4 false true false false) := by
  refine returnsInHanded_of_change_sized (C := Try.checked) own started (by kernel_rfl) Try.func4
    (ChangeSpec.witness6 (enc := enc) (C := Try.checked) false ⟨#[], #[.slice none 0 0, .slice none 0 0], []⟩ 8 (by kernel_rfl) (by kernel_rfl) (by kernel_rfl) (by kernel_rfl)) ?_
  intro W base args ds gs before hval hW _ hsz _
  exact contract tabOk laidOut (ts := [22, 37]) (rt := 4) (by kernel_rfl) (by kernel_rfl) (by kernel_rfl) (by kernel_rfl) rfl
    (fun ds h => by
      match ds, h with
      | [d0, d1], _ => rfl) hval hW hsz law_RankFamilies
theorem over : Rows.rankFamiliesRow.holds Try.pinned (OpenSpec.ofChange Rows.rankFamiliesSpec) :=
  OpenClaim.holds_of_wide 4 Try.f4 rfl rfl rfl rfl rfl rfl rfl ⟨rfl, rfl, rfl, rfl, rfl⟩ rfl rfl rfl rfl rfl (by kernel_rfl) Try.func4 (by kernel_rfl)
    (of_decide_eq_true (by kernel_rfl)) (by unfold Func.isWrapper; first | (rw [if_pos (by decide +kernel)]; kernel_rfl) | (rw [if_neg (by decide +kernel)]; exact ⟨rfl, rfl⟩))
    (fun os started H enc _ => lifted os started H enc)
theorem proved : Rows.RankFamiliesSaid := over
end Go.Proofs.Ytdcdccdhdingbaa.rankFamilies
namespace Go.Proofs.Ytdcdccdhdingbaa
/-- The row, under a short name, for the claim. -/
theorem rankFamilies_holds : Rows.RankFamiliesSaid := rankFamilies.proved
#print axioms rankFamilies_holds
end Go.Proofs.Ytdcdccdhdingbaa
