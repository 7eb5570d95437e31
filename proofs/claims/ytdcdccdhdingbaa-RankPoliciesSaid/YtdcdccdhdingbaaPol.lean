/- Pol -/
import Derived.Test.YtdcdccdhdingbaaWd
import Derived.KernelRfl
namespace Go.Proofs.Ytdcdccdhdingbaa
open Go Go.Eng
set_option maxRecDepth 100000
noncomputable def FR : Fun := mkF [(9, e9), (12, e12), (13, e13), (17, e17), (18, e18)]
theorem sFR : FSound Try.prog tab FR := mkF_sound (fun p hp => by
  simp only [List.mem_cons, List.not_mem_nil, or_false] at hp
  rcases hp with rfl | rfl | rfl | rfl | rfl
  · exact es9
  · exact es12
  · exact es13
  · exact es17
  · exact es18)
theorem f6_eq (n : Nat) (a : List C) : evFn tab FR nO false lv6 false n Try.f6 [.agg 24 a []] [] = bcond (polP a == (polR a).fst) (bcond (polL a == (polR a).snd) (some ((V.one (A.c (C.bool (scN a == scR a))), []))) (some ((V.one (A.c (C.bool false)), [])))) (some ((V.one (A.c (C.bool false)), []))) := by kernel_rfl

theorem f6_out (n : Nat) (a : List C) (ha : A8 a) : evFn tab FR nO false lv6 false n Try.f6 [.agg 24 a []] [] = some (.one (.c (.bool true)), []) := by
  rw [f6_eq, (pol_eq ha).1, (pol_eq ha).2, sc_eq ha]
  simp [bcond]
theorem law_RankPolicies : ∀ xs, All2 (ArgOk tab) [24] xs → FnAt Try.prog tab 6 (List.zipWith (argV tab) [24] xs) [] (.one (.c (.bool true))) [] := by
  intro xs h
  match xs, h with
  | [x], h => exact fn6 sFR rfl (f6_out 0 x (a8_of h.1.1 h.1.2))

end Go.Proofs.Ytdcdccdhdingbaa
