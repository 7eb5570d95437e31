/- Fk -/
import Derived.Test.YtdcdccdhdingbaaFj
import Derived.KernelRfl
namespace Go.Proofs.Ytdcdccdhdingbaa
open Go Go.Eng
set_option maxRecDepth 100000
noncomputable def FP : Fun := mkF [(9, e9), (10, e10), (11, e11), (12, e12), (13, e13), (14, e14), (15, e15)]
theorem sFP : FSound Try.prog tab FP := mkF_sound (fun p hp => by
  simp only [List.mem_cons, List.not_mem_nil, or_false] at hp
  rcases hp with rfl | rfl | rfl | rfl | rfl | rfl | rfl
  · exact es9
  · exact es10
  · exact es11
  · exact es12
  · exact es13
  · exact es14
  · exact es15)

end Go.Proofs.Ytdcdccdhdingbaa
