/- Fe -/
import Derived.Test.YtacklcdhfoedlaaFd
import Derived.KernelRfl
namespace Go.Proofs.Ytacklcdhfoedlaa
open Go Go.Eng
set_option maxRecDepth 100000
def FB : Fun := mkF [(10, e10), (11, e11), (12, e12), (13, e13), (14, e14), (16, e16), (18, e18)]
theorem sFB : FSound Try.prog tab FB := mkF_sound (fun p hp => by
  simp only [List.mem_cons, List.not_mem_nil, or_false] at hp
  rcases hp with rfl | rfl | rfl | rfl | rfl | rfl | rfl
  · exact es10
  · exact es11
  · exact es12
  · exact es13
  · exact es14
  · exact es16
  · exact es18)
theorem f9_out (n : Nat) : evFn tab FB nO false lv9 false n Try.f9 [] [] = some (.one (.c (.bool true)), []) := by kernel_rfl
def e9 : En
  | [], [], k => k (.one (.c (.bool true))) []
  | _, _, _ => none
theorem es9 : ES Try.prog tab 9 e9 := by
  intro args h k x hh
  unfold e9 at hh
  split at hh
  · exact ⟨_, _, hh, fn9 sFB rfl (f9_out 0)⟩
  · cases hh
def FC : Fun := mkF [(9, e9), (10, e10), (11, e11), (12, e12), (13, e13), (14, e14), (16, e16), (18, e18)]
theorem sFC : FSound Try.prog tab FC := mkF_sound (fun p hp => by
  simp only [List.mem_cons, List.not_mem_nil, or_false] at hp
  rcases hp with rfl | rfl | rfl | rfl | rfl | rfl | rfl | rfl
  · exact es9
  · exact es10
  · exact es11
  · exact es12
  · exact es13
  · exact es14
  · exact es16
  · exact es18)

end Go.Proofs.Ytacklcdhfoedlaa
