/- Fb -/
import Derived.Test.YtdcdccdhdingbaaFa
import Derived.KernelRfl
namespace Go.Proofs.Ytdcdccdhdingbaa
open Go Go.Eng
set_option maxRecDepth 100000
@[irreducible] def is4 (x : List C) : Bool := eqL (sub x 0 12) [C.int .u8 0, C.int .u8 0, C.int .u8 0, C.int .u8 0, C.int .u8 0, C.int .u8 0, C.int .u8 0, C.int .u8 0, C.int .u8 0, C.int .u8 0, C.int .u8 255, C.int .u8 255]
theorem is4_eq (x : List C) : is4 x = eqL (sub x 0 12) [C.int .u8 0, C.int .u8 0, C.int .u8 0, C.int .u8 0, C.int .u8 0, C.int .u8 0, C.int .u8 0, C.int .u8 0, C.int .u8 0, C.int .u8 0, C.int .u8 255, C.int .u8 255] := by unfold is4; rfl
def e14 : En
  | [.agg 24 x []], [], k => k (.one (.c (.bool (is4 x)))) []
  | _, _, _ => none
theorem es14 : ES Try.prog tab 14 e14 := by
  intro args h k x hh
  unfold e14 at hh
  split at hh
  · exact ⟨_, _, hh, fn14 (nF_sound _ _) rfl ((f14_eq 0 _).trans (by rw [is4_eq]))⟩
  · cases hh
def e21 : En
  | [.one (.c (.bool b))], [], k => k (.one (.c (.int .i64 (if b = true then 1 else 0)))) []
  | _, _, _ => none
theorem es21 : ES Try.prog tab 21 e21 := by
  intro args h k x hh
  unfold e21 at hh
  split at hh
  · rename_i b
    exact ⟨_, _, hh, fn21 (nF_sound _ _) rfl ((f21_eq 0 b).trans (by cases b <;> rfl))⟩
  · cases hh
def e19 : En
  | [.one (.c (.int .u8 a)), .one (.c (.int .u8 b)), .one (.c (.int .u8 c)), .one (.c (.int .u8 d))], [], k => k (.agg 24 [C.int .u8 0, C.int .u8 0, C.int .u8 0, C.int .u8 0, C.int .u8 0, C.int .u8 0, C.int .u8 0, C.int .u8 0, C.int .u8 0, C.int .u8 0, C.int .u8 255, C.int .u8 255, C.int .u8 a, C.int .u8 b, C.int .u8 c, C.int .u8 d] []) []
  | _, _, _ => none
theorem es19 : ES Try.prog tab 19 e19 := by
  intro args h k x hh
  unfold e19 at hh
  split at hh
  · exact ⟨_, _, hh, fn19 (nF_sound _ _) rfl (f19_eq 0 _ _ _ _)⟩
  · cases hh
def e22 : En
  | [.agg 24 x [], .agg 24 y []], [], k => k (.one (.c (.int .i64 (shN x y)))) []
  | _, _, _ => none
theorem es22 : ES Try.prog tab 22 e22 := by
  intro args h k x hh
  unfold e22 at hh
  split at hh
  · exact ⟨_, _, hh, fn22 (nF_sound _ _) rfl (f22_out 21 (by omega) _ _)⟩
  · cases hh
def FA : Fun := mkF [(14, e14), (19, e19), (21, e21), (22, e22)]
theorem sFA : FSound Try.prog tab FA := mkF_sound (fun p hp => by
  simp only [List.mem_cons, List.not_mem_nil, or_false] at hp
  rcases hp with rfl | rfl | rfl | rfl
  · exact es14
  · exact es19
  · exact es21
  · exact es22)
theorem f23_eq (n : Nat) : evFn tab FA nO false lv23 false n Try.f23 [] [] = some ((V.one (A.c (C.sl (51 : Nat) [[C.int IntKind.u8 (0 : Int), C.int IntKind.u8 (0 : Int), C.int IntKind.u8 (0 : Int), C.int IntKind.u8 (0 : Int), C.int IntKind.u8 (0 : Int), C.int IntKind.u8 (0 : Int), C.int IntKind.u8 (0 : Int), C.int IntKind.u8 (0 : Int), C.int IntKind.u8 (0 : Int), C.int IntKind.u8 (0 : Int), C.int IntKind.u8 (0 : Int), C.int IntKind.u8 (0 : Int), C.int IntKind.u8 (0 : Int), C.int IntKind.u8 (0 : Int), C.int IntKind.u8 (0 : Int), C.int IntKind.u8 (1 : Int), C.int IntKind.i64 (128 : Int), C.int IntKind.i64 (50 : Int), C.int IntKind.i64 (0 : Int)], [C.int IntKind.u8 (0 : Int), C.int IntKind.u8 (0 : Int), C.int IntKind.u8 (0 : Int), C.int IntKind.u8 (0 : Int), C.int IntKind.u8 (0 : Int), C.int IntKind.u8 (0 : Int), C.int IntKind.u8 (0 : Int), C.int IntKind.u8 (0 : Int), C.int IntKind.u8 (0 : Int), C.int IntKind.u8 (0 : Int), C.int IntKind.u8 (0 : Int), C.int IntKind.u8 (0 : Int), C.int IntKind.u8 (0 : Int), C.int IntKind.u8 (0 : Int), C.int IntKind.u8 (0 : Int), C.int IntKind.u8 (0 : Int), C.int IntKind.i64 (0 : Int), C.int IntKind.i64 (40 : Int), C.int IntKind.i64 (1 : Int)], [C.int IntKind.u8 (0 : Int), C.int IntKind.u8 (0 : Int), C.int IntKind.u8 (0 : Int), C.int IntKind.u8 (0 : Int), C.int IntKind.u8 (0 : Int), C.int IntKind.u8 (0 : Int), C.int IntKind.u8 (0 : Int), C.int IntKind.u8 (0 : Int), C.int IntKind.u8 (0 : Int), C.int IntKind.u8 (0 : Int), C.int IntKind.u8 (255 : Int), C.int IntKind.u8 (255 : Int), C.int IntKind.u8 (0 : Int), C.int IntKind.u8 (0 : Int), C.int IntKind.u8 (0 : Int), C.int IntKind.u8 (0 : Int), C.int IntKind.i64 (96 : Int), C.int IntKind.i64 (35 : Int), C.int IntKind.i64 (4 : Int)], [C.int IntKind.u8 (32 : Int), C.int IntKind.u8 (2 : Int), C.int IntKind.u8 (0 : Int), C.int IntKind.u8 (0 : Int), C.int IntKind.u8 (0 : Int), C.int IntKind.u8 (0 : Int), C.int IntKind.u8 (0 : Int), C.int IntKind.u8 (0 : Int), C.int IntKind.u8 (0 : Int), C.int IntKind.u8 (0 : Int), C.int IntKind.u8 (0 : Int), C.int IntKind.u8 (0 : Int), C.int IntKind.u8 (0 : Int), C.int IntKind.u8 (0 : Int), C.int IntKind.u8 (0 : Int), C.int IntKind.u8 (0 : Int), C.int IntKind.i64 (16 : Int), C.int IntKind.i64 (30 : Int), C.int IntKind.i64 (2 : Int)], [C.int IntKind.u8 (32 : Int), C.int IntKind.u8 (1 : Int), C.int IntKind.u8 (0 : Int), C.int IntKind.u8 (0 : Int), C.int IntKind.u8 (0 : Int), C.int IntKind.u8 (0 : Int), C.int IntKind.u8 (0 : Int), C.int IntKind.u8 (0 : Int), C.int IntKind.u8 (0 : Int), C.int IntKind.u8 (0 : Int), C.int IntKind.u8 (0 : Int), C.int IntKind.u8 (0 : Int), C.int IntKind.u8 (0 : Int), C.int IntKind.u8 (0 : Int), C.int IntKind.u8 (0 : Int), C.int IntKind.u8 (0 : Int), C.int IntKind.i64 (32 : Int), C.int IntKind.i64 (5 : Int), C.int IntKind.i64 (5 : Int)], [C.int IntKind.u8 (252 : Int), C.int IntKind.u8 (0 : Int), C.int IntKind.u8 (0 : Int), C.int IntKind.u8 (0 : Int), C.int IntKind.u8 (0 : Int), C.int IntKind.u8 (0 : Int), C.int IntKind.u8 (0 : Int), C.int IntKind.u8 (0 : Int), C.int IntKind.u8 (0 : Int), C.int IntKind.u8 (0 : Int), C.int IntKind.u8 (0 : Int), C.int IntKind.u8 (0 : Int), C.int IntKind.u8 (0 : Int), C.int IntKind.u8 (0 : Int), C.int IntKind.u8 (0 : Int), C.int IntKind.u8 (0 : Int), C.int IntKind.i64 (7 : Int), C.int IntKind.i64 (3 : Int), C.int IntKind.i64 (13 : Int)], [C.int IntKind.u8 (0 : Int), C.int IntKind.u8 (0 : Int), C.int IntKind.u8 (0 : Int), C.int IntKind.u8 (0 : Int), C.int IntKind.u8 (0 : Int), C.int IntKind.u8 (0 : Int), C.int IntKind.u8 (0 : Int), C.int IntKind.u8 (0 : Int), C.int IntKind.u8 (0 : Int), C.int IntKind.u8 (0 : Int), C.int IntKind.u8 (0 : Int), C.int IntKind.u8 (0 : Int), C.int IntKind.u8 (0 : Int), C.int IntKind.u8 (0 : Int), C.int IntKind.u8 (0 : Int), C.int IntKind.u8 (0 : Int), C.int IntKind.i64 (96 : Int), C.int IntKind.i64 (1 : Int), C.int IntKind.i64 (3 : Int)], [C.int IntKind.u8 (254 : Int), C.int IntKind.u8 (192 : Int), C.int IntKind.u8 (0 : Int), C.int IntKind.u8 (0 : Int), C.int IntKind.u8 (0 : Int), C.int IntKind.u8 (0 : Int), C.int IntKind.u8 (0 : Int), C.int IntKind.u8 (0 : Int), C.int IntKind.u8 (0 : Int), C.int IntKind.u8 (0 : Int), C.int IntKind.u8 (0 : Int), C.int IntKind.u8 (0 : Int), C.int IntKind.u8 (0 : Int), C.int IntKind.u8 (0 : Int), C.int IntKind.u8 (0 : Int), C.int IntKind.u8 (0 : Int), C.int IntKind.i64 (10 : Int), C.int IntKind.i64 (1 : Int), C.int IntKind.i64 (11 : Int)], [C.int IntKind.u8 (63 : Int), C.int IntKind.u8 (254 : Int), C.int IntKind.u8 (0 : Int), C.int IntKind.u8 (0 : Int), C.int IntKind.u8 (0 : Int), C.int IntKind.u8 (0 : Int), C.int IntKind.u8 (0 : Int), C.int IntKind.u8 (0 : Int), C.int IntKind.u8 (0 : Int), C.int IntKind.u8 (0 : Int), C.int IntKind.u8 (0 : Int), C.int IntKind.u8 (0 : Int), C.int IntKind.u8 (0 : Int), C.int IntKind.u8 (0 : Int), C.int IntKind.u8 (0 : Int), C.int IntKind.u8 (0 : Int), C.int IntKind.i64 (16 : Int), C.int IntKind.i64 (1 : Int), C.int IntKind.i64 (12 : Int)]])), [])) := by kernel_rfl

theorem f13_eq (n : Nat) (x : List C) : evFn tab FA nO false lv13 false n Try.f13 [.agg 24 x []] [] = bcond (is4 x) (bcond ((cl x (12 : Nat)).toI == (127 : Int)) (some ((V.one (A.c (C.int IntKind.i64 (2 : Int))), []))) (bcond ((cl x (12 : Nat)).toI == (169 : Int)) (bcond ((cl x (13 : Nat)).toI == (254 : Int)) (some ((V.one (A.c (C.int IntKind.i64 (2 : Int))), []))) (some ((V.one (A.c (C.int IntKind.i64 (14 : Int))), [])))) (some ((V.one (A.c (C.int IntKind.i64 (14 : Int))), []))))) (bcond ((cl x (0 : Nat)).toI == (255 : Int)) (some ((V.one (A.c (C.int IntKind.i64 (IntKind.i64.wrap (iand IntKind.u8 (cl x (1 : Nat)).toI (15 : Int))))), []))) (bcond ((cl x (0 : Nat)).toI == (254 : Int)) (bcond (iand IntKind.u8 (cl x (1 : Nat)).toI (192 : Int) == (128 : Int)) (some ((V.one (A.c (C.int IntKind.i64 (2 : Int))), []))) (bcond (eqL x [C.int IntKind.u8 (0 : Int), C.int IntKind.u8 (0 : Int), C.int IntKind.u8 (0 : Int), C.int IntKind.u8 (0 : Int), C.int IntKind.u8 (0 : Int), C.int IntKind.u8 (0 : Int), C.int IntKind.u8 (0 : Int), C.int IntKind.u8 (0 : Int), C.int IntKind.u8 (0 : Int), C.int IntKind.u8 (0 : Int), C.int IntKind.u8 (0 : Int), C.int IntKind.u8 (0 : Int), C.int IntKind.u8 (0 : Int), C.int IntKind.u8 (0 : Int), C.int IntKind.u8 (0 : Int), C.int IntKind.u8 (1 : Int)]) (some ((V.one (A.c (C.int IntKind.i64 (2 : Int))), []))) (bcond ((cl x (0 : Nat)).toI == (254 : Int)) (bcond (iand IntKind.u8 (cl x (1 : Nat)).toI (192 : Int) == (192 : Int)) (some ((V.one (A.c (C.int IntKind.i64 (5 : Int))), []))) (some ((V.one (A.c (C.int IntKind.i64 (14 : Int))), [])))) (some ((V.one (A.c (C.int IntKind.i64 (14 : Int))), [])))))) (bcond (eqL x [C.int IntKind.u8 (0 : Int), C.int IntKind.u8 (0 : Int), C.int IntKind.u8 (0 : Int), C.int IntKind.u8 (0 : Int), C.int IntKind.u8 (0 : Int), C.int IntKind.u8 (0 : Int), C.int IntKind.u8 (0 : Int), C.int IntKind.u8 (0 : Int), C.int IntKind.u8 (0 : Int), C.int IntKind.u8 (0 : Int), C.int IntKind.u8 (0 : Int), C.int IntKind.u8 (0 : Int), C.int IntKind.u8 (0 : Int), C.int IntKind.u8 (0 : Int), C.int IntKind.u8 (0 : Int), C.int IntKind.u8 (1 : Int)]) (some ((V.one (A.c (C.int IntKind.i64 (2 : Int))), []))) (bcond ((cl x (0 : Nat)).toI == (254 : Int)) (bcond (iand IntKind.u8 (cl x (1 : Nat)).toI (192 : Int) == (192 : Int)) (some ((V.one (A.c (C.int IntKind.i64 (5 : Int))), []))) (some ((V.one (A.c (C.int IntKind.i64 (14 : Int))), [])))) (some ((V.one (A.c (C.int IntKind.i64 (14 : Int))), []))))))) := by kernel_rfl

end Go.Proofs.Ytdcdccdhdingbaa
