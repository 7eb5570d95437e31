/- Fb -/
import Derived.Test.YtacklcdhfoedlaaFa
import Derived.KernelRfl
namespace Go.Proofs.Ytacklcdhfoedlaa
open Go Go.Eng
set_option maxRecDepth 100000
def clampN (n : Int) : Int := if (16 : Int) < if (0 : Int) > n then (0 : Int) else n then (16 : Int) else if (0 : Int) > n then (0 : Int) else n

theorem f10_eq (n : Nat) (a : Int) : evFn tab nF nO false lv10 false n Try.f10 [.one (.c (.int .i64 a))] [] = some ((V.one (A.ptr (Key.new (0 : Nat)) (0 : Nat) (0 : Nat)), [(Key.new (0 : Nat), (0 : Nat), B.box (55 : Nat) [C.int IntKind.i64 (if (16 : Int) < if (0 : Int) > a then (0 : Int) else a then (16 : Int) else if (0 : Int) > a then (0 : Int) else a), C.sl (57 : Nat) []] [((1 : Nat), A.nils (57 : Nat))])])) := by kernel_rfl


def e10 : En
  | [.one (.c (.int .i64 a))], [], k => k (.one (.ptr (.new 0) 0 0)) [(.new 0, (0, .box 55 [.int .i64 (clampN a), .sl 57 []] []))]
  | _, _, _ => none
theorem es10 : ES Try.prog tab 10 e10 := by
  intro args h k x hh
  unfold e10 at hh
  split at hh
  · exact ⟨_, _, hh, (fn10 (nF_sound _ _) rfl (f10_eq 0 _)).weak ⟨rfl, rfl, Bw.nil rfl rfl rfl, trivial⟩⟩
  · cases hh

theorem f13_eq (n : Nat) (size : Int) (l : List (List C)) : evFn tab nF nO false lv13 false n Try.f13 [.one (.ptr (.ext 0) 0 0)] [(.ext 0, (0, .box 55 [.int .i64 size, .sl 57 l] []))] = some ((V.one (A.c (C.int IntKind.i64 (↑l.length : Int))), [(Key.ext (0 : Nat), (0 : Nat), B.box (55 : Nat) [C.int IntKind.i64 size, C.sl (57 : Nat) l] [])])) := by kernel_rfl


theorem f13n_eq (n : Nat) : evFn tab nF nO false lv13 false n Try.f13 [.one .nilp] [] = some ((V.one (A.c (C.int IntKind.i64 (0 : Int))), [])) := by kernel_rfl


def e13 : En
  | [.one (.ptr (.ext 0) 0 0)], [(.ext 0, (0, .box 55 [.int .i64 size, .sl 57 l] []))], k => k (.one (.c (.int .i64 l.length))) [(.ext 0, (0, .box 55 [.int .i64 size, .sl 57 l] []))]
  | [.one .nilp], [], k => k (.one (.c (.int .i64 0))) []
  | _, _, _ => none
theorem es13 : ES Try.prog tab 13 e13 := by
  intro args h k x hh
  unfold e13 at hh
  split at hh
  · exact ⟨_, _, hh, fn13 (nF_sound _ _) rfl (f13_eq 0 _ _)⟩
  · exact ⟨_, _, hh, fn13 (nF_sound _ _) rfl (f13n_eq 0)⟩
  · cases hh

theorem f18_eq (n : Nat) (size : Int) (l : List (List C)) : evFn tab nF nO false lv18 false n Try.f18 [.one (.ptr (.ext 0) 0 0)] [(.ext 0, (0, .box 55 [.int .i64 size, .sl 57 l] []))] = some ((V.tup [], [(Key.ext (0 : Nat), (0 : Nat), B.box (55 : Nat) [C.int IntKind.i64 size, C.sl (57 : Nat) []] [])])) := by kernel_rfl


theorem f18n_eq (n : Nat) : evFn tab nF nO false lv18 false n Try.f18 [.one .nilp] [] = some (V.tup [], []) := by kernel_rfl


def e18 : En
  | [.one (.ptr (.ext 0) 0 0)], [(.ext 0, (0, .box 55 [.int .i64 size, .sl 57 _] []))], k => k (.tup []) [(.ext 0, (0, .box 55 [.int .i64 size, .sl 57 []] []))]
  | [.one .nilp], [], k => k (.tup []) []
  | _, _, _ => none
theorem es18 : ES Try.prog tab 18 e18 := by
  intro args h k x hh
  unfold e18 at hh
  split at hh
  · exact ⟨_, _, hh, fn18 (nF_sound _ _) rfl (f18_eq 0 _ _)⟩
  · exact ⟨_, _, hh, fn18 (nF_sound _ _) rfl (f18n_eq 0)⟩
  · cases hh

noncomputable abbrev f16_c3 : Code := (loops (body Try.f16)).getD 0 .skip
noncomputable abbrev f16_s3 (n : Nat) : St → (X → St → Option R) → Option R := fun st k => evCode tab nF nO lv16 false n f16_c3 st k
noncomputable abbrev f16_k3 (n : Nat) : X → St → Option R := after tab nF nO lv16 false n (body Try.f16) 0 (endK tab false Try.f16)
abbrev f16_h3 (s3 : Int) (s6 : List (List C)) (s7 : Int) (s8 : Int) : St := { t := [((3 : Nat), V.one (A.c (C.int IntKind.i64 s3))), ((6 : Nat), V.one (A.c (C.sl (32 : Nat) s6))), ((7 : Nat), V.one (A.c (C.int IntKind.i64 s7))), ((8 : Nat), V.one (A.c (C.int IntKind.i64 s8)))], h := [] }
abbrev f16_x3_0 (s3 : Int) : St := { t := [((3 : Nat), V.one (A.c (C.int IntKind.i64 s3)))], h := [] }
theorem f16_t3 (n m : Nat) (k : X → St → Option R) (s3 : Int) (s6 : List (List C)) (s7 : Int) (s8 : Int) : evLoop false (f16_s3 n) (m + 1) (f16_h3 s3 s6 s7 s8) k = bcond (decide (s8 < s7)) (bcond (inB s8 s6.length) (evLoop false (f16_s3 n) m (f16_h3 (if (cl (el s6 s8.toNat) (2 : Nat)).toI < s3 then (cl (el s6 s8.toNat) (2 : Nat)).toI else s3) (s6) (s7) (IntKind.i64.wrap (s8 + (1 : Int)))) k) (none)) (k (X.exit 0) (f16_x3_0 (s3))) := by kernel_rfl
theorem f16_a3_0 (n : Nat) (s3 : Int) : f16_k3 n (X.exit 0) (f16_x3_0 s3) = some ((V.one (A.c (C.int IntKind.i64 s3)), [])) := by kernel_rfl
theorem f16_eq (n : Nat) (l : List (List C)) : evFn tab nF nO false lv16 false n Try.f16 [.one (.c (.sl 32 l))] [] = evLoop false (f16_s3 n) n (f16_h3 ((1048576 : Int)) (l) ((↑l.length : Int)) ((0 : Int))) (f16_k3 n) := by kernel_rfl


/-- How long records count. -/
def ttlOf (l : List (List C)) : Int := l.foldl (fun a r => if (cl r 2).toI < a then (cl r 2).toI else a) 1048576
theorem f16_out (l : List (List C)) (hl : l.length ≤ 1000000) (n : Nat) (hn : 1000000 < n) : evFn tab nF nO false lv16 false n Try.f16 [.one (.c (.sl 32 l))] [] = some (.one (.c (.int .i64 (ttlOf l))), []) := by
  rw [f16_eq, ← f16_a3_0 n]
  exact fold_loop (xs := l) (L := fun m i (a : Int) => evLoop false (f16_s3 n) m (f16_h3 a l l.length i) (f16_k3 n)) (E := fun a => f16_k3 n (X.exit 0) (f16_x3_0 a)) (fun _ _ => True)
    (fun m i a x hx hlt _ => by
      show evLoop false (f16_s3 n) (m + 1) _ _ = evLoop false (f16_s3 n) m _ _
      rw [f16_t3]
      simp only [lt_nat, inB_nat, Int.toNat_natCast, el_get hx, wrap_succ (i := i) (by omega), hlt, decide_true, bcond_t])
    (fun _ _ _ _ _ _ => trivial)
    (fun m a _ => by
      show evLoop false (f16_s3 n) (m + 1) _ _ = _
      rw [f16_t3, lt_nat, bcond_no (by simp)])
    l.length 0 1048576 n (by omega) (by omega) trivial
def e16 : En
  | [.one (.c (.sl 32 l))], [], k => bcond (Nat.ble l.length 1000000) (k (.one (.c (.int .i64 (ttlOf l)))) []) none
  | _, _, _ => none
theorem es16 : ES Try.prog tab 16 e16 := by
  intro args h k x hh
  unfold e16 at hh
  split at hh
  · rename_i l
    cases hb : Nat.ble l.length 1000000 with
    | false => rw [hb, bcond_f] at hh; cases hh
    | true =>
      rw [hb, bcond_t] at hh
      exact ⟨_, _, hh, fn16 (nF_sound _ _) rfl (f16_out l (by simpa using hb) 1000001 (by omega))⟩
  · cases hh

end Go.Proofs.Ytacklcdhfoedlaa
