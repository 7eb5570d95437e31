/- Fa -/
import Derived.Test.YtacklcdhfoedlaaTab
import Derived.KernelRfl
namespace Go.Proofs.Ytacklcdhfoedlaa
open Go Go.Eng
set_option maxRecDepth 100000
/-- An entry that still counts. -/
def live (now : Int) (e : List C) : Bool := decide ((cl e 4).toI > now)

noncomputable abbrev f14_c3 : Code := (loops (body Try.f14)).getD 0 .skip
noncomputable abbrev f14_s3 (n : Nat) : St → (X → St → Option R) → Option R := fun st k => evCode tab nF nO lv14 false n f14_c3 st k
noncomputable abbrev f14_k3 (n : Nat) : X → St → Option R := after tab nF nO lv14 false n (body Try.f14) 0 (endK tab false Try.f14)
abbrev f14_h3 (s1 : Int) (s12 : List (List C)) (s13 : Int) (s14 : Int) (e0_0 : Int) (e0_1 : List (List C)) (b4 : List (List C)) : St := { t := [((0 : Nat), V.one (A.ptr (Key.ext (0 : Nat)) (0 : Nat) (0 : Nat))), ((1 : Nat), V.one (A.c (C.int IntKind.i64 s1))), ((4 : Nat), V.one (A.own (Key.loc (4 : Nat) (0 : Nat)) (0 : Nat) (57 : Nat))), ((12 : Nat), V.one (A.c (C.sl (57 : Nat) s12))), ((13 : Nat), V.one (A.c (C.int IntKind.i64 s13))), ((14 : Nat), V.one (A.c (C.int IntKind.i64 s14)))], h := [(Key.ext (0 : Nat), (0 : Nat), B.box (55 : Nat) [C.int IntKind.i64 e0_0, C.sl (57 : Nat) e0_1] []), (Key.loc (4 : Nat) (0 : Nat), (0 : Nat), B.arr (57 : Nat) true b4)] }
abbrev f14_x3_0 (e0_0 : Int) (e0_1 : List (List C)) (b4 : List (List C)) : St := { t := [((0 : Nat), V.one (A.ptr (Key.ext (0 : Nat)) (0 : Nat) (0 : Nat))), ((4 : Nat), V.one (A.own (Key.loc (4 : Nat) (0 : Nat)) (0 : Nat) (57 : Nat)))], h := [(Key.ext (0 : Nat), (0 : Nat), B.box (55 : Nat) [C.int IntKind.i64 e0_0, C.sl (57 : Nat) e0_1] []), (Key.loc (4 : Nat) (0 : Nat), (0 : Nat), B.arr (57 : Nat) true b4)] }
theorem f14_t3 (n m : Nat) (k : X → St → Option R) (s1 : Int) (s12 : List (List C)) (s13 : Int) (s14 : Int) (e0_0 : Int) (e0_1 : List (List C)) (b4 : List (List C)) : evLoop false (f14_s3 n) (m + 1) (f14_h3 s1 s12 s13 s14 e0_0 e0_1 b4) k = bcond (decide (s14 < s13)) (bcond (inB s14 s12.length) (bcond (decide ((cl (el s12 s14.toNat) (4 : Nat)).toI > s1)) (bcond (roomOk (b4.length + [el s12 s14.toNat].length) (72 : Nat)) (evLoop false (f14_s3 n) m (f14_h3 (s1) (s12) (s13) (IntKind.i64.wrap (s14 + (1 : Int))) (e0_0) (e0_1) (b4 ++ [el s12 s14.toNat])) k) (none)) (evLoop false (f14_s3 n) m (f14_h3 (s1) (s12) (s13) (IntKind.i64.wrap (s14 + (1 : Int))) (e0_0) (e0_1) (b4)) k)) (none)) (k (X.exit 0) (f14_x3_0 (e0_0) (e0_1) (b4))) := by kernel_rfl
theorem f14_a3_0 (n : Nat) (e0_0 : Int) (e0_1 : List (List C)) (b4 : List (List C)) : f14_k3 n (X.exit 0) (f14_x3_0 e0_0 e0_1 b4) = some ((V.tup [], [(Key.ext (0 : Nat), (0 : Nat), B.box (55 : Nat) [C.int IntKind.i64 e0_0, C.sl (57 : Nat) b4] [])])) := by kernel_rfl
theorem f14_eq (n : Nat) (now : Int) (size : Int) (l : List (List C)) : evFn tab nF nO false lv14 false n Try.f14 [.one (.ptr (.ext 0) 0 0), .one (.c (.int .i64 now))] [(.ext 0, (0, .box 55 [.int .i64 size, .sl 57 l] []))] = evLoop false (f14_s3 n) n (f14_h3 (now) (l) ((↑l.length : Int)) ((0 : Int)) (size) (l) ([])) (f14_k3 n) := by kernel_rfl


theorem f14_L (n : Nat) (k : X → St → Option R) (now size : Int) (l e1 : List (List C)) (hl : l.length ≤ 1000000) (m : Nat) (hm : l.length < m) :
    evLoop false (f14_s3 n) m (f14_h3 now l l.length 0 size e1 []) k = k (X.exit 0) (f14_x3_0 size e1 (l.filter (live now))) := by
  have h := fold_loop (xs := l) (L := fun m i (acc : List (List C)) => evLoop false (f14_s3 n) m (f14_h3 now l l.length i size e1 acc) k)
    (f := fun acc x => if live now x = true then acc ++ [x] else acc) (E := fun acc => k (X.exit 0) (f14_x3_0 size e1 acc)) (fun i acc => acc.length ≤ i)
    (fun m i acc x hx hlt hI => by
      show evLoop false (f14_s3 n) (m + 1) _ k = evLoop false (f14_s3 n) m _ k
      have hr : roomOk (acc.length + [x].length) 72 = true := roomOk_of (by simp; omega) (by simp; omega)
      rw [f14_t3]
      simp only [lt_nat, inB_nat, Int.toNat_natCast, el_get hx, wrap_succ (i := i) (by omega), hlt, decide_true, bcond_t, hr]
      show bcond (live now x) _ _ = _
      cases hp : live now x
      · rw [bcond_f, if_neg (by simp)]
      · rw [bcond_t, if_pos rfl])
    (fun i acc x hx hlt hI => by split <;> (try simp) <;> omega)
    (fun m acc hI => by
      show evLoop false (f14_s3 n) (m + 1) _ k = _
      rw [f14_t3, lt_nat, bcond_no (by simp)])
    l.length 0 [] m (by omega) hm (by simp)
  rw [foldl_filter] at h
  simpa using h

theorem f14_out (now size : Int) (l : List (List C)) (hl : l.length ≤ 1000000) (n : Nat) (hn : 1000000 < n) :
    evFn tab nF nO false lv14 false n Try.f14 [.one (.ptr (.ext 0) 0 0), .one (.c (.int .i64 now))] [(.ext 0, (0, .box 55 [.int .i64 size, .sl 57 l] []))] = some (.tup [], [(.ext 0, (0, .box 55 [.int .i64 size, .sl 57 (l.filter (live now))] []))]) := by
  rw [f14_eq, f14_L n _ now size l l hl n (by omega), f14_a3_0]

theorem f14n_eq (n : Nat) (now : Int) : evFn tab nF nO false lv14 false n Try.f14 [.one .nilp, .one (.c (.int .i64 now))] [] = some (V.tup [], []) := by kernel_rfl


def e14 : En
  | [.one (.ptr (.ext 0) 0 0), .one (.c (.int .i64 now))], [(.ext 0, (0, .box 55 [.int .i64 size, .sl 57 l] []))], k =>
    bcond (Nat.ble l.length 1000000) (k (.tup []) [(.ext 0, (0, .box 55 [.int .i64 size, .sl 57 (l.filter (live now))] []))]) none
  | [.one .nilp, .one (.c (.int .i64 _))], [], k => k (.tup []) []
  | _, _, _ => none
theorem es14 : ES Try.prog tab 14 e14 := by
  intro args h k x hh
  unfold e14 at hh
  split at hh
  · rename_i now size l
    cases hb : Nat.ble l.length 1000000 with
    | false => rw [hb, bcond_f] at hh; cases hh
    | true =>
      rw [hb, bcond_t] at hh
      exact ⟨_, _, hh, fn14 (nF_sound _ _) rfl (f14_out now size l (by simpa using hb) 1000001 (by omega))⟩
  · exact ⟨_, _, hh, fn14 (nF_sound _ _) rfl (f14n_eq 0 _)⟩
  · cases hh

end Go.Proofs.Ytacklcdhfoedlaa
