/- Ra -/
import Derived.Test.YtacklcdhfoedlaaLem
import Derived.KernelRfl
namespace Go.Proofs.Ytacklcdhfoedlaa
open Go Go.Eng
set_option maxRecDepth 100000
/-- An entry of the statement's own that still counts. -/
def liveM (now : Int) (e : List C) : Bool := decide ((cl e 3).toI > now)
noncomputable abbrev f17_c2 : Code := (loops (body Try.f17)).getD 0 .skip
noncomputable abbrev f17_s2 (n : Nat) : St → (X → St → Option R) → Option R := fun st k => evCode tab nF nO lv17 false n f17_c2 st k
noncomputable abbrev f17_k2 (n : Nat) : X → St → Option R := after tab nF nO lv17 false n (body Try.f17) 0 (endK tab false Try.f17)
abbrev f17_h2 (s5 : List (List C)) (s6 : Int) (s7 : Int) (e0_0 : List (List C)) (e1_0 : Int) (b2 : List (List C)) : St := { t := [((0 : Nat), V.one (A.ptr (Key.ext (0 : Nat)) (0 : Nat) (0 : Nat))), ((1 : Nat), V.one (A.ptr (Key.ext (1 : Nat)) (0 : Nat) (0 : Nat))), ((2 : Nat), V.one (A.own (Key.loc (2 : Nat) (0 : Nat)) (0 : Nat) (51 : Nat))), ((5 : Nat), V.one (A.c (C.sl (51 : Nat) s5))), ((6 : Nat), V.one (A.c (C.int IntKind.i64 s6))), ((7 : Nat), V.one (A.c (C.int IntKind.i64 s7)))], h := [(Key.ext (0 : Nat), (0 : Nat), B.box (47 : Nat) [C.sl (51 : Nat) e0_0] []), (Key.ext (1 : Nat), (0 : Nat), B.box (3 : Nat) [C.int IntKind.i64 e1_0] []), (Key.loc (2 : Nat) (0 : Nat), (0 : Nat), B.arr (51 : Nat) true b2)] }
abbrev f17_x2_0 (e0_0 : List (List C)) (e1_0 : Int) (b2 : List (List C)) : St := { t := [((0 : Nat), V.one (A.ptr (Key.ext (0 : Nat)) (0 : Nat) (0 : Nat))), ((2 : Nat), V.one (A.own (Key.loc (2 : Nat) (0 : Nat)) (0 : Nat) (51 : Nat)))], h := [(Key.ext (0 : Nat), (0 : Nat), B.box (47 : Nat) [C.sl (51 : Nat) e0_0] []), (Key.ext (1 : Nat), (0 : Nat), B.box (3 : Nat) [C.int IntKind.i64 e1_0] []), (Key.loc (2 : Nat) (0 : Nat), (0 : Nat), B.arr (51 : Nat) true b2)] }
theorem f17_t2 (n m : Nat) (k : X → St → Option R) (s5 : List (List C)) (s6 : Int) (s7 : Int) (e0_0 : List (List C)) (e1_0 : Int) (b2 : List (List C)) : evLoop false (f17_s2 n) (m + 1) (f17_h2 s5 s6 s7 e0_0 e1_0 b2) k = bcond (decide (s7 < s6)) (bcond (inB s7 s5.length) (bcond (decide ((cl (el s5 s7.toNat) (3 : Nat)).toI > e1_0)) (bcond (roomOk (b2.length + [el s5 s7.toNat].length) (48 : Nat)) (evLoop false (f17_s2 n) m (f17_h2 (s5) (s6) (IntKind.i64.wrap (s7 + (1 : Int))) (e0_0) (e1_0) (b2 ++ [el s5 s7.toNat])) k) (none)) (evLoop false (f17_s2 n) m (f17_h2 (s5) (s6) (IntKind.i64.wrap (s7 + (1 : Int))) (e0_0) (e1_0) (b2)) k)) (none)) (k (X.exit 0) (f17_x2_0 (e0_0) (e1_0) (b2))) := by kernel_rfl
theorem f17_a2_0 (n : Nat) (e0_0 : List (List C)) (e1_0 : Int) (b2 : List (List C)) : f17_k2 n (X.exit 0) (f17_x2_0 e0_0 e1_0 b2) = some ((V.tup [], [(Key.ext (0 : Nat), (0 : Nat), B.box (47 : Nat) [C.sl (51 : Nat) b2] []), (Key.ext (1 : Nat), (0 : Nat), B.box (3 : Nat) [C.int IntKind.i64 e1_0] [])])) := by kernel_rfl
theorem f17_eq (n : Nat) (now : Int) (l : List (List C)) : evFn tab nF nO false lv17 false n Try.f17 [.one (.ptr (.ext 0) 0 0), .one (.ptr (.ext 1) 0 0)] [(.ext 0, (0, .box 47 [.sl 51 l] [])), (.ext 1, (0, .box 3 [.int .i64 now] []))] = evLoop false (f17_s2 n) n (f17_h2 (l) ((↑l.length : Int)) ((0 : Int)) (l) (now) ([])) (f17_k2 n) := by kernel_rfl

theorem f17_out (now : Int) (l : List (List C)) (hl : l.length ≤ 1000000) (n : Nat) (hn : 1000000 < n) :
    evFn tab nF nO false lv17 false n Try.f17 [.one (.ptr (.ext 0) 0 0), .one (.ptr (.ext 1) 0 0)] [(.ext 0, (0, .box 47 [.sl 51 l] [])), (.ext 1, (0, .box 3 [.int .i64 now] []))] = some (.tup [], [(.ext 0, (0, .box 47 [.sl 51 (l.filter (liveM now))] [])), (.ext 1, (0, .box 3 [.int .i64 now] []))]) := by
  have h := fold_loop (xs := l) (L := fun m i (acc : List (List C)) => evLoop false (f17_s2 n) m (f17_h2 l l.length i l now acc) (f17_k2 n))
    (f := fun acc x => if liveM now x = true then acc ++ [x] else acc) (E := fun acc => f17_k2 n (X.exit 0) (f17_x2_0 l now acc)) (fun i acc => acc.length ≤ i)
    (fun m i acc x hx hlt hI => by
      show evLoop false (f17_s2 n) (m + 1) _ _ = evLoop false (f17_s2 n) m _ _
      have hr : roomOk (acc.length + [x].length) 48 = true := roomOk_of (by simp; omega) (by simp; omega)
      rw [f17_t2]
      simp only [lt_nat, inB_nat, Int.toNat_natCast, el_get hx, wrap_succ (i := i) (by omega), hlt, decide_true, bcond_t, hr]
      show bcond (liveM now x) _ _ = _
      cases hp : liveM now x
      · rw [bcond_f, if_neg (by simp)]
      · rw [bcond_t, if_pos rfl])
    (fun i acc x hx hlt hI => by split <;> (try simp) <;> omega)
    (fun m acc hI => by
      show evLoop false (f17_s2 n) (m + 1) _ _ = _
      rw [f17_t2, lt_nat, bcond_no (by simp)])
    l.length 0 [] n (by omega) (by omega) (by simp)
  rw [foldl_filter] at h
  rw [f17_eq]
  refine Eq.trans (by simpa using h) ?_
  rw [f17_a2_0]
def e17 : En
  | [.one (.ptr (.ext 0) 0 0), .one (.ptr (.ext 1) 0 0)], [(.ext 0, (0, .box 47 [.sl 51 l] [])), (.ext 1, (0, .box 3 [.int .i64 now] []))], k =>
    bcond (Nat.ble l.length 1000000) (k (.tup []) [(.ext 0, (0, .box 47 [.sl 51 (l.filter (liveM now))] [])), (.ext 1, (0, .box 3 [.int .i64 now] []))]) none
  | _, _, _ => none
theorem es17 : ES Try.prog tab 17 e17 := by
  intro args h k x hh
  unfold e17 at hh
  split at hh
  · rename_i l now
    cases hb : Nat.ble l.length 1000000 with
    | false => rw [hb, bcond_f] at hh; cases hh
    | true =>
      rw [hb, bcond_t] at hh
      exact ⟨_, _, hh, fn17 (nF_sound _ _) rfl (f17_out now l (by simpa using hb) 1000001 (by omega))⟩
  · cases hh
def FR : Fun := mkF [(9, e9), (10, e10), (11, e11), (12, e12), (13, e13), (14, e14), (17, e17), (18, e18)]
theorem sFR : FSound Try.prog tab FR := mkF_sound (fun p hp => by
  simp only [List.mem_cons, List.not_mem_nil, or_false] at hp
  rcases hp with rfl | rfl | rfl | rfl | rfl | rfl | rfl | rfl
  · exact es9
  · exact es10
  · exact es11
  · exact es12
  · exact es13
  · exact es14
  · exact es17
  · exact es18)

end Go.Proofs.Ytacklcdhfoedlaa
