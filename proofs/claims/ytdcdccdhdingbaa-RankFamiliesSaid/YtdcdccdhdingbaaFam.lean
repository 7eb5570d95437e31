/- Fam -/
import Derived.Test.YtdcdccdhdingbaaWa
import Derived.KernelRfl
namespace Go.Proofs.Ytdcdccdhdingbaa
open Go Go.Eng
set_option maxRecDepth 100000
noncomputable abbrev f4_c6 : Code := (loops (body Try.f4)).getD 0 .skip
noncomputable abbrev f4_s6 (n : Nat) : St → (X → St → Option R) → Option R := fun st k => evCode tab FP nO lv4 false n f4_c6 st k
noncomputable abbrev f4_k6 (n : Nat) : X → St → Option R := after tab FP nO lv4 false n (body Try.f4) 0 (endK tab false Try.f4)
abbrev f4_h6 (s0 : List (List C)) (s1 : List (List C)) (s30 : List (List C)) (s31 : Int) (s32 : Int) : St := { t := [((0 : Nat), V.one (A.c (C.sl (27 : Nat) s0))), ((1 : Nat), V.one (A.c (C.sl (39 : Nat) s1))), ((30 : Nat), V.one (A.c (C.sl (39 : Nat) s30))), ((31 : Nat), V.one (A.c (C.int IntKind.i64 s31))), ((32 : Nat), V.one (A.c (C.int IntKind.i64 s32)))], h := [] }
noncomputable abbrev f4_c11 : Code := (loops (f4_c6)).getD 0 .skip
noncomputable abbrev f4_s11 (n : Nat) : St → (X → St → Option R) → Option R := fun st k => evCode tab FP nO lv4 false n f4_c11 st k
noncomputable abbrev f4_k11 (n m : Nat) (k : X → St → Option R) : X → St → Option R := after tab FP nO lv4 false n f4_c6 0 (backK false (f4_s6 n) m k)
abbrev f4_h11 (s0 : List (List C)) (s1 : List (List C)) (s8 : Bool) (s9 : Bool) (s30 : List (List C)) (s31 : Int) (s32 : Int) (s43 : List (List C)) (s44 : Int) (s45 : Int) (b6 : List C) (b7 : List C) : St := { t := [((0 : Nat), V.one (A.c (C.sl (27 : Nat) s0))), ((1 : Nat), V.one (A.c (C.sl (39 : Nat) s1))), ((6 : Nat), V.one (A.ptr (Key.loc (6 : Nat) (0 : Nat)) (0 : Nat) (0 : Nat))), ((7 : Nat), V.one (A.ptr (Key.loc (7 : Nat) (0 : Nat)) (0 : Nat) (0 : Nat))), ((8 : Nat), V.one (A.c (C.bool s8))), ((9 : Nat), V.one (A.c (C.bool s9))), ((30 : Nat), V.one (A.c (C.sl (39 : Nat) s30))), ((31 : Nat), V.one (A.c (C.int IntKind.i64 s31))), ((32 : Nat), V.one (A.c (C.int IntKind.i64 s32))), ((43 : Nat), V.one (A.c (C.sl (27 : Nat) s43))), ((44 : Nat), V.one (A.c (C.int IntKind.i64 s44))), ((45 : Nat), V.one (A.c (C.int IntKind.i64 s45)))], h := [(Key.loc (6 : Nat) (0 : Nat), (0 : Nat), B.box (39 : Nat) b6 []), (Key.loc (7 : Nat) (0 : Nat), (0 : Nat), B.box (27 : Nat) b7 [])] }
abbrev f4_x11_2 (s0 : List (List C)) (s1 : List (List C)) (s8 : Bool) (s9 : Bool) (s30 : List (List C)) (s31 : Int) (s32 : Int) (b6 : List C) (b7 : List C) : St := { t := [((0 : Nat), V.one (A.c (C.sl (27 : Nat) s0))), ((1 : Nat), V.one (A.c (C.sl (39 : Nat) s1))), ((6 : Nat), V.one (A.ptr (Key.loc (6 : Nat) (0 : Nat)) (0 : Nat) (0 : Nat))), ((7 : Nat), V.one (A.ptr (Key.loc (7 : Nat) (0 : Nat)) (0 : Nat) (0 : Nat))), ((8 : Nat), V.one (A.c (C.bool s8))), ((9 : Nat), V.one (A.c (C.bool s9))), ((30 : Nat), V.one (A.c (C.sl (39 : Nat) s30))), ((31 : Nat), V.one (A.c (C.int IntKind.i64 s31))), ((32 : Nat), V.one (A.c (C.int IntKind.i64 s32)))], h := [(Key.loc (6 : Nat) (0 : Nat), (0 : Nat), B.box (39 : Nat) b6 []), (Key.loc (7 : Nat) (0 : Nat), (0 : Nat), B.box (27 : Nat) b7 [])] }
abbrev f4_x6_0 (s0 : List (List C)) (s1 : List (List C)) : St := { t := [((0 : Nat), V.one (A.c (C.sl (27 : Nat) s0))), ((1 : Nat), V.one (A.c (C.sl (39 : Nat) s1)))], h := [] }
noncomputable abbrev f4_c20 : Code := (loops (body Try.f4)).getD 1 .skip
noncomputable abbrev f4_s20 (n : Nat) : St → (X → St → Option R) → Option R := fun st k => evCode tab FP nO lv4 false n f4_c20 st k
noncomputable abbrev f4_k20 (n : Nat) : X → St → Option R := after tab FP nO lv4 false n (body Try.f4) 1 (endK tab false Try.f4)
abbrev f4_h20 (s1 : List (List C)) (s12 : List (List C)) (s79 : List (List C)) (s80 : Int) (s81 : Int) : St := { t := [((1 : Nat), V.one (A.c (C.sl (39 : Nat) s1))), ((12 : Nat), V.one (A.c (C.sl (39 : Nat) s12))), ((79 : Nat), V.one (A.c (C.sl (39 : Nat) s79))), ((80 : Nat), V.one (A.c (C.int IntKind.i64 s80))), ((81 : Nat), V.one (A.c (C.int IntKind.i64 s81)))], h := [] }
noncomputable abbrev f4_c24 : Code := (loops (f4_c20)).getD 0 .skip
noncomputable abbrev f4_s24 (n : Nat) : St → (X → St → Option R) → Option R := fun st k => evCode tab FP nO lv4 false n f4_c24 st k
noncomputable abbrev f4_k24 (n m : Nat) (k : X → St → Option R) : X → St → Option R := after tab FP nO lv4 false n f4_c20 0 (backK false (f4_s20 n) m k)
abbrev f4_h24 (s1 : List (List C)) (s12 : List (List C)) (s15 : Int) (s79 : List (List C)) (s80 : Int) (s81 : Int) (s85 : List (List C)) (s86 : Int) (s87 : Int) (b14 : List C) : St := { t := [((1 : Nat), V.one (A.c (C.sl (39 : Nat) s1))), ((12 : Nat), V.one (A.c (C.sl (39 : Nat) s12))), ((14 : Nat), V.one (A.ptr (Key.loc (14 : Nat) (0 : Nat)) (0 : Nat) (0 : Nat))), ((15 : Nat), V.one (A.c (C.int IntKind.i64 s15))), ((79 : Nat), V.one (A.c (C.sl (39 : Nat) s79))), ((80 : Nat), V.one (A.c (C.int IntKind.i64 s80))), ((81 : Nat), V.one (A.c (C.int IntKind.i64 s81))), ((85 : Nat), V.one (A.c (C.sl (39 : Nat) s85))), ((86 : Nat), V.one (A.c (C.int IntKind.i64 s86))), ((87 : Nat), V.one (A.c (C.int IntKind.i64 s87)))], h := [(Key.loc (14 : Nat) (0 : Nat), (0 : Nat), B.box (39 : Nat) b14 [])] }
abbrev f4_x24_6 (s1 : List (List C)) (s12 : List (List C)) (s15 : Int) (s79 : List (List C)) (s80 : Int) (s81 : Int) (b14 : List C) : St := { t := [((1 : Nat), V.one (A.c (C.sl (39 : Nat) s1))), ((12 : Nat), V.one (A.c (C.sl (39 : Nat) s12))), ((14 : Nat), V.one (A.ptr (Key.loc (14 : Nat) (0 : Nat)) (0 : Nat) (0 : Nat))), ((15 : Nat), V.one (A.c (C.int IntKind.i64 s15))), ((79 : Nat), V.one (A.c (C.sl (39 : Nat) s79))), ((80 : Nat), V.one (A.c (C.int IntKind.i64 s80))), ((81 : Nat), V.one (A.c (C.int IntKind.i64 s81)))], h := [(Key.loc (14 : Nat) (0 : Nat), (0 : Nat), B.box (39 : Nat) b14 [])] }
noncomputable abbrev f4_c30 : Code := (loops (f4_c20)).getD 1 .skip
noncomputable abbrev f4_s30 (n : Nat) : St → (X → St → Option R) → Option R := fun st k => evCode tab FP nO lv4 false n f4_c30 st k
noncomputable abbrev f4_k30 (n m : Nat) (k : X → St → Option R) : X → St → Option R := after tab FP nO lv4 false n f4_c20 1 (backK false (f4_s20 n) m k)
abbrev f4_h30 (s1 : List (List C)) (s12 : List (List C)) (s15 : Int) (s79 : List (List C)) (s80 : Int) (s81 : Int) (s97 : List (List C)) (s98 : Int) (s99 : Int) (b14 : List C) : St := { t := [((1 : Nat), V.one (A.c (C.sl (39 : Nat) s1))), ((12 : Nat), V.one (A.c (C.sl (39 : Nat) s12))), ((14 : Nat), V.one (A.ptr (Key.loc (14 : Nat) (0 : Nat)) (0 : Nat) (0 : Nat))), ((15 : Nat), V.one (A.c (C.int IntKind.i64 s15))), ((79 : Nat), V.one (A.c (C.sl (39 : Nat) s79))), ((80 : Nat), V.one (A.c (C.int IntKind.i64 s80))), ((81 : Nat), V.one (A.c (C.int IntKind.i64 s81))), ((97 : Nat), V.one (A.c (C.sl (39 : Nat) s97))), ((98 : Nat), V.one (A.c (C.int IntKind.i64 s98))), ((99 : Nat), V.one (A.c (C.int IntKind.i64 s99)))], h := [(Key.loc (14 : Nat) (0 : Nat), (0 : Nat), B.box (39 : Nat) b14 [])] }
abbrev f4_x30_8 (s1 : List (List C)) (s12 : List (List C)) (s15 : Int) (s79 : List (List C)) (s80 : Int) (s81 : Int) (b14 : List C) : St := { t := [((1 : Nat), V.one (A.c (C.sl (39 : Nat) s1))), ((12 : Nat), V.one (A.c (C.sl (39 : Nat) s12))), ((15 : Nat), V.one (A.c (C.int IntKind.i64 s15))), ((79 : Nat), V.one (A.c (C.sl (39 : Nat) s79))), ((80 : Nat), V.one (A.c (C.int IntKind.i64 s80))), ((81 : Nat), V.one (A.c (C.int IntKind.i64 s81)))], h := [(Key.loc (14 : Nat) (0 : Nat), (0 : Nat), B.box (39 : Nat) b14 [])] }
abbrev f4_x20_4 (s1 : List (List C)) (s12 : List (List C)) : St := { t := [((1 : Nat), V.one (A.c (C.sl (39 : Nat) s1))), ((12 : Nat), V.one (A.c (C.sl (39 : Nat) s12)))], h := [] }
abbrev f4_x20_r (s4 : Bool) (b14 : List C) : St := { t := [((4 : Nat), V.one (A.c (C.bool s4)))], h := [(Key.loc (14 : Nat) (0 : Nat), (0 : Nat), B.box (39 : Nat) b14 [])] }
abbrev f4_x6_r (s4 : Bool) (b6 : List C) (b7 : List C) : St := { t := [((4 : Nat), V.one (A.c (C.bool s4)))], h := [(Key.loc (6 : Nat) (0 : Nat), (0 : Nat), B.box (39 : Nat) b6 []), (Key.loc (7 : Nat) (0 : Nat), (0 : Nat), B.box (27 : Nat) b7 [])] }
theorem f4_t6 (n m : Nat) (k : X → St → Option R) (s0 : List (List C)) (s1 : List (List C)) (s30 : List (List C)) (s31 : Int) (s32 : Int) : evLoop false (f4_s6 n) (m + 1) (f4_h6 s0 s1 s30 s31 s32) k = bcond (decide (s32 < s31)) (bcond (inB s32 s30.length) (bcond (s0.length.ble (1000000 : Nat)) (evLoop false (f4_s11 n) n (f4_h11 (s0) (s1) ((srcN s0 (sub (el s30 s32.toNat) (3 : Nat) (16 : Nat))).snd) (false) (s30) (s31) (s32) (s0) ((↑s0.length : Int)) ((0 : Int)) (el s30 s32.toNat) ((srcN s0 (sub (el s30 s32.toNat) (3 : Nat) (16 : Nat))).fst)) (f4_k11 n m k)) (none)) (none)) (k (X.exit 0) (f4_x6_0 (s0) (s1))) := by kernel_rfl
theorem f4_t11 (n m : Nat) (k : X → St → Option R) (s0 : List (List C)) (s1 : List (List C)) (s8 : Bool) (s9 : Bool) (s30 : List (List C)) (s31 : Int) (s32 : Int) (s43 : List (List C)) (s44 : Int) (s45 : Int) (b6 : List C) (b7 : List C) : evLoop false (f4_s11 n) (m + 1) (f4_h11 s0 s1 s8 s9 s30 s31 s32 s43 s44 s45 b6 b7) k = bcond (decide (s45 < s44)) (bcond (inB s45 s43.length) (bcond (s9) (evLoop false (f4_s11 n) m (f4_h11 (s0) (s1) (s8) (true) (s30) (s31) (s32) (s43) (s44) (IntKind.i64.wrap (s45 + (1 : Int))) (b6) (b7)) k) (evLoop false (f4_s11 n) m (f4_h11 (s0) (s1) (s8) (is4 (sub (el s43 s45.toNat) (0 : Nat) (16 : Nat)) == is4 (sub b6 (3 : Nat) (16 : Nat))) (s30) (s31) (s32) (s43) (s44) (IntKind.i64.wrap (s45 + (1 : Int))) (b6) (b7)) k)) (none)) (k (X.exit 2) (f4_x11_2 (s0) (s1) (s8) (s9) (s30) (s31) (s32) (b6) (b7))) := by kernel_rfl
theorem f4_a11_2 (n m : Nat) (k : X → St → Option R) (s0 : List (List C)) (s1 : List (List C)) (s8 : Bool) (s9 : Bool) (s30 : List (List C)) (s31 : Int) (s32 : Int) (b6 : List C) (b7 : List C) : f4_k11 n m k (X.exit 2) (f4_x11_2 s0 s1 s8 s9 s30 s31 s32 b6 b7) = bcond (!s8 == s9) (k X.ret (f4_x6_r (false) (b6) (b7))) (bcond (s8) (bcond (!is4 (sub b7 (0 : Nat) (16 : Nat)) == is4 (sub b6 (3 : Nat) (16 : Nat))) (k X.ret (f4_x6_r (false) (b6) (b7))) (evLoop false (f4_s6 n) m (f4_h6 (s0) (s1) (s30) (s31) (IntKind.i64.wrap (s32 + (1 : Int)))) k)) (evLoop false (f4_s6 n) m (f4_h6 (s0) (s1) (s30) (s31) (IntKind.i64.wrap (s32 + (1 : Int)))) k)) := by kernel_rfl
theorem f4_a6_0 (n : Nat) (s0 : List (List C)) (s1 : List (List C)) : f4_k6 n (X.exit 0) (f4_x6_0 s0 s1) = bcond (s1.length.ble (40 : Nat) && s0.length.ble (1000000 : Nat)) (evLoop false (f4_s20 n) n (f4_h20 (s1) (y30 s1 s0) (s1) ((↑s1.length : Int)) ((0 : Int))) (f4_k20 n)) (none) := by kernel_rfl
theorem f4_t20 (n m : Nat) (k : X → St → Option R) (s1 : List (List C)) (s12 : List (List C)) (s79 : List (List C)) (s80 : Int) (s81 : Int) : evLoop false (f4_s20 n) (m + 1) (f4_h20 s1 s12 s79 s80 s81) k = bcond (decide (s81 < s80)) (bcond (inB s81 s79.length) (evLoop false (f4_s24 n) n (f4_h24 (s1) (s12) ((0 : Int)) (s79) (s80) (s81) (s1) ((↑s1.length : Int)) ((0 : Int)) (el s79 s81.toNat)) (f4_k24 n m k)) (none)) (k (X.exit 4) (f4_x20_4 (s1) (s12))) := by kernel_rfl
theorem f4_t24 (n m : Nat) (k : X → St → Option R) (s1 : List (List C)) (s12 : List (List C)) (s15 : Int) (s79 : List (List C)) (s80 : Int) (s81 : Int) (s85 : List (List C)) (s86 : Int) (s87 : Int) (b14 : List C) : evLoop false (f4_s24 n) (m + 1) (f4_h24 s1 s12 s15 s79 s80 s81 s85 s86 s87 b14) k = bcond (decide (s87 < s86)) (bcond (inB s87 s85.length) (bcond (eqL (el s85 s87.toNat) b14) (evLoop false (f4_s24 n) m (f4_h24 (s1) (s12) (IntKind.i64.wrap (s15 + (1 : Int))) (s79) (s80) (s81) (s85) (s86) (IntKind.i64.wrap (s87 + (1 : Int))) (b14)) k) (evLoop false (f4_s24 n) m (f4_h24 (s1) (s12) (s15) (s79) (s80) (s81) (s85) (s86) (IntKind.i64.wrap (s87 + (1 : Int))) (b14)) k)) (none)) (k (X.exit 6) (f4_x24_6 (s1) (s12) (s15) (s79) (s80) (s81) (b14))) := by kernel_rfl
theorem f4_a24_6 (n m : Nat) (k : X → St → Option R) (s1 : List (List C)) (s12 : List (List C)) (s15 : Int) (s79 : List (List C)) (s80 : Int) (s81 : Int) (b14 : List C) : f4_k24 n m k (X.exit 6) (f4_x24_6 s1 s12 s15 s79 s80 s81 b14) = evLoop false (f4_s30 n) n (f4_h30 (s1) (s12) (s15) (s79) (s80) (s81) (s12) ((↑s12.length : Int)) ((0 : Int)) (b14)) (f4_k30 n m k) := by kernel_rfl
theorem f4_t30 (n m : Nat) (k : X → St → Option R) (s1 : List (List C)) (s12 : List (List C)) (s15 : Int) (s79 : List (List C)) (s80 : Int) (s81 : Int) (s97 : List (List C)) (s98 : Int) (s99 : Int) (b14 : List C) : evLoop false (f4_s30 n) (m + 1) (f4_h30 s1 s12 s15 s79 s80 s81 s97 s98 s99 b14) k = bcond (decide (s99 < s98)) (bcond (inB s99 s97.length) (bcond (eqL (el s97 s99.toNat) b14) (evLoop false (f4_s30 n) m (f4_h30 (s1) (s12) (IntKind.i64.wrap (s15 - (1 : Int))) (s79) (s80) (s81) (s97) (s98) (IntKind.i64.wrap (s99 + (1 : Int))) (b14)) k) (evLoop false (f4_s30 n) m (f4_h30 (s1) (s12) (s15) (s79) (s80) (s81) (s97) (s98) (IntKind.i64.wrap (s99 + (1 : Int))) (b14)) k)) (none)) (k (X.exit 8) (f4_x30_8 (s1) (s12) (s15) (s79) (s80) (s81) (b14))) := by kernel_rfl
theorem f4_a30_8 (n m : Nat) (k : X → St → Option R) (s1 : List (List C)) (s12 : List (List C)) (s15 : Int) (s79 : List (List C)) (s80 : Int) (s81 : Int) (b14 : List C) : f4_k30 n m k (X.exit 8) (f4_x30_8 s1 s12 s15 s79 s80 s81 b14) = bcond (s15 != (0 : Int)) (k X.ret (f4_x20_r (false) (b14))) (evLoop false (f4_s20 n) m (f4_h20 (s1) (s12) (s79) (s80) (IntKind.i64.wrap (s81 + (1 : Int)))) k) := by kernel_rfl
theorem f4_a20_4 (n : Nat) (s1 : List (List C)) (s12 : List (List C)) : f4_k20 n (X.exit 4) (f4_x20_4 s1 s12) = some ((V.one (A.c (C.bool ((↑s12.length : Int) == (↑s1.length : Int)))), [])) := by kernel_rfl
theorem f4_a20_r (n : Nat) (s4 : Bool) (b14 : List C) : f4_k20 n X.ret (f4_x20_r s4 b14) = some ((V.one (A.c (C.bool s4)), [])) := by kernel_rfl
theorem f4_a6_r (n : Nat) (s4 : Bool) (b6 : List C) (b7 : List C) : f4_k6 n X.ret (f4_x6_r s4 b6 b7) = some ((V.one (A.c (C.bool s4)), [])) := by kernel_rfl
theorem f4_eq (n : Nat) (l : List (List C)) (r : List (List C)) : evFn tab FP nO false lv4 false n Try.f4 [.one (.c (.sl 27 l)), .one (.c (.sl 39 r))] [] = bcond (decide ((↑l.length : Int) > (20 : Int))) (some ((V.one (A.c (C.bool true)), []))) (bcond (decide ((↑r.length : Int) > (20 : Int))) (some ((V.one (A.c (C.bool true)), []))) (evLoop false (f4_s6 n) n (f4_h6 (l) (r) (r) ((↑r.length : Int)) ((0 : Int))) (f4_k6 n))) := by kernel_rfl

theorem foldl_up {p : List C → Bool} : ∀ (l : List (List C)) (s : Int), l.foldl (fun s y => if p y = true then s + 1 else s) s = s + (l.countP p : Int)
  | [], s => by simp
  | x :: l, s => by
    rw [List.foldl_cons, foldl_up l, List.countP_cons]
    cases p x <;> simp <;> omega
theorem foldl_down {p : List C → Bool} : ∀ (l : List (List C)) (s : Int), l.foldl (fun s y => if p y = true then s - 1 else s) s = s - (l.countP p : Int)
  | [], s => by simp
  | x :: l, s => by
    rw [List.foldl_cons, foldl_down l, List.countP_cons]
    cases p x <;> simp <;> omega
theorem f4_L11 (n : Nat) (k : X → St → Option R) (l r s30 : List (List C)) (s8 : Bool) (s31 s32 : Int) (x b7 : List C) (hl : l.length ≤ 1000) (m : Nat) (hm : l.length < m) :
    evLoop false (f4_s11 n) m (f4_h11 l r s8 false s30 s31 s32 l (l.length : Int) 0 x b7) k = k (.exit 2) (f4_x11_2 l r s8 (l.any fun y => is4 (ad y) == is4 (sub x 3 16)) s30 s31 s32 x b7) := by
  have h := fold_loop (xs := l) (L := fun m i (b : Bool) => evLoop false (f4_s11 n) m (f4_h11 l r s8 b s30 s31 s32 l (l.length : Int) i x b7) k) (f := fun b y => b || (is4 (ad y) == is4 (sub x 3 16))) (E := fun b => k (.exit 2) (f4_x11_2 l r s8 b s30 s31 s32 x b7)) (fun _ _ => True)
    (fun m i b y hy hlt _ => by
      show evLoop false (f4_s11 n) (m + 1) _ _ = evLoop false (f4_s11 n) m _ _
      rw [f4_t11]
      simp only [lt_nat, inB_nat, Int.toNat_natCast, el_get hy, wrap_succ (i := i) (by omega), hlt, decide_true, bcond_t]
      cases b <;> rfl)
    (fun _ _ _ _ _ _ => trivial)
    (fun m b _ => by
      show evLoop false (f4_s11 n) (m + 1) _ _ = _
      rw [f4_t11, lt_nat, bcond_no (by simp)])
    l.length 0 false m (by omega) hm trivial
  refine h.trans ?_
  rw [List.drop_zero]
  congr 2
  have key : ∀ (l : List (List C)) (b : Bool), l.foldl (fun b y => b || (is4 (ad y) == is4 (sub x 3 16))) b = (b || l.any fun y => is4 (ad y) == is4 (sub x 3 16)) := by
    intro l
    induction l with
    | nil => intro b; simp
    | cons y l ih => intro b; rw [List.foldl_cons, ih, List.any_cons, Bool.or_assoc]
  rw [key]
  rfl
theorem f4_L24 (n : Nat) (k : X → St → Option R) (r out s79 : List (List C)) (s80 s81 : Int) (x : List C) (hr : r.length ≤ 1000) (m : Nat) (hm : r.length < m) :
    evLoop false (f4_s24 n) m (f4_h24 r out 0 s79 s80 s81 r (r.length : Int) 0 x) k = k (.exit 6) (f4_x24_6 r out (r.countP fun y => eqL y x : Int) s79 s80 s81 x) := by
  have h := fold_loop (xs := r) (L := fun m i (s : Int) => evLoop false (f4_s24 n) m (f4_h24 r out s s79 s80 s81 r (r.length : Int) i x) k) (f := fun s y => if eqL y x = true then s + 1 else s) (E := fun s => k (.exit 6) (f4_x24_6 r out s s79 s80 s81 x)) (fun i s => 0 ≤ s ∧ s ≤ i)
    (fun m i s y hy hlt hI => by
      show evLoop false (f4_s24 n) (m + 1) _ _ = evLoop false (f4_s24 n) m _ _
      rw [f4_t24]
      simp only [lt_nat, inB_nat, Int.toNat_natCast, el_get hy, wrap_succ (i := i) (by omega), hlt, decide_true, bcond_t, wrap_ok (a := s + 1) (by omega) (by omega)]
      cases eqL y x <;> rfl)
    (fun i s y _ _ hI => by split <;> omega)
    (fun m s _ => by
      show evLoop false (f4_s24 n) (m + 1) _ _ = _
      rw [f4_t24, lt_nat, bcond_no (by simp)])
    r.length 0 0 m (by omega) hm ⟨by omega, by omega⟩
  refine h.trans ?_
  rw [List.drop_zero, foldl_up, Int.zero_add]
theorem f4_L30 (n : Nat) (k : X → St → Option R) (r out s79 : List (List C)) (s80 s81 c : Int) (hc : 0 ≤ c ∧ c ≤ 1000) (x : List C) (hr : out.length ≤ 1000) (m : Nat) (hm : out.length < m) :
    evLoop false (f4_s30 n) m (f4_h30 r out c s79 s80 s81 out (out.length : Int) 0 x) k = k (.exit 8) (f4_x30_8 r out (c - (out.countP fun y => eqL y x : Int)) s79 s80 s81 x) := by
  have h := fold_loop (xs := out) (L := fun m i (s : Int) => evLoop false (f4_s30 n) m (f4_h30 r out s s79 s80 s81 out (out.length : Int) i x) k) (f := fun s y => if eqL y x = true then s - 1 else s) (E := fun s => k (.exit 8) (f4_x30_8 r out s s79 s80 s81 x)) (fun i s => s ≤ 1000 ∧ -(i : Int) ≤ s)
    (fun m i s y hy hlt hI => by
      show evLoop false (f4_s30 n) (m + 1) _ _ = evLoop false (f4_s30 n) m _ _
      rw [f4_t30]
      simp only [lt_nat, inB_nat, Int.toNat_natCast, el_get hy, wrap_succ (i := i) (by omega), hlt, decide_true, bcond_t, wrap_ok (a := s - 1) (by omega) (by omega)]
      cases eqL y x <;> rfl)
    (fun i s y _ _ hI => by split <;> omega)
    (fun m s _ => by
      show evLoop false (f4_s30 n) (m + 1) _ _ = _
      rw [f4_t30, lt_nat, bcond_no (by simp)])
    out.length 0 c m (by omega) hm ⟨by omega, by omega⟩
  refine h.trans ?_
  rw [List.drop_zero, foldl_down]
theorem f4_out (n : Nat) (hn : 1000 < n) (l r : List (List C)) (hl : ∀ x ∈ l, L8 x) : evFn tab FP nO false lv4 false n Try.f4 [.one (.c (.sl 27 l)), .one (.c (.sl 39 r))] [] = some (.one (.c (.bool true)), []) := by
  rw [f4_eq]
  cases h1 : decide ((l.length : Int) > 20) with
  | true => rfl
  | false =>
    rw [bcond_f]
    cases h2 : decide ((r.length : Int) > 20) with
    | true => rfl
    | false =>
      rw [decide_eq_false_iff_not] at h1 h2
      rw [bcond_f]
      have hl1 : l.length ≤ 20 := by omega
      have hr1 : r.length ≤ 20 := by omega
      have hs := (g30_ok (l := l) (xs := r) (by omega) (by omega)).2
      have hout : (y30 r l).length = r.length := hs.1.length_eq
      have A := fold_loop (xs := r) (L := fun m i (_ : Unit) => evLoop false (f4_s6 n) m (f4_h6 l r r (r.length : Int) i) (f4_k6 n)) (f := fun _ _ => ()) (E := fun _ => f4_k6 n (.exit 0) (f4_x6_0 l r)) (fun _ _ => True)
        (fun m i _ x hx hlt _ => by
          show evLoop false (f4_s6 n) (m + 1) _ _ = evLoop false (f4_s6 n) m _ _
          rw [f4_t6]
          simp only [lt_nat, inB_nat, Int.toNat_natCast, el_get hx, hlt, decide_true, bcond_t]
          rw [bcond_of (by rw [Nat.ble_eq]; omega), f4_L11 n _ l r r _ _ _ x _ (by omega) n (by omega), f4_a11_2, srcN_some]
          rw [bcond_no (by simp), wrap_succ (by omega)]
          cases ha : l.any fun y => is4 (ad y) == is4 (sub x 3 16) with
          | false => rw [bcond_f]
          | true =>
            have h4 := srcN_is4 (z := sub x 3 16) hl (by rw [srcN_some]; exact ha)
            unfold ad at h4
            rw [bcond_t, h4, bcond_no (by simp)])
        (fun _ _ _ _ _ _ => trivial)
        (fun m _ _ => by
          show evLoop false (f4_s6 n) (m + 1) _ _ = _
          rw [f4_t6, lt_nat, bcond_no (by simp)])
        r.length 0 () n (by omega) (by omega) trivial
      refine A.trans ?_
      rw [f4_a6_0, bcond_of (by rw [Bool.and_eq_true, Nat.ble_eq, Nat.ble_eq]; omega)]
      have B := fold_loop (xs := r) (L := fun m i (_ : Unit) => evLoop false (f4_s20 n) m (f4_h20 r (y30 r l) r (r.length : Int) i) (f4_k20 n)) (f := fun _ _ => ()) (E := fun _ => f4_k20 n (.exit 4) (f4_x20_4 r (y30 r l))) (fun _ _ => True)
        (fun m i _ x hx hlt _ => by
          show evLoop false (f4_s20 n) (m + 1) _ _ = evLoop false (f4_s20 n) m _ _
          have hcl : (r.countP fun y => eqL y x) ≤ r.length := List.countP_le_length
          rw [f4_t20]
          simp only [lt_nat, inB_nat, Int.toNat_natCast, el_get hx, hlt, decide_true, bcond_t]
          rw [f4_L24 n _ r _ r _ _ x (by omega) n (by omega), f4_a24_6, f4_L30 n _ r _ r _ _ _ (by omega) x (by omega) n (by omega), f4_a30_8, hs.1.countP_eq, Int.sub_self, bcond_no (by rfl), wrap_succ (by omega)])
        (fun _ _ _ _ _ _ => trivial)
        (fun m _ _ => by
          show evLoop false (f4_s20 n) (m + 1) _ _ = _
          rw [f4_t20, lt_nat, bcond_no (by simp)])
        r.length 0 () n (by omega) (by omega) trivial
      refine B.trans ?_
      rw [f4_a20_4, hout]
      simp
theorem law_RankFamilies : ∀ xs, All2 (ArgOk tab) [22, 37] xs → FnAt Try.prog tab 4 (List.zipWith (argV tab) [22, 37] xs) [] (.one (.c (.bool true))) [] := by
  intro xs h
  match xs, h with
  | [x, y], h =>
    obtain ⟨l, rfl⟩ := wk_sl h.1.1
    obtain ⟨r, rfl⟩ := wk_sl h.2.1.1
    exact fn4 sFP rfl (f4_out 1001 (by omega) l r (locs_ok (h.1.2 (.sl 27 l) (by simp))))

end Go.Proofs.Ytdcdccdhdingbaa
