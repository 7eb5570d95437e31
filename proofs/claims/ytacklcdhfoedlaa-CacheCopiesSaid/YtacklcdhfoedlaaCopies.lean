/- Copies -/
import Derived.Test.YtacklcdhfoedlaaOwn
import Derived.KernelRfl
namespace Go.Proofs.Ytacklcdhfoedlaa
open Go Go.Eng
set_option maxRecDepth 100000
noncomputable abbrev f6_c8 : Code := (loops (body Try.f6)).getD 0 .skip
noncomputable abbrev f6_s8 (n : Nat) : St → (X → St → Option R) → Option R := fun st k => evCode tab FE oY lv6 false n f6_c8 st k
noncomputable abbrev f6_k8 (n : Nat) : X → St → Option R := after tab FE oY lv6 false n (body Try.f6) 0 (endK tab false Try.f6)
abbrev f6_h8 (s0 : List (List C)) (s1 : Int) (s6 : Int) (s23 : List (List C)) (s24 : Int) (s25 : Int) (b5 : List (List C)) : St := { t := [((0 : Nat), V.one (A.c (C.sl (3 : Nat) s0))), ((1 : Nat), V.one (A.c (C.int IntKind.i64 s1))), ((5 : Nat), V.one (A.own (Key.loc (5 : Nat) (0 : Nat)) (0 : Nat) (32 : Nat))), ((6 : Nat), V.one (A.c (C.int IntKind.i64 s6))), ((23 : Nat), V.one (A.c (C.sl (3 : Nat) s23))), ((24 : Nat), V.one (A.c (C.int IntKind.i64 s24))), ((25 : Nat), V.one (A.c (C.int IntKind.i64 s25)))], h := [(Key.loc (5 : Nat) (0 : Nat), (0 : Nat), B.arr (32 : Nat) true b5)] }
abbrev f6_x8_0 (s0 : List (List C)) (s1 : Int) (s6 : Int) (b5 : List (List C)) : St := { t := [((0 : Nat), V.one (A.c (C.sl (3 : Nat) s0))), ((1 : Nat), V.one (A.c (C.int IntKind.i64 s1))), ((5 : Nat), V.one (A.own (Key.loc (5 : Nat) (0 : Nat)) (0 : Nat) (32 : Nat))), ((6 : Nat), V.one (A.c (C.int IntKind.i64 s6)))], h := [(Key.loc (5 : Nat) (0 : Nat), (0 : Nat), B.arr (32 : Nat) true b5)] }
noncomputable abbrev f6_c21 : Code := (loops (body Try.f6)).getD 1 .skip
noncomputable abbrev f6_s21 (n : Nat) : St → (X → St → Option R) → Option R := fun st k => evCode tab FE oY lv6 false n f6_c21 st k
noncomputable abbrev f6_k21 (n : Nat) : X → St → Option R := after tab FE oY lv6 false n (body Try.f6) 1 (endK tab false Try.f6)
abbrev f6_h21 (s0 : List (List C)) (s1 : Int) (s64 : Int) (s65 : Int) (b5 : List (List C)) (b55_0 : Int) (b55_1 : List (List C)) (b10_0 : ByteArray) (b10_1 : Int) : St := { t := [((0 : Nat), V.one (A.c (C.sl (3 : Nat) s0))), ((1 : Nat), V.one (A.c (C.int IntKind.i64 s1))), ((5 : Nat), V.one (A.own (Key.loc (5 : Nat) (0 : Nat)) (0 : Nat) (32 : Nat))), ((9 : Nat), V.one (A.ptr (Key.loc (55 : Nat) (0 : Nat)) (0 : Nat) (0 : Nat))), ((10 : Nat), V.one (A.ptr (Key.loc (10 : Nat) (0 : Nat)) (0 : Nat) (0 : Nat))), ((64 : Nat), V.one (A.c (C.int IntKind.i64 s64))), ((65 : Nat), V.one (A.c (C.int IntKind.i64 s65)))], h := [(Key.loc (5 : Nat) (0 : Nat), (0 : Nat), B.arr (32 : Nat) true b5), (Key.loc (55 : Nat) (0 : Nat), (0 : Nat), B.box (55 : Nat) [C.int IntKind.i64 b55_0, C.sl (57 : Nat) b55_1] []), (Key.loc (10 : Nat) (0 : Nat), (0 : Nat), B.box (26 : Nat) [C.str b10_0, C.int IntKind.i64 b10_1] [])] }
abbrev f6_x21_2 (s0 : List (List C)) (s1 : Int) (b5 : List (List C)) (b55_0 : Int) (b55_1 : List (List C)) (b10_0 : ByteArray) (b10_1 : Int) : St := { t := [((0 : Nat), V.one (A.c (C.sl (3 : Nat) s0))), ((1 : Nat), V.one (A.c (C.int IntKind.i64 s1))), ((9 : Nat), V.one (A.ptr (Key.loc (55 : Nat) (0 : Nat)) (0 : Nat) (0 : Nat))), ((10 : Nat), V.one (A.ptr (Key.loc (10 : Nat) (0 : Nat)) (0 : Nat) (0 : Nat)))], h := [(Key.loc (5 : Nat) (0 : Nat), (0 : Nat), B.arr (32 : Nat) true b5), (Key.loc (55 : Nat) (0 : Nat), (0 : Nat), B.box (55 : Nat) [C.int IntKind.i64 b55_0, C.sl (57 : Nat) b55_1] []), (Key.loc (10 : Nat) (0 : Nat), (0 : Nat), B.box (26 : Nat) [C.str b10_0, C.int IntKind.i64 b10_1] [])] }
noncomputable abbrev f6_c27 : Code := (loops (body Try.f6)).getD 2 .skip
noncomputable abbrev f6_s27 (n : Nat) : St → (X → St → Option R) → Option R := fun st k => evCode tab FE oY lv6 false n f6_c27 st k
noncomputable abbrev f6_k27 (n : Nat) : X → St → Option R := after tab FE oY lv6 false n (body Try.f6) 2 (endK tab false Try.f6)
abbrev f6_h27 (s0 : List (List C)) (s1 : Int) (s80 : Int) (s81 : Int) (b55_0 : Int) (b55_1 : List (List C)) (b10_0 : ByteArray) (b10_1 : Int) (b76 : List (List C)) : St := { t := [((0 : Nat), V.one (A.c (C.sl (3 : Nat) s0))), ((1 : Nat), V.one (A.c (C.int IntKind.i64 s1))), ((9 : Nat), V.one (A.ptr (Key.loc (55 : Nat) (0 : Nat)) (0 : Nat) (0 : Nat))), ((10 : Nat), V.one (A.ptr (Key.loc (10 : Nat) (0 : Nat)) (0 : Nat) (0 : Nat))), ((13 : Nat), V.one (A.own (Key.loc (76 : Nat) (0 : Nat)) (0 : Nat) (32 : Nat))), ((80 : Nat), V.one (A.c (C.int IntKind.i64 s80))), ((81 : Nat), V.one (A.c (C.int IntKind.i64 s81)))], h := [(Key.loc (55 : Nat) (0 : Nat), (0 : Nat), B.box (55 : Nat) [C.int IntKind.i64 b55_0, C.sl (57 : Nat) b55_1] []), (Key.loc (10 : Nat) (0 : Nat), (0 : Nat), B.box (26 : Nat) [C.str b10_0, C.int IntKind.i64 b10_1] []), (Key.loc (76 : Nat) (0 : Nat), (0 : Nat), B.arr (32 : Nat) true b76)] }
abbrev f6_x27_4 (s0 : List (List C)) (s1 : Int) (b55_0 : Int) (b55_1 : List (List C)) (b10_0 : ByteArray) (b10_1 : Int) (b76 : List (List C)) : St := { t := [((0 : Nat), V.one (A.c (C.sl (3 : Nat) s0))), ((1 : Nat), V.one (A.c (C.int IntKind.i64 s1))), ((9 : Nat), V.one (A.ptr (Key.loc (55 : Nat) (0 : Nat)) (0 : Nat) (0 : Nat))), ((10 : Nat), V.one (A.ptr (Key.loc (10 : Nat) (0 : Nat)) (0 : Nat) (0 : Nat)))], h := [(Key.loc (55 : Nat) (0 : Nat), (0 : Nat), B.box (55 : Nat) [C.int IntKind.i64 b55_0, C.sl (57 : Nat) b55_1] []), (Key.loc (10 : Nat) (0 : Nat), (0 : Nat), B.box (26 : Nat) [C.str b10_0, C.int IntKind.i64 b10_1] []), (Key.loc (76 : Nat) (0 : Nat), (0 : Nat), B.arr (32 : Nat) true b76)] }
noncomputable abbrev f6_c35 : Code := (loops (body Try.f6)).getD 3 .skip
noncomputable abbrev f6_s35 (n : Nat) : St → (X → St → Option R) → Option R := fun st k => evCode tab FE oY lv6 false n f6_c35 st k
noncomputable abbrev f6_k35 (n : Nat) : X → St → Option R := after tab FE oY lv6 false n (body Try.f6) 3 (endK tab false Try.f6)
abbrev f6_h35 (s0 : List (List C)) (s1 : Int) (s107 : Int) (s108 : Int) (b55_0 : Int) (b55_1 : List (List C)) (b10_0 : ByteArray) (b10_1 : Int) (b94 : List (List C)) : St := { t := [((0 : Nat), V.one (A.c (C.sl (3 : Nat) s0))), ((1 : Nat), V.one (A.c (C.int IntKind.i64 s1))), ((9 : Nat), V.one (A.ptr (Key.loc (55 : Nat) (0 : Nat)) (0 : Nat) (0 : Nat))), ((10 : Nat), V.one (A.ptr (Key.loc (10 : Nat) (0 : Nat)) (0 : Nat) (0 : Nat))), ((16 : Nat), V.one (A.own (Key.loc (94 : Nat) (0 : Nat)) (0 : Nat) (32 : Nat))), ((107 : Nat), V.one (A.c (C.int IntKind.i64 s107))), ((108 : Nat), V.one (A.c (C.int IntKind.i64 s108)))], h := [(Key.loc (55 : Nat) (0 : Nat), (0 : Nat), B.box (55 : Nat) [C.int IntKind.i64 b55_0, C.sl (57 : Nat) b55_1] []), (Key.loc (10 : Nat) (0 : Nat), (0 : Nat), B.box (26 : Nat) [C.str b10_0, C.int IntKind.i64 b10_1] []), (Key.loc (94 : Nat) (0 : Nat), (0 : Nat), B.arr (32 : Nat) true b94)] }
abbrev f6_x35_r (s4 : Bool) (b55_0 : Int) (b55_1 : List (List C)) (b10_0 : ByteArray) (b10_1 : Int) (b94 : List (List C)) : St := { t := [((4 : Nat), V.one (A.c (C.bool s4)))], h := [(Key.loc (55 : Nat) (0 : Nat), (0 : Nat), B.box (55 : Nat) [C.int IntKind.i64 b55_0, C.sl (57 : Nat) b55_1] []), (Key.loc (10 : Nat) (0 : Nat), (0 : Nat), B.box (26 : Nat) [C.str b10_0, C.int IntKind.i64 b10_1] []), (Key.loc (94 : Nat) (0 : Nat), (0 : Nat), B.arr (32 : Nat) true b94)] }
abbrev f6_x35_6 (s1 : Int) (b55_0 : Int) (b55_1 : List (List C)) (b10_0 : ByteArray) (b10_1 : Int) (b94 : List (List C)) : St := { t := [((1 : Nat), V.one (A.c (C.int IntKind.i64 s1))), ((9 : Nat), V.one (A.ptr (Key.loc (55 : Nat) (0 : Nat)) (0 : Nat) (0 : Nat))), ((10 : Nat), V.one (A.ptr (Key.loc (10 : Nat) (0 : Nat)) (0 : Nat) (0 : Nat)))], h := [(Key.loc (55 : Nat) (0 : Nat), (0 : Nat), B.box (55 : Nat) [C.int IntKind.i64 b55_0, C.sl (57 : Nat) b55_1] []), (Key.loc (10 : Nat) (0 : Nat), (0 : Nat), B.box (26 : Nat) [C.str b10_0, C.int IntKind.i64 b10_1] []), (Key.loc (94 : Nat) (0 : Nat), (0 : Nat), B.arr (32 : Nat) true b94)] }
abbrev f6_h27v1 (s0 : List (List C)) (s1 : Int) (s13 : List (List C)) (s80 : Int) (s81 : Int) (b55_0 : Int) (b55_1 : List (List C)) (b10_0 : ByteArray) (b10_1 : Int) : St := { t := [((0 : Nat), V.one (A.c (C.sl (3 : Nat) s0))), ((1 : Nat), V.one (A.c (C.int IntKind.i64 s1))), ((9 : Nat), V.one (A.ptr (Key.loc (55 : Nat) (0 : Nat)) (0 : Nat) (0 : Nat))), ((10 : Nat), V.one (A.ptr (Key.loc (10 : Nat) (0 : Nat)) (0 : Nat) (0 : Nat))), ((13 : Nat), V.one (A.c (C.sl (32 : Nat) s13))), ((80 : Nat), V.one (A.c (C.int IntKind.i64 s80))), ((81 : Nat), V.one (A.c (C.int IntKind.i64 s81)))], h := [(Key.loc (55 : Nat) (0 : Nat), (0 : Nat), B.box (55 : Nat) [C.int IntKind.i64 b55_0, C.sl (57 : Nat) b55_1] []), (Key.loc (10 : Nat) (0 : Nat), (0 : Nat), B.box (26 : Nat) [C.str b10_0, C.int IntKind.i64 b10_1] [])] }
abbrev f6_x27v1_4 (s0 : List (List C)) (s1 : Int) (b55_0 : Int) (b55_1 : List (List C)) (b10_0 : ByteArray) (b10_1 : Int) : St := { t := [((0 : Nat), V.one (A.c (C.sl (3 : Nat) s0))), ((1 : Nat), V.one (A.c (C.int IntKind.i64 s1))), ((9 : Nat), V.one (A.ptr (Key.loc (55 : Nat) (0 : Nat)) (0 : Nat) (0 : Nat))), ((10 : Nat), V.one (A.ptr (Key.loc (10 : Nat) (0 : Nat)) (0 : Nat) (0 : Nat)))], h := [(Key.loc (55 : Nat) (0 : Nat), (0 : Nat), B.box (55 : Nat) [C.int IntKind.i64 b55_0, C.sl (57 : Nat) b55_1] []), (Key.loc (10 : Nat) (0 : Nat), (0 : Nat), B.box (26 : Nat) [C.str b10_0, C.int IntKind.i64 b10_1] [])] }
theorem f6_t8 (n m : Nat) (k : X → St → Option R) (s0 : List (List C)) (s1 : Int) (s6 : Int) (s23 : List (List C)) (s24 : Int) (s25 : Int) (b5 : List (List C)) : evLoop false (f6_s8 n) (m + 1) (f6_h8 s0 s1 s6 s23 s24 s25 b5) k = bcond (decide (s25 < s24)) (bcond (inB s25 s23.length) (bcond (roomOk (b5.length + [[C.str (ByteArray.mk #[(97 : UInt8)]), C.int IntKind.i64 (1 : Int), C.int IntKind.i64 (iand IntKind.i64 (cl (el s23 s25.toNat) (0 : Nat)).toI (4095 : Int)), C.int IntKind.u8 (0 : Int), C.int IntKind.u8 (0 : Int), C.int IntKind.u8 (0 : Int), C.int IntKind.u8 (0 : Int), C.int IntKind.u8 (0 : Int), C.int IntKind.u8 (0 : Int), C.int IntKind.u8 (0 : Int), C.int IntKind.u8 (0 : Int), C.int IntKind.u8 (0 : Int), C.int IntKind.u8 (0 : Int), C.int IntKind.u8 (0 : Int), C.int IntKind.u8 (0 : Int), C.int IntKind.u8 (0 : Int), C.int IntKind.u8 (0 : Int), C.int IntKind.u8 (0 : Int), C.int IntKind.u8 (0 : Int), C.str (ByteArray.mk #[]), C.str (strOf [[C.int IntKind.u8 (IntKind.u8.wrap s25)]])]].length) (80 : Nat)) (evLoop false (f6_s8 n) m (f6_h8 (s0) (s1) (if iand IntKind.i64 (cl (el s23 s25.toNat) (0 : Nat)).toI (4095 : Int) < s6 then iand IntKind.i64 (cl (el s23 s25.toNat) (0 : Nat)).toI (4095 : Int) else s6) (s23) (s24) (IntKind.i64.wrap (s25 + (1 : Int))) (b5 ++ [[C.str (ByteArray.mk #[(97 : UInt8)]), C.int IntKind.i64 (1 : Int), C.int IntKind.i64 (iand IntKind.i64 (cl (el s23 s25.toNat) (0 : Nat)).toI (4095 : Int)), C.int IntKind.u8 (0 : Int), C.int IntKind.u8 (0 : Int), C.int IntKind.u8 (0 : Int), C.int IntKind.u8 (0 : Int), C.int IntKind.u8 (0 : Int), C.int IntKind.u8 (0 : Int), C.int IntKind.u8 (0 : Int), C.int IntKind.u8 (0 : Int), C.int IntKind.u8 (0 : Int), C.int IntKind.u8 (0 : Int), C.int IntKind.u8 (0 : Int), C.int IntKind.u8 (0 : Int), C.int IntKind.u8 (0 : Int), C.int IntKind.u8 (0 : Int), C.int IntKind.u8 (0 : Int), C.int IntKind.u8 (0 : Int), C.str (ByteArray.mk #[]), C.str (strOf [[C.int IntKind.u8 (IntKind.u8.wrap s25)]])]])) k) (none)) (none)) (k (X.exit 0) (f6_x8_0 (s0) (s1) (s6) (b5))) := by kernel_rfl
theorem f6_a8_0 (n : Nat) (s0 : List (List C)) (s1 : Int) (s6 : Int) (b5 : List (List C)) : f6_k8 n (X.exit 0) (f6_x8_0 s0 s1 s6 b5) = bcond (b5.length.ble (1000000 : Nat)) (bcond (ttlOf b5 != s6) (some ((V.one (A.c (C.bool false)), []))) (bcond (Nat.ble (0 : Nat) (1000000 : Nat) && b5.length.ble (1000000 : Nat)) (evLoop false (f6_s21 n) n (f6_h21 (s0) (iand IntKind.i64 s1 (4095 : Int)) ((↑b5.length : Int)) ((0 : Int)) (b5) (clampN (1 : Int)) (putR (3 : Int) (clampN (1 : Int)) [] (C.str (ByteArray.mk #[(97 : UInt8)])) (C.int IntKind.i64 (1 : Int)) (5 : Int) b5 (IntKind.i64.wrap (iand IntKind.i64 s1 (4095 : Int) + (1 : Int)))) ((ByteArray.mk #[(97 : UInt8)])) ((1 : Int))) (f6_k21 n)) (none))) (none) := by kernel_rfl
theorem f6_t21 (n m : Nat) (k : X → St → Option R) (s0 : List (List C)) (s1 : Int) (s64 : Int) (s65 : Int) (b5 : List (List C)) (b55_0 : Int) (b55_1 : List (List C)) (b10_0 : ByteArray) (b10_1 : Int) : evLoop false (f6_s21 n) (m + 1) (f6_h21 s0 s1 s64 s65 b5 b55_0 b55_1 b10_0 b10_1) k = bcond (decide (s65 < s64)) (bcond (inB s65 b5.length) (evLoop false (f6_s21 n) m (f6_h21 (s0) (s1) (s64) (IntKind.i64.wrap (s65 + (1 : Int))) (b5.set s65.toNat ((el b5 s65.toNat).set (2 : Nat) (C.int IntKind.i64 (7 : Int)))) (b55_0) (b55_1) (b10_0) (b10_1)) k) (none)) (k (X.exit 2) (f6_x21_2 (s0) (s1) (b5) (b55_0) (b55_1) (b10_0) (b10_1))) := by kernel_rfl
theorem f6_a21_2 (n : Nat) (s0 : List (List C)) (s1 : Int) (b5 : List (List C)) (b55_0 : Int) (b55_1 : List (List C)) (b10_0 : ByteArray) (b10_1 : Int) : f6_k21 n (X.exit 2) (f6_x21_2 s0 s1 b5 b55_0 b55_1 b10_0 b10_1) = bcond (b55_1.length.ble (1000000 : Nat) && b55_1.all fun e => (cl e (3 : Nat)).toL.length.ble (1000000 : Nat)) (bcond ((getE (3 : Int) b55_1 [C.str b10_0, C.int IntKind.i64 b10_1]).isSome) (evLoop false (f6_s27 n) n (f6_h27 (s0) (s1) ((↑(getL (3 : Int) (getE (3 : Int) b55_1 [C.str b10_0, C.int IntKind.i64 b10_1])).length : Int)) ((0 : Int)) (b55_0) (b55_1) (b10_0) (b10_1) (getL (3 : Int) (getE (3 : Int) b55_1 [C.str b10_0, C.int IntKind.i64 b10_1]))) (f6_k27 n)) (evLoop false (f6_s27 n) n (f6_h27v1 (s0) (s1) ([]) ((↑(0 : Nat) : Int)) ((0 : Int)) (b55_0) (b55_1) (b10_0) (b10_1)) (f6_k27 n))) (none) := by kernel_rfl
theorem f6_t27 (n m : Nat) (k : X → St → Option R) (s0 : List (List C)) (s1 : Int) (s80 : Int) (s81 : Int) (b55_0 : Int) (b55_1 : List (List C)) (b10_0 : ByteArray) (b10_1 : Int) (b76 : List (List C)) : evLoop false (f6_s27 n) (m + 1) (f6_h27 s0 s1 s80 s81 b55_0 b55_1 b10_0 b10_1 b76) k = bcond (decide (s81 < s80)) (bcond (inB s81 b76.length) (evLoop false (f6_s27 n) m (f6_h27 (s0) (s1) (s80) (IntKind.i64.wrap (s81 + (1 : Int))) (b55_0) (b55_1) (b10_0) (b10_1) (b76.set s81.toNat ((el b76 s81.toNat).set (0 : Nat) (C.str (ByteArray.mk #[(122 : UInt8)]))))) k) (none)) (k (X.exit 4) (f6_x27_4 (s0) (s1) (b55_0) (b55_1) (b10_0) (b10_1) (b76))) := by kernel_rfl
theorem f6_a27_4 (n : Nat) (s0 : List (List C)) (s1 : Int) (b55_0 : Int) (b55_1 : List (List C)) (b10_0 : ByteArray) (b10_1 : Int) (b76 : List (List C)) : f6_k27 n (X.exit 4) (f6_x27_4 s0 s1 b55_0 b55_1 b10_0 b10_1 b76) = bcond (b55_1.length.ble (1000000 : Nat) && b55_1.all fun e => (cl e (3 : Nat)).toL.length.ble (1000000 : Nat)) (bcond ((getE (IntKind.i64.wrap ((3 : Int) + s1)) b55_1 [C.str b10_0, C.int IntKind.i64 b10_1]).isSome) (bcond (getO (getE (IntKind.i64.wrap ((3 : Int) + s1)) b55_1 [C.str b10_0, C.int IntKind.i64 b10_1]) != (5 : Int)) (some ((V.one (A.c (C.bool false)), []))) (bcond ((↑(getL (IntKind.i64.wrap ((3 : Int) + s1)) (getE (IntKind.i64.wrap ((3 : Int) + s1)) b55_1 [C.str b10_0, C.int IntKind.i64 b10_1])).length : Int) != (↑s0.length : Int)) (some ((V.one (A.c (C.bool false)), []))) (evLoop false (f6_s35 n) n (f6_h35 (s0) (s1) ((↑(getL (IntKind.i64.wrap ((3 : Int) + s1)) (getE (IntKind.i64.wrap ((3 : Int) + s1)) b55_1 [C.str b10_0, C.int IntKind.i64 b10_1])).length : Int)) ((0 : Int)) (b55_0) (b55_1) (b10_0) (b10_1) (getL (IntKind.i64.wrap ((3 : Int) + s1)) (getE (IntKind.i64.wrap ((3 : Int) + s1)) b55_1 [C.str b10_0, C.int IntKind.i64 b10_1]))) (f6_k35 n)))) (some ((V.one (A.c (C.bool false)), [])))) (none) := by kernel_rfl
theorem f6_t35 (n m : Nat) (k : X → St → Option R) (s0 : List (List C)) (s1 : Int) (s107 : Int) (s108 : Int) (b55_0 : Int) (b55_1 : List (List C)) (b10_0 : ByteArray) (b10_1 : Int) (b94 : List (List C)) : evLoop false (f6_s35 n) (m + 1) (f6_h35 s0 s1 s107 s108 b55_0 b55_1 b10_0 b10_1 b94) k = bcond (decide (s108 < s107)) (bcond (inB s108 b94.length) (bcond (!(cl (el b94 s108.toNat) (0 : Nat)).toS.toList == (ByteArray.mk #[(97 : UInt8)]).toList) (k X.ret (f6_x35_r (false) (b55_0) (b55_1) (b10_0) (b10_1) (b94))) (bcond (inB s108 b94.length) (bcond (inB s108 s0.length) (bcond ((cl (el b94 s108.toNat) (2 : Nat)).toI != if (0 : Int) > IntKind.i64.wrap (iand IntKind.i64 (cl (el s0 s108.toNat) (0 : Nat)).toI (4095 : Int) - s1) then (0 : Int) else IntKind.i64.wrap (iand IntKind.i64 (cl (el s0 s108.toNat) (0 : Nat)).toI (4095 : Int) - s1)) (k X.ret (f6_x35_r (false) (b55_0) (b55_1) (b10_0) (b10_1) (b94))) (evLoop false (f6_s35 n) m (f6_h35 (s0) (s1) (s107) (IntKind.i64.wrap (s108 + (1 : Int))) (b55_0) (b55_1) (b10_0) (b10_1) (b94)) k)) (none)) (none))) (none)) (k (X.exit 6) (f6_x35_6 (s1) (b55_0) (b55_1) (b10_0) (b10_1) (b94))) := by kernel_rfl
theorem f6_a35_r (n : Nat) (s4 : Bool) (b55_0 : Int) (b55_1 : List (List C)) (b10_0 : ByteArray) (b10_1 : Int) (b94 : List (List C)) : f6_k35 n X.ret (f6_x35_r s4 b55_0 b55_1 b10_0 b10_1 b94) = some ((V.one (A.c (C.bool s4)), [])) := by kernel_rfl
theorem f6_a35_6 (n : Nat) (s1 : Int) (b55_0 : Int) (b55_1 : List (List C)) (b10_0 : ByteArray) (b10_1 : Int) (b94 : List (List C)) : f6_k35 n (X.exit 6) (f6_x35_6 s1 b55_0 b55_1 b10_0 b10_1 b94) = bcond (b55_1.length.ble (1000000 : Nat) && b55_1.all fun e => (cl e (3 : Nat)).toL.length.ble (1000000 : Nat)) (bcond ((getE (IntKind.i64.wrap ((4 : Int) + s1)) b55_1 [C.str b10_0, C.int IntKind.i64 b10_1]).isSome) (some ((V.one (A.c (C.bool (getO (getE (IntKind.i64.wrap ((4 : Int) + s1)) b55_1 [C.str b10_0, C.int IntKind.i64 b10_1]) == (0 : Int)))), []))) (some ((V.one (A.c (C.bool ((0 : Int) == (0 : Int)))), [])))) (none) := by kernel_rfl
theorem f6_t27v1 (n m : Nat) (k : X → St → Option R) (s0 : List (List C)) (s1 : Int) (s13 : List (List C)) (s80 : Int) (s81 : Int) (b55_0 : Int) (b55_1 : List (List C)) (b10_0 : ByteArray) (b10_1 : Int) : evLoop false (f6_s27 n) (m + 1) (f6_h27v1 s0 s1 s13 s80 s81 b55_0 b55_1 b10_0 b10_1) k = bcond (decide (s81 < s80)) (bcond (inB s81 s13.length) (none) (none)) (k (X.exit 4) (f6_x27v1_4 (s0) (s1) (b55_0) (b55_1) (b10_0) (b10_1))) := by kernel_rfl
theorem f6_a27v1_4 (n : Nat) (s0 : List (List C)) (s1 : Int) (b55_0 : Int) (b55_1 : List (List C)) (b10_0 : ByteArray) (b10_1 : Int) : f6_k27 n (X.exit 4) (f6_x27v1_4 s0 s1 b55_0 b55_1 b10_0 b10_1) = bcond (b55_1.length.ble (1000000 : Nat) && b55_1.all fun e => (cl e (3 : Nat)).toL.length.ble (1000000 : Nat)) (bcond ((getE (IntKind.i64.wrap ((3 : Int) + s1)) b55_1 [C.str b10_0, C.int IntKind.i64 b10_1]).isSome) (bcond (getO (getE (IntKind.i64.wrap ((3 : Int) + s1)) b55_1 [C.str b10_0, C.int IntKind.i64 b10_1]) != (5 : Int)) (some ((V.one (A.c (C.bool false)), []))) (bcond ((↑(getL (IntKind.i64.wrap ((3 : Int) + s1)) (getE (IntKind.i64.wrap ((3 : Int) + s1)) b55_1 [C.str b10_0, C.int IntKind.i64 b10_1])).length : Int) != (↑s0.length : Int)) (some ((V.one (A.c (C.bool false)), []))) (evLoop false (f6_s35 n) n (f6_h35 (s0) (s1) ((↑(getL (IntKind.i64.wrap ((3 : Int) + s1)) (getE (IntKind.i64.wrap ((3 : Int) + s1)) b55_1 [C.str b10_0, C.int IntKind.i64 b10_1])).length : Int)) ((0 : Int)) (b55_0) (b55_1) (b10_0) (b10_1) (getL (IntKind.i64.wrap ((3 : Int) + s1)) (getE (IntKind.i64.wrap ((3 : Int) + s1)) b55_1 [C.str b10_0, C.int IntKind.i64 b10_1]))) (f6_k35 n)))) (some ((V.one (A.c (C.bool false)), [])))) (none) := by kernel_rfl
theorem f6_eq (n : Nat) (l : List (List C)) (w : Int) : evFn tab FE oY false lv6 false n Try.f6 [.one (.c (.sl 3 l)), .one (.c (.int .i64 w))] [] = bcond (decide ((↑l.length : Int) > (30 : Int))) (some ((V.one (A.c (C.bool true)), []))) (evLoop false (f6_s8 n) n (f6_h8 (l) (w) ((1048576 : Int)) (l) ((↑l.length : Int)) ((0 : Int)) ([])) (f6_k8 n)) := by kernel_rfl


def sA : ByteArray := ByteArray.mk #[(97 : UInt8)]
def recA (i : Nat) (t : Int) : List C := [C.str sA, C.int IntKind.i64 1, C.int IntKind.i64 t, C.int IntKind.u8 0, C.int IntKind.u8 0, C.int IntKind.u8 0, C.int IntKind.u8 0, C.int IntKind.u8 0, C.int IntKind.u8 0, C.int IntKind.u8 0, C.int IntKind.u8 0, C.int IntKind.u8 0, C.int IntKind.u8 0, C.int IntKind.u8 0, C.int IntKind.u8 0, C.int IntKind.u8 0, C.int IntKind.u8 0, C.int IntKind.u8 0, C.int IntKind.u8 0, C.str (ByteArray.mk #[]), C.str (one i)]
def tI (x : List C) : Int := (cl x 0).toI % 4096
theorem tI_rng (x : List C) : 0 ≤ tI x ∧ tI x < 4096 := ⟨Int.emod_nonneg _ (by decide), Int.emod_lt_of_pos _ (by decide)⟩
def recs (l : List (List C)) : List (List C) := l.zipIdx.map fun p => recA p.2 (tI p.1)
theorem recs_len (l : List (List C)) : (recs l).length = l.length := by simp [recs]
theorem recs_get {l : List (List C)} {i : Nat} {x : List C} (h : l[i]? = some x) : (recs l)[i]? = some (recA i (tI x)) := by
  simp [recs, List.getElem?_zipIdx, h]
theorem recs_take {l : List (List C)} {i : Nat} {x : List C} (h : l[i]? = some x) : (recs l).take (i + 1) = (recs l).take i ++ [recA i (tI x)] := by
  have hlt := (List.getElem?_eq_some_iff.1 h).1
  rw [List.take_succ_eq_append_getElem (by rw [recs_len]; exact hlt), (List.getElem?_eq_some_iff.1 (recs_get h)).2]

theorem f6_L8 (n : Nat) (k : X → St → Option R) (l : List (List C)) (w : Int) (h30 : l.length ≤ 30) (m : Nat) (hm : l.length < m) :
    evLoop false (f6_s8 n) m (f6_h8 l w 1048576 l l.length 0 []) k = k (X.exit 0) (f6_x8_0 l w (ttlOf (recs l)) (recs l)) := by
  have h := fold_loop (xs := l) (L := fun m i (_ : Unit) => evLoop false (f6_s8 n) m (f6_h8 l w (ttlOf ((recs l).take i)) l l.length i ((recs l).take i)) k) (f := fun _ _ => ()) (E := fun _ => k (X.exit 0) (f6_x8_0 l w (ttlOf (recs l)) (recs l))) (fun _ _ => True)
    (fun m i _ x hx hlt _ => by
      show evLoop false (f6_s8 n) (m + 1) _ k = evLoop false (f6_s8 n) m _ k
      have hlen : ((recs l).take i).length = i := by simp [recs_len]; omega
      rw [f6_t8]
      simp only [lt_nat, inB_nat, Int.toNat_natCast, el_get hx, wrap_succ (i := i) (by omega), hlt, decide_true, bcond_t, iand_FFF, u8_nat (i := i) (by omega), strOf_one]
      rw [bcond_of (roomOk_of (by rw [hlen]; simp; omega) (by rw [hlen]; simp; omega)), recs_take hx]
      have : ttlOf ((recs l).take i ++ [recA i (tI x)]) = if tI x < ttlOf ((recs l).take i) then tI x else ttlOf ((recs l).take i) := by
        rw [ttlOf, List.foldl_append]
        rfl
      rw [this]
      rfl)
    (fun _ _ _ _ _ _ => trivial)
    (fun m _ _ => by
      show evLoop false (f6_s8 n) (m + 1) _ k = _
      rw [f6_t8, lt_nat, bcond_no (by simp), List.take_of_length_le (by simp [recs_len])])
    l.length 0 () m (by omega) hm trivial
  exact h
theorem f6_L21 (n : Nat) (k : X → St → Option R) (l rs es : List (List C)) (w size q1 : Int) (q0 : ByteArray) (h30 : rs.length ≤ 30) (m : Nat) (hm : rs.length < m) :
    evLoop false (f6_s21 n) m (f6_h21 l w rs.length 0 rs size es q0 q1) k = k (X.exit 2) (f6_x21_2 l w (rs.map fun r => r.set 2 (.int .i64 7)) size es q0 q1) := by
  have h := fold_loop (xs := rs) (L := fun m i (_ : Unit) => evLoop false (f6_s21 n) m (f6_h21 l w rs.length i (upTo (fun r => r.set 2 (.int .i64 7)) rs i) size es q0 q1) k) (f := fun _ _ => ()) (E := fun _ => k (X.exit 2) (f6_x21_2 l w (rs.map fun r => r.set 2 (.int .i64 7)) size es q0 q1)) (fun _ _ => True)
    (fun m i _ x hx hlt _ => by
      show evLoop false (f6_s21 n) (m + 1) _ k = evLoop false (f6_s21 n) m _ k
      rw [f6_t21]
      simp only [lt_nat, inB_nat, Int.toNat_natCast, upTo_length _ _ (Nat.le_of_lt hlt), el_get (upTo_get (fun r => r.set 2 (.int .i64 7)) hx), wrap_succ (i := i) (by omega), hlt, decide_true, bcond_t]
      rw [← upTo_set (fun r => r.set 2 (.int .i64 7)) hx])
    (fun _ _ _ _ _ _ => trivial)
    (fun m _ _ => by
      show evLoop false (f6_s21 n) (m + 1) _ k = _
      rw [f6_t21, lt_nat, bcond_no (by simp), upTo_all])
    rs.length 0 () m (by omega) hm trivial
  rw [upTo_zero] at h
  exact h
theorem f6_L27 (n : Nat) (k : X → St → Option R) (l rs es : List (List C)) (w size q1 : Int) (q0 : ByteArray) (h30 : rs.length ≤ 30) (m : Nat) (hm : rs.length < m) :
    evLoop false (f6_s27 n) m (f6_h27 l w rs.length 0 size es q0 q1 rs) k = k (X.exit 4) (f6_x27_4 l w size es q0 q1 (rs.map fun r => r.set 0 (.str (ByteArray.mk #[122])))) := by
  have h := fold_loop (xs := rs) (L := fun m i (_ : Unit) => evLoop false (f6_s27 n) m (f6_h27 l w rs.length i size es q0 q1 (upTo (fun r => r.set 0 (.str (ByteArray.mk #[122]))) rs i)) k) (f := fun _ _ => ()) (E := fun _ => k (X.exit 4) (f6_x27_4 l w size es q0 q1 (rs.map fun r => r.set 0 (.str (ByteArray.mk #[122]))))) (fun _ _ => True)
    (fun m i _ x hx hlt _ => by
      show evLoop false (f6_s27 n) (m + 1) _ k = evLoop false (f6_s27 n) m _ k
      rw [f6_t27]
      simp only [lt_nat, inB_nat, Int.toNat_natCast, upTo_length _ _ (Nat.le_of_lt hlt), el_get (upTo_get (fun r => r.set 0 (.str (ByteArray.mk #[122]))) hx), wrap_succ (i := i) (by omega), hlt, decide_true, bcond_t]
      rw [← upTo_set (fun r => r.set 0 (.str (ByteArray.mk #[122]))) hx])
    (fun _ _ _ _ _ _ => trivial)
    (fun m _ _ => by
      show evLoop false (f6_s27 n) (m + 1) _ k = _
      rw [f6_t27, lt_nat, bcond_no (by simp), upTo_all])
    rs.length 0 () m (by omega) hm trivial
  rw [upTo_zero] at h
  exact h

/-- The entry. -/
def entC (l : List (List C)) (w : Int) : List C := mkE 3 (.str sA) (.int .i64 1) 5 (recs l) (w + 1)
theorem entC_until {l : List (List C)} {w : Int} (h0 : 0 ≤ w) (h1 : w < 4096) : (cl (entC l w) 4).toI = w + 4 := by
  show IntKind.i64.wrap (3 + if (1048576 : Int) < w + 1 then (1048576 : Int) else w + 1) = _
  rw [if_neg (by omega), wrap_ok (by omega) (by omega)]
  omega
theorem entC_q (l : List (List C)) (w : Int) : notQ [.str sA, .int .i64 1] (entC l w) = false := by
  show (!((sA.toList == sA.toList) && true)) = false
  simp
theorem entC_get {l : List (List C)} {w now : Int} (h0 : 0 ≤ w) (h1 : w < 4096) : getE now [entC l w] [.str sA, .int .i64 1] = if now < w + 4 then some (entC l w) else none := by
  unfold getE hit
  rw [List.find?_cons, entC_q, entC_until h0 h1]
  split
  · rename_i h
    simp only [Bool.not_false, Bool.true_and, Bool.not_eq_true', decide_eq_false_iff_not] at h
    rw [if_pos (by omega)]
  · rename_i h
    simp only [Bool.not_false, Bool.true_and, Bool.not_eq_false', decide_eq_true_eq] at h
    rw [if_neg (by omega)]
    rfl
theorem entC_ok {l : List (List C)} {w : Int} (h30 : l.length ≤ 30) : (Nat.ble [entC l w].length 1000000 && [entC l w].all fun e => Nat.ble (cl e 3).toL.length 1000000) = true := by
  rw [List.all_cons, List.all_nil, Bool.and_true]
  show (Nat.ble 1 1000000 && Nat.ble (recs l).length 1000000) = true
  rw [recs_len, Bool.and_eq_true, Nat.ble_eq, Nat.ble_eq]
  omega
theorem recs_name {l : List (List C)} {e : List C} {now : Int} {i : Nat} {x : List C} (h : l[i]? = some x) : ((recs l).map (ageR now e))[i]? = some (ageR now e (recA i (tI x))) := by
  rw [List.getElem?_map, recs_get h]
  rfl
theorem f6_L35 (n : Nat) (k : X → St → Option R) (l es : List (List C)) (w size q1 : Int) (q0 : ByteArray) (h0 : 0 ≤ w) (h1 : w < 4096) (h30 : l.length ≤ 30) (m : Nat) (hm : l.length < m) :
    evLoop false (f6_s35 n) m (f6_h35 l w l.length 0 size es q0 q1 ((recs l).map (ageR (3 + w) (entC l w)))) k = k (X.exit 6) (f6_x35_6 w size es q0 q1 ((recs l).map (ageR (3 + w) (entC l w)))) := by
  have hlen : ((recs l).map (ageR (3 + w) (entC l w))).length = l.length := by rw [List.length_map, recs_len]
  exact fold_loop (xs := l) (L := fun m i (_ : Unit) => evLoop false (f6_s35 n) m (f6_h35 l w l.length i size es q0 q1 ((recs l).map (ageR (3 + w) (entC l w)))) k) (f := fun _ _ => ()) (E := fun _ => k (X.exit 6) (f6_x35_6 w size es q0 q1 ((recs l).map (ageR (3 + w) (entC l w))))) (fun _ _ => True)
    (fun m i _ x hx hlt _ => by
      show evLoop false (f6_s35 n) (m + 1) _ k = evLoop false (f6_s35 n) m _ k
      have hr := tI_rng x
      have e2 : (cl (ageR (3 + w) (entC l w) (recA i (tI x))) 2).toI = if (0 : Int) > tI x - w then (0 : Int) else tI x - w := by
        show (if (0 : Int) > IntKind.i64.wrap (tI x - IntKind.i64.wrap (3 + w - 3)) then (0 : Int) else IntKind.i64.wrap (tI x - IntKind.i64.wrap (3 + w - 3))) = _
        rw [wrap_ok (a := 3 + w - 3) (by omega) (by omega), show 3 + w - 3 = w from by omega, wrap_ok (by omega) (by omega)]
      have e0 : (cl (ageR (3 + w) (entC l w) (recA i (tI x))) 0).toS = sA := rfl
      rw [f6_t35]
      simp only [lt_nat, inB_nat, Int.toNat_natCast, hlen, el_get hx, el_get (recs_name (e := entC l w) (now := 3 + w) hx), wrap_succ (i := i) (by omega), hlt, decide_true, bcond_t, iand_FFF, e0, e2]
      rw [show (cl x 0).toI % 4096 = tI x from rfl, wrap_ok (a := tI x - w) (by omega) (by omega)]
      rw [bcond_no (by show (!(sA.toList == sA.toList)) = false; simp), bcond_no (by simp)])
    (fun _ _ _ _ _ _ => trivial)
    (fun m _ _ => by
      show evLoop false (f6_s35 n) (m + 1) _ k = _
      rw [f6_t35, lt_nat, bcond_no (by simp)])
    l.length 0 () m (by omega) hm trivial

theorem f6_out (n : Nat) (hn : 100 ≤ n) (l : List (List C)) (w : Int) : evFn tab FE oY false lv6 false n Try.f6 [.one (.c (.sl 3 l)), .one (.c (.int .i64 w))] [] = some (.one (.c (.bool true)), []) := by
  rw [f6_eq]
  cases h1 : decide ((l.length : Int) > 30) with
  | true => rfl
  | false =>
    simp only [decide_eq_false_iff_not] at h1
    have h30 : l.length ≤ 30 := by omega
    have hrl := recs_len l
    rw [bcond_f, f6_L8 n _ l w h30 n (by omega), f6_a8_0, bcond_of (by rw [Nat.ble_eq]; omega), bcond_no (by simp), bcond_of (by rw [Bool.and_eq_true, Nat.ble_eq, Nat.ble_eq]; omega)]
    obtain ⟨u, hu⟩ : ∃ u, u = iand .i64 w 4095 := ⟨_, rfl⟩
    have hur : 0 ≤ u ∧ u < 4096 := by rw [hu, iand_FFF]; exact ⟨Int.emod_nonneg _ (by decide), Int.emod_lt_of_pos _ (by decide)⟩
    rw [← hu, wrap_ok (a := u + 1) (by omega) (by omega), putR_nil (by decide) (by omega)]
    have he : mkE 3 (C.str (ByteArray.mk #[(97 : UInt8)])) (C.int IntKind.i64 (1 : Int)) 5 (recs l) (u + 1) = entC l u := rfl
    have hs : ByteArray.mk #[(97 : UInt8)] = sA := rfl
    rw [he, hs, f6_L21 n _ l (recs l) _ u _ _ _ (by omega) n (by omega), f6_a21_2, bcond_of (entC_ok h30), entC_get hur.1 hur.2, if_pos (by omega)]
    rw [bcond_of (b := (some (entC l u)).isSome) rfl]
    have hl3 : ∀ now, getL now (some (entC l u)) = (recs l).map (ageR now (entC l u)) := fun _ => rfl
    have hl4 : ∀ now, ((recs l).map (ageR now (entC l u))).length = l.length := fun _ => by rw [List.length_map, recs_len]
    rw [hl3, f6_L27 n _ l _ _ u _ _ _ (by rw [hl4]; omega) n (by rw [hl4]; omega), f6_a27_4, bcond_of (entC_ok h30), wrap_ok (a := 3 + u) (by omega) (by omega), entC_get hur.1 hur.2, if_pos (by omega)]
    rw [bcond_of (b := (some (entC l u)).isSome) rfl, hl3, hl4]
    rw [bcond_no (by show ((5 : Int) != 5) = false; rfl), bcond_no (by simp), f6_L35 n _ l _ u _ _ _ hur.1 hur.2 h30 n (by omega), f6_a35_6, bcond_of (entC_ok h30), wrap_ok (a := 4 + u) (by omega) (by omega), entC_get hur.1 hur.2, if_neg (by omega)]
    rfl
theorem law_CacheCopies : ∀ xs, All2 (ArgOk tab) [40, 3] xs → FnAt Try.prog tab 6 (List.zipWith (argV tab) [40, 3] xs) [] (.one (.c (.bool true))) [] := by
  intro xs h
  match xs, h with
  | [x, y], h =>
    obtain ⟨l, rfl⟩ := wk_sl h.1.1
    obtain ⟨b, rfl⟩ := wk_int h.2.1.1
    exact fn6 sFE rfl (f6_out 100 (by omega) l b)

end Go.Proofs.Ytacklcdhfoedlaa
