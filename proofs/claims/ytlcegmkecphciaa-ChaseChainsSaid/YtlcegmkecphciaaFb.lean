/- Fb -/
import Derived.Test.YtlcegmkecphciaaFa
import Derived.KernelRfl
namespace Go.Proofs.Ytlcegmkecphciaa
open Go Go.Eng
set_option maxRecDepth 100000
def FA : Fun := mkF [(14, e14), (16, e16)]
theorem sFA : FSound Try.prog tab FA := mkF_sound (fun p hp => by
  simp only [List.mem_cons, List.not_mem_nil, or_false] at hp
  rcases hp with rfl | rfl
  · exact es14
  · exact es16)

noncomputable abbrev f9_c6 : Code := (loops (body Try.f9)).getD 0 .skip
noncomputable abbrev f9_s6 (n : Nat) : St → (X → St → Option R) → Option R := fun st k => evCode tab FA nO lv9 false n f9_c6 st k
noncomputable abbrev f9_k6 (n : Nat) : X → St → Option R := after tab FA nO lv9 false n (body Try.f9) 0 (endK tab false Try.f9)
abbrev f9_h6 (s3 : ByteArray) (s4 : Int) (s21 : Int) (b1 : List C) (b2_0 : Int) (b2_1 : List (List C)) (b2_2 : ByteArray) (b2_3 : Int) (b2_2_8 : List (List C)) : St := { t := [((1 : Nat), V.one (A.ptr (Key.loc (1 : Nat) (0 : Nat)) (0 : Nat) (0 : Nat))), ((2 : Nat), V.one (A.ptr (Key.loc (2 : Nat) (0 : Nat)) (0 : Nat) (0 : Nat))), ((3 : Nat), V.one (A.c (C.str s3))), ((4 : Nat), V.one (A.c (C.int IntKind.i64 s4))), ((21 : Nat), V.one (A.c (C.int IntKind.i64 s21)))], h := [(Key.loc (1 : Nat) (0 : Nat), (0 : Nat), B.box (27 : Nat) b1 []), (Key.loc (2 : Nat) (0 : Nat), (0 : Nat), B.box (35 : Nat) [C.int IntKind.i64 b2_0, C.sl (33 : Nat) b2_1, C.str b2_2, C.int IntKind.i64 b2_3] [((1 : Nat), A.own (Key.loc (2 : Nat) (2 : Nat)) (0 : Nat) (33 : Nat))]), (Key.loc (2 : Nat) (2 : Nat), (0 : Nat), B.arr (33 : Nat) true b2_2_8)] }
noncomputable abbrev f9_c10 : Code := (loops (f9_c6)).getD 0 .skip
noncomputable abbrev f9_s10 (n : Nat) : St → (X → St → Option R) → Option R := fun st k => evCode tab FA nO lv9 false n f9_c10 st k
noncomputable abbrev f9_k10 (n m : Nat) (k : X → St → Option R) : X → St → Option R := after tab FA nO lv9 false n f9_c6 0 (backK false (f9_s6 n) m k)
abbrev f9_h10 (s3 : ByteArray) (s4 : Int) (s6 : ByteArray) (s21 : Int) (s24 : List (List C)) (s25 : Int) (s26 : Int) (b1 : List C) (b2_0 : Int) (b2_1 : List (List C)) (b2_2 : ByteArray) (b2_3 : Int) (b2_2_12 : List (List C)) (b5 : List (List C)) : St := { t := [((1 : Nat), V.one (A.ptr (Key.loc (1 : Nat) (0 : Nat)) (0 : Nat) (0 : Nat))), ((2 : Nat), V.one (A.ptr (Key.loc (2 : Nat) (0 : Nat)) (0 : Nat) (0 : Nat))), ((3 : Nat), V.one (A.c (C.str s3))), ((4 : Nat), V.one (A.c (C.int IntKind.i64 s4))), ((5 : Nat), V.one (A.own (Key.loc (5 : Nat) (0 : Nat)) (0 : Nat) (33 : Nat))), ((6 : Nat), V.one (A.c (C.str s6))), ((21 : Nat), V.one (A.c (C.int IntKind.i64 s21))), ((24 : Nat), V.one (A.c (C.sl (33 : Nat) s24))), ((25 : Nat), V.one (A.c (C.int IntKind.i64 s25))), ((26 : Nat), V.one (A.c (C.int IntKind.i64 s26)))], h := [(Key.loc (1 : Nat) (0 : Nat), (0 : Nat), B.box (27 : Nat) b1 []), (Key.loc (2 : Nat) (0 : Nat), (0 : Nat), B.box (35 : Nat) [C.int IntKind.i64 b2_0, C.sl (33 : Nat) b2_1, C.str b2_2, C.int IntKind.i64 b2_3] [((1 : Nat), A.own (Key.loc (2 : Nat) (2 : Nat)) (0 : Nat) (33 : Nat))]), (Key.loc (2 : Nat) (2 : Nat), (0 : Nat), B.arr (33 : Nat) true b2_2_12), (Key.loc (5 : Nat) (0 : Nat), (0 : Nat), B.arr (33 : Nat) true b5)] }
abbrev f9_x10_2 (s3 : ByteArray) (s4 : Int) (s6 : ByteArray) (s21 : Int) (b1 : List C) (b2_0 : Int) (b2_1 : List (List C)) (b2_2 : ByteArray) (b2_3 : Int) (b2_2_9 : List (List C)) (b5 : List (List C)) : St := { t := [((1 : Nat), V.one (A.ptr (Key.loc (1 : Nat) (0 : Nat)) (0 : Nat) (0 : Nat))), ((2 : Nat), V.one (A.ptr (Key.loc (2 : Nat) (0 : Nat)) (0 : Nat) (0 : Nat))), ((3 : Nat), V.one (A.c (C.str s3))), ((4 : Nat), V.one (A.c (C.int IntKind.i64 s4))), ((5 : Nat), V.one (A.own (Key.loc (5 : Nat) (0 : Nat)) (0 : Nat) (33 : Nat))), ((6 : Nat), V.one (A.c (C.str s6))), ((21 : Nat), V.one (A.c (C.int IntKind.i64 s21)))], h := [(Key.loc (1 : Nat) (0 : Nat), (0 : Nat), B.box (27 : Nat) b1 []), (Key.loc (2 : Nat) (0 : Nat), (0 : Nat), B.box (35 : Nat) [C.int IntKind.i64 b2_0, C.sl (33 : Nat) b2_1, C.str b2_2, C.int IntKind.i64 b2_3] [((1 : Nat), A.own (Key.loc (2 : Nat) (2 : Nat)) (0 : Nat) (33 : Nat))]), (Key.loc (2 : Nat) (2 : Nat), (0 : Nat), B.arr (33 : Nat) true b2_2_9), (Key.loc (5 : Nat) (0 : Nat), (0 : Nat), B.arr (33 : Nat) true b5)] }
abbrev f9_x6_0 (s3 : ByteArray) (s4 : Int) (b1 : List C) (b2_0 : Int) (b2_1 : List (List C)) (b2_2 : ByteArray) (b2_3 : Int) (b2_2_7 : List (List C)) : St := { t := [((1 : Nat), V.one (A.ptr (Key.loc (1 : Nat) (0 : Nat)) (0 : Nat) (0 : Nat))), ((2 : Nat), V.one (A.ptr (Key.loc (2 : Nat) (0 : Nat)) (0 : Nat) (0 : Nat))), ((3 : Nat), V.one (A.c (C.str s3))), ((4 : Nat), V.one (A.c (C.int IntKind.i64 s4)))], h := [(Key.loc (1 : Nat) (0 : Nat), (0 : Nat), B.box (27 : Nat) b1 []), (Key.loc (2 : Nat) (0 : Nat), (0 : Nat), B.box (35 : Nat) [C.int IntKind.i64 b2_0, C.sl (33 : Nat) b2_1, C.str b2_2, C.int IntKind.i64 b2_3] [((1 : Nat), A.own (Key.loc (2 : Nat) (2 : Nat)) (0 : Nat) (33 : Nat))]), (Key.loc (2 : Nat) (2 : Nat), (0 : Nat), B.arr (33 : Nat) true b2_2_7)] }
abbrev f9_x6_r (b1 : List C) (b2_0 : Int) (b2_1 : List (List C)) (b2_2 : ByteArray) (b2_3 : Int) (b2_2_5 : List (List C)) (b5 : List (List C)) : St := { t := [((2 : Nat), V.one (A.ptr (Key.loc (2 : Nat) (0 : Nat)) (0 : Nat) (0 : Nat)))], h := [(Key.loc (1 : Nat) (0 : Nat), (0 : Nat), B.box (27 : Nat) b1 []), (Key.loc (2 : Nat) (0 : Nat), (0 : Nat), B.box (35 : Nat) [C.int IntKind.i64 b2_0, C.sl (33 : Nat) b2_1, C.str b2_2, C.int IntKind.i64 b2_3] []), (Key.loc (2 : Nat) (2 : Nat), (0 : Nat), B.arr (33 : Nat) true b2_2_5), (Key.loc (5 : Nat) (0 : Nat), (0 : Nat), B.froz (33 : Nat) b5)] }
abbrev f9_x6_0v1 (s3 : ByteArray) (s4 : Int) (b1 : List C) (b2_0 : Int) (b2_1 : List (List C)) (b2_2 : ByteArray) (b2_3 : Int) (b2_2_7 : List (List C)) (b5 : List (List C)) : St := { t := [((1 : Nat), V.one (A.ptr (Key.loc (1 : Nat) (0 : Nat)) (0 : Nat) (0 : Nat))), ((2 : Nat), V.one (A.ptr (Key.loc (2 : Nat) (0 : Nat)) (0 : Nat) (0 : Nat))), ((3 : Nat), V.one (A.c (C.str s3))), ((4 : Nat), V.one (A.c (C.int IntKind.i64 s4)))], h := [(Key.loc (1 : Nat) (0 : Nat), (0 : Nat), B.box (27 : Nat) b1 []), (Key.loc (2 : Nat) (0 : Nat), (0 : Nat), B.box (35 : Nat) [C.int IntKind.i64 b2_0, C.sl (33 : Nat) b2_1, C.str b2_2, C.int IntKind.i64 b2_3] [((1 : Nat), A.own (Key.loc (2 : Nat) (2 : Nat)) (0 : Nat) (33 : Nat))]), (Key.loc (2 : Nat) (2 : Nat), (0 : Nat), B.arr (33 : Nat) true b2_2_7), (Key.loc (5 : Nat) (0 : Nat), (0 : Nat), B.arr (33 : Nat) true b5)] }
theorem f9_t6 (n m : Nat) (k : X → St → Option R) (s3 : ByteArray) (s4 : Int) (s21 : Int) (b1 : List C) (b2_0 : Int) (b2_1 : List (List C)) (b2_2 : ByteArray) (b2_3 : Int) (b2_2_8 : List (List C)) : evLoop false (f9_s6 n) (m + 1) (f9_h6 s3 s4 s21 b1 b2_0 b2_1 b2_2 b2_3 b2_2_8) k = bcond (decide (s21 < (8 : Int))) (evLoop false (f9_s10 n) n (f9_h10 (s3) (s4) ((ByteArray.mk #[])) (s21) ((cl b1 (7 : Nat)).toL) ((↑(cl b1 (7 : Nat)).toL.length : Int)) ((0 : Int)) (b1) (b2_0) (b2_1) (b2_2) (b2_3) (b2_2_8) ([])) (f9_k10 n m k)) (k (X.exit 0) (f9_x6_0 (s3) (s4) (b1) (b2_0) (b2_1) (b2_2) (b2_3) (b2_2_8))) := by kernel_rfl
theorem f9_t10 (n m : Nat) (k : X → St → Option R) (s3 : ByteArray) (s4 : Int) (s6 : ByteArray) (s21 : Int) (s24 : List (List C)) (s25 : Int) (s26 : Int) (b1 : List C) (b2_0 : Int) (b2_1 : List (List C)) (b2_2 : ByteArray) (b2_3 : Int) (b2_2_12 : List (List C)) (b5 : List (List C)) : evLoop false (f9_s10 n) (m + 1) (f9_h10 s3 s4 s6 s21 s24 s25 s26 b1 b2_0 b2_1 b2_2 b2_3 b2_2_12 b5) k = bcond (decide (s26 < s25)) (bcond (inB s26 s24.length) (bcond (!(cl (el s24 s26.toNat) (0 : Nat)).toS.toList == s3.toList) (evLoop false (f9_s10 n) m (f9_h10 (s3) (s4) (s6) (s21) (s24) (s25) (IntKind.i64.wrap (s26 + (1 : Int))) (b1) (b2_0) (b2_1) (b2_2) (b2_3) (b2_2_12) (b5)) k) (bcond ((cl (el s24 s26.toNat) (1 : Nat)).toI == (cl b1 (6 : Nat)).toI) (bcond (roomOk (b5.length + [el s24 s26.toNat].length) (80 : Nat)) (evLoop false (f9_s10 n) m (f9_h10 (s3) (s4) (s6) (s21) (s24) (s25) (IntKind.i64.wrap (s26 + (1 : Int))) (b1) (b2_0) (b2_1) (b2_2) (b2_3) (b2_2_12) (b5 ++ [el s24 s26.toNat])) k) (none)) (bcond ((cl (el s24 s26.toNat) (1 : Nat)).toI == (5 : Int)) (bcond (s6.toList == (ByteArray.mk #[]).toList) (evLoop false (f9_s10 n) m (f9_h10 (s3) (if (cl (el s24 s26.toNat) (2 : Nat)).toI < s4 then (cl (el s24 s26.toNat) (2 : Nat)).toI else s4) ((cl (el s24 s26.toNat) (19 : Nat)).toS) (s21) (s24) (s25) (IntKind.i64.wrap (s26 + (1 : Int))) (b1) (b2_0) (b2_1) (b2_2) (b2_3) (b2_2_12) (b5)) k) (evLoop false (f9_s10 n) m (f9_h10 (s3) (s4) (s6) (s21) (s24) (s25) (IntKind.i64.wrap (s26 + (1 : Int))) (b1) (b2_0) (b2_1) (b2_2) (b2_3) (b2_2_12) (b5)) k)) (evLoop false (f9_s10 n) m (f9_h10 (s3) (s4) (s6) (s21) (s24) (s25) (IntKind.i64.wrap (s26 + (1 : Int))) (b1) (b2_0) (b2_1) (b2_2) (b2_3) (b2_2_12) (b5)) k)))) (none)) (k (X.exit 2) (f9_x10_2 (s3) (s4) (s6) (s21) (b1) (b2_0) (b2_1) (b2_2) (b2_3) (b2_2_12) (b5))) := by kernel_rfl
theorem f9_a10_2 (n m : Nat) (k : X → St → Option R) (s3 : ByteArray) (s4 : Int) (s6 : ByteArray) (s21 : Int) (b1 : List C) (b2_0 : Int) (b2_1 : List (List C)) (b2_2 : ByteArray) (b2_3 : Int) (b2_2_9 : List (List C)) (b5 : List (List C)) : f9_k10 n m k (X.exit 2) (f9_x10_2 s3 s4 s6 s21 b1 b2_0 b2_1 b2_2 b2_3 b2_2_9 b5) = bcond (decide ((↑b5.length : Int) > (0 : Int))) (bcond (b5.length.ble (1000000 : Nat)) (k X.ret (f9_x6_r (b1) ((1 : Int)) (b5) ((ByteArray.mk #[])) (if ttlOf b5 < s4 then ttlOf b5 else s4) (b2_2_9) (b5))) (none)) (bcond (s6.toList == (ByteArray.mk #[]).toList) (k (X.exit 0) (f9_x6_0v1 (s3) (s4) (b1) (b2_0) (b2_1) (b2_2) (b2_3) (b2_2_9) (b5))) (evLoop false (f9_s6 n) m (f9_h6 (s6) (s4) (IntKind.i64.wrap (s21 + (1 : Int))) (b1) (b2_0) (b2_1) (b2_2) (b2_3) (b2_2_9)) k)) := by kernel_rfl
theorem f9_a6_0 (n : Nat) (s3 : ByteArray) (s4 : Int) (b1 : List C) (b2_0 : Int) (b2_1 : List (List C)) (b2_2 : ByteArray) (b2_3 : Int) (b2_2_7 : List (List C)) : f9_k6 n (X.exit 0) (f9_x6_0 s3 s4 b1 b2_0 b2_1 b2_2 b2_3 b2_2_7) = bcond (!s3.toList == (cl b1 (5 : Nat)).toS.toList) (bcond ((cl b1 (4 : Nat)).toI == (0 : Int)) (some ((V.agg (35 : Nat) [C.int IntKind.i64 (0 : Int), C.sl (33 : Nat) [], C.str s3, C.int IntKind.i64 s4] [], []))) (bcond ((cl b1 (4 : Nat)).toI == (0 : Int)) (bcond ((cl b1 (8 : Nat)).toL.length.ble (1000000 : Nat)) (some ((V.agg (35 : Nat) [C.int IntKind.i64 (5 : Int), C.sl (33 : Nat) [], C.str (ByteArray.mk #[]), C.int IntKind.i64 (negOf (cl b1 (8 : Nat)).toL)] [], []))) (none)) (bcond ((cl b1 (8 : Nat)).toL.length.ble (1000000 : Nat)) (some ((V.agg (35 : Nat) [C.int IntKind.i64 (2 : Int), C.sl (33 : Nat) [], C.str (ByteArray.mk #[]), C.int IntKind.i64 (negOf (cl b1 (8 : Nat)).toL)] [], []))) (none)))) (bcond ((cl b1 (4 : Nat)).toI == (0 : Int)) (bcond ((cl b1 (8 : Nat)).toL.length.ble (1000000 : Nat)) (some ((V.agg (35 : Nat) [C.int IntKind.i64 (5 : Int), C.sl (33 : Nat) [], C.str (ByteArray.mk #[]), C.int IntKind.i64 (negOf (cl b1 (8 : Nat)).toL)] [], []))) (none)) (bcond ((cl b1 (8 : Nat)).toL.length.ble (1000000 : Nat)) (some ((V.agg (35 : Nat) [C.int IntKind.i64 (2 : Int), C.sl (33 : Nat) [], C.str (ByteArray.mk #[]), C.int IntKind.i64 (negOf (cl b1 (8 : Nat)).toL)] [], []))) (none))) := by kernel_rfl
theorem f9_a6_r (n : Nat) (b1 : List C) (b2_0 : Int) (b2_1 : List (List C)) (b2_2 : ByteArray) (b2_3 : Int) (b2_2_5 : List (List C)) (b5 : List (List C)) : f9_k6 n X.ret (f9_x6_r b1 b2_0 b2_1 b2_2 b2_3 b2_2_5 b5) = some ((V.agg (35 : Nat) [C.int IntKind.i64 b2_0, C.sl (33 : Nat) b2_1, C.str b2_2, C.int IntKind.i64 b2_3] [], [])) := by kernel_rfl
theorem f9_a6_0v1 (n : Nat) (s3 : ByteArray) (s4 : Int) (b1 : List C) (b2_0 : Int) (b2_1 : List (List C)) (b2_2 : ByteArray) (b2_3 : Int) (b2_2_7 : List (List C)) (b5 : List (List C)) : f9_k6 n (X.exit 0) (f9_x6_0v1 s3 s4 b1 b2_0 b2_1 b2_2 b2_3 b2_2_7 b5) = bcond (!s3.toList == (cl b1 (5 : Nat)).toS.toList) (bcond ((cl b1 (4 : Nat)).toI == (0 : Int)) (some ((V.agg (35 : Nat) [C.int IntKind.i64 (0 : Int), C.sl (33 : Nat) [], C.str s3, C.int IntKind.i64 s4] [], []))) (bcond ((cl b1 (4 : Nat)).toI == (0 : Int)) (bcond ((cl b1 (8 : Nat)).toL.length.ble (1000000 : Nat)) (some ((V.agg (35 : Nat) [C.int IntKind.i64 (5 : Int), C.sl (33 : Nat) [], C.str (ByteArray.mk #[]), C.int IntKind.i64 (negOf (cl b1 (8 : Nat)).toL)] [], []))) (none)) (bcond ((cl b1 (8 : Nat)).toL.length.ble (1000000 : Nat)) (some ((V.agg (35 : Nat) [C.int IntKind.i64 (2 : Int), C.sl (33 : Nat) [], C.str (ByteArray.mk #[]), C.int IntKind.i64 (negOf (cl b1 (8 : Nat)).toL)] [], []))) (none)))) (bcond ((cl b1 (4 : Nat)).toI == (0 : Int)) (bcond ((cl b1 (8 : Nat)).toL.length.ble (1000000 : Nat)) (some ((V.agg (35 : Nat) [C.int IntKind.i64 (5 : Int), C.sl (33 : Nat) [], C.str (ByteArray.mk #[]), C.int IntKind.i64 (negOf (cl b1 (8 : Nat)).toL)] [], []))) (none)) (bcond ((cl b1 (8 : Nat)).toL.length.ble (1000000 : Nat)) (some ((V.agg (35 : Nat) [C.int IntKind.i64 (2 : Int), C.sl (33 : Nat) [], C.str (ByteArray.mk #[]), C.int IntKind.i64 (negOf (cl b1 (8 : Nat)).toL)] [], []))) (none))) := by kernel_rfl
theorem f9_eq (n : Nat) (x : List C) : evFn tab FA nO false lv9 false n Try.f9 [.agg 27 x []] [] = bcond ((cl x (4 : Nat)).toI != (0 : Int)) (bcond ((cl x (4 : Nat)).toI != (3 : Int)) (some ((V.agg (35 : Nat) [C.int IntKind.i64 (4 : Int), C.sl (33 : Nat) [], C.str (ByteArray.mk #[]), C.int IntKind.i64 (0 : Int)] [], []))) (evLoop false (f9_s6 n) n (f9_h6 ((cl x (5 : Nat)).toS) ((1048576 : Int)) ((0 : Int)) (x) ((0 : Int)) ([]) ((ByteArray.mk #[])) ((0 : Int)) ([])) (f9_k6 n))) (evLoop false (f9_s6 n) n (f9_h6 ((cl x (5 : Nat)).toS) ((1048576 : Int)) ((0 : Int)) (x) ((0 : Int)) ([]) ((ByteArray.mk #[])) ((0 : Int)) ([])) (f9_k6 n)) := by kernel_rfl


def emp : ByteArray := ByteArray.mk #[]
/-- One record, scanned: how long it counts, where it leads, what was found. -/
def scan (nm : ByteArray) (qt : Int) (s : Int × ByteArray × List (List C)) (r : List C) : Int × ByteArray × List (List C) :=
  if (!((cl r 0).toS.toList == nm.toList)) = true then s
  else if ((cl r 1).toI == qt) = true then (s.1, s.2.1, s.2.2 ++ [r])
  else if ((cl r 1).toI == 5) = true then (if (s.2.1.toList == emp.toList) = true then (if (cl r 2).toI < s.1 then (cl r 2).toI else s.1, (cl r 19).toS, s.2.2) else s)
  else s
def finding (o : Int) (l : List (List C)) (nx : ByteArray) (t : Int) : List C := [.int .i64 o, .sl 33 l, .str nx, .int .i64 t]
def ofNo (code : Int) (au : List (List C)) : List C := if (code == 0) = true then finding 5 [] emp (negOf au) else finding 2 [] emp (negOf au)
def ofEnd (code : Int) (qn : ByteArray) (au : List (List C)) (nm : ByteArray) (a : Int) : List C :=
  if (!(nm.toList == qn.toList)) = true then (if (code == 0) = true then finding 0 [] nm a else ofNo code au) else ofNo code au
def ofGo (code qt : Int) (qn : ByteArray) (ans au : List (List C)) : Nat → ByteArray → Int → List C
  | 0, nm, a => ofEnd code qn au nm a
  | j + 1, nm, a =>
    let s := ans.foldl (scan nm qt) (a, emp, [])
    if decide ((s.2.2.length : Int) > 0) = true then finding 1 s.2.2 emp (if ttlOf s.2.2 < s.1 then ttlOf s.2.2 else s.1)
    else if (s.2.1.toList == emp.toList) = true then ofEnd code qn au nm s.1 else ofGo code qt qn ans au j s.2.1 s.1
/-- What a message says of its question. -/
@[irreducible] def ofX (code : Int) (qn : ByteArray) (qt : Int) (ans au : List (List C)) : List C :=
  if (code != 0) = true then (if (code != 3) = true then finding 4 [] emp 0 else ofGo code qt qn ans au 8 qn 1048576) else ofGo code qt qn ans au 8 qn 1048576

theorem scan_len (nm : ByteArray) (qt : Int) (s : Int × ByteArray × List (List C)) (r : List C) : (scan nm qt s r).2.2.length ≤ s.2.2.length + 1 := by
  unfold scan
  split
  · omega
  · split
    · simp
    · split
      · split <;> simp
      · omega
theorem fold_len (nm : ByteArray) (qt : Int) : ∀ (l : List (List C)) (s : Int × ByteArray × List (List C)), (l.foldl (scan nm qt) s).2.2.length ≤ s.2.2.length + l.length
  | [], s => by simp
  | r :: l, s => by
    rw [List.foldl_cons]
    have h1 := fold_len nm qt l (scan nm qt s r)
    have h2 := scan_len nm qt s r
    simp only [List.length_cons]
    omega

theorem f9_L10 (n : Nat) (k : X → St → Option R) (nm : ByteArray) (a : Int) (j : Int) (x l : List C) (ans : List (List C)) (f0 : Int) (f1 : List (List C)) (f2 : ByteArray) (f3 : Int) (o : List (List C)) (hl : ans.length ≤ 1000000) (m : Nat) (hm : ans.length < m) :
    evLoop false (f9_s10 n) m (f9_h10 nm a emp j ans ans.length 0 x f0 f1 f2 f3 o []) k =
      k (X.exit 2) (f9_x10_2 nm (ans.foldl (scan nm (cl x 6).toI) (a, emp, [])).1 (ans.foldl (scan nm (cl x 6).toI) (a, emp, [])).2.1 j x f0 f1 f2 f3 o (ans.foldl (scan nm (cl x 6).toI) (a, emp, [])).2.2) :=
  fold_loop (xs := ans) (L := fun m i (s : Int × ByteArray × List (List C)) => evLoop false (f9_s10 n) m (f9_h10 nm s.1 s.2.1 j ans ans.length i x f0 f1 f2 f3 o s.2.2) k)
    (f := scan nm (cl x 6).toI) (E := fun s => k (X.exit 2) (f9_x10_2 nm s.1 s.2.1 j x f0 f1 f2 f3 o s.2.2)) (fun i s => s.2.2.length ≤ i)
    (fun m i s r hx hlt hI => by
      show evLoop false (f9_s10 n) (m + 1) _ k = evLoop false (f9_s10 n) m _ k
      have hr : roomOk (s.2.2.length + [r].length) 80 = true := roomOk_of (by simp; omega) (by simp; omega)
      rw [f9_t10]
      simp only [lt_nat, inB_nat, Int.toNat_natCast, el_get hx, wrap_succ (i := i) (by omega), hlt, decide_true, bcond_t, hr]
      unfold scan
      show bcond (!((cl r 0).toS.toList == nm.toList)) _ _ = _
      cases (!((cl r 0).toS.toList == nm.toList)) with
      | true => rfl
      | false =>
        rw [bcond_f, if_neg Bool.false_ne_true]
        cases ((cl r 1).toI == (cl x 6).toI) with
        | true => rfl
        | false =>
          rw [bcond_f, if_neg Bool.false_ne_true]
          cases ((cl r 1).toI == 5) with
          | true =>
            rw [bcond_t, if_pos rfl]
            show bcond (s.2.1.toList == emp.toList) _ _ = _
            cases (s.2.1.toList == emp.toList) with
            | true => rfl
            | false => rfl
          | false => rfl)
    (fun i s r hx hlt hI => by
      have := scan_len nm (cl x 6).toI s r
      omega)
    (fun m s hI => by
      show evLoop false (f9_s10 n) (m + 1) _ k = _
      rw [f9_t10, lt_nat, bcond_no (by simp)])
    ans.length 0 (a, emp, []) m (by omega) hm (by simp)

theorem f9_end (n : Nat) (x : List C) (hau : (cl x 8).toL.length ≤ 1000000) (nm : ByteArray) (a : Int) :
    (bcond (!(nm.toList == (cl x 5).toS.toList)) (bcond ((cl x 4).toI == 0) (some ((V.agg 35 [C.int IntKind.i64 0, C.sl 33 [], C.str nm, C.int IntKind.i64 a] [], [])))
        (bcond ((cl x 4).toI == 0) (bcond (Nat.ble (cl x 8).toL.length 1000000) (some ((V.agg 35 [C.int IntKind.i64 5, C.sl 33 [], C.str (ByteArray.mk #[]), C.int IntKind.i64 (negOf (cl x 8).toL)] [], []))) none) (bcond (Nat.ble (cl x 8).toL.length 1000000) (some ((V.agg 35 [C.int IntKind.i64 2, C.sl 33 [], C.str (ByteArray.mk #[]), C.int IntKind.i64 (negOf (cl x 8).toL)] [], []))) none)))
      (bcond ((cl x 4).toI == 0) (bcond (Nat.ble (cl x 8).toL.length 1000000) (some ((V.agg 35 [C.int IntKind.i64 5, C.sl 33 [], C.str (ByteArray.mk #[]), C.int IntKind.i64 (negOf (cl x 8).toL)] [], []))) none) (bcond (Nat.ble (cl x 8).toL.length 1000000) (some ((V.agg 35 [C.int IntKind.i64 2, C.sl 33 [], C.str (ByteArray.mk #[]), C.int IntKind.i64 (negOf (cl x 8).toL)] [], []))) none))) =
      some (V.agg 35 (ofEnd (cl x 4).toI (cl x 5).toS (cl x 8).toL nm a) [], []) := by
  have hb : Nat.ble (cl x 8).toL.length 1000000 = true := by rw [Nat.ble_eq]; exact hau
  rw [hb]
  unfold ofEnd ofNo
  cases (!(nm.toList == (cl x 5).toS.toList)) <;> cases ((cl x 4).toI == 0) <;> rfl

theorem f9_L6 (n : Nat) (hn : 1000000 < n) (x : List C) (hans : (cl x 7).toL.length ≤ 1000000) (hau : (cl x 8).toL.length ≤ 1000000) : ∀ (d : Nat) (i : Nat) (nm : ByteArray) (a : Int) (m : Nat), i + d = 8 → d < m →
    evLoop false (f9_s6 n) m (f9_h6 nm a i x 0 [] emp 0 []) (f9_k6 n) = some (V.agg 35 (ofGo (cl x 4).toI (cl x 6).toI (cl x 5).toS (cl x 7).toL (cl x 8).toL d nm a) [], [])
  | 0, i, nm, a, m, hi, hm => by
    obtain ⟨m, rfl⟩ : ∃ q, m = q + 1 := ⟨m - 1, by omega⟩
    rw [f9_t6, bcond_no (by simp; omega), f9_a6_0]
    exact f9_end n x hau nm a
  | d + 1, i, nm, a, m, hi, hm => by
    obtain ⟨m, rfl⟩ : ∃ q, m = q + 1 := ⟨m - 1, by omega⟩
    have hb : ∀ l : List (List C), l.length ≤ 1000000 → Nat.ble l.length 1000000 = true := fun l h => by rw [Nat.ble_eq]; exact h
    have hfl := fold_len nm (cl x 6).toI (cl x 7).toL (a, emp, [])
    have hL := f9_L10 n (f9_k10 n m (f9_k6 n)) nm a i x x (cl x 7).toL 0 [] emp 0 [] hans n (by omega)
    rw [f9_t6, bcond_of (by simp; omega)]
    refine hL.trans ?_
    rw [f9_a10_2, ofGo]
    simp only [List.length_nil, Nat.zero_add] at hfl
    generalize (cl x 7).toL.foldl (scan nm (cl x 6).toI) (a, emp, []) = s at hfl ⊢
    cases hp : decide ((s.2.2.length : Int) > 0) with
    | true =>
      rw [bcond_t, bcond_of (hb _ (by omega)), f9_a6_r]
      simp only [if_true]
      rfl
    | false =>
      rw [bcond_f]
      simp only [Bool.false_eq_true, if_false]
      show bcond (s.2.1.toList == emp.toList) _ _ = _
      cases (s.2.1.toList == emp.toList) with
      | true =>
        rw [bcond_t, f9_a6_0v1]
        exact f9_end n x hau nm s.1
      | false =>
        rw [bcond_f, wrap_succ (by omega), if_neg Bool.false_ne_true]
        exact f9_L6 n hn x hans hau d (i + 1) s.2.1 s.1 m (by omega) (by omega)

theorem f9_out (n : Nat) (hn : 1000000 < n) (x : List C) (hans : (cl x 7).toL.length ≤ 1000000) (hau : (cl x 8).toL.length ≤ 1000000) :
    evFn tab FA nO false lv9 false n Try.f9 [.agg 27 x []] [] = some (V.agg 35 (ofX (cl x 4).toI (cl x 5).toS (cl x 6).toI (cl x 7).toL (cl x 8).toL) [], []) := by
  rw [f9_eq]
  unfold ofX
  have h := f9_L6 n hn x hans hau 8 0 (cl x 5).toS 1048576 n (by omega) (by omega)
  cases ((cl x 4).toI != 0) with
  | false => exact h
  | true =>
    cases ((cl x 4).toI != 3) with
    | false => exact h
    | true => rfl
def e9 : En
  | [.agg 27 x []], [], k => bcond (Nat.ble (cl x 7).toL.length 1000000 && Nat.ble (cl x 8).toL.length 1000000) (k (.agg 35 (ofX (cl x 4).toI (cl x 5).toS (cl x 6).toI (cl x 7).toL (cl x 8).toL) []) []) none
  | _, _, _ => none
theorem es9 : ES Try.prog tab 9 e9 := by
  intro args h k x hh
  unfold e9 at hh
  split at hh
  · rename_i y
    cases hb : (Nat.ble (cl y 7).toL.length 1000000 && Nat.ble (cl y 8).toL.length 1000000) with
    | false => rw [hb, bcond_f] at hh; cases hh
    | true =>
      rw [hb, bcond_t] at hh
      rw [Bool.and_eq_true, Nat.ble_eq, Nat.ble_eq] at hb
      exact ⟨_, _, hh, fn9 sFA rfl (f9_out 1000001 (by omega) y hb.1 hb.2)⟩
  · cases hh

end Go.Proofs.Ytlcegmkecphciaa
