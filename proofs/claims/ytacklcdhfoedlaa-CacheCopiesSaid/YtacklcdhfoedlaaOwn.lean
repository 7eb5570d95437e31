/- Own -/
import Derived.Test.YtacklcdhfoedlaaLem
import Derived.KernelRfl
namespace Go.Proofs.Ytacklcdhfoedlaa
open Go Go.Eng
set_option maxRecDepth 100000
def oY : FuncId → Bool := fun f => match f with | 11 => true | 12 => true | 16 => true | _ => false

noncomputable abbrev f16o_c3 : Code := (loops (body Try.f16)).getD 0 .skip
noncomputable abbrev f16o_s3 (n : Nat) : St → (X → St → Option R) → Option R := fun st k => evCode tab nF nO lv16 false n f16o_c3 st k
noncomputable abbrev f16o_k3 (n : Nat) : X → St → Option R := after tab nF nO lv16 false n (body Try.f16) 0 (endK tab false Try.f16)
abbrev f16o_h3 (s3 : Int) (s7 : Int) (s8 : Int) (e0 : List (List C)) : St := { t := [((3 : Nat), V.one (A.c (C.int IntKind.i64 s3))), ((6 : Nat), V.one (A.own (Key.ext (0 : Nat)) (0 : Nat) (32 : Nat))), ((7 : Nat), V.one (A.c (C.int IntKind.i64 s7))), ((8 : Nat), V.one (A.c (C.int IntKind.i64 s8)))], h := [(Key.ext (0 : Nat), (0 : Nat), B.arr (32 : Nat) true e0)] }
abbrev f16o_x3_0 (s3 : Int) (e0 : List (List C)) : St := { t := [((3 : Nat), V.one (A.c (C.int IntKind.i64 s3)))], h := [(Key.ext (0 : Nat), (0 : Nat), B.arr (32 : Nat) true e0)] }
theorem f16o_t3 (n m : Nat) (k : X → St → Option R) (s3 : Int) (s7 : Int) (s8 : Int) (e0 : List (List C)) : evLoop false (f16o_s3 n) (m + 1) (f16o_h3 s3 s7 s8 e0) k = bcond (decide (s8 < s7)) (bcond (inB s8 e0.length) (evLoop false (f16o_s3 n) m (f16o_h3 (if (cl (el e0 s8.toNat) (2 : Nat)).toI < s3 then (cl (el e0 s8.toNat) (2 : Nat)).toI else s3) (s7) (IntKind.i64.wrap (s8 + (1 : Int))) (e0)) k) (none)) (k (X.exit 0) (f16o_x3_0 (s3) (e0))) := by kernel_rfl
theorem f16o_a3_0 (n : Nat) (s3 : Int) (e0 : List (List C)) : f16o_k3 n (X.exit 0) (f16o_x3_0 s3 e0) = some ((V.one (A.c (C.int IntKind.i64 s3)), [(Key.ext (0 : Nat), (0 : Nat), B.arr (32 : Nat) true e0)])) := by kernel_rfl
theorem f16o_eq (n : Nat) (l : List (List C)) : evFn tab nF nO false lv16 false n Try.f16 [.one (.own (.ext 0) 0 32)] [(.ext 0, (0, .arr 32 true l))] = evLoop false (f16o_s3 n) n (f16o_h3 ((1048576 : Int)) ((↑l.length : Int)) ((0 : Int)) (l)) (f16o_k3 n) := by kernel_rfl


noncomputable abbrev f11o_c5 : Code := (loops (body Try.f11)).getD 0 .skip
noncomputable abbrev f11o_s5 (n : Nat) : St → (X → St → Option R) → Option R := fun st k => evCode tab FA nO lv11 false n f11o_c5 st k
noncomputable abbrev f11o_k5 (n : Nat) : X → St → Option R := after tab FA nO lv11 false n (body Try.f11) 0 (endK tab false Try.f11)
abbrev f11o_h5 (s1 : Int) (s3 : Int) (s5 : Int) (s37 : List (List C)) (s38 : Int) (s39 : Int) (e0_0 : Int) (e0_1 : List (List C)) (e1 : List (List C)) (b8_0 : C) (b8_1 : C) (b12 : List (List C)) : St := { t := [((0 : Nat), V.one (A.ptr (Key.ext (0 : Nat)) (0 : Nat) (0 : Nat))), ((1 : Nat), V.one (A.c (C.int IntKind.i64 s1))), ((3 : Nat), V.one (A.c (C.int IntKind.i64 s3))), ((4 : Nat), V.one (A.own (Key.ext (1 : Nat)) (0 : Nat) (32 : Nat))), ((5 : Nat), V.one (A.c (C.int IntKind.i64 s5))), ((8 : Nat), V.one (A.ptr (Key.loc (8 : Nat) (0 : Nat)) (0 : Nat) (0 : Nat))), ((12 : Nat), V.one (A.own (Key.loc (12 : Nat) (0 : Nat)) (0 : Nat) (57 : Nat))), ((37 : Nat), V.one (A.c (C.sl (57 : Nat) s37))), ((38 : Nat), V.one (A.c (C.int IntKind.i64 s38))), ((39 : Nat), V.one (A.c (C.int IntKind.i64 s39)))], h := [(Key.ext (0 : Nat), (0 : Nat), B.box (55 : Nat) [C.int IntKind.i64 e0_0, C.sl (57 : Nat) e0_1] []), (Key.ext (1 : Nat), (0 : Nat), B.arr (32 : Nat) true e1), (Key.loc (8 : Nat) (0 : Nat), (0 : Nat), B.box (26 : Nat) [b8_0, b8_1] []), (Key.loc (12 : Nat) (0 : Nat), (0 : Nat), B.arr (57 : Nat) true b12)] }
abbrev f11o_x5_0 (s1 : Int) (s3 : Int) (s5 : Int) (e0_0 : Int) (e0_1 : List (List C)) (e1 : List (List C)) (b8_0 : C) (b8_1 : C) (b12 : List (List C)) : St := { t := [((0 : Nat), V.one (A.ptr (Key.ext (0 : Nat)) (0 : Nat) (0 : Nat))), ((1 : Nat), V.one (A.c (C.int IntKind.i64 s1))), ((3 : Nat), V.one (A.c (C.int IntKind.i64 s3))), ((4 : Nat), V.one (A.own (Key.ext (1 : Nat)) (0 : Nat) (32 : Nat))), ((5 : Nat), V.one (A.c (C.int IntKind.i64 s5))), ((8 : Nat), V.one (A.ptr (Key.loc (8 : Nat) (0 : Nat)) (0 : Nat) (0 : Nat))), ((12 : Nat), V.one (A.own (Key.loc (12 : Nat) (0 : Nat)) (0 : Nat) (57 : Nat)))], h := [(Key.ext (0 : Nat), (0 : Nat), B.box (55 : Nat) [C.int IntKind.i64 e0_0, C.sl (57 : Nat) e0_1] []), (Key.ext (1 : Nat), (0 : Nat), B.arr (32 : Nat) true e1), (Key.loc (8 : Nat) (0 : Nat), (0 : Nat), B.box (26 : Nat) [b8_0, b8_1] []), (Key.loc (12 : Nat) (0 : Nat), (0 : Nat), B.arr (57 : Nat) true b12)] }
noncomputable abbrev f11o_c13 : Code := (loops (body Try.f11)).getD 1 .skip
noncomputable abbrev f11o_s13 (n : Nat) : St → (X → St → Option R) → Option R := fun st k => evCode tab FA nO lv11 false n f11o_c13 st k
noncomputable abbrev f11o_k13 (n : Nat) : X → St → Option R := after tab FA nO lv11 false n (body Try.f11) 1 (endK tab false Try.f11)
abbrev f11o_h13 (s1 : Int) (s3 : Int) (s5 : Int) (s15 : Int) (s60 : Int) (s61 : Int) (e0_0 : Int) (e0_1 : List (List C)) (e1 : List (List C)) (b8_0 : C) (b8_1 : C) (b12 : List (List C)) : St := { t := [((0 : Nat), V.one (A.ptr (Key.ext (0 : Nat)) (0 : Nat) (0 : Nat))), ((1 : Nat), V.one (A.c (C.int IntKind.i64 s1))), ((3 : Nat), V.one (A.c (C.int IntKind.i64 s3))), ((4 : Nat), V.one (A.own (Key.ext (1 : Nat)) (0 : Nat) (32 : Nat))), ((5 : Nat), V.one (A.c (C.int IntKind.i64 s5))), ((8 : Nat), V.one (A.ptr (Key.loc (8 : Nat) (0 : Nat)) (0 : Nat) (0 : Nat))), ((12 : Nat), V.one (A.own (Key.loc (12 : Nat) (0 : Nat)) (0 : Nat) (57 : Nat))), ((15 : Nat), V.one (A.c (C.int IntKind.i64 s15))), ((59 : Nat), V.one (A.own (Key.loc (12 : Nat) (0 : Nat)) (0 : Nat) (57 : Nat))), ((60 : Nat), V.one (A.c (C.int IntKind.i64 s60))), ((61 : Nat), V.one (A.c (C.int IntKind.i64 s61)))], h := [(Key.ext (0 : Nat), (0 : Nat), B.box (55 : Nat) [C.int IntKind.i64 e0_0, C.sl (57 : Nat) e0_1] []), (Key.ext (1 : Nat), (0 : Nat), B.arr (32 : Nat) true e1), (Key.loc (8 : Nat) (0 : Nat), (0 : Nat), B.box (26 : Nat) [b8_0, b8_1] []), (Key.loc (12 : Nat) (0 : Nat), (0 : Nat), B.arr (57 : Nat) true b12)] }
abbrev f11o_x13_2 (s1 : Int) (s3 : Int) (s5 : Int) (s15 : Int) (e0_0 : Int) (e0_1 : List (List C)) (e1 : List (List C)) (b8_0 : C) (b8_1 : C) (b12 : List (List C)) : St := { t := [((0 : Nat), V.one (A.ptr (Key.ext (0 : Nat)) (0 : Nat) (0 : Nat))), ((1 : Nat), V.one (A.c (C.int IntKind.i64 s1))), ((3 : Nat), V.one (A.c (C.int IntKind.i64 s3))), ((4 : Nat), V.one (A.own (Key.ext (1 : Nat)) (0 : Nat) (32 : Nat))), ((5 : Nat), V.one (A.c (C.int IntKind.i64 s5))), ((8 : Nat), V.one (A.ptr (Key.loc (8 : Nat) (0 : Nat)) (0 : Nat) (0 : Nat))), ((12 : Nat), V.one (A.own (Key.loc (12 : Nat) (0 : Nat)) (0 : Nat) (57 : Nat))), ((15 : Nat), V.one (A.c (C.int IntKind.i64 s15)))], h := [(Key.ext (0 : Nat), (0 : Nat), B.box (55 : Nat) [C.int IntKind.i64 e0_0, C.sl (57 : Nat) e0_1] []), (Key.ext (1 : Nat), (0 : Nat), B.arr (32 : Nat) true e1), (Key.loc (8 : Nat) (0 : Nat), (0 : Nat), B.box (26 : Nat) [b8_0, b8_1] []), (Key.loc (12 : Nat) (0 : Nat), (0 : Nat), B.arr (57 : Nat) true b12)] }
theorem f11o_t5 (n m : Nat) (k : X → St → Option R) (s1 : Int) (s3 : Int) (s5 : Int) (s37 : List (List C)) (s38 : Int) (s39 : Int) (e0_0 : Int) (e0_1 : List (List C)) (e1 : List (List C)) (b8_0 : C) (b8_1 : C) (b12 : List (List C)) : evLoop false (f11o_s5 n) (m + 1) (f11o_h5 s1 s3 s5 s37 s38 s39 e0_0 e0_1 e1 b8_0 b8_1 b12) k = bcond (decide (s39 < s38)) (bcond (inB s39 s37.length) (bcond (!eqL (sub (el s37 s39.toNat) (0 : Nat) (2 : Nat)) [b8_0, b8_1]) (bcond (roomOk (b12.length + [el s37 s39.toNat].length) (72 : Nat)) (evLoop false (f11o_s5 n) m (f11o_h5 (s1) (s3) (s5) (s37) (s38) (IntKind.i64.wrap (s39 + (1 : Int))) (e0_0) (e0_1) (e1) (b8_0) (b8_1) (b12 ++ [el s37 s39.toNat])) k) (none)) (evLoop false (f11o_s5 n) m (f11o_h5 (s1) (s3) (s5) (s37) (s38) (IntKind.i64.wrap (s39 + (1 : Int))) (e0_0) (e0_1) (e1) (b8_0) (b8_1) (b12)) k)) (none)) (k (X.exit 0) (f11o_x5_0 (s1) (s3) (s5) (e0_0) (e0_1) (e1) (b8_0) (b8_1) (b12))) := by kernel_rfl
theorem f11o_a5_0 (n : Nat) (s1 : Int) (s3 : Int) (s5 : Int) (e0_0 : Int) (e0_1 : List (List C)) (e1 : List (List C)) (b8_0 : C) (b8_1 : C) (b12 : List (List C)) : f11o_k5 n (X.exit 0) (f11o_x5_0 s1 s3 s5 e0_0 e0_1 e1 b8_0 b8_1 b12) = bcond ((↑b12.length : Int) == e0_0) (evLoop false (f11o_s13 n) n (f11o_h13 (s1) (s3) (s5) ((0 : Int)) ((↑b12.length : Int)) ((0 : Int)) (e0_0) (e0_1) (e1) (b8_0) (b8_1) (b12)) (f11o_k13 n)) (bcond (roomOk e1.length (80 : Nat)) (bcond (roomOk (b12.length + [[b8_0, b8_1, C.int IntKind.i64 s3, C.sl (32 : TypeId) e1, C.int IntKind.i64 (IntKind.i64.wrap (s1 + if (1048576 : Int) < s5 then (1048576 : Int) else s5)), C.int IntKind.i64 s1]].length) (72 : Nat)) (some ((V.tup [], [(Key.ext (0 : Nat), (0 : Nat), B.box (55 : Nat) [C.int IntKind.i64 e0_0, C.sl (57 : Nat) (b12 ++ [[b8_0, b8_1, C.int IntKind.i64 s3, C.sl (32 : TypeId) e1, C.int IntKind.i64 (IntKind.i64.wrap (s1 + if (1048576 : Int) < s5 then (1048576 : Int) else s5)), C.int IntKind.i64 s1]])] []), (Key.ext (1 : Nat), (0 : Nat), B.arr (32 : Nat) true e1)]))) (none)) (none)) := by kernel_rfl
theorem f11o_t13 (n m : Nat) (k : X → St → Option R) (s1 : Int) (s3 : Int) (s5 : Int) (s15 : Int) (s60 : Int) (s61 : Int) (e0_0 : Int) (e0_1 : List (List C)) (e1 : List (List C)) (b8_0 : C) (b8_1 : C) (b12 : List (List C)) : evLoop false (f11o_s13 n) (m + 1) (f11o_h13 s1 s3 s5 s15 s60 s61 e0_0 e0_1 e1 b8_0 b8_1 b12) k = bcond (decide (s61 < s60)) (bcond (inB s61 b12.length) (bcond (inB s15 b12.length) (bcond (decide ((cl (el b12 s61.toNat) (4 : Nat)).toI < (cl (el b12 s15.toNat) (4 : Nat)).toI)) (evLoop false (f11o_s13 n) m (f11o_h13 (s1) (s3) (s5) (s61) (s60) (IntKind.i64.wrap (s61 + (1 : Int))) (e0_0) (e0_1) (e1) (b8_0) (b8_1) (b12)) k) (evLoop false (f11o_s13 n) m (f11o_h13 (s1) (s3) (s5) (s15) (s60) (IntKind.i64.wrap (s61 + (1 : Int))) (e0_0) (e0_1) (e1) (b8_0) (b8_1) (b12)) k)) (none)) (none)) (k (X.exit 2) (f11o_x13_2 (s1) (s3) (s5) (s15) (e0_0) (e0_1) (e1) (b8_0) (b8_1) (b12))) := by kernel_rfl
theorem f11o_a13_2 (n : Nat) (s1 : Int) (s3 : Int) (s5 : Int) (s15 : Int) (e0_0 : Int) (e0_1 : List (List C)) (e1 : List (List C)) (b8_0 : C) (b8_1 : C) (b12 : List (List C)) : f11o_k13 n (X.exit 2) (f11o_x13_2 s1 s3 s5 s15 e0_0 e0_1 e1 b8_0 b8_1 b12) = bcond (inE s15 (0 : Nat) b12.length) (bcond (s15 == s15) (bcond (inE (↑b12.length : Int) (0 : Nat) b12.length) (bcond (inE (IntKind.i64.wrap (s15 + (1 : Int))) (0 : Nat) (↑b12.length : Int).toNat) (bcond (roomOk ((lstCut b12 (0 : Nat) s15.toNat).length + (lstCut b12 (IntKind.i64.wrap (s15 + (1 : Int))).toNat (↑b12.length : Int).toNat).length) (72 : Nat)) (bcond (roomOk e1.length (80 : Nat)) (bcond (roomOk ((lstCut b12 (0 : Nat) s15.toNat ++ lstCut b12 (IntKind.i64.wrap (s15 + (1 : Int))).toNat (↑b12.length : Int).toNat).length + [[b8_0, b8_1, C.int IntKind.i64 s3, C.sl (32 : TypeId) e1, C.int IntKind.i64 (IntKind.i64.wrap (s1 + if (1048576 : Int) < s5 then (1048576 : Int) else s5)), C.int IntKind.i64 s1]].length) (72 : Nat)) (some ((V.tup [], [(Key.ext (0 : Nat), (0 : Nat), B.box (55 : Nat) [C.int IntKind.i64 e0_0, C.sl (57 : Nat) (lstCut b12 (0 : Nat) s15.toNat ++ lstCut b12 (IntKind.i64.wrap (s15 + (1 : Int))).toNat (↑b12.length : Int).toNat ++ [[b8_0, b8_1, C.int IntKind.i64 s3, C.sl (32 : TypeId) e1, C.int IntKind.i64 (IntKind.i64.wrap (s1 + if (1048576 : Int) < s5 then (1048576 : Int) else s5)), C.int IntKind.i64 s1]])] []), (Key.ext (1 : Nat), (0 : Nat), B.arr (32 : Nat) true e1)]))) (none)) (none)) (none)) (none)) (none)) (none)) (none) := by kernel_rfl
theorem f11o_eq (n : Nat) (now : Int) (size : Int) (oc : Int) (ttl : Int) (es : List (List C)) (q0 : C) (q1 : C) (rs : List (List C)) : evFn tab FA nO false lv11 false n Try.f11 [.one (.ptr (.ext 0) 0 0), .one (.c (.int .i64 now)), .agg 26 [q0, q1] [], .one (.c (.int .i64 oc)), .one (.own (.ext 1) 0 32), .one (.c (.int .i64 ttl))] [(.ext 0, (0, .box 55 [.int .i64 size, .sl 57 es] [])), (.ext 1, (0, .arr 32 true rs))] = bcond (size == (0 : Int)) (some ((V.tup [], [(Key.ext (0 : Nat), (0 : Nat), B.box (55 : Nat) [C.int IntKind.i64 size, C.sl (57 : Nat) es] []), (Key.ext (1 : Nat), (0 : Nat), B.arr (32 : Nat) true rs)]))) (bcond (decide (ttl < (1 : Int))) (some ((V.tup [], [(Key.ext (0 : Nat), (0 : Nat), B.box (55 : Nat) [C.int IntKind.i64 size, C.sl (57 : Nat) es] []), (Key.ext (1 : Nat), (0 : Nat), B.arr (32 : Nat) true rs)]))) (bcond (es.length.ble (1000000 : Nat)) (evLoop false (f11o_s5 n) n (f11o_h5 (now) (oc) (ttl) (List.filter (live now) es) ((↑(List.filter (live now) es).length : Int)) ((0 : Int)) (size) (List.filter (live now) es) (rs) (q0) (q1) ([])) (f11o_k5 n)) (none))) := by kernel_rfl


noncomputable abbrev f12o_c4 : Code := (loops (body Try.f12)).getD 0 .skip
noncomputable abbrev f12o_s4 (n : Nat) : St → (X → St → Option R) → Option R := fun st k => evCode tab nF nO lv12 false n f12o_c4 st k
noncomputable abbrev f12o_k4 (n : Nat) : X → St → Option R := after tab nF nO lv12 false n (body Try.f12) 0 (endK tab true Try.f12)
abbrev f12o_h4 (s1 : Int) (s17 : List (List C)) (s18 : Int) (s19 : Int) (e0_0 : Int) (e0_1 : List (List C)) (b5_0 : C) (b5_1 : C) : St := { t := [((1 : Nat), V.one (A.c (C.int IntKind.i64 s1))), ((5 : Nat), V.one (A.ptr (Key.loc (5 : Nat) (0 : Nat)) (0 : Nat) (0 : Nat))), ((17 : Nat), V.one (A.c (C.sl (57 : Nat) s17))), ((18 : Nat), V.one (A.c (C.int IntKind.i64 s18))), ((19 : Nat), V.one (A.c (C.int IntKind.i64 s19)))], h := [(Key.ext (0 : Nat), (0 : Nat), B.box (55 : Nat) [C.int IntKind.i64 e0_0, C.sl (57 : Nat) e0_1] []), (Key.loc (5 : Nat) (0 : Nat), (0 : Nat), B.box (26 : Nat) [b5_0, b5_1] [])] }
noncomputable abbrev f12o_c9 : Code := (loops (f12o_c4)).getD 0 .skip
noncomputable abbrev f12o_s9 (n : Nat) : St → (X → St → Option R) → Option R := fun st k => evCode tab nF nO lv12 false n f12o_c9 st k
noncomputable abbrev f12o_k9 (n m : Nat) (k : X → St → Option R) : X → St → Option R := after tab nF nO lv12 false n f12o_c4 0 (backK false (f12o_s4 n) m k)
abbrev f12o_h9 (s1 : Int) (s37 : Int) (s38 : Int) (e0_0 : Int) (e0_1 : List (List C)) (b9 : List C) (b35 : List (List C)) : St := { t := [((1 : Nat), V.one (A.c (C.int IntKind.i64 s1))), ((9 : Nat), V.one (A.ptr (Key.loc (9 : Nat) (0 : Nat)) (0 : Nat) (0 : Nat))), ((10 : Nat), V.one (A.own (Key.loc (35 : Nat) (0 : Nat)) (0 : Nat) (32 : Nat))), ((37 : Nat), V.one (A.c (C.int IntKind.i64 s37))), ((38 : Nat), V.one (A.c (C.int IntKind.i64 s38)))], h := [(Key.ext (0 : Nat), (0 : Nat), B.box (55 : Nat) [C.int IntKind.i64 e0_0, C.sl (57 : Nat) e0_1] []), (Key.loc (9 : Nat) (0 : Nat), (0 : Nat), B.box (57 : Nat) b9 []), (Key.loc (35 : Nat) (0 : Nat), (0 : Nat), B.arr (32 : Nat) true b35)] }
abbrev f12o_x9_2 (e0_0 : Int) (e0_1 : List (List C)) (b9 : List C) (b35 : List (List C)) : St := { t := [((9 : Nat), V.one (A.ptr (Key.loc (9 : Nat) (0 : Nat)) (0 : Nat) (0 : Nat))), ((10 : Nat), V.one (A.own (Key.loc (35 : Nat) (0 : Nat)) (0 : Nat) (32 : Nat)))], h := [(Key.ext (0 : Nat), (0 : Nat), B.box (55 : Nat) [C.int IntKind.i64 e0_0, C.sl (57 : Nat) e0_1] []), (Key.loc (9 : Nat) (0 : Nat), (0 : Nat), B.box (57 : Nat) b9 []), (Key.loc (35 : Nat) (0 : Nat), (0 : Nat), B.arr (32 : Nat) true b35)] }
abbrev f12o_x4_0 (e0_0 : Int) (e0_1 : List (List C)) (b5_0 : C) (b5_1 : C) : St := { t := [], h := [(Key.ext (0 : Nat), (0 : Nat), B.box (55 : Nat) [C.int IntKind.i64 e0_0, C.sl (57 : Nat) e0_1] []), (Key.loc (5 : Nat) (0 : Nat), (0 : Nat), B.box (26 : Nat) [b5_0, b5_1] [])] }
abbrev f12o_x4_r (s6 : Int) (e0_0 : Int) (e0_1 : List (List C)) (b9 : List C) (b35 : List (List C)) : St := { t := [((6 : Nat), V.one (A.c (C.int IntKind.i64 s6))), ((7 : Nat), V.one (A.own (Key.loc (35 : Nat) (0 : Nat)) (0 : Nat) (32 : Nat)))], h := [(Key.ext (0 : Nat), (0 : Nat), B.box (55 : Nat) [C.int IntKind.i64 e0_0, C.sl (57 : Nat) e0_1] []), (Key.loc (9 : Nat) (0 : Nat), (0 : Nat), B.box (57 : Nat) b9 []), (Key.loc (35 : Nat) (0 : Nat), (0 : Nat), B.arr (32 : Nat) true b35)] }
theorem f12o_t4 (n m : Nat) (k : X → St → Option R) (s1 : Int) (s17 : List (List C)) (s18 : Int) (s19 : Int) (e0_0 : Int) (e0_1 : List (List C)) (b5_0 : C) (b5_1 : C) : evLoop false (f12o_s4 n) (m + 1) (f12o_h4 s1 s17 s18 s19 e0_0 e0_1 b5_0 b5_1) k = bcond (decide (s19 < s18)) (bcond (inB s19 s17.length) (bcond (!eqL (sub (el s17 s19.toNat) (0 : Nat) (2 : Nat)) [b5_0, b5_1]) (evLoop false (f12o_s4 n) m (f12o_h4 (s1) (s17) (s18) (IntKind.i64.wrap (s19 + (1 : Int))) (e0_0) (e0_1) (b5_0) (b5_1)) k) (bcond (decide ((cl (el s17 s19.toNat) (4 : Nat)).toI ≤ s1)) (evLoop false (f12o_s4 n) m (f12o_h4 (s1) (s17) (s18) (IntKind.i64.wrap (s19 + (1 : Int))) (e0_0) (e0_1) (b5_0) (b5_1)) k) (bcond (roomOk (cl (el s17 s19.toNat) (3 : Nat)).toL.length (80 : Nat)) (evLoop false (f12o_s9 n) n (f12o_h9 (s1) ((↑(cl (el s17 s19.toNat) (3 : Nat)).toL.length : Int)) ((0 : Int)) (e0_0) (e0_1) (el s17 s19.toNat) ((cl (el s17 s19.toNat) (3 : Nat)).toL)) (f12o_k9 n m k)) (none)))) (none)) (k (X.exit 0) (f12o_x4_0 (e0_0) (e0_1) (b5_0) (b5_1))) := by kernel_rfl
theorem f12o_t9 (n m : Nat) (k : X → St → Option R) (s1 : Int) (s37 : Int) (s38 : Int) (e0_0 : Int) (e0_1 : List (List C)) (b9 : List C) (b35 : List (List C)) : evLoop false (f12o_s9 n) (m + 1) (f12o_h9 s1 s37 s38 e0_0 e0_1 b9 b35) k = bcond (decide (s38 < s37)) (bcond (inB s38 b35.length) (bcond (inB s38 b35.length) (evLoop false (f12o_s9 n) m (f12o_h9 (s1) (s37) (IntKind.i64.wrap (s38 + (1 : Int))) (e0_0) (e0_1) (b9) (b35.set s38.toNat ((el b35 s38.toNat).set (2 : Nat) (C.int IntKind.i64 (if (0 : Int) > IntKind.i64.wrap ((cl (el b35 s38.toNat) (2 : Nat)).toI - IntKind.i64.wrap (s1 - (cl b9 (5 : Nat)).toI)) then (0 : Int) else IntKind.i64.wrap ((cl (el b35 s38.toNat) (2 : Nat)).toI - IntKind.i64.wrap (s1 - (cl b9 (5 : Nat)).toI))))))) k) (none)) (none)) (k (X.exit 2) (f12o_x9_2 (e0_0) (e0_1) (b9) (b35))) := by kernel_rfl
theorem f12o_a9_2 (n m : Nat) (k : X → St → Option R) (e0_0 : Int) (e0_1 : List (List C)) (b9 : List C) (b35 : List (List C)) : f12o_k9 n m k (X.exit 2) (f12o_x9_2 e0_0 e0_1 b9 b35) = k X.ret (f12o_x4_r ((cl b9 (2 : Nat)).toI) (e0_0) (e0_1) (b9) (b35)) := by kernel_rfl
theorem f12o_a4_0 (n : Nat) (e0_0 : Int) (e0_1 : List (List C)) (b5_0 : C) (b5_1 : C) : f12o_k4 n (X.exit 0) (f12o_x4_0 e0_0 e0_1 b5_0 b5_1) = some ((V.tup [V.one (A.c (C.int IntKind.i64 (0 : Int))), V.one (A.c (C.sl (32 : Nat) []))], [(Key.ext (0 : Nat), (0 : Nat), B.box (55 : Nat) [C.int IntKind.i64 e0_0, C.sl (57 : Nat) e0_1] [])])) := by kernel_rfl
theorem f12o_a4_r (n : Nat) (s6 : Int) (e0_0 : Int) (e0_1 : List (List C)) (b9 : List C) (b35 : List (List C)) : f12o_k4 n X.ret (f12o_x4_r s6 e0_0 e0_1 b9 b35) = some ((V.tup [V.one (A.c (C.int IntKind.i64 s6)), V.one (A.own (Key.new (0 : Nat)) (0 : Nat) (32 : Nat))], [(Key.ext (0 : Nat), (0 : Nat), B.box (55 : Nat) [C.int IntKind.i64 e0_0, C.sl (57 : Nat) e0_1] []), (Key.new (0 : Nat), (0 : Nat), B.arr (32 : Nat) true b35)])) := by kernel_rfl
theorem f12o_eq (n : Nat) (now : Int) (size : Int) (l : List (List C)) (q0 : C) (q1 : C) : evFn tab nF nO true lv12 false n Try.f12 [.one (.ptr (.ext 0) 0 0), .one (.c (.int .i64 now)), .agg 26 [q0, q1] []] [(.ext 0, (0, .box 55 [.int .i64 size, .sl 57 l] []))] = evLoop false (f12o_s4 n) n (f12o_h4 (now) (l) ((↑l.length : Int)) ((0 : Int)) (size) (l) (q0) (q1)) (f12o_k4 n) := by kernel_rfl


theorem f16o_out (l : List (List C)) (hl : l.length ≤ 1000000) (n : Nat) (hn : 1000000 < n) : evFn tab nF nO false lv16 false n Try.f16 [.one (.own (.ext 0) 0 32)] [(.ext 0, (0, .arr 32 true l))] = some (.one (.c (.int .i64 (ttlOf l))), [(.ext 0, (0, .arr 32 true l))]) := by
  rw [f16o_eq, ← f16o_a3_0 n _ l]
  exact fold_loop (xs := l) (L := fun m i (a : Int) => evLoop false (f16o_s3 n) m (f16o_h3 a l.length i l) (f16o_k3 n)) (E := fun a => f16o_k3 n (X.exit 0) (f16o_x3_0 a l)) (fun _ _ => True)
    (fun m i a x hx hlt _ => by
      show evLoop false (f16o_s3 n) (m + 1) _ _ = evLoop false (f16o_s3 n) m _ _
      rw [f16o_t3]
      simp only [lt_nat, inB_nat, Int.toNat_natCast, el_get hx, wrap_succ (i := i) (by omega), hlt, decide_true, bcond_t])
    (fun _ _ _ _ _ _ => trivial)
    (fun m a _ => by
      show evLoop false (f16o_s3 n) (m + 1) _ _ = _
      rw [f16o_t3, lt_nat, bcond_no (by simp)])
    l.length 0 1048576 n (by omega) (by omega) trivial
theorem f11o_L5 (n : Nat) (k : X → St → Option R) (now oc ttl size : Int) (rs l e1 : List (List C)) (q0 q1 : C) (hl : l.length ≤ 1000000) (m : Nat) (hm : l.length < m) :
    evLoop false (f11o_s5 n) m (f11o_h5 now oc ttl l l.length 0 size e1 rs q0 q1 []) k = k (X.exit 0) (f11o_x5_0 now oc ttl size e1 rs q0 q1 (l.filter (notQ [q0, q1]))) := by
  have h := fold_loop (xs := l) (L := fun m i (acc : List (List C)) => evLoop false (f11o_s5 n) m (f11o_h5 now oc ttl l l.length i size e1 rs q0 q1 acc) k)
    (f := fun acc x => if notQ [q0, q1] x = true then acc ++ [x] else acc) (E := fun acc => k (X.exit 0) (f11o_x5_0 now oc ttl size e1 rs q0 q1 acc)) (fun i acc => acc.length ≤ i)
    (fun m i acc x hx hlt hI => by
      show evLoop false (f11o_s5 n) (m + 1) _ k = evLoop false (f11o_s5 n) m _ k
      have hr : roomOk (acc.length + [x].length) 72 = true := roomOk_of (by simp; omega) (by simp; omega)
      rw [f11o_t5]
      simp only [lt_nat, inB_nat, Int.toNat_natCast, el_get hx, wrap_succ (i := i) (by omega), hlt, decide_true, bcond_t, hr]
      show bcond (notQ [q0, q1] x) _ _ = _
      cases hp : notQ [q0, q1] x
      · rw [bcond_f, if_neg (by simp)]
      · rw [bcond_t, if_pos rfl])
    (fun i acc x hx hlt hI => by split <;> (try simp) <;> omega)
    (fun m acc hI => by
      show evLoop false (f11o_s5 n) (m + 1) _ k = _
      rw [f11o_t5, lt_nat, bcond_no (by simp)])
    l.length 0 [] m (by omega) hm (by simp)
  rw [foldl_filter] at h
  simpa using h

theorem f11o_L13 (n : Nat) (k : X → St → Option R) (now oc ttl size : Int) (rs l e1 : List (List C)) (q0 q1 : C) (hl : l.length ≤ 1000000) (h0 : 0 < l.length) (m : Nat) (hm : l.length < m) :
    evLoop false (f11o_s13 n) m (f11o_h13 now oc ttl 0 l.length 0 size e1 rs q0 q1 l) k = k (X.exit 2) (f11o_x13_2 now oc ttl (minIx l) size e1 rs q0 q1 l) := by
  have hz : l.zipIdx.length = l.length := List.length_zipIdx
  exact fold_loop (xs := l.zipIdx) (L := fun m i (s : Nat) => evLoop false (f11o_s13 n) m (f11o_h13 now oc ttl s l.length i size e1 rs q0 q1 l) k)
    (f := soon l) (E := fun s => k (X.exit 2) (f11o_x13_2 now oc ttl s size e1 rs q0 q1 l)) (fun i s => s < l.length)
    (fun m i s x hx hlt hI => by
      show evLoop false (f11o_s13 n) (m + 1) _ k = evLoop false (f11o_s13 n) m _ k
      rw [hz] at hlt
      have hx2 : l[i]? = some l[i] := List.getElem?_eq_getElem hlt
      rw [List.getElem?_zipIdx, hx2] at hx
      simp only [Option.map_some, Option.some.injEq, Nat.zero_add] at hx
      subst hx
      rw [f11o_t13]
      simp only [lt_nat, inB_nat, Int.toNat_natCast, el_get hx2, wrap_succ (i := i) (by omega), hlt, hI, decide_true, bcond_t, soon]
      split
      · rename_i hp
        rw [bcond_of hp]
      · rename_i hp
        rw [bcond_no (by simpa using hp)])
    (fun i s x hx hlt hI => by
      unfold soon
      split
      · have := List.mem_zipIdx (List.mem_of_getElem? hx)
        omega
      · exact hI)
    (fun m s hI => by
      show evLoop false (f11o_s13 n) (m + 1) _ k = _
      rw [f11o_t13, hz, lt_nat, bcond_no (by simp)])
    l.length 0 0 m (by omega) hm h0

theorem f11o_out (now size oc ttl : Int) (es : List (List C)) (q0 q1 : C) (rs : List (List C)) (he : es.length ≤ 1000000) (hr : rs.length ≤ 1000000) (n : Nat) (hn : 1000000 < n) :
    evFn tab FA nO false lv11 false n Try.f11 [.one (.ptr (.ext 0) 0 0), .one (.c (.int .i64 now)), .agg 26 [q0, q1] [], .one (.c (.int .i64 oc)), .one (.own (.ext 1) 0 32), .one (.c (.int .i64 ttl))] [(.ext 0, (0, .box 55 [.int .i64 size, .sl 57 es] [])), (.ext 1, (0, .arr 32 true rs))] =
      some (.tup [], [(.ext 0, (0, .box 55 [.int .i64 size, .sl 57 (putR now size es q0 q1 oc rs ttl)] [])), (.ext 1, (0, .arr 32 true rs))]) := by
  rw [f11o_eq, putR]
  cases hs : (size == 0) with
  | true => rw [bcond_t, if_pos rfl]
  | false =>
    rw [bcond_f, if_neg (by simp)]
    cases ht : decide (ttl < 1) with
    | true => rw [bcond_t, if_pos rfl]
    | false =>
      have hf1 : (es.filter (live now)).length ≤ es.length := List.length_filter_le _ _
      have hf2 : ((es.filter (live now)).filter (notQ [q0, q1])).length ≤ (es.filter (live now)).length := List.length_filter_le _ _
      have hr2 : roomOk rs.length 80 = true := roomOk_of (by omega) (by omega)
      rw [bcond_f, if_neg (by simp), bcond_of (by rw [Nat.ble_eq]; exact he), f11o_L5 n _ now oc ttl size rs _ _ q0 q1 (by omega) n (by omega), f11o_a5_0]
      obtain ⟨rest, hrest⟩ : ∃ r, r = (es.filter (live now)).filter (notQ [q0, q1]) := ⟨_, rfl⟩
      simp only [restOf]
      rw [← hrest] at hf2 ⊢
      cases hq : ((rest.length : Int) == size) with
      | false =>
        rw [bcond_f, hr2, bcond_t, bcond_of (roomOk_of (by simp; omega) (by simp; omega)), if_neg Bool.false_ne_true]
        rfl
      | true =>
        have h0 : 0 < rest.length := by
          simp only [beq_iff_eq, beq_eq_false_iff_ne, ne_eq] at hq hs
          omega
        have hlt := minIx_lt rest h0
        rw [bcond_t, f11o_L13 n _ now oc ttl size rs rest _ q0 q1 (by omega) h0 n (by omega), f11o_a13_2, if_pos (rfl : true = true)]
        have e1 : lstCut rest 0 (minIx rest : Int).toNat = rest.take (minIx rest) := by simp [lstCut]
        have e2 : lstCut rest (IntKind.i64.wrap ((minIx rest : Int) + 1)).toNat (rest.length : Int).toNat = rest.drop (minIx rest + 1) := by
          rw [wrap_succ (by omega)]
          simp [lstCut]
        rw [e1, e2, wrap_succ (by omega)]
        simp only [inE_nat, Int.toNat_natCast, hr2]
        rw [bcond_of (by simp; omega), bcond_of (by simp), bcond_of (by simp), bcond_of (by simp; omega), bcond_of (roomOk_of (by simp; omega) (by simp; omega)), bcond_t, bcond_of (roomOk_of (by simp; omega) (by simp; omega))]
        rfl

theorem f12o_L9 (n : Nat) (k : X → St → Option R) (now size : Int) (l rs : List (List C)) (e : List C) (hl : rs.length ≤ 1000000) (m : Nat) (hm : rs.length < m) :
    evLoop false (f12o_s9 n) m (f12o_h9 now rs.length 0 size l e rs) k = k (X.exit 2) (f12o_x9_2 size l e (rs.map (ageR now e))) := by
  have h := fold_loop (xs := rs) (L := fun m i (_ : Unit) => evLoop false (f12o_s9 n) m (f12o_h9 now rs.length i size l e (upTo (ageR now e) rs i)) k)
    (f := fun _ _ => ()) (E := fun _ => k (X.exit 2) (f12o_x9_2 size l e (rs.map (ageR now e)))) (fun _ _ => True)
    (fun m i _ x hx hlt _ => by
      show evLoop false (f12o_s9 n) (m + 1) _ k = evLoop false (f12o_s9 n) m _ k
      rw [f12o_t9]
      simp only [lt_nat, inB_nat, Int.toNat_natCast, upTo_length _ _ (Nat.le_of_lt hlt), el_get (upTo_get (ageR now e) hx), wrap_succ (i := i) (by omega), hlt, decide_true, bcond_t]
      rw [← upTo_set (ageR now e) hx]
      rfl)
    (fun _ _ _ _ _ _ => trivial)
    (fun m _ _ => by
      show evLoop false (f12o_s9 n) (m + 1) _ k = _
      rw [f12o_t9, lt_nat, bcond_no (by simp), upTo_all])
    rs.length 0 () m (by omega) hm trivial
  rw [upTo_zero] at h
  exact h

theorem f12o_out (now size : Int) (l : List (List C)) (q0 q1 : C) (hl : l.length ≤ 1000000) (hr : ∀ e ∈ l, (cl e 3).toL.length ≤ 1000000) (n : Nat) (hn : 1000000 < n) :
    evFn tab nF nO true lv12 false n Try.f12 [.one (.ptr (.ext 0) 0 0), .one (.c (.int .i64 now)), .agg 26 [q0, q1] []] [(.ext 0, (0, .box 55 [.int .i64 size, .sl 57 l] []))] =
      (match getE now l [q0, q1] with
        | some x => some (.tup [.one (.c (.int .i64 (cl x 2).toI)), .one (.own (.new 0) 0 32)], [(.ext 0, (0, .box 55 [.int .i64 size, .sl 57 l] [])), (.new 0, (0, .arr 32 true ((cl x 3).toL.map (ageR now x))))])
        | none => some (.tup [.one (.c (.int .i64 0)), .one (.c (.sl 32 []))], [(.ext 0, (0, .box 55 [.int .i64 size, .sl 57 l] []))])) := by
  rw [f12o_eq]
  have h := over_loop (xs := l) (L := fun m i (_ : Unit) => evLoop false (f12o_s4 n) m (f12o_h4 now l l.length i size l q0 q1) (f12o_k4 n))
    (g := fun (_ : Unit) x => if hit now [q0, q1] x = true then .inr (some (.tup [.one (.c (.int .i64 (cl x 2).toI)), .one (.own (.new 0) 0 32)], [(.ext 0, (0, .box 55 [.int .i64 size, .sl 57 l] [])), (.new 0, (0, .arr 32 true ((cl x 3).toL.map (ageR now x))))])) else .inl ())
    (E := fun _ => some (.tup [.one (.c (.int .i64 0)), .one (.c (.sl 32 []))], [(.ext 0, (0, .box 55 [.int .i64 size, .sl 57 l] []))])) (fun _ _ => True)
    (fun m i _ x hx hlt _ => by
      show evLoop false (f12o_s4 n) (m + 1) _ _ = _
      have hx3 := hr x (List.mem_of_getElem? hx)
      rw [f12o_t4]
      simp only [lt_nat, inB_nat, Int.toNat_natCast, el_get hx, wrap_succ (i := i) (by omega), hlt, decide_true, bcond_t]
      show bcond (notQ [q0, q1] x) _ _ = _
      unfold hit
      cases hp : notQ [q0, q1] x with
      | true => rfl
      | false =>
        rw [bcond_f]
        cases hq : decide ((cl x 4).toI ≤ now) with
        | true => rfl
        | false =>
          rw [bcond_f, bcond_of (roomOk_of (by omega) (by omega)), f12o_L9 n _ now size l _ x hx3 n (by omega), f12o_a9_2]
          exact f12o_a4_r n _ size l x _)
    (fun _ _ _ _ _ _ _ _ => trivial)
    (fun m _ _ => by
      show evLoop false (f12o_s4 n) (m + 1) _ _ = _
      rw [f12o_t4, lt_nat, bcond_no (by simp), f12o_a4_0])
    l.length 0 () n (by omega) (by omega) trivial
  refine h.trans ?_
  rw [List.drop_zero, overX_find]
  unfold getE
  cases l.find? (hit now [q0, q1]) <;> rfl


def e16o : En
  | [.one (.own (.ext 0) 0 32)], [(.ext 0, (0, .arr 32 true l))], k => bcond (Nat.ble l.length 1000000) (k (.one (.c (.int .i64 (ttlOf l)))) [(.ext 0, (0, .arr 32 true l))]) none
  | [.one (.c (.sl 32 []))], [], k => k (.one (.c (.int .i64 1048576))) []
  | _, _, _ => none
theorem es16o : ES Try.prog tab 16 e16o := by
  intro args h k x hh
  unfold e16o at hh
  split at hh
  · rename_i l
    cases hb : Nat.ble l.length 1000000 with
    | false => rw [hb, bcond_f] at hh; cases hh
    | true =>
      rw [hb, bcond_t] at hh
      exact ⟨_, _, hh, fn16 (nF_sound _ _) rfl (f16o_out l (by simpa using hb) 1000001 (by omega))⟩
  · exact ⟨_, _, hh, fn16 (nF_sound _ _) rfl (f16_out [] (by simp) 1000001 (by omega))⟩
  · cases hh
def e11o : En
  | [.one (.ptr (.ext 0) 0 0), .one (.c (.int .i64 now)), .agg 26 [q0, q1] [], .one (.c (.int .i64 oc)), .one (.own (.ext 1) 0 32), .one (.c (.int .i64 ttl))], [(.ext 0, (0, .box 55 [.int .i64 size, .sl 57 es] [])), (.ext 1, (0, .arr 32 true rs))], k =>
    bcond (Nat.ble es.length 1000000 && Nat.ble rs.length 1000000) (k (.tup []) [(.ext 0, (0, .box 55 [.int .i64 size, .sl 57 (putR now size es q0 q1 oc rs ttl)] [])), (.ext 1, (0, .arr 32 true rs))]) none
  | _, _, _ => none
theorem es11o : ES Try.prog tab 11 e11o := by
  intro args h k x hh
  unfold e11o at hh
  split at hh
  · rename_i now q0 q1 oc ttl size es rs
    cases hb : (Nat.ble es.length 1000000 && Nat.ble rs.length 1000000) with
    | false => rw [hb, bcond_f] at hh; cases hh
    | true =>
      rw [hb, bcond_t] at hh
      rw [Bool.and_eq_true, Nat.ble_eq, Nat.ble_eq] at hb
      exact ⟨_, _, hh, fn11 sFA rfl (f11o_out now size oc ttl es q0 q1 rs hb.1 hb.2 1000001 (by omega))⟩
  · cases hh
def e12o : En
  | [.one (.ptr (.ext 0) 0 0), .one (.c (.int .i64 now)), .agg 26 [q0, q1] []], [(.ext 0, (0, .box 55 [.int .i64 size, .sl 57 l] []))], k =>
    bcond (Nat.ble l.length 1000000 && l.all fun e => Nat.ble (cl e 3).toL.length 1000000)
      (bcond (getE now l [q0, q1]).isSome (k (.tup [.one (.c (.int .i64 (getO (getE now l [q0, q1])))), .one (.own (.new 0) 0 32)]) [(.ext 0, (0, .box 55 [.int .i64 size, .sl 57 l] [])), (.new 0, (0, .arr 32 true (getL now (getE now l [q0, q1]))))])
        (k (.tup [.one (.c (.int .i64 0)), .one (.c (.sl 32 []))]) [(.ext 0, (0, .box 55 [.int .i64 size, .sl 57 l] []))])) none
  | _, _, _ => none
theorem es12o : ES Try.prog tab 12 e12o := by
  intro args h k x hh
  unfold e12o at hh
  split at hh
  · rename_i now q0 q1 size l
    cases hb : (Nat.ble l.length 1000000 && l.all fun e => Nat.ble (cl e 3).toL.length 1000000) with
    | false => rw [hb, bcond_f] at hh; cases hh
    | true =>
      rw [hb, bcond_t] at hh
      rw [Bool.and_eq_true, Nat.ble_eq, List.all_eq_true] at hb
      have ho := f12o_out now size l q0 q1 hb.1 (fun e he => by simpa using hb.2 e he) 1000001 (by omega)
      cases hg : getE now l [q0, q1] with
      | some x =>
        rw [hg] at hh ho
        exact ⟨_, _, hh, fn12 (nF_sound _ _) rfl ho⟩
      | none =>
        rw [hg] at hh ho
        exact ⟨_, _, hh, fn12 (nF_sound _ _) rfl ho⟩
  · cases hh
def FE : Fun := mkF [(9, e9), (10, e10), (11, e11o), (12, e12o), (16, e16o)]
theorem sFE : FSound Try.prog tab FE := mkF_sound (fun p hp => by
  simp only [List.mem_cons, List.not_mem_nil, or_false] at hp
  rcases hp with rfl | rfl | rfl | rfl | rfl
  · exact es9
  · exact es10
  · exact es11o
  · exact es12o
  · exact es16o)

end Go.Proofs.Ytacklcdhfoedlaa
