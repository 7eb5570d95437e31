/- Links -/
import Derived.Test.YtnbiincgplkmbaaPe
import Derived.KernelRfl
namespace Go.Proofs.Ytnbiincgplkmbaa
open Go Go.Eng
set_option maxRecDepth 100000
noncomputable abbrev f7_c12 : Code := (loops (body Try.f7)).getD 0 .skip
noncomputable abbrev f7_s12 (n : Nat) : St → (X → St → Option R) → Option R := fun st k => evCode tab FH nO lv7 false n f7_c12 st k
noncomputable abbrev f7_k12 (n : Nat) : X → St → Option R := after tab FH nO lv7 false n (body Try.f7) 0 (endK tab false Try.f7)
abbrev f7_h12 (s97 : List (List C)) (s98 : Int) (s99 : Int) (b2 : List C) (b6 : List C) : St := { t := [((2 : Nat), V.one (A.ptr (Key.loc (2 : Nat) (0 : Nat)) (0 : Nat) (0 : Nat))), ((6 : Nat), V.one (A.ptr (Key.loc (6 : Nat) (0 : Nat)) (0 : Nat) (0 : Nat))), ((97 : Nat), V.one (A.c (C.sl (9 : Nat) s97))), ((98 : Nat), V.one (A.c (C.int IntKind.i64 s98))), ((99 : Nat), V.one (A.c (C.int IntKind.i64 s99)))], h := [(Key.loc (2 : Nat) (0 : Nat), (0 : Nat), B.box (34 : Nat) b2 []), (Key.loc (6 : Nat) (0 : Nat), (0 : Nat), B.box (34 : Nat) b6 [])] }
abbrev f7_x12_r (s4 : Bool) (b2 : List C) (b6 : List C) : St := { t := [((4 : Nat), V.one (A.c (C.bool s4)))], h := [(Key.loc (2 : Nat) (0 : Nat), (0 : Nat), B.box (34 : Nat) b2 []), (Key.loc (6 : Nat) (0 : Nat), (0 : Nat), B.box (34 : Nat) b6 [])] }
abbrev f7_x12_0 (b2 : List C) (b6 : List C) : St := { t := [((2 : Nat), V.one (A.ptr (Key.loc (2 : Nat) (0 : Nat)) (0 : Nat) (0 : Nat))), ((6 : Nat), V.one (A.ptr (Key.loc (6 : Nat) (0 : Nat)) (0 : Nat) (0 : Nat)))], h := [(Key.loc (2 : Nat) (0 : Nat), (0 : Nat), B.box (34 : Nat) b2 []), (Key.loc (6 : Nat) (0 : Nat), (0 : Nat), B.box (34 : Nat) b6 [])] }
noncomputable abbrev f7_c18 : Code := (loops (body Try.f7)).getD 1 .skip
noncomputable abbrev f7_s18 (n : Nat) : St → (X → St → Option R) → Option R := fun st k => evCode tab FH nO lv7 false n f7_c18 st k
noncomputable abbrev f7_k18 (n : Nat) : X → St → Option R := after tab FH nO lv7 false n (body Try.f7) 1 (endK tab false Try.f7)
abbrev f7_h18 (s121 : List (List C)) (s122 : Int) (s123 : Int) (b2 : List C) (b6 : List C) : St := { t := [((2 : Nat), V.one (A.ptr (Key.loc (2 : Nat) (0 : Nat)) (0 : Nat) (0 : Nat))), ((6 : Nat), V.one (A.ptr (Key.loc (6 : Nat) (0 : Nat)) (0 : Nat) (0 : Nat))), ((121 : Nat), V.one (A.c (C.sl (29 : Nat) s121))), ((122 : Nat), V.one (A.c (C.int IntKind.i64 s122))), ((123 : Nat), V.one (A.c (C.int IntKind.i64 s123)))], h := [(Key.loc (2 : Nat) (0 : Nat), (0 : Nat), B.box (34 : Nat) b2 []), (Key.loc (6 : Nat) (0 : Nat), (0 : Nat), B.box (34 : Nat) b6 [])] }
abbrev f7_x18_r (s4 : Bool) (b2 : List C) (b6 : List C) (b10 : List C) : St := { t := [((4 : Nat), V.one (A.c (C.bool s4)))], h := [(Key.loc (2 : Nat) (0 : Nat), (0 : Nat), B.box (34 : Nat) b2 []), (Key.loc (6 : Nat) (0 : Nat), (0 : Nat), B.box (34 : Nat) b6 []), (Key.loc (10 : Nat) (0 : Nat), (0 : Nat), B.box (29 : Nat) b10 [])] }
abbrev f7_x18_2 (b2 : List C) (b6 : List C) : St := { t := [((2 : Nat), V.one (A.ptr (Key.loc (2 : Nat) (0 : Nat)) (0 : Nat) (0 : Nat))), ((6 : Nat), V.one (A.ptr (Key.loc (6 : Nat) (0 : Nat)) (0 : Nat) (0 : Nat)))], h := [(Key.loc (2 : Nat) (0 : Nat), (0 : Nat), B.box (34 : Nat) b2 []), (Key.loc (6 : Nat) (0 : Nat), (0 : Nat), B.box (34 : Nat) b6 [])] }
noncomputable abbrev f7_c24 : Code := (loops (body Try.f7)).getD 2 .skip
noncomputable abbrev f7_s24 (n : Nat) : St → (X → St → Option R) → Option R := fun st k => evCode tab FH nO lv7 false n f7_c24 st k
noncomputable abbrev f7_k24 (n : Nat) : X → St → Option R := after tab FH nO lv7 false n (body Try.f7) 2 (endK tab false Try.f7)
abbrev f7_h24 (s137 : List (List C)) (s138 : Int) (s139 : Int) (b2 : List C) : St := { t := [((2 : Nat), V.one (A.ptr (Key.loc (2 : Nat) (0 : Nat)) (0 : Nat) (0 : Nat))), ((137 : Nat), V.one (A.c (C.sl (42 : Nat) s137))), ((138 : Nat), V.one (A.c (C.int IntKind.i64 s138))), ((139 : Nat), V.one (A.c (C.int IntKind.i64 s139)))], h := [(Key.loc (2 : Nat) (0 : Nat), (0 : Nat), B.box (34 : Nat) b2 [])] }
abbrev f7_x24_r (s4 : Bool) (b2 : List C) (b12 : List C) : St := { t := [((4 : Nat), V.one (A.c (C.bool s4)))], h := [(Key.loc (2 : Nat) (0 : Nat), (0 : Nat), B.box (34 : Nat) b2 []), (Key.loc (12 : Nat) (0 : Nat), (0 : Nat), B.box (42 : Nat) b12 [])] }
abbrev f7_x24_4 (b2 : List C) : St := { t := [], h := [(Key.loc (2 : Nat) (0 : Nat), (0 : Nat), B.box (34 : Nat) b2 [])] }
theorem f7_t12 (n m : Nat) (k : X → St → Option R) (s97 : List (List C)) (s98 : Int) (s99 : Int) (b2 : List C) (b6 : List C) : evLoop false (f7_s12 n) (m + 1) (f7_h12 s97 s98 s99 b2 b6) k = bcond (decide (s99 < s98)) (bcond (inB s99 s97.length) (bcond (inB s99 (cl b2 (2 : Nat)).toL.length) (bcond (inB s99 (cl b2 (2 : Nat)).toL.length) (bcond (inE (if (255 : Int) < (↑(cl (el (cl b2 (2 : Nat)).toL s99.toNat) (0 : Nat)).toS.size : Int) then (255 : Int) else (↑(cl (el (cl b2 (2 : Nat)).toL s99.toNat) (0 : Nat)).toS.size : Int)) (0 : Nat) (cl (el (cl b2 (2 : Nat)).toL s99.toNat) (0 : Nat)).toS.size) (bcond (!(cl (el s97 s99.toNat) (0 : Nat)).toS.toList == (strCut (cl (el (cl b2 (2 : Nat)).toL s99.toNat) (0 : Nat)).toS (0 : Nat) (if (255 : Int) < (↑(cl (el (cl b2 (2 : Nat)).toL s99.toNat) (0 : Nat)).toS.size : Int) then (255 : Int) else (↑(cl (el (cl b2 (2 : Nat)).toL s99.toNat) (0 : Nat)).toS.size : Int)).toNat).toList) (k X.ret (f7_x12_r (false) (b2) (b6))) (evLoop false (f7_s12 n) m (f7_h12 (s97) (s98) (IntKind.i64.wrap (s99 + (1 : Int))) (b2) (b6)) k)) (none)) (none)) (none)) (none)) (k (X.exit 0) (f7_x12_0 (b2) (b6))) := by kernel_rfl
theorem f7_a12_r (n : Nat) (s4 : Bool) (b2 : List C) (b6 : List C) : f7_k12 n X.ret (f7_x12_r s4 b2 b6) = some ((V.one (A.c (C.bool s4)), [])) := by kernel_rfl
theorem f7_a12_0 (n : Nat) (b2 : List C) (b6 : List C) : f7_k12 n (X.exit 0) (f7_x12_0 b2 b6) = evLoop false (f7_s18 n) n (f7_h18 ((cl b6 (5 : Nat)).toL) ((↑(cl b6 (5 : Nat)).toL.length : Int)) ((0 : Int)) (b2) (b6)) (f7_k18 n) := by kernel_rfl
theorem f7_t18 (n m : Nat) (k : X → St → Option R) (s121 : List (List C)) (s122 : Int) (s123 : Int) (b2 : List C) (b6 : List C) : evLoop false (f7_s18 n) (m + 1) (f7_h18 s121 s122 s123 b2 b6) k = bcond (decide (s123 < s122)) (bcond (inB s123 s121.length) (bcond (inB s123 (cl b2 (5 : Nat)).toL.length) (bcond (!eqL (el s121 s123.toNat) (el (cl b2 (5 : Nat)).toL s123.toNat)) (k X.ret (f7_x18_r (false) (b2) (b6) (el s121 s123.toNat))) (evLoop false (f7_s18 n) m (f7_h18 (s121) (s122) (IntKind.i64.wrap (s123 + (1 : Int))) (b2) (b6)) k)) (none)) (none)) (k (X.exit 2) (f7_x18_2 (b2) (b6))) := by kernel_rfl
theorem f7_a18_r (n : Nat) (s4 : Bool) (b2 : List C) (b6 : List C) (b10 : List C) : f7_k18 n X.ret (f7_x18_r s4 b2 b6 b10) = some ((V.one (A.c (C.bool s4)), [])) := by kernel_rfl
theorem f7_a18_2 (n : Nat) (b2 : List C) (b6 : List C) : f7_k18 n (X.exit 2) (f7_x18_2 b2 b6) = evLoop false (f7_s24 n) n (f7_h24 ((cl b6 (6 : Nat)).toL) ((↑(cl b6 (6 : Nat)).toL.length : Int)) ((0 : Int)) (b2)) (f7_k24 n) := by kernel_rfl
theorem f7_t24 (n m : Nat) (k : X → St → Option R) (s137 : List (List C)) (s138 : Int) (s139 : Int) (b2 : List C) : evLoop false (f7_s24 n) (m + 1) (f7_h24 s137 s138 s139 b2) k = bcond (decide (s139 < s138)) (bcond (inB s139 s137.length) (bcond (inB s139 (cl b2 (6 : Nat)).toL.length) (bcond (!eqL (sub (el s137 s139.toNat) (0 : Nat) (16 : Nat)) (sub (el (cl b2 (6 : Nat)).toL s139.toNat) (0 : Nat) (16 : Nat))) (k X.ret (f7_x24_r (false) (b2) (el s137 s139.toNat))) (bcond ((cl (el s137 s139.toNat) (17 : Nat)).toB) (k X.ret (f7_x24_r (false) (b2) (el s137 s139.toNat))) (bcond ((cl (el s137 s139.toNat) (16 : Nat)).toB) (k X.ret (f7_x24_r (false) (b2) (el s137 s139.toNat))) (evLoop false (f7_s24 n) m (f7_h24 (s137) (s138) (IntKind.i64.wrap (s139 + (1 : Int))) (b2)) k)))) (none)) (none)) (k (X.exit 4) (f7_x24_4 (b2))) := by kernel_rfl
theorem f7_a24_r (n : Nat) (s4 : Bool) (b2 : List C) (b12 : List C) : f7_k24 n X.ret (f7_x24_r s4 b2 b12) = some ((V.one (A.c (C.bool s4)), [])) := by kernel_rfl
theorem f7_a24_4 (n : Nat) (b2 : List C) : f7_k24 n (X.exit 4) (f7_x24_4 b2) = some ((V.one (A.c (C.bool true)), [])) := by kernel_rfl
theorem f7_eq (n : Nat) (x : List C) (a : Int) : evFn tab FH nO false lv7 false n Try.f7 [.agg 34 x [], .one (.c (.int .i64 a))] [] = bcond ([(splice [C.int IntKind.i64 (0 : Int), C.int IntKind.i64 (0 : Int), C.str (ByteArray.mk #[]), C.int IntKind.i64 (0 : Int), C.int IntKind.i64 (0 : Int), C.int IntKind.u8 (0 : Int), C.int IntKind.u8 (0 : Int), C.int IntKind.u8 (0 : Int), C.int IntKind.u8 (0 : Int), C.int IntKind.u8 (0 : Int), C.int IntKind.u8 (0 : Int), C.int IntKind.u8 (0 : Int), C.int IntKind.u8 (0 : Int), C.int IntKind.u8 (0 : Int), C.int IntKind.u8 (0 : Int), C.int IntKind.u8 (0 : Int), C.int IntKind.u8 (0 : Int), C.int IntKind.u8 (0 : Int), C.int IntKind.u8 (0 : Int), C.int IntKind.u8 (0 : Int), C.int IntKind.u8 (0 : Int), C.int IntKind.i64 (0 : Int), C.int IntKind.i64 (0 : Int), C.sl (5 : TypeId) [], C.bool false, C.int IntKind.i64 (0 : Int), C.sl (9 : TypeId) [], C.bool false, C.bool false, C.sl (29 : TypeId) [], C.sl (42 : TypeId) [], C.str (ByteArray.mk #[]), C.str (ByteArray.mk #[]), C.str (ByteArray.mk #[])] (24 : Nat) x).set (23 : Nat) (C.sl (5 : TypeId) [])].all fun x => (cl x (26 : Nat)).toL.length.ble lim50) (bcond (!lightB [(splice [C.int IntKind.i64 (0 : Int), C.int IntKind.i64 (0 : Int), C.str (ByteArray.mk #[]), C.int IntKind.i64 (0 : Int), C.int IntKind.i64 (0 : Int), C.int IntKind.u8 (0 : Int), C.int IntKind.u8 (0 : Int), C.int IntKind.u8 (0 : Int), C.int IntKind.u8 (0 : Int), C.int IntKind.u8 (0 : Int), C.int IntKind.u8 (0 : Int), C.int IntKind.u8 (0 : Int), C.int IntKind.u8 (0 : Int), C.int IntKind.u8 (0 : Int), C.int IntKind.u8 (0 : Int), C.int IntKind.u8 (0 : Int), C.int IntKind.u8 (0 : Int), C.int IntKind.u8 (0 : Int), C.int IntKind.u8 (0 : Int), C.int IntKind.u8 (0 : Int), C.int IntKind.u8 (0 : Int), C.int IntKind.i64 (0 : Int), C.int IntKind.i64 (0 : Int), C.sl (5 : TypeId) [], C.bool false, C.int IntKind.i64 (0 : Int), C.sl (9 : TypeId) [], C.bool false, C.bool false, C.sl (29 : TypeId) [], C.sl (42 : TypeId) [], C.str (ByteArray.mk #[]), C.str (ByteArray.mk #[]), C.str (ByteArray.mk #[])] (24 : Nat) x).set (23 : Nat) (C.sl (5 : TypeId) [])]) (some ((V.one (A.c (C.bool true)), []))) (bcond ([(splice [C.int IntKind.i64 (3 : Int), C.int IntKind.i64 (iand IntKind.i64 a (7 : Int)), C.str (ByteArray.mk #[]), C.int IntKind.i64 (0 : Int), C.int IntKind.i64 (0 : Int), C.int IntKind.u8 (0 : Int), C.int IntKind.u8 (0 : Int), C.int IntKind.u8 (0 : Int), C.int IntKind.u8 (0 : Int), C.int IntKind.u8 (0 : Int), C.int IntKind.u8 (0 : Int), C.int IntKind.u8 (0 : Int), C.int IntKind.u8 (0 : Int), C.int IntKind.u8 (0 : Int), C.int IntKind.u8 (0 : Int), C.int IntKind.u8 (0 : Int), C.int IntKind.u8 (0 : Int), C.int IntKind.u8 (0 : Int), C.int IntKind.u8 (0 : Int), C.int IntKind.u8 (0 : Int), C.int IntKind.u8 (0 : Int), C.int IntKind.i64 (0 : Int), C.int IntKind.i64 (0 : Int), C.sl (5 : TypeId) [], C.bool false, C.int IntKind.i64 (0 : Int), C.sl (9 : TypeId) [], C.bool false, C.bool false, C.sl (29 : TypeId) [], C.sl (42 : TypeId) [], C.str (ByteArray.mk #[]), C.str (ByteArray.mk #[]), C.str (ByteArray.mk #[])] (24 : Nat) x).set (23 : Nat) (C.sl (5 : TypeId) [])].all okEv && [(splice [C.int IntKind.i64 (3 : Int), C.int IntKind.i64 (iand IntKind.i64 a (7 : Int)), C.str (ByteArray.mk #[]), C.int IntKind.i64 (0 : Int), C.int IntKind.i64 (0 : Int), C.int IntKind.u8 (0 : Int), C.int IntKind.u8 (0 : Int), C.int IntKind.u8 (0 : Int), C.int IntKind.u8 (0 : Int), C.int IntKind.u8 (0 : Int), C.int IntKind.u8 (0 : Int), C.int IntKind.u8 (0 : Int), C.int IntKind.u8 (0 : Int), C.int IntKind.u8 (0 : Int), C.int IntKind.u8 (0 : Int), C.int IntKind.u8 (0 : Int), C.int IntKind.u8 (0 : Int), C.int IntKind.u8 (0 : Int), C.int IntKind.u8 (0 : Int), C.int IntKind.u8 (0 : Int), C.int IntKind.u8 (0 : Int), C.int IntKind.i64 (0 : Int), C.int IntKind.i64 (0 : Int), C.sl (5 : TypeId) [], C.bool false, C.int IntKind.i64 (0 : Int), C.sl (9 : TypeId) [], C.bool false, C.bool false, C.sl (29 : TypeId) [], C.sl (42 : TypeId) [], C.str (ByteArray.mk #[]), C.str (ByteArray.mk #[]), C.str (ByteArray.mk #[])] (24 : Nat) x).set (23 : Nat) (C.sl (5 : TypeId) [])].length.ble (100000 : Nat)) (bcond (isB (toB (encR [(splice [C.int IntKind.i64 (3 : Int), C.int IntKind.i64 (iand IntKind.i64 a (7 : Int)), C.str (ByteArray.mk #[]), C.int IntKind.i64 (0 : Int), C.int IntKind.i64 (0 : Int), C.int IntKind.u8 (0 : Int), C.int IntKind.u8 (0 : Int), C.int IntKind.u8 (0 : Int), C.int IntKind.u8 (0 : Int), C.int IntKind.u8 (0 : Int), C.int IntKind.u8 (0 : Int), C.int IntKind.u8 (0 : Int), C.int IntKind.u8 (0 : Int), C.int IntKind.u8 (0 : Int), C.int IntKind.u8 (0 : Int), C.int IntKind.u8 (0 : Int), C.int IntKind.u8 (0 : Int), C.int IntKind.u8 (0 : Int), C.int IntKind.u8 (0 : Int), C.int IntKind.u8 (0 : Int), C.int IntKind.u8 (0 : Int), C.int IntKind.i64 (0 : Int), C.int IntKind.i64 (0 : Int), C.sl (5 : TypeId) [], C.bool false, C.int IntKind.i64 (0 : Int), C.sl (9 : TypeId) [], C.bool false, C.bool false, C.sl (29 : TypeId) [], C.sl (42 : TypeId) [], C.str (ByteArray.mk #[]), C.str (ByteArray.mk #[]), C.str (ByteArray.mk #[])] (24 : Nat) x).set (23 : Nat) (C.sl (5 : TypeId) [])])) && (toB (encR [(splice [C.int IntKind.i64 (3 : Int), C.int IntKind.i64 (iand IntKind.i64 a (7 : Int)), C.str (ByteArray.mk #[]), C.int IntKind.i64 (0 : Int), C.int IntKind.i64 (0 : Int), C.int IntKind.u8 (0 : Int), C.int IntKind.u8 (0 : Int), C.int IntKind.u8 (0 : Int), C.int IntKind.u8 (0 : Int), C.int IntKind.u8 (0 : Int), C.int IntKind.u8 (0 : Int), C.int IntKind.u8 (0 : Int), C.int IntKind.u8 (0 : Int), C.int IntKind.u8 (0 : Int), C.int IntKind.u8 (0 : Int), C.int IntKind.u8 (0 : Int), C.int IntKind.u8 (0 : Int), C.int IntKind.u8 (0 : Int), C.int IntKind.u8 (0 : Int), C.int IntKind.u8 (0 : Int), C.int IntKind.u8 (0 : Int), C.int IntKind.i64 (0 : Int), C.int IntKind.i64 (0 : Int), C.sl (5 : TypeId) [], C.bool false, C.int IntKind.i64 (0 : Int), C.sl (9 : TypeId) [], C.bool false, C.bool false, C.sl (29 : TypeId) [], C.sl (42 : TypeId) [], C.str (ByteArray.mk #[]), C.str (ByteArray.mk #[]), C.str (ByteArray.mk #[])] (24 : Nat) x).set (23 : Nat) (C.sl (5 : TypeId) [])])).length.ble lim38) (bcond ((↑(decR (unB (toB (encR [(splice [C.int IntKind.i64 (3 : Int), C.int IntKind.i64 (iand IntKind.i64 a (7 : Int)), C.str (ByteArray.mk #[]), C.int IntKind.i64 (0 : Int), C.int IntKind.i64 (0 : Int), C.int IntKind.u8 (0 : Int), C.int IntKind.u8 (0 : Int), C.int IntKind.u8 (0 : Int), C.int IntKind.u8 (0 : Int), C.int IntKind.u8 (0 : Int), C.int IntKind.u8 (0 : Int), C.int IntKind.u8 (0 : Int), C.int IntKind.u8 (0 : Int), C.int IntKind.u8 (0 : Int), C.int IntKind.u8 (0 : Int), C.int IntKind.u8 (0 : Int), C.int IntKind.u8 (0 : Int), C.int IntKind.u8 (0 : Int), C.int IntKind.u8 (0 : Int), C.int IntKind.u8 (0 : Int), C.int IntKind.u8 (0 : Int), C.int IntKind.i64 (0 : Int), C.int IntKind.i64 (0 : Int), C.sl (5 : TypeId) [], C.bool false, C.int IntKind.i64 (0 : Int), C.sl (9 : TypeId) [], C.bool false, C.bool false, C.sl (29 : TypeId) [], C.sl (42 : TypeId) [], C.str (ByteArray.mk #[]), C.str (ByteArray.mk #[]), C.str (ByteArray.mk #[])] (24 : Nat) x).set (23 : Nat) (C.sl (5 : TypeId) [])])))).length : Int) != (1 : Int)) (some ((V.one (A.c (C.bool false)), []))) (bcond (inB (0 : Int) (decR (unB (toB (encR [(splice [C.int IntKind.i64 (3 : Int), C.int IntKind.i64 (iand IntKind.i64 a (7 : Int)), C.str (ByteArray.mk #[]), C.int IntKind.i64 (0 : Int), C.int IntKind.i64 (0 : Int), C.int IntKind.u8 (0 : Int), C.int IntKind.u8 (0 : Int), C.int IntKind.u8 (0 : Int), C.int IntKind.u8 (0 : Int), C.int IntKind.u8 (0 : Int), C.int IntKind.u8 (0 : Int), C.int IntKind.u8 (0 : Int), C.int IntKind.u8 (0 : Int), C.int IntKind.u8 (0 : Int), C.int IntKind.u8 (0 : Int), C.int IntKind.u8 (0 : Int), C.int IntKind.u8 (0 : Int), C.int IntKind.u8 (0 : Int), C.int IntKind.u8 (0 : Int), C.int IntKind.u8 (0 : Int), C.int IntKind.u8 (0 : Int), C.int IntKind.i64 (0 : Int), C.int IntKind.i64 (0 : Int), C.sl (5 : TypeId) [], C.bool false, C.int IntKind.i64 (0 : Int), C.sl (9 : TypeId) [], C.bool false, C.bool false, C.sl (29 : TypeId) [], C.sl (42 : TypeId) [], C.str (ByteArray.mk #[]), C.str (ByteArray.mk #[]), C.str (ByteArray.mk #[])] (24 : Nat) x).set (23 : Nat) (C.sl (5 : TypeId) [])])))).length) (bcond ((cl (el (decR (unB (toB (encR [(splice [C.int IntKind.i64 (3 : Int), C.int IntKind.i64 (iand IntKind.i64 a (7 : Int)), C.str (ByteArray.mk #[]), C.int IntKind.i64 (0 : Int), C.int IntKind.i64 (0 : Int), C.int IntKind.u8 (0 : Int), C.int IntKind.u8 (0 : Int), C.int IntKind.u8 (0 : Int), C.int IntKind.u8 (0 : Int), C.int IntKind.u8 (0 : Int), C.int IntKind.u8 (0 : Int), C.int IntKind.u8 (0 : Int), C.int IntKind.u8 (0 : Int), C.int IntKind.u8 (0 : Int), C.int IntKind.u8 (0 : Int), C.int IntKind.u8 (0 : Int), C.int IntKind.u8 (0 : Int), C.int IntKind.u8 (0 : Int), C.int IntKind.u8 (0 : Int), C.int IntKind.u8 (0 : Int), C.int IntKind.u8 (0 : Int), C.int IntKind.i64 (0 : Int), C.int IntKind.i64 (0 : Int), C.sl (5 : TypeId) [], C.bool false, C.int IntKind.i64 (0 : Int), C.sl (9 : TypeId) [], C.bool false, C.bool false, C.sl (29 : TypeId) [], C.sl (42 : TypeId) [], C.str (ByteArray.mk #[]), C.str (ByteArray.mk #[]), C.str (ByteArray.mk #[])] (24 : Nat) x).set (23 : Nat) (C.sl (5 : TypeId) [])])))) (0 : Nat)) (0 : Nat)).toI != (3 : Int)) (some ((V.one (A.c (C.bool false)), []))) (bcond (inB (0 : Int) (decR (unB (toB (encR [(splice [C.int IntKind.i64 (3 : Int), C.int IntKind.i64 (iand IntKind.i64 a (7 : Int)), C.str (ByteArray.mk #[]), C.int IntKind.i64 (0 : Int), C.int IntKind.i64 (0 : Int), C.int IntKind.u8 (0 : Int), C.int IntKind.u8 (0 : Int), C.int IntKind.u8 (0 : Int), C.int IntKind.u8 (0 : Int), C.int IntKind.u8 (0 : Int), C.int IntKind.u8 (0 : Int), C.int IntKind.u8 (0 : Int), C.int IntKind.u8 (0 : Int), C.int IntKind.u8 (0 : Int), C.int IntKind.u8 (0 : Int), C.int IntKind.u8 (0 : Int), C.int IntKind.u8 (0 : Int), C.int IntKind.u8 (0 : Int), C.int IntKind.u8 (0 : Int), C.int IntKind.u8 (0 : Int), C.int IntKind.u8 (0 : Int), C.int IntKind.i64 (0 : Int), C.int IntKind.i64 (0 : Int), C.sl (5 : TypeId) [], C.bool false, C.int IntKind.i64 (0 : Int), C.sl (9 : TypeId) [], C.bool false, C.bool false, C.sl (29 : TypeId) [], C.sl (42 : TypeId) [], C.str (ByteArray.mk #[]), C.str (ByteArray.mk #[]), C.str (ByteArray.mk #[])] (24 : Nat) x).set (23 : Nat) (C.sl (5 : TypeId) [])])))).length) (bcond ((cl (el (decR (unB (toB (encR [(splice [C.int IntKind.i64 (3 : Int), C.int IntKind.i64 (iand IntKind.i64 a (7 : Int)), C.str (ByteArray.mk #[]), C.int IntKind.i64 (0 : Int), C.int IntKind.i64 (0 : Int), C.int IntKind.u8 (0 : Int), C.int IntKind.u8 (0 : Int), C.int IntKind.u8 (0 : Int), C.int IntKind.u8 (0 : Int), C.int IntKind.u8 (0 : Int), C.int IntKind.u8 (0 : Int), C.int IntKind.u8 (0 : Int), C.int IntKind.u8 (0 : Int), C.int IntKind.u8 (0 : Int), C.int IntKind.u8 (0 : Int), C.int IntKind.u8 (0 : Int), C.int IntKind.u8 (0 : Int), C.int IntKind.u8 (0 : Int), C.int IntKind.u8 (0 : Int), C.int IntKind.u8 (0 : Int), C.int IntKind.u8 (0 : Int), C.int IntKind.i64 (0 : Int), C.int IntKind.i64 (0 : Int), C.sl (5 : TypeId) [], C.bool false, C.int IntKind.i64 (0 : Int), C.sl (9 : TypeId) [], C.bool false, C.bool false, C.sl (29 : TypeId) [], C.sl (42 : TypeId) [], C.str (ByteArray.mk #[]), C.str (ByteArray.mk #[]), C.str (ByteArray.mk #[])] (24 : Nat) x).set (23 : Nat) (C.sl (5 : TypeId) [])])))) (0 : Nat)) (1 : Nat)).toI != iand IntKind.i64 a (7 : Int)) (some ((V.one (A.c (C.bool false)), []))) (bcond (inB (0 : Int) (decR (unB (toB (encR [(splice [C.int IntKind.i64 (3 : Int), C.int IntKind.i64 (iand IntKind.i64 a (7 : Int)), C.str (ByteArray.mk #[]), C.int IntKind.i64 (0 : Int), C.int IntKind.i64 (0 : Int), C.int IntKind.u8 (0 : Int), C.int IntKind.u8 (0 : Int), C.int IntKind.u8 (0 : Int), C.int IntKind.u8 (0 : Int), C.int IntKind.u8 (0 : Int), C.int IntKind.u8 (0 : Int), C.int IntKind.u8 (0 : Int), C.int IntKind.u8 (0 : Int), C.int IntKind.u8 (0 : Int), C.int IntKind.u8 (0 : Int), C.int IntKind.u8 (0 : Int), C.int IntKind.u8 (0 : Int), C.int IntKind.u8 (0 : Int), C.int IntKind.u8 (0 : Int), C.int IntKind.u8 (0 : Int), C.int IntKind.u8 (0 : Int), C.int IntKind.i64 (0 : Int), C.int IntKind.i64 (0 : Int), C.sl (5 : TypeId) [], C.bool false, C.int IntKind.i64 (0 : Int), C.sl (9 : TypeId) [], C.bool false, C.bool false, C.sl (29 : TypeId) [], C.sl (42 : TypeId) [], C.str (ByteArray.mk #[]), C.str (ByteArray.mk #[]), C.str (ByteArray.mk #[])] (24 : Nat) x).set (23 : Nat) (C.sl (5 : TypeId) [])])))).length) (bcond (!(cl (sub (el (decR (unB (toB (encR [(splice [C.int IntKind.i64 (3 : Int), C.int IntKind.i64 (iand IntKind.i64 a (7 : Int)), C.str (ByteArray.mk #[]), C.int IntKind.i64 (0 : Int), C.int IntKind.i64 (0 : Int), C.int IntKind.u8 (0 : Int), C.int IntKind.u8 (0 : Int), C.int IntKind.u8 (0 : Int), C.int IntKind.u8 (0 : Int), C.int IntKind.u8 (0 : Int), C.int IntKind.u8 (0 : Int), C.int IntKind.u8 (0 : Int), C.int IntKind.u8 (0 : Int), C.int IntKind.u8 (0 : Int), C.int IntKind.u8 (0 : Int), C.int IntKind.u8 (0 : Int), C.int IntKind.u8 (0 : Int), C.int IntKind.u8 (0 : Int), C.int IntKind.u8 (0 : Int), C.int IntKind.u8 (0 : Int), C.int IntKind.u8 (0 : Int), C.int IntKind.i64 (0 : Int), C.int IntKind.i64 (0 : Int), C.sl (5 : TypeId) [], C.bool false, C.int IntKind.i64 (0 : Int), C.sl (9 : TypeId) [], C.bool false, C.bool false, C.sl (29 : TypeId) [], C.sl (42 : TypeId) [], C.str (ByteArray.mk #[]), C.str (ByteArray.mk #[]), C.str (ByteArray.mk #[])] (24 : Nat) x).set (23 : Nat) (C.sl (5 : TypeId) [])])))) (0 : Nat)) (24 : Nat) (7 : Nat)) (3 : Nat)).toB == (cl x (3 : Nat)).toB) (some ((V.one (A.c (C.bool false)), []))) (bcond (!(cl (sub (el (decR (unB (toB (encR [(splice [C.int IntKind.i64 (3 : Int), C.int IntKind.i64 (iand IntKind.i64 a (7 : Int)), C.str (ByteArray.mk #[]), C.int IntKind.i64 (0 : Int), C.int IntKind.i64 (0 : Int), C.int IntKind.u8 (0 : Int), C.int IntKind.u8 (0 : Int), C.int IntKind.u8 (0 : Int), C.int IntKind.u8 (0 : Int), C.int IntKind.u8 (0 : Int), C.int IntKind.u8 (0 : Int), C.int IntKind.u8 (0 : Int), C.int IntKind.u8 (0 : Int), C.int IntKind.u8 (0 : Int), C.int IntKind.u8 (0 : Int), C.int IntKind.u8 (0 : Int), C.int IntKind.u8 (0 : Int), C.int IntKind.u8 (0 : Int), C.int IntKind.u8 (0 : Int), C.int IntKind.u8 (0 : Int), C.int IntKind.u8 (0 : Int), C.int IntKind.i64 (0 : Int), C.int IntKind.i64 (0 : Int), C.sl (5 : TypeId) [], C.bool false, C.int IntKind.i64 (0 : Int), C.sl (9 : TypeId) [], C.bool false, C.bool false, C.sl (29 : TypeId) [], C.sl (42 : TypeId) [], C.str (ByteArray.mk #[]), C.str (ByteArray.mk #[]), C.str (ByteArray.mk #[])] (24 : Nat) x).set (23 : Nat) (C.sl (5 : TypeId) [])])))) (0 : Nat)) (24 : Nat) (7 : Nat)) (4 : Nat)).toB == (cl x (4 : Nat)).toB) (some ((V.one (A.c (C.bool false)), []))) (bcond ((↑(cl (sub (el (decR (unB (toB (encR [(splice [C.int IntKind.i64 (3 : Int), C.int IntKind.i64 (iand IntKind.i64 a (7 : Int)), C.str (ByteArray.mk #[]), C.int IntKind.i64 (0 : Int), C.int IntKind.i64 (0 : Int), C.int IntKind.u8 (0 : Int), C.int IntKind.u8 (0 : Int), C.int IntKind.u8 (0 : Int), C.int IntKind.u8 (0 : Int), C.int IntKind.u8 (0 : Int), C.int IntKind.u8 (0 : Int), C.int IntKind.u8 (0 : Int), C.int IntKind.u8 (0 : Int), C.int IntKind.u8 (0 : Int), C.int IntKind.u8 (0 : Int), C.int IntKind.u8 (0 : Int), C.int IntKind.u8 (0 : Int), C.int IntKind.u8 (0 : Int), C.int IntKind.u8 (0 : Int), C.int IntKind.u8 (0 : Int), C.int IntKind.u8 (0 : Int), C.int IntKind.i64 (0 : Int), C.int IntKind.i64 (0 : Int), C.sl (5 : TypeId) [], C.bool false, C.int IntKind.i64 (0 : Int), C.sl (9 : TypeId) [], C.bool false, C.bool false, C.sl (29 : TypeId) [], C.sl (42 : TypeId) [], C.str (ByteArray.mk #[]), C.str (ByteArray.mk #[]), C.str (ByteArray.mk #[])] (24 : Nat) x).set (23 : Nat) (C.sl (5 : TypeId) [])])))) (0 : Nat)) (24 : Nat) (7 : Nat)) (2 : Nat)).toL.length : Int) != if (3 : Int) < (↑(cl x (2 : Nat)).toL.length : Int) then (3 : Int) else (↑(cl x (2 : Nat)).toL.length : Int)) (some ((V.one (A.c (C.bool false)), []))) (bcond ((↑(cl (sub (el (decR (unB (toB (encR [(splice [C.int IntKind.i64 (3 : Int), C.int IntKind.i64 (iand IntKind.i64 a (7 : Int)), C.str (ByteArray.mk #[]), C.int IntKind.i64 (0 : Int), C.int IntKind.i64 (0 : Int), C.int IntKind.u8 (0 : Int), C.int IntKind.u8 (0 : Int), C.int IntKind.u8 (0 : Int), C.int IntKind.u8 (0 : Int), C.int IntKind.u8 (0 : Int), C.int IntKind.u8 (0 : Int), C.int IntKind.u8 (0 : Int), C.int IntKind.u8 (0 : Int), C.int IntKind.u8 (0 : Int), C.int IntKind.u8 (0 : Int), C.int IntKind.u8 (0 : Int), C.int IntKind.u8 (0 : Int), C.int IntKind.u8 (0 : Int), C.int IntKind.u8 (0 : Int), C.int IntKind.u8 (0 : Int), C.int IntKind.u8 (0 : Int), C.int IntKind.i64 (0 : Int), C.int IntKind.i64 (0 : Int), C.sl (5 : TypeId) [], C.bool false, C.int IntKind.i64 (0 : Int), C.sl (9 : TypeId) [], C.bool false, C.bool false, C.sl (29 : TypeId) [], C.sl (42 : TypeId) [], C.str (ByteArray.mk #[]), C.str (ByteArray.mk #[]), C.str (ByteArray.mk #[])] (24 : Nat) x).set (23 : Nat) (C.sl (5 : TypeId) [])])))) (0 : Nat)) (24 : Nat) (7 : Nat)) (5 : Nat)).toL.length : Int) != if (3 : Int) < (↑(cl x (5 : Nat)).toL.length : Int) then (3 : Int) else (↑(cl x (5 : Nat)).toL.length : Int)) (some ((V.one (A.c (C.bool false)), []))) (bcond ((↑(cl (sub (el (decR (unB (toB (encR [(splice [C.int IntKind.i64 (3 : Int), C.int IntKind.i64 (iand IntKind.i64 a (7 : Int)), C.str (ByteArray.mk #[]), C.int IntKind.i64 (0 : Int), C.int IntKind.i64 (0 : Int), C.int IntKind.u8 (0 : Int), C.int IntKind.u8 (0 : Int), C.int IntKind.u8 (0 : Int), C.int IntKind.u8 (0 : Int), C.int IntKind.u8 (0 : Int), C.int IntKind.u8 (0 : Int), C.int IntKind.u8 (0 : Int), C.int IntKind.u8 (0 : Int), C.int IntKind.u8 (0 : Int), C.int IntKind.u8 (0 : Int), C.int IntKind.u8 (0 : Int), C.int IntKind.u8 (0 : Int), C.int IntKind.u8 (0 : Int), C.int IntKind.u8 (0 : Int), C.int IntKind.u8 (0 : Int), C.int IntKind.u8 (0 : Int), C.int IntKind.i64 (0 : Int), C.int IntKind.i64 (0 : Int), C.sl (5 : TypeId) [], C.bool false, C.int IntKind.i64 (0 : Int), C.sl (9 : TypeId) [], C.bool false, C.bool false, C.sl (29 : TypeId) [], C.sl (42 : TypeId) [], C.str (ByteArray.mk #[]), C.str (ByteArray.mk #[]), C.str (ByteArray.mk #[])] (24 : Nat) x).set (23 : Nat) (C.sl (5 : TypeId) [])])))) (0 : Nat)) (24 : Nat) (7 : Nat)) (6 : Nat)).toL.length : Int) != if (3 : Int) < (↑(cl x (6 : Nat)).toL.length : Int) then (3 : Int) else (↑(cl x (6 : Nat)).toL.length : Int)) (some ((V.one (A.c (C.bool false)), []))) (bcond ((cl (sub (el (decR (unB (toB (encR [(splice [C.int IntKind.i64 (3 : Int), C.int IntKind.i64 (iand IntKind.i64 a (7 : Int)), C.str (ByteArray.mk #[]), C.int IntKind.i64 (0 : Int), C.int IntKind.i64 (0 : Int), C.int IntKind.u8 (0 : Int), C.int IntKind.u8 (0 : Int), C.int IntKind.u8 (0 : Int), C.int IntKind.u8 (0 : Int), C.int IntKind.u8 (0 : Int), C.int IntKind.u8 (0 : Int), C.int IntKind.u8 (0 : Int), C.int IntKind.u8 (0 : Int), C.int IntKind.u8 (0 : Int), C.int IntKind.u8 (0 : Int), C.int IntKind.u8 (0 : Int), C.int IntKind.u8 (0 : Int), C.int IntKind.u8 (0 : Int), C.int IntKind.u8 (0 : Int), C.int IntKind.u8 (0 : Int), C.int IntKind.u8 (0 : Int), C.int IntKind.i64 (0 : Int), C.int IntKind.i64 (0 : Int), C.sl (5 : TypeId) [], C.bool false, C.int IntKind.i64 (0 : Int), C.sl (9 : TypeId) [], C.bool false, C.bool false, C.sl (29 : TypeId) [], C.sl (42 : TypeId) [], C.str (ByteArray.mk #[]), C.str (ByteArray.mk #[]), C.str (ByteArray.mk #[])] (24 : Nat) x).set (23 : Nat) (C.sl (5 : TypeId) [])])))) (0 : Nat)) (24 : Nat) (7 : Nat)) (0 : Nat)).toB) (some ((V.one (A.c (C.bool false)), []))) (evLoop false (f7_s12 n) n (f7_h12 ((cl (sub (el (decR (unB (toB (encR [(splice [C.int IntKind.i64 (3 : Int), C.int IntKind.i64 (iand IntKind.i64 a (7 : Int)), C.str (ByteArray.mk #[]), C.int IntKind.i64 (0 : Int), C.int IntKind.i64 (0 : Int), C.int IntKind.u8 (0 : Int), C.int IntKind.u8 (0 : Int), C.int IntKind.u8 (0 : Int), C.int IntKind.u8 (0 : Int), C.int IntKind.u8 (0 : Int), C.int IntKind.u8 (0 : Int), C.int IntKind.u8 (0 : Int), C.int IntKind.u8 (0 : Int), C.int IntKind.u8 (0 : Int), C.int IntKind.u8 (0 : Int), C.int IntKind.u8 (0 : Int), C.int IntKind.u8 (0 : Int), C.int IntKind.u8 (0 : Int), C.int IntKind.u8 (0 : Int), C.int IntKind.u8 (0 : Int), C.int IntKind.u8 (0 : Int), C.int IntKind.i64 (0 : Int), C.int IntKind.i64 (0 : Int), C.sl (5 : TypeId) [], C.bool false, C.int IntKind.i64 (0 : Int), C.sl (9 : TypeId) [], C.bool false, C.bool false, C.sl (29 : TypeId) [], C.sl (42 : TypeId) [], C.str (ByteArray.mk #[]), C.str (ByteArray.mk #[]), C.str (ByteArray.mk #[])] (24 : Nat) x).set (23 : Nat) (C.sl (5 : TypeId) [])])))) (0 : Nat)) (24 : Nat) (7 : Nat)) (2 : Nat)).toL) ((↑(cl (sub (el (decR (unB (toB (encR [(splice [C.int IntKind.i64 (3 : Int), C.int IntKind.i64 (iand IntKind.i64 a (7 : Int)), C.str (ByteArray.mk #[]), C.int IntKind.i64 (0 : Int), C.int IntKind.i64 (0 : Int), C.int IntKind.u8 (0 : Int), C.int IntKind.u8 (0 : Int), C.int IntKind.u8 (0 : Int), C.int IntKind.u8 (0 : Int), C.int IntKind.u8 (0 : Int), C.int IntKind.u8 (0 : Int), C.int IntKind.u8 (0 : Int), C.int IntKind.u8 (0 : Int), C.int IntKind.u8 (0 : Int), C.int IntKind.u8 (0 : Int), C.int IntKind.u8 (0 : Int), C.int IntKind.u8 (0 : Int), C.int IntKind.u8 (0 : Int), C.int IntKind.u8 (0 : Int), C.int IntKind.u8 (0 : Int), C.int IntKind.u8 (0 : Int), C.int IntKind.i64 (0 : Int), C.int IntKind.i64 (0 : Int), C.sl (5 : TypeId) [], C.bool false, C.int IntKind.i64 (0 : Int), C.sl (9 : TypeId) [], C.bool false, C.bool false, C.sl (29 : TypeId) [], C.sl (42 : TypeId) [], C.str (ByteArray.mk #[]), C.str (ByteArray.mk #[]), C.str (ByteArray.mk #[])] (24 : Nat) x).set (23 : Nat) (C.sl (5 : TypeId) [])])))) (0 : Nat)) (24 : Nat) (7 : Nat)) (2 : Nat)).toL.length : Int)) ((0 : Int)) (x) (sub (el (decR (unB (toB (encR [(splice [C.int IntKind.i64 (3 : Int), C.int IntKind.i64 (iand IntKind.i64 a (7 : Int)), C.str (ByteArray.mk #[]), C.int IntKind.i64 (0 : Int), C.int IntKind.i64 (0 : Int), C.int IntKind.u8 (0 : Int), C.int IntKind.u8 (0 : Int), C.int IntKind.u8 (0 : Int), C.int IntKind.u8 (0 : Int), C.int IntKind.u8 (0 : Int), C.int IntKind.u8 (0 : Int), C.int IntKind.u8 (0 : Int), C.int IntKind.u8 (0 : Int), C.int IntKind.u8 (0 : Int), C.int IntKind.u8 (0 : Int), C.int IntKind.u8 (0 : Int), C.int IntKind.u8 (0 : Int), C.int IntKind.u8 (0 : Int), C.int IntKind.u8 (0 : Int), C.int IntKind.u8 (0 : Int), C.int IntKind.u8 (0 : Int), C.int IntKind.i64 (0 : Int), C.int IntKind.i64 (0 : Int), C.sl (5 : TypeId) [], C.bool false, C.int IntKind.i64 (0 : Int), C.sl (9 : TypeId) [], C.bool false, C.bool false, C.sl (29 : TypeId) [], C.sl (42 : TypeId) [], C.str (ByteArray.mk #[]), C.str (ByteArray.mk #[]), C.str (ByteArray.mk #[])] (24 : Nat) x).set (23 : Nat) (C.sl (5 : TypeId) [])])))) (0 : Nat)) (24 : Nat) (7 : Nat))) (f7_k12 n)))))))) (none))) (none))) (none))) (none)) (none))) (none) := by kernel_rfl


theorem isC8_c8byC {c : C} (h : isC8 c = true) : c8 (byC c) = c := by
  have := isC8_eq h
  have h2 : [c8 (byC c)] = [c] := this.symm
  exact (List.cons.inj h2).1
theorem eqL_c8 : ∀ (l : List C), (∀ c ∈ l, isC8 c = true) → eqL l l = true
  | [], _ => rfl
  | c :: l, h => by
    have hc : eqC c c = true := by
      rw [← isC8_c8byC (h c (List.mem_cons_self ..))]
      simp [c8, eqC]
    rw [eqL, hc, eqL_c8 l fun d hd => h d (List.mem_cons_of_mem _ hd)]
    rfl
theorem map_c8 {e : List C} (h : okAdr e = true) : (adB e).map c8 = sub e 0 16 := by
  unfold okAdr at h
  rw [List.all_eq_true] at h
  unfold adB
  rw [List.map_map]
  conv => rhs; rw [← List.map_id (sub e 0 16)]
  exact List.map_congr_left fun c hc => isC8_c8byC (h c hc)
theorem t3_get {D : List (List C)} (f : List C → List C) {i : Nat} {t : List C} (h : ((t3 D).map f)[i]? = some t) : ∃ d, D[i]? = some d ∧ t = f d := by
  rw [List.getElem?_map] at h
  unfold t3 at h
  rw [List.getElem?_take] at h
  split at h
  · cases hd : D[i]? with
    | none => rw [hd] at h; cases h
    | some d => rw [hd] at h; exact ⟨d, rfl, (Option.some.inj h).symm⟩
  · cases h

theorem f7_L12 (n : Nat) (k : X → St → Option R) (x y : List C) (T : List (List C)) (hT : T = (t3 (cl x 2).toL).map f1) (m : Nat) (hm : T.length < m) :
    evLoop false (f7_s12 n) m (f7_h12 T T.length 0 x y) k = k (X.exit 0) (f7_x12_0 x y) := by
  have h3 : T.length ≤ 3 := by rw [hT, List.length_map]; exact t3_len _
  exact fold_loop (xs := T) (L := fun m i (_ : Unit) => evLoop false (f7_s12 n) m (f7_h12 T T.length i x y) k) (f := fun _ _ => ()) (E := fun _ => k (X.exit 0) (f7_x12_0 x y)) (fun _ _ => True)
    (fun m i _ t ht hlt _ => by
      show evLoop false (f7_s12 n) (m + 1) _ k = evLoop false (f7_s12 n) m _ k
      obtain ⟨d, hd, rfl⟩ := t3_get f1 (by rw [← hT]; exact ht)
      have hdl := (List.getElem?_eq_some_iff.1 hd).1
      rw [f7_t12]
      simp only [lt_nat, inB_nat, Int.toNat_natCast, el_get ht, el_get hd, wrap_succ (i := i) (by omega), hlt, hdl, decide_true, bcond_t, cutS_ok]
      refine (bcond_no ?_ _ _).trans rfl
      show (!((cutS (cl d 0).toS).toList == (cutS (cl d 0).toS).toList)) = false
      simp)
    (fun _ _ _ _ _ _ => trivial)
    (fun m _ _ => by
      show evLoop false (f7_s12 n) (m + 1) _ k = _
      rw [f7_t12, lt_nat, bcond_no (by simp)])
    T.length 0 () m (by simp) hm trivial
theorem f7_L18 (n : Nat) (k : X → St → Option R) (x y : List C) (T : List (List C)) (hT : T = (t3 (cl x 5).toL).map f2) (hok : ∀ d ∈ (cl x 5).toL, okAdr d = true ∧ d.length = 16) (m : Nat) (hm : T.length < m) :
    evLoop false (f7_s18 n) m (f7_h18 T T.length 0 x y) k = k (X.exit 2) (f7_x18_2 x y) := by
  have h3 : T.length ≤ 3 := by rw [hT, List.length_map]; exact t3_len _
  exact fold_loop (xs := T) (L := fun m i (_ : Unit) => evLoop false (f7_s18 n) m (f7_h18 T T.length i x y) k) (f := fun _ _ => ()) (E := fun _ => k (X.exit 2) (f7_x18_2 x y)) (fun _ _ => True)
    (fun m i _ t ht hlt _ => by
      show evLoop false (f7_s18 n) (m + 1) _ k = evLoop false (f7_s18 n) m _ k
      obtain ⟨d, hd, rfl⟩ := t3_get f2 (by rw [← hT]; exact ht)
      have hdl := (List.getElem?_eq_some_iff.1 hd).1
      obtain ⟨o1, o2⟩ := hok d (List.mem_of_getElem? hd)
      have hs : sub d 0 16 = d := by unfold sub; rw [List.drop_zero, List.take_of_length_le (by omega)]
      have hf : f2 d = d := by unfold f2; rw [map_c8 o1, hs]
      have hc : eqL d d = true := eqL_c8 d (by unfold okAdr at o1; rw [hs, List.all_eq_true] at o1; exact o1)
      rw [f7_t18]
      simp only [lt_nat, inB_nat, Int.toNat_natCast, el_get ht, el_get hd, wrap_succ (i := i) (by omega), hlt, hdl, decide_true, bcond_t, hf, hc]
      rfl)
    (fun _ _ _ _ _ _ => trivial)
    (fun m _ _ => by
      show evLoop false (f7_s18 n) (m + 1) _ k = _
      rw [f7_t18, lt_nat, bcond_no (by simp)])
    T.length 0 () m (by simp) hm trivial
theorem f7_L24 (n : Nat) (k : X → St → Option R) (x : List C) (T : List (List C)) (hT : T = (t3 (cl x 6).toL).map f3) (hok : ∀ d ∈ (cl x 6).toL, okAdr d = true ∧ (adB d).length = 16) (m : Nat) (hm : T.length < m) :
    evLoop false (f7_s24 n) m (f7_h24 T T.length 0 x) k = k (X.exit 4) (f7_x24_4 x) := by
  have h3 : T.length ≤ 3 := by rw [hT, List.length_map]; exact t3_len _
  exact fold_loop (xs := T) (L := fun m i (_ : Unit) => evLoop false (f7_s24 n) m (f7_h24 T T.length i x) k) (f := fun _ _ => ()) (E := fun _ => k (X.exit 4) (f7_x24_4 x)) (fun _ _ => True)
    (fun m i _ t ht hlt _ => by
      show evLoop false (f7_s24 n) (m + 1) _ k = evLoop false (f7_s24 n) m _ k
      obtain ⟨d, hd, rfl⟩ := t3_get f3 (by rw [← hT]; exact ht)
      have hdl := (List.getElem?_eq_some_iff.1 hd).1
      obtain ⟨o1, o2⟩ := hok d (List.mem_of_getElem? hd)
      have hl16 : ((adB d).map c8).length = 16 := by rw [List.length_map]; exact o2
      have hs : sub (f3 d) 0 16 = sub d 0 16 := by
        rw [← map_c8 o1]
        unfold f3
        conv => lhs; unfold sub
        rw [List.drop_zero, take_app hl16]
      have hc : eqL (sub d 0 16) (sub d 0 16) = true := eqL_c8 _ (by unfold okAdr at o1; rw [List.all_eq_true] at o1; exact o1)
      have b16 : (cl (f3 d) 16).toB = false := by
        unfold f3 cl
        rw [List.getD_eq_getElem?_getD, List.getElem?_append_right (by omega), hl16]
        rfl
      have b17 : (cl (f3 d) 17).toB = false := by
        unfold f3 cl
        rw [List.getD_eq_getElem?_getD, List.getElem?_append_right (by omega), hl16]
        rfl
      rw [f7_t24]
      simp only [lt_nat, inB_nat, Int.toNat_natCast, el_get ht, el_get hd, wrap_succ (i := i) (by omega), hlt, hdl, decide_true, bcond_t, hs, hc, b16, b17]
      rfl)
    (fun _ _ _ _ _ _ => trivial)
    (fun m _ _ => by
      show evLoop false (f7_s24 n) (m + 1) _ k = _
      rw [f7_t24, lt_nat, bcond_no (by simp)])
    T.length 0 () m (by simp) hm trivial
def evL (kd lk : Int) (x : List C) : List C := evC kd lk emp 0 0 u16s 0 0 [] x emp emp emp
theorem min3 (l : List (List C)) (f : List C → List C) : ((((t3 l).map f).length : Int) != if (3 : Int) < (l.length : Int) then (3 : Int) else (l.length : Int)) = false := by
  rw [bne_eq_false_iff_eq, List.length_map]
  unfold t3
  rw [List.length_take]
  split <;> omega
/-- The tests ahead of the loops. -/
noncomputable def tail7 (n : Nat) (x : List C) (a : Int) (D : List (List C)) : Option R :=
  bcond ((D.length : Int) != 1) (some ((V.one (A.c (C.bool false)), []))) (bcond (inB 0 D.length) (bcond ((cl (el D 0) 0).toI != 3) (some ((V.one (A.c (C.bool false)), []))) (bcond (inB 0 D.length) (bcond ((cl (el D 0) 1).toI != iand .i64 a 7) (some ((V.one (A.c (C.bool false)), []))) (bcond (inB 0 D.length)
    (bcond (!((cl (sub (el D 0) 24 7) 3).toB == (cl x 3).toB)) (some ((V.one (A.c (C.bool false)), []))) (bcond (!((cl (sub (el D 0) 24 7) 4).toB == (cl x 4).toB)) (some ((V.one (A.c (C.bool false)), [])))
      (bcond (((cl (sub (el D 0) 24 7) 2).toL.length : Int) != if (3 : Int) < ((cl x 2).toL.length : Int) then (3 : Int) else ((cl x 2).toL.length : Int)) (some ((V.one (A.c (C.bool false)), [])))
        (bcond (((cl (sub (el D 0) 24 7) 5).toL.length : Int) != if (3 : Int) < ((cl x 5).toL.length : Int) then (3 : Int) else ((cl x 5).toL.length : Int)) (some ((V.one (A.c (C.bool false)), [])))
          (bcond (((cl (sub (el D 0) 24 7) 6).toL.length : Int) != if (3 : Int) < ((cl x 6).toL.length : Int) then (3 : Int) else ((cl x 6).toL.length : Int)) (some ((V.one (A.c (C.bool false)), [])))
            (bcond ((cl (sub (el D 0) 24 7) 0).toB) (some ((V.one (A.c (C.bool false)), []))) (evLoop false (f7_s12 n) n (f7_h12 ((cl (sub (el D 0) 24 7) 2).toL) (((cl (sub (el D 0) 24 7) 2).toL.length : Int)) 0 x (sub (el D 0) 24 7)) (f7_k12 n)))))))) none)) none)) none)
theorem f7_out (n : Nat) (hn : 10 < n) (b : Bool) (z : Int) (D : List (List C)) (d v : Bool) (S A : List (List C)) (a : Int) (w2 : Wf tab (.sl 9 D)) (w5 : Wf tab (.sl 29 S)) (w6 : Wf tab (.sl 42 A)) :
    evFn tab FH nO false lv7 false n Try.f7 [.agg 34 [.bool b, .int .i64 z, .sl 9 D, .bool d, .bool v, .sl 29 S, .sl 42 A] [], .one (.c (.int .i64 a))] [] = some (.one (.c (.bool true)), []) := by
  obtain ⟨x, hx⟩ : ∃ x : List C, x = [.bool b, .int .i64 z, .sl 9 D, .bool d, .bool v, .sl 29 S, .sl 42 A] := ⟨_, rfl⟩
  have hok := link_ok (y := x) (by rw [hx]; rfl) (by rw [hx]; rfl) w5 w6
  obtain ⟨hok1, hok2⟩ := hok
  have hx2 : (cl x 2).toL = D := by rw [hx]; rfl
  have hx5 : (cl x 5).toL = S := by rw [hx]; rfl
  have hx6 : (cl x 6).toL = A := by rw [hx]; rfl
  have hx7 : x.length = 7 := by rw [hx]; rfl
  obtain ⟨s0, s1, s2⟩ := wf_sl w5
  obtain ⟨a0, a1, a2⟩ := wf_sl w6
  obtain ⟨d0, d1, d2⟩ := wf_sl w2
  have okS := adr_ok (fun i hi => k16a ⟨i, hi⟩) (by decide) s1 s2
  have okA := adr_ok (fun i hi => k16b ⟨i, hi⟩) (by decide) a1 a2
  have okS1 := List.all_eq_true.1 okS.1
  have okA1 := List.all_eq_true.1 okA.1
  have hS16 : ∀ e ∈ (cl x 5).toL, okAdr e = true ∧ e.length = 16 := fun e he => by
    rw [hx5] at he
    exact ⟨okS1 e he, WKs.len (s1 e he)⟩
  have hA16 : ∀ e ∈ (cl x 6).toL, okAdr e = true ∧ (adB e).length = 16 := fun e he => by
    rw [hx6] at he
    exact ⟨okA1 e he, okA.2 e he⟩
  have P0 := evC_parts 0 0 emp 0 0 u16_len 0 0 [] hx7 emp emp emp
  have P3 := evC_parts 3 (iand .i64 a 7) emp 0 0 u16_len 0 0 [] hx7 emp emp emp
  have h38 : lim38 = 274877906944 := rfl
  have h26 : (cl (evL 0 0 x) 26).toL.length ≤ lim50 := by
    have : cl (sub (evL 0 0 x) 24 7) 2 = cl (evL 0 0 x) 26 := cl_sub (by decide)
    rw [← this, show sub (evL 0 0 x) 24 7 = x from P0.st, hx2]
    have hb : (ti tab 9).bytes = 16 := rfl
    rw [hb] at d0
    have h47 : Eng.lim = 140737488351232 := rfl
    have h50 : lim50 = 1125899906842624 := rfl
    omega
  have hg : GoodE (evL 3 (iand .i64 a 7) x) := good_of P3 u16_len u16_ok hok2 hok1
  have hg1 : ∀ e ∈ [evL 3 (iand .i64 a 7) x], GoodE e := fun e he => by obtain rfl := List.mem_singleton.1 he; exact hg
  have hk3 : kN (evL 3 (iand .i64 a 7) x) = 3 := by unfold kN evL; rw [P3.kd]; rfl
  have hl3 : lN (evL 3 (iand .i64 a 7) x) = iand .i64 a 7 := by unfold lN evL; rw [P3.lk, iand_7]; omega
  have hnm : nmE (evL 3 (iand .i64 a 7) x) = evL 3 (iand .i64 a 7) (nmL x) := by
    unfold nmE
    rw [hk3, hl3, if_neg (by decide), if_neg (by decide), if_pos rfl, show (cl (evL 3 (iand .i64 a 7) x) 22).toI = 0 from P3.dr, show sub (evL 3 (iand .i64 a 7) x) 24 7 = x from P3.st]
    rfl
  have Q := evC_parts 3 (iand .i64 a 7) emp 0 0 u16_len 0 0 [] (st := nmL x) rfl emp emp emp
  have hdec := decR_enc [evL 3 (iand .i64 a 7) x] hg1
  have hen := encR_len [evL 3 (iand .i64 a 7) x]
  refine Eq.trans (b := bcond ([evL 0 0 x].all fun x => Nat.ble (cl x 26).toL.length lim50) (bcond (!lightB [evL 0 0 x]) (some (.one (.c (.bool true)), [])) (bcond ([evL 3 (iand .i64 a 7) x].all okEv && Nat.ble [evL 3 (iand .i64 a 7) x].length 100000)
    (bcond (isB (toB (encR [evL 3 (iand .i64 a 7) x])) && Nat.ble (toB (encR [evL 3 (iand .i64 a 7) x])).length lim38) (tail7 n x a (decR (unB (toB (encR [evL 3 (iand .i64 a 7) x]))))) none) none)) none) ?_ ?_
  · rw [f7_eq, hx]; rfl
  · rw [bcond_of (by rw [List.all_cons, List.all_nil, Bool.and_true, Nat.ble_eq]; exact h26)]
    cases lightB [evL 0 0 x] with
    | false => rfl
    | true =>
      refine (bcond_no (by rfl) _ _).trans ?_
      rw [ok_all hg1 (by simp), bcond_t, bcond_of (by
        rw [isB_toB, toB_len, Bool.true_and, Nat.ble_eq]
        simp only [List.length_singleton] at hen
        omega), unB_toB, hdec, List.map_cons, List.map_nil, hnm]
      unfold tail7 evL
      have c0 : ∀ y : List C, el [y] 0 = y := fun _ => rfl
      rw [c0, Q.kd, Q.lk, Q.st]
      have n2 : (cl (nmL x) 2).toL = (t3 (cl x 2).toL).map f1 := rfl
      have n5 : (cl (nmL x) 5).toL = (t3 (cl x 5).toL).map f2 := rfl
      have n6 : (cl (nmL x) 6).toL = (t3 (cl x 6).toL).map f3 := rfl
      have m3 : (cl (nmL x) 3).toB = (cl x 3).toB := rfl
      have m4 : (cl (nmL x) 4).toB = (cl x 4).toB := rfl
      have m0 : (cl (nmL x) 0).toB = false := rfl
      rw [n2, n5, n6, m3, m4, m0, min3, min3, min3]
      have q1 : ∀ c : Bool, (!(c == c)) = false := fun c => by simp
      have q2 : (iand .i64 a 7 != iand .i64 a 7) = false := by simp
      rw [q1, q1, q2]
      have l1 := t3_len (cl x 2).toL
      have l2 := t3_len (cl x 5).toL
      have l3 := t3_len (cl x 6).toL
      refine Eq.trans (b := evLoop false (f7_s12 n) n (f7_h12 ((t3 (cl x 2).toL).map f1) (((t3 (cl x 2).toL).map f1).length : Int) 0 x (nmL x)) (f7_k12 n)) rfl ?_
      rw [f7_L12 n _ x (nmL x) _ rfl n (by rw [List.length_map]; omega), f7_a12_0, n5, f7_L18 n _ x (nmL x) _ rfl hS16 n (by rw [List.length_map]; omega), f7_a18_2, n6, f7_L24 n _ x _ rfl hA16 n (by rw [List.length_map]; omega), f7_a24_4]
theorem law_ScriptLinks : ∀ xs, All2 (ArgOk tab) [34, 3] xs → FnAt Try.prog tab 7 (List.zipWith (argV tab) [34, 3] xs) [] (.one (.c (.bool true))) [] := by
  intro xs h
  match xs, h with
  | [x, y], h =>
    obtain ⟨a, rfl⟩ := wk_int h.2.1.1
    have hl : x.length = 7 := WKs.len h.1.1
    obtain ⟨c0, c1, c2, c3, c4, c5, c6, rfl⟩ := len7 hl
    obtain ⟨h0, h1, h2, h3, h4, h5, h6, _⟩ := (show WKs [.bool, .int .i64, .sl 9, .bool, .bool, .sl 29, .sl 42] [c0, c1, c2, c3, c4, c5, c6] from h.1.1)
    obtain ⟨b, e0⟩ := wk_bool (x := [c0]) ⟨h0, trivial⟩
    obtain ⟨z, e1⟩ := wk_int (x := [c1]) ⟨h1, trivial⟩
    obtain ⟨D, e2⟩ := wk_sl (x := [c2]) ⟨h2, trivial⟩
    obtain ⟨d, e3⟩ := wk_bool (x := [c3]) ⟨h3, trivial⟩
    obtain ⟨v, e4⟩ := wk_bool (x := [c4]) ⟨h4, trivial⟩
    obtain ⟨S, e5⟩ := wk_sl (x := [c5]) ⟨h5, trivial⟩
    obtain ⟨A, e6⟩ := wk_sl (x := [c6]) ⟨h6, trivial⟩
    cases e0; cases e1; cases e2; cases e3; cases e4; cases e5; cases e6
    have hw := h.1.2
    exact fn7 sFH rfl (f7_out 11 (by omega) b z D d v S A a (hw _ (by simp)) (hw _ (by simp)) (hw _ (by simp)))

end Go.Proofs.Ytnbiincgplkmbaa
