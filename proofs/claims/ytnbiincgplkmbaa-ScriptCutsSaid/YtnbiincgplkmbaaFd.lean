/- Fd -/
import Derived.Test.YtnbiincgplkmbaaFc
import Derived.KernelRfl
namespace Go.Proofs.Ytnbiincgplkmbaa
open Go Go.Eng
set_option maxRecDepth 100000
def FD : Fun := mkF [(17, e17), (18, e18), (19, e19), (20, e20b), (21, e21)]
theorem sFD : FSound Try.prog tab FD := mkF_sound (fun p hp => by
  simp only [List.mem_cons, List.not_mem_nil, or_false] at hp
  rcases hp with rfl | rfl | rfl | rfl | rfl
  · exact es17
  · exact es18
  · exact es19
  · exact es20b
  · exact es21)

noncomputable abbrev f12_c3 : Code := (loops (body Try.f12)).getD 0 .skip
noncomputable abbrev f12_s3 (n : Nat) : St → (X → St → Option R) → Option R := fun st k => evCode tab FD nO lv12 false n f12_c3 st k
noncomputable abbrev f12_k3 (n : Nat) : X → St → Option R := after tab FD nO lv12 false n (body Try.f12) 0 (endK tab false Try.f12)
abbrev f12_h3 (b9_0 : List (List C)) (b4 : List (List C)) : St := { t := [((3 : Nat), V.one (A.ptr (Key.loc (9 : Nat) (0 : Nat)) (0 : Nat) (0 : Nat))), ((4 : Nat), V.one (A.own (Key.loc (4 : Nat) (0 : Nat)) (0 : Nat) (36 : Nat)))], h := [(Key.loc (9 : Nat) (0 : Nat), (0 : Nat), B.box (52 : Nat) [C.sl (5 : Nat) b9_0] []), (Key.loc (4 : Nat) (0 : Nat), (0 : Nat), B.arr (36 : Nat) true b4)] }
abbrev f12_x3_0 (b9_0 : List (List C)) (b4 : List (List C)) : St := { t := [((4 : Nat), V.one (A.own (Key.loc (4 : Nat) (0 : Nat)) (0 : Nat) (36 : Nat)))], h := [(Key.loc (9 : Nat) (0 : Nat), (0 : Nat), B.box (52 : Nat) [C.sl (5 : Nat) b9_0] []), (Key.loc (4 : Nat) (0 : Nat), (0 : Nat), B.arr (36 : Nat) true b4)] }
theorem f12_t3 (n m : Nat) (k : X → St → Option R) (b9_0 : List (List C)) (b4 : List (List C)) : evLoop false (f12_s3 n) (m + 1) (f12_h3 b9_0 b4) k = bcond (decide ((↑b9_0.length : Int) > (0 : Int))) (bcond (isB b9_0 && (decide ((0 : Int) ≤ (1 : Int)) && (decide ((1 : Int) ≤ (7 : Int)) && b9_0.length.ble lim40))) (bcond (iand IntKind.i64 (numB (List.take (1 : Nat) (unB b9_0))) (7 : Int) == (1 : Int)) (bcond (isB (toB (List.drop (1 : Nat) (unB b9_0))) && (decide ((0 : Int) ≤ (1 : Int)) && (decide ((1 : Int) ≤ (7 : Int)) && (toB (List.drop (1 : Nat) (unB b9_0))).length.ble lim40))) (bcond (isB (toB (List.drop (1 : Nat) (unB (toB (List.drop (1 : Nat) (unB b9_0)))))) && (decide ((0 : Int) ≤ (2 : Int)) && (decide ((2 : Int) ≤ (7 : Int)) && (toB (List.drop (1 : Nat) (unB (toB (List.drop (1 : Nat) (unB b9_0)))))).length.ble lim40))) (bcond (isB (toB (List.drop (2 : Nat) (unB (toB (List.drop (1 : Nat) (unB (toB (List.drop (1 : Nat) (unB b9_0))))))))) && (decide ((0 : Int) ≤ (4 : Int)) && (decide ((4 : Int) ≤ (7 : Int)) && (toB (List.drop (2 : Nat) (unB (toB (List.drop (1 : Nat) (unB (toB (List.drop (1 : Nat) (unB b9_0))))))))).length.ble lim40))) (bcond (isB (toB (List.drop (4 : Nat) (unB (toB (List.drop (2 : Nat) (unB (toB (List.drop (1 : Nat) (unB (toB (List.drop (1 : Nat) (unB b9_0)))))))))))) && (toB (List.drop (4 : Nat) (unB (toB (List.drop (2 : Nat) (unB (toB (List.drop (1 : Nat) (unB (toB (List.drop (1 : Nat) (unB b9_0)))))))))))).length.ble lim40) (bcond (roomOk (b4.length + [[C.int IntKind.i64 (iand IntKind.i64 (numB (List.take (1 : Nat) (unB b9_0))) (7 : Int)), C.int IntKind.i64 (iand IntKind.i64 (ishr IntKind.i64 (numB (List.take (1 : Nat) (unB b9_0))) (3 : Int)) (7 : Int)), C.str (mkS (tx (unB (toB (List.drop (4 : Nat) (unB (toB (List.drop (2 : Nat) (unB (toB (List.drop (1 : Nat) (unB (toB (List.drop (1 : Nat) (unB b9_0))))))))))))))), C.int IntKind.i64 (numB (List.take (2 : Nat) (unB (toB (List.drop (1 : Nat) (unB (toB (List.drop (1 : Nat) (unB b9_0))))))))), C.int IntKind.i64 (numB (List.take (1 : Nat) (unB (toB (List.drop (1 : Nat) (unB b9_0)))))), C.int IntKind.u8 (0 : Int), C.int IntKind.u8 (0 : Int), C.int IntKind.u8 (0 : Int), C.int IntKind.u8 (0 : Int), C.int IntKind.u8 (0 : Int), C.int IntKind.u8 (0 : Int), C.int IntKind.u8 (0 : Int), C.int IntKind.u8 (0 : Int), C.int IntKind.u8 (0 : Int), C.int IntKind.u8 (0 : Int), C.int IntKind.u8 (0 : Int), C.int IntKind.u8 (0 : Int), C.int IntKind.u8 (0 : Int), C.int IntKind.u8 (0 : Int), C.int IntKind.u8 (0 : Int), C.int IntKind.u8 (0 : Int), C.int IntKind.i64 (0 : Int), C.int IntKind.i64 (numB (List.take (4 : Nat) (unB (toB (List.drop (2 : Nat) (unB (toB (List.drop (1 : Nat) (unB (toB (List.drop (1 : Nat) (unB b9_0)))))))))))), C.sl (5 : Nat) [], C.bool false, C.int IntKind.i64 (0 : Int), C.sl (9 : Nat) [], C.bool false, C.bool false, C.sl (29 : Nat) [], C.sl (42 : Nat) [], C.str (ByteArray.mk #[]), C.str (ByteArray.mk #[]), C.str (ByteArray.mk #[])]].length) (248 : Nat)) (evLoop false (f12_s3 n) m (f12_h3 (toB (tr (unB (toB (List.drop (4 : Nat) (unB (toB (List.drop (2 : Nat) (unB (toB (List.drop (1 : Nat) (unB (toB (List.drop (1 : Nat) (unB b9_0))))))))))))))) (b4 ++ [[C.int IntKind.i64 (iand IntKind.i64 (numB (List.take (1 : Nat) (unB b9_0))) (7 : Int)), C.int IntKind.i64 (iand IntKind.i64 (ishr IntKind.i64 (numB (List.take (1 : Nat) (unB b9_0))) (3 : Int)) (7 : Int)), C.str (mkS (tx (unB (toB (List.drop (4 : Nat) (unB (toB (List.drop (2 : Nat) (unB (toB (List.drop (1 : Nat) (unB (toB (List.drop (1 : Nat) (unB b9_0))))))))))))))), C.int IntKind.i64 (numB (List.take (2 : Nat) (unB (toB (List.drop (1 : Nat) (unB (toB (List.drop (1 : Nat) (unB b9_0))))))))), C.int IntKind.i64 (numB (List.take (1 : Nat) (unB (toB (List.drop (1 : Nat) (unB b9_0)))))), C.int IntKind.u8 (0 : Int), C.int IntKind.u8 (0 : Int), C.int IntKind.u8 (0 : Int), C.int IntKind.u8 (0 : Int), C.int IntKind.u8 (0 : Int), C.int IntKind.u8 (0 : Int), C.int IntKind.u8 (0 : Int), C.int IntKind.u8 (0 : Int), C.int IntKind.u8 (0 : Int), C.int IntKind.u8 (0 : Int), C.int IntKind.u8 (0 : Int), C.int IntKind.u8 (0 : Int), C.int IntKind.u8 (0 : Int), C.int IntKind.u8 (0 : Int), C.int IntKind.u8 (0 : Int), C.int IntKind.u8 (0 : Int), C.int IntKind.i64 (0 : Int), C.int IntKind.i64 (numB (List.take (4 : Nat) (unB (toB (List.drop (2 : Nat) (unB (toB (List.drop (1 : Nat) (unB (toB (List.drop (1 : Nat) (unB b9_0)))))))))))), C.sl (5 : Nat) [], C.bool false, C.int IntKind.i64 (0 : Int), C.sl (9 : Nat) [], C.bool false, C.bool false, C.sl (29 : Nat) [], C.sl (42 : Nat) [], C.str (ByteArray.mk #[]), C.str (ByteArray.mk #[]), C.str (ByteArray.mk #[])]])) k) (none)) (none)) (none)) (none)) (none)) (bcond (iand IntKind.i64 (numB (List.take (1 : Nat) (unB b9_0))) (7 : Int) == (2 : Int)) (bcond (isB (toB (List.drop (1 : Nat) (unB b9_0))) && (toB (List.drop (1 : Nat) (unB b9_0))).length.ble lim40) (bcond (isB (toB (List.drop (16 : Nat) (unB (toB (List.drop (1 : Nat) (unB b9_0)))))) && (decide ((0 : Int) ≤ (2 : Int)) && (decide ((2 : Int) ≤ (7 : Int)) && (toB (List.drop (16 : Nat) (unB (toB (List.drop (1 : Nat) (unB b9_0)))))).length.ble lim40))) (bcond (isB (toB (List.drop (2 : Nat) (unB (toB (List.drop (16 : Nat) (unB (toB (List.drop (1 : Nat) (unB b9_0))))))))) && (decide ((0 : Int) ≤ (4 : Int)) && (decide ((4 : Int) ≤ (7 : Int)) && (toB (List.drop (2 : Nat) (unB (toB (List.drop (16 : Nat) (unB (toB (List.drop (1 : Nat) (unB b9_0))))))))).length.ble lim40))) (bcond (isB (toB (List.drop (4 : Nat) (unB (toB (List.drop (2 : Nat) (unB (toB (List.drop (16 : Nat) (unB (toB (List.drop (1 : Nat) (unB b9_0)))))))))))) && (decide ((0 : Int) ≤ (2 : Int)) && (decide ((2 : Int) ≤ (7 : Int)) && (toB (List.drop (4 : Nat) (unB (toB (List.drop (2 : Nat) (unB (toB (List.drop (16 : Nat) (unB (toB (List.drop (1 : Nat) (unB b9_0)))))))))))).length.ble lim40))) (bcond (isB (toB (List.drop (2 : Nat) (unB (toB (List.drop (4 : Nat) (unB (toB (List.drop (2 : Nat) (unB (toB (List.drop (16 : Nat) (unB (toB (List.drop (1 : Nat) (unB b9_0))))))))))))))) && (decide ((0 : Int) ≤ numB (List.take (2 : Nat) (unB (toB (List.drop (4 : Nat) (unB (toB (List.drop (2 : Nat) (unB (toB (List.drop (16 : Nat) (unB (toB (List.drop (1 : Nat) (unB b9_0))))))))))))))) && (toB (List.drop (2 : Nat) (unB (toB (List.drop (4 : Nat) (unB (toB (List.drop (2 : Nat) (unB (toB (List.drop (16 : Nat) (unB (toB (List.drop (1 : Nat) (unB b9_0))))))))))))))).length.ble lim40)) (bcond (roomOk (b4.length + [((((((splice [C.int IntKind.i64 (iand IntKind.i64 (numB (List.take (1 : Nat) (unB b9_0))) (7 : Int)), C.int IntKind.i64 (iand IntKind.i64 (ishr IntKind.i64 (numB (List.take (1 : Nat) (unB b9_0))) (3 : Int)) (7 : Int)), C.str (ByteArray.mk #[]), C.int IntKind.i64 (0 : Int), C.int IntKind.i64 (0 : Int), C.int IntKind.u8 (0 : Int), C.int IntKind.u8 (0 : Int), C.int IntKind.u8 (0 : Int), C.int IntKind.u8 (0 : Int), C.int IntKind.u8 (0 : Int), C.int IntKind.u8 (0 : Int), C.int IntKind.u8 (0 : Int), C.int IntKind.u8 (0 : Int), C.int IntKind.u8 (0 : Int), C.int IntKind.u8 (0 : Int), C.int IntKind.u8 (0 : Int), C.int IntKind.u8 (0 : Int), C.int IntKind.u8 (0 : Int), C.int IntKind.u8 (0 : Int), C.int IntKind.u8 (0 : Int), C.int IntKind.u8 (0 : Int), C.int IntKind.i64 (0 : Int), C.int IntKind.i64 (ishr IntKind.i64 (numB (List.take (1 : Nat) (unB b9_0))) (6 : Int)), C.sl (5 : Nat) [], C.bool false, C.int IntKind.i64 (0 : Int), C.sl (9 : Nat) [], C.bool false, C.bool false, C.sl (29 : Nat) [], C.sl (42 : Nat) [], C.str (ByteArray.mk #[]), C.str (ByteArray.mk #[]), C.str (ByteArray.mk #[])] (5 : Nat) (adr (unB (toB (List.drop (1 : Nat) (unB b9_0)))))).set (21 : Nat) (C.int IntKind.i64 (numB (List.take (2 : Nat) (unB (toB (List.drop (16 : Nat) (unB (toB (List.drop (1 : Nat) (unB b9_0))))))))))).set (22 : Nat) (C.int IntKind.i64 (numB (List.take (4 : Nat) (unB (toB (List.drop (2 : Nat) (unB (toB (List.drop (16 : Nat) (unB (toB (List.drop (1 : Nat) (unB b9_0)))))))))))))).set (23 : Nat) (C.sl (5 : TypeId) (toB (List.take (numB (List.take (2 : Nat) (unB (toB (List.drop (4 : Nat) (unB (toB (List.drop (2 : Nat) (unB (toB (List.drop (16 : Nat) (unB (toB (List.drop (1 : Nat) (unB b9_0))))))))))))))).toNat (unB (toB (List.drop (2 : Nat) (unB (toB (List.drop (4 : Nat) (unB (toB (List.drop (2 : Nat) (unB (toB (List.drop (16 : Nat) (unB (toB (List.drop (1 : Nat) (unB b9_0)))))))))))))))))))).set (26 : Nat) (C.sl (9 : Nat) [])).set (29 : Nat) (C.sl (29 : Nat) [])).set (30 : Nat) (C.sl (42 : Nat) [])].length) (248 : Nat)) (evLoop false (f12_s3 n) m (f12_h3 (toB (List.drop (numB (List.take (2 : Nat) (unB (toB (List.drop (4 : Nat) (unB (toB (List.drop (2 : Nat) (unB (toB (List.drop (16 : Nat) (unB (toB (List.drop (1 : Nat) (unB b9_0))))))))))))))).toNat (unB (toB (List.drop (2 : Nat) (unB (toB (List.drop (4 : Nat) (unB (toB (List.drop (2 : Nat) (unB (toB (List.drop (16 : Nat) (unB (toB (List.drop (1 : Nat) (unB b9_0)))))))))))))))))) (b4 ++ [((((((splice [C.int IntKind.i64 (iand IntKind.i64 (numB (List.take (1 : Nat) (unB b9_0))) (7 : Int)), C.int IntKind.i64 (iand IntKind.i64 (ishr IntKind.i64 (numB (List.take (1 : Nat) (unB b9_0))) (3 : Int)) (7 : Int)), C.str (ByteArray.mk #[]), C.int IntKind.i64 (0 : Int), C.int IntKind.i64 (0 : Int), C.int IntKind.u8 (0 : Int), C.int IntKind.u8 (0 : Int), C.int IntKind.u8 (0 : Int), C.int IntKind.u8 (0 : Int), C.int IntKind.u8 (0 : Int), C.int IntKind.u8 (0 : Int), C.int IntKind.u8 (0 : Int), C.int IntKind.u8 (0 : Int), C.int IntKind.u8 (0 : Int), C.int IntKind.u8 (0 : Int), C.int IntKind.u8 (0 : Int), C.int IntKind.u8 (0 : Int), C.int IntKind.u8 (0 : Int), C.int IntKind.u8 (0 : Int), C.int IntKind.u8 (0 : Int), C.int IntKind.u8 (0 : Int), C.int IntKind.i64 (0 : Int), C.int IntKind.i64 (ishr IntKind.i64 (numB (List.take (1 : Nat) (unB b9_0))) (6 : Int)), C.sl (5 : Nat) [], C.bool false, C.int IntKind.i64 (0 : Int), C.sl (9 : Nat) [], C.bool false, C.bool false, C.sl (29 : Nat) [], C.sl (42 : Nat) [], C.str (ByteArray.mk #[]), C.str (ByteArray.mk #[]), C.str (ByteArray.mk #[])] (5 : Nat) (adr (unB (toB (List.drop (1 : Nat) (unB b9_0)))))).set (21 : Nat) (C.int IntKind.i64 (numB (List.take (2 : Nat) (unB (toB (List.drop (16 : Nat) (unB (toB (List.drop (1 : Nat) (unB b9_0))))))))))).set (22 : Nat) (C.int IntKind.i64 (numB (List.take (4 : Nat) (unB (toB (List.drop (2 : Nat) (unB (toB (List.drop (16 : Nat) (unB (toB (List.drop (1 : Nat) (unB b9_0)))))))))))))).set (23 : Nat) (C.sl (5 : TypeId) (toB (List.take (numB (List.take (2 : Nat) (unB (toB (List.drop (4 : Nat) (unB (toB (List.drop (2 : Nat) (unB (toB (List.drop (16 : Nat) (unB (toB (List.drop (1 : Nat) (unB b9_0))))))))))))))).toNat (unB (toB (List.drop (2 : Nat) (unB (toB (List.drop (4 : Nat) (unB (toB (List.drop (2 : Nat) (unB (toB (List.drop (16 : Nat) (unB (toB (List.drop (1 : Nat) (unB b9_0)))))))))))))))))))).set (26 : Nat) (C.sl (9 : Nat) [])).set (29 : Nat) (C.sl (29 : Nat) [])).set (30 : Nat) (C.sl (42 : Nat) [])])) k) (none)) (none)) (none)) (none)) (none)) (none)) (bcond (iand IntKind.i64 (numB (List.take (1 : Nat) (unB b9_0))) (7 : Int) == (3 : Int)) (bcond (isB (toB (List.drop (1 : Nat) (unB b9_0))) && (toB (List.drop (1 : Nat) (unB b9_0))).length.ble lim40) (bcond (roomOk (b4.length + [[C.int IntKind.i64 (iand IntKind.i64 (numB (List.take (1 : Nat) (unB b9_0))) (7 : Int)), C.int IntKind.i64 (iand IntKind.i64 (ishr IntKind.i64 (numB (List.take (1 : Nat) (unB b9_0))) (3 : Int)) (7 : Int)), C.str (ByteArray.mk #[]), C.int IntKind.i64 (0 : Int), C.int IntKind.i64 (0 : Int), C.int IntKind.u8 (0 : Int), C.int IntKind.u8 (0 : Int), C.int IntKind.u8 (0 : Int), C.int IntKind.u8 (0 : Int), C.int IntKind.u8 (0 : Int), C.int IntKind.u8 (0 : Int), C.int IntKind.u8 (0 : Int), C.int IntKind.u8 (0 : Int), C.int IntKind.u8 (0 : Int), C.int IntKind.u8 (0 : Int), C.int IntKind.u8 (0 : Int), C.int IntKind.u8 (0 : Int), C.int IntKind.u8 (0 : Int), C.int IntKind.u8 (0 : Int), C.int IntKind.u8 (0 : Int), C.int IntKind.u8 (0 : Int), C.int IntKind.i64 (0 : Int), C.int IntKind.i64 (ishr IntKind.i64 (numB (List.take (1 : Nat) (unB b9_0))) (6 : Int)), C.sl (5 : Nat) [], C.bool false, C.int IntKind.i64 (0 : Int), C.sl (9 : Nat) (txs (nD (fl (unB (toB (List.drop (1 : Nat) (unB b9_0)))))) (List.drop (1 : Nat) (unB (toB (List.drop (1 : Nat) (unB b9_0)))))), C.bool (decide (iand IntKind.i64 (fl (unB (toB (List.drop (1 : Nat) (unB b9_0))))) (1 : Int) > (0 : Int))), C.bool (decide (iand IntKind.i64 (fl (unB (toB (List.drop (1 : Nat) (unB b9_0))))) (2 : Int) > (0 : Int))), C.sl (29 : Nat) (ads (nS (fl (unB (toB (List.drop (1 : Nat) (unB b9_0)))))) (lk1 (unB (toB (List.drop (1 : Nat) (unB b9_0)))))), C.sl (42 : Nat) (los (nL (fl (unB (toB (List.drop (1 : Nat) (unB b9_0)))))) (lk2 (unB (toB (List.drop (1 : Nat) (unB b9_0)))))), C.str (ByteArray.mk #[]), C.str (ByteArray.mk #[]), C.str (ByteArray.mk #[])]].length) (248 : Nat)) (evLoop false (f12_s3 n) m (f12_h3 (toB (linkT (unB (toB (List.drop (1 : Nat) (unB b9_0)))))) (b4 ++ [[C.int IntKind.i64 (iand IntKind.i64 (numB (List.take (1 : Nat) (unB b9_0))) (7 : Int)), C.int IntKind.i64 (iand IntKind.i64 (ishr IntKind.i64 (numB (List.take (1 : Nat) (unB b9_0))) (3 : Int)) (7 : Int)), C.str (ByteArray.mk #[]), C.int IntKind.i64 (0 : Int), C.int IntKind.i64 (0 : Int), C.int IntKind.u8 (0 : Int), C.int IntKind.u8 (0 : Int), C.int IntKind.u8 (0 : Int), C.int IntKind.u8 (0 : Int), C.int IntKind.u8 (0 : Int), C.int IntKind.u8 (0 : Int), C.int IntKind.u8 (0 : Int), C.int IntKind.u8 (0 : Int), C.int IntKind.u8 (0 : Int), C.int IntKind.u8 (0 : Int), C.int IntKind.u8 (0 : Int), C.int IntKind.u8 (0 : Int), C.int IntKind.u8 (0 : Int), C.int IntKind.u8 (0 : Int), C.int IntKind.u8 (0 : Int), C.int IntKind.u8 (0 : Int), C.int IntKind.i64 (0 : Int), C.int IntKind.i64 (ishr IntKind.i64 (numB (List.take (1 : Nat) (unB b9_0))) (6 : Int)), C.sl (5 : Nat) [], C.bool false, C.int IntKind.i64 (0 : Int), C.sl (9 : Nat) (txs (nD (fl (unB (toB (List.drop (1 : Nat) (unB b9_0)))))) (List.drop (1 : Nat) (unB (toB (List.drop (1 : Nat) (unB b9_0)))))), C.bool (decide (iand IntKind.i64 (fl (unB (toB (List.drop (1 : Nat) (unB b9_0))))) (1 : Int) > (0 : Int))), C.bool (decide (iand IntKind.i64 (fl (unB (toB (List.drop (1 : Nat) (unB b9_0))))) (2 : Int) > (0 : Int))), C.sl (29 : Nat) (ads (nS (fl (unB (toB (List.drop (1 : Nat) (unB b9_0)))))) (lk1 (unB (toB (List.drop (1 : Nat) (unB b9_0)))))), C.sl (42 : Nat) (los (nL (fl (unB (toB (List.drop (1 : Nat) (unB b9_0)))))) (lk2 (unB (toB (List.drop (1 : Nat) (unB b9_0)))))), C.str (ByteArray.mk #[]), C.str (ByteArray.mk #[]), C.str (ByteArray.mk #[])]])) k) (none)) (none)) (bcond (iand IntKind.i64 (numB (List.take (1 : Nat) (unB b9_0))) (7 : Int) == (6 : Int)) (bcond (isB (toB (List.drop (1 : Nat) (unB b9_0))) && (toB (List.drop (1 : Nat) (unB b9_0))).length.ble lim40) (bcond (isB (toB (tr (unB (toB (List.drop (1 : Nat) (unB b9_0)))))) && (toB (tr (unB (toB (List.drop (1 : Nat) (unB b9_0)))))).length.ble lim40) (bcond (isB (toB (tr (unB (toB (tr (unB (toB (List.drop (1 : Nat) (unB b9_0))))))))) && (toB (tr (unB (toB (tr (unB (toB (List.drop (1 : Nat) (unB b9_0))))))))).length.ble lim40) (bcond (roomOk (b4.length + [[C.int IntKind.i64 (iand IntKind.i64 (numB (List.take (1 : Nat) (unB b9_0))) (7 : Int)), C.int IntKind.i64 (iand IntKind.i64 (ishr IntKind.i64 (numB (List.take (1 : Nat) (unB b9_0))) (3 : Int)) (7 : Int)), C.str (ByteArray.mk #[]), C.int IntKind.i64 (0 : Int), C.int IntKind.i64 (0 : Int), C.int IntKind.u8 (0 : Int), C.int IntKind.u8 (0 : Int), C.int IntKind.u8 (0 : Int), C.int IntKind.u8 (0 : Int), C.int IntKind.u8 (0 : Int), C.int IntKind.u8 (0 : Int), C.int IntKind.u8 (0 : Int), C.int IntKind.u8 (0 : Int), C.int IntKind.u8 (0 : Int), C.int IntKind.u8 (0 : Int), C.int IntKind.u8 (0 : Int), C.int IntKind.u8 (0 : Int), C.int IntKind.u8 (0 : Int), C.int IntKind.u8 (0 : Int), C.int IntKind.u8 (0 : Int), C.int IntKind.u8 (0 : Int), C.int IntKind.i64 (0 : Int), C.int IntKind.i64 (ishr IntKind.i64 (numB (List.take (1 : Nat) (unB b9_0))) (6 : Int)), C.sl (5 : Nat) [], C.bool false, C.int IntKind.i64 (0 : Int), C.sl (9 : Nat) [], C.bool false, C.bool false, C.sl (29 : Nat) [], C.sl (42 : Nat) [], C.str (mkS (tx (unB (toB (List.drop (1 : Nat) (unB b9_0)))))), C.str (mkS (tx (unB (toB (tr (unB (toB (List.drop (1 : Nat) (unB b9_0))))))))), C.str (mkS (tx (unB (toB (tr (unB (toB (tr (unB (toB (List.drop (1 : Nat) (unB b9_0))))))))))))]].length) (248 : Nat)) (evLoop false (f12_s3 n) m (f12_h3 (toB (tr (unB (toB (tr (unB (toB (tr (unB (toB (List.drop (1 : Nat) (unB b9_0)))))))))))) (b4 ++ [[C.int IntKind.i64 (iand IntKind.i64 (numB (List.take (1 : Nat) (unB b9_0))) (7 : Int)), C.int IntKind.i64 (iand IntKind.i64 (ishr IntKind.i64 (numB (List.take (1 : Nat) (unB b9_0))) (3 : Int)) (7 : Int)), C.str (ByteArray.mk #[]), C.int IntKind.i64 (0 : Int), C.int IntKind.i64 (0 : Int), C.int IntKind.u8 (0 : Int), C.int IntKind.u8 (0 : Int), C.int IntKind.u8 (0 : Int), C.int IntKind.u8 (0 : Int), C.int IntKind.u8 (0 : Int), C.int IntKind.u8 (0 : Int), C.int IntKind.u8 (0 : Int), C.int IntKind.u8 (0 : Int), C.int IntKind.u8 (0 : Int), C.int IntKind.u8 (0 : Int), C.int IntKind.u8 (0 : Int), C.int IntKind.u8 (0 : Int), C.int IntKind.u8 (0 : Int), C.int IntKind.u8 (0 : Int), C.int IntKind.u8 (0 : Int), C.int IntKind.u8 (0 : Int), C.int IntKind.i64 (0 : Int), C.int IntKind.i64 (ishr IntKind.i64 (numB (List.take (1 : Nat) (unB b9_0))) (6 : Int)), C.sl (5 : Nat) [], C.bool false, C.int IntKind.i64 (0 : Int), C.sl (9 : Nat) [], C.bool false, C.bool false, C.sl (29 : Nat) [], C.sl (42 : Nat) [], C.str (mkS (tx (unB (toB (List.drop (1 : Nat) (unB b9_0)))))), C.str (mkS (tx (unB (toB (tr (unB (toB (List.drop (1 : Nat) (unB b9_0))))))))), C.str (mkS (tx (unB (toB (tr (unB (toB (tr (unB (toB (List.drop (1 : Nat) (unB b9_0))))))))))))]])) k) (none)) (none)) (none)) (none)) (bcond (roomOk (b4.length + [[C.int IntKind.i64 (iand IntKind.i64 (numB (List.take (1 : Nat) (unB b9_0))) (7 : Int)), C.int IntKind.i64 (iand IntKind.i64 (ishr IntKind.i64 (numB (List.take (1 : Nat) (unB b9_0))) (3 : Int)) (7 : Int)), C.str (ByteArray.mk #[]), C.int IntKind.i64 (0 : Int), C.int IntKind.i64 (0 : Int), C.int IntKind.u8 (0 : Int), C.int IntKind.u8 (0 : Int), C.int IntKind.u8 (0 : Int), C.int IntKind.u8 (0 : Int), C.int IntKind.u8 (0 : Int), C.int IntKind.u8 (0 : Int), C.int IntKind.u8 (0 : Int), C.int IntKind.u8 (0 : Int), C.int IntKind.u8 (0 : Int), C.int IntKind.u8 (0 : Int), C.int IntKind.u8 (0 : Int), C.int IntKind.u8 (0 : Int), C.int IntKind.u8 (0 : Int), C.int IntKind.u8 (0 : Int), C.int IntKind.u8 (0 : Int), C.int IntKind.u8 (0 : Int), C.int IntKind.i64 (0 : Int), C.int IntKind.i64 (ishr IntKind.i64 (numB (List.take (1 : Nat) (unB b9_0))) (6 : Int)), C.sl (5 : Nat) [], C.bool false, C.int IntKind.i64 (0 : Int), C.sl (9 : Nat) [], C.bool false, C.bool false, C.sl (29 : Nat) [], C.sl (42 : Nat) [], C.str (ByteArray.mk #[]), C.str (ByteArray.mk #[]), C.str (ByteArray.mk #[])]].length) (248 : Nat)) (evLoop false (f12_s3 n) m (f12_h3 (toB (List.drop (1 : Nat) (unB b9_0))) (b4 ++ [[C.int IntKind.i64 (iand IntKind.i64 (numB (List.take (1 : Nat) (unB b9_0))) (7 : Int)), C.int IntKind.i64 (iand IntKind.i64 (ishr IntKind.i64 (numB (List.take (1 : Nat) (unB b9_0))) (3 : Int)) (7 : Int)), C.str (ByteArray.mk #[]), C.int IntKind.i64 (0 : Int), C.int IntKind.i64 (0 : Int), C.int IntKind.u8 (0 : Int), C.int IntKind.u8 (0 : Int), C.int IntKind.u8 (0 : Int), C.int IntKind.u8 (0 : Int), C.int IntKind.u8 (0 : Int), C.int IntKind.u8 (0 : Int), C.int IntKind.u8 (0 : Int), C.int IntKind.u8 (0 : Int), C.int IntKind.u8 (0 : Int), C.int IntKind.u8 (0 : Int), C.int IntKind.u8 (0 : Int), C.int IntKind.u8 (0 : Int), C.int IntKind.u8 (0 : Int), C.int IntKind.u8 (0 : Int), C.int IntKind.u8 (0 : Int), C.int IntKind.u8 (0 : Int), C.int IntKind.i64 (0 : Int), C.int IntKind.i64 (ishr IntKind.i64 (numB (List.take (1 : Nat) (unB b9_0))) (6 : Int)), C.sl (5 : Nat) [], C.bool false, C.int IntKind.i64 (0 : Int), C.sl (9 : Nat) [], C.bool false, C.bool false, C.sl (29 : Nat) [], C.sl (42 : Nat) [], C.str (ByteArray.mk #[]), C.str (ByteArray.mk #[]), C.str (ByteArray.mk #[])]])) k) (none)))))) (none)) (k (X.exit 0) (f12_x3_0 (b9_0) (b4))) := by kernel_rfl
theorem f12_a3_0 (n : Nat) (b9_0 : List (List C)) (b4 : List (List C)) : f12_k3 n (X.exit 0) (f12_x3_0 b9_0 b4) = some ((V.one (A.c (C.sl (36 : Nat) b4)), [])) := by kernel_rfl
theorem f12_eq (n : Nat) (xs : List (List C)) : evFn tab FD nO false lv12 false n Try.f12 [.one (.c (.sl 5 xs))] [] = evLoop false (f12_s3 n) n (f12_h3 (xs) ([])) (f12_k3 n) := by kernel_rfl


def u16s : List C := List.replicate 16 (.int .u8 0)
/-- An event's cells. -/
def evC (kd lk : Int) (nm : ByteArray) (ty id : Int) (fr : List C) (pt dr : Int) (da : List UInt8) (st : List C) (cf ho od : ByteArray) : List C :=
  [.int .i64 kd, .int .i64 lk, .str nm, .int .i64 ty, .int .i64 id] ++ fr ++ [.int .i64 pt, .int .i64 dr, .sl 5 (toB da)] ++ st ++ [.str cf, .str ho, .str od]
def emp : ByteArray := ByteArray.mk #[]
def noL : List C := [.bool false, .int .i64 0, .sl 9 [], .bool false, .bool false, .sl 29 [], .sl 42 []]
/-- The first byte; kind, link, draw. -/
def b1 (l : List UInt8) : Int := numB (l.take 1)
def kdB (l : List UInt8) : Int := iand .i64 (b1 l) 7
def lkB (l : List UInt8) : Int := iand .i64 (ishr .i64 (b1 l) 3) 7
def drB (l : List UInt8) : Int := ishr .i64 (b1 l) 6
def evOf (l : List UInt8) : List C :=
  if (kdB l == 1) = true then evC (kdB l) (lkB l) (mkS (tx ((((l.drop 1).drop 1).drop 2).drop 4))) (numB (((l.drop 1).drop 1).take 2)) (numB ((l.drop 1).take 1)) u16s 0 (numB ((((l.drop 1).drop 1).drop 2).take 4)) [] noL emp emp emp
  else if (kdB l == 2) = true then evC (kdB l) (lkB l) emp 0 0 (adr (l.drop 1)) (numB (((l.drop 1).drop 16).take 2)) (numB ((((l.drop 1).drop 16).drop 2).take 4))
      (((((l.drop 1).drop 16).drop 2).drop 4).drop 2 |>.take (numB (((((l.drop 1).drop 16).drop 2).drop 4).take 2)).toNat) noL emp emp emp
  else if (kdB l == 3) = true then evC (kdB l) (lkB l) emp 0 0 u16s 0 (drB l) [] (linkR (l.drop 1)) emp emp emp
  else if (kdB l == 6) = true then evC (kdB l) (lkB l) emp 0 0 u16s 0 (drB l) [] noL (mkS (tx (l.drop 1))) (mkS (tx (tr (l.drop 1)))) (mkS (tx (tr (tr (l.drop 1)))))
  else evC (kdB l) (lkB l) emp 0 0 u16s 0 (drB l) [] noL emp emp emp
def evRest (l : List UInt8) : List UInt8 :=
  if (kdB l == 1) = true then tr ((((l.drop 1).drop 1).drop 2).drop 4)
  else if (kdB l == 2) = true then ((((l.drop 1).drop 16).drop 2).drop 4).drop 2 |>.drop (numB (((((l.drop 1).drop 16).drop 2).drop 4).take 2)).toNat
  else if (kdB l == 3) = true then linkT (l.drop 1)
  else if (kdB l == 6) = true then tr (tr (tr (l.drop 1)))
  else l.drop 1
theorem tr_len (l : List UInt8) : (tr l).length ≤ l.length := by simp only [tr, List.length_drop]; omega
theorem linkT_len (l : List UInt8) : (linkT l).length ≤ l.length := by
  unfold linkT lk2 lk1
  have h1 := trs_len (nD (fl l)) (l.drop 1)
  have h2 := dr16_len (nS (fl l)) (trs (nD (fl l)) (l.drop 1))
  have h3 := dr16_len (nL (fl l)) (dr16 (nS (fl l)) (trs (nD (fl l)) (l.drop 1)))
  simp only [List.length_drop] at h1
  omega
theorem evRest_len {l : List UInt8} (h : 0 < l.length) : (evRest l).length < l.length := by
  have h1 : (l.drop 1).length < l.length := by rw [List.length_drop]; omega
  unfold evRest
  split
  · have := tr_len ((((l.drop 1).drop 1).drop 2).drop 4)
    simp only [List.length_drop] at this ⊢
    omega
  · split
    · simp only [List.length_drop]
      omega
    · split
      · have := linkT_len (l.drop 1)
        omega
      · split
        · have a1 := tr_len (tr (tr (l.drop 1)))
          have a2 := tr_len (tr (l.drop 1))
          have a3 := tr_len (l.drop 1)
          omega
        · exact h1
/-- The events that bytes tell. -/
def decN : Nat → List UInt8 → List (List C)
  | 0, _ => []
  | n + 1, l => match l with
    | [] => []
    | b :: r => evOf (b :: r) :: decN n (evRest (b :: r))
def lim38 : Nat := 274877906944
theorem len16 {l : List C} (h : l.length = 16) : ∃ a0 a1 a2 a3 a4 a5 a6 a7 a8 a9 a10 a11 a12 a13 a14 a15, l = [a0, a1, a2, a3, a4, a5, a6, a7, a8, a9, a10, a11, a12, a13, a14, a15] := by
  match l, h with
  | [a0, a1, a2, a3, a4, a5, a6, a7, a8, a9, a10, a11, a12, a13, a14, a15], _ => exact ⟨_, _, _, _, _, _, _, _, _, _, _, _, _, _, _, _, rfl⟩
theorem f12_L3 (n : Nat) : ∀ (d m : Nat) (l : List UInt8) (acc : List (List C)), l.length ≤ d → d < m → l.length + acc.length ≤ lim38 →
    evLoop false (f12_s3 n) m (f12_h3 (toB l) acc) (f12_k3 n) = some (.one (.c (.sl 36 (acc ++ decN d l))), [])
  | d, m, [], acc, hd, hm, hl => by
    obtain ⟨m, rfl⟩ : ∃ q, m = q + 1 := ⟨m - 1, by omega⟩
    rw [f12_t3, bcond_no (by rfl), f12_a3_0]
    cases d <;> simp [decN]
  | 0, m, b :: r, acc, hd, hm, hl => by simp at hd
  | d + 1, m, b :: r, acc, hd, hm, hl => by
    obtain ⟨m, rfl⟩ : ∃ q, m = q + 1 := ⟨m - 1, by omega⟩
    have hlt := evRest_len (l := b :: r) (by simp)
    have ih := f12_L3 n d m (evRest (b :: r)) (acc ++ [evOf (b :: r)]) (by omega) (by omega) (by simp at hlt hl ⊢; omega)
    have hfin : acc ++ [evOf (b :: r)] ++ decN d (evRest (b :: r)) = acc ++ decN (d + 1) (b :: r) := by rw [List.append_assoc]; rfl
    rw [hfin] at ih
    generalize b :: r = l at hd hl hlt ih ⊢
    have h38 : lim38 = 274877906944 := rfl
    have h40 : lim40 = 1099511627776 := rfl
    have okn : ∀ (y : List UInt8) (c : Int), y.length ≤ l.length → 0 ≤ c → c ≤ 7 → (isB (toB y) && (decide (0 ≤ c) && (decide (c ≤ 7) && Nat.ble (toB y).length lim40))) = true := fun y c hy h0 h7 => by
      rw [isB_toB, toB_len, Bool.true_and, Bool.and_eq_true, Bool.and_eq_true, decide_eq_true_eq, decide_eq_true_eq, Nat.ble_eq]
      exact ⟨h0, h7, by omega⟩
    have okt : ∀ (y : List UInt8) (c : Int), y.length ≤ l.length → 0 ≤ c → (isB (toB y) && (decide (0 ≤ c) && Nat.ble (toB y).length lim40)) = true := fun y c hy h0 => by
      rw [isB_toB, toB_len, Bool.true_and, Bool.and_eq_true, decide_eq_true_eq, Nat.ble_eq]
      exact ⟨h0, by omega⟩
    have okx : ∀ (y : List UInt8), y.length ≤ l.length → (isB (toB y) && Nat.ble (toB y).length lim40) = true := fun y hy => okxs y (by omega)
    have hroom : ∀ x : List C, roomOk (acc.length + [x].length) 248 = true := fun x => roomOk_of (by simp; omega) (by simp; omega)
    have hdl : ∀ (y : List UInt8) (c : Nat), (y.drop c).length ≤ y.length := fun y c => by rw [List.length_drop]; omega
    rw [f12_t3, bcond_of (by rw [toB_len]; simp; omega), bcond_of (okn l 1 (Nat.le_refl _) (by omega) (by omega))]
    simp only [unB_toB, hroom, bcond_t]
    unfold evOf evRest at ih
    show bcond (kdB l == 1) _ _ = _
    cases hk1 : (kdB l == 1) with
    | true =>
      rw [hk1, if_pos rfl, if_pos rfl] at ih
      rw [bcond_t, bcond_of (okn _ 1 (hdl l 1) (by omega) (by omega)), bcond_of (okn _ 2 (Nat.le_trans (hdl _ 1) (hdl l 1)) (by omega) (by omega)), bcond_of (okn _ 4 (by simp only [List.length_drop]; omega) (by omega) (by omega)), bcond_of (okx _ (by simp only [List.length_drop]; omega))]
      exact ih
    | false =>
      rw [hk1, if_neg Bool.false_ne_true, if_neg Bool.false_ne_true] at ih
      rw [bcond_f]
      show bcond (kdB l == 2) _ _ = _
      cases hk2 : (kdB l == 2) with
      | true =>
        rw [hk2, if_pos rfl, if_pos rfl] at ih
        rw [bcond_t, bcond_of (okx _ (hdl l 1)), bcond_of (okn _ 2 (by simp only [List.length_drop]; omega) (by omega) (by omega)), bcond_of (okn _ 4 (by simp only [List.length_drop]; omega) (by omega) (by omega)), bcond_of (okn _ 2 (by simp only [List.length_drop]; omega) (by omega) (by omega)), bcond_of (okt _ _ (by simp only [List.length_drop]; omega) (numB_nonneg _))]
        obtain ⟨a0, a1, a2, a3, a4, a5, a6, a7, a8, a9, a10, a11, a12, a13, a14, a15, hadr⟩ := len16 (adr_len (l.drop 1))
        rw [hadr] at ih ⊢
        exact ih
      | false =>
        rw [hk2, if_neg Bool.false_ne_true, if_neg Bool.false_ne_true] at ih
        rw [bcond_f]
        show bcond (kdB l == 3) _ _ = _
        cases hk3 : (kdB l == 3) with
        | true =>
          rw [hk3, if_pos rfl, if_pos rfl] at ih
          rw [bcond_t, bcond_of (okx _ (hdl l 1))]
          exact ih
        | false =>
          rw [hk3, if_neg Bool.false_ne_true, if_neg Bool.false_ne_true] at ih
          rw [bcond_f]
          show bcond (kdB l == 6) _ _ = _
          cases hk6 : (kdB l == 6) with
          | true =>
            rw [hk6, if_pos rfl, if_pos rfl] at ih
            have a1 := tr_len (l.drop 1)
            have a2 := tr_len (tr (l.drop 1))
            have a0 := hdl l 1
            rw [bcond_t, bcond_of (okx _ (by omega)), bcond_of (okx _ (by omega)), bcond_of (okx _ (by omega))]
            exact ih
          | false =>
            rw [hk6, if_neg Bool.false_ne_true, if_neg Bool.false_ne_true] at ih
            rw [bcond_f]
            exact ih
def decR (l : List UInt8) : List (List C) := decN l.length l
theorem f12_out (xs : List (List C)) (hb : isB xs = true) (hl : xs.length ≤ lim38) : evFn tab FD nO false lv12 false (lim38 + 1) Try.f12 [.one (.c (.sl 5 xs))] [] = some (.one (.c (.sl 36 (decR (unB xs)))), []) := by
  have hx := isB_eq hb
  rw [f12_eq]
  generalize unB xs = l at hx
  subst hx
  rw [toB_len] at hl
  have := f12_L3 (lim38 + 1) l.length (lim38 + 1) l [] (Nat.le_refl _) (by omega) (by simpa using hl)
  rw [List.nil_append] at this
  exact this
def e12 : En
  | [.one (.c (.sl 5 xs))], [], k => bcond (isB xs && Nat.ble xs.length lim38) (k (.one (.c (.sl 36 (decR (unB xs))))) []) none
  | _, _, _ => none
theorem es12 : ES Try.prog tab 12 e12 := by
  intro args h k x hh
  unfold e12 at hh
  split at hh
  · rename_i xs
    cases hb : (isB xs && Nat.ble xs.length lim38) with
    | false => rw [hb, bcond_f] at hh; cases hh
    | true =>
      rw [hb, bcond_t] at hh
      simp only [Bool.and_eq_true, Nat.ble_eq] at hb
      exact ⟨_, _, hh, fn12 sFD rfl (f12_out xs hb.1 hb.2)⟩
  · cases hh

end Go.Proofs.Ytnbiincgplkmbaa
