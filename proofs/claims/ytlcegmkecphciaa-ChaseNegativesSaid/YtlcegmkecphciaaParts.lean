/- Parts -/
import Derived.Test.YtlcegmkecphciaaFc
import Derived.KernelRfl
namespace Go.Proofs.Ytlcegmkecphciaa
open Go Go.Eng
set_option maxRecDepth 100000
def FD : Fun := mkF [(7, e7), (9, e9), (11, e11), (12, e12)]
theorem sFD : FSound Try.prog tab FD := mkF_sound (fun p hp => by
  simp only [List.mem_cons, List.not_mem_nil, or_false] at hp
  rcases hp with rfl | rfl | rfl | rfl
  · exact es7
  · exact es9
  · exact es11
  · exact es12)

noncomputable abbrev f5_c6 : Code := (loops (body Try.f5)).getD 0 .skip
noncomputable abbrev f5_s6 (n : Nat) : St → (X → St → Option R) → Option R := fun st k => evCode tab FD nO lv5 false n f5_c6 st k
noncomputable abbrev f5_k6 (n : Nat) : X → St → Option R := after tab FD nO lv5 false n (body Try.f5) 0 (endK tab false Try.f5)
abbrev f5_h6 (s1 : List (List C)) (s2 : Int) (s19 : List (List C)) (s20 : Int) (s21 : Int) (b3 : List C) : St := { t := [((1 : Nat), V.one (A.c (C.sl (41 : Nat) s1))), ((2 : Nat), V.one (A.c (C.int IntKind.i64 s2))), ((3 : Nat), V.one (A.ptr (Key.loc (3 : Nat) (0 : Nat)) (0 : Nat) (0 : Nat))), ((19 : Nat), V.one (A.c (C.sl (41 : Nat) s19))), ((20 : Nat), V.one (A.c (C.int IntKind.i64 s20))), ((21 : Nat), V.one (A.c (C.int IntKind.i64 s21)))], h := [(Key.loc (3 : Nat) (0 : Nat), (0 : Nat), B.box (41 : Nat) b3 [])] }
abbrev f5_x6_r (s6 : Bool) (b3 : List C) (b8 : List C) : St := { t := [((6 : Nat), V.one (A.c (C.bool s6)))], h := [(Key.loc (3 : Nat) (0 : Nat), (0 : Nat), B.box (41 : Nat) b3 []), (Key.loc (8 : Nat) (0 : Nat), (0 : Nat), B.box (41 : Nat) b8 [])] }
abbrev f5_x6_0 (s1 : List (List C)) (s2 : Int) (b3 : List C) : St := { t := [((1 : Nat), V.one (A.c (C.sl (41 : Nat) s1))), ((2 : Nat), V.one (A.c (C.int IntKind.i64 s2))), ((3 : Nat), V.one (A.ptr (Key.loc (3 : Nat) (0 : Nat)) (0 : Nat) (0 : Nat)))], h := [(Key.loc (3 : Nat) (0 : Nat), (0 : Nat), B.box (41 : Nat) b3 [])] }
theorem f5_t6 (n m : Nat) (k : X → St → Option R) (s1 : List (List C)) (s2 : Int) (s19 : List (List C)) (s20 : Int) (s21 : Int) (b3 : List C) : evLoop false (f5_s6 n) (m + 1) (f5_h6 s1 s2 s19 s20 s21 b3) k = bcond (decide (s21 < s20)) (bcond (inB s21 s19.length) (bcond (decide ((↑(cl (el s19 s21.toNat) (19 : Nat)).toS.size : Int) > (300 : Int))) (k X.ret (f5_x6_r (true) (b3) (el s19 s21.toNat))) (evLoop false (f5_s6 n) m (f5_h6 (s1) (s2) (s19) (s20) (IntKind.i64.wrap (s21 + (1 : Int))) (b3)) k)) (none)) (k (X.exit 0) (f5_x6_0 (s1) (s2) (b3))) := by kernel_rfl
theorem f5_a6_r (n : Nat) (s6 : Bool) (b3 : List C) (b8 : List C) : f5_k6 n X.ret (f5_x6_r s6 b3 b8) = some ((V.one (A.c (C.bool s6)), [])) := by kernel_rfl
theorem f5_a6_0 (n : Nat) (s1 : List (List C)) (s2 : Int) (b3 : List C) : f5_k6 n (X.exit 0) (f5_x6_0 s1 s2 b3) = bcond (roomOk ([((recR b3).set (0 : Nat) (C.str (ByteArray.mk #[(111 : UInt8), (119 : UInt8), (110 : UInt8)]))).set (2 : Nat) (C.int IntKind.i64 (7 : Int))].length + (sorted s1).fst.length) (80 : Nat)) (bcond ((sorted s1).fst.length.ble (1000000 : Nat) && (sorted s1).snd.length.ble (1000000 : Nat)) (bcond (([((recR b3).set (0 : Nat) (C.str (ByteArray.mk #[(111 : UInt8), (119 : UInt8), (110 : UInt8)]))).set (2 : Nat) (C.int IntKind.i64 (7 : Int))] ++ (sorted s1).fst).length.ble (1000000 : Nat) && (sorted s1).snd.length.ble (1000000 : Nat)) (bcond (codeOf (iandNot IntKind.i64 s2 (8 : Int)) != (0 : Int)) (bcond (codeOf (iandNot IntKind.i64 s2 (8 : Int)) != (3 : Int)) (bcond ((cl (ofX (codeOf (iandNot IntKind.i64 s2 (8 : Int))) (ByteArray.mk #[(111 : UInt8), (119 : UInt8), (110 : UInt8)]) (cl (recR b3) (1 : Nat)).toI (sorted s1).fst (sorted s1).snd) (0 : Nat)).toI == (4 : Int)) (some ((V.one (A.c (C.bool ((cl (ofX (codeOf (iandNot IntKind.i64 s2 (8 : Int))) (ByteArray.mk #[(111 : UInt8), (119 : UInt8), (110 : UInt8)]) (cl (recR b3) (1 : Nat)).toI ([((recR b3).set (0 : Nat) (C.str (ByteArray.mk #[(111 : UInt8), (119 : UInt8), (110 : UInt8)]))).set (2 : Nat) (C.int IntKind.i64 (7 : Int))] ++ (sorted s1).fst) (sorted s1).snd) (0 : Nat)).toI == (4 : Int)))), []))) (some ((V.one (A.c (C.bool false)), [])))) (bcond ((cl (ofX (codeOf (iandNot IntKind.i64 s2 (8 : Int))) (ByteArray.mk #[(111 : UInt8), (119 : UInt8), (110 : UInt8)]) (cl (recR b3) (1 : Nat)).toI (sorted s1).fst (sorted s1).snd) (0 : Nat)).toI == (5 : Int)) (bcond ((cl (ofX (codeOf (iandNot IntKind.i64 s2 (8 : Int))) (ByteArray.mk #[(111 : UInt8), (119 : UInt8), (110 : UInt8)]) (cl (recR b3) (1 : Nat)).toI ([((recR b3).set (0 : Nat) (C.str (ByteArray.mk #[(111 : UInt8), (119 : UInt8), (110 : UInt8)]))).set (2 : Nat) (C.int IntKind.i64 (7 : Int))] ++ (sorted s1).fst) (sorted s1).snd) (0 : Nat)).toI == (1 : Int)) (bcond ((↑(cl (ofX (codeOf (iandNot IntKind.i64 s2 (8 : Int))) (ByteArray.mk #[(111 : UInt8), (119 : UInt8), (110 : UInt8)]) (cl (recR b3) (1 : Nat)).toI ([((recR b3).set (0 : Nat) (C.str (ByteArray.mk #[(111 : UInt8), (119 : UInt8), (110 : UInt8)]))).set (2 : Nat) (C.int IntKind.i64 (7 : Int))] ++ (sorted s1).fst) (sorted s1).snd) (1 : Nat)).toL.length : Int) == (1 : Int)) (bcond ((cl (ofX (codeOf (iandNot IntKind.i64 s2 (8 : Int))) (ByteArray.mk #[(111 : UInt8), (119 : UInt8), (110 : UInt8)]) (cl (recR b3) (1 : Nat)).toI ([((recR b3).set (0 : Nat) (C.str (ByteArray.mk #[(111 : UInt8), (119 : UInt8), (110 : UInt8)]))).set (2 : Nat) (C.int IntKind.i64 (7 : Int))] ++ (sorted s1).fst) (sorted s1).snd) (3 : Nat)).toI == (7 : Int)) (bcond (inB (0 : Int) (cl (ofX (codeOf (iandNot IntKind.i64 s2 (8 : Int))) (ByteArray.mk #[(111 : UInt8), (119 : UInt8), (110 : UInt8)]) (cl (recR b3) (1 : Nat)).toI ([((recR b3).set (0 : Nat) (C.str (ByteArray.mk #[(111 : UInt8), (119 : UInt8), (110 : UInt8)]))).set (2 : Nat) (C.int IntKind.i64 (7 : Int))] ++ (sorted s1).fst) (sorted s1).snd) (1 : Nat)).toL.length) (some ((V.one (A.c (C.bool (eqL (el (cl (ofX (codeOf (iandNot IntKind.i64 s2 (8 : Int))) (ByteArray.mk #[(111 : UInt8), (119 : UInt8), (110 : UInt8)]) (cl (recR b3) (1 : Nat)).toI ([((recR b3).set (0 : Nat) (C.str (ByteArray.mk #[(111 : UInt8), (119 : UInt8), (110 : UInt8)]))).set (2 : Nat) (C.int IntKind.i64 (7 : Int))] ++ (sorted s1).fst) (sorted s1).snd) (1 : Nat)).toL (0 : Nat)) (((recR b3).set (0 : Nat) (C.str (ByteArray.mk #[(111 : UInt8), (119 : UInt8), (110 : UInt8)]))).set (2 : Nat) (C.int IntKind.i64 (7 : Int)))))), []))) (none)) (some ((V.one (A.c (C.bool false)), [])))) (some ((V.one (A.c (C.bool false)), [])))) (some ((V.one (A.c (C.bool false)), [])))) (bcond ((cl (ofX (codeOf (iandNot IntKind.i64 s2 (8 : Int))) (ByteArray.mk #[(111 : UInt8), (119 : UInt8), (110 : UInt8)]) (cl (recR b3) (1 : Nat)).toI (sorted s1).fst (sorted s1).snd) (0 : Nat)).toI == (2 : Int)) (bcond ((cl (ofX (codeOf (iandNot IntKind.i64 s2 (8 : Int))) (ByteArray.mk #[(111 : UInt8), (119 : UInt8), (110 : UInt8)]) (cl (recR b3) (1 : Nat)).toI ([((recR b3).set (0 : Nat) (C.str (ByteArray.mk #[(111 : UInt8), (119 : UInt8), (110 : UInt8)]))).set (2 : Nat) (C.int IntKind.i64 (7 : Int))] ++ (sorted s1).fst) (sorted s1).snd) (0 : Nat)).toI == (1 : Int)) (bcond ((↑(cl (ofX (codeOf (iandNot IntKind.i64 s2 (8 : Int))) (ByteArray.mk #[(111 : UInt8), (119 : UInt8), (110 : UInt8)]) (cl (recR b3) (1 : Nat)).toI ([((recR b3).set (0 : Nat) (C.str (ByteArray.mk #[(111 : UInt8), (119 : UInt8), (110 : UInt8)]))).set (2 : Nat) (C.int IntKind.i64 (7 : Int))] ++ (sorted s1).fst) (sorted s1).snd) (1 : Nat)).toL.length : Int) == (1 : Int)) (bcond ((cl (ofX (codeOf (iandNot IntKind.i64 s2 (8 : Int))) (ByteArray.mk #[(111 : UInt8), (119 : UInt8), (110 : UInt8)]) (cl (recR b3) (1 : Nat)).toI ([((recR b3).set (0 : Nat) (C.str (ByteArray.mk #[(111 : UInt8), (119 : UInt8), (110 : UInt8)]))).set (2 : Nat) (C.int IntKind.i64 (7 : Int))] ++ (sorted s1).fst) (sorted s1).snd) (3 : Nat)).toI == (7 : Int)) (bcond (inB (0 : Int) (cl (ofX (codeOf (iandNot IntKind.i64 s2 (8 : Int))) (ByteArray.mk #[(111 : UInt8), (119 : UInt8), (110 : UInt8)]) (cl (recR b3) (1 : Nat)).toI ([((recR b3).set (0 : Nat) (C.str (ByteArray.mk #[(111 : UInt8), (119 : UInt8), (110 : UInt8)]))).set (2 : Nat) (C.int IntKind.i64 (7 : Int))] ++ (sorted s1).fst) (sorted s1).snd) (1 : Nat)).toL.length) (some ((V.one (A.c (C.bool (eqL (el (cl (ofX (codeOf (iandNot IntKind.i64 s2 (8 : Int))) (ByteArray.mk #[(111 : UInt8), (119 : UInt8), (110 : UInt8)]) (cl (recR b3) (1 : Nat)).toI ([((recR b3).set (0 : Nat) (C.str (ByteArray.mk #[(111 : UInt8), (119 : UInt8), (110 : UInt8)]))).set (2 : Nat) (C.int IntKind.i64 (7 : Int))] ++ (sorted s1).fst) (sorted s1).snd) (1 : Nat)).toL (0 : Nat)) (((recR b3).set (0 : Nat) (C.str (ByteArray.mk #[(111 : UInt8), (119 : UInt8), (110 : UInt8)]))).set (2 : Nat) (C.int IntKind.i64 (7 : Int)))))), []))) (none)) (some ((V.one (A.c (C.bool false)), [])))) (some ((V.one (A.c (C.bool false)), [])))) (some ((V.one (A.c (C.bool false)), [])))) (some ((V.one (A.c (C.bool false)), [])))))) (bcond ((cl (ofX (codeOf (iandNot IntKind.i64 s2 (8 : Int))) (ByteArray.mk #[(111 : UInt8), (119 : UInt8), (110 : UInt8)]) (cl (recR b3) (1 : Nat)).toI (sorted s1).fst (sorted s1).snd) (0 : Nat)).toI == (5 : Int)) (bcond ((cl (ofX (codeOf (iandNot IntKind.i64 s2 (8 : Int))) (ByteArray.mk #[(111 : UInt8), (119 : UInt8), (110 : UInt8)]) (cl (recR b3) (1 : Nat)).toI ([((recR b3).set (0 : Nat) (C.str (ByteArray.mk #[(111 : UInt8), (119 : UInt8), (110 : UInt8)]))).set (2 : Nat) (C.int IntKind.i64 (7 : Int))] ++ (sorted s1).fst) (sorted s1).snd) (0 : Nat)).toI == (1 : Int)) (bcond ((↑(cl (ofX (codeOf (iandNot IntKind.i64 s2 (8 : Int))) (ByteArray.mk #[(111 : UInt8), (119 : UInt8), (110 : UInt8)]) (cl (recR b3) (1 : Nat)).toI ([((recR b3).set (0 : Nat) (C.str (ByteArray.mk #[(111 : UInt8), (119 : UInt8), (110 : UInt8)]))).set (2 : Nat) (C.int IntKind.i64 (7 : Int))] ++ (sorted s1).fst) (sorted s1).snd) (1 : Nat)).toL.length : Int) == (1 : Int)) (bcond ((cl (ofX (codeOf (iandNot IntKind.i64 s2 (8 : Int))) (ByteArray.mk #[(111 : UInt8), (119 : UInt8), (110 : UInt8)]) (cl (recR b3) (1 : Nat)).toI ([((recR b3).set (0 : Nat) (C.str (ByteArray.mk #[(111 : UInt8), (119 : UInt8), (110 : UInt8)]))).set (2 : Nat) (C.int IntKind.i64 (7 : Int))] ++ (sorted s1).fst) (sorted s1).snd) (3 : Nat)).toI == (7 : Int)) (bcond (inB (0 : Int) (cl (ofX (codeOf (iandNot IntKind.i64 s2 (8 : Int))) (ByteArray.mk #[(111 : UInt8), (119 : UInt8), (110 : UInt8)]) (cl (recR b3) (1 : Nat)).toI ([((recR b3).set (0 : Nat) (C.str (ByteArray.mk #[(111 : UInt8), (119 : UInt8), (110 : UInt8)]))).set (2 : Nat) (C.int IntKind.i64 (7 : Int))] ++ (sorted s1).fst) (sorted s1).snd) (1 : Nat)).toL.length) (some ((V.one (A.c (C.bool (eqL (el (cl (ofX (codeOf (iandNot IntKind.i64 s2 (8 : Int))) (ByteArray.mk #[(111 : UInt8), (119 : UInt8), (110 : UInt8)]) (cl (recR b3) (1 : Nat)).toI ([((recR b3).set (0 : Nat) (C.str (ByteArray.mk #[(111 : UInt8), (119 : UInt8), (110 : UInt8)]))).set (2 : Nat) (C.int IntKind.i64 (7 : Int))] ++ (sorted s1).fst) (sorted s1).snd) (1 : Nat)).toL (0 : Nat)) (((recR b3).set (0 : Nat) (C.str (ByteArray.mk #[(111 : UInt8), (119 : UInt8), (110 : UInt8)]))).set (2 : Nat) (C.int IntKind.i64 (7 : Int)))))), []))) (none)) (some ((V.one (A.c (C.bool false)), [])))) (some ((V.one (A.c (C.bool false)), [])))) (some ((V.one (A.c (C.bool false)), [])))) (bcond ((cl (ofX (codeOf (iandNot IntKind.i64 s2 (8 : Int))) (ByteArray.mk #[(111 : UInt8), (119 : UInt8), (110 : UInt8)]) (cl (recR b3) (1 : Nat)).toI (sorted s1).fst (sorted s1).snd) (0 : Nat)).toI == (2 : Int)) (bcond ((cl (ofX (codeOf (iandNot IntKind.i64 s2 (8 : Int))) (ByteArray.mk #[(111 : UInt8), (119 : UInt8), (110 : UInt8)]) (cl (recR b3) (1 : Nat)).toI ([((recR b3).set (0 : Nat) (C.str (ByteArray.mk #[(111 : UInt8), (119 : UInt8), (110 : UInt8)]))).set (2 : Nat) (C.int IntKind.i64 (7 : Int))] ++ (sorted s1).fst) (sorted s1).snd) (0 : Nat)).toI == (1 : Int)) (bcond ((↑(cl (ofX (codeOf (iandNot IntKind.i64 s2 (8 : Int))) (ByteArray.mk #[(111 : UInt8), (119 : UInt8), (110 : UInt8)]) (cl (recR b3) (1 : Nat)).toI ([((recR b3).set (0 : Nat) (C.str (ByteArray.mk #[(111 : UInt8), (119 : UInt8), (110 : UInt8)]))).set (2 : Nat) (C.int IntKind.i64 (7 : Int))] ++ (sorted s1).fst) (sorted s1).snd) (1 : Nat)).toL.length : Int) == (1 : Int)) (bcond ((cl (ofX (codeOf (iandNot IntKind.i64 s2 (8 : Int))) (ByteArray.mk #[(111 : UInt8), (119 : UInt8), (110 : UInt8)]) (cl (recR b3) (1 : Nat)).toI ([((recR b3).set (0 : Nat) (C.str (ByteArray.mk #[(111 : UInt8), (119 : UInt8), (110 : UInt8)]))).set (2 : Nat) (C.int IntKind.i64 (7 : Int))] ++ (sorted s1).fst) (sorted s1).snd) (3 : Nat)).toI == (7 : Int)) (bcond (inB (0 : Int) (cl (ofX (codeOf (iandNot IntKind.i64 s2 (8 : Int))) (ByteArray.mk #[(111 : UInt8), (119 : UInt8), (110 : UInt8)]) (cl (recR b3) (1 : Nat)).toI ([((recR b3).set (0 : Nat) (C.str (ByteArray.mk #[(111 : UInt8), (119 : UInt8), (110 : UInt8)]))).set (2 : Nat) (C.int IntKind.i64 (7 : Int))] ++ (sorted s1).fst) (sorted s1).snd) (1 : Nat)).toL.length) (some ((V.one (A.c (C.bool (eqL (el (cl (ofX (codeOf (iandNot IntKind.i64 s2 (8 : Int))) (ByteArray.mk #[(111 : UInt8), (119 : UInt8), (110 : UInt8)]) (cl (recR b3) (1 : Nat)).toI ([((recR b3).set (0 : Nat) (C.str (ByteArray.mk #[(111 : UInt8), (119 : UInt8), (110 : UInt8)]))).set (2 : Nat) (C.int IntKind.i64 (7 : Int))] ++ (sorted s1).fst) (sorted s1).snd) (1 : Nat)).toL (0 : Nat)) (((recR b3).set (0 : Nat) (C.str (ByteArray.mk #[(111 : UInt8), (119 : UInt8), (110 : UInt8)]))).set (2 : Nat) (C.int IntKind.i64 (7 : Int)))))), []))) (none)) (some ((V.one (A.c (C.bool false)), [])))) (some ((V.one (A.c (C.bool false)), [])))) (some ((V.one (A.c (C.bool false)), [])))) (some ((V.one (A.c (C.bool false)), [])))))) (none)) (none)) (none) := by kernel_rfl
theorem f5_eq (n : Nat) (q : List C) (l : List (List C)) (fl : Int) : evFn tab FD nO false lv5 false n Try.f5 [.agg 41 q [], .one (.c (.sl 41 l)), .one (.c (.int .i64 fl))] [] = bcond (decide ((↑l.length : Int) > (20 : Int))) (some ((V.one (A.c (C.bool true)), []))) (evLoop false (f5_s6 n) n (f5_h6 (l) (fl) (l) ((↑l.length : Int)) ((0 : Int)) (q)) (f5_k6 n)) := by kernel_rfl


def own : ByteArray := ByteArray.mk #[(111 : UInt8), (119 : UInt8), (110 : UInt8)]
theorem bit3 (a : Int) : iandNot .i64 a 8 / 8 % 2 = 0 := by
  obtain ⟨b, hb⟩ : ∃ b : BitVec 64, b = BitVec.ofInt 64 a &&& ~~~ BitVec.ofInt 64 8 := ⟨_, rfl⟩
  have hbit : b.toNat.testBit 3 = false := by
    rw [hb, BitVec.toNat_and, Nat.testBit_and]
    have : (~~~ BitVec.ofInt 64 8).toNat.testBit 3 = false := by decide
    rw [this, Bool.and_false]
  have h2 : b.toNat / 8 % 2 = 0 := by
    rw [Nat.testBit_eq_decide_div_mod_eq] at hbit
    simp only [decide_eq_false_iff_not] at hbit
    have : b.toNat / 2 ^ 3 % 2 < 2 := Nat.mod_lt _ (by decide)
    have h8 : (2 : Nat) ^ 3 = 8 := by decide
    rw [h8] at hbit this
    omega
  have hlt := b.isLt
  have h64 : (2 : Nat) ^ 64 = 18446744073709551616 := by decide
  show IntKind.i64.wrap ((BitVec.ofInt 64 a &&& ~~~ BitVec.ofInt 64 8).toNat : Int) / 8 % 2 = 0
  rw [← hb]
  rw [IntKind.wrap_i64]
  omega
theorem code_03 (fl : Int) : codeOf (iandNot .i64 fl 8) = 0 ∨ codeOf (iandNot .i64 fl 8) = 3 := by
  have h := bit3 fl
  have h8 : ishr .i64 (iandNot .i64 fl 8) 3 = iandNot .i64 fl 8 / 8 := ishr_nat _ 3 (by decide)
  unfold codeOf
  rw [h8, iand_3]
  generalize iandNot .i64 fl 8 / 8 = z at h
  have : z % 4 = 0 ∨ z % 4 = 2 := by omega
  rcases this with h | h <;> rw [h]
  · exact .inl rfl
  · exact .inr rfl
theorem names_own : ∀ z : Fin 8, ((cl (el names8 z.val) 0).toS.toList == own.toList) = false := by decide +kernel
theorem name_own (a : Int) : ((nameOf a).toList == own.toList) = false := by
  unfold nameOf
  rw [iand_7]
  obtain ⟨z, hz⟩ := fin_of_mod a 8 (by decide)
  rw [show (8 : Int) = ((8 : Nat) : Int) from rfl, hz, Int.toNat_natCast]
  exact names_own z
/-- A record's first cells. -/
theorem rec_form (x : List C) : ∃ ty t rest, recR x = .str (nameOf (cl x 0).toI) :: .int .i64 ty :: .int .i64 t :: rest ∧ ((∀ c ∈ x, eqC c c = true) → ∀ c ∈ rest, eqC c c = true) := by
  have hu : ∀ c ∈ u0s, eqC c c = true := fun c hc => by rw [List.eq_of_mem_replicate hc]; rfl
  have ha : ∀ a b c d, ∀ z ∈ addr4 a b c d, eqC z z = true := fun a b c d z hz => by
    simp only [addr4, List.mem_cons, List.not_mem_nil, or_false] at hz
    rcases hz with rfl | rfl | rfl | rfl | rfl | rfl | rfl | rfl | rfl | rfl | rfl | rfl | rfl | rfl | rfl | rfl <;> simp [eqC]
  have hm : ∀ (ad : List C) (tx da : ByteArray), (∀ c ∈ ad, eqC c c = true) → ∀ c ∈ ad ++ [C.str tx, C.str da], eqC c c = true := fun ad tx da h c hc => by
    rcases List.mem_append.1 hc with hc | hc
    · exact h c hc
    · simp only [List.mem_cons, List.not_mem_nil, or_false] at hc
      rcases hc with rfl | rfl <;> simp [eqC]
  unfold recR recK
  simp only
  split
  · exact ⟨_, _, _, rfl, fun _ => hm _ _ _ (ha _ _ _ _)⟩
  · split
    · refine ⟨_, _, _, rfl, fun hx c hc => ?_⟩
      change c ∈ sub x 3 16 ++ List.drop (3 + (sub x 3 16).length) (recM _ _ _ _ _ _) at hc
      rcases List.mem_append.1 hc with hc | hc
      · exact hx c (List.mem_of_mem_drop (List.mem_of_mem_take hc))
      · have hc := List.mem_of_mem_drop hc
        simp only [recM, List.mem_cons] at hc
        rcases hc with rfl | rfl | rfl | hc
        · simp [eqC]
        · simp [eqC]
        · simp [eqC]
        · exact hm _ _ _ hu c hc
    · split
      · exact ⟨_, _, _, rfl, fun _ => hm _ _ _ hu⟩
      · split
        · exact ⟨_, _, _, rfl, fun _ => hm _ _ _ hu⟩
        · split <;> exact ⟨_, _, _, rfl, fun _ => hm _ _ _ hu⟩
theorem sorted_inv (l : List (List C)) : ((sorted l).1.length ≤ 32 ∧ (sorted l).2.length ≤ 32) ∧ ∀ e ∈ (sorted l).1, ∃ x, e = recR x := by
  have key : ∀ (ls : List (List C)) (s : List (List C) × List (List C)), (∀ e ∈ s.1, ∃ x, e = recR x) → ((ls.foldl sort1 s).1.length ≤ s.1.length + ls.length ∧ (ls.foldl sort1 s).2.length ≤ s.2.length + ls.length) ∧ ∀ e ∈ (ls.foldl sort1 s).1, ∃ x, e = recR x := by
    intro ls
    induction ls with
    | nil => exact fun s h => ⟨by simp, h⟩
    | cons x ls ih =>
      intro s h
      rw [List.foldl_cons]
      have h1 := sort1_len s x
      obtain ⟨h2, h3⟩ := ih (sort1 s x) (fun e he => by
        unfold sort1 at he
        split at he
        · exact h e he
        · rcases List.mem_append.1 he with he | he
          · exact h e he
          · exact ⟨x, List.mem_singleton.1 he⟩)
      refine ⟨?_, h3⟩
      simp only [List.length_cons]
      omega
  have hl : (l.take 32).length ≤ 32 := List.length_take_le _ _
  obtain ⟨h1, h2⟩ := key (l.take 32) ([], []) (fun e he => by cases he)
  unfold sorted
  refine ⟨?_, h2⟩
  simp only [List.length_nil] at h1
  omega
theorem scan_no {nm : ByteArray} {qt : Int} : ∀ (l : List (List C)) (s : Int × ByteArray × List (List C)), (∀ e ∈ l, ((cl e 0).toS.toList == nm.toList) = false) → l.foldl (scan nm qt) s = s
  | [], _, _ => rfl
  | r :: l, s, h => by
    rw [List.foldl_cons]
    have : scan nm qt s r = s := by
      unfold scan
      rw [if_pos (by rw [h r (List.mem_cons_self ..)]; rfl)]
    rw [this]
    exact scan_no l s fun e he => h e (List.mem_cons_of_mem _ he)
theorem eqL_refl : ∀ (l : List C), (∀ c ∈ l, eqC c c = true) → eqL l l = true
  | [], _ => rfl
  | c :: l, h => by
    rw [eqL, h c (List.mem_cons_self ..), eqL_refl l fun c hc => h c (List.mem_cons_of_mem _ hc)]
    rfl
theorem eqC_scalar {c : C} (h : K.scalar c.kind = true) : eqC c c = true := by
  cases c with
  | sl e xs => cases h
  | bool b => simp [eqC]
  | int k n => simp [eqC]
  | str s => simp [eqC]
theorem wks_scalar : ∀ {ks : List K} {x : List C}, WKs ks x → Ks.scalar ks = true → ∀ c ∈ x, eqC c c = true
  | [], [], _, _ => fun c hc => by cases hc
  | k :: ks, c :: x, h, hs => by
    simp only [Ks.scalar, Bool.and_eq_true] at hs
    intro c' hc
    rcases List.mem_cons.1 hc with rfl | hc
    · have := K.eq_iff h.1
      exact eqC_scalar (by rw [this]; exact hs.1)
    · exact wks_scalar h.2 hs.2 c' hc
  | [], _ :: _, h, _ => h.elim
  | _ :: _, [], h, _ => h.elim

theorem f5_end (n : Nat) (q : List C) (hq : ∀ c ∈ q, eqC c c = true) (l : List (List C)) (fl : Int) : f5_k6 n (X.exit 0) (f5_x6_0 l fl q) = some (.one (.c (.bool true)), []) := by
  obtain ⟨ty, t, rest, hr, hrest⟩ := rec_form q
  obtain ⟨⟨hs1, hs2⟩, hmem⟩ := sorted_inv l
  have hc := code_03 fl
  have hno : ∀ e ∈ (sorted l).1, ((cl e 0).toS.toList == own.toList) = false := fun e he => by
    obtain ⟨x, rfl⟩ := hmem e he
    obtain ⟨ty, t, rest, hr, _⟩ := rec_form x
    rw [hr]
    exact name_own _
  obtain ⟨r, hrd⟩ : ∃ r, r = ((recR q).set (0 : Nat) (C.str (ByteArray.mk #[(111 : UInt8), (119 : UInt8), (110 : UInt8)]))).set (2 : Nat) (C.int IntKind.i64 (7 : Int)) := ⟨_, rfl⟩
  have hrf : r = .str own :: .int .i64 ty :: .int .i64 7 :: rest := by rw [hrd, hr]; rfl
  have hqt : (cl (recR q) 1).toI = ty := by rw [hr]; rfl
  have hrr : eqL r r = true := by
    refine eqL_refl r fun c hc => ?_
    rw [hrf] at hc
    simp only [List.mem_cons] at hc
    rcases hc with rfl | rfl | rfl | hc
    · simp [eqC]
    · simp [eqC]
    · simp [eqC]
    · exact hrest hq c hc
  have hown : (own.toList == own.toList) = true := by simp
  have hemp : (emp.toList == emp.toList) = true := by simp
  have hgo1 : ∀ code, ofGo code ty own (sorted l).1 (sorted l).2 8 own 1048576 = ofNo code (sorted l).2 := fun code => by
    rw [ofGo, scan_no _ _ hno]
    simp only [List.length_nil]
    rw [if_neg (by decide), if_pos hemp, ofEnd, hown]
    rfl
  have hgo2 : ∀ code, ofGo code ty own (r :: (sorted l).1) (sorted l).2 8 own 1048576 = finding 1 [r] emp 7 := fun code => by
    have h1 : scan own ty (1048576, emp, []) r = (1048576, emp, [r]) := by
      unfold scan
      have e0 : (cl r 0).toS = own := by rw [hrf]; rfl
      have e1 : (cl r 1).toI = ty := by rw [hrf]; rfl
      rw [e0, e1, hown, if_neg (by simp), if_pos (by simp)]
      rfl
    rw [ofGo, List.foldl_cons, h1, scan_no _ _ hno]
    have h7 : ttlOf [r] = 7 := by
      have e2 : (cl r 2).toI = 7 := by rw [hrf]; rfl
      show (if (cl r 2).toI < 1048576 then (cl r 2).toI else 1048576) = 7
      rw [e2]; rfl
    simp only [h7]
    rfl
  rw [f5_a6_0, ← hrd, hqt, bcond_of (roomOk_of (by simp; omega) (by simp; omega)), bcond_of (by rw [Bool.and_eq_true, Nat.ble_eq, Nat.ble_eq]; omega), bcond_of (by rw [Bool.and_eq_true, Nat.ble_eq, Nat.ble_eq]; simp; omega)]
  rw [show ByteArray.mk #[(111 : UInt8), (119 : UInt8), (110 : UInt8)] = own from rfl]
  rw [show [r] ++ (sorted l).1 = r :: (sorted l).1 from rfl]
  rcases hc with hc | hc
  · rw [hc]
    have o1 : ofX 0 own ty (sorted l).1 (sorted l).2 = finding 5 [] emp (negOf (sorted l).2) := by unfold ofX; exact hgo1 0
    have o2 : ofX 0 own ty (r :: (sorted l).1) (sorted l).2 = finding 1 [r] emp 7 := by unfold ofX; exact hgo2 0
    rw [o1, o2]
    show some (V.one (A.c (C.bool (eqL r r))), ([] : Heap)) = _
    rw [hrr]
  · rw [hc]
    have o1 : ofX 3 own ty (sorted l).1 (sorted l).2 = finding 2 [] emp (negOf (sorted l).2) := by unfold ofX; exact hgo1 3
    have o2 : ofX 3 own ty (r :: (sorted l).1) (sorted l).2 = finding 1 [r] emp 7 := by unfold ofX; exact hgo2 3
    rw [o1, o2]
    show some (V.one (A.c (C.bool (eqL r r))), ([] : Heap)) = _
    rw [hrr]

theorem f5_out (n : Nat) (hn : 100 < n) (q : List C) (hq : ∀ c ∈ q, eqC c c = true) (l : List (List C)) (fl : Int) : evFn tab FD nO false lv5 false n Try.f5 [.agg 41 q [], .one (.c (.sl 41 l)), .one (.c (.int .i64 fl))] [] = some (.one (.c (.bool true)), []) := by
  rw [f5_eq]
  cases h1 : decide ((l.length : Int) > 20) with
  | true => rfl
  | false =>
    simp only [decide_eq_false_iff_not] at h1
    rw [bcond_f]
    have h := over_loop (xs := l) (L := fun m i (_ : Unit) => evLoop false (f5_s6 n) m (f5_h6 l fl l l.length i q) (f5_k6 n))
      (g := fun (_ : Unit) x => if decide (((cl x 19).toS.size : Int) > 300) = true then .inr (some (.one (.c (.bool true)), [])) else .inl ()) (E := fun _ => some (.one (.c (.bool true)), [])) (fun _ _ => True)
      (fun m i _ x hx hlt _ => by
        show evLoop false (f5_s6 n) (m + 1) _ _ = _
        rw [f5_t6]
        simp only [lt_nat, inB_nat, Int.toNat_natCast, el_get hx, wrap_succ (i := i) (by omega), hlt, decide_true, bcond_t]
        cases decide (((cl x 19).toS.size : Int) > 300) with
        | true => exact f5_a6_r n true q x
        | false => rfl)
      (fun _ _ _ _ _ _ _ _ => trivial)
      (fun m _ _ => by
        show evLoop false (f5_s6 n) (m + 1) _ _ = _
        rw [f5_t6, lt_nat, bcond_no (by simp), f5_end n q hq])
      l.length 0 () n (by omega) (by omega) trivial
    refine h.trans ?_
    rw [List.drop_zero]
    generalize l = ls
    induction ls with
    | nil => rfl
    | cons x ls ih =>
      rw [overX]
      cases decide (((cl x 19).toS.size : Int) > 300) with
      | true => rfl
      | false => exact ih
theorem law_ChaseParts : ∀ xs, All2 (ArgOk tab) [41, 42, 3] xs → FnAt Try.prog tab 5 (List.zipWith (argV tab) [41, 42, 3] xs) [] (.one (.c (.bool true))) [] := by
  intro xs h
  match xs, h with
  | [x, y, z], h =>
    obtain ⟨l, rfl⟩ := wk_sl h.2.1.1
    obtain ⟨b, rfl⟩ := wk_int h.2.2.1.1
    exact fn5 sFD rfl (f5_out 101 (by omega) x (wks_scalar h.1.1 rfl) l b)

end Go.Proofs.Ytlcegmkecphciaa
