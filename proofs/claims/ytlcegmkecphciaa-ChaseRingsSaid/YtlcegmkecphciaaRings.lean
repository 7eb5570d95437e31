/- Rings -/
import Derived.Test.YtlcegmkecphciaaNegs
import Derived.KernelRfl
namespace Go.Proofs.Ytlcegmkecphciaa
open Go Go.Eng
set_option maxRecDepth 100000
def atR (i c : Int) : ByteArray := (ByteArray.mk #[(114 : UInt8)]) ++ strOf [[C.int IntKind.u8 (IntKind.u8.wrap (IntKind.i64.wrap ((48 : Int) + i.tmod c)))]]
def e8 : En
  | [.one (.c (.int .i64 i)), .one (.ptr (.ext 0) 0 0)], [(.ext 0, (0, .box 3 [.int .i64 c] []))], k => bcond (c == 0) none (k (.one (.c (.str (atR i c)))) [(.ext 0, (0, .box 3 [.int .i64 c] []))])
  | _, _, _ => none
theorem es8 : ES Try.prog tab 8 e8 := by
  intro args h k x hh
  unfold e8 at hh
  split at hh
  · rename_i i c
    cases hb : (c == 0) with
    | true => rw [hb, bcond_t] at hh; cases hh
    | false =>
      rw [hb, bcond_f] at hh
      exact ⟨_, _, hh, fn8 (nF_sound _ _) rfl ((f8_eq 0 i c).trans (by rw [hb, bcond_f]; rfl))⟩
  · cases hh
def FE : Fun := mkF [(7, e7), (8, e8), (9, e9)]
theorem sFE : FSound Try.prog tab FE := mkF_sound (fun p hp => by
  simp only [List.mem_cons, List.not_mem_nil, or_false] at hp
  rcases hp with rfl | rfl | rfl
  · exact es7
  · exact es8
  · exact es9)

noncomputable abbrev f3_c7 : Code := (loops (body Try.f3)).getD 0 .skip
noncomputable abbrev f3_s7 (n : Nat) : St → (X → St → Option R) → Option R := fun st k => evCode tab FE nO lv3 false n f3_c7 st k
noncomputable abbrev f3_k7 (n : Nat) : X → St → Option R := after tab FE nO lv3 false n (body Try.f3) 0 (endK tab false Try.f3)
abbrev f3_h7 (s15 : Int) (s16 : Int) (b1_0 : Int) (b3_0 : Int) (b3_1 : Bool) (b3_2 : Bool) (b3_3 : Bool) (b3_4 : Int) (b3_5 : ByteArray) (b3_6 : Int) (b3_7 : List (List C)) (b3_8 : List (List C)) (b3_8_12 : List (List C)) (b3_9 : List (List C)) : St := { t := [((1 : Nat), V.one (A.ptr (Key.loc (1 : Nat) (0 : Nat)) (0 : Nat) (0 : Nat))), ((3 : Nat), V.one (A.ptr (Key.loc (3 : Nat) (0 : Nat)) (0 : Nat) (0 : Nat))), ((4 : Nat), V.one (A.fn (8 : Nat) [(Key.loc (1 : Nat) (0 : Nat), (0 : Nat))])), ((15 : Nat), V.one (A.c (C.int IntKind.i64 s15))), ((16 : Nat), V.one (A.c (C.int IntKind.i64 s16)))], h := [(Key.loc (1 : Nat) (0 : Nat), (0 : Nat), B.box (3 : Nat) [C.int IntKind.i64 b1_0] []), (Key.loc (3 : Nat) (0 : Nat), (0 : Nat), B.box (27 : Nat) [C.int IntKind.i64 b3_0, C.bool b3_1, C.bool b3_2, C.bool b3_3, C.int IntKind.i64 b3_4, C.str b3_5, C.int IntKind.i64 b3_6, C.sl (33 : Nat) b3_7, C.sl (33 : Nat) b3_8] [((7 : Nat), A.own (Key.loc (3 : Nat) (8 : Nat)) (0 : Nat) (33 : Nat)), ((8 : Nat), A.own (Key.loc (3 : Nat) (9 : Nat)) (0 : Nat) (33 : Nat))]), (Key.loc (3 : Nat) (8 : Nat), (0 : Nat), B.arr (33 : Nat) true b3_8_12), (Key.loc (3 : Nat) (9 : Nat), (0 : Nat), B.arr (33 : Nat) true b3_9)] }
abbrev f3_x7_0 (b1_0 : Int) (b3_0 : Int) (b3_1 : Bool) (b3_2 : Bool) (b3_3 : Bool) (b3_4 : Int) (b3_5 : ByteArray) (b3_6 : Int) (b3_7 : List (List C)) (b3_8 : List (List C)) (b3_8_10 : List (List C)) (b3_9 : List (List C)) : St := { t := [((1 : Nat), V.one (A.ptr (Key.loc (1 : Nat) (0 : Nat)) (0 : Nat) (0 : Nat))), ((3 : Nat), V.one (A.ptr (Key.loc (3 : Nat) (0 : Nat)) (0 : Nat) (0 : Nat))), ((4 : Nat), V.one (A.fn (8 : Nat) [(Key.loc (1 : Nat) (0 : Nat), (0 : Nat))]))], h := [(Key.loc (1 : Nat) (0 : Nat), (0 : Nat), B.box (3 : Nat) [C.int IntKind.i64 b1_0] []), (Key.loc (3 : Nat) (0 : Nat), (0 : Nat), B.box (27 : Nat) [C.int IntKind.i64 b3_0, C.bool b3_1, C.bool b3_2, C.bool b3_3, C.int IntKind.i64 b3_4, C.str b3_5, C.int IntKind.i64 b3_6, C.sl (33 : Nat) b3_7, C.sl (33 : Nat) b3_8] [((7 : Nat), A.own (Key.loc (3 : Nat) (8 : Nat)) (0 : Nat) (33 : Nat)), ((8 : Nat), A.own (Key.loc (3 : Nat) (9 : Nat)) (0 : Nat) (33 : Nat))]), (Key.loc (3 : Nat) (8 : Nat), (0 : Nat), B.arr (33 : Nat) true b3_8_10), (Key.loc (3 : Nat) (9 : Nat), (0 : Nat), B.arr (33 : Nat) true b3_9)] }
theorem f3_t7 (n m : Nat) (k : X → St → Option R) (s15 : Int) (s16 : Int) (b1_0 : Int) (b3_0 : Int) (b3_1 : Bool) (b3_2 : Bool) (b3_3 : Bool) (b3_4 : Int) (b3_5 : ByteArray) (b3_6 : Int) (b3_7 : List (List C)) (b3_8 : List (List C)) (b3_8_12 : List (List C)) (b3_9 : List (List C)) : evLoop false (f3_s7 n) (m + 1) (f3_h7 s15 s16 b1_0 b3_0 b3_1 b3_2 b3_3 b3_4 b3_5 b3_6 b3_7 b3_8 b3_8_12 b3_9) k = bcond (decide (s16 < s15)) (bcond (b1_0 == (0 : Int)) (none) (bcond (b1_0 == (0 : Int)) (none) (bcond (roomOk (b3_8_12.length + [[C.str (atR s16 b1_0), C.int IntKind.i64 (5 : Int), C.int IntKind.i64 (IntKind.i64.wrap ((5 : Int) + s16)), C.int IntKind.u8 (0 : Int), C.int IntKind.u8 (0 : Int), C.int IntKind.u8 (0 : Int), C.int IntKind.u8 (0 : Int), C.int IntKind.u8 (0 : Int), C.int IntKind.u8 (0 : Int), C.int IntKind.u8 (0 : Int), C.int IntKind.u8 (0 : Int), C.int IntKind.u8 (0 : Int), C.int IntKind.u8 (0 : Int), C.int IntKind.u8 (0 : Int), C.int IntKind.u8 (0 : Int), C.int IntKind.u8 (0 : Int), C.int IntKind.u8 (0 : Int), C.int IntKind.u8 (0 : Int), C.int IntKind.u8 (0 : Int), C.str (atR (IntKind.i64.wrap (s16 + (1 : Int))) b1_0), C.str (ByteArray.mk #[])]].length) (80 : Nat)) (evLoop false (f3_s7 n) m (f3_h7 (s15) (IntKind.i64.wrap (s16 + (1 : Int))) (b1_0) (b3_0) (b3_1) (b3_2) (b3_3) (b3_4) (b3_5) (b3_6) (b3_7) (b3_8) (b3_8_12 ++ [[C.str (atR s16 b1_0), C.int IntKind.i64 (5 : Int), C.int IntKind.i64 (IntKind.i64.wrap ((5 : Int) + s16)), C.int IntKind.u8 (0 : Int), C.int IntKind.u8 (0 : Int), C.int IntKind.u8 (0 : Int), C.int IntKind.u8 (0 : Int), C.int IntKind.u8 (0 : Int), C.int IntKind.u8 (0 : Int), C.int IntKind.u8 (0 : Int), C.int IntKind.u8 (0 : Int), C.int IntKind.u8 (0 : Int), C.int IntKind.u8 (0 : Int), C.int IntKind.u8 (0 : Int), C.int IntKind.u8 (0 : Int), C.int IntKind.u8 (0 : Int), C.int IntKind.u8 (0 : Int), C.int IntKind.u8 (0 : Int), C.int IntKind.u8 (0 : Int), C.str (atR (IntKind.i64.wrap (s16 + (1 : Int))) b1_0), C.str (ByteArray.mk #[])]]) (b3_9)) k) (none)))) (k (X.exit 0) (f3_x7_0 (b1_0) (b3_0) (b3_1) (b3_2) (b3_3) (b3_4) (b3_5) (b3_6) (b3_7) (b3_8) (b3_8_12) (b3_9))) := by kernel_rfl
theorem f3_a7_0 (n : Nat) (b1_0 : Int) (b3_0 : Int) (b3_1 : Bool) (b3_2 : Bool) (b3_3 : Bool) (b3_4 : Int) (b3_5 : ByteArray) (b3_6 : Int) (b3_7 : List (List C)) (b3_8 : List (List C)) (b3_8_10 : List (List C)) (b3_9 : List (List C)) : f3_k7 n (X.exit 0) (f3_x7_0 b1_0 b3_0 b3_1 b3_2 b3_3 b3_4 b3_5 b3_6 b3_7 b3_8 b3_8_10 b3_9) = bcond (b3_8_10.length.ble (1000000 : Nat) && b3_9.length.ble (1000000 : Nat)) (bcond (b1_0 == (0 : Int)) (none) (bcond (Int.tmod (8 : Int) b1_0 == (0 : Int)) (bcond ((cl (ofX b3_4 b3_5 b3_6 b3_8_10 b3_9) (0 : Nat)).toI == (5 : Int)) (some ((V.one (A.c (C.bool ((cl (ofX b3_4 b3_5 b3_6 b3_8_10 b3_9) (2 : Nat)).toS.toList == (ByteArray.mk #[]).toList))), []))) (some ((V.one (A.c (C.bool false)), [])))) (bcond ((cl (ofX b3_4 b3_5 b3_6 b3_8_10 b3_9) (0 : Nat)).toI == (0 : Int)) (bcond (b1_0 == (0 : Int)) (none) (bcond ((cl (ofX b3_4 b3_5 b3_6 b3_8_10 b3_9) (2 : Nat)).toS.toList == (atR (8 : Int) b1_0).toList) (some ((V.one (A.c (C.bool ((cl (ofX b3_4 b3_5 b3_6 b3_8_10 b3_9) (3 : Nat)).toI == (5 : Int)))), []))) (some ((V.one (A.c (C.bool false)), []))))) (some ((V.one (A.c (C.bool false)), [])))))) (none) := by kernel_rfl
theorem f3_eq (n : Nat) (a : Int) : evFn tab FE nO false lv3 false n Try.f3 [.one (.c (.int .i64 a))] [] = evLoop false (f3_s7 n) n (f3_h7 (IntKind.i64.wrap (iand IntKind.i64 a (7 : Int) + (1 : Int))) ((0 : Int)) (IntKind.i64.wrap (iand IntKind.i64 a (7 : Int) + (1 : Int))) ((0 : Int)) (false) (false) (false) ((0 : Int)) ((ByteArray.mk #[(114 : UInt8), (48 : UInt8)])) ((1 : Int)) ([]) ([]) ([]) ([])) (f3_k7 n) := by kernel_rfl


set_option maxHeartbeats 4000000 in
theorem f3_all : ∀ z : Fin 8, isT (evFn tab FE nO false lv3 false 20 Try.f3 [.one (.c (.int .i64 (z.val : Int)))] []) = true := by decide +kernel
theorem f3_out (a : Int) : evFn tab FE nO false lv3 false 20 Try.f3 [.one (.c (.int .i64 a))] [] = some (.one (.c (.bool true)), []) := by
  obtain ⟨z, hz⟩ := fin_of_mod a 8 (by decide)
  have h1 := f3_eq 20 a
  have h2 := f3_eq 20 (z.val : Int)
  have hz2 : (z.val : Int) % 8 = (z.val : Int) := by have := z.isLt; omega
  rw [iand_7, show (8 : Int) = ((8 : Nat) : Int) from rfl, hz] at h1
  rw [iand_7, hz2] at h2
  rw [h1, ← h2]
  exact isT_eq (f3_all z)
theorem law_ChaseRings : ∀ xs, All2 (ArgOk tab) [3] xs → FnAt Try.prog tab 3 (List.zipWith (argV tab) [3] xs) [] (.one (.c (.bool true))) [] := by
  intro xs h
  match xs, h with
  | [x], h =>
    obtain ⟨b, rfl⟩ := wk_int h.1.1
    exact fn3 sFE rfl (f3_out b)

end Go.Proofs.Ytlcegmkecphciaa
