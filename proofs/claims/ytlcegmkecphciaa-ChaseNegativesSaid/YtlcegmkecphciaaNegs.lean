/- Negs -/
import Derived.Test.YtlcegmkecphciaaParts
import Derived.KernelRfl
namespace Go.Proofs.Ytlcegmkecphciaa
open Go Go.Eng
set_option maxRecDepth 100000
noncomputable abbrev f6_c8 : Code := (loops (body Try.f6)).getD 0 .skip
noncomputable abbrev f6_s8 (n : Nat) : St → (X → St → Option R) → Option R := fun st k => evCode tab FD nO lv6 false n f6_c8 st k
noncomputable abbrev f6_k8 (n : Nat) : X → St → Option R := after tab FD nO lv6 false n (body Try.f6) 0 (endK tab false Try.f6)
abbrev f6_h8 (s0 : Int) (s6 : Int) (s22 : List (List C)) (s23 : Int) (s24 : Int) (b5_0 : Int) (b5_1 : Bool) (b5_2 : Bool) (b5_3 : Bool) (b5_4 : Int) (b5_5 : ByteArray) (b5_6 : Int) (b5_7 : List (List C)) (b5_8 : List (List C)) (b5_8_14 : List (List C)) (b5_9 : List (List C)) : St := { t := [((0 : Nat), V.one (A.c (C.int IntKind.i64 s0))), ((5 : Nat), V.one (A.ptr (Key.loc (5 : Nat) (0 : Nat)) (0 : Nat) (0 : Nat))), ((6 : Nat), V.one (A.c (C.int IntKind.i64 s6))), ((22 : Nat), V.one (A.c (C.sl (3 : Nat) s22))), ((23 : Nat), V.one (A.c (C.int IntKind.i64 s23))), ((24 : Nat), V.one (A.c (C.int IntKind.i64 s24)))], h := [(Key.loc (5 : Nat) (0 : Nat), (0 : Nat), B.box (27 : Nat) [C.int IntKind.i64 b5_0, C.bool b5_1, C.bool b5_2, C.bool b5_3, C.int IntKind.i64 b5_4, C.str b5_5, C.int IntKind.i64 b5_6, C.sl (33 : Nat) b5_7, C.sl (33 : Nat) b5_8] [((7 : Nat), A.own (Key.loc (5 : Nat) (8 : Nat)) (0 : Nat) (33 : Nat)), ((8 : Nat), A.own (Key.loc (5 : Nat) (9 : Nat)) (0 : Nat) (33 : Nat))]), (Key.loc (5 : Nat) (8 : Nat), (0 : Nat), B.arr (33 : Nat) true b5_8_14), (Key.loc (5 : Nat) (9 : Nat), (0 : Nat), B.arr (33 : Nat) true b5_9)] }
abbrev f6_x8_0 (s0 : Int) (s6 : Int) (b5_0 : Int) (b5_1 : Bool) (b5_2 : Bool) (b5_3 : Bool) (b5_4 : Int) (b5_5 : ByteArray) (b5_6 : Int) (b5_7 : List (List C)) (b5_8 : List (List C)) (b5_8_11 : List (List C)) (b5_9 : List (List C)) : St := { t := [((0 : Nat), V.one (A.c (C.int IntKind.i64 s0))), ((5 : Nat), V.one (A.ptr (Key.loc (5 : Nat) (0 : Nat)) (0 : Nat) (0 : Nat))), ((6 : Nat), V.one (A.c (C.int IntKind.i64 s6)))], h := [(Key.loc (5 : Nat) (0 : Nat), (0 : Nat), B.box (27 : Nat) [C.int IntKind.i64 b5_0, C.bool b5_1, C.bool b5_2, C.bool b5_3, C.int IntKind.i64 b5_4, C.str b5_5, C.int IntKind.i64 b5_6, C.sl (33 : Nat) b5_7, C.sl (33 : Nat) b5_8] [((7 : Nat), A.own (Key.loc (5 : Nat) (8 : Nat)) (0 : Nat) (33 : Nat)), ((8 : Nat), A.own (Key.loc (5 : Nat) (9 : Nat)) (0 : Nat) (33 : Nat))]), (Key.loc (5 : Nat) (8 : Nat), (0 : Nat), B.arr (33 : Nat) true b5_8_11), (Key.loc (5 : Nat) (9 : Nat), (0 : Nat), B.arr (33 : Nat) true b5_9)] }
theorem f6_t8 (n m : Nat) (k : X → St → Option R) (s0 : Int) (s6 : Int) (s22 : List (List C)) (s23 : Int) (s24 : Int) (b5_0 : Int) (b5_1 : Bool) (b5_2 : Bool) (b5_3 : Bool) (b5_4 : Int) (b5_5 : ByteArray) (b5_6 : Int) (b5_7 : List (List C)) (b5_8 : List (List C)) (b5_8_14 : List (List C)) (b5_9 : List (List C)) : evLoop false (f6_s8 n) (m + 1) (f6_h8 s0 s6 s22 s23 s24 b5_0 b5_1 b5_2 b5_3 b5_4 b5_5 b5_6 b5_7 b5_8 b5_8_14 b5_9) k = bcond (decide (s24 < s23)) (bcond (inB s24 s22.length) (bcond (iand IntKind.i64 s24 (1 : Int) == (1 : Int)) (bcond (s24 == (1 : Int)) (bcond (roomOk (b5_9.length + [[C.str (ByteArray.mk #[(122 : UInt8)]), C.int IntKind.i64 (6 : Int), C.int IntKind.i64 (iand IntKind.i64 (cl (el s22 s24.toNat) (0 : Nat)).toI (4095 : Int)), C.int IntKind.u8 (0 : Int), C.int IntKind.u8 (0 : Int), C.int IntKind.u8 (0 : Int), C.int IntKind.u8 (0 : Int), C.int IntKind.u8 (0 : Int), C.int IntKind.u8 (0 : Int), C.int IntKind.u8 (0 : Int), C.int IntKind.u8 (0 : Int), C.int IntKind.u8 (0 : Int), C.int IntKind.u8 (0 : Int), C.int IntKind.u8 (0 : Int), C.int IntKind.u8 (0 : Int), C.int IntKind.u8 (0 : Int), C.int IntKind.u8 (0 : Int), C.int IntKind.u8 (0 : Int), C.int IntKind.u8 (0 : Int), C.str (ByteArray.mk #[]), C.str (ByteArray.mk #[(113 : UInt8)])]].length) (80 : Nat)) (evLoop false (f6_s8 n) m (f6_h8 (s0) (iand IntKind.i64 (cl (el s22 s24.toNat) (0 : Nat)).toI (4095 : Int)) (s22) (s23) (IntKind.i64.wrap (s24 + (1 : Int))) (b5_0) (b5_1) (b5_2) (b5_3) (b5_4) (b5_5) (b5_6) (b5_7) (b5_8) (b5_8_14) (b5_9 ++ [[C.str (ByteArray.mk #[(122 : UInt8)]), C.int IntKind.i64 (6 : Int), C.int IntKind.i64 (iand IntKind.i64 (cl (el s22 s24.toNat) (0 : Nat)).toI (4095 : Int)), C.int IntKind.u8 (0 : Int), C.int IntKind.u8 (0 : Int), C.int IntKind.u8 (0 : Int), C.int IntKind.u8 (0 : Int), C.int IntKind.u8 (0 : Int), C.int IntKind.u8 (0 : Int), C.int IntKind.u8 (0 : Int), C.int IntKind.u8 (0 : Int), C.int IntKind.u8 (0 : Int), C.int IntKind.u8 (0 : Int), C.int IntKind.u8 (0 : Int), C.int IntKind.u8 (0 : Int), C.int IntKind.u8 (0 : Int), C.int IntKind.u8 (0 : Int), C.int IntKind.u8 (0 : Int), C.int IntKind.u8 (0 : Int), C.str (ByteArray.mk #[]), C.str (ByteArray.mk #[(113 : UInt8)])]])) k) (none)) (bcond (roomOk (b5_9.length + [[C.str (ByteArray.mk #[(122 : UInt8)]), C.int IntKind.i64 (6 : Int), C.int IntKind.i64 (iand IntKind.i64 (cl (el s22 s24.toNat) (0 : Nat)).toI (4095 : Int)), C.int IntKind.u8 (0 : Int), C.int IntKind.u8 (0 : Int), C.int IntKind.u8 (0 : Int), C.int IntKind.u8 (0 : Int), C.int IntKind.u8 (0 : Int), C.int IntKind.u8 (0 : Int), C.int IntKind.u8 (0 : Int), C.int IntKind.u8 (0 : Int), C.int IntKind.u8 (0 : Int), C.int IntKind.u8 (0 : Int), C.int IntKind.u8 (0 : Int), C.int IntKind.u8 (0 : Int), C.int IntKind.u8 (0 : Int), C.int IntKind.u8 (0 : Int), C.int IntKind.u8 (0 : Int), C.int IntKind.u8 (0 : Int), C.str (ByteArray.mk #[]), C.str (ByteArray.mk #[(113 : UInt8)])]].length) (80 : Nat)) (evLoop false (f6_s8 n) m (f6_h8 (s0) (s6) (s22) (s23) (IntKind.i64.wrap (s24 + (1 : Int))) (b5_0) (b5_1) (b5_2) (b5_3) (b5_4) (b5_5) (b5_6) (b5_7) (b5_8) (b5_8_14) (b5_9 ++ [[C.str (ByteArray.mk #[(122 : UInt8)]), C.int IntKind.i64 (6 : Int), C.int IntKind.i64 (iand IntKind.i64 (cl (el s22 s24.toNat) (0 : Nat)).toI (4095 : Int)), C.int IntKind.u8 (0 : Int), C.int IntKind.u8 (0 : Int), C.int IntKind.u8 (0 : Int), C.int IntKind.u8 (0 : Int), C.int IntKind.u8 (0 : Int), C.int IntKind.u8 (0 : Int), C.int IntKind.u8 (0 : Int), C.int IntKind.u8 (0 : Int), C.int IntKind.u8 (0 : Int), C.int IntKind.u8 (0 : Int), C.int IntKind.u8 (0 : Int), C.int IntKind.u8 (0 : Int), C.int IntKind.u8 (0 : Int), C.int IntKind.u8 (0 : Int), C.int IntKind.u8 (0 : Int), C.int IntKind.u8 (0 : Int), C.str (ByteArray.mk #[]), C.str (ByteArray.mk #[(113 : UInt8)])]])) k) (none))) (bcond (roomOk (b5_9.length + [[C.str (ByteArray.mk #[(122 : UInt8)]), C.int IntKind.i64 (16 : Int), C.int IntKind.i64 (iand IntKind.i64 (cl (el s22 s24.toNat) (0 : Nat)).toI (4095 : Int)), C.int IntKind.u8 (0 : Int), C.int IntKind.u8 (0 : Int), C.int IntKind.u8 (0 : Int), C.int IntKind.u8 (0 : Int), C.int IntKind.u8 (0 : Int), C.int IntKind.u8 (0 : Int), C.int IntKind.u8 (0 : Int), C.int IntKind.u8 (0 : Int), C.int IntKind.u8 (0 : Int), C.int IntKind.u8 (0 : Int), C.int IntKind.u8 (0 : Int), C.int IntKind.u8 (0 : Int), C.int IntKind.u8 (0 : Int), C.int IntKind.u8 (0 : Int), C.int IntKind.u8 (0 : Int), C.int IntKind.u8 (0 : Int), C.str (ByteArray.mk #[]), C.str (ByteArray.mk #[(113 : UInt8)])]].length) (80 : Nat)) (evLoop false (f6_s8 n) m (f6_h8 (s0) (s6) (s22) (s23) (IntKind.i64.wrap (s24 + (1 : Int))) (b5_0) (b5_1) (b5_2) (b5_3) (b5_4) (b5_5) (b5_6) (b5_7) (b5_8) (b5_8_14) (b5_9 ++ [[C.str (ByteArray.mk #[(122 : UInt8)]), C.int IntKind.i64 (16 : Int), C.int IntKind.i64 (iand IntKind.i64 (cl (el s22 s24.toNat) (0 : Nat)).toI (4095 : Int)), C.int IntKind.u8 (0 : Int), C.int IntKind.u8 (0 : Int), C.int IntKind.u8 (0 : Int), C.int IntKind.u8 (0 : Int), C.int IntKind.u8 (0 : Int), C.int IntKind.u8 (0 : Int), C.int IntKind.u8 (0 : Int), C.int IntKind.u8 (0 : Int), C.int IntKind.u8 (0 : Int), C.int IntKind.u8 (0 : Int), C.int IntKind.u8 (0 : Int), C.int IntKind.u8 (0 : Int), C.int IntKind.u8 (0 : Int), C.int IntKind.u8 (0 : Int), C.int IntKind.u8 (0 : Int), C.int IntKind.u8 (0 : Int), C.str (ByteArray.mk #[]), C.str (ByteArray.mk #[(113 : UInt8)])]])) k) (none))) (none)) (k (X.exit 0) (f6_x8_0 (s0) (s6) (b5_0) (b5_1) (b5_2) (b5_3) (b5_4) (b5_5) (b5_6) (b5_7) (b5_8) (b5_8_14) (b5_9))) := by kernel_rfl
theorem f6_a8_0 (n : Nat) (s0 : Int) (s6 : Int) (b5_0 : Int) (b5_1 : Bool) (b5_2 : Bool) (b5_3 : Bool) (b5_4 : Int) (b5_5 : ByteArray) (b5_6 : Int) (b5_7 : List (List C)) (b5_8 : List (List C)) (b5_8_11 : List (List C)) (b5_9 : List (List C)) : f6_k8 n (X.exit 0) (f6_x8_0 s0 s6 b5_0 b5_1 b5_2 b5_3 b5_4 b5_5 b5_6 b5_7 b5_8 b5_8_11 b5_9) = bcond (b5_8_11.length.ble (1000000 : Nat) && b5_9.length.ble (1000000 : Nat)) (bcond (iand IntKind.i64 s0 (1 : Int) == (1 : Int)) (bcond ((cl (ofX b5_4 b5_5 b5_6 b5_8_11 b5_9) (0 : Nat)).toI == (2 : Int)) (bcond ((cl (ofX b5_4 b5_5 b5_6 b5_8_11 b5_9) (3 : Nat)).toI == s6) (bcond ((↑(cl (ofX b5_4 b5_5 b5_6 b5_8_11 b5_9) (1 : Nat)).toL.length : Int) == (0 : Int)) (some ((V.one (A.c (C.bool ((cl (ofX b5_4 b5_5 b5_6 b5_8_11 b5_9) (2 : Nat)).toS.toList == (ByteArray.mk #[]).toList))), []))) (some ((V.one (A.c (C.bool false)), [])))) (some ((V.one (A.c (C.bool false)), [])))) (some ((V.one (A.c (C.bool false)), [])))) (bcond ((cl (ofX b5_4 b5_5 b5_6 b5_8_11 b5_9) (0 : Nat)).toI == (5 : Int)) (bcond ((cl (ofX b5_4 b5_5 b5_6 b5_8_11 b5_9) (3 : Nat)).toI == s6) (bcond ((↑(cl (ofX b5_4 b5_5 b5_6 b5_8_11 b5_9) (1 : Nat)).toL.length : Int) == (0 : Int)) (some ((V.one (A.c (C.bool ((cl (ofX b5_4 b5_5 b5_6 b5_8_11 b5_9) (2 : Nat)).toS.toList == (ByteArray.mk #[]).toList))), []))) (some ((V.one (A.c (C.bool false)), [])))) (some ((V.one (A.c (C.bool false)), [])))) (some ((V.one (A.c (C.bool false)), []))))) (none) := by kernel_rfl
theorem f6_eq (n : Nat) (c : Int) (l : List (List C)) : evFn tab FD nO false lv6 false n Try.f6 [.one (.c (.int .i64 c)), .one (.c (.sl 3 l))] [] = bcond (decide ((↑l.length : Int) > (20 : Int))) (some ((V.one (A.c (C.bool true)), []))) (evLoop false (f6_s8 n) n (f6_h8 (c) ((0 : Int)) (l) ((↑l.length : Int)) ((0 : Int)) ((0 : Int)) (false) (false) (false) (IntKind.i64.wrap (iand IntKind.i64 c (1 : Int) * (3 : Int))) ((ByteArray.mk #[(97 : UInt8)])) ((1 : Int)) ([]) ([]) ([]) ([])) (f6_k8 n)) := by kernel_rfl


def tI (x : List C) : Int := iand .i64 (cl x 0).toI 4095
def recN (ty : Int) (x : List C) : List C := [C.str (ByteArray.mk #[(122 : UInt8)]), C.int IntKind.i64 ty, C.int IntKind.i64 (tI x), C.int IntKind.u8 0, C.int IntKind.u8 0, C.int IntKind.u8 0, C.int IntKind.u8 0, C.int IntKind.u8 0, C.int IntKind.u8 0, C.int IntKind.u8 0, C.int IntKind.u8 0, C.int IntKind.u8 0, C.int IntKind.u8 0, C.int IntKind.u8 0, C.int IntKind.u8 0, C.int IntKind.u8 0, C.int IntKind.u8 0, C.int IntKind.u8 0, C.int IntKind.u8 0, C.str (ByteArray.mk #[]), C.str (ByteArray.mk #[(113 : UInt8)])]
/-- One record more. -/
def step6 (s : Int × List (List C)) (x : List C) : Int × List (List C) :=
  if s.2.length % 2 = 1 then (if s.2.length = 1 then tI x else s.1, s.2 ++ [recN 6 x]) else (s.1, s.2 ++ [recN 16 x])
def Inv6 (i : Nat) (s : Int × List (List C)) : Prop := s.2.length = i ∧ (i ≤ 1 → s.1 = 0 ∧ s.2.find? isSOA = none) ∧ (2 ≤ i → ∃ r, s.2.find? isSOA = some r ∧ (cl r 2).toI = s.1)
theorem inv6_step {i : Nat} {s : Int × List (List C)} (x : List C) (h : Inv6 i s) : Inv6 (i + 1) (step6 s x) := by
  obtain ⟨h1, h2, h3⟩ := h
  unfold step6
  rw [h1]
  split
  · rename_i hodd
    refine ⟨by simp [h1], fun h => by omega, fun _ => ?_⟩
    rw [List.find?_append]
    split
    · rename_i hi
      rw [(h2 (by omega)).2]
      exact ⟨recN 6 x, rfl, rfl⟩
    · rename_i hi
      obtain ⟨r, h4, h5⟩ := h3 (by omega)
      rw [h4]
      exact ⟨r, rfl, h5⟩
  · rename_i hev
    refine ⟨by simp [h1], fun h => ?_, fun h => ?_⟩
    · have := h2 (by omega)
      refine ⟨this.1, ?_⟩
      rw [List.find?_append, this.2]
      rfl
    · obtain ⟨r, h4, h5⟩ := h3 (by omega)
      rw [List.find?_append, h4]
      exact ⟨r, rfl, h5⟩
theorem inv6_neg {i : Nat} {s : Int × List (List C)} (h : Inv6 i s) : negOf s.2 = s.1 := by
  obtain ⟨h1, h2, h3⟩ := h
  unfold negOf
  rcases Nat.lt_or_ge i 2 with hi | hi
  · rw [(h2 (by omega)).2, (h2 (by omega)).1]
  · obtain ⟨r, h4, h5⟩ := h3 hi
    rw [h4]
    exact h5
theorem odd_nat (i : Nat) : (iand .i64 (i : Int) 1 == 1) = decide (i % 2 = 1) := by
  rw [iand_1]
  by_cases h : i % 2 = 1
  · rw [decide_eq_true h, beq_iff_eq]; omega
  · rw [decide_eq_false h, beq_eq_false_iff_ne]; omega
theorem one_nat (i : Nat) : ((i : Int) == 1) = decide (i = 1) := by
  by_cases h : i = 1
  · rw [decide_eq_true h, beq_iff_eq]; omega
  · rw [decide_eq_false h, beq_eq_false_iff_ne]; omega
theorem f6_L8 (n : Nat) (k : X → St → Option R) (c : Int) (l : List (List C)) (a0 : Int) (a1 a2 a3 : Bool) (a4 : Int) (a5 : ByteArray) (a6 : Int) (a7 a8 a9 : List (List C)) (h20 : l.length ≤ 20) (m : Nat) (hm : l.length < m) :
    ∃ s, Inv6 l.length s ∧ evLoop false (f6_s8 n) m (f6_h8 c 0 l l.length 0 a0 a1 a2 a3 a4 a5 a6 a7 a8 a9 []) k = k (X.exit 0) (f6_x8_0 c s.1 a0 a1 a2 a3 a4 a5 a6 a7 a8 a9 s.2) := by
  have h := fold_loop (xs := l) (L := fun m i (s : Int × List (List C)) => evLoop false (f6_s8 n) m (f6_h8 c s.1 l l.length i a0 a1 a2 a3 a4 a5 a6 a7 a8 a9 s.2) k) (f := step6) (E := fun s => k (X.exit 0) (f6_x8_0 c s.1 a0 a1 a2 a3 a4 a5 a6 a7 a8 a9 s.2)) Inv6
    (fun m i s x hx hlt hI => by
      show evLoop false (f6_s8 n) (m + 1) _ k = evLoop false (f6_s8 n) m _ k
      have hlen := hI.1
      have hr : ∀ r : List C, roomOk (s.2.length + [r].length) 80 = true := fun r => roomOk_of (by simp; omega) (by simp; omega)
      rw [f6_t8]
      simp only [lt_nat, inB_nat, Int.toNat_natCast, el_get hx, wrap_succ (i := i) (by omega), hlt, decide_true, bcond_t, hr, odd_nat, one_nat]
      unfold step6
      rw [hlen]
      by_cases hodd : i % 2 = 1
      · rw [decide_eq_true hodd, bcond_t, if_pos hodd]
        by_cases h1 : i = 1
        · rw [decide_eq_true h1, bcond_t, if_pos h1]; rfl
        · rw [decide_eq_false h1, bcond_f, if_neg h1]; rfl
      · rw [decide_eq_false hodd, bcond_f, if_neg hodd]; rfl)
    (fun i s x hx hlt hI => inv6_step x hI)
    (fun m s hI => by
      show evLoop false (f6_s8 n) (m + 1) _ k = _
      rw [f6_t8, lt_nat, bcond_no (by simp)])
    l.length 0 (0, []) m (by omega) hm ⟨rfl, fun _ => ⟨rfl, rfl⟩, fun h => by omega⟩
  have hinv : ∀ (ls : List (List C)) (i : Nat) (s : Int × List (List C)), Inv6 i s → Inv6 (i + ls.length) (ls.foldl step6 s) := by
    intro ls
    induction ls with
    | nil => exact fun i s h => h
    | cons x ls ih =>
      intro i s h
      have := ih (i + 1) (step6 s x) (inv6_step x h)
      rw [List.foldl_cons, List.length_cons, show i + (ls.length + 1) = i + 1 + ls.length from by omega]
      exact this
  have h0 := hinv l 0 (0, []) ⟨rfl, fun _ => ⟨rfl, rfl⟩, fun h => by omega⟩
  rw [Nat.zero_add] at h0
  exact ⟨_, h0, h⟩
theorem f6_out (n : Nat) (hn : 100 < n) (c : Int) (l : List (List C)) : evFn tab FD nO false lv6 false n Try.f6 [.one (.c (.int .i64 c)), .one (.c (.sl 3 l))] [] = some (.one (.c (.bool true)), []) := by
  rw [f6_eq]
  cases h1 : decide ((l.length : Int) > 20) with
  | true => rfl
  | false =>
    simp only [decide_eq_false_iff_not] at h1
    rw [bcond_f]
    obtain ⟨s, hI, hs⟩ := f6_L8 n (f6_k8 n) c l 0 false false false (IntKind.i64.wrap (iand .i64 c 1 * 3)) (ByteArray.mk #[(97 : UInt8)]) 1 [] [] [] (by omega) n (by omega)
    have hlen := hI.1
    have hneg := inv6_neg hI
    have hgo : ∀ code, ofGo code 1 (ByteArray.mk #[(97 : UInt8)]) [] s.2 8 (ByteArray.mk #[(97 : UInt8)]) 1048576 = ofNo code s.2 := fun code => by
      rw [ofGo, List.foldl_nil]
      simp only [List.length_nil]
      rw [if_neg (by decide), if_pos (by simp), ofEnd, if_neg (by simp)]
    rw [hs, f6_a8_0, bcond_of (by rw [Bool.and_eq_true, Nat.ble_eq, Nat.ble_eq]; simp; omega), iand_1]
    have hc : c % 2 = 0 ∨ c % 2 = 1 := by omega
    rcases hc with hc | hc
    · rw [hc]
      have o : ofX (IntKind.i64.wrap (0 * 3)) (ByteArray.mk #[(97 : UInt8)]) 1 [] s.2 = finding 5 [] emp s.1 := by
        rw [show IntKind.i64.wrap (0 * 3) = 0 from wrap_ok (by omega) (by omega), ← hneg]
        unfold ofX
        exact hgo 0
      rw [o]
      show bcond (s.1 == s.1) (some (V.one (A.c (C.bool (emp.toList == emp.toList))), ([] : Heap))) _ = _
      rw [bcond_of (by simp)]
      simp
    · rw [hc]
      have o : ofX (IntKind.i64.wrap (1 * 3)) (ByteArray.mk #[(97 : UInt8)]) 1 [] s.2 = finding 2 [] emp s.1 := by
        rw [show IntKind.i64.wrap (1 * 3) = 3 from wrap_ok (by omega) (by omega), ← hneg]
        unfold ofX
        exact hgo 3
      rw [o]
      show bcond (s.1 == s.1) (some (V.one (A.c (C.bool (emp.toList == emp.toList))), ([] : Heap))) _ = _
      rw [bcond_of (by simp)]
      simp
theorem law_ChaseNegatives : ∀ xs, All2 (ArgOk tab) [3, 46] xs → FnAt Try.prog tab 6 (List.zipWith (argV tab) [3, 46] xs) [] (.one (.c (.bool true))) [] := by
  intro xs h
  match xs, h with
  | [x, y], h =>
    obtain ⟨b, rfl⟩ := wk_int h.1.1
    obtain ⟨l, rfl⟩ := wk_sl h.2.1.1
    exact fn6 sFD rfl (f6_out 101 (by omega) b l)

end Go.Proofs.Ytlcegmkecphciaa
