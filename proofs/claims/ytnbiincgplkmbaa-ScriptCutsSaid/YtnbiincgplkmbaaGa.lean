/- Ga -/
import Derived.Test.YtnbiincgplkmbaaFd
import Derived.KernelRfl
namespace Go.Proofs.Ytnbiincgplkmbaa
open Go Go.Eng
set_option maxRecDepth 100000
def oY : FuncId → Bool := fun f => match f with | 14 => true | 15 => true | 16 => true | _ => false
noncomputable abbrev f15_c2 : Code := (loops (body Try.f15)).getD 0 .skip
noncomputable abbrev f15_s2 (n : Nat) : St → (X → St → Option R) → Option R := fun st k => evCode tab nF oY lv15 true n f15_c2 st k
noncomputable abbrev f15_k2 (n : Nat) : X → St → Option R := after tab nF oY lv15 true n (body Try.f15) 0 (endK tab true Try.f15)
abbrev f15_h2 (s2 : Int) (s7 : Int) (e0 : List (List C)) : St := { t := [((0 : Nat), V.one (A.own (Key.ext (0 : Nat)) (1 : Nat) (5 : Nat))), ((2 : Nat), V.one (A.c (C.int IntKind.i64 s2))), ((7 : Nat), V.one (A.c (C.int IntKind.i64 s7)))], h := [(Key.ext (0 : Nat), (1 : Nat), B.arr (5 : Nat) true e0)] }
abbrev f15_x2_0 (e0 : List (List C)) : St := { t := [((0 : Nat), V.one (A.own (Key.ext (0 : Nat)) (1 : Nat) (5 : Nat)))], h := [(Key.ext (0 : Nat), (1 : Nat), B.arr (5 : Nat) true e0)] }
theorem f15_t2 (n m : Nat) (k : X → St → Option R) (s2 : Int) (s7 : Int) (e0 : List (List C)) : evLoop true (f15_s2 n) (m + 1) (f15_h2 s2 s7 e0) k = bcond (decide (s7 ≥ (0 : Int))) (bcond (decide (IntKind.i64.wrap ((8 : Int) * s7) < (0 : Int))) (none) (bcond (roomOk (e0.length + [[C.int IntKind.u8 (IntKind.u8.wrap (ishr IntKind.i64 s2 (IntKind.i64.wrap ((8 : Int) * s7))))]].length) (1 : Nat)) (evLoop true (f15_s2 n) m (f15_h2 (s2) (IntKind.i64.wrap (s7 - (1 : Int))) (e0 ++ [[C.int IntKind.u8 (IntKind.u8.wrap (ishr IntKind.i64 s2 (IntKind.i64.wrap ((8 : Int) * s7))))]])) k) (none))) (k (X.exit 0) (f15_x2_0 (e0))) := by kernel_rfl
theorem f15_a2_0 (n : Nat) (e0 : List (List C)) : f15_k2 n (X.exit 0) (f15_x2_0 e0) = some ((V.one (A.own (Key.ext (0 : Nat)) (1 : Nat) (5 : Nat)), [(Key.ext (0 : Nat), (1 : Nat), B.arr (5 : Nat) true e0)])) := by kernel_rfl
theorem f15_eq (n : Nat) (xs : List (List C)) (a : Int) (x : Int) : evFn tab nF oY true lv15 true n Try.f15 [.one (.own (.ext 0) 0 5), .one (.c (.int .i64 a)), .one (.c (.int .i64 x))] [(.ext 0, (0, .arr 5 true xs))] = evLoop true (f15_s2 n) n (f15_h2 (x) (IntKind.i64.wrap (a - (1 : Int))) (xs)) (f15_k2 n) := by kernel_rfl


theorem f14_eq (n : Nat) (xs : List (List C)) (s : ByteArray) : evFn tab nF oY true lv14 true n Try.f14 [.one (.own (.ext 0) 0 5), .one (.c (.str s))] [(.ext 0, (0, .arr 5 true xs))] = bcond (roomOk (xs.length + [[C.int IntKind.u8 (IntKind.u8.wrap (↑s.size : Int))]].length) (1 : Nat)) (bcond (roomOk ((xs ++ [[C.int IntKind.u8 (IntKind.u8.wrap (↑s.size : Int))]]).length + (bytesOf s).length) (1 : Nat)) (some ((V.one (A.own (Key.ext (0 : Nat)) (2 : Nat) (5 : Nat)), [(Key.ext (0 : Nat), (2 : Nat), B.arr (5 : Nat) true (xs ++ [[C.int IntKind.u8 (IntKind.u8.wrap (↑s.size : Int))]] ++ bytesOf s))]))) (none)) (none) := by kernel_rfl


def u8 (z : Int) : UInt8 := UInt8.ofNat (z % 256).toNat
theorem B1_u8 (z : Int) : B1 (u8 z) = [C.int IntKind.u8 (IntKind.u8.wrap z)] := by
  have h0 : 0 ≤ z % 256 := Int.emod_nonneg _ (by decide)
  have h1 : z % 256 < 256 := Int.emod_lt_of_pos _ (by decide)
  simp only [B1, u8, UInt8.toNat_ofNat', IntKind.wrap_u8]
  congr 2
  omega
/-- A number as n bytes, the greatest first. -/
def putB : Nat → Int → List UInt8
  | 0, _ => []
  | k + 1, x => u8 (x / (256 : Int) ^ k) :: putB k x
theorem putB_len : ∀ (k : Nat) (x : Int), (putB k x).length = k
  | 0, _ => rfl
  | k + 1, x => by simp [putB, putB_len k x]
theorem putB_get : ∀ (k : Nat) (x : Int) (i : Nat), i < k → (putB k x)[i]? = some (u8 (x / (256 : Int) ^ (k - 1 - i)))
  | k + 1, x, 0, _ => rfl
  | k + 1, x, i + 1, h => by
    rw [putB, List.getElem?_cons_succ, putB_get k x i (by omega)]
    congr 4
    omega
theorem shr8 (x : Int) {j : Nat} (hj : j ≤ 7) : ishr .i64 x (IntKind.i64.wrap (8 * (j : Int))) = x / (256 : Int) ^ j := by
  rw [wrap_ok (by omega) (by omega), show (8 : Int) * (j : Int) = ((8 * j : Nat) : Int) from by omega, ishr_nat x (8 * j) (by omega)]
  congr 1
  rw [Nat.pow_mul]
  rfl
theorem f15_out (n : Nat) (hn : 10 < n) (xs : List (List C)) (a x : Int) (h0 : 0 ≤ a) (h7 : a ≤ 7) (hl : xs.length ≤ lim40) :
    evFn tab nF oY true lv15 true n Try.f15 [.one (.own (.ext 0) 0 5), .one (.c (.int .i64 a)), .one (.c (.int .i64 x))] [(.ext 0, (0, .arr 5 true xs))] = some (.one (.own (.ext 0) 1 5), [(.ext 0, (1, .arr 5 true (xs ++ toB (putB a.toNat x))))]) := by
  obtain ⟨c, rfl⟩ : ∃ c : Nat, a = (c : Int) := ⟨a.toNat, by omega⟩
  have h40 : lim40 = 1099511627776 := rfl
  have hp := putB_len c x
  rw [f15_eq, Int.toNat_natCast, ← f15_a2_0 n, wrap_ok (by omega) (by omega)]
  have h := fold_loop (xs := List.range c) (L := fun m i (_ : Unit) => evLoop true (f15_s2 n) m (f15_h2 x ((c : Int) - 1 - (i : Int)) (xs ++ toB ((putB c x).take i))) (f15_k2 n)) (f := fun _ _ => ()) (E := fun _ => f15_k2 n (X.exit 0) (f15_x2_0 (xs ++ toB (putB c x)))) (fun _ _ => True)
    (fun m i _ y hx hlt _ => by
      show evLoop true (f15_s2 n) (m + 1) _ _ = evLoop true (f15_s2 n) m _ _
      simp only [List.length_range] at hlt
      obtain ⟨j, hj⟩ : ∃ j : Nat, (c : Int) - 1 - (i : Int) = (j : Int) := ⟨c - 1 - i, by omega⟩
      have hji : j = c - 1 - i := by omega
      have hget := putB_get c x i hlt
      rw [f15_t2, hj, bcond_of (by simp), shr8 x (by omega), wrap_ok (a := 8 * (j : Int)) (by omega) (by omega), bcond_no (by simp; omega), wrap_ok (a := (j : Int) - 1) (by omega) (by omega)]
      rw [bcond_of (roomOk_of (by simp [toB_len]; omega) (by simp [toB_len]; omega)), ← B1_u8]
      have hlt2 : i < (putB c x).length := by omega
      have e : (putB c x).take (i + 1) = (putB c x).take i ++ [u8 (x / (256 : Int) ^ j)] := by
        rw [List.take_succ_eq_append_getElem hlt2, (List.getElem?_eq_some_iff.1 hget).2, hji]
      rw [e, ← toB_app, ← List.append_assoc, show (j : Int) - 1 = (c : Int) - 1 - ((i + 1 : Nat) : Int) from by omega]
      rfl)
    (fun _ _ _ _ _ _ => trivial)
    (fun m _ _ => by
      show evLoop true (f15_s2 n) (m + 1) _ _ = _
      rw [f15_t2, List.length_range, bcond_no (by simp; omega), List.take_of_length_le (by omega)])
    c 0 () n (by simp) (by omega) trivial
  simpa [toB] using h
def e15 : En
  | [.one (.own (.ext 0) 0 5), .one (.c (.int .i64 a)), .one (.c (.int .i64 x))], [(.ext 0, (0, .arr 5 true xs))], k =>
    bcond (decide (0 ≤ a) && (decide (a ≤ 7) && Nat.ble xs.length lim40)) (k (.one (.own (.ext 0) 1 5)) [(.ext 0, (1, .arr 5 true (xs ++ toB (putB a.toNat x))))]) none
  | _, _, _ => none
theorem es15 : ES Try.prog tab 15 e15 := by
  intro args h k x hh
  unfold e15 at hh
  split at hh
  · rename_i a x xs
    cases hb : (decide (0 ≤ a) && (decide (a ≤ 7) && Nat.ble xs.length lim40)) with
    | false => rw [hb, bcond_f] at hh; cases hh
    | true =>
      rw [hb, bcond_t] at hh
      simp only [Bool.and_eq_true, decide_eq_true_eq, Nat.ble_eq] at hb
      exact ⟨_, _, hh, fn15 (nF_sound _ _) rfl (f15_out 11 (by omega) xs a x hb.1 hb.2.1 hb.2.2)⟩
  · cases hh
/-- A text, its length ahead. -/
def texB (s : ByteArray) : List UInt8 := u8 s.size :: s.data.toList
theorem f14_out (n : Nat) (xs : List (List C)) (s : ByteArray) (hl : xs.length ≤ lim40) (hs : s.size ≤ 255) :
    evFn tab nF oY true lv14 true n Try.f14 [.one (.own (.ext 0) 0 5), .one (.c (.str s))] [(.ext 0, (0, .arr 5 true xs))] = some (.one (.own (.ext 0) 2 5), [(.ext 0, (2, .arr 5 true (xs ++ toB (texB s))))]) := by
  have h40 : lim40 = 1099511627776 := rfl
  have e : bytesOf s = toB s.data.toList := rfl
  have e2 : s.data.toList.length = s.size := rfl
  rw [f14_eq, ← B1_u8, e, bcond_of (roomOk_of (by simp; omega) (by simp; omega)), bcond_of (roomOk_of (by simp only [List.length_append, toB_len, List.length_singleton]; omega) (by simp only [List.length_append, toB_len, List.length_singleton]; omega))]
  rw [List.append_assoc]
  rfl
def e14 : En
  | [.one (.own (.ext 0) 0 5), .one (.c (.str s))], [(.ext 0, (0, .arr 5 true xs))], k =>
    bcond (Nat.ble s.size 255 && Nat.ble xs.length lim40) (k (.one (.own (.ext 0) 2 5)) [(.ext 0, (2, .arr 5 true (xs ++ toB (texB s))))]) none
  | _, _, _ => none
theorem es14 : ES Try.prog tab 14 e14 := by
  intro args h k x hh
  unfold e14 at hh
  split at hh
  · rename_i s xs
    cases hb : (Nat.ble s.size 255 && Nat.ble xs.length lim40) with
    | false => rw [hb, bcond_f] at hh; cases hh
    | true =>
      rw [hb, bcond_t] at hh
      simp only [Bool.and_eq_true, Nat.ble_eq] at hb
      exact ⟨_, _, hh, fn14 (nF_sound _ _) rfl (f14_out 0 xs s hb.2 hb.1)⟩
  · cases hh
def FE : Fun := mkF [(14, e14), (15, e15)]
theorem sFE : FSound Try.prog tab FE := mkF_sound (fun p hp => by
  simp only [List.mem_cons, List.not_mem_nil, or_false] at hp
  rcases hp with rfl | rfl
  · exact es14
  · exact es15)

noncomputable abbrev f16_c9 : Code := (loops (body Try.f16)).getD 0 .skip
noncomputable abbrev f16_s9 (n : Nat) : St → (X → St → Option R) → Option R := fun st k => evCode tab FE oY lv16 true n f16_c9 st k
noncomputable abbrev f16_k9 (n : Nat) : X → St → Option R := after tab FE oY lv16 true n (body Try.f16) 0 (endK tab true Try.f16)
abbrev f16_h9 (s6 : List (List C)) (s7 : List (List C)) (s60 : List (List C)) (s61 : Int) (s62 : Int) (e0 : List (List C)) : St := { t := [((0 : Nat), V.one (A.own (Key.ext (0 : Nat)) (1 : Nat) (5 : Nat))), ((6 : Nat), V.one (A.c (C.sl (29 : Nat) s6))), ((7 : Nat), V.one (A.c (C.sl (42 : Nat) s7))), ((60 : Nat), V.one (A.c (C.sl (9 : Nat) s60))), ((61 : Nat), V.one (A.c (C.int IntKind.i64 s61))), ((62 : Nat), V.one (A.c (C.int IntKind.i64 s62)))], h := [(Key.ext (0 : Nat), (1 : Nat), B.arr (5 : Nat) true e0)] }
abbrev f16_x9_0 (s6 : List (List C)) (s7 : List (List C)) (e0 : List (List C)) : St := { t := [((0 : Nat), V.one (A.own (Key.ext (0 : Nat)) (1 : Nat) (5 : Nat))), ((6 : Nat), V.one (A.c (C.sl (29 : Nat) s6))), ((7 : Nat), V.one (A.c (C.sl (42 : Nat) s7)))], h := [(Key.ext (0 : Nat), (1 : Nat), B.arr (5 : Nat) true e0)] }
noncomputable abbrev f16_c14 : Code := (loops (body Try.f16)).getD 1 .skip
noncomputable abbrev f16_s14 (n : Nat) : St → (X → St → Option R) → Option R := fun st k => evCode tab FE oY lv16 true n f16_c14 st k
noncomputable abbrev f16_k14 (n : Nat) : X → St → Option R := after tab FE oY lv16 true n (body Try.f16) 1 (endK tab true Try.f16)
abbrev f16_h14 (s7 : List (List C)) (s74 : List (List C)) (s75 : Int) (s76 : Int) (e0 : List (List C)) : St := { t := [((0 : Nat), V.one (A.own (Key.ext (0 : Nat)) (1 : Nat) (5 : Nat))), ((7 : Nat), V.one (A.c (C.sl (42 : Nat) s7))), ((74 : Nat), V.one (A.c (C.sl (29 : Nat) s74))), ((75 : Nat), V.one (A.c (C.int IntKind.i64 s75))), ((76 : Nat), V.one (A.c (C.int IntKind.i64 s76)))], h := [(Key.ext (0 : Nat), (1 : Nat), B.arr (5 : Nat) true e0)] }
abbrev f16_x14_2 (s7 : List (List C)) (e0 : List (List C)) : St := { t := [((0 : Nat), V.one (A.own (Key.ext (0 : Nat)) (1 : Nat) (5 : Nat))), ((7 : Nat), V.one (A.c (C.sl (42 : Nat) s7)))], h := [(Key.ext (0 : Nat), (1 : Nat), B.arr (5 : Nat) true e0)] }
noncomputable abbrev f16_c19 : Code := (loops (body Try.f16)).getD 2 .skip
noncomputable abbrev f16_s19 (n : Nat) : St → (X → St → Option R) → Option R := fun st k => evCode tab FE oY lv16 true n f16_c19 st k
noncomputable abbrev f16_k19 (n : Nat) : X → St → Option R := after tab FE oY lv16 true n (body Try.f16) 2 (endK tab true Try.f16)
abbrev f16_h19 (s84 : List (List C)) (s85 : Int) (s86 : Int) (e0 : List (List C)) : St := { t := [((0 : Nat), V.one (A.own (Key.ext (0 : Nat)) (1 : Nat) (5 : Nat))), ((84 : Nat), V.one (A.c (C.sl (42 : Nat) s84))), ((85 : Nat), V.one (A.c (C.int IntKind.i64 s85))), ((86 : Nat), V.one (A.c (C.int IntKind.i64 s86)))], h := [(Key.ext (0 : Nat), (1 : Nat), B.arr (5 : Nat) true e0)] }
abbrev f16_x19_4 (e0 : List (List C)) : St := { t := [((0 : Nat), V.one (A.own (Key.ext (0 : Nat)) (1 : Nat) (5 : Nat)))], h := [(Key.ext (0 : Nat), (1 : Nat), B.arr (5 : Nat) true e0)] }
theorem f16_t9 (n m : Nat) (k : X → St → Option R) (s6 : List (List C)) (s7 : List (List C)) (s60 : List (List C)) (s61 : Int) (s62 : Int) (e0 : List (List C)) : evLoop true (f16_s9 n) (m + 1) (f16_h9 s6 s7 s60 s61 s62 e0) k = bcond (decide (s62 < s61)) (bcond (inB s62 s60.length) (bcond (inE (if (255 : Int) < (↑(cl (el s60 s62.toNat) (0 : Nat)).toS.size : Int) then (255 : Int) else (↑(cl (el s60 s62.toNat) (0 : Nat)).toS.size : Int)) (0 : Nat) (cl (el s60 s62.toNat) (0 : Nat)).toS.size) (bcond ((strCut (cl (el s60 s62.toNat) (0 : Nat)).toS (0 : Nat) (if (255 : Int) < (↑(cl (el s60 s62.toNat) (0 : Nat)).toS.size : Int) then (255 : Int) else (↑(cl (el s60 s62.toNat) (0 : Nat)).toS.size : Int)).toNat).size.ble (255 : Nat) && e0.length.ble lim40) (evLoop true (f16_s9 n) m (f16_h9 (s6) (s7) (s60) (s61) (IntKind.i64.wrap (s62 + (1 : Int))) (e0 ++ toB (texB (strCut (cl (el s60 s62.toNat) (0 : Nat)).toS (0 : Nat) (if (255 : Int) < (↑(cl (el s60 s62.toNat) (0 : Nat)).toS.size : Int) then (255 : Int) else (↑(cl (el s60 s62.toNat) (0 : Nat)).toS.size : Int)).toNat)))) k) (none)) (none)) (none)) (k (X.exit 0) (f16_x9_0 (s6) (s7) (e0))) := by kernel_rfl
theorem f16_a9_0 (n : Nat) (s6 : List (List C)) (s7 : List (List C)) (e0 : List (List C)) : f16_k9 n (X.exit 0) (f16_x9_0 s6 s7 e0) = evLoop true (f16_s14 n) n (f16_h14 (s7) (s6) ((↑s6.length : Int)) ((0 : Int)) (e0)) (f16_k14 n) := by kernel_rfl
theorem f16_t14 (n m : Nat) (k : X → St → Option R) (s7 : List (List C)) (s74 : List (List C)) (s75 : Int) (s76 : Int) (e0 : List (List C)) : evLoop true (f16_s14 n) (m + 1) (f16_h14 s7 s74 s75 s76 e0) k = bcond (decide (s76 < s75)) (bcond (inB s76 s74.length) (bcond (roomOk (e0.length + (List.map (fun c => [c]) (sub (el s74 s76.toNat) (0 : Nat) (16 : Nat))).length) (1 : Nat)) (evLoop true (f16_s14 n) m (f16_h14 (s7) (s74) (s75) (IntKind.i64.wrap (s76 + (1 : Int))) (e0 ++ List.map (fun c => [c]) (sub (el s74 s76.toNat) (0 : Nat) (16 : Nat)))) k) (none)) (none)) (k (X.exit 2) (f16_x14_2 (s7) (e0))) := by kernel_rfl
theorem f16_a14_2 (n : Nat) (s7 : List (List C)) (e0 : List (List C)) : f16_k14 n (X.exit 2) (f16_x14_2 s7 e0) = evLoop true (f16_s19 n) n (f16_h19 (s7) ((↑s7.length : Int)) ((0 : Int)) (e0)) (f16_k19 n) := by kernel_rfl
theorem f16_t19 (n m : Nat) (k : X → St → Option R) (s84 : List (List C)) (s85 : Int) (s86 : Int) (e0 : List (List C)) : evLoop true (f16_s19 n) (m + 1) (f16_h19 s84 s85 s86 e0) k = bcond (decide (s86 < s85)) (bcond (inB s86 s84.length) (bcond (roomOk (e0.length + (List.map (fun c => [c]) (sub (el s84 s86.toNat) (0 : Nat) (16 : Nat))).length) (1 : Nat)) (evLoop true (f16_s19 n) m (f16_h19 (s84) (s85) (IntKind.i64.wrap (s86 + (1 : Int))) (e0 ++ List.map (fun c => [c]) (sub (el s84 s86.toNat) (0 : Nat) (16 : Nat)))) k) (none)) (none)) (k (X.exit 4) (f16_x19_4 (e0))) := by kernel_rfl
theorem f16_a19_4 (n : Nat) (e0 : List (List C)) : f16_k19 n (X.exit 4) (f16_x19_4 e0) = some ((V.one (A.own (Key.ext (0 : Nat)) (1 : Nat) (5 : Nat)), [(Key.ext (0 : Nat), (1 : Nat), B.arr (5 : Nat) true e0)])) := by kernel_rfl
theorem f16_eq (n : Nat) (xs : List (List C)) (x : List C) : evFn tab FE oY true lv16 true n Try.f16 [.one (.own (.ext 0) 0 5), .agg 34 x []] [(.ext 0, (0, .arr 5 true xs))] = bcond (inE (if (3 : Int) < (↑(cl x (2 : Nat)).toL.length : Int) then (3 : Int) else (↑(cl x (2 : Nat)).toL.length : Int)) (0 : Nat) (cl x (2 : Nat)).toL.length) (bcond (inE (if (3 : Int) < (↑(cl x (5 : Nat)).toL.length : Int) then (3 : Int) else (↑(cl x (5 : Nat)).toL.length : Int)) (0 : Nat) (cl x (5 : Nat)).toL.length) (bcond (inE (if (3 : Int) < (↑(cl x (6 : Nat)).toL.length : Int) then (3 : Int) else (↑(cl x (6 : Nat)).toL.length : Int)) (0 : Nat) (cl x (6 : Nat)).toL.length) (bcond ((cl x (3 : Nat)).toB) (bcond ((cl x (4 : Nat)).toB) (bcond (roomOk (xs.length + [[C.int IntKind.u8 (IntKind.u8.wrap (ior IntKind.i64 (ior IntKind.i64 (ior IntKind.i64 (ior IntKind.i64 (ishl IntKind.i64 (↑(lstCut (cl x (2 : Nat)).toL (0 : Nat) (if (3 : Int) < (↑(cl x (2 : Nat)).toL.length : Int) then (3 : Int) else (↑(cl x (2 : Nat)).toL.length : Int)).toNat).length : Int) (2 : Int)) (ishl IntKind.i64 (↑(lstCut (cl x (5 : Nat)).toL (0 : Nat) (if (3 : Int) < (↑(cl x (5 : Nat)).toL.length : Int) then (3 : Int) else (↑(cl x (5 : Nat)).toL.length : Int)).toNat).length : Int) (4 : Int))) (ishl IntKind.i64 (↑(lstCut (cl x (6 : Nat)).toL (0 : Nat) (if (3 : Int) < (↑(cl x (6 : Nat)).toL.length : Int) then (3 : Int) else (↑(cl x (6 : Nat)).toL.length : Int)).toNat).length : Int) (6 : Int))) (1 : Int)) (2 : Int)))]].length) (1 : Nat)) (evLoop true (f16_s9 n) n (f16_h9 (lstCut (cl x (5 : Nat)).toL (0 : Nat) (if (3 : Int) < (↑(cl x (5 : Nat)).toL.length : Int) then (3 : Int) else (↑(cl x (5 : Nat)).toL.length : Int)).toNat) (lstCut (cl x (6 : Nat)).toL (0 : Nat) (if (3 : Int) < (↑(cl x (6 : Nat)).toL.length : Int) then (3 : Int) else (↑(cl x (6 : Nat)).toL.length : Int)).toNat) (lstCut (cl x (2 : Nat)).toL (0 : Nat) (if (3 : Int) < (↑(cl x (2 : Nat)).toL.length : Int) then (3 : Int) else (↑(cl x (2 : Nat)).toL.length : Int)).toNat) ((↑(lstCut (cl x (2 : Nat)).toL (0 : Nat) (if (3 : Int) < (↑(cl x (2 : Nat)).toL.length : Int) then (3 : Int) else (↑(cl x (2 : Nat)).toL.length : Int)).toNat).length : Int)) ((0 : Int)) (xs ++ [[C.int IntKind.u8 (IntKind.u8.wrap (ior IntKind.i64 (ior IntKind.i64 (ior IntKind.i64 (ior IntKind.i64 (ishl IntKind.i64 (↑(lstCut (cl x (2 : Nat)).toL (0 : Nat) (if (3 : Int) < (↑(cl x (2 : Nat)).toL.length : Int) then (3 : Int) else (↑(cl x (2 : Nat)).toL.length : Int)).toNat).length : Int) (2 : Int)) (ishl IntKind.i64 (↑(lstCut (cl x (5 : Nat)).toL (0 : Nat) (if (3 : Int) < (↑(cl x (5 : Nat)).toL.length : Int) then (3 : Int) else (↑(cl x (5 : Nat)).toL.length : Int)).toNat).length : Int) (4 : Int))) (ishl IntKind.i64 (↑(lstCut (cl x (6 : Nat)).toL (0 : Nat) (if (3 : Int) < (↑(cl x (6 : Nat)).toL.length : Int) then (3 : Int) else (↑(cl x (6 : Nat)).toL.length : Int)).toNat).length : Int) (6 : Int))) (1 : Int)) (2 : Int)))]])) (f16_k9 n)) (none)) (bcond (roomOk (xs.length + [[C.int IntKind.u8 (IntKind.u8.wrap (ior IntKind.i64 (ior IntKind.i64 (ior IntKind.i64 (ishl IntKind.i64 (↑(lstCut (cl x (2 : Nat)).toL (0 : Nat) (if (3 : Int) < (↑(cl x (2 : Nat)).toL.length : Int) then (3 : Int) else (↑(cl x (2 : Nat)).toL.length : Int)).toNat).length : Int) (2 : Int)) (ishl IntKind.i64 (↑(lstCut (cl x (5 : Nat)).toL (0 : Nat) (if (3 : Int) < (↑(cl x (5 : Nat)).toL.length : Int) then (3 : Int) else (↑(cl x (5 : Nat)).toL.length : Int)).toNat).length : Int) (4 : Int))) (ishl IntKind.i64 (↑(lstCut (cl x (6 : Nat)).toL (0 : Nat) (if (3 : Int) < (↑(cl x (6 : Nat)).toL.length : Int) then (3 : Int) else (↑(cl x (6 : Nat)).toL.length : Int)).toNat).length : Int) (6 : Int))) (1 : Int)))]].length) (1 : Nat)) (evLoop true (f16_s9 n) n (f16_h9 (lstCut (cl x (5 : Nat)).toL (0 : Nat) (if (3 : Int) < (↑(cl x (5 : Nat)).toL.length : Int) then (3 : Int) else (↑(cl x (5 : Nat)).toL.length : Int)).toNat) (lstCut (cl x (6 : Nat)).toL (0 : Nat) (if (3 : Int) < (↑(cl x (6 : Nat)).toL.length : Int) then (3 : Int) else (↑(cl x (6 : Nat)).toL.length : Int)).toNat) (lstCut (cl x (2 : Nat)).toL (0 : Nat) (if (3 : Int) < (↑(cl x (2 : Nat)).toL.length : Int) then (3 : Int) else (↑(cl x (2 : Nat)).toL.length : Int)).toNat) ((↑(lstCut (cl x (2 : Nat)).toL (0 : Nat) (if (3 : Int) < (↑(cl x (2 : Nat)).toL.length : Int) then (3 : Int) else (↑(cl x (2 : Nat)).toL.length : Int)).toNat).length : Int)) ((0 : Int)) (xs ++ [[C.int IntKind.u8 (IntKind.u8.wrap (ior IntKind.i64 (ior IntKind.i64 (ior IntKind.i64 (ishl IntKind.i64 (↑(lstCut (cl x (2 : Nat)).toL (0 : Nat) (if (3 : Int) < (↑(cl x (2 : Nat)).toL.length : Int) then (3 : Int) else (↑(cl x (2 : Nat)).toL.length : Int)).toNat).length : Int) (2 : Int)) (ishl IntKind.i64 (↑(lstCut (cl x (5 : Nat)).toL (0 : Nat) (if (3 : Int) < (↑(cl x (5 : Nat)).toL.length : Int) then (3 : Int) else (↑(cl x (5 : Nat)).toL.length : Int)).toNat).length : Int) (4 : Int))) (ishl IntKind.i64 (↑(lstCut (cl x (6 : Nat)).toL (0 : Nat) (if (3 : Int) < (↑(cl x (6 : Nat)).toL.length : Int) then (3 : Int) else (↑(cl x (6 : Nat)).toL.length : Int)).toNat).length : Int) (6 : Int))) (1 : Int)))]])) (f16_k9 n)) (none))) (bcond ((cl x (4 : Nat)).toB) (bcond (roomOk (xs.length + [[C.int IntKind.u8 (IntKind.u8.wrap (ior IntKind.i64 (ior IntKind.i64 (ior IntKind.i64 (ishl IntKind.i64 (↑(lstCut (cl x (2 : Nat)).toL (0 : Nat) (if (3 : Int) < (↑(cl x (2 : Nat)).toL.length : Int) then (3 : Int) else (↑(cl x (2 : Nat)).toL.length : Int)).toNat).length : Int) (2 : Int)) (ishl IntKind.i64 (↑(lstCut (cl x (5 : Nat)).toL (0 : Nat) (if (3 : Int) < (↑(cl x (5 : Nat)).toL.length : Int) then (3 : Int) else (↑(cl x (5 : Nat)).toL.length : Int)).toNat).length : Int) (4 : Int))) (ishl IntKind.i64 (↑(lstCut (cl x (6 : Nat)).toL (0 : Nat) (if (3 : Int) < (↑(cl x (6 : Nat)).toL.length : Int) then (3 : Int) else (↑(cl x (6 : Nat)).toL.length : Int)).toNat).length : Int) (6 : Int))) (2 : Int)))]].length) (1 : Nat)) (evLoop true (f16_s9 n) n (f16_h9 (lstCut (cl x (5 : Nat)).toL (0 : Nat) (if (3 : Int) < (↑(cl x (5 : Nat)).toL.length : Int) then (3 : Int) else (↑(cl x (5 : Nat)).toL.length : Int)).toNat) (lstCut (cl x (6 : Nat)).toL (0 : Nat) (if (3 : Int) < (↑(cl x (6 : Nat)).toL.length : Int) then (3 : Int) else (↑(cl x (6 : Nat)).toL.length : Int)).toNat) (lstCut (cl x (2 : Nat)).toL (0 : Nat) (if (3 : Int) < (↑(cl x (2 : Nat)).toL.length : Int) then (3 : Int) else (↑(cl x (2 : Nat)).toL.length : Int)).toNat) ((↑(lstCut (cl x (2 : Nat)).toL (0 : Nat) (if (3 : Int) < (↑(cl x (2 : Nat)).toL.length : Int) then (3 : Int) else (↑(cl x (2 : Nat)).toL.length : Int)).toNat).length : Int)) ((0 : Int)) (xs ++ [[C.int IntKind.u8 (IntKind.u8.wrap (ior IntKind.i64 (ior IntKind.i64 (ior IntKind.i64 (ishl IntKind.i64 (↑(lstCut (cl x (2 : Nat)).toL (0 : Nat) (if (3 : Int) < (↑(cl x (2 : Nat)).toL.length : Int) then (3 : Int) else (↑(cl x (2 : Nat)).toL.length : Int)).toNat).length : Int) (2 : Int)) (ishl IntKind.i64 (↑(lstCut (cl x (5 : Nat)).toL (0 : Nat) (if (3 : Int) < (↑(cl x (5 : Nat)).toL.length : Int) then (3 : Int) else (↑(cl x (5 : Nat)).toL.length : Int)).toNat).length : Int) (4 : Int))) (ishl IntKind.i64 (↑(lstCut (cl x (6 : Nat)).toL (0 : Nat) (if (3 : Int) < (↑(cl x (6 : Nat)).toL.length : Int) then (3 : Int) else (↑(cl x (6 : Nat)).toL.length : Int)).toNat).length : Int) (6 : Int))) (2 : Int)))]])) (f16_k9 n)) (none)) (bcond (roomOk (xs.length + [[C.int IntKind.u8 (IntKind.u8.wrap (ior IntKind.i64 (ior IntKind.i64 (ishl IntKind.i64 (↑(lstCut (cl x (2 : Nat)).toL (0 : Nat) (if (3 : Int) < (↑(cl x (2 : Nat)).toL.length : Int) then (3 : Int) else (↑(cl x (2 : Nat)).toL.length : Int)).toNat).length : Int) (2 : Int)) (ishl IntKind.i64 (↑(lstCut (cl x (5 : Nat)).toL (0 : Nat) (if (3 : Int) < (↑(cl x (5 : Nat)).toL.length : Int) then (3 : Int) else (↑(cl x (5 : Nat)).toL.length : Int)).toNat).length : Int) (4 : Int))) (ishl IntKind.i64 (↑(lstCut (cl x (6 : Nat)).toL (0 : Nat) (if (3 : Int) < (↑(cl x (6 : Nat)).toL.length : Int) then (3 : Int) else (↑(cl x (6 : Nat)).toL.length : Int)).toNat).length : Int) (6 : Int))))]].length) (1 : Nat)) (evLoop true (f16_s9 n) n (f16_h9 (lstCut (cl x (5 : Nat)).toL (0 : Nat) (if (3 : Int) < (↑(cl x (5 : Nat)).toL.length : Int) then (3 : Int) else (↑(cl x (5 : Nat)).toL.length : Int)).toNat) (lstCut (cl x (6 : Nat)).toL (0 : Nat) (if (3 : Int) < (↑(cl x (6 : Nat)).toL.length : Int) then (3 : Int) else (↑(cl x (6 : Nat)).toL.length : Int)).toNat) (lstCut (cl x (2 : Nat)).toL (0 : Nat) (if (3 : Int) < (↑(cl x (2 : Nat)).toL.length : Int) then (3 : Int) else (↑(cl x (2 : Nat)).toL.length : Int)).toNat) ((↑(lstCut (cl x (2 : Nat)).toL (0 : Nat) (if (3 : Int) < (↑(cl x (2 : Nat)).toL.length : Int) then (3 : Int) else (↑(cl x (2 : Nat)).toL.length : Int)).toNat).length : Int)) ((0 : Int)) (xs ++ [[C.int IntKind.u8 (IntKind.u8.wrap (ior IntKind.i64 (ior IntKind.i64 (ishl IntKind.i64 (↑(lstCut (cl x (2 : Nat)).toL (0 : Nat) (if (3 : Int) < (↑(cl x (2 : Nat)).toL.length : Int) then (3 : Int) else (↑(cl x (2 : Nat)).toL.length : Int)).toNat).length : Int) (2 : Int)) (ishl IntKind.i64 (↑(lstCut (cl x (5 : Nat)).toL (0 : Nat) (if (3 : Int) < (↑(cl x (5 : Nat)).toL.length : Int) then (3 : Int) else (↑(cl x (5 : Nat)).toL.length : Int)).toNat).length : Int) (4 : Int))) (ishl IntKind.i64 (↑(lstCut (cl x (6 : Nat)).toL (0 : Nat) (if (3 : Int) < (↑(cl x (6 : Nat)).toL.length : Int) then (3 : Int) else (↑(cl x (6 : Nat)).toL.length : Int)).toNat).length : Int) (6 : Int))))]])) (f16_k9 n)) (none)))) (none)) (none)) (none) := by kernel_rfl



end Go.Proofs.Ytnbiincgplkmbaa
