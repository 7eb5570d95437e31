/- Fg -/
import Derived.Test.YtdcdccdhdingbaaFf
import Derived.KernelRfl
namespace Go.Proofs.Ytdcdccdhdingbaa
open Go Go.Eng
set_option maxRecDepth 100000
/-- Two stretches that are in order become one. -/
def S35 (xs l : List (List C)) (a m b : Int) (ys : List (List C)) : Prop := FnAt Try.prog tab 35 [vD, vI a, vI m, vI b, vF] (hS xs l) (.tup []) (hS ys l) ∧
  ∀ P A B Q, xs = P ++ A ++ B ++ Q → (P.length : Int) = a → (P.length : Int) + A.length = m → (P.length : Int) + A.length + B.length = b → ∃ S, ys = P ++ S ++ Q ∧ S.Perm (A ++ B) ∧
    ∀ T, Tr T → A.Pairwise (RN l T) → B.Pairwise (RN l T) → (∀ x ∈ A, ∀ y ∈ B, T x y) → S.Pairwise (RN l T)
@[irreducible] noncomputable def g35 (xs l : List (List C)) (a m b : Int) : Bool := some? (S35 xs l a m b)
@[irreducible] noncomputable def y35 (xs l : List (List C)) (a m b : Int) : List (List C) := pick (S35 xs l a m b)
noncomputable def e35 : En
  | [.one (.own (.ext 0) 0 39), .one (.c (.int .i64 a)), .one (.c (.int .i64 m)), .one (.c (.int .i64 b)), .one (.fn 25 [(.ext 1, 0)])], [(.ext 0, (0, .arr 39 true xs)), (.ext 1, (0, .box 22 [.sl 27 l] []))], k =>
    bcond (g35 xs l a m b) (k (.tup []) [(.ext 0, (0, .arr 39 true (y35 xs l a m b))), (.ext 1, (0, .box 22 [.sl 27 l] []))]) none
  | _, _, _ => none
theorem es35 : ES Try.prog tab 35 e35 := by
  intro args h k x hh
  unfold e35 at hh
  split at hh
  · rename_i a m b xs l
    cases hb : g35 xs l a m b with
    | false => rw [hb, bcond_f] at hh; cases hh
    | true =>
      rw [hb, bcond_t] at hh
      unfold y35 at hh
      unfold g35 at hb
      exact ⟨_, _, hh, (some_pick hb).1⟩
  · cases hh
noncomputable def FK : Fun := mkF [(25, e25), (35, e35), (37, e37)]
theorem sFK : FSound Try.prog tab FK := mkF_sound (fun p hp => by
  simp only [List.mem_cons, List.not_mem_nil, or_false] at hp
  rcases hp with rfl | rfl | rfl
  · exact es25
  · exact es35
  · exact es37)
noncomputable abbrev f35_c3 : Code := (loops (body Try.f35)).getD 0 .skip
noncomputable abbrev f35_s3 (n : Nat) : St → (X → St → Option R) → Option R := fun st k => evCode tab FK oY lv35 false n f35_c3 st k
noncomputable abbrev f35_k3 (n : Nat) : X → St → Option R := after tab FK oY lv35 false n (body Try.f35) 0 (endK tab false Try.f35)
abbrev f35_h3 (s1 : Int) (s10 : Int) (s11 : Int) (e0 : List (List C)) (e1_0 : List (List C)) : St := { t := [((0 : Nat), V.one (A.own (Key.ext (0 : Nat)) (0 : Nat) (39 : Nat))), ((1 : Nat), V.one (A.c (C.int IntKind.i64 s1))), ((4 : Nat), V.one (A.fn (25 : Nat) [(Key.ext (1 : Nat), (0 : Nat))])), ((10 : Nat), V.one (A.c (C.int IntKind.i64 s10))), ((11 : Nat), V.one (A.c (C.int IntKind.i64 s11)))], h := [(Key.ext (0 : Nat), (0 : Nat), B.arr (39 : Nat) true e0), (Key.ext (1 : Nat), (0 : Nat), B.box (22 : Nat) [C.sl (27 : Nat) e1_0] [])] }
abbrev f35_x3_0 (s1 : Int) (s10 : Int) (e0 : List (List C)) (e1_0 : List (List C)) : St := { t := [((0 : Nat), V.one (A.own (Key.ext (0 : Nat)) (0 : Nat) (39 : Nat))), ((1 : Nat), V.one (A.c (C.int IntKind.i64 s1))), ((10 : Nat), V.one (A.c (C.int IntKind.i64 s10)))], h := [(Key.ext (0 : Nat), (0 : Nat), B.arr (39 : Nat) true e0), (Key.ext (1 : Nat), (0 : Nat), B.box (22 : Nat) [C.sl (27 : Nat) e1_0] [])] }
noncomputable abbrev f35_c9 : Code := (loops (body Try.f35)).getD 1 .skip
noncomputable abbrev f35_s9 (n : Nat) : St → (X → St → Option R) → Option R := fun st k => evCode tab FK oY lv35 false n f35_c9 st k
noncomputable abbrev f35_k9 (n : Nat) : X → St → Option R := after tab FK oY lv35 false n (body Try.f35) 1 (endK tab false Try.f35)
abbrev f35_h9 (s10 : Int) (s13 : Int) (e0 : List (List C)) (e1_0 : List (List C)) : St := { t := [((0 : Nat), V.one (A.own (Key.ext (0 : Nat)) (0 : Nat) (39 : Nat))), ((10 : Nat), V.one (A.c (C.int IntKind.i64 s10))), ((13 : Nat), V.one (A.c (C.int IntKind.i64 s13)))], h := [(Key.ext (0 : Nat), (0 : Nat), B.arr (39 : Nat) true e0), (Key.ext (1 : Nat), (0 : Nat), B.box (22 : Nat) [C.sl (27 : Nat) e1_0] [])] }
abbrev f35_x9_2 (e0 : List (List C)) (e1_0 : List (List C)) : St := { t := [], h := [(Key.ext (0 : Nat), (0 : Nat), B.arr (39 : Nat) true e0), (Key.ext (1 : Nat), (0 : Nat), B.box (22 : Nat) [C.sl (27 : Nat) e1_0] [])] }
noncomputable abbrev f35_c15 : Code := (loops (body Try.f35)).getD 2 .skip
noncomputable abbrev f35_s15 (n : Nat) : St → (X → St → Option R) → Option R := fun st k => evCode tab FK oY lv35 false n f35_c15 st k
noncomputable abbrev f35_k15 (n : Nat) : X → St → Option R := after tab FK oY lv35 false n (body Try.f35) 2 (endK tab false Try.f35)
abbrev f35_h15 (s2 : Int) (s14 : Int) (s15 : Int) (e0 : List (List C)) (e1_0 : List (List C)) : St := { t := [((0 : Nat), V.one (A.own (Key.ext (0 : Nat)) (0 : Nat) (39 : Nat))), ((2 : Nat), V.one (A.c (C.int IntKind.i64 s2))), ((4 : Nat), V.one (A.fn (25 : Nat) [(Key.ext (1 : Nat), (0 : Nat))])), ((14 : Nat), V.one (A.c (C.int IntKind.i64 s14))), ((15 : Nat), V.one (A.c (C.int IntKind.i64 s15)))], h := [(Key.ext (0 : Nat), (0 : Nat), B.arr (39 : Nat) true e0), (Key.ext (1 : Nat), (0 : Nat), B.box (22 : Nat) [C.sl (27 : Nat) e1_0] [])] }
abbrev f35_x15_4 (s2 : Int) (s14 : Int) (e0 : List (List C)) (e1_0 : List (List C)) : St := { t := [((0 : Nat), V.one (A.own (Key.ext (0 : Nat)) (0 : Nat) (39 : Nat))), ((2 : Nat), V.one (A.c (C.int IntKind.i64 s2))), ((14 : Nat), V.one (A.c (C.int IntKind.i64 s14)))], h := [(Key.ext (0 : Nat), (0 : Nat), B.arr (39 : Nat) true e0), (Key.ext (1 : Nat), (0 : Nat), B.box (22 : Nat) [C.sl (27 : Nat) e1_0] [])] }
noncomputable abbrev f35_c21 : Code := (loops (body Try.f35)).getD 3 .skip
noncomputable abbrev f35_s21 (n : Nat) : St → (X → St → Option R) → Option R := fun st k => evCode tab FK oY lv35 false n f35_c21 st k
noncomputable abbrev f35_k21 (n : Nat) : X → St → Option R := after tab FK oY lv35 false n (body Try.f35) 3 (endK tab false Try.f35)
abbrev f35_h21 (s14 : Int) (s17 : Int) (e0 : List (List C)) (e1_0 : List (List C)) : St := { t := [((0 : Nat), V.one (A.own (Key.ext (0 : Nat)) (0 : Nat) (39 : Nat))), ((14 : Nat), V.one (A.c (C.int IntKind.i64 s14))), ((17 : Nat), V.one (A.c (C.int IntKind.i64 s17)))], h := [(Key.ext (0 : Nat), (0 : Nat), B.arr (39 : Nat) true e0), (Key.ext (1 : Nat), (0 : Nat), B.box (22 : Nat) [C.sl (27 : Nat) e1_0] [])] }
abbrev f35_x21_6 (e0 : List (List C)) (e1_0 : List (List C)) : St := { t := [], h := [(Key.ext (0 : Nat), (0 : Nat), B.arr (39 : Nat) true e0), (Key.ext (1 : Nat), (0 : Nat), B.box (22 : Nat) [C.sl (27 : Nat) e1_0] [])] }
noncomputable abbrev f35_c33 : Code := (loops (body Try.f35)).getD 4 .skip
noncomputable abbrev f35_s33 (n : Nat) : St → (X → St → Option R) → Option R := fun st k => evCode tab FK oY lv35 false n f35_c33 st k
noncomputable abbrev f35_k33 (n : Nat) : X → St → Option R := after tab FK oY lv35 false n (body Try.f35) 4 (endK tab false Try.f35)
abbrev f35_h33 (s1 : Int) (s2 : Int) (s3 : Int) (s18 : Int) (s19 : Int) (s20 : Int) (s21 : Int) (s22 : Int) (e0 : List (List C)) (e1_0 : List (List C)) : St := { t := [((0 : Nat), V.one (A.own (Key.ext (0 : Nat)) (0 : Nat) (39 : Nat))), ((1 : Nat), V.one (A.c (C.int IntKind.i64 s1))), ((2 : Nat), V.one (A.c (C.int IntKind.i64 s2))), ((3 : Nat), V.one (A.c (C.int IntKind.i64 s3))), ((4 : Nat), V.one (A.fn (25 : Nat) [(Key.ext (1 : Nat), (0 : Nat))])), ((18 : Nat), V.one (A.c (C.int IntKind.i64 s18))), ((19 : Nat), V.one (A.c (C.int IntKind.i64 s19))), ((20 : Nat), V.one (A.c (C.int IntKind.i64 s20))), ((21 : Nat), V.one (A.c (C.int IntKind.i64 s21))), ((22 : Nat), V.one (A.c (C.int IntKind.i64 s22)))], h := [(Key.ext (0 : Nat), (0 : Nat), B.arr (39 : Nat) true e0), (Key.ext (1 : Nat), (0 : Nat), B.box (22 : Nat) [C.sl (27 : Nat) e1_0] [])] }
abbrev f35_x33_8 (s1 : Int) (s2 : Int) (s3 : Int) (s18 : Int) (s19 : Int) (s20 : Int) (e0 : List (List C)) (e1_0 : List (List C)) : St := { t := [((0 : Nat), V.one (A.own (Key.ext (0 : Nat)) (0 : Nat) (39 : Nat))), ((1 : Nat), V.one (A.c (C.int IntKind.i64 s1))), ((2 : Nat), V.one (A.c (C.int IntKind.i64 s2))), ((3 : Nat), V.one (A.c (C.int IntKind.i64 s3))), ((4 : Nat), V.one (A.fn (25 : Nat) [(Key.ext (1 : Nat), (0 : Nat))])), ((18 : Nat), V.one (A.c (C.int IntKind.i64 s18))), ((19 : Nat), V.one (A.c (C.int IntKind.i64 s19))), ((20 : Nat), V.one (A.c (C.int IntKind.i64 s20)))], h := [(Key.ext (0 : Nat), (0 : Nat), B.arr (39 : Nat) true e0), (Key.ext (1 : Nat), (0 : Nat), B.box (22 : Nat) [C.sl (27 : Nat) e1_0] [])] }
theorem f35_t3 (n m : Nat) (k : X → St → Option R) (s1 : Int) (s10 : Int) (s11 : Int) (e0 : List (List C)) (e1_0 : List (List C)) : evLoop false (f35_s3 n) (m + 1) (f35_h3 s1 s10 s11 e0 e1_0) k = bcond (decide (s10 < s11)) (bcond (inB (IntKind.i64.wrap (ishr IntKind.u64 (IntKind.u64.wrap (IntKind.i64.wrap (s10 + s11))) (1 : Int))) e0.length) (bcond (inB s1 e0.length) (bcond (e1_0.length.ble (1000000 : Nat)) (bcond (decide (cmpN e1_0 (el e0 (IntKind.i64.wrap (ishr IntKind.u64 (IntKind.u64.wrap (IntKind.i64.wrap (s10 + s11))) (1 : Int))).toNat) (el e0 s1.toNat) < (0 : Int))) (evLoop false (f35_s3 n) m (f35_h3 (s1) (IntKind.i64.wrap (IntKind.i64.wrap (ishr IntKind.u64 (IntKind.u64.wrap (IntKind.i64.wrap (s10 + s11))) (1 : Int)) + (1 : Int))) (s11) (e0) (e1_0)) k) (evLoop false (f35_s3 n) m (f35_h3 (s1) (s10) (IntKind.i64.wrap (ishr IntKind.u64 (IntKind.u64.wrap (IntKind.i64.wrap (s10 + s11))) (1 : Int))) (e0) (e1_0)) k)) (none)) (none)) (none)) (k (X.exit 0) (f35_x3_0 (s1) (s10) (e0) (e1_0))) := by kernel_rfl
theorem f35_a3_0 (n : Nat) (s1 : Int) (s10 : Int) (e0 : List (List C)) (e1_0 : List (List C)) : f35_k3 n (X.exit 0) (f35_x3_0 s1 s10 e0 e1_0) = evLoop false (f35_s9 n) n (f35_h9 (s10) (s1) (e0) (e1_0)) (f35_k9 n) := by kernel_rfl
theorem f35_t9 (n m : Nat) (k : X → St → Option R) (s10 : Int) (s13 : Int) (e0 : List (List C)) (e1_0 : List (List C)) : evLoop false (f35_s9 n) (m + 1) (f35_h9 s10 s13 e0 e1_0) k = bcond (decide (s13 < IntKind.i64.wrap (s10 - (1 : Int)))) (bcond (inB (IntKind.i64.wrap (s13 + (1 : Int))) e0.length) (bcond (inB s13 e0.length) (bcond (inB s13 e0.length) (bcond (inB (IntKind.i64.wrap (s13 + (1 : Int))) (e0.set s13.toNat (el e0 (IntKind.i64.wrap (s13 + (1 : Int))).toNat)).length) (evLoop false (f35_s9 n) m (f35_h9 (s10) (IntKind.i64.wrap (s13 + (1 : Int))) ((e0.set s13.toNat (el e0 (IntKind.i64.wrap (s13 + (1 : Int))).toNat)).set (IntKind.i64.wrap (s13 + (1 : Int))).toNat (el e0 s13.toNat)) (e1_0)) k) (none)) (none)) (none)) (none)) (k (X.exit 2) (f35_x9_2 (e0) (e1_0))) := by kernel_rfl
theorem f35_a9_2 (n : Nat) (e0 : List (List C)) (e1_0 : List (List C)) : f35_k9 n (X.exit 2) (f35_x9_2 e0 e1_0) = some ((V.tup [], [(Key.ext (0 : Nat), (0 : Nat), B.arr (39 : Nat) true e0), (Key.ext (1 : Nat), (0 : Nat), B.box (22 : Nat) [C.sl (27 : Nat) e1_0] [])])) := by kernel_rfl
theorem f35_t15 (n m : Nat) (k : X → St → Option R) (s2 : Int) (s14 : Int) (s15 : Int) (e0 : List (List C)) (e1_0 : List (List C)) : evLoop false (f35_s15 n) (m + 1) (f35_h15 s2 s14 s15 e0 e1_0) k = bcond (decide (s14 < s15)) (bcond (inB s2 e0.length) (bcond (inB (IntKind.i64.wrap (ishr IntKind.u64 (IntKind.u64.wrap (IntKind.i64.wrap (s14 + s15))) (1 : Int))) e0.length) (bcond (e1_0.length.ble (1000000 : Nat)) (bcond (!decide (cmpN e1_0 (el e0 s2.toNat) (el e0 (IntKind.i64.wrap (ishr IntKind.u64 (IntKind.u64.wrap (IntKind.i64.wrap (s14 + s15))) (1 : Int))).toNat) < (0 : Int))) (evLoop false (f35_s15 n) m (f35_h15 (s2) (IntKind.i64.wrap (IntKind.i64.wrap (ishr IntKind.u64 (IntKind.u64.wrap (IntKind.i64.wrap (s14 + s15))) (1 : Int)) + (1 : Int))) (s15) (e0) (e1_0)) k) (evLoop false (f35_s15 n) m (f35_h15 (s2) (s14) (IntKind.i64.wrap (ishr IntKind.u64 (IntKind.u64.wrap (IntKind.i64.wrap (s14 + s15))) (1 : Int))) (e0) (e1_0)) k)) (none)) (none)) (none)) (k (X.exit 4) (f35_x15_4 (s2) (s14) (e0) (e1_0))) := by kernel_rfl
theorem f35_a15_4 (n : Nat) (s2 : Int) (s14 : Int) (e0 : List (List C)) (e1_0 : List (List C)) : f35_k15 n (X.exit 4) (f35_x15_4 s2 s14 e0 e1_0) = evLoop false (f35_s21 n) n (f35_h21 (s14) (s2) (e0) (e1_0)) (f35_k21 n) := by kernel_rfl
theorem f35_t21 (n m : Nat) (k : X → St → Option R) (s14 : Int) (s17 : Int) (e0 : List (List C)) (e1_0 : List (List C)) : evLoop false (f35_s21 n) (m + 1) (f35_h21 s14 s17 e0 e1_0) k = bcond (decide (s17 > s14)) (bcond (inB (IntKind.i64.wrap (s17 - (1 : Int))) e0.length) (bcond (inB s17 e0.length) (bcond (inB s17 e0.length) (bcond (inB (IntKind.i64.wrap (s17 - (1 : Int))) (e0.set s17.toNat (el e0 (IntKind.i64.wrap (s17 - (1 : Int))).toNat)).length) (evLoop false (f35_s21 n) m (f35_h21 (s14) (IntKind.i64.wrap (s17 - (1 : Int))) ((e0.set s17.toNat (el e0 (IntKind.i64.wrap (s17 - (1 : Int))).toNat)).set (IntKind.i64.wrap (s17 - (1 : Int))).toNat (el e0 s17.toNat)) (e1_0)) k) (none)) (none)) (none)) (none)) (k (X.exit 6) (f35_x21_6 (e0) (e1_0))) := by kernel_rfl
theorem f35_a21_6 (n : Nat) (e0 : List (List C)) (e1_0 : List (List C)) : f35_k21 n (X.exit 6) (f35_x21_6 e0 e1_0) = some ((V.tup [], [(Key.ext (0 : Nat), (0 : Nat), B.arr (39 : Nat) true e0), (Key.ext (1 : Nat), (0 : Nat), B.box (22 : Nat) [C.sl (27 : Nat) e1_0] [])])) := by kernel_rfl
theorem f35_t33 (n m : Nat) (k : X → St → Option R) (s1 : Int) (s2 : Int) (s3 : Int) (s18 : Int) (s19 : Int) (s20 : Int) (s21 : Int) (s22 : Int) (e0 : List (List C)) (e1_0 : List (List C)) : evLoop false (f35_s33 n) (m + 1) (f35_h33 s1 s2 s3 s18 s19 s20 s21 s22 e0 e1_0) k = bcond (decide (s20 < s21)) (bcond (inB (IntKind.i64.wrap (s22 - IntKind.i64.wrap (ishr IntKind.u64 (IntKind.u64.wrap (IntKind.i64.wrap (s20 + s21))) (1 : Int)))) e0.length) (bcond (inB (IntKind.i64.wrap (ishr IntKind.u64 (IntKind.u64.wrap (IntKind.i64.wrap (s20 + s21))) (1 : Int))) e0.length) (bcond (e1_0.length.ble (1000000 : Nat)) (bcond (!decide (cmpN e1_0 (el e0 (IntKind.i64.wrap (s22 - IntKind.i64.wrap (ishr IntKind.u64 (IntKind.u64.wrap (IntKind.i64.wrap (s20 + s21))) (1 : Int)))).toNat) (el e0 (IntKind.i64.wrap (ishr IntKind.u64 (IntKind.u64.wrap (IntKind.i64.wrap (s20 + s21))) (1 : Int))).toNat) < (0 : Int))) (evLoop false (f35_s33 n) m (f35_h33 (s1) (s2) (s3) (s18) (s19) (IntKind.i64.wrap (IntKind.i64.wrap (ishr IntKind.u64 (IntKind.u64.wrap (IntKind.i64.wrap (s20 + s21))) (1 : Int)) + (1 : Int))) (s21) (s22) (e0) (e1_0)) k) (evLoop false (f35_s33 n) m (f35_h33 (s1) (s2) (s3) (s18) (s19) (s20) (IntKind.i64.wrap (ishr IntKind.u64 (IntKind.u64.wrap (IntKind.i64.wrap (s20 + s21))) (1 : Int))) (s22) (e0) (e1_0)) k)) (none)) (none)) (none)) (k (X.exit 8) (f35_x33_8 (s1) (s2) (s3) (s18) (s19) (s20) (e0) (e1_0))) := by kernel_rfl
theorem f35_a33_8 (n : Nat) (s1 : Int) (s2 : Int) (s3 : Int) (s18 : Int) (s19 : Int) (s20 : Int) (e0 : List (List C)) (e1_0 : List (List C)) : f35_k33 n (X.exit 8) (f35_x33_8 s1 s2 s3 s18 s19 s20 e0 e1_0) = bcond (decide (s20 < s2)) (bcond (decide (s2 < IntKind.i64.wrap (s19 - s20))) (bcond (g37 e0 e1_0 s20 s2 (IntKind.i64.wrap (s19 - s20))) (bcond (decide (s1 < s20)) (bcond (decide (s20 < s18)) (bcond (g35 (y37 e0 e1_0 s20 s2 (IntKind.i64.wrap (s19 - s20))) e1_0 s1 s20 s18) (bcond (decide (s18 < IntKind.i64.wrap (s19 - s20))) (bcond (decide (IntKind.i64.wrap (s19 - s20) < s3)) (bcond (g35 (y35 (y37 e0 e1_0 s20 s2 (IntKind.i64.wrap (s19 - s20))) e1_0 s1 s20 s18) e1_0 s18 (IntKind.i64.wrap (s19 - s20)) s3) (some ((V.tup [], [(Key.ext (0 : Nat), (0 : Nat), B.arr (39 : Nat) true (y35 (y35 (y37 e0 e1_0 s20 s2 (IntKind.i64.wrap (s19 - s20))) e1_0 s1 s20 s18) e1_0 s18 (IntKind.i64.wrap (s19 - s20)) s3)), (Key.ext (1 : Nat), (0 : Nat), B.box (22 : Nat) [C.sl (27 : Nat) e1_0] [])]))) (none)) (some ((V.tup [], [(Key.ext (0 : Nat), (0 : Nat), B.arr (39 : Nat) true (y35 (y37 e0 e1_0 s20 s2 (IntKind.i64.wrap (s19 - s20))) e1_0 s1 s20 s18)), (Key.ext (1 : Nat), (0 : Nat), B.box (22 : Nat) [C.sl (27 : Nat) e1_0] [])])))) (some ((V.tup [], [(Key.ext (0 : Nat), (0 : Nat), B.arr (39 : Nat) true (y35 (y37 e0 e1_0 s20 s2 (IntKind.i64.wrap (s19 - s20))) e1_0 s1 s20 s18)), (Key.ext (1 : Nat), (0 : Nat), B.box (22 : Nat) [C.sl (27 : Nat) e1_0] [])])))) (none)) (bcond (decide (s18 < IntKind.i64.wrap (s19 - s20))) (bcond (decide (IntKind.i64.wrap (s19 - s20) < s3)) (bcond (g35 (y37 e0 e1_0 s20 s2 (IntKind.i64.wrap (s19 - s20))) e1_0 s18 (IntKind.i64.wrap (s19 - s20)) s3) (some ((V.tup [], [(Key.ext (0 : Nat), (0 : Nat), B.arr (39 : Nat) true (y35 (y37 e0 e1_0 s20 s2 (IntKind.i64.wrap (s19 - s20))) e1_0 s18 (IntKind.i64.wrap (s19 - s20)) s3)), (Key.ext (1 : Nat), (0 : Nat), B.box (22 : Nat) [C.sl (27 : Nat) e1_0] [])]))) (none)) (some ((V.tup [], [(Key.ext (0 : Nat), (0 : Nat), B.arr (39 : Nat) true (y37 e0 e1_0 s20 s2 (IntKind.i64.wrap (s19 - s20)))), (Key.ext (1 : Nat), (0 : Nat), B.box (22 : Nat) [C.sl (27 : Nat) e1_0] [])])))) (some ((V.tup [], [(Key.ext (0 : Nat), (0 : Nat), B.arr (39 : Nat) true (y37 e0 e1_0 s20 s2 (IntKind.i64.wrap (s19 - s20)))), (Key.ext (1 : Nat), (0 : Nat), B.box (22 : Nat) [C.sl (27 : Nat) e1_0] [])]))))) (bcond (decide (s18 < IntKind.i64.wrap (s19 - s20))) (bcond (decide (IntKind.i64.wrap (s19 - s20) < s3)) (bcond (g35 (y37 e0 e1_0 s20 s2 (IntKind.i64.wrap (s19 - s20))) e1_0 s18 (IntKind.i64.wrap (s19 - s20)) s3) (some ((V.tup [], [(Key.ext (0 : Nat), (0 : Nat), B.arr (39 : Nat) true (y35 (y37 e0 e1_0 s20 s2 (IntKind.i64.wrap (s19 - s20))) e1_0 s18 (IntKind.i64.wrap (s19 - s20)) s3)), (Key.ext (1 : Nat), (0 : Nat), B.box (22 : Nat) [C.sl (27 : Nat) e1_0] [])]))) (none)) (some ((V.tup [], [(Key.ext (0 : Nat), (0 : Nat), B.arr (39 : Nat) true (y37 e0 e1_0 s20 s2 (IntKind.i64.wrap (s19 - s20)))), (Key.ext (1 : Nat), (0 : Nat), B.box (22 : Nat) [C.sl (27 : Nat) e1_0] [])])))) (some ((V.tup [], [(Key.ext (0 : Nat), (0 : Nat), B.arr (39 : Nat) true (y37 e0 e1_0 s20 s2 (IntKind.i64.wrap (s19 - s20)))), (Key.ext (1 : Nat), (0 : Nat), B.box (22 : Nat) [C.sl (27 : Nat) e1_0] [])]))))) (none)) (bcond (decide (s1 < s20)) (bcond (decide (s20 < s18)) (bcond (g35 e0 e1_0 s1 s20 s18) (bcond (decide (s18 < IntKind.i64.wrap (s19 - s20))) (bcond (decide (IntKind.i64.wrap (s19 - s20) < s3)) (bcond (g35 (y35 e0 e1_0 s1 s20 s18) e1_0 s18 (IntKind.i64.wrap (s19 - s20)) s3) (some ((V.tup [], [(Key.ext (0 : Nat), (0 : Nat), B.arr (39 : Nat) true (y35 (y35 e0 e1_0 s1 s20 s18) e1_0 s18 (IntKind.i64.wrap (s19 - s20)) s3)), (Key.ext (1 : Nat), (0 : Nat), B.box (22 : Nat) [C.sl (27 : Nat) e1_0] [])]))) (none)) (some ((V.tup [], [(Key.ext (0 : Nat), (0 : Nat), B.arr (39 : Nat) true (y35 e0 e1_0 s1 s20 s18)), (Key.ext (1 : Nat), (0 : Nat), B.box (22 : Nat) [C.sl (27 : Nat) e1_0] [])])))) (some ((V.tup [], [(Key.ext (0 : Nat), (0 : Nat), B.arr (39 : Nat) true (y35 e0 e1_0 s1 s20 s18)), (Key.ext (1 : Nat), (0 : Nat), B.box (22 : Nat) [C.sl (27 : Nat) e1_0] [])])))) (none)) (bcond (decide (s18 < IntKind.i64.wrap (s19 - s20))) (bcond (decide (IntKind.i64.wrap (s19 - s20) < s3)) (bcond (g35 e0 e1_0 s18 (IntKind.i64.wrap (s19 - s20)) s3) (some ((V.tup [], [(Key.ext (0 : Nat), (0 : Nat), B.arr (39 : Nat) true (y35 e0 e1_0 s18 (IntKind.i64.wrap (s19 - s20)) s3)), (Key.ext (1 : Nat), (0 : Nat), B.box (22 : Nat) [C.sl (27 : Nat) e1_0] [])]))) (none)) (some ((V.tup [], [(Key.ext (0 : Nat), (0 : Nat), B.arr (39 : Nat) true e0), (Key.ext (1 : Nat), (0 : Nat), B.box (22 : Nat) [C.sl (27 : Nat) e1_0] [])])))) (some ((V.tup [], [(Key.ext (0 : Nat), (0 : Nat), B.arr (39 : Nat) true e0), (Key.ext (1 : Nat), (0 : Nat), B.box (22 : Nat) [C.sl (27 : Nat) e1_0] [])]))))) (bcond (decide (s18 < IntKind.i64.wrap (s19 - s20))) (bcond (decide (IntKind.i64.wrap (s19 - s20) < s3)) (bcond (g35 e0 e1_0 s18 (IntKind.i64.wrap (s19 - s20)) s3) (some ((V.tup [], [(Key.ext (0 : Nat), (0 : Nat), B.arr (39 : Nat) true (y35 e0 e1_0 s18 (IntKind.i64.wrap (s19 - s20)) s3)), (Key.ext (1 : Nat), (0 : Nat), B.box (22 : Nat) [C.sl (27 : Nat) e1_0] [])]))) (none)) (some ((V.tup [], [(Key.ext (0 : Nat), (0 : Nat), B.arr (39 : Nat) true e0), (Key.ext (1 : Nat), (0 : Nat), B.box (22 : Nat) [C.sl (27 : Nat) e1_0] [])])))) (some ((V.tup [], [(Key.ext (0 : Nat), (0 : Nat), B.arr (39 : Nat) true e0), (Key.ext (1 : Nat), (0 : Nat), B.box (22 : Nat) [C.sl (27 : Nat) e1_0] [])])))))) (bcond (decide (s1 < s20)) (bcond (decide (s20 < s18)) (bcond (g35 e0 e1_0 s1 s20 s18) (bcond (decide (s18 < IntKind.i64.wrap (s19 - s20))) (bcond (decide (IntKind.i64.wrap (s19 - s20) < s3)) (bcond (g35 (y35 e0 e1_0 s1 s20 s18) e1_0 s18 (IntKind.i64.wrap (s19 - s20)) s3) (some ((V.tup [], [(Key.ext (0 : Nat), (0 : Nat), B.arr (39 : Nat) true (y35 (y35 e0 e1_0 s1 s20 s18) e1_0 s18 (IntKind.i64.wrap (s19 - s20)) s3)), (Key.ext (1 : Nat), (0 : Nat), B.box (22 : Nat) [C.sl (27 : Nat) e1_0] [])]))) (none)) (some ((V.tup [], [(Key.ext (0 : Nat), (0 : Nat), B.arr (39 : Nat) true (y35 e0 e1_0 s1 s20 s18)), (Key.ext (1 : Nat), (0 : Nat), B.box (22 : Nat) [C.sl (27 : Nat) e1_0] [])])))) (some ((V.tup [], [(Key.ext (0 : Nat), (0 : Nat), B.arr (39 : Nat) true (y35 e0 e1_0 s1 s20 s18)), (Key.ext (1 : Nat), (0 : Nat), B.box (22 : Nat) [C.sl (27 : Nat) e1_0] [])])))) (none)) (bcond (decide (s18 < IntKind.i64.wrap (s19 - s20))) (bcond (decide (IntKind.i64.wrap (s19 - s20) < s3)) (bcond (g35 e0 e1_0 s18 (IntKind.i64.wrap (s19 - s20)) s3) (some ((V.tup [], [(Key.ext (0 : Nat), (0 : Nat), B.arr (39 : Nat) true (y35 e0 e1_0 s18 (IntKind.i64.wrap (s19 - s20)) s3)), (Key.ext (1 : Nat), (0 : Nat), B.box (22 : Nat) [C.sl (27 : Nat) e1_0] [])]))) (none)) (some ((V.tup [], [(Key.ext (0 : Nat), (0 : Nat), B.arr (39 : Nat) true e0), (Key.ext (1 : Nat), (0 : Nat), B.box (22 : Nat) [C.sl (27 : Nat) e1_0] [])])))) (some ((V.tup [], [(Key.ext (0 : Nat), (0 : Nat), B.arr (39 : Nat) true e0), (Key.ext (1 : Nat), (0 : Nat), B.box (22 : Nat) [C.sl (27 : Nat) e1_0] [])]))))) (bcond (decide (s18 < IntKind.i64.wrap (s19 - s20))) (bcond (decide (IntKind.i64.wrap (s19 - s20) < s3)) (bcond (g35 e0 e1_0 s18 (IntKind.i64.wrap (s19 - s20)) s3) (some ((V.tup [], [(Key.ext (0 : Nat), (0 : Nat), B.arr (39 : Nat) true (y35 e0 e1_0 s18 (IntKind.i64.wrap (s19 - s20)) s3)), (Key.ext (1 : Nat), (0 : Nat), B.box (22 : Nat) [C.sl (27 : Nat) e1_0] [])]))) (none)) (some ((V.tup [], [(Key.ext (0 : Nat), (0 : Nat), B.arr (39 : Nat) true e0), (Key.ext (1 : Nat), (0 : Nat), B.box (22 : Nat) [C.sl (27 : Nat) e1_0] [])])))) (some ((V.tup [], [(Key.ext (0 : Nat), (0 : Nat), B.arr (39 : Nat) true e0), (Key.ext (1 : Nat), (0 : Nat), B.box (22 : Nat) [C.sl (27 : Nat) e1_0] [])]))))) := by kernel_rfl
theorem f35_eq (n : Nat) (xs : List (List C)) (l : List (List C)) (a : Int) (b : Int) (c : Int) : evFn tab FK oY false lv35 false n Try.f35 [.one (.own (.ext 0) 0 39), .one (.c (.int .i64 a)), .one (.c (.int .i64 b)), .one (.c (.int .i64 c)), .one (.fn 25 [(.ext 1, 0)])] [(.ext 0, (0, .arr 39 true xs)), (.ext 1, (0, .box 22 [.sl 27 l] []))] = bcond (IntKind.i64.wrap (b - a) == (1 : Int)) (evLoop false (f35_s3 n) n (f35_h3 (a) (b) (c) (xs) (l)) (f35_k3 n)) (bcond (IntKind.i64.wrap (c - b) == (1 : Int)) (evLoop false (f35_s15 n) n (f35_h15 (b) (a) (b) (xs) (l)) (f35_k15 n)) (bcond (decide (b > IntKind.i64.wrap (ishr IntKind.u64 (IntKind.u64.wrap (IntKind.i64.wrap (a + c))) (1 : Int)))) (evLoop false (f35_s33 n) n (f35_h33 (a) (b) (c) (IntKind.i64.wrap (ishr IntKind.u64 (IntKind.u64.wrap (IntKind.i64.wrap (a + c))) (1 : Int))) (IntKind.i64.wrap (IntKind.i64.wrap (ishr IntKind.u64 (IntKind.u64.wrap (IntKind.i64.wrap (a + c))) (1 : Int)) + b)) (IntKind.i64.wrap (IntKind.i64.wrap (IntKind.i64.wrap (ishr IntKind.u64 (IntKind.u64.wrap (IntKind.i64.wrap (a + c))) (1 : Int)) + b) - c)) (IntKind.i64.wrap (ishr IntKind.u64 (IntKind.u64.wrap (IntKind.i64.wrap (a + c))) (1 : Int))) (IntKind.i64.wrap (IntKind.i64.wrap (IntKind.i64.wrap (ishr IntKind.u64 (IntKind.u64.wrap (IntKind.i64.wrap (a + c))) (1 : Int)) + b) - (1 : Int))) (xs) (l)) (f35_k33 n)) (evLoop false (f35_s33 n) n (f35_h33 (a) (b) (c) (IntKind.i64.wrap (ishr IntKind.u64 (IntKind.u64.wrap (IntKind.i64.wrap (a + c))) (1 : Int))) (IntKind.i64.wrap (IntKind.i64.wrap (ishr IntKind.u64 (IntKind.u64.wrap (IntKind.i64.wrap (a + c))) (1 : Int)) + b)) (a) (b) (IntKind.i64.wrap (IntKind.i64.wrap (IntKind.i64.wrap (ishr IntKind.u64 (IntKind.u64.wrap (IntKind.i64.wrap (a + c))) (1 : Int)) + b) - (1 : Int))) (xs) (l)) (f35_k33 n)))) := by kernel_rfl

theorem half_nat {i j : Nat} (h : i + j ≤ 4000000) : IntKind.i64.wrap (ishr IntKind.u64 (IntKind.u64.wrap (IntKind.i64.wrap ((i : Int) + (j : Int)))) 1) = (((i + j) / 2 : Nat) : Int) := by
  rw [wrap_ok (a := (i : Int) + (j : Int)) (by omega) (by omega), IntWalk.u64_in _ ⟨by omega, by omega⟩]
  have : ishr .u64 ((i : Int) + (j : Int)) 1 = (((i + j) / 2 : Nat) : Int) := by
    show ((i : Int) + (j : Int)).fdiv 2 = _
    rw [Int.fdiv_eq_ediv_of_nonneg _ (by decide)]
    omega
  rw [this, wrap_ok (by omega) (by omega)]
/-- A search by halves. -/
theorem halves {L : Nat → Nat → Nat → Option R} {E : Nat → Option R} {p : Nat → Bool} {lo hi : Nat}
    (turn : ∀ m i j, lo ≤ i → i < j → j ≤ hi → L (m + 1) i j = bcond (p ((i + j) / 2)) (L m ((i + j) / 2 + 1) j) (L m i ((i + j) / 2)))
    (done : ∀ m i, lo ≤ i → i ≤ hi → L (m + 1) i i = E i) : ∀ (d m i j : Nat), j - i ≤ d → d < m → lo ≤ i → i ≤ j → j ≤ hi → (i = lo ∨ p (i - 1) = true) → (j = hi ∨ p j = false) →
      ∃ t, lo ≤ t ∧ t ≤ hi ∧ L m i j = E t ∧ (t = lo ∨ p (t - 1) = true) ∧ (t = hi ∨ p t = false) := by
  intro d
  induction d with
  | zero =>
    intro m i j h1 h2 h3 h4 h5 h6 h7
    obtain ⟨m, rfl⟩ : ∃ g, m = g + 1 := ⟨m - 1, by omega⟩
    obtain rfl : i = j := by omega
    exact ⟨i, h3, h5, done m i h3 h5, h6, h7⟩
  | succ d ih =>
    intro m i j h1 h2 h3 h4 h5 h6 h7
    obtain ⟨m, rfl⟩ : ∃ g, m = g + 1 := ⟨m - 1, by omega⟩
    rcases Nat.eq_or_lt_of_le h4 with rfl | h4
    · exact ⟨i, h3, h5, done m i h3 h5, h6, h7⟩
    · rw [turn m i j h3 h4 h5]
      cases hp : p ((i + j) / 2) with
      | true =>
        rw [bcond_t]
        exact ih m _ j (by omega) (by omega) (by omega) (by omega) h5 (.inr (by rw [Nat.add_sub_cancel]; exact hp)) h7
      | false =>
        rw [bcond_f]
        exact ih m i _ (by omega) (by omega) h3 (by omega) (by omega) h6 (.inr hp)
theorem f35_L9 (n : Nat) (l Q : List (List C)) (x : List C) (i : Int) : ∀ (B P : List (List C)) (k : Int) (m : Nat), B.length < m → k = (P.length : Int) → i = k + B.length + 1 → (P ++ x :: B ++ Q).length ≤ 1000000 →
    evLoop false (f35_s9 n) m (f35_h9 i k (P ++ x :: B ++ Q) l) (f35_k9 n) = some (.tup [], hS (P ++ B ++ x :: Q) l)
  | [], P, k, m, hm, hk, hi, hl => by
    obtain ⟨m, rfl⟩ : ∃ g, m = g + 1 := ⟨m - 1, by omega⟩
    simp only [List.length_append, List.length_cons] at hl
    rw [f35_t9, wrap_ok (a := i - 1) (by omega) (by omega), bcond_no (by simp at hi ⊢; omega), f35_a9_2]
    simp
  | y :: B, P, k, m, hm, hk, hi, hl => by
    obtain ⟨m, rfl⟩ : ∃ g, m = g + 1 := ⟨m - 1, by omega⟩
    simp only [List.length_append, List.length_cons] at hl hi hm
    have e1 : P ++ x :: (y :: B) ++ Q = P ++ x :: (y :: B ++ Q) := by simp
    have e2 : P ++ x :: (y :: B) ++ Q = (P ++ [x]) ++ y :: (B ++ Q) := by simp
    have hk1 : IntKind.i64.wrap (k + 1) = ((P ++ [x]).length : Int) := by rw [wrap_ok (by omega) (by omega)]; simp; omega
    have hE1 : el (P ++ x :: (y :: B) ++ Q) P.length = x := by rw [e1]; exact el_mid _ _ _
    have hE2 : el (P ++ x :: (y :: B) ++ Q) (P ++ [x]).length = y := by rw [e2]; exact el_mid _ _ _
    have hS1 : (P ++ x :: (y :: B) ++ Q).set P.length y = (P ++ [y]) ++ y :: (B ++ Q) := by rw [e1, set_mid]; simp
    have hL : (P ++ [x]).length = (P ++ [y]).length := by simp
    rw [f35_t9, wrap_ok (a := i - 1) (by omega) (by omega), bcond_of (by simp; omega), hk1, hk]
    simp only [inB_nat, Int.toNat_natCast, hE1, hE2, hS1]
    rw [bcond_of (by simp), bcond_of (by simp), bcond_of (by simp), bcond_of (by simp), hL, set_mid]
    have := f35_L9 n l Q x i B (P ++ [y]) ((P ++ [y]).length : Int) m (by omega) rfl (by simp; omega) (by simp; omega)
    simp only [List.append_assoc, List.cons_append, List.nil_append] at this ⊢
    exact this
theorem f35_L21 (n : Nat) (l P : List (List C)) (y : List C) (i : Int) (hi : i = (P.length : Int)) : ∀ (d : Nat) (A Q : List (List C)) (k : Int) (m : Nat), A.length = d → d < m → k = i + A.length → (P ++ A ++ y :: Q).length ≤ 1000000 →
    evLoop false (f35_s21 n) m (f35_h21 i k (P ++ A ++ y :: Q) l) (f35_k21 n) = some (.tup [], hS (P ++ y :: A ++ Q) l) := by
  intro d
  induction d with
  | zero =>
    intro A Q k m h1 h2 h3 hl
    obtain rfl : A = [] := List.eq_nil_of_length_eq_zero h1
    obtain ⟨m, rfl⟩ : ∃ g, m = g + 1 := ⟨m - 1, by omega⟩
    rw [f35_t21, bcond_no (by simp at h3 ⊢; omega), f35_a21_6]
    simp
  | succ d ih =>
    intro A Q k m h1 h2 h3 hl
    obtain ⟨m, rfl⟩ : ∃ g, m = g + 1 := ⟨m - 1, by omega⟩
    obtain ⟨A0, z, rfl⟩ : ∃ S0 y, A = S0 ++ [y] := ⟨A.dropLast, A.getLast (by intro h; rw [h] at h1; cases h1), (List.dropLast_concat_getLast _).symm⟩
    simp only [List.length_append, List.length_cons, List.length_nil] at h1 h3 hl
    have e1 : P ++ (A0 ++ [z]) ++ y :: Q = (P ++ A0) ++ z :: (y :: Q) := by simp
    have e2 : P ++ (A0 ++ [z]) ++ y :: Q = (P ++ A0 ++ [z]) ++ y :: Q := by simp
    have hj : k = ((P ++ A0 ++ [z]).length : Int) := by simp; omega
    have hj1 : IntKind.i64.wrap (k - 1) = ((P ++ A0).length : Int) := by rw [wrap_ok (by omega) (by omega)]; simp; omega
    have hE1 : el (P ++ (A0 ++ [z]) ++ y :: Q) (P ++ A0).length = z := by rw [e1]; exact el_mid _ _ _
    have hE2 : el (P ++ (A0 ++ [z]) ++ y :: Q) (P ++ A0 ++ [z]).length = y := by rw [e2]; exact el_mid _ _ _
    have hS2 : (P ++ (A0 ++ [z]) ++ y :: Q).set (P ++ A0 ++ [z]).length z = (P ++ A0) ++ z :: (z :: Q) := by rw [e2, set_mid]; simp
    rw [f35_t21, bcond_of (by simp; omega), hj1, hj]
    simp only [inB_nat, Int.toNat_natCast, hE1, hE2, hS2]
    rw [bcond_of (by simp), bcond_of (by simp), bcond_of (by simp), bcond_of (by simp), set_mid]
    have := ih A0 (z :: Q) ((P ++ A0).length : Int) m (by omega) (by omega) (by simp; omega) (by simp; omega)
    rw [this]
    simp

end Go.Proofs.Ytdcdccdhdingbaa
