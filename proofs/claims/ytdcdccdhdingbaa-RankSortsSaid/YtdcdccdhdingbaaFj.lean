/- Fj -/
import Derived.Test.YtdcdccdhdingbaaFi
import Derived.KernelRfl
namespace Go.Proofs.Ytdcdccdhdingbaa
open Go Go.Eng
set_option maxRecDepth 100000
/-- In order, alike ones as they came. -/
def Srt (l xs S : List (List C)) : Prop := S.Perm xs ∧ ∀ T, Tr T → xs.Pairwise T → S.Pairwise (RN l T)
theorem sort_one {l xs : List (List C)} (hl2 : l.length ≤ 1000000) (hn : xs.length < 20) : ∃ S, evFn tab FL oY false lv30 false 100 Try.f30 [vD, vI xs.length, vF] (hS xs l) = some (.tup [], hS S l) ∧ Srt l xs S := by
  obtain ⟨g1, S, g2, g3⟩ := g34_ok (P := []) (A := xs) (Q := []) (l := l) (a := 0) (b := xs.length) rfl (by simp) (by simp; omega) hl2
  simp only [List.nil_append, List.append_nil] at g1 g2
  refine ⟨S, ?_, g3⟩
  rw [f30_eq, f30_t2, bcond_no (by simp; omega), f30_a2_0, g1, bcond_t, g2, f30_t7, bcond_no (by simp; omega), f30_a7_2]
set_option maxHeartbeats 1000000 in
theorem sort_two {l xs : List (List C)} (hl2 : l.length ≤ 1000000) (hn : 20 ≤ xs.length) (hn2 : xs.length ≤ 40) : ∃ S, evFn tab FL oY false lv30 false 100 Try.f30 [vD, vI xs.length, vF] (hS xs l) = some (.tup [], hS S l) ∧ Srt l xs S := by
  obtain ⟨A, B, hX, hA⟩ : ∃ A B, xs = A ++ B ∧ A.length = 20 := ⟨xs.take 20, xs.drop 20, (List.take_append_drop ..).symm, by simp; omega⟩
  have hlen : xs.length = 20 + B.length := by rw [hX, List.length_append, hA]
  rw [hlen, hX]
  obtain ⟨g1, S1, g2, g3⟩ := g34_ok (P := []) (A := A) (Q := B) (l := l) (a := 0) (b := 20) rfl (by simp [hA]) (by simp; omega) hl2
  simp only [List.nil_append] at g1 g2
  have hS1 : S1.length = 20 := by rw [g3.1.length_eq, hA]
  obtain ⟨k1, S2, k2, k3⟩ := g34_ok (P := S1) (A := B) (Q := []) (l := l) (a := 20) (b := ((20 + B.length : Nat) : Int)) (by omega) (by omega) (by simp; omega) hl2
  simp only [List.append_nil] at k1 k2
  have hS2 : S2.length = B.length := k3.1.length_eq
  have fin : ∀ m : Nat, 10 < m → ∃ S, evLoop false (f30_s7 100) m (f30_h7 ((20 + B.length : Nat) : Int) 20 (S1 ++ S2) l) (f30_k7 100) = some (.tup [], hS S l) ∧ Srt l (A ++ B) S := by
    intro m hm
    obtain ⟨m, rfl⟩ : ∃ g, m = g + 1 + 1 := ⟨m - 2, by omega⟩
    by_cases hB : B.length = 0
    · refine ⟨S1 ++ S2, ?_, g3.1.append k3.1, fun T hT hp => ?_⟩
      · rw [f30_t7, bcond_no (by simp; omega), f30_a7_2]
      · obtain rfl : B = [] := List.eq_nil_of_length_eq_zero hB
        obtain rfl : S2 = [] := List.eq_nil_of_length_eq_zero (by omega)
        rw [List.append_nil] at hp ⊢
        exact g3.2 T hT hp
    · obtain ⟨p1, S, p2, p3⟩ := at35 hl2 (S1.length + S2.length + 1) [] S1 S2 [] 0 20 ((20 + B.length : Nat) : Int) (by omega) (by omega) (by omega) rfl (by simp; omega) (by simp; omega) (by simp; omega)
      simp only [List.nil_append, List.append_nil] at p1 p2
      refine ⟨S, ?_, p3.1.trans (g3.1.append k3.1), fun T hT hp => ?_⟩
      · rw [f30_t7, bcond_of (by simp; omega), show IntKind.i64.wrap ((2 : Int) * 20) = 40 from rfl]
        by_cases h40 : B.length = 20
        · rw [h40] at p1 p2 ⊢
          rw [f30_t9 100 99, bcond_of (by decide), show IntKind.i64.wrap ((0 : Int) + 20) = 20 from rfl]
          rw [show (((20 + 20 : Nat) : Nat) : Int) = 40 from rfl] at p1 p2 ⊢
          rw [p1, bcond_t, p2, show IntKind.i64.wrap ((40 : Int) + IntKind.i64.wrap (2 * 20)) = 80 from rfl, f30_t9 100 98, bcond_no (by decide), f30_a9_4, show IntKind.i64.wrap ((40 : Int) + 20) = 60 from rfl, bcond_no (by decide), show IntKind.i64.wrap ((20 : Int) * 2) = 40 from rfl, f30_t7, bcond_no (by decide), f30_a7_2]
        · rw [f30_t9 100 99, bcond_no (by simp; omega), f30_a9_4, show IntKind.i64.wrap ((0 : Int) + 20) = 20 from rfl, bcond_of (by simp; omega), p1, bcond_t, p2, show IntKind.i64.wrap ((20 : Int) * 2) = 40 from rfl, f30_t7, bcond_no (by simp; omega), f30_a7_2]
      · rw [List.pairwise_append] at hp
        exact p3.2 T hT (g3.2 T hT hp.1) (k3.2 T hT hp.2.1) fun x hx y hy => hp.2.2 x (g3.1.mem_iff.1 hx) y (k3.1.mem_iff.1 hy)
  rw [f30_eq, f30_t2 100 99, bcond_of (by simp; omega), g1, bcond_t, g2, show IntKind.i64.wrap ((20 : Int) + 20) = 40 from rfl]
  by_cases h40 : B.length = 20
  · rw [h40] at k1 k2 fin ⊢
    rw [show (((20 + 20 : Nat) : Nat) : Int) = 40 from rfl] at k1 k2 fin ⊢
    rw [f30_t2 100 98, bcond_of (by decide), k1, bcond_t, k2, show IntKind.i64.wrap ((40 : Int) + 20) = 60 from rfl, f30_t2 100 97, bcond_no (by decide), f30_a2_0]
    obtain ⟨q1, S3, q2, q3⟩ := g34_ok (P := S1 ++ S2) (A := []) (Q := []) (l := l) (a := 40) (b := 40) (by simp; omega) (by simp; omega) (by simp; omega) hl2
    obtain rfl : S3 = [] := q3.1.eq_nil
    simp only [List.append_nil] at q1 q2
    rw [q1, bcond_t, q2]
    exact fin 100 (by omega)
  · rw [f30_t2 100 98, bcond_no (by simp; omega), f30_a2_0, k1, bcond_t, k2]
    exact fin 100 (by omega)
def S30 (xs l ys : List (List C)) : Prop := FnAt Try.prog tab 30 [vD, vI xs.length, vF] (hS xs l) (.tup []) (hS ys l) ∧ Srt l xs ys
theorem at30 {l xs : List (List C)} (hl2 : l.length ≤ 1000000) (hn : xs.length ≤ 40) : ∃ ys, S30 xs l ys := by
  rcases Nat.lt_or_ge xs.length 20 with h | h
  · obtain ⟨S, h1, h2⟩ := sort_one hl2 h
    exact ⟨S, fn30 sFL rfl h1, h2⟩
  · obtain ⟨S, h1, h2⟩ := sort_two hl2 h hn
    exact ⟨S, fn30 sFL rfl h1, h2⟩
@[irreducible] noncomputable def g30 (xs l : List (List C)) : Bool := some? (S30 xs l)
@[irreducible] noncomputable def y30 (xs l : List (List C)) : List (List C) := pick (S30 xs l)
noncomputable def e30 : En
  | [.one (.own (.ext 0) 0 39), .one (.c (.int .i64 c)), .one (.fn 25 [(.ext 1, 0)])], [(.ext 0, (0, .arr 39 true xs)), (.ext 1, (0, .box 22 [.sl 27 l] []))], k =>
    bcond (c == (xs.length : Int) && g30 xs l) (k (.tup []) [(.ext 0, (0, .arr 39 true (y30 xs l))), (.ext 1, (0, .box 22 [.sl 27 l] []))]) none
  | _, _, _ => none
theorem es30 : ES Try.prog tab 30 e30 := by
  intro args h k x hh
  unfold e30 at hh
  split at hh
  · rename_i c xs l
    cases hb : (c == (xs.length : Int) && g30 xs l) with
    | false => rw [hb, bcond_f] at hh; cases hh
    | true =>
      rw [hb, bcond_t] at hh
      unfold y30 at hh
      unfold g30 at hb
      rw [Bool.and_eq_true, beq_iff_eq] at hb
      obtain ⟨rfl, hb⟩ := hb
      exact ⟨_, _, hh, (some_pick hb).1⟩
  · cases hh
noncomputable def FM : Fun := mkF [(30, e30)]
theorem sFM : FSound Try.prog tab FM := mkF_sound (fun p hp => by
  simp only [List.mem_cons, List.not_mem_nil, or_false] at hp
  subst hp
  exact es30)
theorem f24_eq (n : Nat) (xs : List (List C)) (l : List (List C)) : evFn tab FM oY false lv24 false n Try.f24 [.one (.own (.ext 0) 0 39), .one (.fn 25 [(.ext 1, 0)])] [(.ext 0, (0, .arr 39 true xs)), (.ext 1, (0, .box 22 [.sl 27 l] []))] = bcond ((↑xs.length : Int) == (↑xs.length : Int) && g30 xs l) (some ((V.tup [], [(Key.ext (0 : Nat), (0 : Nat), B.arr (39 : Nat) true (y30 xs l)), (Key.ext (1 : Nat), (0 : Nat), B.box (22 : Nat) [C.sl (27 : Nat) l] [])]))) (none) := by kernel_rfl

theorem f24_out (n : Nat) {l xs : List (List C)} (hg : g30 xs l = true) : evFn tab FM oY false lv24 false n Try.f24 [vD, vF] (hS xs l) = some (.tup [], hS (y30 xs l) l) := by
  rw [f24_eq, hg, bcond_of (by simp)]
noncomputable def e24 : En
  | [.one (.own (.ext 0) 0 39), .one (.fn 25 [(.ext 1, 0)])], [(.ext 0, (0, .arr 39 true xs)), (.ext 1, (0, .box 22 [.sl 27 l] []))], k =>
    bcond (g30 xs l) (k (.tup []) [(.ext 0, (0, .arr 39 true (y30 xs l))), (.ext 1, (0, .box 22 [.sl 27 l] []))]) none
  | _, _, _ => none
theorem es24 : ES Try.prog tab 24 e24 := by
  intro args h k x hh
  unfold e24 at hh
  split at hh
  · rename_i xs l
    cases hb : g30 xs l with
    | false => rw [hb, bcond_f] at hh; cases hh
    | true =>
      rw [hb, bcond_t] at hh
      exact ⟨_, _, hh, fn24 sFM rfl (f24_out 0 hb)⟩
  · cases hh
noncomputable def FN : Fun := mkF [(24, e24)]
theorem sFN : FSound Try.prog tab FN := mkF_sound (fun p hp => by
  simp only [List.mem_cons, List.not_mem_nil, or_false] at hp
  subst hp
  exact es24)
theorem f15_eq (n : Nat) (l : List (List C)) (xs : List (List C)) : evFn tab FN oY false lv15 false n Try.f15 [.one (.c (.sl 27 l)), .one (.c (.sl 39 xs))] [] = bcond (roomOk xs.length (80 : Nat)) (bcond (g30 xs l) (some ((V.one (A.c (C.sl (39 : Nat) (y30 xs l))), []))) (none)) (none) := by kernel_rfl

noncomputable def e15 : En
  | [.one (.c (.sl 27 l)), .one (.c (.sl 39 xs))], [], k => bcond (Nat.ble xs.length 40 && Nat.ble l.length 1000000) (k (.one (.c (.sl 39 (y30 xs l)))) []) none
  | _, _, _ => none
theorem g30_ok {l xs : List (List C)} (hl2 : l.length ≤ 1000000) (hn : xs.length ≤ 40) : g30 xs l = true ∧ Srt l xs (y30 xs l) := by
  obtain ⟨ys, h⟩ := at30 hl2 hn
  unfold g30 y30
  exact ⟨some_ok h, (pick_ok h).2⟩
theorem es15 : ES Try.prog tab 15 e15 := by
  intro args h k x hh
  unfold e15 at hh
  split at hh
  · rename_i l xs
    cases hb : (Nat.ble xs.length 40 && Nat.ble l.length 1000000) with
    | false => rw [hb, bcond_f] at hh; cases hh
    | true =>
      rw [hb, bcond_t] at hh
      rw [Bool.and_eq_true, Nat.ble_eq, Nat.ble_eq] at hb
      refine ⟨_, _, hh, fn15 sFN rfl (bp := false) (own := oY) (ownR := false) (n := 0) ((f15_eq 0 l xs).trans ?_)⟩
      rw [bcond_of (roomOk_of (by omega) (by omega)), (g30_ok hb.2 hb.1).1]
      rfl
  · cases hh
noncomputable def FO : Fun := mkF [(14, e14), (15, e15), (19, e19)]
theorem sFO : FSound Try.prog tab FO := mkF_sound (fun p hp => by
  simp only [List.mem_cons, List.not_mem_nil, or_false] at hp
  rcases hp with rfl | rfl | rfl
  · exact es14
  · exact es15
  · exact es19)
theorem f9_eq (n : Nat) : evFn tab FO nO false lv9 false n Try.f9 [] [] = bcond ((↑(y30 [[C.str (ByteArray.mk #[]), C.int IntKind.i64 (0 : Int), C.int IntKind.i64 (0 : Int), C.int IntKind.u8 (32 : Int), C.int IntKind.u8 (1 : Int), C.int IntKind.u8 (0 : Int), C.int IntKind.u8 (0 : Int), C.int IntKind.u8 (0 : Int), C.int IntKind.u8 (0 : Int), C.int IntKind.u8 (0 : Int), C.int IntKind.u8 (0 : Int), C.int IntKind.u8 (0 : Int), C.int IntKind.u8 (0 : Int), C.int IntKind.u8 (0 : Int), C.int IntKind.u8 (0 : Int), C.int IntKind.u8 (0 : Int), C.int IntKind.u8 (0 : Int), C.int IntKind.u8 (0 : Int), C.int IntKind.u8 (0 : Int), C.str (ByteArray.mk #[]), C.str (ByteArray.mk #[])], [C.str (ByteArray.mk #[]), C.int IntKind.i64 (0 : Int), C.int IntKind.i64 (0 : Int), C.int IntKind.u8 (0 : Int), C.int IntKind.u8 (0 : Int), C.int IntKind.u8 (0 : Int), C.int IntKind.u8 (0 : Int), C.int IntKind.u8 (0 : Int), C.int IntKind.u8 (0 : Int), C.int IntKind.u8 (0 : Int), C.int IntKind.u8 (0 : Int), C.int IntKind.u8 (0 : Int), C.int IntKind.u8 (0 : Int), C.int IntKind.u8 (255 : Int), C.int IntKind.u8 (255 : Int), C.int IntKind.u8 (10 : Int), C.int IntKind.u8 (0 : Int), C.int IntKind.u8 (0 : Int), C.int IntKind.u8 (9 : Int), C.str (ByteArray.mk #[]), C.str (ByteArray.mk #[])]] [[C.int IntKind.u8 (0 : Int), C.int IntKind.u8 (0 : Int), C.int IntKind.u8 (0 : Int), C.int IntKind.u8 (0 : Int), C.int IntKind.u8 (0 : Int), C.int IntKind.u8 (0 : Int), C.int IntKind.u8 (0 : Int), C.int IntKind.u8 (0 : Int), C.int IntKind.u8 (0 : Int), C.int IntKind.u8 (0 : Int), C.int IntKind.u8 (255 : Int), C.int IntKind.u8 (255 : Int), C.int IntKind.u8 (10 : Int), C.int IntKind.u8 (0 : Int), C.int IntKind.u8 (0 : Int), C.int IntKind.u8 (1 : Int), C.bool false, C.bool false]]).length : Int) == (2 : Int)) (bcond (inB (0 : Int) (y30 [[C.str (ByteArray.mk #[]), C.int IntKind.i64 (0 : Int), C.int IntKind.i64 (0 : Int), C.int IntKind.u8 (32 : Int), C.int IntKind.u8 (1 : Int), C.int IntKind.u8 (0 : Int), C.int IntKind.u8 (0 : Int), C.int IntKind.u8 (0 : Int), C.int IntKind.u8 (0 : Int), C.int IntKind.u8 (0 : Int), C.int IntKind.u8 (0 : Int), C.int IntKind.u8 (0 : Int), C.int IntKind.u8 (0 : Int), C.int IntKind.u8 (0 : Int), C.int IntKind.u8 (0 : Int), C.int IntKind.u8 (0 : Int), C.int IntKind.u8 (0 : Int), C.int IntKind.u8 (0 : Int), C.int IntKind.u8 (0 : Int), C.str (ByteArray.mk #[]), C.str (ByteArray.mk #[])], [C.str (ByteArray.mk #[]), C.int IntKind.i64 (0 : Int), C.int IntKind.i64 (0 : Int), C.int IntKind.u8 (0 : Int), C.int IntKind.u8 (0 : Int), C.int IntKind.u8 (0 : Int), C.int IntKind.u8 (0 : Int), C.int IntKind.u8 (0 : Int), C.int IntKind.u8 (0 : Int), C.int IntKind.u8 (0 : Int), C.int IntKind.u8 (0 : Int), C.int IntKind.u8 (0 : Int), C.int IntKind.u8 (0 : Int), C.int IntKind.u8 (255 : Int), C.int IntKind.u8 (255 : Int), C.int IntKind.u8 (10 : Int), C.int IntKind.u8 (0 : Int), C.int IntKind.u8 (0 : Int), C.int IntKind.u8 (9 : Int), C.str (ByteArray.mk #[]), C.str (ByteArray.mk #[])]] [[C.int IntKind.u8 (0 : Int), C.int IntKind.u8 (0 : Int), C.int IntKind.u8 (0 : Int), C.int IntKind.u8 (0 : Int), C.int IntKind.u8 (0 : Int), C.int IntKind.u8 (0 : Int), C.int IntKind.u8 (0 : Int), C.int IntKind.u8 (0 : Int), C.int IntKind.u8 (0 : Int), C.int IntKind.u8 (0 : Int), C.int IntKind.u8 (255 : Int), C.int IntKind.u8 (255 : Int), C.int IntKind.u8 (10 : Int), C.int IntKind.u8 (0 : Int), C.int IntKind.u8 (0 : Int), C.int IntKind.u8 (1 : Int), C.bool false, C.bool false]]).length) (some ((V.one (A.c (C.bool (is4 (sub (el (y30 [[C.str (ByteArray.mk #[]), C.int IntKind.i64 (0 : Int), C.int IntKind.i64 (0 : Int), C.int IntKind.u8 (32 : Int), C.int IntKind.u8 (1 : Int), C.int IntKind.u8 (0 : Int), C.int IntKind.u8 (0 : Int), C.int IntKind.u8 (0 : Int), C.int IntKind.u8 (0 : Int), C.int IntKind.u8 (0 : Int), C.int IntKind.u8 (0 : Int), C.int IntKind.u8 (0 : Int), C.int IntKind.u8 (0 : Int), C.int IntKind.u8 (0 : Int), C.int IntKind.u8 (0 : Int), C.int IntKind.u8 (0 : Int), C.int IntKind.u8 (0 : Int), C.int IntKind.u8 (0 : Int), C.int IntKind.u8 (0 : Int), C.str (ByteArray.mk #[]), C.str (ByteArray.mk #[])], [C.str (ByteArray.mk #[]), C.int IntKind.i64 (0 : Int), C.int IntKind.i64 (0 : Int), C.int IntKind.u8 (0 : Int), C.int IntKind.u8 (0 : Int), C.int IntKind.u8 (0 : Int), C.int IntKind.u8 (0 : Int), C.int IntKind.u8 (0 : Int), C.int IntKind.u8 (0 : Int), C.int IntKind.u8 (0 : Int), C.int IntKind.u8 (0 : Int), C.int IntKind.u8 (0 : Int), C.int IntKind.u8 (0 : Int), C.int IntKind.u8 (255 : Int), C.int IntKind.u8 (255 : Int), C.int IntKind.u8 (10 : Int), C.int IntKind.u8 (0 : Int), C.int IntKind.u8 (0 : Int), C.int IntKind.u8 (9 : Int), C.str (ByteArray.mk #[]), C.str (ByteArray.mk #[])]] [[C.int IntKind.u8 (0 : Int), C.int IntKind.u8 (0 : Int), C.int IntKind.u8 (0 : Int), C.int IntKind.u8 (0 : Int), C.int IntKind.u8 (0 : Int), C.int IntKind.u8 (0 : Int), C.int IntKind.u8 (0 : Int), C.int IntKind.u8 (0 : Int), C.int IntKind.u8 (0 : Int), C.int IntKind.u8 (0 : Int), C.int IntKind.u8 (255 : Int), C.int IntKind.u8 (255 : Int), C.int IntKind.u8 (10 : Int), C.int IntKind.u8 (0 : Int), C.int IntKind.u8 (0 : Int), C.int IntKind.u8 (1 : Int), C.bool false, C.bool false]]) (0 : Nat)) (3 : Nat) (16 : Nat))))), []))) (none)) (some ((V.one (A.c (C.bool false)), []))) := by kernel_rfl


def rA : List C := [C.str (ByteArray.mk #[]), C.int IntKind.i64 (0 : Int), C.int IntKind.i64 (0 : Int), C.int IntKind.u8 (32 : Int), C.int IntKind.u8 (1 : Int), C.int IntKind.u8 (0 : Int), C.int IntKind.u8 (0 : Int), C.int IntKind.u8 (0 : Int), C.int IntKind.u8 (0 : Int), C.int IntKind.u8 (0 : Int), C.int IntKind.u8 (0 : Int), C.int IntKind.u8 (0 : Int), C.int IntKind.u8 (0 : Int), C.int IntKind.u8 (0 : Int), C.int IntKind.u8 (0 : Int), C.int IntKind.u8 (0 : Int), C.int IntKind.u8 (0 : Int), C.int IntKind.u8 (0 : Int), C.int IntKind.u8 (0 : Int), C.str (ByteArray.mk #[]), C.str (ByteArray.mk #[])]
def rB : List C := [C.str (ByteArray.mk #[]), C.int IntKind.i64 (0 : Int), C.int IntKind.i64 (0 : Int), C.int IntKind.u8 (0 : Int), C.int IntKind.u8 (0 : Int), C.int IntKind.u8 (0 : Int), C.int IntKind.u8 (0 : Int), C.int IntKind.u8 (0 : Int), C.int IntKind.u8 (0 : Int), C.int IntKind.u8 (0 : Int), C.int IntKind.u8 (0 : Int), C.int IntKind.u8 (0 : Int), C.int IntKind.u8 (0 : Int), C.int IntKind.u8 (255 : Int), C.int IntKind.u8 (255 : Int), C.int IntKind.u8 (10 : Int), C.int IntKind.u8 (0 : Int), C.int IntKind.u8 (0 : Int), C.int IntKind.u8 (9 : Int), C.str (ByteArray.mk #[]), C.str (ByteArray.mk #[])]
def lA : List (List C) := [[C.int IntKind.u8 (0 : Int), C.int IntKind.u8 (0 : Int), C.int IntKind.u8 (0 : Int), C.int IntKind.u8 (0 : Int), C.int IntKind.u8 (0 : Int), C.int IntKind.u8 (0 : Int), C.int IntKind.u8 (0 : Int), C.int IntKind.u8 (0 : Int), C.int IntKind.u8 (0 : Int), C.int IntKind.u8 (0 : Int), C.int IntKind.u8 (255 : Int), C.int IntKind.u8 (255 : Int), C.int IntKind.u8 (10 : Int), C.int IntKind.u8 (0 : Int), C.int IntKind.u8 (0 : Int), C.int IntKind.u8 (1 : Int), C.bool false, C.bool false]]
theorem rBA : decide (cmpN lA rB rA < 0) = true := by kernel_rfl
theorem rB4 : is4 (sub rB 3 16) = true := by kernel_rfl
theorem yAB : y30 [rA, rB] lA = [rB, rA] := by
  obtain ⟨h1, h2⟩ := (g30_ok (l := lA) (xs := [rA, rB]) (by decide) (by decide)).2
  have h2 := h2 (fun _ _ => True) (fun _ _ _ _ _ => trivial) (by simp)
  have hlt : ltN lA rB rA := by unfold ltN; exact of_decide_eq_true rBA
  have hlen := h1.length_eq
  obtain ⟨x, y, hxy⟩ : ∃ x y, y30 [rA, rB] lA = [x, y] := by
    match hq : y30 [rA, rB] lA, hlen with
    | [x, y], _ => exact ⟨x, y, rfl⟩
  rw [hxy] at h1 h2 ⊢
  have hnot : ¬ (x = rA ∧ y = rB) := fun ⟨e1, e2⟩ => by
    rw [e1, e2] at h2
    simp only [List.pairwise_cons] at h2
    exact Rr.le (swN lA) (h2.1 rB (by simp)) hlt
  have hx : x = rA ∨ x = rB := by have := h1.mem_iff (a := x); simp at this; exact this
  rcases hx with rfl | rfl
  · have h3 := (List.perm_cons _).1 h1
    have : [y] = [rB] := List.perm_singleton.1 h3
    exact absurd ⟨rfl, (List.cons.inj this).1⟩ hnot
  · have h3 := (List.perm_cons _).1 (h1.trans (List.Perm.swap rB rA []))
    have : [y] = [rA] := List.perm_singleton.1 h3
    rw [(List.cons.inj this).1]
theorem f9_out (n : Nat) : evFn tab FO nO false lv9 false n Try.f9 [] [] = some (.one (.c (.bool true)), []) := by
  have e := f9_eq n
  rw [show ([[C.str (ByteArray.mk #[]), C.int IntKind.i64 (0 : Int), C.int IntKind.i64 (0 : Int), C.int IntKind.u8 (32 : Int), C.int IntKind.u8 (1 : Int), C.int IntKind.u8 (0 : Int), C.int IntKind.u8 (0 : Int), C.int IntKind.u8 (0 : Int), C.int IntKind.u8 (0 : Int), C.int IntKind.u8 (0 : Int), C.int IntKind.u8 (0 : Int), C.int IntKind.u8 (0 : Int), C.int IntKind.u8 (0 : Int), C.int IntKind.u8 (0 : Int), C.int IntKind.u8 (0 : Int), C.int IntKind.u8 (0 : Int), C.int IntKind.u8 (0 : Int), C.int IntKind.u8 (0 : Int), C.int IntKind.u8 (0 : Int), C.str (ByteArray.mk #[]), C.str (ByteArray.mk #[])], [C.str (ByteArray.mk #[]), C.int IntKind.i64 (0 : Int), C.int IntKind.i64 (0 : Int), C.int IntKind.u8 (0 : Int), C.int IntKind.u8 (0 : Int), C.int IntKind.u8 (0 : Int), C.int IntKind.u8 (0 : Int), C.int IntKind.u8 (0 : Int), C.int IntKind.u8 (0 : Int), C.int IntKind.u8 (0 : Int), C.int IntKind.u8 (0 : Int), C.int IntKind.u8 (0 : Int), C.int IntKind.u8 (0 : Int), C.int IntKind.u8 (255 : Int), C.int IntKind.u8 (255 : Int), C.int IntKind.u8 (10 : Int), C.int IntKind.u8 (0 : Int), C.int IntKind.u8 (0 : Int), C.int IntKind.u8 (9 : Int), C.str (ByteArray.mk #[]), C.str (ByteArray.mk #[])]] : List (List C)) = [rA, rB] from rfl,
    show ([[C.int IntKind.u8 (0 : Int), C.int IntKind.u8 (0 : Int), C.int IntKind.u8 (0 : Int), C.int IntKind.u8 (0 : Int), C.int IntKind.u8 (0 : Int), C.int IntKind.u8 (0 : Int), C.int IntKind.u8 (0 : Int), C.int IntKind.u8 (0 : Int), C.int IntKind.u8 (0 : Int), C.int IntKind.u8 (0 : Int), C.int IntKind.u8 (255 : Int), C.int IntKind.u8 (255 : Int), C.int IntKind.u8 (10 : Int), C.int IntKind.u8 (0 : Int), C.int IntKind.u8 (0 : Int), C.int IntKind.u8 (1 : Int), C.bool false, C.bool false]] : List (List C)) = lA from rfl, yAB] at e
  rw [e, show el [rB, rA] 0 = rB from rfl, rB4]
  rfl
def e9 : En
  | [], [], k => k (.one (.c (.bool true))) []
  | _, _, _ => none
theorem es9 : ES Try.prog tab 9 e9 := by
  intro args h k x hh
  unfold e9 at hh
  split at hh
  · exact ⟨_, _, hh, fn9 sFO rfl (f9_out 0)⟩
  · cases hh

end Go.Proofs.Ytdcdccdhdingbaa
