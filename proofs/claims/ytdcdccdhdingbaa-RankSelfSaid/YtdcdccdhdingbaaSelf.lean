/- Self -/
import Derived.Test.YtdcdccdhdingbaaWa
import Derived.KernelRfl
namespace Go.Proofs.Ytdcdccdhdingbaa
open Go Go.Eng
set_option maxRecDepth 100000
theorem f3_eq (n : Nat) (l : List (List C)) (a : List C) (b : List C) : evFn tab FP nO false lv3 false n Try.f3 [.one (.c (.sl 27 l)), .agg 24 a [], .agg 24 b []] [] = bcond (decide ((↑l.length : Int) > (20 : Int))) (some ((V.one (A.c (C.bool true)), []))) (bcond (roomOk l.length (18 : Nat)) (bcond (roomOk (l.length + [(splice [C.int IntKind.u8 (0 : Int), C.int IntKind.u8 (0 : Int), C.int IntKind.u8 (0 : Int), C.int IntKind.u8 (0 : Int), C.int IntKind.u8 (0 : Int), C.int IntKind.u8 (0 : Int), C.int IntKind.u8 (0 : Int), C.int IntKind.u8 (0 : Int), C.int IntKind.u8 (0 : Int), C.int IntKind.u8 (0 : Int), C.int IntKind.u8 (0 : Int), C.int IntKind.u8 (0 : Int), C.int IntKind.u8 (0 : Int), C.int IntKind.u8 (0 : Int), C.int IntKind.u8 (0 : Int), C.int IntKind.u8 (0 : Int), C.bool false, C.bool false] (0 : Nat) a).set (16 : Nat) (C.bool true)].length) (18 : Nat)) (bcond ((l ++ [(splice [C.int IntKind.u8 (0 : Int), C.int IntKind.u8 (0 : Int), C.int IntKind.u8 (0 : Int), C.int IntKind.u8 (0 : Int), C.int IntKind.u8 (0 : Int), C.int IntKind.u8 (0 : Int), C.int IntKind.u8 (0 : Int), C.int IntKind.u8 (0 : Int), C.int IntKind.u8 (0 : Int), C.int IntKind.u8 (0 : Int), C.int IntKind.u8 (0 : Int), C.int IntKind.u8 (0 : Int), C.int IntKind.u8 (0 : Int), C.int IntKind.u8 (0 : Int), C.int IntKind.u8 (0 : Int), C.int IntKind.u8 (0 : Int), C.bool false, C.bool false] (0 : Nat) a).set (16 : Nat) (C.bool true)]).length.ble (1000000 : Nat)) (bcond ((srcN (l ++ [(splice [C.int IntKind.u8 (0 : Int), C.int IntKind.u8 (0 : Int), C.int IntKind.u8 (0 : Int), C.int IntKind.u8 (0 : Int), C.int IntKind.u8 (0 : Int), C.int IntKind.u8 (0 : Int), C.int IntKind.u8 (0 : Int), C.int IntKind.u8 (0 : Int), C.int IntKind.u8 (0 : Int), C.int IntKind.u8 (0 : Int), C.int IntKind.u8 (0 : Int), C.int IntKind.u8 (0 : Int), C.int IntKind.u8 (0 : Int), C.int IntKind.u8 (0 : Int), C.int IntKind.u8 (0 : Int), C.int IntKind.u8 (0 : Int), C.bool false, C.bool false] (0 : Nat) a).set (16 : Nat) (C.bool true)]) a).snd) (bcond (eqL (sub (srcN (l ++ [(splice [C.int IntKind.u8 (0 : Int), C.int IntKind.u8 (0 : Int), C.int IntKind.u8 (0 : Int), C.int IntKind.u8 (0 : Int), C.int IntKind.u8 (0 : Int), C.int IntKind.u8 (0 : Int), C.int IntKind.u8 (0 : Int), C.int IntKind.u8 (0 : Int), C.int IntKind.u8 (0 : Int), C.int IntKind.u8 (0 : Int), C.int IntKind.u8 (0 : Int), C.int IntKind.u8 (0 : Int), C.int IntKind.u8 (0 : Int), C.int IntKind.u8 (0 : Int), C.int IntKind.u8 (0 : Int), C.int IntKind.u8 (0 : Int), C.bool false, C.bool false] (0 : Nat) a).set (16 : Nat) (C.bool true)]) a).fst (0 : Nat) (16 : Nat)) a) (bcond (!(srcN [] a).snd) (bcond (eqL (srcN [] a).fst [C.int IntKind.u8 (0 : Int), C.int IntKind.u8 (0 : Int), C.int IntKind.u8 (0 : Int), C.int IntKind.u8 (0 : Int), C.int IntKind.u8 (0 : Int), C.int IntKind.u8 (0 : Int), C.int IntKind.u8 (0 : Int), C.int IntKind.u8 (0 : Int), C.int IntKind.u8 (0 : Int), C.int IntKind.u8 (0 : Int), C.int IntKind.u8 (0 : Int), C.int IntKind.u8 (0 : Int), C.int IntKind.u8 (0 : Int), C.int IntKind.u8 (0 : Int), C.int IntKind.u8 (0 : Int), C.int IntKind.u8 (0 : Int), C.bool false, C.bool false]) (bcond (keyN [] a (0 : Nat) == (0 : Int)) (bcond (keyN [] a (5 : Nat) == polP a) (bcond (keyN [] a (6 : Nat) == IntKind.i64.wrap ((0 : Int) - scN a)) (bcond (polP a == keyN [] b (5 : Nat)) (bcond (eqL [C.int IntKind.i64 (keyN [] a (0 : Nat)), C.int IntKind.i64 (keyN [] a (1 : Nat)), C.int IntKind.i64 (keyN [] a (2 : Nat)), C.int IntKind.i64 (keyN [] a (3 : Nat)), C.int IntKind.i64 (keyN [] a (4 : Nat)), C.int IntKind.i64 (keyN [] a (5 : Nat)), C.int IntKind.i64 (keyN [] a (6 : Nat)), C.int IntKind.i64 (keyN [] a (7 : Nat))] [C.int IntKind.i64 (keyN [] b (0 : Nat)), C.int IntKind.i64 (keyN [] b (1 : Nat)), C.int IntKind.i64 (keyN [] b (2 : Nat)), C.int IntKind.i64 (keyN [] b (3 : Nat)), C.int IntKind.i64 (keyN [] b (4 : Nat)), C.int IntKind.i64 (keyN [] b (5 : Nat)), C.int IntKind.i64 (keyN [] b (6 : Nat)), C.int IntKind.i64 (keyN [] b (7 : Nat))] == (keyN [] a (6 : Nat) == keyN [] b (6 : Nat))) (some ((V.one (A.c (C.bool (is4 (sub (srcN (l ++ [(splice [C.int IntKind.u8 (0 : Int), C.int IntKind.u8 (0 : Int), C.int IntKind.u8 (0 : Int), C.int IntKind.u8 (0 : Int), C.int IntKind.u8 (0 : Int), C.int IntKind.u8 (0 : Int), C.int IntKind.u8 (0 : Int), C.int IntKind.u8 (0 : Int), C.int IntKind.u8 (0 : Int), C.int IntKind.u8 (0 : Int), C.int IntKind.u8 (0 : Int), C.int IntKind.u8 (0 : Int), C.int IntKind.u8 (0 : Int), C.int IntKind.u8 (0 : Int), C.int IntKind.u8 (0 : Int), C.int IntKind.u8 (0 : Int), C.bool false, C.bool false] (0 : Nat) a).set (16 : Nat) (C.bool true)]) a).fst (0 : Nat) (16 : Nat)) == is4 a))), []))) (some ((V.one (A.c (C.bool false)), [])))) (bcond (eqL [C.int IntKind.i64 (keyN [] a (0 : Nat)), C.int IntKind.i64 (keyN [] a (1 : Nat)), C.int IntKind.i64 (keyN [] a (2 : Nat)), C.int IntKind.i64 (keyN [] a (3 : Nat)), C.int IntKind.i64 (keyN [] a (4 : Nat)), C.int IntKind.i64 (keyN [] a (5 : Nat)), C.int IntKind.i64 (keyN [] a (6 : Nat)), C.int IntKind.i64 (keyN [] a (7 : Nat))] [C.int IntKind.i64 (keyN [] b (0 : Nat)), C.int IntKind.i64 (keyN [] b (1 : Nat)), C.int IntKind.i64 (keyN [] b (2 : Nat)), C.int IntKind.i64 (keyN [] b (3 : Nat)), C.int IntKind.i64 (keyN [] b (4 : Nat)), C.int IntKind.i64 (keyN [] b (5 : Nat)), C.int IntKind.i64 (keyN [] b (6 : Nat)), C.int IntKind.i64 (keyN [] b (7 : Nat))] == false) (some ((V.one (A.c (C.bool (is4 (sub (srcN (l ++ [(splice [C.int IntKind.u8 (0 : Int), C.int IntKind.u8 (0 : Int), C.int IntKind.u8 (0 : Int), C.int IntKind.u8 (0 : Int), C.int IntKind.u8 (0 : Int), C.int IntKind.u8 (0 : Int), C.int IntKind.u8 (0 : Int), C.int IntKind.u8 (0 : Int), C.int IntKind.u8 (0 : Int), C.int IntKind.u8 (0 : Int), C.int IntKind.u8 (0 : Int), C.int IntKind.u8 (0 : Int), C.int IntKind.u8 (0 : Int), C.int IntKind.u8 (0 : Int), C.int IntKind.u8 (0 : Int), C.int IntKind.u8 (0 : Int), C.bool false, C.bool false] (0 : Nat) a).set (16 : Nat) (C.bool true)]) a).fst (0 : Nat) (16 : Nat)) == is4 a))), []))) (some ((V.one (A.c (C.bool false)), []))))) (some ((V.one (A.c (C.bool false)), [])))) (some ((V.one (A.c (C.bool false)), [])))) (some ((V.one (A.c (C.bool false)), [])))) (some ((V.one (A.c (C.bool false)), [])))) (some ((V.one (A.c (C.bool false)), [])))) (some ((V.one (A.c (C.bool false)), [])))) (some ((V.one (A.c (C.bool false)), [])))) (none)) (none)) (none)) := by kernel_rfl

theorem own_src {l : List (List C)} {a : List C} (hl : ∀ x ∈ l, L8 x) (ha : A8 a) (d e : Bool) : (srcN (l ++ [a ++ [.bool d, .bool e]]) a).2 = true ∧ ad (srcN (l ++ [a ++ [.bool d, .bool e]]) a).1 = a := by
  obtain ⟨e1, e2, e3⟩ := ad_mk ha.len d e
  rw [srcN_snoc]
  unfold srcS
  rw [e1, beq_self_eq_true]
  cases h2 : (srcN l a).2 with
  | false => exact ⟨rfl, e1⟩
  | true =>
    rw [cond_true, Bool.not_true, cond_false]
    by_cases hb : ad (srcN l a).1 = a
    · cases decide (betN (a ++ [.bool d, .bool e]) (srcN l a).1 a > 0) with
      | true => exact ⟨rfl, e1⟩
      | false => exact ⟨h2, hb⟩
    · have : decide (betN (a ++ [.bool d, .bool e]) (srcN l a).1 a > 0) = true := by
        unfold betN
        rw [e1, eqL_self ha, eqL_false (srcN_L8 hl).ad ha hb]
        rfl
      rw [this]
      exact ⟨rfl, e1⟩
theorem key_nil (z : List C) : keyN [] z 0 = 0 ∧ keyN [] z 1 = 0 ∧ keyN [] z 2 = 0 ∧ keyN [] z 3 = 0 ∧ keyN [] z 4 = 0 ∧ keyN [] z 5 = polP z ∧ keyN [] z 6 = IntKind.i64.wrap (0 - scN z) ∧ keyN [] z 7 = 0 := by
  unfold keyN keyO
  rw [srcN_nil]
  exact ⟨rfl, rfl, rfl, rfl, rfl, rfl, rfl, rfl⟩
theorem loc_mk {a : List C} (h : a.length = 16) : (splice [C.int IntKind.u8 (0 : Int), C.int IntKind.u8 (0 : Int), C.int IntKind.u8 (0 : Int), C.int IntKind.u8 (0 : Int), C.int IntKind.u8 (0 : Int), C.int IntKind.u8 (0 : Int), C.int IntKind.u8 (0 : Int), C.int IntKind.u8 (0 : Int), C.int IntKind.u8 (0 : Int), C.int IntKind.u8 (0 : Int), C.int IntKind.u8 (0 : Int), C.int IntKind.u8 (0 : Int), C.int IntKind.u8 (0 : Int), C.int IntKind.u8 (0 : Int), C.int IntKind.u8 (0 : Int), C.int IntKind.u8 (0 : Int), C.bool false, C.bool false] (0 : Nat) a).set (16 : Nat) (C.bool true) = a ++ [.bool true, .bool false] := by
  unfold splice
  rw [h]
  show (a ++ [C.bool false, C.bool false]).set 16 (C.bool true) = _
  rw [List.set_append, if_neg (by omega), h]
  rfl
theorem f3_out (n : Nat) (l : List (List C)) (a b : List C) (hl : ∀ x ∈ l, L8 x) (ha : A8 a) : evFn tab FP nO false lv3 false n Try.f3 [.one (.c (.sl 27 l)), .agg 24 a [], .agg 24 b []] [] = some (.one (.c (.bool true)), []) := by
  rw [f3_eq]
  cases h1 : decide ((l.length : Int) > 20) with
  | true => rfl
  | false =>
    rw [decide_eq_false_iff_not] at h1
    obtain ⟨s1, s2⟩ := own_src hl ha true false
    have hs : sub (srcN (l ++ [a ++ [.bool true, .bool false]]) a).1 0 16 = a := s2
    obtain ⟨k0, k1, k2, k3, k4, k5, k6, k7⟩ := key_nil a
    obtain ⟨j0, j1, j2, j3, j4, j5, j6, j7⟩ := key_nil b
    simp only [loc_mk ha.len, s1, hs, eqL_self ha, srcN_nil, k0, k1, k2, k3, k4, k5, k6, k7, j0, j1, j2, j3, j4, j5, j6, j7, beq_self_eq_true]
    rw [bcond_f, bcond_of (roomOk_of (by omega) (by omega)), bcond_of (roomOk_of (by simp; omega) (by simp; omega)), bcond_of (by simp; omega), bcond_t, bcond_t, bcond_of (b := !false) rfl, bcond_of (b := eqL loc0 _) (by rfl), bcond_t, bcond_t, bcond_t]
    have he : eqL [C.int IntKind.i64 0, C.int IntKind.i64 0, C.int IntKind.i64 0, C.int IntKind.i64 0, C.int IntKind.i64 0, C.int IntKind.i64 (polP a), C.int IntKind.i64 (IntKind.i64.wrap (0 - scN a)), C.int IntKind.i64 0] [C.int IntKind.i64 0, C.int IntKind.i64 0, C.int IntKind.i64 0, C.int IntKind.i64 0, C.int IntKind.i64 0, C.int IntKind.i64 (polP b), C.int IntKind.i64 (IntKind.i64.wrap (0 - scN b)), C.int IntKind.i64 0] = ((polP a == polP b) && (IntKind.i64.wrap (0 - scN a) == IntKind.i64.wrap (0 - scN b))) := by
      show ((polP a == polP b) && ((IntKind.i64.wrap (0 - scN a) == IntKind.i64.wrap (0 - scN b)) && true)) = _
      rw [Bool.and_true]
    rw [he]
    cases polP a == polP b with
    | true => rw [bcond_t, Bool.true_and, beq_self_eq_true, bcond_t]
    | false => rfl
theorem law_RankSelf : ∀ xs, All2 (ArgOk tab) [22, 24, 24] xs → FnAt Try.prog tab 3 (List.zipWith (argV tab) [22, 24, 24] xs) [] (.one (.c (.bool true))) [] := by
  intro xs h
  match xs, h with
  | [x, y, z], h =>
    obtain ⟨l, rfl⟩ := wk_sl h.1.1
    have hl := locs_ok (h.1.2 (.sl 27 l) (by simp))
    exact fn3 sFP rfl (f3_out 0 l y z hl (a8_of h.2.1.1 h.2.1.2))

end Go.Proofs.Ytdcdccdhdingbaa
