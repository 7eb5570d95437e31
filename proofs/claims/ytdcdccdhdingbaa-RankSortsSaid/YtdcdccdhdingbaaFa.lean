/- Fa -/
import Derived.Test.YtdcdccdhdingbaaTab
import Derived.KernelRfl
namespace Go.Proofs.Ytdcdccdhdingbaa
open Go Go.Eng
set_option maxRecDepth 100000
theorem f21_eq (n : Nat) (b : Bool) : evFn tab nF nO false lv21 false n Try.f21 [.one (.c (.bool b))] [] = bcond (b) (some ((V.one (A.c (C.int IntKind.i64 (1 : Int))), []))) (some ((V.one (A.c (C.int IntKind.i64 (0 : Int))), []))) := by kernel_rfl

theorem f14_eq (n : Nat) (x : List C) : evFn tab nF nO false lv14 false n Try.f14 [.agg 24 x []] [] = some ((V.one (A.c (C.bool (eqL (sub x (0 : Nat) (12 : Nat)) [C.int IntKind.u8 (0 : Int), C.int IntKind.u8 (0 : Int), C.int IntKind.u8 (0 : Int), C.int IntKind.u8 (0 : Int), C.int IntKind.u8 (0 : Int), C.int IntKind.u8 (0 : Int), C.int IntKind.u8 (0 : Int), C.int IntKind.u8 (0 : Int), C.int IntKind.u8 (0 : Int), C.int IntKind.u8 (0 : Int), C.int IntKind.u8 (255 : Int), C.int IntKind.u8 (255 : Int)]))), [])) := by kernel_rfl

theorem f36_eq (n : Nat) (a : Int) : evFn tab nF nO false lv36 false n Try.f36 [.one (.c (.int .i64 a))] [] = some ((V.one (A.c (C.bool (a != a))), [])) := by kernel_rfl

theorem f19_eq (n : Nat) (a : Int) (b : Int) (c : Int) (d : Int) : evFn tab nF nO false lv19 false n Try.f19 [.one (.c (.int .u8 a)), .one (.c (.int .u8 b)), .one (.c (.int .u8 c)), .one (.c (.int .u8 d))] [] = some ((V.agg (24 : Nat) [C.int IntKind.u8 (0 : Int), C.int IntKind.u8 (0 : Int), C.int IntKind.u8 (0 : Int), C.int IntKind.u8 (0 : Int), C.int IntKind.u8 (0 : Int), C.int IntKind.u8 (0 : Int), C.int IntKind.u8 (0 : Int), C.int IntKind.u8 (0 : Int), C.int IntKind.u8 (0 : Int), C.int IntKind.u8 (0 : Int), C.int IntKind.u8 (255 : Int), C.int IntKind.u8 (255 : Int), C.int IntKind.u8 a, C.int IntKind.u8 b, C.int IntKind.u8 c, C.int IntKind.u8 d] [], [])) := by kernel_rfl

noncomputable abbrev f22_c2 : Code := (loops (body Try.f22)).getD 0 .skip
noncomputable abbrev f22_s2 (n : Nat) : St → (X → St → Option R) → Option R := fun st k => evCode tab nF nO lv22 false n f22_c2 st k
noncomputable abbrev f22_k2 (n : Nat) : X → St → Option R := after tab nF nO lv22 false n (body Try.f22) 0 (endK tab false Try.f22)
abbrev f22_h2 (s7 : Int) (b2 : List C) (b3 : List C) : St := { t := [((2 : Nat), V.one (A.ptr (Key.loc (2 : Nat) (0 : Nat)) (0 : Nat) (0 : Nat))), ((3 : Nat), V.one (A.ptr (Key.loc (3 : Nat) (0 : Nat)) (0 : Nat) (0 : Nat))), ((7 : Nat), V.one (A.c (C.int IntKind.i64 s7)))], h := [(Key.loc (2 : Nat) (0 : Nat), (0 : Nat), B.box (24 : Nat) b2 []), (Key.loc (3 : Nat) (0 : Nat), (0 : Nat), B.box (24 : Nat) b3 [])] }
noncomputable abbrev f22_c5 : Code := (loops (f22_c2)).getD 0 .skip
noncomputable abbrev f22_s5 (n : Nat) : St → (X → St → Option R) → Option R := fun st k => evCode tab nF nO lv22 false n f22_c5 st k
noncomputable abbrev f22_k5 (n m : Nat) (k : X → St → Option R) : X → St → Option R := after tab nF nO lv22 false n f22_c2 0 (backK false (f22_s2 n) m k)
abbrev f22_h5 (s5 : Int) (s6 : Int) (s7 : Int) (b2 : List C) (b3 : List C) : St := { t := [((2 : Nat), V.one (A.ptr (Key.loc (2 : Nat) (0 : Nat)) (0 : Nat) (0 : Nat))), ((3 : Nat), V.one (A.ptr (Key.loc (3 : Nat) (0 : Nat)) (0 : Nat) (0 : Nat))), ((5 : Nat), V.one (A.c (C.int IntKind.i64 s5))), ((6 : Nat), V.one (A.c (C.int IntKind.i64 s6))), ((7 : Nat), V.one (A.c (C.int IntKind.i64 s7)))], h := [(Key.loc (2 : Nat) (0 : Nat), (0 : Nat), B.box (24 : Nat) b2 []), (Key.loc (3 : Nat) (0 : Nat), (0 : Nat), B.box (24 : Nat) b3 [])] }
abbrev f22_x5_r (s4 : Int) (b2 : List C) (b3 : List C) : St := { t := [((4 : Nat), V.one (A.c (C.int IntKind.i64 s4)))], h := [(Key.loc (2 : Nat) (0 : Nat), (0 : Nat), B.box (24 : Nat) b2 []), (Key.loc (3 : Nat) (0 : Nat), (0 : Nat), B.box (24 : Nat) b3 [])] }
abbrev f22_x5_2 (s7 : Int) (b2 : List C) (b3 : List C) : St := { t := [((2 : Nat), V.one (A.ptr (Key.loc (2 : Nat) (0 : Nat)) (0 : Nat) (0 : Nat))), ((3 : Nat), V.one (A.ptr (Key.loc (3 : Nat) (0 : Nat)) (0 : Nat) (0 : Nat))), ((7 : Nat), V.one (A.c (C.int IntKind.i64 s7)))], h := [(Key.loc (2 : Nat) (0 : Nat), (0 : Nat), B.box (24 : Nat) b2 []), (Key.loc (3 : Nat) (0 : Nat), (0 : Nat), B.box (24 : Nat) b3 [])] }
abbrev f22_x2_0 (b2 : List C) (b3 : List C) : St := { t := [], h := [(Key.loc (2 : Nat) (0 : Nat), (0 : Nat), B.box (24 : Nat) b2 []), (Key.loc (3 : Nat) (0 : Nat), (0 : Nat), B.box (24 : Nat) b3 [])] }
abbrev f22_x2_r (s4 : Int) (b2 : List C) (b3 : List C) : St := { t := [((4 : Nat), V.one (A.c (C.int IntKind.i64 s4)))], h := [(Key.loc (2 : Nat) (0 : Nat), (0 : Nat), B.box (24 : Nat) b2 []), (Key.loc (3 : Nat) (0 : Nat), (0 : Nat), B.box (24 : Nat) b3 [])] }
theorem f22_t2 (n m : Nat) (k : X → St → Option R) (s7 : Int) (b2 : List C) (b3 : List C) : evLoop false (f22_s2 n) (m + 1) (f22_h2 s7 b2 b3) k = bcond (decide (s7 < (16 : Int))) (evLoop false (f22_s5 n) n (f22_h5 (s7) ((7 : Int)) (s7) (b2) (b3)) (f22_k5 n m k)) (k (X.exit 0) (f22_x2_0 (b2) (b3))) := by kernel_rfl
theorem f22_t5 (n m : Nat) (k : X → St → Option R) (s5 : Int) (s6 : Int) (s7 : Int) (b2 : List C) (b3 : List C) : evLoop false (f22_s5 n) (m + 1) (f22_h5 s5 s6 s7 b2 b3) k = bcond (decide (s6 ≥ (0 : Int))) (bcond (inB s5 (16 : Nat)) (bcond (inB s5 (16 : Nat)) (bcond (decide (s6 < (0 : Int))) (none) (bcond (iand IntKind.u8 (ishr IntKind.u8 (ixor IntKind.u8 (cl b2 ((0 : Nat) + s5.toNat * (1 : Nat))).toI (cl b3 ((0 : Nat) + s5.toNat * (1 : Nat))).toI) s6) (1 : Int) == (1 : Int)) (k X.ret (f22_x5_r (IntKind.i64.wrap (IntKind.i64.wrap (IntKind.i64.wrap ((8 : Int) * s5) + (7 : Int)) - s6)) (b2) (b3))) (evLoop false (f22_s5 n) m (f22_h5 (s5) (IntKind.i64.wrap (s6 - (1 : Int))) (s7) (b2) (b3)) k))) (none)) (none)) (k (X.exit 2) (f22_x5_2 (s7) (b2) (b3))) := by kernel_rfl
theorem f22_a5_r (n m : Nat) (k : X → St → Option R) (s4 : Int) (b2 : List C) (b3 : List C) : f22_k5 n m k X.ret (f22_x5_r s4 b2 b3) = k X.ret (f22_x2_r (s4) (b2) (b3)) := by kernel_rfl
theorem f22_a5_2 (n m : Nat) (k : X → St → Option R) (s7 : Int) (b2 : List C) (b3 : List C) : f22_k5 n m k (X.exit 2) (f22_x5_2 s7 b2 b3) = evLoop false (f22_s2 n) m (f22_h2 (IntKind.i64.wrap (s7 + (1 : Int))) (b2) (b3)) k := by kernel_rfl
theorem f22_a2_0 (n : Nat) (b2 : List C) (b3 : List C) : f22_k2 n (X.exit 0) (f22_x2_0 b2 b3) = some ((V.one (A.c (C.int IntKind.i64 (128 : Int))), [])) := by kernel_rfl
theorem f22_a2_r (n : Nat) (s4 : Int) (b2 : List C) (b3 : List C) : f22_k2 n X.ret (f22_x2_r s4 b2 b3) = some ((V.one (A.c (C.int IntKind.i64 s4)), [])) := by kernel_rfl
theorem f22_eq (n : Nat) (x : List C) (y : List C) : evFn tab nF nO false lv22 false n Try.f22 [.agg 24 x [], .agg 24 y []] [] = evLoop false (f22_s2 n) n (f22_h2 ((0 : Int)) (x) (y)) (f22_k2 n) := by kernel_rfl


/-- The first place from i on, among d, where p holds. -/
def srch (p : Nat → Bool) : Nat → Nat → Option Nat
  | 0, _ => none
  | d + 1, i => match p i with | true => some i | false => srch p d (i + 1)
theorem srch_add (p : Nat → Bool) (e : Nat) : ∀ d i, srch p (d + e) i = match srch p d i with | some t => some t | none => srch p e (i + d)
  | 0, i => by rw [Nat.zero_add]; rfl
  | d + 1, i => by
    rw [show d + 1 + e = d + e + 1 from by omega]
    simp only [srch]
    cases p i with
    | true => rfl
    | false =>
      simp only
      rw [srch_add p e d (i + 1), show i + 1 + d = i + (d + 1) from by omega]
theorem srch_congr {p q : Nat → Bool} : ∀ d i, (∀ j, i ≤ j → j < i + d → p j = q j) → srch p d i = srch q d i
  | 0, _, _ => rfl
  | d + 1, i, h => by
    simp only [srch]
    rw [h i (Nat.le_refl _) (by omega), srch_congr d (i + 1) fun j h1 h2 => h j (by omega) (by omega)]
theorem srch_rng {p : Nat → Bool} : ∀ {d i t : Nat}, srch p d i = some t → i ≤ t ∧ t < i + d ∧ p t = true ∧ ∀ j, i ≤ j → j < t → p j = false
  | d + 1, i, t, h => by
    simp only [srch] at h
    cases hp : p i with
    | true =>
      rw [hp] at h
      cases h
      exact ⟨Nat.le_refl _, by omega, hp, fun j h1 h2 => by omega⟩
    | false =>
      rw [hp] at h
      obtain ⟨h1, h2, h3, h4⟩ := srch_rng (d := d) h
      refine ⟨by omega, by omega, h3, fun j h5 h6 => ?_⟩
      rcases Nat.eq_or_lt_of_le h5 with h7 | h7
      · rw [← h7]; exact hp
      · exact h4 j h7 h6
/-- Byte i. -/
def by8 (x : List C) (i : Nat) : Int := (cl x i).toI
/-- Do the bits at i differ? -/
def dif (x y : List C) (i : Nat) : Bool := iand .u8 (ishr .u8 (ixor .u8 (by8 x (i / 8)) (by8 y (i / 8))) ((7 - i % 8 : Nat) : Int)) 1 == 1
@[irreducible] def shN (x y : List C) : Int := match srch (dif x y) 128 0 with | some t => (t : Int) | none => 128
theorem f22_L5 (n : Nat) (k : X → St → Option R) (x y : List C) (i : Nat) (hi : i < 16) : ∀ (j m : Nat), j ≤ 8 → 8 - j < m →
    evLoop false (f22_s5 n) m (f22_h5 (i : Int) ((7 : Int) - (j : Int)) (i : Int) x y) k = match srch (dif x y) (8 - j) (8 * i + j) with
      | some t => k .ret (f22_x5_r (t : Int) x y) | none => k (.exit 2) (f22_x5_2 (i : Int) x y) := by
  intro j
  induction hd : 8 - j generalizing j with
  | zero =>
    intro m hj hm
    obtain ⟨m, rfl⟩ : ∃ g, m = g + 1 := ⟨m - 1, by omega⟩
    rw [f22_t5, bcond_no (by rw [decide_eq_false_iff_not]; omega)]
    rfl
  | succ d ih =>
    intro m hj hm
    obtain ⟨m, rfl⟩ : ∃ g, m = g + 1 := ⟨m - 1, by omega⟩
    have e1 : (7 : Int) - (j : Int) = ((7 - j : Nat) : Int) := by omega
    have e2 : (8 * i + j) / 8 = i := by omega
    have e3 : (8 * i + j) % 8 = j := by omega
    have e4 : IntKind.i64.wrap (IntKind.i64.wrap (IntKind.i64.wrap ((8 : Int) * (i : Int)) + 7) - ((7 - j : Nat) : Int)) = ((8 * i + j : Nat) : Int) := by
      rw [wrap_ok (a := (8 : Int) * (i : Int)) (by omega) (by omega), wrap_ok (a := (8 : Int) * (i : Int) + 7) (by omega) (by omega), wrap_ok (by omega) (by omega)]
      omega
    have e5 : IntKind.i64.wrap (((7 - j : Nat) : Int) - 1) = (7 : Int) - ((j + 1 : Nat) : Int) := by
      rw [wrap_ok (by omega) (by omega)]; omega
    have hp : dif x y (8 * i + j) = (iand .u8 (ishr .u8 (ixor .u8 (cl x (0 + (i : Int).toNat * 1)).toI (cl y (0 + (i : Int).toNat * 1)).toI) ((7 - j : Nat) : Int)) 1 == 1) := by
      unfold dif by8
      rw [e2, e3, Int.toNat_natCast, Nat.zero_add, Nat.mul_one]
    have hin : inB (i : Int) 16 = true := by rw [inB_nat]; simpa using hi
    rw [e1, f22_t5, bcond_of (by rw [decide_eq_true_eq]; omega), hin, bcond_t, bcond_t, bcond_no (by rw [decide_eq_false_iff_not]; omega), ← hp, e4, e5]
    simp only [srch]
    cases dif x y (8 * i + j) with
    | true => rfl
    | false => exact ih (j + 1) (by omega) m (by omega) (by omega)
theorem f22_L2 (n : Nat) (hn : 20 < n) (k : X → St → Option R) (x y : List C) : ∀ (i m : Nat), i ≤ 16 → 16 - i < m →
    evLoop false (f22_s2 n) m (f22_h2 (i : Int) x y) k = match srch (dif x y) (8 * (16 - i)) (8 * i) with
      | some t => k .ret (f22_x2_r (t : Int) x y) | none => k (.exit 0) (f22_x2_0 x y) := by
  intro i
  induction hd : 16 - i generalizing i with
  | zero =>
    intro m hi hm
    obtain ⟨m, rfl⟩ : ∃ g, m = g + 1 := ⟨m - 1, by omega⟩
    rw [f22_t2, bcond_no (by rw [decide_eq_false_iff_not]; omega)]
    rfl
  | succ d ih =>
    intro m hi hm
    obtain ⟨m, rfl⟩ : ∃ g, m = g + 1 := ⟨m - 1, by omega⟩
    rw [f22_t2, bcond_of (by rw [decide_eq_true_eq]; omega)]
    have L := f22_L5 n (f22_k5 n m k) x y i (by omega) 0 n (by omega) (by omega)
    rw [show (7 : Int) - ((0 : Nat) : Int) = 7 from rfl] at L
    rw [L, show 8 * (d + 1) = 8 + 8 * d from by omega, srch_add, Nat.sub_zero, Nat.add_zero]
    cases srch (dif x y) 8 (8 * i) with
    | some t => exact f22_a5_r n m k _ x y
    | none =>
      refine (f22_a5_2 n m k _ x y).trans ?_
      rw [wrap_succ (by omega)]
      exact ih (i + 1) (by omega) m (by omega) (by omega)
theorem f22_out (n : Nat) (hn : 20 < n) (x y : List C) : evFn tab nF nO false lv22 false n Try.f22 [.agg 24 x [], .agg 24 y []] [] = some (.one (.c (.int .i64 (shN x y))), []) := by
  rw [f22_eq]
  refine (f22_L2 n hn _ x y 0 n (by omega) (by omega)).trans ?_
  unfold shN
  show (match srch (dif x y) 128 0 with | some t => _ | none => _) = _
  cases srch (dif x y) 128 0 with
  | some t => exact f22_a2_r n _ x y
  | none => exact f22_a2_0 n x y

end Go.Proofs.Ytdcdccdhdingbaa
