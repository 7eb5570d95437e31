/- Wc -/
import Derived.Test.YtdcdccdhdingbaaWb
import Derived.KernelRfl
namespace Go.Proofs.Ytdcdccdhdingbaa
open Go Go.Eng
set_option maxRecDepth 100000
/-! ### Bytes and bits -/
theorem ofInt8 (a : Nat) : BitVec.ofInt 8 (a : Int) = BitVec.ofNat 8 a := by
  apply BitVec.eq_of_toNat_eq
  rw [BitVec.toNat_ofInt, BitVec.toNat_ofNat]
  omega
theorem ixor_nat {a b : Nat} (ha : a < 256) (hb : b < 256) : ixor .u8 (a : Int) (b : Int) = ((a ^^^ b : Nat) : Int) := by
  have hx : a ^^^ b < 256 := Nat.xor_lt_two_pow (n := 8) ha hb
  show IntKind.u8.wrap (((BitVec.ofInt 8 (a : Int) ^^^ BitVec.ofInt 8 (b : Int)).toNat : Nat) : Int) = _
  rw [ofInt8, ofInt8, BitVec.toNat_xor, BitVec.toNat_ofNat, BitVec.toNat_ofNat, Nat.mod_eq_of_lt ha, Nat.mod_eq_of_lt hb]
  exact u8_nat hx
theorem ishr8_nat (a r : Nat) (hr : r ≤ 8) : ishr .u8 (a : Int) (r : Int) = ((a / 2 ^ r : Nat) : Int) := by
  show ((a : Nat) : Int).fdiv (2 ^ min (r : Int).toNat 8) = _
  rw [Int.toNat_natCast, Nat.min_eq_left hr, Int.fdiv_eq_ediv_of_nonneg _ (by
    have : (0 : Int) ≤ ((2 ^ r : Nat) : Int) := Int.natCast_nonneg _
    simpa using this)]
  simp
theorem iand8_1 {a : Nat} (ha : a < 256) : iand .u8 (a : Int) 1 = ((a % 2 : Nat) : Int) := by
  show IntKind.u8.wrap (((BitVec.ofInt 8 (a : Int) &&& BitVec.ofInt 8 ((1 : Nat) : Int)).toNat : Nat) : Int) = _
  rw [ofInt8, ofInt8, BitVec.toNat_and, BitVec.toNat_ofNat, BitVec.toNat_ofNat, Nat.mod_eq_of_lt ha, show (1 : Nat) % 2 ^ 8 = 1 from rfl, Nat.and_one_is_mod]
  exact u8_nat (by omega)
theorem bit_nat {a r : Nat} (ha : a < 256) (hr : r ≤ 8) : iand .u8 (ishr .u8 (a : Int) (r : Int)) 1 = (((a.testBit r).toNat : Nat) : Int) := by
  have hd : a / 2 ^ r < 256 := Nat.lt_of_le_of_lt (Nat.div_le_self ..) ha
  rw [ishr8_nat a r hr, iand8_1 hd, Nat.testBit_eq_decide_div_mod_eq]
  rcases Nat.mod_two_eq_zero_or_one (a / 2 ^ r) with h | h <;> simp [h]
theorem by8_u16 {l : List Nat} (hb : ∀ m ∈ l, m < 256) {i : Nat} (hi : i < l.length) : by8 (u16 l) i = ((l.getD i 0 : Nat) : Int) ∧ l.getD i 0 < 256 := by
  refine ⟨?_, ?_⟩
  · unfold by8 cl u16
    rw [List.getD_eq_getElem?_getD, List.getElem?_map, List.getD_eq_getElem?_getD, List.getElem?_eq_getElem hi]
    rfl
  · rw [List.getD_eq_getElem?_getD, List.getElem?_eq_getElem hi]
    exact hb _ (List.getElem_mem hi)
/-- Do the bits at t differ? -/
def db (a b : List Nat) (t : Nat) : Bool := (a.getD (t / 8) 0 ^^^ b.getD (t / 8) 0).testBit (7 - t % 8)
theorem dif_db {a b : List Nat} (ha : a.length = 16) (hb : b.length = 16) (ha2 : ∀ m ∈ a, m < 256) (hb2 : ∀ m ∈ b, m < 256) {t : Nat} (ht : t < 128) : dif (u16 a) (u16 b) t = db a b t := by
  obtain ⟨x1, x2⟩ := by8_u16 ha2 (i := t / 8) (by omega)
  obtain ⟨y1, y2⟩ := by8_u16 hb2 (i := t / 8) (by omega)
  have hx : a.getD (t / 8) 0 ^^^ b.getD (t / 8) 0 < 256 := Nat.xor_lt_two_pow (n := 8) x2 y2
  unfold dif db
  rw [x1, y1, ixor_nat x2 y2, bit_nat hx (by omega)]
  cases (a.getD (t / 8) 0 ^^^ b.getD (t / 8) 0).testBit (7 - t % 8) <;> rfl
theorem bdif_db {a b : List Nat} (ha : a.length = 16) (hb : b.length = 16) (ha2 : ∀ m ∈ a, m < 256) (hb2 : ∀ m ∈ b, m < 256) {t : Nat} (ht : t < 128) : bdif (u16 a) (u16 b) t = db a b t := by
  obtain ⟨x1, x2⟩ := by8_u16 ha2 (i := t / 8) (by omega)
  obtain ⟨y1, y2⟩ := by8_u16 hb2 (i := t / 8) (by omega)
  unfold bdif bitR db
  rw [x1, y1, bit_nat x2 (by omega), bit_nat y2 (by omega), Nat.testBit_xor]
  cases (a.getD (t / 8) 0).testBit (7 - t % 8) <;> cases (b.getD (t / 8) 0).testBit (7 - t % 8) <;> rfl
theorem shR_eq {x y : List C} (hx : A8 x) (hy : A8 y) : shN x y = shR x y := by
  obtain ⟨a, h1, h2, rfl⟩ := hx
  obtain ⟨b, h3, h4, rfl⟩ := hy
  unfold shN shR
  rw [srch_congr (p := dif (u16 a) (u16 b)) (q := bdif (u16 a) (u16 b)) 128 0 fun j _ hj => by rw [dif_db h1 h3 h2 h4 (by omega), bdif_db h1 h3 h2 h4 (by omega)]]
  cases srch (bdif (u16 a) (u16 b)) 128 0 <;> rfl
theorem srch_none {p : Nat → Bool} : ∀ (d i : Nat), (srch p d i).isNone = (List.range' i d).all fun t => !p t
  | 0, _ => rfl
  | d + 1, i => by
    rw [List.range'_succ, List.all_cons]
    simp only [srch]
    cases p i with
    | true => rfl
    | false => simpa using srch_none d (i + 1)
/-- Are the first n bits alike? -/
def pre (a b : List Nat) (n : Nat) : Bool := (List.range' 0 n).all fun t => !db a b t
theorem shN_ge {a b : List Nat} (ha : a.length = 16) (hb : b.length = 16) (ha2 : ∀ m ∈ a, m < 256) (hb2 : ∀ m ∈ b, m < 256) {n : Nat} (hn : n ≤ 128) : decide (shN (u16 a) (u16 b) ≥ (n : Int)) = pre a b n := by
  unfold shN pre
  rw [srch_congr (p := dif (u16 a) (u16 b)) (q := db a b) 128 0 fun j _ hj => dif_db ha hb ha2 hb2 (by omega), ← srch_none, show 128 = n + (128 - n) from by omega, srch_add]
  cases h : srch (db a b) n 0 with
  | some t =>
    have := srch_rng h
    simp only [Option.isNone_some, decide_eq_false_iff_not]
    omega
  | none =>
    simp only [Option.isNone_none, decide_eq_true_eq]
    cases h2 : srch (db a b) (128 - n) (0 + n) with
    | some t =>
      have := srch_rng h2
      simp only
      omega
    | none => simp only; omega
theorem byte_all : ∀ a : Fin 256, ((List.range 8).all fun r => !(a.val.testBit (7 - r))) = (a.val == 0) := by decide +kernel
theorem byte_eq {a b : Nat} (ha : a < 256) (hb : b < 256) : ((List.range 8).all fun r => !((a ^^^ b).testBit (7 - r))) = (a == b) := by
  have h := byte_all ⟨a ^^^ b, Nat.xor_lt_two_pow (n := 8) ha hb⟩
  simp only at h
  rw [h]
  by_cases hc : a = b
  · subst hc; simp
  · rw [beq_eq_false_iff_ne.2 hc, beq_eq_false_iff_ne]
    intro h0
    exact hc (Nat.eq_of_testBit_eq fun i => by
      have h1 := congrArg (fun m => m.testBit i) h0
      simp only [Nat.testBit_xor, Nat.zero_testBit] at h1
      revert h1
      cases a.testBit i <;> cases b.testBit i <;> simp)

end Go.Proofs.Ytdcdccdhdingbaa
