/- Pa -/
import Derived.Test.YtnbiincgplkmbaaGd
import Derived.KernelRfl
namespace Go.Proofs.Ytnbiincgplkmbaa
open Go Go.Eng
set_option maxRecDepth 100000
/-! The plain law: what is encoded is decoded. -/
theorem numB_cons (b : UInt8) (l : List UInt8) : numB (b :: l) = (b.toNat : Int) * (256 : Int) ^ l.length + numB l := by
  have key : ∀ (l : List UInt8) (x : Int), l.foldl (fun x b => x * 256 + (b.toNat : Int)) x = x * (256 : Int) ^ l.length + l.foldl (fun x b => x * 256 + (b.toNat : Int)) 0 := by
    intro l
    induction l with
    | nil => intro x; simp
    | cons b l ih =>
      intro x
      rw [List.foldl_cons, List.foldl_cons, ih, ih (0 * 256 + (b.toNat : Int)), List.length_cons, Int.pow_succ]
      have : (x * 256 + (b.toNat : Int)) * (256 : Int) ^ l.length = x * ((256 : Int) ^ l.length * 256) + (b.toNat : Int) * (256 : Int) ^ l.length := by
        rw [Int.add_mul, Int.mul_comm ((256 : Int) ^ l.length) 256, Int.mul_assoc]
      rw [this]
      simp only [Int.zero_mul, Int.zero_add]
      omega
  unfold numB
  rw [List.foldl_cons, key]
  simp
theorem u8_toNat (z : Int) : ((u8 z).toNat : Int) = z % 256 := by
  have h0 : 0 ≤ z % 256 := Int.emod_nonneg _ (by decide)
  have h1 : z % 256 < 256 := Int.emod_lt_of_pos _ (by decide)
  unfold u8
  rw [UInt8.toNat_ofNat']
  omega
theorem numB_putB : ∀ (n : Nat) (x : Int), numB (putB n x) = x % (256 : Int) ^ n
  | 0, x => by simp [putB, numB]
  | n + 1, x => by
    rw [putB, numB_cons, putB_len, numB_putB n x, u8_toNat, Int.pow_succ]
    have hp : (0 : Int) < (256 : Int) ^ n := Int.pow_pos (by decide)
    generalize (256 : Int) ^ n = p at hp
    have h1 := Int.emod_add_mul_ediv x p
    have h2 := Int.emod_add_mul_ediv (x / p) 256
    have h3 : x / p / 256 = x / (p * 256) := Int.ediv_ediv_of_nonneg (Int.le_of_lt hp)
    have h4 := Int.emod_add_mul_ediv x (p * 256)
    have e1 : p * (x / p) = p * (x / p % 256) + p * 256 * (x / (p * 256)) := by
      rw [← h3]
      conv => lhs; rw [← h2]
      rw [Int.mul_add, Int.mul_assoc]
    rw [Int.mul_comm (x / p % 256) p]
    omega
theorem numB_one (b : UInt8) : numB [b] = (b.toNat : Int) := by simp [numB]
theorem u8_mod (z : Int) : u8 (z % 256) = u8 z := by unfold u8; rw [Int.emod_emod_of_dvd _ (Int.dvd_refl _)]
theorem putB_1 (x : Int) : putB 1 x = [u8 x] := by simp [putB]
theorem putB_2 (x : Int) : putB 2 x = [u8 (x / 256), u8 x] := by simp [putB]
theorem putB_4 (x : Int) : putB 4 x = [u8 (x / 16777216), u8 (x / 65536), u8 (x / 256), u8 x] := by simp [putB]
theorem putB_1m (x : Int) : putB 1 (x % 256) = putB 1 x := by rw [putB_1, putB_1, u8_mod]
theorem putB_2m (x : Int) : putB 2 (x % 65536) = putB 2 x := by
  rw [putB_2, putB_2, ← u8_mod (x % 65536 / 256), ← u8_mod (x % 65536), ← u8_mod (x / 256), ← u8_mod x]
  rw [show x % 65536 / 256 % 256 = x / 256 % 256 from by omega, show x % 65536 % 256 = x % 256 from by omega]
theorem putB_4m (x : Int) : putB 4 (x % 4294967296) = putB 4 x := by
  rw [putB_4, putB_4, ← u8_mod (x % 4294967296 / 16777216), ← u8_mod (x % 4294967296 / 65536), ← u8_mod (x % 4294967296 / 256), ← u8_mod (x % 4294967296), ← u8_mod (x / 16777216), ← u8_mod (x / 65536), ← u8_mod (x / 256), ← u8_mod x]
  rw [show x % 4294967296 / 16777216 % 256 = x / 16777216 % 256 from by omega, show x % 4294967296 / 65536 % 256 = x / 65536 % 256 from by omega, show x % 4294967296 / 256 % 256 = x / 256 % 256 from by omega, show x % 4294967296 % 256 = x % 256 from by omega]
theorem drop_app {α : Type} {A B : List α} {n : Nat} (h : A.length = n) : (A ++ B).drop n = B := by rw [← h, List.drop_left]
theorem take_app {α : Type} {A B : List α} {n : Nat} (h : A.length = n) : (A ++ B).take n = A := by rw [← h, List.take_left]
theorem size_list (s : ByteArray) : s.data.toList.length = s.size := rfl
theorem mkS_list (s : ByteArray) : mkS s.data.toList = s := rfl
theorem texB_tl (s : ByteArray) (h : s.size ≤ 255) (r : List UInt8) : tl (texB s ++ r) = s.size := by
  unfold tl texB
  rw [List.cons_append, List.take_succ_cons, List.take_zero, numB_one, u8_toNat]
  omega
theorem texB_tx (s : ByteArray) (h : s.size ≤ 255) (r : List UInt8) : tx (texB s ++ r) = s.data.toList := by
  unfold tx
  rw [texB_tl s h]
  unfold texB
  rw [List.cons_append, List.drop_succ_cons, List.drop_zero, take_app (size_list s)]
theorem texB_tr (s : ByteArray) (h : s.size ≤ 255) (r : List UInt8) : tr (texB s ++ r) = r := by
  unfold tr
  rw [texB_tl s h]
  unfold texB
  rw [List.cons_append, List.drop_succ_cons, List.drop_zero, drop_app (size_list s)]
theorem cutS_id {s : ByteArray} (h : s.size ≤ 255) : cutS s = s := by
  unfold cutS strCut
  rw [if_neg (by omega), Int.toNat_natCast]
  exact ByteArray.extract_zero_size
theorem cutS_cutS (s : ByteArray) : cutS (cutS s) = cutS s := cutS_id (cutS_len s)
/-! Addresses. -/
theorem byC_c8 (b : UInt8) : byC (c8 b) = b := by
  simp only [byC, c8, C.toI, Int.toNat_natCast]
  exact UInt8.ofNat_toNat
theorem isC8_c8 (b : UInt8) : isC8 (c8 b) = true := by
  have := b.toNat_lt
  simp only [isC8, c8, Bool.and_eq_true, decide_eq_true_eq]
  omega
theorem adr_app {A : List UInt8} (h : A.length = 16) (r : List UInt8) : adr (A ++ r) = A.map c8 := by
  unfold adr
  rw [take_app h, h, Nat.sub_self]
  simp
theorem adr_c8 (l : List UInt8) : ∀ c ∈ adr l, isC8 c = true := fun c hc => by
  unfold adr at hc
  rcases List.mem_append.1 hc with hc | hc
  · obtain ⟨b, _, rfl⟩ := List.mem_map.1 hc
    exact isC8_c8 b
  · rw [List.eq_of_mem_replicate hc]
    rfl
theorem map_byC (A : List UInt8) : (A.map c8).map byC = A := by
  rw [List.map_map]
  conv => rhs; rw [← List.map_id A]
  exact List.map_congr_left fun b _ => byC_c8 b
theorem adB_of {A : List UInt8} (h : A.length = 16) (r : List C) : adB (A.map c8 ++ r) = A := by
  unfold adB sub
  rw [List.drop_zero, take_app (by rw [List.length_map]; exact h), map_byC]
/-! One event's head. -/
theorem hd_all : ∀ a b : Fin 8, ∀ d : Fin 4, ior .i64 (ior .i64 (a.val : Int) (ishl .i64 (b.val : Int) 3)) (ishl .i64 (d.val : Int) 6) = a.val + 8 * b.val + 64 * d.val := by decide +kernel
theorem hd_eq {a b d : Int} (h0 : 0 ≤ a) (h1 : a < 8) (h2 : 0 ≤ b) (h3 : b < 8) (h4 : 0 ≤ d) (h5 : d < 4) : ior .i64 (ior .i64 a (ishl .i64 b 3)) (ishl .i64 d 6) = a + 8 * b + 64 * d := by
  have := hd_all ⟨a.toNat, by omega⟩ ⟨b.toNat, by omega⟩ ⟨d.toNat, by omega⟩
  simp only [Int.toNat_of_nonneg h0, Int.toNat_of_nonneg h2, Int.toNat_of_nonneg h4] at this
  exact this
theorem hdZ_eq (x : List C) {d : Int} (h4 : 0 ≤ d) (h5 : d < 4) : hdZ x d = (cl x 0).toI % 8 + 8 * ((cl x 1).toI % 8) + 64 * d := by
  unfold hdZ kdE
  rw [iand_7, iand_7]
  exact hd_eq (Int.emod_nonneg _ (by decide)) (Int.emod_lt_of_pos _ (by decide)) (Int.emod_nonneg _ (by decide)) (Int.emod_lt_of_pos _ (by decide)) h4 h5
theorem b1_cons (z : Int) (r : List UInt8) (h0 : 0 ≤ z) (h1 : z < 256) : b1 (u8 z :: r) = z := by
  unfold b1
  rw [List.take_succ_cons, List.take_zero, numB_one, u8_toNat]
  omega
theorem head_of (x : List C) {d : Int} (h4 : 0 ≤ d) (h5 : d < 4) (r : List UInt8) :
    kdB (u8 (hdZ x d) :: r) = (cl x 0).toI % 8 ∧ lkB (u8 (hdZ x d) :: r) = (cl x 1).toI % 8 ∧ drB (u8 (hdZ x d) :: r) = d := by
  have a0 : 0 ≤ (cl x 0).toI % 8 := Int.emod_nonneg _ (by decide)
  have a1 : (cl x 0).toI % 8 < 8 := Int.emod_lt_of_pos _ (by decide)
  have c0 : 0 ≤ (cl x 1).toI % 8 := Int.emod_nonneg _ (by decide)
  have c1 : (cl x 1).toI % 8 < 8 := Int.emod_lt_of_pos _ (by decide)
  have hb := b1_cons (hdZ x d) r (by rw [hdZ_eq x h4 h5]; omega) (by rw [hdZ_eq x h4 h5]; omega)
  have s3 := ishr_nat (hdZ x d) 3 (by decide)
  have s6 := ishr_nat (hdZ x d) 6 (by decide)
  unfold kdB lkB drB
  rw [hb, iand_7, iand_7]
  rw [show ((3 : Nat) : Int) = 3 from rfl] at s3
  rw [show ((6 : Nat) : Int) = 6 from rfl] at s6
  rw [s3, s6, hdZ_eq x h4 h5]
  refine ⟨by omega, ?_, ?_⟩
  · show (_ / (8 : Int)) % 8 = _
    omega
  · show _ / (64 : Int) = _
    omega

end Go.Proofs.Ytnbiincgplkmbaa
