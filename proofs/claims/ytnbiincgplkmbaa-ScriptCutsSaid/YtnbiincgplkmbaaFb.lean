/- Fb -/
import Derived.Test.YtnbiincgplkmbaaFa
import Derived.KernelRfl
namespace Go.Proofs.Ytnbiincgplkmbaa
open Go Go.Eng
set_option maxRecDepth 100000
/-! Bytes, as rows of one cell. -/
def B1 (b : UInt8) : List C := [C.int .u8 b.toNat]
def toB (l : List UInt8) : List (List C) := l.map B1
def unB (xs : List (List C)) : List UInt8 := xs.map Eng.byteOf
def isRow : List C → Bool
  | [.int .u8 n] => decide (0 ≤ n) && decide (n ≤ 255)
  | _ => false
def isB (xs : List (List C)) : Bool := xs.all isRow
theorem byteOf_B1 (b : UInt8) : Eng.byteOf (B1 b) = b := by
  simp only [Eng.byteOf, B1, cl, List.getD_eq_getElem?_getD, List.getElem?_cons_zero, Option.getD_some, C.toI, Int.toNat_natCast]
  exact UInt8.ofNat_toNat
theorem isRow_B1 (b : UInt8) : isRow (B1 b) = true := by
  have := b.toNat_lt
  simp only [isRow, B1, Bool.and_eq_true, decide_eq_true_eq]
  omega
theorem isRow_eq {x : List C} (h : isRow x = true) : x = B1 (Eng.byteOf x) := by
  unfold isRow at h
  split at h
  · rename_i n
    rw [Bool.and_eq_true, decide_eq_true_eq, decide_eq_true_eq] at h
    simp only [B1, Eng.byteOf, cl, List.getD_eq_getElem?_getD, List.getElem?_cons_zero, Option.getD_some, C.toI, UInt8.toNat_ofNat']
    congr 2
    omega
  · cases h
theorem unB_toB (l : List UInt8) : unB (toB l) = l := by
  unfold unB toB
  rw [List.map_map]
  conv => rhs; rw [← List.map_id l]
  exact List.map_congr_left fun b _ => byteOf_B1 b
theorem isB_toB (l : List UInt8) : isB (toB l) = true := by
  unfold isB toB
  rw [List.all_eq_true]
  intro x hx
  obtain ⟨b, _, rfl⟩ := List.mem_map.1 hx
  exact isRow_B1 b
theorem isB_eq {xs : List (List C)} (h : isB xs = true) : xs = toB (unB xs) := by
  unfold isB at h
  rw [List.all_eq_true] at h
  unfold toB unB
  rw [List.map_map]
  conv => lhs; rw [← List.map_id xs]
  exact List.map_congr_left fun x hx => isRow_eq (h x hx)
theorem toB_len (l : List UInt8) : (toB l).length = l.length := List.length_map ..
theorem toB_take (l : List UInt8) (n : Nat) : (toB l).take n = toB (l.take n) := (List.map_take ..).symm
theorem toB_drop (l : List UInt8) (n : Nat) : (toB l).drop n = toB (l.drop n) := (List.map_drop ..).symm
theorem toB_app (l k : List UInt8) : toB l ++ toB k = toB (l ++ k) := List.map_append.symm
theorem toB_get {l : List UInt8} {i : Nat} {b : UInt8} (h : l[i]? = some b) : (toB l)[i]? = some (B1 b) := by
  unfold toB
  rw [List.getElem?_map, h]
  rfl

/-- A number, the greatest byte first. -/
def numB (l : List UInt8) : Int := l.foldl (fun x b => x * 256 + (b.toNat : Int)) 0
theorem num_step {x : Int} {c : Nat} (h0 : 0 ≤ x) (h1 : x < 18014398509481984) (hc : c < 256) : ior .i64 (ishl .i64 x 8) (IntKind.i64.wrap (c : Int)) = x * 256 + (c : Int) := by
  have e1 : ishl .i64 x 8 = x * 256 := by
    show IntKind.i64.wrap (x * 2 ^ min (8 : Int).toNat 64) = _
    have : (2 : Int) ^ min (8 : Int).toNat 64 = 256 := by decide
    rw [this]
    exact wrap_ok (by omega) (by omega)
  rw [e1, wrap_ok (by omega) (by omega)]
  obtain ⟨y, rfl⟩ : ∃ y : Nat, x = (y : Int) := ⟨x.toNat, by omega⟩
  have e2 : (BitVec.ofInt 64 ((y : Int) * 256) ||| BitVec.ofInt 64 (c : Int)).toNat = y * 256 + c := by
    rw [BitVec.toNat_or, BitVec.toNat_ofInt, BitVec.toNat_ofInt]
    have a1 : ((y : Int) * 256 % ((2 ^ 64 : Nat) : Int)).toNat = y * 256 := by
      have h64 : (2 : Nat) ^ 64 = 18446744073709551616 := by decide
      rw [h64]
      omega
    have a2 : ((c : Int) % ((2 ^ 64 : Nat) : Int)).toNat = c := by
      have h64 : (2 : Nat) ^ 64 = 18446744073709551616 := by decide
      rw [h64]
      omega
    rw [a1, a2]
    have := Nat.shiftLeft_add_eq_or_of_lt (b := c) (i := 8) (by simpa using hc) y
    rw [Nat.shiftLeft_eq] at this
    exact this.symm
  show IntKind.i64.wrap ((BitVec.ofInt 64 ((y : Int) * 256) ||| BitVec.ofInt 64 (c : Int)).toNat : Int) = _
  rw [e2, wrap_ok (by omega) (by omega)]
  omega
theorem numB_rng : ∀ (l : List UInt8) (x : Int), 0 ≤ x → 0 ≤ l.foldl (fun x b => x * 256 + (b.toNat : Int)) x ∧ l.foldl (fun x b => x * 256 + (b.toNat : Int)) x < (x + 1) * (256 : Int) ^ l.length
  | [], x, h => by simp; omega
  | b :: l, x, h => by
    have hb := b.toNat_lt
    obtain ⟨h1, h2⟩ := numB_rng l (x * 256 + (b.toNat : Int)) (by omega)
    rw [List.foldl_cons, List.length_cons]
    refine ⟨h1, Int.lt_of_lt_of_le h2 ?_⟩
    rw [Int.pow_succ, Int.mul_comm ((256 : Int) ^ l.length) 256, ← Int.mul_assoc]
    exact Int.mul_le_mul_of_nonneg_right (by omega) (Int.le_of_lt (Int.pow_pos (by decide)))
theorem cell8 (b : UInt8) : (cl (B1 b) 0).toI = (b.toNat : Int) := rfl

theorem f17_L (n : Nat) (k : X → St → Option R) (l : List UInt8) (e : List (List C)) (hl : l.length ≤ 7) (m : Nat) (hm : l.length < m) :
    evLoop false (f17_s3 n) m (f17_h3 0 (toB l) l.length 0 e) k = k (X.exit 0) (f17_x3_0 (numB l) e) := by
  have hpow : ∀ i, i ≤ 6 → ((256 : Int) ^ i) ≤ 281474976710656 := fun i hi => by
    have : i = 0 ∨ i = 1 ∨ i = 2 ∨ i = 3 ∨ i = 4 ∨ i = 5 ∨ i = 6 := by omega
    rcases this with rfl | rfl | rfl | rfl | rfl | rfl | rfl <;> decide
  have h := fold_loop (xs := l) (L := fun m i (x : Int) => evLoop false (f17_s3 n) m (f17_h3 x (toB l) l.length i e) k) (f := fun x b => x * 256 + (b.toNat : Int)) (E := fun x => k (X.exit 0) (f17_x3_0 x e)) (fun i x => 0 ≤ x ∧ x < (256 : Int) ^ i)
    (fun m i x b hx hlt hI => by
      show evLoop false (f17_s3 n) (m + 1) _ k = evLoop false (f17_s3 n) m _ k
      have := hpow i (by omega)
      rw [f17_t3]
      simp only [lt_nat, inB_nat, Int.toNat_natCast, toB_len, el_get (toB_get hx), wrap_succ (i := i) (by omega), hlt, decide_true, bcond_t, cell8]
      rw [num_step hI.1 (by omega) b.toNat_lt])
    (fun i x b hx hlt hI => by
      have := b.toNat_lt
      rw [Int.pow_succ]
      omega)
    (fun m x hI => by
      show evLoop false (f17_s3 n) (m + 1) _ k = _
      rw [f17_t3, lt_nat, bcond_no (by simp)])
    l.length 0 0 m (by omega) hm (by simp)
  exact h
theorem f17_out (n : Nat) (hn : 10 < n) (xs : List (List C)) (hb : isB xs = true) (a : Int) (h : 0 ≤ a) (h7 : a ≤ 7) (hl : xs.length ≤ lim40) :
    evFn tab FA nO false lv17 false n Try.f17 [.one (.ptr (.ext 0) 0 0), .one (.c (.int .i64 a))] [(.ext 0, (0, .box 52 [.sl 5 xs] []))] =
      some (.one (.c (.int .i64 (numB ((unB xs).take a.toNat)))), [(.ext 0, (0, .box 52 [.sl 5 (toB ((unB xs).drop a.toNat))] []))]) := by
  have hx := isB_eq hb
  rw [f17_eq, bcond_of (by rw [Bool.and_eq_true, decide_eq_true_eq, Nat.ble_eq]; exact ⟨h, hl⟩)]
  generalize unB xs = l at hx
  subst hx
  have hlt : (l.take a.toNat).length ≤ 7 := by rw [List.length_take]; omega
  rw [toB_take, toB_drop, toB_len, f17_L n _ _ _ hlt n (by omega), f17_a3_0]
def e17 : En
  | [.one (.ptr (.ext 0) 0 0), .one (.c (.int .i64 a))], [(.ext 0, (0, .box 52 [.sl 5 xs] []))], k =>
    bcond (isB xs && (decide (0 ≤ a) && (decide (a ≤ 7) && Nat.ble xs.length lim40))) (k (.one (.c (.int .i64 (numB ((unB xs).take a.toNat))))) [(.ext 0, (0, .box 52 [.sl 5 (toB ((unB xs).drop a.toNat))] []))]) none
  | _, _, _ => none
theorem es17 : ES Try.prog tab 17 e17 := by
  intro args h k x hh
  unfold e17 at hh
  split at hh
  · rename_i a xs
    cases hb : (isB xs && (decide (0 ≤ a) && (decide (a ≤ 7) && Nat.ble xs.length lim40))) with
    | false => rw [hb, bcond_f] at hh; cases hh
    | true =>
      rw [hb, bcond_t] at hh
      simp only [Bool.and_eq_true, decide_eq_true_eq, Nat.ble_eq] at hb
      exact ⟨_, _, hh, fn17 sFA rfl (f17_out 11 (by omega) xs hb.1 a hb.2.1 hb.2.2.1 hb.2.2.2)⟩
  · cases hh
def e20b : En
  | [.one (.ptr (.ext 0) 0 0), .one (.c (.int .i64 a))], [(.ext 0, (0, .box 52 [.sl 5 xs] []))], k =>
    bcond (isB xs && (decide (0 ≤ a) && Nat.ble xs.length lim40)) (k (.one (.c (.sl 5 (toB ((unB xs).take a.toNat))))) [(.ext 0, (0, .box 52 [.sl 5 (toB ((unB xs).drop a.toNat))] []))]) none
  | _, _, _ => none
theorem es20b : ES Try.prog tab 20 e20b := by
  intro args h k x hh
  unfold e20b at hh
  split at hh
  · rename_i a xs
    cases hb : (isB xs && (decide (0 ≤ a) && Nat.ble xs.length lim40)) with
    | false => rw [hb, bcond_f] at hh; cases hh
    | true =>
      rw [hb, bcond_t] at hh
      simp only [Bool.and_eq_true, decide_eq_true_eq, Nat.ble_eq] at hb
      have ho := f20_out 0 xs a hb.2.1 hb.2.2
      have hx := isB_eq hb.1
      generalize unB xs = l at hx hh
      subst hx
      rw [toB_take, toB_drop] at ho
      exact ⟨_, _, hh, fn20 (nF_sound _ _) rfl ho⟩
  · cases hh
def FB : Fun := mkF [(17, e17), (20, e20b)]
theorem sFB : FSound Try.prog tab FB := mkF_sound (fun p hp => by
  simp only [List.mem_cons, List.not_mem_nil, or_false] at hp
  rcases hp with rfl | rfl
  · exact es17
  · exact es20b)

theorem f18_eq (n : Nat) (xs : List (List C)) : evFn tab FB nO false lv18 false n Try.f18 [.one (.ptr (.ext 0) 0 0)] [(.ext 0, (0, .box 52 [.sl 5 xs] []))] = bcond (isB xs && (decide ((0 : Int) ≤ (1 : Int)) && (decide ((1 : Int) ≤ (7 : Int)) && xs.length.ble lim40))) (bcond (isB (toB (List.drop (1 : Nat) (unB xs))) && (decide ((0 : Int) ≤ numB (List.take (1 : Nat) (unB xs))) && (toB (List.drop (1 : Nat) (unB xs))).length.ble lim40)) (some ((V.one (A.c (C.str (strOf (toB (List.take (numB (List.take (1 : Nat) (unB xs))).toNat (unB (toB (List.drop (1 : Nat) (unB xs))))))))), [(Key.ext (0 : Nat), (0 : Nat), B.box (52 : Nat) [C.sl (5 : Nat) (toB (List.drop (numB (List.take (1 : Nat) (unB xs))).toNat (unB (toB (List.drop (1 : Nat) (unB xs))))))] [])]))) (none)) (none) := by kernel_rfl


theorem f19_eq (n : Nat) (xs : List (List C)) : evFn tab FB nO false lv19 false n Try.f19 [.one (.ptr (.ext 0) 0 0)] [(.ext 0, (0, .box 52 [.sl 5 xs] []))] = bcond (isB xs && (decide ((0 : Int) ≤ (16 : Int)) && xs.length.ble lim40)) (some ((V.agg (29 : Nat) (splice [C.int IntKind.u8 (0 : Int), C.int IntKind.u8 (0 : Int), C.int IntKind.u8 (0 : Int), C.int IntKind.u8 (0 : Int), C.int IntKind.u8 (0 : Int), C.int IntKind.u8 (0 : Int), C.int IntKind.u8 (0 : Int), C.int IntKind.u8 (0 : Int), C.int IntKind.u8 (0 : Int), C.int IntKind.u8 (0 : Int), C.int IntKind.u8 (0 : Int), C.int IntKind.u8 (0 : Int), C.int IntKind.u8 (0 : Int), C.int IntKind.u8 (0 : Int), C.int IntKind.u8 (0 : Int), C.int IntKind.u8 (0 : Int)] (0 : Nat) (List.map (fun y => cl y (0 : Nat)) (List.take ((toB (List.take (16 : Nat) (unB xs))).length.min (16 : Nat)) (toB (List.take (16 : Nat) (unB xs)))))) [], [(Key.ext (0 : Nat), (0 : Nat), B.box (52 : Nat) [C.sl (5 : Nat) (toB (List.drop (16 : Nat) (unB xs)))] [])]))) (none) := by kernel_rfl


def mkS (l : List UInt8) : ByteArray := ⟨l.toArray⟩
theorem strOf_toB (l : List UInt8) : strOf (toB l) = mkS l := by
  show (⟨(unB (toB l)).toArray⟩ : ByteArray) = _
  rw [unB_toB]
  rfl
/-- A text's length, its bytes, what follows. -/
def tl (l : List UInt8) : Nat := (numB (l.take 1)).toNat
def tx (l : List UInt8) : List UInt8 := (l.drop 1).take (tl l)
def tr (l : List UInt8) : List UInt8 := (l.drop 1).drop (tl l)
theorem numB_nonneg (l : List UInt8) : 0 ≤ numB l := (numB_rng l 0 (by omega)).1
theorem f18_out (n : Nat) (xs : List (List C)) (hb : isB xs = true) (hl : xs.length ≤ lim40) : evFn tab FB nO false lv18 false n Try.f18 [.one (.ptr (.ext 0) 0 0)] [(.ext 0, (0, .box 52 [.sl 5 xs] []))] =
    some (.one (.c (.str (mkS (tx (unB xs))))), [(.ext 0, (0, .box 52 [.sl 5 (toB (tr (unB xs)))] []))]) := by
  have hx := isB_eq hb
  rw [f18_eq, bcond_of (by simp only [hb, Bool.true_and, Bool.and_eq_true, decide_eq_true_eq, Nat.ble_eq]; exact ⟨by decide, by decide, hl⟩)]
  generalize unB xs = l at hx
  subst hx
  rw [toB_len] at hl
  have hd : (l.drop 1).length ≤ lim40 := by rw [List.length_drop]; omega
  rw [bcond_of (by rw [isB_toB, toB_len, Bool.true_and, Bool.and_eq_true, decide_eq_true_eq, Nat.ble_eq]; exact ⟨numB_nonneg _, hd⟩), unB_toB, strOf_toB]
  rfl
def e18 : En
  | [.one (.ptr (.ext 0) 0 0)], [(.ext 0, (0, .box 52 [.sl 5 xs] []))], k =>
    bcond (isB xs && Nat.ble xs.length lim40) (k (.one (.c (.str (mkS (tx (unB xs)))))) [(.ext 0, (0, .box 52 [.sl 5 (toB (tr (unB xs)))] []))]) none
  | _, _, _ => none
theorem es18 : ES Try.prog tab 18 e18 := by
  intro args h k x hh
  unfold e18 at hh
  split at hh
  · rename_i xs
    cases hb : (isB xs && Nat.ble xs.length lim40) with
    | false => rw [hb, bcond_f] at hh; cases hh
    | true =>
      rw [hb, bcond_t] at hh
      simp only [Bool.and_eq_true, Nat.ble_eq] at hb
      exact ⟨_, _, hh, fn18 sFB rfl (f18_out 0 xs hb.1 hb.2)⟩
  · cases hh
def c8 (b : UInt8) : C := .int .u8 b.toNat
/-- Sixteen bytes, zeros behind. -/
def adr (l : List UInt8) : List C := (l.take 16).map c8 ++ List.replicate (16 - (l.take 16).length) (.int .u8 0)
theorem f19_out (n : Nat) (xs : List (List C)) (hb : isB xs = true) (hl : xs.length ≤ lim40) : evFn tab FB nO false lv19 false n Try.f19 [.one (.ptr (.ext 0) 0 0)] [(.ext 0, (0, .box 52 [.sl 5 xs] []))] =
    some (.agg 29 (adr (unB xs)) [], [(.ext 0, (0, .box 52 [.sl 5 (toB ((unB xs).drop 16))] []))]) := by
  have hx := isB_eq hb
  rw [f19_eq, bcond_of (by simp only [hb, Bool.true_and, Bool.and_eq_true, decide_eq_true_eq, Nat.ble_eq]; exact ⟨by decide, hl⟩)]
  generalize unB xs = l
  have h16 : (l.take 16).length ≤ 16 := List.length_take_le _ _
  have e1 : List.take ((toB (l.take 16)).length.min 16) (toB (l.take 16)) = toB (l.take 16) := by
    rw [toB_len, List.take_of_length_le (by rw [toB_len]; exact Nat.le_min.2 ⟨Nat.le_refl _, h16⟩)]
  have e2 : (toB (l.take 16)).map (fun y => cl y 0) = (l.take 16).map c8 := by
    unfold toB
    rw [List.map_map]
    rfl
  rw [e1, e2]
  have e3 : ∀ (y : List C), y.length ≤ 16 → splice (List.replicate 16 (C.int IntKind.u8 0)) 0 y = y ++ List.replicate (16 - y.length) (C.int IntKind.u8 0) := fun y hy => by
    unfold splice
    rw [List.take_zero, List.nil_append, Nat.zero_add, List.drop_replicate]
  have := e3 ((l.take 16).map c8) (by rw [List.length_map]; exact h16)
  rw [List.length_map] at this
  unfold adr
  rw [← this]
  rfl
def e19 : En
  | [.one (.ptr (.ext 0) 0 0)], [(.ext 0, (0, .box 52 [.sl 5 xs] []))], k =>
    bcond (isB xs && Nat.ble xs.length lim40) (k (.agg 29 (adr (unB xs)) []) [(.ext 0, (0, .box 52 [.sl 5 (toB ((unB xs).drop 16))] []))]) none
  | _, _, _ => none
theorem es19 : ES Try.prog tab 19 e19 := by
  intro args h k x hh
  unfold e19 at hh
  split at hh
  · rename_i xs
    cases hb : (isB xs && Nat.ble xs.length lim40) with
    | false => rw [hb, bcond_f] at hh; cases hh
    | true =>
      rw [hb, bcond_t] at hh
      simp only [Bool.and_eq_true, Nat.ble_eq] at hb
      exact ⟨_, _, hh, fn19 sFB rfl (f19_out 0 xs hb.1 hb.2)⟩
  · cases hh

end Go.Proofs.Ytnbiincgplkmbaa
