/- Gb -/
import Derived.Test.YtnbiincgplkmbaaGa
import Derived.KernelRfl
namespace Go.Proofs.Ytnbiincgplkmbaa
open Go Go.Eng
set_option maxRecDepth 100000
def isC8 : C → Bool
  | .int .u8 n => decide (0 ≤ n) && decide (n ≤ 255)
  | _ => false
def okAdr (e : List C) : Bool := (sub e 0 16).all isC8
def byC (c : C) : UInt8 := UInt8.ofNat c.toI.toNat
/-- An address's bytes. -/
def adB (e : List C) : List UInt8 := (sub e 0 16).map byC
theorem isC8_eq {c : C} (h : isC8 c = true) : [c] = B1 (byC c) := by
  unfold isC8 at h
  split at h
  · rename_i n
    rw [Bool.and_eq_true, decide_eq_true_eq, decide_eq_true_eq] at h
    simp only [B1, byC, C.toI, UInt8.toNat_ofNat']
    congr 2
    omega
  · cases h
theorem adr_rows {e : List C} (h : okAdr e = true) : List.map (fun c => [c]) (sub e 0 16) = toB (adB e) := by
  unfold okAdr at h
  rw [List.all_eq_true] at h
  unfold adB toB
  rw [List.map_map]
  exact List.map_congr_left fun c hc => isC8_eq (h c hc)
theorem adB_len (e : List C) : (adB e).length ≤ 16 := by
  unfold adB sub
  rw [List.length_map, List.length_take]
  omega
def cutS (s : ByteArray) : ByteArray := strCut s 0 (if (255 : Int) < (s.size : Int) then (255 : Int) else (s.size : Int)).toNat
theorem cutS_len (s : ByteArray) : (cutS s).size ≤ 255 := by
  unfold cutS strCut
  rw [ByteArray.size_extract]
  split <;> omega
theorem cutS_ok (s : ByteArray) : inE (if (255 : Int) < (s.size : Int) then (255 : Int) else (s.size : Int)) 0 s.size = true := by
  rw [inE, Bool.and_eq_true, decide_eq_true_eq, decide_eq_true_eq]
  split <;> omega
theorem texB_len (s : ByteArray) (h : s.size ≤ 255) : (texB s).length ≤ 256 := by
  have : s.data.toList.length = s.size := rfl
  simp only [texB, List.length_cons]
  omega
def texD (d : List C) : List UInt8 := texB (cutS (cl d 0).toS)
def t3 (l : List (List C)) : List (List C) := l.take 3
theorem t3_eq (l : List (List C)) : lstCut l 0 (if (3 : Int) < (l.length : Int) then (3 : Int) else (l.length : Int)).toNat = t3 l := by
  unfold lstCut t3
  rw [List.drop_zero]
  split
  · rfl
  · rw [Int.toNat_natCast, List.take_of_length_le (Nat.le_refl _), List.take_of_length_le (by omega)]
theorem t3_len (l : List (List C)) : (t3 l).length ≤ 3 := List.length_take_le _ _
theorem t3_ok (l : List (List C)) : inE (if (3 : Int) < (l.length : Int) then (3 : Int) else (l.length : Int)) 0 l.length = true := by
  rw [inE, Bool.and_eq_true, decide_eq_true_eq, decide_eq_true_eq]
  split <;> omega
theorem flatMap_take {α β : Type} (f : α → List β) {l : List α} {i : Nat} {x : α} (h : l[i]? = some x) : (l.take (i + 1)).flatMap f = (l.take i).flatMap f ++ f x := by
  have hlt := (List.getElem?_eq_some_iff.1 h).1
  rw [List.take_succ_eq_append_getElem hlt, (List.getElem?_eq_some_iff.1 h).2, List.flatMap_append]
  simp
theorem flatMap_len {α β : Type} (f : α → List β) (b : Nat) (hf : ∀ x, (f x).length ≤ b) : ∀ l : List α, (l.flatMap f).length ≤ l.length * b
  | [] => by simp
  | x :: l => by
    have h1 := hf x
    have h2 := flatMap_len f b hf l
    rw [List.flatMap_cons, List.length_append, List.length_cons, Nat.succ_mul]
    omega

theorem f16_L9 (n : Nat) (k : X → St → Option R) (S A D xs : List (List C)) (hD : D.length ≤ 3) (hx : xs.length ≤ lim38) (m : Nat) (hm : D.length < m) :
    evLoop true (f16_s9 n) m (f16_h9 S A D D.length 0 xs) k = k (X.exit 0) (f16_x9_0 S A (xs ++ toB (D.flatMap texD))) := by
  have h38 : lim38 = 274877906944 := rfl
  have h40 : lim40 = 1099511627776 := rfl
  have h := fold_loop (xs := D) (L := fun m i (_ : Unit) => evLoop true (f16_s9 n) m (f16_h9 S A D D.length i (xs ++ toB ((D.take i).flatMap texD))) k) (f := fun _ _ => ()) (E := fun _ => k (X.exit 0) (f16_x9_0 S A (xs ++ toB (D.flatMap texD)))) (fun _ _ => True)
    (fun m i _ d hd hlt _ => by
      show evLoop true (f16_s9 n) (m + 1) _ k = evLoop true (f16_s9 n) m _ k
      have hl := flatMap_len texD 256 (fun d => texB_len _ (cutS_len _)) (D.take i)
      have hl2 : (D.take i).length ≤ 3 := by rw [List.length_take]; omega
      rw [f16_t9]
      simp only [lt_nat, inB_nat, Int.toNat_natCast, el_get hd, wrap_succ (i := i) (by omega), hlt, decide_true, bcond_t, cutS_ok]
      rw [bcond_of (by rw [Bool.and_eq_true, Nat.ble_eq, Nat.ble_eq]; exact ⟨cutS_len _, by simp only [List.length_append, toB_len]; omega⟩), flatMap_take texD hd, ← toB_app, ← List.append_assoc]
      rfl)
    (fun _ _ _ _ _ _ => trivial)
    (fun m _ _ => by
      show evLoop true (f16_s9 n) (m + 1) _ k = _
      rw [f16_t9, lt_nat, bcond_no (by simp), List.take_length])
    D.length 0 () m (by simp) hm trivial
  simpa [toB] using h
theorem f16_L14 (n : Nat) (k : X → St → Option R) (A D xs : List (List C)) (hD : D.length ≤ 3) (hok : ∀ d ∈ D, okAdr d = true) (hx : xs.length ≤ lim38 + 1000) (m : Nat) (hm : D.length < m) :
    evLoop true (f16_s14 n) m (f16_h14 A D D.length 0 xs) k = k (X.exit 2) (f16_x14_2 A (xs ++ toB (D.flatMap adB))) := by
  have h38 : lim38 = 274877906944 := rfl
  have h := fold_loop (xs := D) (L := fun m i (_ : Unit) => evLoop true (f16_s14 n) m (f16_h14 A D D.length i (xs ++ toB ((D.take i).flatMap adB))) k) (f := fun _ _ => ()) (E := fun _ => k (X.exit 2) (f16_x14_2 A (xs ++ toB (D.flatMap adB)))) (fun _ _ => True)
    (fun m i _ d hd hlt _ => by
      show evLoop true (f16_s14 n) (m + 1) _ k = evLoop true (f16_s14 n) m _ k
      have hl := flatMap_len adB 16 adB_len (D.take i)
      have hl2 : (D.take i).length ≤ 3 := by rw [List.length_take]; omega
      have hl3 := adB_len d
      rw [f16_t14]
      simp only [lt_nat, inB_nat, Int.toNat_natCast, el_get hd, wrap_succ (i := i) (by omega), hlt, decide_true, bcond_t, adr_rows (hok d (List.mem_of_getElem? hd))]
      rw [bcond_of (roomOk_of (by simp only [List.length_append, toB_len]; omega) (by simp only [List.length_append, toB_len]; omega)), flatMap_take adB hd, ← toB_app, ← List.append_assoc])
    (fun _ _ _ _ _ _ => trivial)
    (fun m _ _ => by
      show evLoop true (f16_s14 n) (m + 1) _ k = _
      rw [f16_t14, lt_nat, bcond_no (by simp), List.take_length])
    D.length 0 () m (by simp) hm trivial
  simpa [toB] using h
theorem f16_L19 (n : Nat) (k : X → St → Option R) (D xs : List (List C)) (hD : D.length ≤ 3) (hok : ∀ d ∈ D, okAdr d = true) (hx : xs.length ≤ lim38 + 2000) (m : Nat) (hm : D.length < m) :
    evLoop true (f16_s19 n) m (f16_h19 D D.length 0 xs) k = k (X.exit 4) (f16_x19_4 (xs ++ toB (D.flatMap adB))) := by
  have h38 : lim38 = 274877906944 := rfl
  have h := fold_loop (xs := D) (L := fun m i (_ : Unit) => evLoop true (f16_s19 n) m (f16_h19 D D.length i (xs ++ toB ((D.take i).flatMap adB))) k) (f := fun _ _ => ()) (E := fun _ => k (X.exit 4) (f16_x19_4 (xs ++ toB (D.flatMap adB)))) (fun _ _ => True)
    (fun m i _ d hd hlt _ => by
      show evLoop true (f16_s19 n) (m + 1) _ k = evLoop true (f16_s19 n) m _ k
      have hl := flatMap_len adB 16 adB_len (D.take i)
      have hl2 : (D.take i).length ≤ 3 := by rw [List.length_take]; omega
      have hl3 := adB_len d
      rw [f16_t19]
      simp only [lt_nat, inB_nat, Int.toNat_natCast, el_get hd, wrap_succ (i := i) (by omega), hlt, decide_true, bcond_t, adr_rows (hok d (List.mem_of_getElem? hd))]
      rw [bcond_of (roomOk_of (by simp only [List.length_append, toB_len]; omega) (by simp only [List.length_append, toB_len]; omega)), flatMap_take adB hd, ← toB_app, ← List.append_assoc])
    (fun _ _ _ _ _ _ => trivial)
    (fun m _ _ => by
      show evLoop true (f16_s19 n) (m + 1) _ k = _
      rw [f16_t19, lt_nat, bcond_no (by simp), List.take_length])
    D.length 0 () m (by simp) hm trivial
  simpa [toB] using h
/-- A link's first byte. -/
def flg (nd ns na : Nat) (d v : Bool) : Int := 4 * nd + 16 * ns + 64 * na + (if d = true then 1 else 0) + (if v = true then 2 else 0)
theorem flg_all : ∀ a b c : Fin 4, ior .i64 (ior .i64 (ishl .i64 (a.val : Int) 2) (ishl .i64 (b.val : Int) 4)) (ishl .i64 (c.val : Int) 6) = 4 * a.val + 16 * b.val + 64 * c.val ∧
    ior .i64 (4 * a.val + 16 * b.val + 64 * c.val) 1 = 4 * a.val + 16 * b.val + 64 * c.val + 1 ∧ ior .i64 (4 * a.val + 16 * b.val + 64 * c.val) 2 = 4 * a.val + 16 * b.val + 64 * c.val + 2 ∧ ior .i64 (4 * a.val + 16 * b.val + 64 * c.val + 1) 2 = 4 * a.val + 16 * b.val + 64 * c.val + 3 := by decide +kernel
def okLink (x : List C) : Bool := (cl x 5).toL.all okAdr && (cl x 6).toL.all okAdr
def encL (x : List C) : List UInt8 :=
  u8 (flg (t3 (cl x 2).toL).length (t3 (cl x 5).toL).length (t3 (cl x 6).toL).length (cl x 3).toB (cl x 4).toB) :: ((t3 (cl x 2).toL).flatMap texD ++ ((t3 (cl x 5).toL).flatMap adB ++ (t3 (cl x 6).toL).flatMap adB))
theorem encL_len (x : List C) : (encL x).length ≤ 1000 := by
  have h1 := flatMap_len texD 256 (fun d => texB_len _ (cutS_len _)) (t3 (cl x 2).toL)
  have h2 := flatMap_len adB 16 adB_len (t3 (cl x 5).toL)
  have h3 := flatMap_len adB 16 adB_len (t3 (cl x 6).toL)
  have := t3_len (cl x 2).toL
  have := t3_len (cl x 5).toL
  have := t3_len (cl x 6).toL
  simp only [encL, List.length_cons, List.length_append]
  omega
theorem f16_out (n : Nat) (hn : 10 < n) (xs : List (List C)) (x : List C) (hok : okLink x = true) (hl : xs.length + 1 ≤ lim38) :
    evFn tab FE oY true lv16 true n Try.f16 [.one (.own (.ext 0) 0 5), .agg 34 x []] [(.ext 0, (0, .arr 5 true xs))] = some (.one (.own (.ext 0) 1 5), [(.ext 0, (1, .arr 5 true (xs ++ toB (encL x))))]) := by
  have h38 : lim38 = 274877906944 := rfl
  unfold okLink at hok
  rw [Bool.and_eq_true, List.all_eq_true, List.all_eq_true] at hok
  have l2 := t3_len (cl x 2).toL
  have l5 := t3_len (cl x 5).toL
  have l6 := t3_len (cl x 6).toL
  have tail : ∀ f : Int, evLoop true (f16_s9 n) n (f16_h9 (t3 (cl x 5).toL) (t3 (cl x 6).toL) (t3 (cl x 2).toL) ((t3 (cl x 2).toL).length : Int) 0 (xs ++ [B1 (u8 f)])) (f16_k9 n) =
      some (.one (.own (.ext 0) 1 5), [(.ext 0, (1, .arr 5 true (xs ++ toB (u8 f :: ((t3 (cl x 2).toL).flatMap texD ++ ((t3 (cl x 5).toL).flatMap adB ++ (t3 (cl x 6).toL).flatMap adB))))))]) := fun f => by
    have h1 := flatMap_len texD 256 (fun d => texB_len _ (cutS_len _)) (t3 (cl x 2).toL)
    have h2 := flatMap_len adB 16 adB_len (t3 (cl x 5).toL)
    rw [f16_L9 n _ _ _ _ _ l2 (by simp; omega) n (by omega), f16_a9_0, f16_L14 n _ _ _ _ l5 (fun d hd => hok.1 d (List.mem_of_mem_take hd)) (by simp only [List.length_append, toB_len, List.length_singleton]; omega) n (by omega), f16_a14_2, f16_L19 n _ _ _ l6 (fun d hd => hok.2 d (List.mem_of_mem_take hd)) (by simp only [List.length_append, toB_len, List.length_singleton]; omega) n (by omega), f16_a19_4]
    have e1 : [B1 (u8 f)] = toB [u8 f] := rfl
    rw [e1, List.append_assoc, List.append_assoc, List.append_assoc, toB_app, toB_app, toB_app]
    rfl
  have hfl := flg_all ⟨(t3 (cl x 2).toL).length, by omega⟩ ⟨(t3 (cl x 5).toL).length, by omega⟩ ⟨(t3 (cl x 6).toL).length, by omega⟩
  simp only at hfl
  obtain ⟨f0, f1, f2, f3⟩ := hfl
  rw [f16_eq, t3_eq, t3_eq, t3_eq, t3_ok, t3_ok, t3_ok, bcond_t, bcond_t, bcond_t, f0]
  have hroom : ∀ r : List C, roomOk (xs.length + [r].length) 1 = true := fun r => roomOk_of (by simp; omega) (by simp; omega)
  unfold encL flg
  cases (cl x 3).toB with
  | true =>
    cases (cl x 4).toB with
    | true =>
      rw [bcond_t, bcond_t, f1, f3, hroom, bcond_t, ← B1_u8]
      refine (tail _).trans ?_
      simp only [if_true]
      rw [show ∀ z : Int, z + 3 = z + 1 + 2 from fun z => by omega]
    | false =>
      rw [bcond_t, bcond_f, f1, hroom, bcond_t, ← B1_u8]
      refine (tail _).trans ?_
      simp
  | false =>
    cases (cl x 4).toB with
    | true =>
      rw [bcond_f, bcond_t, f2, hroom, bcond_t, ← B1_u8]
      refine (tail _).trans ?_
      simp
    | false =>
      rw [bcond_f, bcond_f, hroom, bcond_t, ← B1_u8]
      refine (tail _).trans ?_
      simp
def e16 : En
  | [.one (.own (.ext 0) 0 5), .agg 34 x []], [(.ext 0, (0, .arr 5 true xs))], k =>
    bcond (okLink x && Nat.ble (xs.length + 1) lim38) (k (.one (.own (.ext 0) 1 5)) [(.ext 0, (1, .arr 5 true (xs ++ toB (encL x))))]) none
  | _, _, _ => none
theorem es16 : ES Try.prog tab 16 e16 := by
  intro args h k x hh
  unfold e16 at hh
  split at hh
  · rename_i y xs
    cases hb : (okLink y && Nat.ble (xs.length + 1) lim38) with
    | false => rw [hb, bcond_f] at hh; cases hh
    | true =>
      rw [hb, bcond_t] at hh
      simp only [Bool.and_eq_true, Nat.ble_eq] at hb
      exact ⟨_, _, hh, fn16 sFE rfl (f16_out 11 (by omega) xs y hb.1 hb.2)⟩
  · cases hh

end Go.Proofs.Ytnbiincgplkmbaa
