/- Pb -/
import Derived.Test.YtnbiincgplkmbaaPa
import Derived.KernelRfl
namespace Go.Proofs.Ytnbiincgplkmbaa
open Go Go.Eng
set_option maxRecDepth 100000
/-! Links. -/
def f1 (d : List C) : List C := [C.str (cutS (cl d 0).toS)]
def f2 (d : List C) : List C := (adB d).map c8
def f3 (d : List C) : List C := (adB d).map c8 ++ [C.bool false, C.bool false]
theorem drop_at {α : Type} {D : List α} {k : Nat} (h : k < D.length) : D.drop k = D[k] :: D.drop (k + 1) := List.drop_eq_getElem_cons h
theorem take_at {α : Type} {D : List α} {k : Nat} (h : k < D.length) : D.take (k + 1) = D.take k ++ [D[k]] := List.take_succ_eq_append_getElem h
theorem texts_back (D : List (List C)) (r : List UInt8) : ∀ k, k ≤ D.length → trs k (D.flatMap texD ++ r) = (D.drop k).flatMap texD ++ r ∧ txs k (D.flatMap texD ++ r) = (D.take k).map f1
  | 0, _ => ⟨rfl, rfl⟩
  | k + 1, h => by
    obtain ⟨h1, h2⟩ := texts_back D r k (by omega)
    have hk : k < D.length := by omega
    have hc := cutS_len (cl D[k] 0).toS
    rw [drop_at hk, List.flatMap_cons, List.append_assoc] at h1
    refine ⟨?_, ?_⟩
    · rw [trs, h1]
      exact texB_tr _ hc _
    · rw [txs, h1, h2, take_at hk, List.map_append]
      show _ ++ [[C.str (mkS (tx (texB (cutS (cl D[k] 0).toS) ++ _)))]] = _
      rw [texB_tx _ hc]
      rfl
theorem adrs_back (D : List (List C)) (r : List UInt8) (h16 : ∀ d ∈ D, (adB d).length = 16) : ∀ k, k ≤ D.length → dr16 k (D.flatMap adB ++ r) = (D.drop k).flatMap adB ++ r ∧ ads k (D.flatMap adB ++ r) = (D.take k).map f2 ∧ los k (D.flatMap adB ++ r) = (D.take k).map f3
  | 0, _ => ⟨rfl, rfl, rfl⟩
  | k + 1, h => by
    obtain ⟨h1, h2, h3⟩ := adrs_back D r h16 k (by omega)
    have hk : k < D.length := by omega
    have hc := h16 D[k] (List.getElem_mem hk)
    rw [drop_at hk, List.flatMap_cons, List.append_assoc] at h1
    refine ⟨?_, ?_, ?_⟩
    · rw [dr16, h1]
      exact drop_app hc
    · rw [ads, h1, h2, take_at hk, List.map_append, adr_app hc]
      rfl
    · rw [los, h1, h3, take_at hk, List.map_append]
      show _ ++ [adr (adB D[k] ++ _) ++ _] = _
      rw [adr_app hc]
      rfl
def LenL (y : List C) : Prop := (∀ d ∈ (cl y 5).toL, (adB d).length = 16) ∧ ∀ d ∈ (cl y 6).toL, (adB d).length = 16
def nmL (y : List C) : List C := [.bool false, .int .i64 0, .sl 9 ((t3 (cl y 2).toL).map f1), .bool (cl y 3).toB, .bool (cl y 4).toB, .sl 29 ((t3 (cl y 5).toL).map f2), .sl 42 ((t3 (cl y 6).toL).map f3)]
theorem flg_rng {a b c : Nat} (h1 : a ≤ 3) (h2 : b ≤ 3) (h3 : c ≤ 3) (d v : Bool) : 0 ≤ flg a b c d v ∧ flg a b c d v < 256 := by
  unfold flg
  cases d <;> cases v <;> simp <;> omega
theorem flg_parts {a b c : Nat} (h1 : a ≤ 3) (h2 : b ≤ 3) (h3 : c ≤ 3) (d v : Bool) : nD (flg a b c d v) = a ∧ nS (flg a b c d v) = b ∧ nL (flg a b c d v) = c := by
  unfold nD nS nL flg
  cases d <;> cases v <;> simp <;> omega
theorem bits_all : ∀ f : Fin 256, (decide (iand .i64 (f.val : Int) 1 > 0) = decide (f.val % 2 = 1)) ∧ (decide (iand .i64 (f.val : Int) 2 > 0) = decide (f.val / 2 % 2 = 1)) := by decide +kernel
theorem flg_bits {a b c : Nat} (h1 : a ≤ 3) (h2 : b ≤ 3) (h3 : c ≤ 3) (d v : Bool) : decide (iand .i64 (flg a b c d v) 1 > 0) = d ∧ decide (iand .i64 (flg a b c d v) 2 > 0) = v := by
  obtain ⟨r0, r1⟩ := flg_rng h1 h2 h3 d v
  have h := bits_all ⟨(flg a b c d v).toNat, by omega⟩
  simp only [Int.toNat_of_nonneg r0] at h
  rw [h.1, h.2]
  unfold flg
  cases d <;> cases v <;> simp <;> omega
theorem link_back (y : List C) (hL : LenL y) (r : List UInt8) : linkR (encL y ++ r) = nmL y ∧ linkT (encL y ++ r) = r := by
  have l2 := t3_len (cl y 2).toL
  have l5 := t3_len (cl y 5).toL
  have l6 := t3_len (cl y 6).toL
  obtain ⟨g0, g1⟩ := flg_rng l2 l5 l6 (cl y 3).toB (cl y 4).toB
  obtain ⟨p1, p2, p3⟩ := flg_parts l2 l5 l6 (cl y 3).toB (cl y 4).toB
  obtain ⟨q1, q2⟩ := flg_bits l2 l5 l6 (cl y 3).toB (cl y 4).toB
  have hfl : fl (encL y ++ r) = flg (t3 (cl y 2).toL).length (t3 (cl y 5).toL).length (t3 (cl y 6).toL).length (cl y 3).toB (cl y 4).toB := by
    unfold fl encL
    rw [List.cons_append, List.take_succ_cons, List.take_zero, numB_one, u8_toNat]
    omega
  have hd : (encL y ++ r).drop 1 = (t3 (cl y 2).toL).flatMap texD ++ ((t3 (cl y 5).toL).flatMap adB ++ ((t3 (cl y 6).toL).flatMap adB ++ r)) := by
    unfold encL
    rw [List.cons_append, List.drop_succ_cons, List.drop_zero, List.append_assoc, List.append_assoc]
  obtain ⟨t1, t2⟩ := texts_back (t3 (cl y 2).toL) ((t3 (cl y 5).toL).flatMap adB ++ ((t3 (cl y 6).toL).flatMap adB ++ r)) _ (Nat.le_refl _)
  obtain ⟨s1, s2, _⟩ := adrs_back (t3 (cl y 5).toL) ((t3 (cl y 6).toL).flatMap adB ++ r) (fun d hd => hL.1 d (List.mem_of_mem_take hd)) _ (Nat.le_refl _)
  obtain ⟨a1, _, a3⟩ := adrs_back (t3 (cl y 6).toL) r (fun d hd => hL.2 d (List.mem_of_mem_take hd)) _ (Nat.le_refl _)
  rw [List.drop_length, List.flatMap_nil, List.nil_append] at t1 s1 a1
  rw [List.take_length] at t2 s2 a3
  generalize encL y ++ r = L at hfl hd
  have k1 : lk1 L = (t3 (cl y 5).toL).flatMap adB ++ ((t3 (cl y 6).toL).flatMap adB ++ r) := by
    unfold lk1
    rw [hfl, p1, hd]
    exact t1
  have k2 : lk2 L = (t3 (cl y 6).toL).flatMap adB ++ r := by
    unfold lk2
    rw [hfl, p2, k1]
    exact s1
  have A1 : txs (nD (fl L)) (L.drop 1) = (t3 (cl y 2).toL).map f1 := by rw [hfl, p1, hd]; exact t2
  have A2 : decide (iand .i64 (fl L) 1 > 0) = (cl y 3).toB := by rw [hfl]; exact q1
  have A3 : decide (iand .i64 (fl L) 2 > 0) = (cl y 4).toB := by rw [hfl]; exact q2
  have A4 : ads (nS (fl L)) (lk1 L) = (t3 (cl y 5).toL).map f2 := by rw [hfl, p2, k1]; exact s2
  have A5 : los (nL (fl L)) (lk2 L) = (t3 (cl y 6).toL).map f3 := by rw [hfl, p3, k2]; exact a3
  have A6 : dr16 (nL (fl L)) (lk2 L) = r := by rw [hfl, p3, k2]; exact a1
  refine ⟨?_, A6⟩
  unfold linkR
  rw [A1, A2, A3, A4, A5]
  rfl
theorem t3_map {l : List (List C)} (f : List C → List C) : t3 ((t3 l).map f) = (t3 l).map f := List.take_of_length_le (by rw [List.length_map]; exact t3_len l)
theorem flatMap_eq {α β : Type} {f g : α → List β} : ∀ {l : List α}, (∀ x ∈ l, f x = g x) → l.flatMap f = l.flatMap g
  | [], _ => rfl
  | x :: l, h => by rw [List.flatMap_cons, List.flatMap_cons, h x (List.mem_cons_self ..), flatMap_eq fun y hy => h y (List.mem_cons_of_mem _ hy)]
theorem cl_str (s : ByteArray) : (cl [C.str s] 0).toS = s := rfl
theorem texD_f1 (d : List C) : texD (f1 d) = texD d := by
  unfold texD f1
  rw [cl_str, cutS_cutS]
theorem adB_f2 {d : List C} (h : (adB d).length = 16) : adB (f2 d) = adB d := by
  have := adB_of h []
  rw [List.append_nil] at this
  exact this
theorem encL_nm (y : List C) (hL : LenL y) : encL (nmL y) = encL y := by
  have e1 : t3 (cl (nmL y) 2).toL = (t3 (cl y 2).toL).map f1 := t3_map f1
  have e2 : t3 (cl (nmL y) 5).toL = (t3 (cl y 5).toL).map f2 := t3_map f2
  have e3 : t3 (cl (nmL y) 6).toL = (t3 (cl y 6).toL).map f3 := t3_map f3
  have b3 : (cl (nmL y) 3).toB = (cl y 3).toB := rfl
  have b4 : (cl (nmL y) 4).toB = (cl y 4).toB := rfl
  have m1 : ((t3 (cl y 2).toL).map f1).flatMap texD = (t3 (cl y 2).toL).flatMap texD := by
    rw [List.flatMap_map]
    exact flatMap_eq fun d _ => texD_f1 d
  have m2 : ((t3 (cl y 5).toL).map f2).flatMap adB = (t3 (cl y 5).toL).flatMap adB := by
    rw [List.flatMap_map]
    exact flatMap_eq fun d hd => adB_f2 (hL.1 d (List.mem_of_mem_take hd))
  have m3 : ((t3 (cl y 6).toL).map f3).flatMap adB = (t3 (cl y 6).toL).flatMap adB := by
    rw [List.flatMap_map]
    exact flatMap_eq fun d hd => adB_of (hL.2 d (List.mem_of_mem_take hd)) _
  have e0 : ∀ z : List C, encL z = u8 (flg (t3 (cl z 2).toL).length (t3 (cl z 5).toL).length (t3 (cl z 6).toL).length (cl z 3).toB (cl z 4).toB) :: ((t3 (cl z 2).toL).flatMap texD ++ ((t3 (cl z 5).toL).flatMap adB ++ (t3 (cl z 6).toL).flatMap adB)) := fun _ => rfl
  rw [e0 (nmL y), e0 y]
  generalize nmL y = w at e1 e2 e3 b3 b4
  rw [e1, e2, e3, b3, b4, m1, m2, m3, List.length_map, List.length_map, List.length_map]
theorem okAdr_c8 {A : List UInt8} (h : A.length = 16) (r : List C) : okAdr (A.map c8 ++ r) = true := by
  unfold okAdr sub
  rw [List.drop_zero, take_app (by rw [List.length_map]; exact h), List.all_eq_true]
  intro c hc
  obtain ⟨b, _, rfl⟩ := List.mem_map.1 hc
  exact isC8_c8 b
theorem okLink_nm (y : List C) (hL : LenL y) : okLink (nmL y) = true := by
  unfold okLink
  rw [Bool.and_eq_true, List.all_eq_true, List.all_eq_true]
  refine ⟨fun d hd => ?_, fun d hd => ?_⟩
  · obtain ⟨e, he, rfl⟩ := List.mem_map.1 (show d ∈ (t3 (cl y 5).toL).map f2 from hd)
    have := okAdr_c8 (hL.1 e (List.mem_of_mem_take he)) []
    rw [List.append_nil] at this
    exact this
  · obtain ⟨e, he, rfl⟩ := List.mem_map.1 (show d ∈ (t3 (cl y 6).toL).map f3 from hd)
    exact okAdr_c8 (hL.2 e (List.mem_of_mem_take he)) _

end Go.Proofs.Ytnbiincgplkmbaa
