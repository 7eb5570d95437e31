/- Pf -/
import Derived.Test.YtnbiincgplkmbaaPe
import Derived.KernelRfl
namespace Go.Proofs.Ytnbiincgplkmbaa
open Go Go.Eng
set_option maxRecDepth 100000
/-- It leaves what stands behind e, and nothing of less than e. -/
structure Eats (R : List UInt8 → List UInt8) (e : List UInt8) : Prop where
  nil : R [] = []
  whole : ∀ r, R (e ++ r) = r
  part : ∀ j, j < e.length → R (e.take j) = []
theorem Eats.comp {R1 R2 : List UInt8 → List UInt8} {e1 e2 : List UInt8} (h1 : Eats R1 e1) (h2 : Eats R2 e2) : Eats (fun l => R2 (R1 l)) (e1 ++ e2) := by
  refine ⟨by show R2 (R1 []) = []; rw [h1.nil, h2.nil], fun r => by show R2 (R1 _) = r; rw [List.append_assoc, h1.whole, h2.whole], fun j hj => ?_⟩
  show R2 (R1 _) = []
  rw [List.length_append] at hj
  rw [List.take_append]
  rcases Nat.lt_or_ge j e1.length with h | h
  · rw [show j - e1.length = 0 from by omega, List.take_zero, List.append_nil, h1.part j h, h2.nil]
  · rw [List.take_of_length_le h, h1.whole, h2.part _ (by omega)]
theorem Eats.drop {e : List UInt8} {n : Nat} (h : e.length = n) : Eats (fun l => l.drop n) e :=
  ⟨List.drop_nil, fun r => drop_app h, fun j hj => List.drop_eq_nil_of_le (by rw [List.length_take]; omega)⟩
theorem Eats.id : Eats (fun l => l) [] := ⟨rfl, fun _ => rfl, fun j hj => by simp at hj⟩
theorem Eats.tex {s : ByteArray} (h : s.size ≤ 255) : Eats tr (texB s) := by
  refine ⟨rfl, fun r => texB_tr s h r, fun j hj => ?_⟩
  cases j with
  | zero => rfl
  | succ j =>
    unfold texB at hj ⊢
    rw [List.take_succ_cons]
    unfold tr tl
    rw [List.take_succ_cons, List.take_zero, numB_one, u8_toNat, List.drop_succ_cons, List.drop_zero]
    apply List.drop_eq_nil_of_le
    rw [List.length_take]
    have e2 : s.data.toList.length = s.size := rfl
    omega
/-- What its length stands ahead of. -/
def lp (l : List UInt8) : List UInt8 := (l.drop 2).drop (numB (l.take 2)).toNat
theorem Eats.lp {D : List UInt8} (h : D.length ≤ 65535) : Eats lp (putB 2 (D.length : Int) ++ D) := by
  have hn : (((D.length : Nat) : Int) % 65536).toNat = D.length := by omega
  refine ⟨rfl, fun r => ?_, fun j hj => ?_⟩
  · unfold Go.Proofs.Ytnbiincgplkmbaa.lp
    rw [List.append_assoc, (num2 _ _).1, (num2 _ _).2, hn, drop_app rfl]
  · unfold Go.Proofs.Ytnbiincgplkmbaa.lp
    rw [List.length_append, putB_len] at hj
    rcases Nat.lt_or_ge j 2 with h2 | h2
    · have hz : (List.take j (putB 2 (D.length : Int) ++ D)).drop 2 = [] := List.drop_eq_nil_of_le (by rw [List.length_take]; omega)
      rw [hz, List.drop_nil]
    · have hp : (putB 2 (D.length : Int)).take j = putB 2 (D.length : Int) := List.take_of_length_le (by rw [putB_len]; exact h2)
      rw [List.take_append, putB_len, hp, (num2 _ _).1, (num2 _ _).2, hn]
      apply List.drop_eq_nil_of_le
      rw [List.length_take]
      omega
theorem Eats.trs (D : List (List C)) : ∀ k, k ≤ D.length → Eats (trs k) ((D.take k).flatMap texD)
  | 0, _ => Eats.id
  | k + 1, h => by
    have hk : k < D.length := by omega
    rw [take_at hk, List.flatMap_append, List.flatMap_singleton]
    exact (Eats.trs D k (by omega)).comp (Eats.tex (cutS_len _))
theorem Eats.dr16 (D : List (List C)) (h16 : ∀ d ∈ D, (adB d).length = 16) : ∀ k, k ≤ D.length → Eats (dr16 k) ((D.take k).flatMap adB)
  | 0, _ => Eats.id
  | k + 1, h => by
    have hk : k < D.length := by omega
    rw [take_at hk, List.flatMap_append, List.flatMap_singleton]
    exact (Eats.dr16 D h16 k (by omega)).comp (Eats.drop (h16 _ (List.getElem_mem hk)))
theorem Eats.link (y : List C) (hL : LenL y) : Eats linkT (encL y) := by
  refine ⟨rfl, fun r => (link_back y hL r).2, fun j hj => ?_⟩
  cases j with
  | zero => rfl
  | succ j =>
    have l2 := t3_len (cl y 2).toL
    have l5 := t3_len (cl y 5).toL
    have l6 := t3_len (cl y 6).toL
    obtain ⟨g0, g1⟩ := flg_rng l2 l5 l6 (cl y 3).toB (cl y 4).toB
    obtain ⟨p1, p2, p3⟩ := flg_parts l2 l5 l6 (cl y 3).toB (cl y 4).toB
    have h5 : ∀ d ∈ t3 (cl y 5).toL, (adB d).length = 16 := fun d hd => hL.1 d (List.mem_of_mem_take hd)
    have h6 : ∀ d ∈ t3 (cl y 6).toL, (adB d).length = 16 := fun d hd => hL.2 d (List.mem_of_mem_take hd)
    have E1 := Eats.trs (t3 (cl y 2).toL) _ (Nat.le_refl _)
    have E2 := Eats.dr16 (t3 (cl y 5).toL) h5 _ (Nat.le_refl _)
    have E3 := Eats.dr16 (t3 (cl y 6).toL) h6 _ (Nat.le_refl _)
    rw [List.take_length] at E1 E2 E3
    have E := E1.comp (E2.comp E3)
    unfold encL at hj ⊢
    rw [List.length_cons] at hj
    rw [List.take_succ_cons]
    generalize (t3 (cl y 2).toL).flatMap texD ++ ((t3 (cl y 5).toL).flatMap adB ++ (t3 (cl y 6).toL).flatMap adB) = B at E hj
    have hf : fl (u8 (flg (t3 (cl y 2).toL).length (t3 (cl y 5).toL).length (t3 (cl y 6).toL).length (cl y 3).toB (cl y 4).toB) :: B.take j) = flg (t3 (cl y 2).toL).length (t3 (cl y 5).toL).length (t3 (cl y 6).toL).length (cl y 3).toB (cl y 4).toB := by
      unfold fl
      rw [List.take_succ_cons, List.take_zero, numB_one, u8_toNat]
      omega
    unfold linkT lk2 lk1
    rw [hf, p1, p2, p3, List.drop_succ_cons, List.drop_zero]
    exact E.part j (by omega)
theorem cons_take {b : UInt8} {B : List UInt8} {j : Nat} (h0 : 0 < j) : (b :: B).take j = b :: B.take (j - 1) := by
  cases j with
  | zero => omega
  | succ j => rfl
/-- Of less than an event nothing is left. -/
theorem ev_part {x : List C} (hg : GoodE x) (j : Nat) (h0 : 0 < j) (hj : j < (encE x).length) : evRest ((encE x).take j) = [] := by
  have fin : ∀ {z : UInt8} {B : List UInt8} {R : List UInt8 → List UInt8}, encE x = z :: B → Eats R B → R (B.take (j - 1)) = [] := fun {z B R} he hE => by
    rw [he, List.length_cons] at hj
    exact hE.part _ (by omega)
  by_cases h1 : kN x = 1
  · have e := ev1 h1 []
    rw [List.append_nil] at e
    obtain ⟨k1, k2, k3⟩ := head_k x (d := 0) (by omega) (by omega) ((putB 1 (cl x 4).toI ++ (putB 2 (cl x 3).toI ++ (putB 4 (cl x 22).toI ++ (texB (cutS (cl x 2).toS) ++ [])))).take (j - 1))
    have E := (Eats.drop (putB_len 1 (cl x 4).toI)).comp ((Eats.drop (putB_len 2 (cl x 3).toI)).comp ((Eats.drop (putB_len 4 (cl x 22).toI)).comp ((Eats.tex (cutS_len (cl x 2).toS)).comp Eats.id)))
    have F := fin e E
    rw [e, cons_take h0]
    unfold evRest
    rw [k1, if_pos (beq_t h1)]
    exact F
  · by_cases h2 : kN x = 2
    · have e := ev2 h2 []
      rw [List.append_nil, List.append_nil] at e
      have hdl : (daE x).length ≤ 65535 := List.length_take_le _ _
      have hul : (unB (daE x)).length = (daE x).length := List.length_map ..
      have hbl : ((sub x 5 16).map byC).length = 16 := by rw [List.length_map]; exact hg.ad
      obtain ⟨k1, k2, k3⟩ := head_k x (d := 0) (by omega) (by omega) (((sub x 5 16).map byC ++ (putB 2 (cl x 21).toI ++ (putB 4 (cl x 22).toI ++ (putB 2 ((daE x).length : Int) ++ unB (daE x))))).take (j - 1))
      have EL := Eats.lp (D := unB (daE x)) (by omega)
      rw [hul] at EL
      have E := (Eats.drop hbl).comp ((Eats.drop (putB_len 2 (cl x 21).toI)).comp ((Eats.drop (putB_len 4 (cl x 22).toI)).comp EL))
      have F := fin e E
      rw [e, cons_take h0]
      unfold evRest
      rw [k1, if_neg (beq_f h1), if_pos (beq_t h2)]
      exact F
    · obtain ⟨g0, g1⟩ := d4 (cl x 22).toI
      by_cases h3 : kN x = 3
      · have e := ev3 h3 []
        rw [List.append_nil, List.append_nil] at e
        obtain ⟨k1, k2, k3⟩ := head_k x g0 g1 ((encL (sub x 24 7)).take (j - 1))
        have F := fin e (Eats.link _ hg.lk)
        rw [e, cons_take h0]
        unfold evRest
        rw [k1, if_neg (beq_f h1), if_neg (beq_f h2), if_pos (beq_t h3)]
        exact F
      · by_cases h6 : kN x = 6
        · have e := ev6 h6 []
          rw [List.append_nil, List.append_nil] at e
          obtain ⟨k1, k2, k3⟩ := head_k x g0 g1 ((texB (cutS (cl x 31).toS) ++ (texB (cutS (cl x 32).toS) ++ texB (cutS (cl x 33).toS))).take (j - 1))
          have E := (Eats.tex (cutS_len (cl x 31).toS)).comp ((Eats.tex (cutS_len (cl x 32).toS)).comp (Eats.tex (cutS_len (cl x 33).toS)))
          have F := fin e E
          rw [e, cons_take h0]
          unfold evRest
          rw [k1, if_neg (beq_f h1), if_neg (beq_f h2), if_neg (beq_f h3), if_pos (beq_t h6)]
          exact F
        · have e := ev0 h1 h2 h3 h6 []
          rw [List.append_nil] at e
          rw [e, List.length_singleton] at hj
          omega
/-- What less than an event tells. -/
def tailE : List UInt8 → List (List C)
  | [] => []
  | b :: r => [evOf (b :: r)]
/-- A whole list and less than an event. -/
theorem dec_part : ∀ (l : List (List C)), (∀ x ∈ l, GoodE x) → ∀ (P : List UInt8), evRest P = [] → ∀ (d : Nat), (encR l ++ P).length ≤ d → decN d (encR l ++ P) = l.map nmE ++ tailE P
  | [], _, P, hP, d, hd => by
    show decN d P = _
    cases P with
    | nil => exact decN_nil d
    | cons b r =>
      cases d with
      | zero => simp at hd
      | succ d =>
        rw [decN, hP, decN_nil]
        rfl
  | x :: l, hg, P, hP, d, hd => by
    have hp := encE_pos x
    have hgx := hg x (List.mem_cons_self ..)
    have he : encR (x :: l) ++ P = encE x ++ (encR l ++ P) := by
      show (x :: l).flatMap encE ++ P = _
      rw [List.flatMap_cons, List.append_assoc]
      rfl
    obtain ⟨h1, h2⟩ := ev_back hgx (encR l ++ P)
    rw [he] at hd ⊢
    rw [List.length_append] at hd
    have hne : encE x ++ (encR l ++ P) ≠ [] := by
      intro h
      rw [List.append_eq_nil_iff] at h
      rw [h.1] at hp
      exact Nat.lt_irrefl _ hp
    generalize encE x ++ (encR l ++ P) = L at h1 h2 hne
    cases L with
    | nil => exact absurd rfl hne
    | cons b r =>
      cases d with
      | zero => omega
      | succ d =>
        rw [decN, h1, h2, List.map_cons, dec_part l (fun y hy => hg y (List.mem_cons_of_mem _ hy)) P hP d (by omega)]
        rfl
/-- Bytes that are cut: the events that are whole, and less than one. -/
theorem cut_split : ∀ (l : List (List C)) (c : Nat), c ≤ (encR l).length → ∃ n P, n ≤ l.length ∧ (encR l).take c = encR (l.take n) ++ P ∧ c = (encR (l.take n)).length + P.length ∧
    (n = l.length ∧ P = [] ∨ ∃ x, l[n]? = some x ∧ P = (encE x).take P.length ∧ P.length < (encE x).length)
  | [], c, h => ⟨0, [], Nat.le_refl _, by simp [encR], by
      have : c ≤ 0 := h
      show c = 0
      omega, .inl ⟨rfl, rfl⟩⟩
  | x :: l, c, h => by
    have he : encR (x :: l) = encE x ++ encR l := List.flatMap_cons ..
    rcases Nat.lt_or_ge c (encE x).length with hc | hc
    · refine ⟨0, (encE x).take c, Nat.zero_le _, ?_, ?_, .inr ⟨x, rfl, ?_, ?_⟩⟩
      · rw [he, List.take_append_of_le_length (Nat.le_of_lt hc)]; rfl
      · show c = 0 + _
        rw [List.length_take]; omega
      · rw [List.length_take, Nat.min_eq_left (Nat.le_of_lt hc)]
      · rw [List.length_take]; omega
    · rw [he, List.length_append] at h
      obtain ⟨n, P, h1, h2, h3, h4⟩ := cut_split l (c - (encE x).length) (by omega)
      have ht : encR ((x :: l).take (n + 1)) = encE x ++ encR (l.take n) := by
        rw [List.take_succ_cons]; exact List.flatMap_cons ..
      refine ⟨n + 1, P, Nat.succ_le_succ h1, ?_, ?_, ?_⟩
      · rw [he, List.take_append, List.take_of_length_le hc, h2, ht, List.append_assoc]
      · clear h4
        rw [ht, List.length_append]; omega
      · rcases h4 with ⟨h5, h6⟩ | ⟨y, h5, h6, h7⟩
        · exact .inl ⟨by rw [h5, List.length_cons], h6⟩
        · exact .inr ⟨y, h5, h6, h7⟩

end Go.Proofs.Ytnbiincgplkmbaa
