/- Fi -/
import Derived.Test.YtdcdccdhdingbaaFh
import Derived.KernelRfl
namespace Go.Proofs.Ytdcdccdhdingbaa
open Go Go.Eng
set_option maxRecDepth 100000
noncomputable def stC (l : List (List C)) (mid en b : Int) (z : List (List C)) : Option R :=
  bcond (decide (mid < en)) (bcond (decide (en < b)) (bcond (g35 z l mid en b) (some (.tup [], hS (y35 z l mid en b) l)) none) (some (.tup [], hS z l))) (some (.tup [], hS z l))
noncomputable def stB (l : List (List C)) (a t mid en b : Int) (z : List (List C)) : Option R :=
  bcond (decide (a < t)) (bcond (decide (t < mid)) (bcond (g35 z l a t mid) (stC l mid en b (y35 z l a t mid)) none) (stC l mid en b z)) (stC l mid en b z)
noncomputable def stA (l : List (List C)) (a m b mid t en : Int) (z : List (List C)) : Option R :=
  bcond (decide (t < m)) (bcond (decide (m < en)) (bcond (g37 z l t m en) (stB l a t mid en b (y37 z l t m en)) none) (stB l a t mid en b z)) (stB l a t mid en b z)
theorem f35_fin (n : Nat) (a m b mid s t : Int) (z l : List (List C)) : f35_k33 n (.exit 8) (f35_x33_8 a m b mid s t z l) = stA l a m b mid t (IntKind.i64.wrap (s - t)) z := f35_a33_8 n a m b mid s t z l
/-- The merge of shorter stretches. -/
def IH (l : List (List C)) (d : Nat) : Prop := ∀ (P A B Q : List (List C)) (a m b : Int), A.length + B.length < d → 0 < A.length → 0 < B.length → (P.length : Int) = a → (P.length : Int) + A.length = m → (P.length : Int) + A.length + B.length = b → (P ++ A ++ B ++ Q).length ≤ 1000000 →
  g35 (P ++ A ++ B ++ Q) l a m b = true ∧ ∃ S, y35 (P ++ A ++ B ++ Q) l a m b = P ++ S ++ Q ∧ Mg l A B S
theorem stC_ok {l : List (List C)} {d : Nat} (ih : IH l d) {P A B Q : List (List C)} {mid en b : Int} (h1 : (P.length : Int) = mid) (h2 : (P.length : Int) + A.length = en) (h3 : (P.length : Int) + A.length + B.length = b) (hd : A.length + B.length < d) (hl : (P ++ A ++ B ++ Q).length ≤ 1000000) :
    ∃ S, stC l mid en b (P ++ A ++ B ++ Q) = some (.tup [], hS (P ++ S ++ Q) l) ∧ Mg l A B S := by
  unfold stC
  by_cases hA : 0 < A.length
  · by_cases hB : 0 < B.length
    · obtain ⟨g1, S, g2, g3⟩ := ih P A B Q mid en b hd hA hB h1 h2 h3 hl
      rw [bcond_of (by simp; omega), bcond_of (by simp; omega), g1, bcond_t, g2]
      exact ⟨S, rfl, g3⟩
    · obtain rfl : B = [] := List.eq_nil_of_length_eq_zero (by omega)
      rw [bcond_of (by simp; omega), bcond_no (by simp at h3 ⊢; omega)]
      exact ⟨A, by simp, by simp, fun T _ hA _ _ => hA⟩
  · obtain rfl : A = [] := List.eq_nil_of_length_eq_zero (by omega)
    rw [bcond_no (by simp at h2 ⊢; omega)]
    exact ⟨B, by simp, by simp, fun T _ _ hB _ => hB⟩
theorem stB_ok {l : List (List C)} {d : Nat} (ih : IH l d) {P A1 B1 A2 B2 Q : List (List C)} {a t mid en b : Int} (h1 : (P.length : Int) = a) (h2 : (P.length : Int) + A1.length = t) (h3 : (P.length : Int) + A1.length + B1.length = mid) (h4 : mid + A2.length = en) (h5 : en + B2.length = b)
    (hd : A1.length + B1.length < d) (hd2 : A2.length + B2.length < d) (hl : (P ++ A1 ++ B1 ++ A2 ++ B2 ++ Q).length ≤ 1000000) :
    ∃ S1 S2, stB l a t mid en b (P ++ A1 ++ B1 ++ A2 ++ B2 ++ Q) = some (.tup [], hS (P ++ (S1 ++ S2) ++ Q) l) ∧ Mg l A1 B1 S1 ∧ Mg l A2 B2 S2 := by
  have fin : ∀ S1, Mg l A1 B1 S1 → ∃ S2, stC l mid en b (P ++ S1 ++ A2 ++ B2 ++ Q) = some (.tup [], hS (P ++ (S1 ++ S2) ++ Q) l) ∧ Mg l A2 B2 S2 := by
    intro S1 hS1
    have hlen := hS1.1.length_eq
    simp only [List.length_append] at hlen hl
    obtain ⟨S2, g1, g2⟩ := stC_ok ih (P := P ++ S1) (A := A2) (B := B2) (Q := Q) (mid := mid) (en := en) (b := b) (by simp; omega) (by simp; omega) (by simp; omega) hd2 (by simp; omega)
    exact ⟨S2, by rw [g1]; simp, g2⟩
  have hz : P ++ A1 ++ B1 ++ A2 ++ B2 ++ Q = P ++ A1 ++ B1 ++ (A2 ++ B2 ++ Q) := by simp
  unfold stB
  by_cases hA : 0 < A1.length
  · by_cases hB : 0 < B1.length
    · obtain ⟨g1, S, g2, g3⟩ := ih P A1 B1 (A2 ++ B2 ++ Q) a t mid hd hA hB h1 h2 h3 (by rw [← hz]; exact hl)
      rw [bcond_of (by simp; omega), bcond_of (by simp; omega), hz, g1, bcond_t, g2]
      obtain ⟨S2, k1, k2⟩ := fin S g3
      refine ⟨S, S2, ?_, g3, k2⟩
      rw [← k1]; simp
    · obtain rfl : B1 = [] := List.eq_nil_of_length_eq_zero (by omega)
      rw [bcond_of (by simp; omega), bcond_no (by simp at h3 ⊢; omega)]
      have g3 : Mg l A1 [] A1 := ⟨by simp, fun T _ hA _ _ => hA⟩
      obtain ⟨S2, k1, k2⟩ := fin A1 g3
      exact ⟨A1, S2, by rw [← k1]; simp, g3, k2⟩
  · obtain rfl : A1 = [] := List.eq_nil_of_length_eq_zero (by omega)
    rw [bcond_no (by simp at h2 ⊢; omega)]
    have g3 : Mg l [] B1 B1 := ⟨by simp, fun T _ _ hB _ => hB⟩
    obtain ⟨S2, k1, k2⟩ := fin B1 g3
    exact ⟨B1, S2, by rw [← k1]; simp, g3, k2⟩
theorem stA_ok {l : List (List C)} {d : Nat} (ih : IH l d) {P A1 A2 B1 B2 Q : List (List C)} {a m b mid t en : Int} (h1 : (P.length : Int) = a) (h2 : (P.length : Int) + A1.length = t) (h3 : t + A2.length = m) (h4 : m + B1.length = en) (h5 : en + B2.length = b) (h6 : (P.length : Int) + A1.length + B1.length = mid)
    (hd : A1.length + B1.length < d) (hd2 : A2.length + B2.length < d) (hl : (P ++ A1 ++ A2 ++ B1 ++ B2 ++ Q).length ≤ 1000000) :
    ∃ S1 S2, stA l a m b mid t en (P ++ A1 ++ A2 ++ B1 ++ B2 ++ Q) = some (.tup [], hS (P ++ (S1 ++ S2) ++ Q) l) ∧ Mg l A1 B1 S1 ∧ Mg l A2 B2 S2 := by
  have hB := stB_ok ih (P := P) (A1 := A1) (B1 := B1) (A2 := A2) (B2 := B2) (Q := Q) (a := a) (t := t) (mid := mid) (en := en) (b := b) h1 h2 h6 (by omega) (by omega) hd hd2 (by simp at hl ⊢; omega)
  unfold stA
  by_cases hA : 0 < A2.length
  · by_cases hB1 : 0 < B1.length
    · have hz : P ++ A1 ++ A2 ++ B1 ++ B2 ++ Q = (P ++ A1) ++ A2 ++ B1 ++ (B2 ++ Q) := by simp
      obtain ⟨g1, g2⟩ := g37_ok (P := P ++ A1) (A := A2) (B := B1) (Q := B2 ++ Q) (l := l) (a := t) (b := m) (c := en) hA hB1 (by simp; omega) (by simp; omega) (by simp; omega) (by rw [← hz]; exact hl)
      rw [bcond_of (by simp; omega), bcond_of (by simp; omega), hz, g1, bcond_t, g2]
      simpa using hB
    · obtain rfl : B1 = [] := List.eq_nil_of_length_eq_zero (by omega)
      rw [bcond_of (by simp; omega), bcond_no (by simp at h4 ⊢; omega)]
      simpa using hB
  · obtain rfl : A2 = [] := List.eq_nil_of_length_eq_zero (by omega)
    rw [bcond_no (by simp at h3 ⊢; omega)]
    simpa using hB
set_option maxHeartbeats 1000000 in
theorem f35_C3 (n : Nat) (hn : 2000000 < n) {l : List (List C)} {d : Nat} (ih : IH l d) (P A B Q : List (List C)) (hl2 : l.length ≤ 1000000) (lo hi mid : Nat) (a m b s pp : Int) (ha : a = (P.length : Int)) (hm : m = a + A.length) (hb : b = m + B.length) (hA : 0 < A.length) (hB : 0 < B.length) (hd : A.length + B.length ≤ d)
    (hmid : mid = (P.length + (P.length + A.length + B.length)) / 2) (hs : s = mid + m) (hpp : pp = s - 1)
    (hlh : (P.length + A.length > mid ∧ lo + B.length = mid ∧ hi = mid) ∨ (P.length + A.length ≤ mid ∧ lo = P.length ∧ hi = P.length + A.length)) (hl : (P ++ A ++ B ++ Q).length ≤ 1000000) :
    ∃ S, evLoop false (f35_s33 n) n (f35_h33 a m b mid s lo hi pp (P ++ A ++ B ++ Q) l) (f35_k33 n) = some (.tup [], hS (P ++ S ++ Q) l) ∧ Mg l A B S := by
  have hlen : (P ++ A ++ B ++ Q).length = P.length + A.length + B.length + Q.length := by simp; omega
  have hatA : ∀ {r u}, A[r]? = some u → el (P ++ A ++ B ++ Q) (P.length + r) = u := fun h => by
    have := el_at (P := P) (Q := B ++ Q) h
    simpa using this
  have hatB : ∀ {r u}, B[r]? = some u → el (P ++ A ++ B ++ Q) (P.length + A.length + r) = u := fun h => el_at2 h
  obtain ⟨xs, hX⟩ : ∃ xs, xs = P ++ A ++ B ++ Q := ⟨_, rfl⟩
  rw [← hX] at hl hlen hatA hatB ⊢
  obtain ⟨q, hq⟩ : ∃ q : Nat, q = mid + (P.length + A.length) - 1 := ⟨_, rfl⟩
  have hppq : pp = (q : Int) := by omega
  obtain ⟨t, t1, t2, t3, t4, t5⟩ := halves (L := fun f i j => evLoop false (f35_s33 n) f (f35_h33 a m b mid s i j pp xs l) (f35_k33 n)) (E := fun t => f35_k33 n (.exit 8) (f35_x33_8 a m b mid s t xs l)) (p := fun c => !decide (cmpN l (el xs (q - c)) (el xs c) < 0)) (lo := lo) (hi := hi)
    (fun f i j h1 h2 h3 => by
      show evLoop false (f35_s33 n) (f + 1) _ _ = _
      have hsub : IntKind.i64.wrap (pp - (((i + j) / 2 : Nat) : Int)) = ((q - (i + j) / 2 : Nat) : Int) := by rw [wrap_ok (by omega) (by omega)]; omega
      rw [f35_t33, bcond_of (by simp; omega), half_nat (by omega), hsub]
      simp only [inB_nat, Int.toNat_natCast]
      rw [bcond_of (by simp; omega), bcond_of (by simp; omega), bcond_of (by simpa using hl2), wrap_succ (by omega)])
    (fun f i h1 h2 => by
      show evLoop false (f35_s33 n) (f + 1) _ _ = _
      rw [f35_t33, bcond_no (by simp)])
    (hi - lo) n lo hi (by omega) (by omega) (Nat.le_refl _) (by omega) (Nat.le_refl _) (.inl rfl) (.inl rfl)
  have e0 : evLoop false (f35_s33 n) n (f35_h33 a m b mid s lo hi pp xs l) (f35_k33 n) = stA l a m b mid t (IntKind.i64.wrap (s - (t : Int))) xs := t3.trans (f35_fin ..)
  obtain ⟨r, rfl⟩ : ∃ r, t = P.length + r := ⟨t - P.length, by omega⟩
  obtain ⟨en, hen⟩ : ∃ en : Nat, en + (P.length + r) = mid + (P.length + A.length) := ⟨mid + (P.length + A.length) - (P.length + r), by omega⟩
  obtain ⟨w, hw⟩ : ∃ w : Nat, en = P.length + A.length + w := ⟨en - (P.length + A.length), by omega⟩
  have hlA : (A.take r).length = r := by simp; omega
  have hlA2 : (A.drop r).length = A.length - r := by simp
  have hlB : (B.take w).length = w := by simp; omega
  have hlB2 : (B.drop w).length = B.length - w := by simp
  have hXX : xs = P ++ A.take r ++ A.drop r ++ B.take w ++ B.drop w ++ Q := by
    have h1 : P ++ A.take r ++ A.drop r ++ B.take w ++ B.drop w ++ Q = P ++ (A.take r ++ A.drop r) ++ (B.take w ++ B.drop w) ++ Q := by simp only [List.append_assoc]
    rw [h1, List.take_append_drop, List.take_append_drop, hX]
  rw [e0, wrap_ok (by omega) (by omega), hXX]
  obtain ⟨S1, S2, g1, g2, g3⟩ := stA_ok ih (P := P) (A1 := A.take r) (A2 := A.drop r) (B1 := B.take w) (B2 := B.drop w) (Q := Q) (a := a) (m := m) (b := b) (mid := mid) (t := ((P.length + r : Nat) : Int)) (en := s - ((P.length + r : Nat) : Int)) ha.symm (by omega) (by omega) (by omega) (by omega) (by omega) (by omega) (by omega) (by rw [← hXX]; exact hl)
  refine ⟨S1 ++ S2, g1, ?_, fun T hT pA pB pT => ?_⟩
  · refine (g2.1.append g3.1).trans ?_
    have h1 : (A.take r ++ B.take w ++ (A.drop r ++ B.drop w)).Perm (A.take r ++ A.drop r ++ (B.take w ++ B.drop w)) := by
      simp only [List.append_assoc]
      refine List.Perm.append_left _ ?_
      rw [← List.append_assoc, ← List.append_assoc]
      exact List.Perm.append_right _ List.perm_append_comm
    rw [List.take_append_drop, List.take_append_drop] at h1
    exact h1
  · have sA := pA
    have sB := pB
    rw [← List.take_append_drop r A] at sA
    rw [← List.take_append_drop w B] at sB
    have uA := List.pairwise_append.1 sA
    have uB := List.pairwise_append.1 sB
    refine cross sA sB (fun x hx y hy => pT x (List.mem_of_mem_take hx) y (List.mem_of_mem_drop hy)) (fun u hu v hv => ?_) (fun u hu v hv => ?_) g2.1 g3.1
      (g2.2 T hT uA.1 uB.1 fun x hx y hy => pT x (List.mem_of_mem_take hx) y (List.mem_of_mem_take hy)) (g3.2 T hT uA.2.1 uB.2.1 fun x hx y hy => pT x (List.mem_of_mem_drop hx) y (List.mem_of_mem_drop hy))
    · obtain ⟨i, hi1, hu⟩ := mem_take_idx hu
      obtain ⟨j, hj1, hv⟩ := mem_drop_idx hv
      have hil := (List.getElem?_eq_some_iff.1 hu).1
      have hjl := (List.getElem?_eq_some_iff.1 hv).1
      rcases t4 with t4 | t4
      · omega
      · simp only [Bool.not_eq_true', decide_eq_false_iff_not] at t4
        have k1 : A[r - 1]? = some A[r - 1] := List.getElem?_eq_getElem (by omega)
        have k2 : B[w]? = some B[w] := List.getElem?_eq_getElem (by omega)
        have k3 := hatA k1
        have k4 := hatB k2
        rw [show P.length + (r - 1) = P.length + r - 1 from by omega] at k3
        rw [show P.length + A.length + w = q - (P.length + r - 1) from by omega] at k4
        rw [k3, k4] at t4
        exact (swN l).neg _ _ _ (idx_le pB k2 hv hj1) ((swN l).neg _ _ _ t4 (idx_le pA hu k1 (by omega)))
    · obtain ⟨i, hi1, hu⟩ := mem_drop_idx hu
      obtain ⟨j, hj1, hv⟩ := mem_take_idx hv
      have hil := (List.getElem?_eq_some_iff.1 hu).1
      have hjl := (List.getElem?_eq_some_iff.1 hv).1
      rcases t5 with t5 | t5
      · omega
      · simp only [Bool.not_eq_false', decide_eq_true_eq] at t5
        have k1 : A[r]? = some A[r] := List.getElem?_eq_getElem (by omega)
        have k2 : B[w - 1]? = some B[w - 1] := List.getElem?_eq_getElem (by omega)
        have k3 := hatA k1
        have k4 := hatB k2
        rw [show P.length + A.length + (w - 1) = q - (P.length + r) from by omega] at k4
        rw [k3, k4] at t5
        exact (swN l).lt_le ((swN l).le_lt (idx_le pB hv k2 (by omega)) t5) (idx_le pA k1 hu hi1)
set_option maxHeartbeats 1000000 in
theorem at35 {l : List (List C)} (hl2 : l.length ≤ 1000000) : ∀ d, IH l d := by
  intro d
  induction d with
  | zero => intro P A B Q a m b h; omega
  | succ d ih =>
    intro P A B Q a m b hd hA hB h1 h2 h3 hl
    have hlen : (P ++ A ++ B ++ Q).length = P.length + A.length + B.length + Q.length := by simp; omega
    have key : ∃ S, evFn tab FK oY false lv35 false 2000001 Try.f35 [vD, vI a, vI m, vI b, vF] (hS (P ++ A ++ B ++ Q) l) = some (.tup [], hS (P ++ S ++ Q) l) ∧ Mg l A B S := by
      rw [f35_eq, wrap_ok (a := m - a) (by omega) (by omega), wrap_ok (a := b - m) (by omega) (by omega)]
      by_cases hA1 : A.length = 1
      · obtain ⟨x, rfl⟩ : ∃ x, A = [x] := by
          cases A with
          | nil => cases hA1
          | cons x A => cases A with
            | nil => exact ⟨x, rfl⟩
            | cons _ _ => simp at hA1
        rw [bcond_of (by simp at h2 ⊢; omega)]
        exact f35_c1 2000001 (by omega) l P Q hl2 x B a m b h1.symm (by simp at h2; omega) (by simp at h2 h3; omega) hl
      · rw [bcond_no (by simp; omega)]
        by_cases hB1 : B.length = 1
        · obtain ⟨y, rfl⟩ : ∃ x, B = [x] := by
            cases B with
            | nil => cases hB1
            | cons x A => cases A with
              | nil => exact ⟨x, rfl⟩
              | cons _ _ => simp at hB1
          rw [bcond_of (by simp at h3 ⊢; omega)]
          exact f35_c2 2000001 (by omega) l P Q hl2 y A a m h1.symm (by omega) hl
        · rw [bcond_no (by simp; omega)]
          have hh : IntKind.i64.wrap (ishr IntKind.u64 (IntKind.u64.wrap (IntKind.i64.wrap (a + b))) 1) = (((P.length + (P.length + A.length + B.length)) / 2 : Nat) : Int) := by
            rw [← half_nat (by omega), ← h1, ← h3]
            rfl
          obtain ⟨mid, hmid⟩ : ∃ mid, mid = (P.length + (P.length + A.length + B.length)) / 2 := ⟨_, rfl⟩
          rw [hh, ← hmid, wrap_ok (a := (mid : Int) + m) (by omega) (by omega), wrap_ok (a := (mid : Int) + m - b) (by omega) (by omega), wrap_ok (a := (mid : Int) + m - 1) (by omega) (by omega)]
          by_cases hc : P.length + A.length > mid
          · rw [bcond_of (by simp; omega)]
            obtain ⟨lo, hlo⟩ : ∃ lo : Nat, lo + B.length = mid := ⟨mid - B.length, by omega⟩
            rw [show (mid : Int) + m - b = (lo : Int) from by omega]
            exact f35_C3 2000001 (by omega) ih P A B Q hl2 lo mid mid a m b _ _ h1.symm (by omega) (by omega) hA hB (by omega) hmid rfl rfl (.inl ⟨hc, hlo, rfl⟩) hl
          · rw [bcond_no (by simp; omega)]
            have := f35_C3 2000001 (by omega) ih P A B Q hl2 P.length (P.length + A.length) mid a m b _ _ h1.symm (by omega) (by omega) hA hB (by omega) hmid rfl rfl (.inr ⟨by omega, rfl, rfl⟩) hl
            rw [h1, show ((P.length + A.length : Nat) : Int) = m from by omega] at this
            exact this
    obtain ⟨S, g1, g2⟩ := key
    have hS : S35 (P ++ A ++ B ++ Q) l a m b (P ++ S ++ Q) := by
      refine ⟨fn35 sFK rfl (bp := false) (own := oY) (ownR := false) (n := 2000001) g1, fun P' A' B' Q' he e1 e2 e3 => ?_⟩
      simp only [List.append_assoc] at he
      obtain ⟨q1, he⟩ := List.append_inj he (by omega)
      obtain ⟨q2, he⟩ := List.append_inj he (by omega)
      obtain ⟨q3, q4⟩ := List.append_inj he (by omega)
      subst q1 q2 q3 q4
      exact ⟨S, rfl, g2.1, g2.2⟩
    unfold g35 y35
    exact ⟨some_ok hS, (pick_ok hS).2 P A B Q rfl h1 h2 h3⟩
noncomputable def FL : Fun := mkF [(34, e34), (35, e35)]
theorem sFL : FSound Try.prog tab FL := mkF_sound (fun p hp => by
  simp only [List.mem_cons, List.not_mem_nil, or_false] at hp
  rcases hp with rfl | rfl
  · exact es34
  · exact es35)
noncomputable abbrev f30_c2 : Code := (loops (body Try.f30)).getD 0 .skip
noncomputable abbrev f30_s2 (n : Nat) : St → (X → St → Option R) → Option R := fun st k => evCode tab FL oY lv30 false n f30_c2 st k
noncomputable abbrev f30_k2 (n : Nat) : X → St → Option R := after tab FL oY lv30 false n (body Try.f30) 0 (endK tab false Try.f30)
abbrev f30_h2 (s1 : Int) (s6 : Int) (s7 : Int) (s8 : Int) (e0 : List (List C)) (e1_0 : List (List C)) : St := { t := [((0 : Nat), V.one (A.own (Key.ext (0 : Nat)) (0 : Nat) (39 : Nat))), ((1 : Nat), V.one (A.c (C.int IntKind.i64 s1))), ((2 : Nat), V.one (A.fn (25 : Nat) [(Key.ext (1 : Nat), (0 : Nat))])), ((6 : Nat), V.one (A.c (C.int IntKind.i64 s6))), ((7 : Nat), V.one (A.c (C.int IntKind.i64 s7))), ((8 : Nat), V.one (A.c (C.int IntKind.i64 s8)))], h := [(Key.ext (0 : Nat), (0 : Nat), B.arr (39 : Nat) true e0), (Key.ext (1 : Nat), (0 : Nat), B.box (22 : Nat) [C.sl (27 : Nat) e1_0] [])] }
abbrev f30_x2_0 (s1 : Int) (s6 : Int) (s7 : Int) (e0 : List (List C)) (e1_0 : List (List C)) : St := { t := [((0 : Nat), V.one (A.own (Key.ext (0 : Nat)) (0 : Nat) (39 : Nat))), ((1 : Nat), V.one (A.c (C.int IntKind.i64 s1))), ((2 : Nat), V.one (A.fn (25 : Nat) [(Key.ext (1 : Nat), (0 : Nat))])), ((6 : Nat), V.one (A.c (C.int IntKind.i64 s6))), ((7 : Nat), V.one (A.c (C.int IntKind.i64 s7)))], h := [(Key.ext (0 : Nat), (0 : Nat), B.arr (39 : Nat) true e0), (Key.ext (1 : Nat), (0 : Nat), B.box (22 : Nat) [C.sl (27 : Nat) e1_0] [])] }
noncomputable abbrev f30_c7 : Code := (loops (body Try.f30)).getD 1 .skip
noncomputable abbrev f30_s7 (n : Nat) : St → (X → St → Option R) → Option R := fun st k => evCode tab FL oY lv30 false n f30_c7 st k
noncomputable abbrev f30_k7 (n : Nat) : X → St → Option R := after tab FL oY lv30 false n (body Try.f30) 1 (endK tab false Try.f30)
abbrev f30_h7 (s1 : Int) (s6 : Int) (e0 : List (List C)) (e1_0 : List (List C)) : St := { t := [((0 : Nat), V.one (A.own (Key.ext (0 : Nat)) (0 : Nat) (39 : Nat))), ((1 : Nat), V.one (A.c (C.int IntKind.i64 s1))), ((2 : Nat), V.one (A.fn (25 : Nat) [(Key.ext (1 : Nat), (0 : Nat))])), ((6 : Nat), V.one (A.c (C.int IntKind.i64 s6)))], h := [(Key.ext (0 : Nat), (0 : Nat), B.arr (39 : Nat) true e0), (Key.ext (1 : Nat), (0 : Nat), B.box (22 : Nat) [C.sl (27 : Nat) e1_0] [])] }
noncomputable abbrev f30_c9 : Code := (loops (f30_c7)).getD 0 .skip
noncomputable abbrev f30_s9 (n : Nat) : St → (X → St → Option R) → Option R := fun st k => evCode tab FL oY lv30 false n f30_c9 st k
noncomputable abbrev f30_k9 (n m : Nat) (k : X → St → Option R) : X → St → Option R := after tab FL oY lv30 false n f30_c7 0 (backK false (f30_s7 n) m k)
abbrev f30_h9 (s1 : Int) (s6 : Int) (s7 : Int) (s8 : Int) (e0 : List (List C)) (e1_0 : List (List C)) : St := { t := [((0 : Nat), V.one (A.own (Key.ext (0 : Nat)) (0 : Nat) (39 : Nat))), ((1 : Nat), V.one (A.c (C.int IntKind.i64 s1))), ((2 : Nat), V.one (A.fn (25 : Nat) [(Key.ext (1 : Nat), (0 : Nat))])), ((6 : Nat), V.one (A.c (C.int IntKind.i64 s6))), ((7 : Nat), V.one (A.c (C.int IntKind.i64 s7))), ((8 : Nat), V.one (A.c (C.int IntKind.i64 s8)))], h := [(Key.ext (0 : Nat), (0 : Nat), B.arr (39 : Nat) true e0), (Key.ext (1 : Nat), (0 : Nat), B.box (22 : Nat) [C.sl (27 : Nat) e1_0] [])] }
abbrev f30_x9_4 (s1 : Int) (s6 : Int) (s7 : Int) (e0 : List (List C)) (e1_0 : List (List C)) : St := { t := [((0 : Nat), V.one (A.own (Key.ext (0 : Nat)) (0 : Nat) (39 : Nat))), ((1 : Nat), V.one (A.c (C.int IntKind.i64 s1))), ((2 : Nat), V.one (A.fn (25 : Nat) [(Key.ext (1 : Nat), (0 : Nat))])), ((6 : Nat), V.one (A.c (C.int IntKind.i64 s6))), ((7 : Nat), V.one (A.c (C.int IntKind.i64 s7)))], h := [(Key.ext (0 : Nat), (0 : Nat), B.arr (39 : Nat) true e0), (Key.ext (1 : Nat), (0 : Nat), B.box (22 : Nat) [C.sl (27 : Nat) e1_0] [])] }
abbrev f30_x7_2 (e0 : List (List C)) (e1_0 : List (List C)) : St := { t := [], h := [(Key.ext (0 : Nat), (0 : Nat), B.arr (39 : Nat) true e0), (Key.ext (1 : Nat), (0 : Nat), B.box (22 : Nat) [C.sl (27 : Nat) e1_0] [])] }
theorem f30_t2 (n m : Nat) (k : X → St → Option R) (s1 : Int) (s6 : Int) (s7 : Int) (s8 : Int) (e0 : List (List C)) (e1_0 : List (List C)) : evLoop false (f30_s2 n) (m + 1) (f30_h2 s1 s6 s7 s8 e0 e1_0) k = bcond (decide (s8 ≤ s1)) (bcond (g34 e0 e1_0 s7 s8) (evLoop false (f30_s2 n) m (f30_h2 (s1) (s6) (s8) (IntKind.i64.wrap (s8 + s6)) (y34 e0 e1_0 s7 s8) (e1_0)) k) (none)) (k (X.exit 0) (f30_x2_0 (s1) (s6) (s7) (e0) (e1_0))) := by kernel_rfl
theorem f30_a2_0 (n : Nat) (s1 : Int) (s6 : Int) (s7 : Int) (e0 : List (List C)) (e1_0 : List (List C)) : f30_k2 n (X.exit 0) (f30_x2_0 s1 s6 s7 e0 e1_0) = bcond (g34 e0 e1_0 s7 s1) (evLoop false (f30_s7 n) n (f30_h7 (s1) (s6) (y34 e0 e1_0 s7 s1) (e1_0)) (f30_k7 n)) (none) := by kernel_rfl
theorem f30_t7 (n m : Nat) (k : X → St → Option R) (s1 : Int) (s6 : Int) (e0 : List (List C)) (e1_0 : List (List C)) : evLoop false (f30_s7 n) (m + 1) (f30_h7 s1 s6 e0 e1_0) k = bcond (decide (s6 < s1)) (evLoop false (f30_s9 n) n (f30_h9 (s1) (s6) ((0 : Int)) (IntKind.i64.wrap ((2 : Int) * s6)) (e0) (e1_0)) (f30_k9 n m k)) (k (X.exit 2) (f30_x7_2 (e0) (e1_0))) := by kernel_rfl
theorem f30_t9 (n m : Nat) (k : X → St → Option R) (s1 : Int) (s6 : Int) (s7 : Int) (s8 : Int) (e0 : List (List C)) (e1_0 : List (List C)) : evLoop false (f30_s9 n) (m + 1) (f30_h9 s1 s6 s7 s8 e0 e1_0) k = bcond (decide (s8 ≤ s1)) (bcond (g35 e0 e1_0 s7 (IntKind.i64.wrap (s7 + s6)) s8) (evLoop false (f30_s9 n) m (f30_h9 (s1) (s6) (s8) (IntKind.i64.wrap (s8 + IntKind.i64.wrap ((2 : Int) * s6))) (y35 e0 e1_0 s7 (IntKind.i64.wrap (s7 + s6)) s8) (e1_0)) k) (none)) (k (X.exit 4) (f30_x9_4 (s1) (s6) (s7) (e0) (e1_0))) := by kernel_rfl
theorem f30_a9_4 (n m : Nat) (k : X → St → Option R) (s1 : Int) (s6 : Int) (s7 : Int) (e0 : List (List C)) (e1_0 : List (List C)) : f30_k9 n m k (X.exit 4) (f30_x9_4 s1 s6 s7 e0 e1_0) = bcond (decide (IntKind.i64.wrap (s7 + s6) < s1)) (bcond (g35 e0 e1_0 s7 (IntKind.i64.wrap (s7 + s6)) s1) (evLoop false (f30_s7 n) m (f30_h7 (s1) (IntKind.i64.wrap (s6 * (2 : Int))) (y35 e0 e1_0 s7 (IntKind.i64.wrap (s7 + s6)) s1) (e1_0)) k) (none)) (evLoop false (f30_s7 n) m (f30_h7 (s1) (IntKind.i64.wrap (s6 * (2 : Int))) (e0) (e1_0)) k) := by kernel_rfl
theorem f30_a7_2 (n : Nat) (e0 : List (List C)) (e1_0 : List (List C)) : f30_k7 n (X.exit 2) (f30_x7_2 e0 e1_0) = some ((V.tup [], [(Key.ext (0 : Nat), (0 : Nat), B.arr (39 : Nat) true e0), (Key.ext (1 : Nat), (0 : Nat), B.box (22 : Nat) [C.sl (27 : Nat) e1_0] [])])) := by kernel_rfl
theorem f30_eq (n : Nat) (xs : List (List C)) (l : List (List C)) (c : Int) : evFn tab FL oY false lv30 false n Try.f30 [.one (.own (.ext 0) 0 39), .one (.c (.int .i64 c)), .one (.fn 25 [(.ext 1, 0)])] [(.ext 0, (0, .arr 39 true xs)), (.ext 1, (0, .box 22 [.sl 27 l] []))] = evLoop false (f30_s2 n) n (f30_h2 (c) ((20 : Int)) ((0 : Int)) ((20 : Int)) (xs) (l)) (f30_k2 n) := by kernel_rfl

end Go.Proofs.Ytdcdccdhdingbaa
