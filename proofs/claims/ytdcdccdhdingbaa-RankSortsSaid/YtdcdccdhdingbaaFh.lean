/- Fh -/
import Derived.Test.YtdcdccdhdingbaaFg
import Derived.KernelRfl
namespace Go.Proofs.Ytdcdccdhdingbaa
open Go Go.Eng
set_option maxRecDepth 100000
theorem el_at {P A Q : List (List C)} {r : Nat} {y : List C} (h : A[r]? = some y) : el (P ++ A ++ Q) (P.length + r) = y := by
  have hr := (List.getElem?_eq_some_iff.1 h).1
  refine el_get ?_
  rw [List.append_assoc, List.getElem?_append_right (by omega), Nat.add_sub_cancel_left, List.getElem?_append_left hr]
  exact h
theorem el_at2 {P A B Q : List (List C)} {r : Nat} {y : List C} (h : B[r]? = some y) : el (P ++ A ++ B ++ Q) (P.length + A.length + r) = y := by
  have := el_at (P := P ++ A) (Q := Q) h
  rwa [List.length_append] at this
theorem idx_le {l : List (List C)} {T : List C → List C → Prop} {A : List (List C)} (h : A.Pairwise (RN l T)) {i j : Nat} {x y : List C} (hx : A[i]? = some x) (hy : A[j]? = some y) (hij : i ≤ j) : ¬ ltN l y x := by
  rcases Nat.eq_or_lt_of_le hij with rfl | hij
  · rw [hx] at hy
    cases hy
    exact fun hc => (swN l).asym _ _ hc hc
  · obtain ⟨h1, rfl⟩ := List.getElem?_eq_some_iff.1 hx
    obtain ⟨h2, rfl⟩ := List.getElem?_eq_some_iff.1 hy
    exact Rr.le (swN l) (List.pairwise_iff_getElem.1 h i j h1 h2 hij)
theorem mem_take_idx {A : List (List C)} {k : Nat} {x : List C} (h : x ∈ A.take k) : ∃ i, i < k ∧ A[i]? = some x := by
  obtain ⟨i, hi⟩ := List.mem_iff_getElem?.1 h
  have := (List.getElem?_eq_some_iff.1 hi).1
  rw [List.length_take] at this
  rw [List.getElem?_take, if_pos (by omega)] at hi
  exact ⟨i, by omega, hi⟩
theorem mem_drop_idx {A : List (List C)} {k : Nat} {x : List C} (h : x ∈ A.drop k) : ∃ i, k ≤ i ∧ A[i]? = some x := by
  obtain ⟨i, hi⟩ := List.mem_iff_getElem?.1 h
  rw [List.getElem?_drop] at hi
  exact ⟨_, by omega, hi⟩
/-- Two pairs of stretches, crosswise in order. -/
theorem cross {l : List (List C)} {T : List C → List C → Prop} {A1 A2 B1 B2 S1 S2 : List (List C)} (hA : (A1 ++ A2).Pairwise (RN l T)) (hB : (B1 ++ B2).Pairwise (RN l T)) (hT : ∀ x ∈ A1, ∀ y ∈ B2, T x y)
    (H1 : ∀ u ∈ A1, ∀ v ∈ B2, ¬ ltN l v u) (H2 : ∀ u ∈ A2, ∀ v ∈ B1, ltN l v u) (p1 : S1.Perm (A1 ++ B1)) (p2 : S2.Perm (A2 ++ B2)) (s1 : S1.Pairwise (RN l T)) (s2 : S2.Pairwise (RN l T)) : (S1 ++ S2).Pairwise (RN l T) := by
  rw [List.pairwise_append] at hA hB ⊢
  refine ⟨s1, s2, fun u hu v hv => ?_⟩
  rcases List.mem_append.1 (p1.mem_iff.1 hu) with hu | hu <;> rcases List.mem_append.1 (p2.mem_iff.1 hv) with hv | hv
  · exact hA.2.2 u hu v hv
  · exact .inr ⟨H1 u hu v hv, hT u hu v hv⟩
  · exact .inl (H2 v hv u hu)
  · exact hB.2.2 u hu v hv
/-- What a merge is to give. -/
def Mg (l A B S : List (List C)) : Prop := S.Perm (A ++ B) ∧ ∀ T, Tr T → A.Pairwise (RN l T) → B.Pairwise (RN l T) → (∀ x ∈ A, ∀ y ∈ B, T x y) → S.Pairwise (RN l T)
theorem f35_c1 (n : Nat) (hn : 2000000 < n) (l P Q : List (List C)) (hl2 : l.length ≤ 1000000) (x : List C) (B : List (List C)) (a b c : Int) (ha : a = (P.length : Int)) (hb : b = a + 1) (hc : c = b + B.length) (hl : (P ++ [x] ++ B ++ Q).length ≤ 1000000) :
    ∃ S, evLoop false (f35_s3 n) n (f35_h3 a b c (P ++ [x] ++ B ++ Q) l) (f35_k3 n) = some (.tup [], hS (P ++ S ++ Q) l) ∧ Mg l [x] B S := by
  have hxs : el (P ++ [x] ++ B ++ Q) P.length = x := by rw [show P ++ [x] ++ B ++ Q = P ++ x :: (B ++ Q) from by simp]; exact el_mid _ _ _
  have hlen : (P ++ [x] ++ B ++ Q).length = P.length + 1 + B.length + Q.length := by simp; omega
  have hat : ∀ {r y}, B[r]? = some y → el (P ++ [x] ++ B ++ Q) (P.length + 1 + r) = y := fun h => el_at2 (A := [x]) h
  have hB0 : ∃ xs, xs = P ++ [x] ++ B ++ Q := ⟨_, rfl⟩
  obtain ⟨xs, hX⟩ := hB0
  rw [← hX] at hl hxs hlen hat ⊢
  obtain ⟨t, t1, t2, t3, t4, t5⟩ := halves (L := fun m i j => evLoop false (f35_s3 n) m (f35_h3 a i j xs l) (f35_k3 n)) (E := fun t => f35_k3 n (.exit 0) (f35_x3_0 a t xs l)) (p := fun h => decide (cmpN l (el xs h) x < 0)) (lo := P.length + 1) (hi := P.length + 1 + B.length)
    (fun m i j h1 h2 h3 => by
      show evLoop false (f35_s3 n) (m + 1) _ _ = _
      rw [f35_t3, bcond_of (by simp; omega), half_nat (by omega), ha]
      simp only [inB_nat, Int.toNat_natCast, hxs]
      rw [bcond_of (by simp; omega), bcond_of (by simp; omega), bcond_of (by simpa using hl2), wrap_succ (by omega)])
    (fun m i h1 h2 => by
      show evLoop false (f35_s3 n) (m + 1) _ _ = _
      rw [f35_t3, bcond_no (by simp)])
    B.length n (P.length + 1) (P.length + 1 + B.length) (by omega) (by omega) (Nat.le_refl _) (by omega) (Nat.le_refl _) (.inl rfl) (.inl rfl)
  obtain ⟨r, rfl⟩ : ∃ r, t = P.length + 1 + r := ⟨t - (P.length + 1), by omega⟩
  have hlr : (B.take r).length = r := by simp; omega
  refine ⟨B.take r ++ x :: B.drop r, ?_, ?_, fun T hT hA hB hAB => ?_⟩
  · rw [show b = ((P.length + 1 : Nat) : Int) from by omega, show c = ((P.length + 1 + B.length : Nat) : Int) from by omega, t3, f35_a3_0, hX]
    have := f35_L9 n l (B.drop r ++ Q) x ((P.length + 1 + r : Nat) : Int) (B.take r) P a n (by omega) ha (by omega) (by rw [show (P ++ x :: B.take r ++ (B.drop r ++ Q)) = P ++ [x] ++ (B.take r ++ B.drop r) ++ Q from by simp only [List.append_assoc, List.cons_append, List.nil_append], List.take_append_drop, ← hX]; omega)
    rw [show (P ++ x :: B.take r ++ (B.drop r ++ Q)) = P ++ [x] ++ (B.take r ++ B.drop r) ++ Q from by simp only [List.append_assoc, List.cons_append, List.nil_append], List.take_append_drop] at this
    rw [this]
    simp
  · refine List.perm_middle.trans ?_
    rw [List.take_append_drop]
    exact List.Perm.refl _
  · have hB2 := hB
    rw [← List.take_append_drop r B] at hB
    have := cross (A1 := []) (A2 := [x]) (S1 := B.take r) (S2 := x :: B.drop r) (by simp) hB (fun _ h => by cases h) (fun _ h => by cases h) (fun u hu v hv => by
      obtain ⟨i, hi, hv⟩ := mem_take_idx hv
      rw [List.mem_singleton.1 hu]
      rcases t4 with t4 | t4
      · omega
      · rw [decide_eq_true_eq] at t4
        have hr : r - 1 < B.length := by omega
        have hg : B[r - 1]? = some B[r - 1] := List.getElem?_eq_getElem hr
        have h3 := hat hg
        rw [show P.length + 1 + (r - 1) = P.length + 1 + r - 1 from by omega] at h3
        rw [h3] at t4
        exact (swN l).le_lt (idx_le hB2 hv hg (by omega)) t4) (by simp) (List.Perm.refl _) (List.Pairwise.sublist (List.take_sublist ..) hB2) (by
      rw [List.pairwise_cons]
      refine ⟨fun v hv => ?_, List.Pairwise.sublist (List.drop_sublist ..) hB2⟩
      obtain ⟨i, hi, hv2⟩ := mem_drop_idx hv
      refine .inr ⟨?_, hAB x (by simp) v (List.mem_of_mem_drop hv)⟩
      have hil := (List.getElem?_eq_some_iff.1 hv2).1
      rcases t5 with t5 | t5
      · omega
      · rw [decide_eq_false_iff_not] at t5
        have hg : B[r]? = some B[r] := List.getElem?_eq_getElem (by omega)
        rw [hat hg] at t5
        exact (swN l).neg _ _ _ (idx_le hB2 hg hv2 hi) t5)
    exact this
theorem f35_c2 (n : Nat) (hn : 2000000 < n) (l P Q : List (List C)) (hl2 : l.length ≤ 1000000) (y : List C) (A : List (List C)) (a b : Int) (ha : a = (P.length : Int)) (hb : b = a + A.length) (hl : (P ++ A ++ [y] ++ Q).length ≤ 1000000) :
    ∃ S, evLoop false (f35_s15 n) n (f35_h15 b a b (P ++ A ++ [y] ++ Q) l) (f35_k15 n) = some (.tup [], hS (P ++ S ++ Q) l) ∧ Mg l A [y] S := by
  have hxs : el (P ++ A ++ [y] ++ Q) (P.length + A.length) = y := by rw [show P ++ A ++ [y] ++ Q = (P ++ A) ++ y :: Q from by simp, ← List.length_append]; exact el_mid _ _ _
  have hlen : (P ++ A ++ [y] ++ Q).length = P.length + A.length + 1 + Q.length := by simp; omega
  have hat : ∀ {r u}, A[r]? = some u → el (P ++ A ++ [y] ++ Q) (P.length + r) = u := fun h => by
    have := el_at (P := P) (Q := [y] ++ Q) h
    simpa using this
  have hB0 : ∃ xs, xs = P ++ A ++ [y] ++ Q := ⟨_, rfl⟩
  obtain ⟨xs, hX⟩ := hB0
  rw [← hX] at hl hxs hlen hat ⊢
  have hbN : b = ((P.length + A.length : Nat) : Int) := by omega
  obtain ⟨t, t1, t2, t3, t4, t5⟩ := halves (L := fun m i j => evLoop false (f35_s15 n) m (f35_h15 b i j xs l) (f35_k15 n)) (E := fun t => f35_k15 n (.exit 4) (f35_x15_4 b t xs l)) (p := fun h => !decide (cmpN l y (el xs h) < 0)) (lo := P.length) (hi := P.length + A.length)
    (fun m i j h1 h2 h3 => by
      show evLoop false (f35_s15 n) (m + 1) _ _ = _
      rw [f35_t15, bcond_of (by simp; omega), half_nat (by omega), hbN]
      simp only [inB_nat, Int.toNat_natCast, hxs]
      rw [bcond_of (by simp; omega), bcond_of (by simp; omega), bcond_of (by simpa using hl2), wrap_succ (by omega)])
    (fun m i h1 h2 => by
      show evLoop false (f35_s15 n) (m + 1) _ _ = _
      rw [f35_t15, bcond_no (by simp)])
    A.length n P.length (P.length + A.length) (by omega) (by omega) (Nat.le_refl _) (by omega) (Nat.le_refl _) (.inl rfl) (.inl rfl)
  obtain ⟨r, rfl⟩ : ∃ r, t = P.length + r := ⟨t - P.length, by omega⟩
  have hlr : (A.take r).length = r := by simp; omega
  have hld : (A.drop r).length = A.length - r := by simp
  refine ⟨A.take r ++ y :: A.drop r, ?_, ?_, fun T hT hA hB hAB => ?_⟩
  · have h0 : evLoop false (f35_s15 n) n (f35_h15 b a b xs l) (f35_k15 n) = f35_k15 n (.exit 4) (f35_x15_4 b ((P.length + r : Nat) : Int) xs l) := by
      rw [← t3]
      show evLoop false (f35_s15 n) n (f35_h15 b a b xs l) (f35_k15 n) = evLoop false (f35_s15 n) n (f35_h15 b (P.length : Int) ((P.length + A.length : Nat) : Int) xs l) (f35_k15 n)
      rw [ha, ← hbN]
    rw [h0, f35_a15_4, hX]
    have := f35_L21 n l (P ++ A.take r) y ((P.length + r : Nat) : Int) (by simp; omega) (A.drop r).length (A.drop r) Q b n rfl (by omega) (by omega) (by rw [show (P ++ A.take r ++ A.drop r ++ y :: Q) = P ++ (A.take r ++ A.drop r) ++ [y] ++ Q from by simp only [List.append_assoc, List.cons_append, List.nil_append], List.take_append_drop, ← hX]; omega)
    rw [show (P ++ A.take r ++ A.drop r ++ y :: Q) = P ++ (A.take r ++ A.drop r) ++ [y] ++ Q from by simp only [List.append_assoc, List.cons_append, List.nil_append], List.take_append_drop] at this
    rw [this]
    simp
  · refine List.perm_middle.trans ?_
    rw [List.take_append_drop]
    exact List.perm_append_comm (l₁ := [y])
  · have hA2 := hA
    rw [← List.take_append_drop r A] at hA
    rw [show A.take r ++ y :: A.drop r = (A.take r ++ [y]) ++ A.drop r from by simp]
    exact cross (B1 := [y]) (B2 := []) (S1 := A.take r ++ [y]) (S2 := A.drop r) hA (by simp) (fun _ _ _ h => by cases h) (fun _ _ _ h => by cases h) (fun u hu v hv => by
      obtain ⟨i, hi, hu⟩ := mem_drop_idx hu
      have hil := (List.getElem?_eq_some_iff.1 hu).1
      rw [List.mem_singleton.1 hv]
      rcases t5 with t5 | t5
      · omega
      · simp only [Bool.not_eq_false', decide_eq_true_eq] at t5
        have hg : A[r]? = some A[r] := List.getElem?_eq_getElem (by omega)
        rw [hat hg] at t5
        exact (swN l).lt_le t5 (idx_le hA2 hg hu hi)) (List.Perm.refl _) (by simp) (by
      rw [List.pairwise_append]
      refine ⟨List.Pairwise.sublist (List.take_sublist ..) hA2, by simp, fun u hu v hv => ?_⟩
      rw [List.mem_singleton.1 hv]
      obtain ⟨i, hi, hu2⟩ := mem_take_idx hu
      refine .inr ⟨?_, hAB u (List.mem_of_mem_take hu) y (by simp)⟩
      rcases t4 with t4 | t4
      · omega
      · simp only [Bool.not_eq_true', decide_eq_false_iff_not] at t4
        have hg : A[r - 1]? = some A[r - 1] := List.getElem?_eq_getElem (by omega)
        have h3 := hat hg
        rw [show P.length + (r - 1) = P.length + r - 1 from by omega] at h3
        rw [h3] at t4
        exact (swN l).neg _ _ _ t4 (idx_le hA2 hu2 hg (by omega))) (List.Pairwise.sublist (List.drop_sublist ..) hA2)

end Go.Proofs.Ytdcdccdhdingbaa
