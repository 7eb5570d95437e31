/- Wa -/
import Derived.Test.YtdcdccdhdingbaaFk
import Derived.KernelRfl
namespace Go.Proofs.Ytdcdccdhdingbaa
open Go Go.Eng
set_option maxRecDepth 100000
/-! ### Addresses, as bytes -/
theorem wks_u8 : ∀ (n : Nat) (x : List C) (ks : List K), WKs (List.replicate n (.int .u8) ++ ks) x → (∀ c ∈ x, Wf tab c) → ∃ (l : List Nat) (y : List C), l.length = n ∧ (∀ m ∈ l, m < 256) ∧ x = u16 l ++ y ∧ WKs ks y
  | 0, x, ks, h, _ => ⟨[], x, rfl, fun _ h => (by cases h), rfl, h⟩
  | n + 1, [], ks, h, _ => h.elim
  | n + 1, c :: x, ks, h, hw => by
    rw [List.replicate_succ, List.cons_append] at h
    obtain ⟨h1, h2⟩ : K.eq c.kind (.int .u8) = true ∧ WKs (List.replicate n (K.int .u8) ++ ks) x := h
    obtain ⟨l, y, e1, e2, e3, e4⟩ := wks_u8 n x ks h2 fun c hc => hw c (List.mem_cons_of_mem _ hc)
    have hc := hw c (List.mem_cons_self ..)
    cases hc with
    | int k m hm =>
      simp only [C.kind, K.eq, ikq_iff] at h1
      subst h1
      have hr : 0 ≤ m ∧ m ≤ 255 := by simpa [Lit.wf, IntKind.min, IntKind.max, IntKind.signed, IntKind.bits] using hm
      refine ⟨m.toNat :: l, y, by simp [e1], fun j hj => ?_, ?_, e4⟩
      · rcases List.mem_cons.1 hj with rfl | hj
        · omega
        · exact e2 j hj
      · rw [e3]
        show _ = C.int .u8 ((m.toNat : Nat) : Int) :: (u16 l ++ y)
        rw [Int.toNat_of_nonneg hr.1]
    | bool b => simp [C.kind, K.eq] at h1
    | str s => simp [C.kind, K.eq] at h1
    | sl e xs => simp [C.kind, K.eq] at h1
def A8 (x : List C) : Prop := ∃ l : List Nat, l.length = 16 ∧ (∀ m ∈ l, m < 256) ∧ x = u16 l
def L8 (x : List C) : Prop := ∃ a d h, A8 a ∧ x = a ++ [.bool d, .bool h]
theorem a8_of {x : List C} (h : WK tab 24 x) (hw : ∀ c ∈ x, Wf tab c) : A8 x := by
  obtain ⟨l, y, e1, e2, e3, e4⟩ := wks_u8 16 x [] h hw
  cases y with
  | nil => exact ⟨l, e1, e2, by simpa using e3⟩
  | cons _ _ => exact e4.elim
theorem l8_of {x : List C} (h : WK tab 27 x) (hw : ∀ c ∈ x, Wf tab c) : L8 x := by
  obtain ⟨l, y, e1, e2, e3, e4⟩ := wks_u8 16 x [.bool, .bool] h hw
  match y, e4 with
  | [c, d], e4 =>
    obtain ⟨b1, hb1⟩ := wk_bool (x := [c]) ⟨e4.1, trivial⟩
    obtain ⟨b2, hb2⟩ := wk_bool (x := [d]) ⟨e4.2.1, trivial⟩
    cases hb1
    cases hb2
    exact ⟨_, b1, b2, ⟨l, e1, e2, rfl⟩, e3⟩
  | [], e4 => exact e4.elim
  | [_], e4 => exact e4.2.elim
  | _ :: _ :: _ :: _, e4 => exact e4.2.2.elim
theorem wf_sl {e : TypeId} {D : List (List C)} (h : Wf tab (.sl e D)) : (∀ r ∈ D, WK tab e r) ∧ ∀ r ∈ D, ∀ c ∈ r, Wf tab c := by
  cases h with
  | sl e xs _ h1 h2 => exact ⟨h1, h2⟩
theorem locs_ok {l : List (List C)} (h : Wf tab (.sl 27 l)) : ∀ x ∈ l, L8 x := fun x hx => l8_of ((wf_sl h).1 x hx) ((wf_sl h).2 x hx)
theorem adrs_ok {l : List (List C)} (h : Wf tab (.sl 24 l)) : ∀ x ∈ l, A8 x := fun x hx => a8_of ((wf_sl h).1 x hx) ((wf_sl h).2 x hx)
theorem A8.len {x : List C} (h : A8 x) : x.length = 16 := by
  obtain ⟨l, h1, _, rfl⟩ := h
  simpa [u16] using h1
theorem L8.ad {x : List C} (h : L8 x) : A8 (ad x) := by
  obtain ⟨a, d, e, h1, rfl⟩ := h
  have : Go.Proofs.Ytdcdccdhdingbaa.ad (a ++ [.bool d, .bool e]) = a := by
    unfold Go.Proofs.Ytdcdccdhdingbaa.ad sub
    rw [List.drop_zero, List.take_append_of_le_length (by rw [h1.len]; omega), List.take_of_length_le (by rw [h1.len]; omega)]
  rw [this]
  exact h1
theorem ad_mk {a : List C} (h : a.length = 16) (d e : Bool) : ad (a ++ [.bool d, .bool e]) = a ∧ dep (a ++ [.bool d, .bool e]) = d ∧ hom (a ++ [.bool d, .bool e]) = e := by
  refine ⟨?_, ?_, ?_⟩
  · unfold ad sub
    rw [List.drop_zero, List.take_append_of_le_length (by omega), List.take_of_length_le (by omega)]
  · unfold dep cl
    rw [List.getD_eq_getElem?_getD, List.getElem?_append_right (by omega), h]
    rfl
  · unfold hom cl
    rw [List.getD_eq_getElem?_getD, List.getElem?_append_right (by omega), h]
    rfl
theorem eqL_u16 : ∀ a b : List Nat, eqL (u16 a) (u16 b) = decide (a = b)
  | [], [] => rfl
  | [], _ :: _ => rfl
  | _ :: _, [] => rfl
  | m :: a, n :: b => by
    show (((m : Int) == (n : Int)) && eqL (u16 a) (u16 b)) = _
    rw [eqL_u16 a b]
    by_cases h : m = n
    · subst h; simp
    · rw [beq_eq_false_iff_ne.2 (by omega)]
      simp [h]
theorem u16_inj {a b : List Nat} (h : u16 a = u16 b) : a = b := by
  have := eqL_u16 a b
  rw [h, eqL_u16, decide_eq_true rfl] at this
  exact of_decide_eq_true this.symm
theorem eqL_A8 {a b : List C} (ha : A8 a) (hb : A8 b) : eqL a b = true ↔ a = b := by
  obtain ⟨l, _, _, rfl⟩ := ha
  obtain ⟨m, _, _, rfl⟩ := hb
  rw [eqL_u16, decide_eq_true_eq]
  exact ⟨fun h => by rw [h], u16_inj⟩
theorem eqL_false {a b : List C} (ha : A8 a) (hb : A8 b) (h : a ≠ b) : eqL a b = false := by
  cases hc : eqL a b with
  | false => rfl
  | true => exact absurd ((eqL_A8 ha hb).1 hc) h
theorem eqL_self {a : List C} (ha : A8 a) : eqL a a = true := (eqL_A8 ha ha).2 rfl
theorem dif2_zero (a b : Bool) : (dif2 a b != 0) = !(a == b) := by cases a <;> cases b <;> rfl
theorem dif2_pos (a b : Bool) : decide (dif2 a b > 0) = (a && !b) := by cases a <;> cases b <;> rfl
/-! ### The source -/
theorem loc0_L8 : L8 loc0 := ⟨u16 (List.replicate 16 0), false, false, ⟨_, by simp, fun m hm => by rw [List.eq_of_mem_replicate hm]; decide, rfl⟩, rfl⟩
theorem src_inv {z : List C} : ∀ (l : List (List C)) (s : List C × Bool), (∀ x ∈ l, L8 x) → L8 s.1 → (s.2 = true → is4 (ad s.1) = is4 z) → L8 (l.foldl (srcS z) s).1 ∧ ((l.foldl (srcS z) s).2 = true → is4 (ad (l.foldl (srcS z) s).1) = is4 z)
  | [], s, _, h1, h2 => ⟨h1, h2⟩
  | x :: l, s, hl, h1, h2 => by
    rw [List.foldl_cons]
    have hx := hl x (List.mem_cons_self ..)
    refine src_inv l _ (fun y hy => hl y (List.mem_cons_of_mem _ hy)) ?_ ?_
    · unfold srcS
      cases is4 (ad x) == is4 z <;> cases !s.2 <;> cases decide (betN x s.1 z > 0) <;> first | exact h1 | exact hx
    · unfold srcS
      cases hq : is4 (ad x) == is4 z with
      | false => exact h2
      | true =>
        rw [beq_iff_eq] at hq
        cases !s.2 <;> cases decide (betN x s.1 z > 0) <;> first | exact h2 | exact fun _ => hq
theorem srcN_L8 {z : List C} {l : List (List C)} (hl : ∀ x ∈ l, L8 x) : L8 (srcN l z).1 := by
  unfold srcN
  exact (src_inv l _ hl loc0_L8 (fun h => by cases h)).1
theorem srcN_is4 {z : List C} {l : List (List C)} (hl : ∀ x ∈ l, L8 x) (h : (srcN l z).2 = true) : is4 (ad (srcN l z).1) = is4 z := by
  unfold srcN at h ⊢
  exact (src_inv l _ hl loc0_L8 (fun h => by cases h)).2 h
theorem srcN_snoc (l : List (List C)) (x z : List C) : srcN (l ++ [x]) z = srcS z (srcN l z) x := by
  unfold srcN
  rw [List.foldl_append]
  rfl
theorem srcN_nil (z : List C) : srcN [] z = (loc0, false) := by unfold srcN; rfl
theorem src_some {z : List C} : ∀ (l : List (List C)) (s : List C × Bool), (l.foldl (srcS z) s).2 = (s.2 || l.any fun x => is4 (ad x) == is4 z)
  | [], s => by simp
  | x :: l, s => by
    rw [List.foldl_cons, src_some l, List.any_cons]
    unfold srcS
    obtain ⟨b, f⟩ := s
    cases is4 (ad x) == is4 z <;> cases f <;> cases decide (betN x b z > 0) <;> simp
theorem srcN_some (l : List (List C)) (z : List C) : (srcN l z).2 = l.any fun x => is4 (ad x) == is4 z := by
  unfold srcN
  rw [src_some]
  rfl

end Go.Proofs.Ytdcdccdhdingbaa
