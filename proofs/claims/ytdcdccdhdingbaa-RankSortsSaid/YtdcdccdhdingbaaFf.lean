/- Ff -/
import Derived.Test.YtdcdccdhdingbaaFe
import Derived.KernelRfl
namespace Go.Proofs.Ytdcdccdhdingbaa
open Go Go.Eng
set_option maxRecDepth 100000
/-! ### Orders -/
structure SW {α : Type} (lt : α → α → Prop) : Prop where
  asym : ∀ x y, lt x y → ¬ lt y x
  neg : ∀ x y z, ¬ lt x y → ¬ lt y z → ¬ lt x z
/-- May stand ahead: less; or not greater, and T. -/
def Rr {α : Type} (lt T : α → α → Prop) (x y : α) : Prop := lt x y ∨ (¬ lt y x ∧ T x y)
def Tr {α : Type} (T : α → α → Prop) : Prop := ∀ x y z, T x y → T y z → T x z
theorem SW.trans {α : Type} {lt : α → α → Prop} (h : SW lt) {x y z : α} (h1 : lt x y) (h2 : lt y z) : lt x z :=
  Classical.byContradiction fun h3 => h.neg x z y h3 (h.asym _ _ h2) h1
theorem SW.lt_le {α : Type} {lt : α → α → Prop} (h : SW lt) {x y z : α} (h1 : lt x y) (h2 : ¬ lt z y) : lt x z :=
  Classical.byContradiction fun h3 => h.neg x z y h3 h2 h1
theorem SW.le_lt {α : Type} {lt : α → α → Prop} (h : SW lt) {x y z : α} (h1 : ¬ lt y x) (h2 : lt y z) : lt x z :=
  Classical.byContradiction fun h3 => h.neg y x z h1 h3 h2
theorem Rr.le {α : Type} {lt T : α → α → Prop} (h : SW lt) {x y : α} (h1 : Rr lt T x y) : ¬ lt y x := h1.elim (h.asym _ _) fun h => h.1
theorem Rr.trans {α : Type} {lt T : α → α → Prop} (h : SW lt) (hT : Tr T) {x y z : α} (h1 : Rr lt T x y) (h2 : Rr lt T y z) : Rr lt T x z := by
  rcases h1 with h1 | ⟨h1, t1⟩ <;> rcases h2 with h2 | ⟨h2, t2⟩
  · exact .inl (h.trans h1 h2)
  · exact .inl (h.lt_le h1 h2)
  · exact .inl (h.le_lt h1 h2)
  · exact .inr ⟨h.neg _ _ _ h2 h1, hT _ _ _ t1 t2⟩
def ltN (l : List (List C)) (x y : List C) : Prop := cmpN l x y < 0
abbrev RN (l : List (List C)) (T : List C → List C → Prop) : List C → List C → Prop := Rr (ltN l) T
/-! ### The order of keys -/
theorem cmpI_neg (a b : Int) : cmpI a b = -1 ↔ a < b := by unfold cmpI; by_cases h : a < b <;> by_cases h2 : a > b <;> simp [h, h2]
theorem cmpI_pos (a b : Int) : cmpI a b = 1 ↔ b < a := by
  unfold cmpI
  by_cases h : a < b
  · simp [h]; omega
  · by_cases h2 : a > b <;> simp [h, h2] <;> omega
theorem cmpI_zero (a b : Int) : cmpI a b = 0 ↔ a = b := by
  unfold cmpI
  by_cases h : a < b
  · simp [h]; omega
  · by_cases h2 : a > b
    · simp [h, h2]; omega
    · simp [h, h2]; omega
theorem cmpI_rng (a b : Int) : cmpI a b = -1 ∨ cmpI a b = 0 ∨ cmpI a b = 1 := by
  unfold cmpI; by_cases h : a < b <;> by_cases h2 : a > b <;> simp [h, h2]
/-- Less, in the first place that is not alike. -/
def lexI : List Int → List Int → Prop
  | a :: x, b :: y => a < b ∨ (a = b ∧ lexI x y)
  | _, _ => False
theorem lexI_asym : ∀ (x y : List Int), lexI x y → ¬ lexI y x
  | a :: x, b :: y, h, h2 => by
    rcases h with h | ⟨h, g⟩ <;> rcases h2 with h2 | ⟨h2, g2⟩
    · omega
    · omega
    · omega
    · exact lexI_asym x y g g2
  | [], _, h, _ => h.elim
  | _ :: _, [], h, _ => h.elim
theorem lexI_neg : ∀ (x y z : List Int), x.length = y.length → y.length = z.length → ¬ lexI x y → ¬ lexI y z → ¬ lexI x z
  | a :: x, b :: y, c :: z, l1, l2, h1, h2, h3 => by
    have h4 : ¬ a < b := fun h => h1 (.inl h)
    have h5 : ¬ b < c := fun h => h2 (.inl h)
    rcases h3 with h3 | ⟨rfl, h3⟩
    · omega
    · have : a = b := by omega
      subst this
      exact lexI_neg x y z (by simpa using l1) (by simpa using l2) (fun h => h1 (.inr ⟨rfl, h⟩)) (fun h => h2 (.inr ⟨rfl, h⟩)) h3
  | [], _, _, _, _, _, _, h => h
  | _ :: _, [], _, l1, _, _, _, _ => by cases l1
  | _ :: _, _ :: _, [], _, l2, _, _, _ => by cases l2
theorem cmpL_neg : ∀ (x y : List (List C)), x.length = y.length → (cmpL x y < 0 ↔ lexI (x.map fun c => (cl c 0).toI) (y.map fun c => (cl c 0).toI))
  | a :: x, b :: y, h => by
    simp only [cmpL, List.map_cons, lexI]
    rcases cmpI_rng (cl a 0).toI (cl b 0).toI with hc | hc | hc
    · rw [hc]
      have := (cmpI_neg _ _).1 hc
      exact ⟨fun _ => .inl this, fun _ => (by decide : (-1 : Int) < 0)⟩
    · rw [hc]
      have h2 := (cmpI_zero _ _).1 hc
      rw [show (bif (0 : Int) != 0 then (0 : Int) else cmpL x y) = cmpL x y from rfl, cmpL_neg x y (by simpa using h)]
      constructor
      · exact fun h => .inr ⟨h2, h⟩
      · rintro (h3 | ⟨_, h3⟩)
        · omega
        · exact h3
    · rw [hc]
      have := (cmpI_pos _ _).1 hc
      constructor
      · intro h; exact absurd h (by decide : ¬ (1 : Int) < 0)
      · rintro (h3 | ⟨h3, _⟩) <;> omega
  | [], [], _ => by simp [cmpL, lexI]
  | [], _ :: _, h => by cases h
  | _ :: _, [], h => by cases h
def keyI (l : List (List C)) (z : List C) : List Int := [keyN l z 0, keyN l z 1, keyN l z 2, keyN l z 3, keyN l z 4, keyN l z 5, keyN l z 6, keyN l z 7]
theorem ltN_iff (l : List (List C)) (x y : List C) : ltN l x y ↔ lexI (keyI l (sub y 3 16)) (keyI l (sub x 3 16)) := by
  unfold ltN cmpN
  rw [cmpL_neg _ _ (by simp [keyC])]
  exact Iff.rfl
theorem swN (l : List (List C)) : SW (ltN l) := by
  refine ⟨fun x y h h2 => ?_, fun x y z h1 h2 h3 => ?_⟩
  · rw [ltN_iff] at h h2
    exact lexI_asym _ _ h h2
  · rw [ltN_iff] at h1 h2 h3
    exact lexI_neg (keyI l (sub z 3 16)) (keyI l (sub y 3 16)) (keyI l (sub x 3 16)) rfl rfl h2 h1 h3
noncomputable abbrev f34_c1 : Code := (loops (body Try.f34)).getD 0 .skip
noncomputable abbrev f34_s1 (n : Nat) : St → (X → St → Option R) → Option R := fun st k => evCode tab FI oY lv34 false n f34_c1 st k
noncomputable abbrev f34_k1 (n : Nat) : X → St → Option R := after tab FI oY lv34 false n (body Try.f34) 0 (endK tab false Try.f34)
abbrev f34_h1 (s1 : Int) (s2 : Int) (s8 : Int) (e0 : List (List C)) (e1_0 : List (List C)) : St := { t := [((0 : Nat), V.one (A.own (Key.ext (0 : Nat)) (0 : Nat) (39 : Nat))), ((1 : Nat), V.one (A.c (C.int IntKind.i64 s1))), ((2 : Nat), V.one (A.c (C.int IntKind.i64 s2))), ((3 : Nat), V.one (A.fn (25 : Nat) [(Key.ext (1 : Nat), (0 : Nat))])), ((8 : Nat), V.one (A.c (C.int IntKind.i64 s8)))], h := [(Key.ext (0 : Nat), (0 : Nat), B.arr (39 : Nat) true e0), (Key.ext (1 : Nat), (0 : Nat), B.box (22 : Nat) [C.sl (27 : Nat) e1_0] [])] }
noncomputable abbrev f34_c4 : Code := (loops (f34_c1)).getD 0 .skip
noncomputable abbrev f34_s4 (n : Nat) : St → (X → St → Option R) → Option R := fun st k => evCode tab FI oY lv34 false n f34_c4 st k
noncomputable abbrev f34_k4 (n m : Nat) (k : X → St → Option R) : X → St → Option R := after tab FI oY lv34 false n f34_c1 0 (backK false (f34_s1 n) m k)
abbrev f34_h4 (s1 : Int) (s2 : Int) (s8 : Int) (s9 : Int) (e0 : List (List C)) (e1_0 : List (List C)) : St := { t := [((0 : Nat), V.one (A.own (Key.ext (0 : Nat)) (0 : Nat) (39 : Nat))), ((1 : Nat), V.one (A.c (C.int IntKind.i64 s1))), ((2 : Nat), V.one (A.c (C.int IntKind.i64 s2))), ((3 : Nat), V.one (A.fn (25 : Nat) [(Key.ext (1 : Nat), (0 : Nat))])), ((8 : Nat), V.one (A.c (C.int IntKind.i64 s8))), ((9 : Nat), V.one (A.c (C.int IntKind.i64 s9)))], h := [(Key.ext (0 : Nat), (0 : Nat), B.arr (39 : Nat) true e0), (Key.ext (1 : Nat), (0 : Nat), B.box (22 : Nat) [C.sl (27 : Nat) e1_0] [])] }
abbrev f34_x4_2 (s1 : Int) (s2 : Int) (s8 : Int) (e0 : List (List C)) (e1_0 : List (List C)) : St := { t := [((0 : Nat), V.one (A.own (Key.ext (0 : Nat)) (0 : Nat) (39 : Nat))), ((1 : Nat), V.one (A.c (C.int IntKind.i64 s1))), ((2 : Nat), V.one (A.c (C.int IntKind.i64 s2))), ((3 : Nat), V.one (A.fn (25 : Nat) [(Key.ext (1 : Nat), (0 : Nat))])), ((8 : Nat), V.one (A.c (C.int IntKind.i64 s8)))], h := [(Key.ext (0 : Nat), (0 : Nat), B.arr (39 : Nat) true e0), (Key.ext (1 : Nat), (0 : Nat), B.box (22 : Nat) [C.sl (27 : Nat) e1_0] [])] }
abbrev f34_x1_0 (e0 : List (List C)) (e1_0 : List (List C)) : St := { t := [], h := [(Key.ext (0 : Nat), (0 : Nat), B.arr (39 : Nat) true e0), (Key.ext (1 : Nat), (0 : Nat), B.box (22 : Nat) [C.sl (27 : Nat) e1_0] [])] }
theorem f34_t1 (n m : Nat) (k : X → St → Option R) (s1 : Int) (s2 : Int) (s8 : Int) (e0 : List (List C)) (e1_0 : List (List C)) : evLoop false (f34_s1 n) (m + 1) (f34_h1 s1 s2 s8 e0 e1_0) k = bcond (decide (s8 < s2)) (evLoop false (f34_s4 n) n (f34_h4 (s1) (s2) (s8) (s8) (e0) (e1_0)) (f34_k4 n m k)) (k (X.exit 0) (f34_x1_0 (e0) (e1_0))) := by kernel_rfl
theorem f34_t4 (n m : Nat) (k : X → St → Option R) (s1 : Int) (s2 : Int) (s8 : Int) (s9 : Int) (e0 : List (List C)) (e1_0 : List (List C)) : evLoop false (f34_s4 n) (m + 1) (f34_h4 s1 s2 s8 s9 e0 e1_0) k = bcond (decide (s9 > s1)) (bcond (inB s9 e0.length) (bcond (inB (IntKind.i64.wrap (s9 - (1 : Int))) e0.length) (bcond (e1_0.length.ble (1000000 : Nat)) (bcond (decide (cmpN e1_0 (el e0 s9.toNat) (el e0 (IntKind.i64.wrap (s9 - (1 : Int))).toNat) < (0 : Int))) (bcond (inB (IntKind.i64.wrap (s9 - (1 : Int))) e0.length) (bcond (inB s9 e0.length) (bcond (inB s9 e0.length) (bcond (inB (IntKind.i64.wrap (s9 - (1 : Int))) (e0.set s9.toNat (el e0 (IntKind.i64.wrap (s9 - (1 : Int))).toNat)).length) (evLoop false (f34_s4 n) m (f34_h4 (s1) (s2) (s8) (IntKind.i64.wrap (s9 - (1 : Int))) ((e0.set s9.toNat (el e0 (IntKind.i64.wrap (s9 - (1 : Int))).toNat)).set (IntKind.i64.wrap (s9 - (1 : Int))).toNat (el e0 s9.toNat)) (e1_0)) k) (none)) (none)) (none)) (none)) (k (X.exit 2) (f34_x4_2 (s1) (s2) (s8) (e0) (e1_0)))) (none)) (none)) (none)) (k (X.exit 2) (f34_x4_2 (s1) (s2) (s8) (e0) (e1_0))) := by kernel_rfl
theorem f34_a4_2 (n m : Nat) (k : X → St → Option R) (s1 : Int) (s2 : Int) (s8 : Int) (e0 : List (List C)) (e1_0 : List (List C)) : f34_k4 n m k (X.exit 2) (f34_x4_2 s1 s2 s8 e0 e1_0) = evLoop false (f34_s1 n) m (f34_h1 (s1) (s2) (IntKind.i64.wrap (s8 + (1 : Int))) (e0) (e1_0)) k := by kernel_rfl
theorem f34_a1_0 (n : Nat) (e0 : List (List C)) (e1_0 : List (List C)) : f34_k1 n (X.exit 0) (f34_x1_0 e0 e1_0) = some ((V.tup [], [(Key.ext (0 : Nat), (0 : Nat), B.arr (39 : Nat) true e0), (Key.ext (1 : Nat), (0 : Nat), B.box (22 : Nat) [C.sl (27 : Nat) e1_0] [])])) := by kernel_rfl
theorem f34_eq (n : Nat) (xs : List (List C)) (l : List (List C)) (a : Int) (b : Int) : evFn tab FI oY false lv34 false n Try.f34 [.one (.own (.ext 0) 0 39), .one (.c (.int .i64 a)), .one (.c (.int .i64 b)), .one (.fn 25 [(.ext 1, 0)])] [(.ext 0, (0, .arr 39 true xs)), (.ext 1, (0, .box 22 [.sl 27 l] []))] = evLoop false (f34_s1 n) n (f34_h1 (a) (b) (IntKind.i64.wrap (a + (1 : Int))) (xs) (l)) (f34_k1 n) := by kernel_rfl

theorem f34_L4 (n : Nat) (k : X → St → Option R) (l P Q : List (List C)) (x : List C) (a b i : Int) (hl : l.length ≤ 1000000) (ha : a = (P.length : Int)) : ∀ (d m : Nat) (S1 S2 : List (List C)) (j : Int), S1.length = d → d < m → j = (P.length : Int) + S1.length → (P ++ S1 ++ x :: S2 ++ Q).length ≤ 1000000 →
    ∃ S, evLoop false (f34_s4 n) m (f34_h4 a b i j (P ++ S1 ++ x :: S2 ++ Q) l) k = k (.exit 2) (f34_x4_2 a b i (P ++ S ++ Q) l) ∧ S.Perm (S1 ++ x :: S2) ∧
      ∀ T, Tr T → (S1 ++ S2).Pairwise (RN l T) → (∀ y ∈ S1, T y x) → (∀ y ∈ S2, ltN l x y) → S.Pairwise (RN l T) := by
  intro d
  induction d with
  | zero =>
    intro m S1 S2 j h1 h2 h3 h4
    obtain rfl : S1 = [] := List.eq_nil_of_length_eq_zero h1
    obtain ⟨m, rfl⟩ : ∃ g, m = g + 1 := ⟨m - 1, by omega⟩
    refine ⟨x :: S2, ?_, List.Perm.refl _, fun T hT hp h5 h6 => ?_⟩
    · rw [f34_t4, bcond_no (by simp at h3 ⊢; omega)]
      simp
    · rw [List.pairwise_cons]
      exact ⟨fun y hy => .inl (h6 y hy), by simpa using hp⟩
  | succ d ih =>
    intro m S1 S2 j h1 h2 h3 h4
    obtain ⟨m, rfl⟩ : ∃ g, m = g + 1 := ⟨m - 1, by omega⟩
    obtain ⟨S0, y, rfl⟩ : ∃ S0 y, S1 = S0 ++ [y] := ⟨S1.dropLast, S1.getLast (by intro h; rw [h] at h1; cases h1), (List.dropLast_concat_getLast _).symm⟩
    simp only [List.length_append, List.length_cons, List.length_nil] at h1 h3 h4
    have e1 : P ++ (S0 ++ [y]) ++ x :: S2 ++ Q = (P ++ S0) ++ y :: (x :: S2 ++ Q) := by simp
    have e2 : P ++ (S0 ++ [y]) ++ x :: S2 ++ Q = (P ++ S0 ++ [y]) ++ x :: (S2 ++ Q) := by simp
    have hj : j = ((P ++ S0 ++ [y]).length : Int) := by simp; omega
    have hj1 : IntKind.i64.wrap (j - 1) = ((P ++ S0).length : Int) := by rw [wrap_ok (by omega) (by omega)]; simp; omega
    have hE1 : el (P ++ (S0 ++ [y]) ++ x :: S2 ++ Q) (P ++ S0).length = y := by rw [e1]; exact el_mid _ _ _
    have hE2 : el (P ++ (S0 ++ [y]) ++ x :: S2 ++ Q) (P ++ S0 ++ [y]).length = x := by rw [e2]; exact el_mid _ _ _
    have hS2 : (P ++ (S0 ++ [y]) ++ x :: S2 ++ Q).set (P ++ S0 ++ [y]).length y = (P ++ S0) ++ y :: (y :: S2 ++ Q) := by rw [e2, set_mid]; simp
    rw [f34_t4, bcond_of (by simp; omega), hj1, hj]
    simp only [inB_nat, Int.toNat_natCast, hE1, hE2, hS2]
    rw [bcond_of (by simp), bcond_of (by simp), bcond_of (by simpa using hl)]
    cases hc : decide (cmpN l x y < 0) with
    | false =>
      rw [bcond_f]
      rw [decide_eq_false_iff_not] at hc
      refine ⟨S0 ++ [y] ++ x :: S2, by simp, List.Perm.refl _, fun T hT hp h5 h6 => ?_⟩
      have hyx : RN l T y x := .inr ⟨hc, h5 y (by simp)⟩
      rw [List.pairwise_append] at hp ⊢
      refine ⟨hp.1, ?_, fun u hu v hv => ?_⟩
      · rw [List.pairwise_cons]
        exact ⟨fun v hv => .inl (h6 v hv), hp.2.1⟩
      · rcases List.mem_cons.1 hv with rfl | hv
        · rcases List.mem_append.1 hu with hu | hu
          · exact Rr.trans (swN l) hT ((List.pairwise_append.1 hp.1).2.2 u hu y (by simp)) hyx
          · rw [List.mem_singleton.1 hu]; exact hyx
        · exact hp.2.2 u hu v hv
    | true =>
      rw [bcond_t]
      rw [decide_eq_true_eq] at hc
      rw [bcond_of (by simp), bcond_of (by simp), bcond_of (by simp), bcond_of (by simp), set_mid]
      obtain ⟨S, g1, g2, g3⟩ := ih m S0 (y :: S2) ((P ++ S0).length : Int) (by omega) (by omega) (by simp) (by simp; omega)
      rw [show P ++ S0 ++ x :: (y :: S2) ++ Q = P ++ S0 ++ x :: (y :: S2 ++ Q) from by simp] at g1
      refine ⟨S, g1, g2.trans ?_, fun T hT hp h5 h6 => g3 T hT (by simpa using hp) (fun u hu => h5 u (by simp [hu])) fun u hu => ?_⟩
      · rw [List.append_assoc]
        refine List.Perm.append_left S0 ?_
        exact List.Perm.swap y x S2
      · rcases List.mem_cons.1 hu with rfl | hu
        · exact hc
        · exact h6 u hu
theorem f34_L1 (n : Nat) (hn : 2000000 < n) (l P Q : List (List C)) (a b : Int) (hl : l.length ≤ 1000000) (ha : a = (P.length : Int)) : ∀ (A S : List (List C)) (i : Int) (m : Nat), A.length < m → i = (P.length : Int) + S.length → b = i + A.length → (P ++ S ++ A ++ Q).length ≤ 1000000 → 
    ∃ S', evLoop false (f34_s1 n) m (f34_h1 a b i (P ++ S ++ A ++ Q) l) (f34_k1 n) = some (.tup [], hS (P ++ S' ++ Q) l) ∧ S'.Perm (S ++ A) ∧
      ∀ T, Tr T → S.Pairwise (RN l T) → (∀ y ∈ S, ∀ x ∈ A, T y x) → A.Pairwise T → S'.Pairwise (RN l T)
  | [], S, i, m, hm, h1, h2, h4 => by
    obtain ⟨m, rfl⟩ : ∃ g, m = g + 1 := ⟨m - 1, by omega⟩
    refine ⟨S, ?_, by simp, fun T hT hp _ _ => hp⟩
    rw [f34_t1, bcond_no (by simp at h2 ⊢; omega), f34_a1_0]
    simp
  | x :: A, S, i, m, hm, h1, h2, h4 => by
    obtain ⟨m, rfl⟩ : ∃ g, m = g + 1 := ⟨m - 1, by omega⟩
    simp only [List.length_append, List.length_cons] at hm h2 h4
    obtain ⟨S', g1, g2, g3⟩ := f34_L4 n (f34_k4 n m (f34_k1 n)) l P (A ++ Q) x a b i hl ha S.length n S [] i rfl (by omega) h1 (by simp; omega)
    have hlen : S'.length = S.length + 1 := by rw [g2.length_eq]; simp
    obtain ⟨S2, k1, k2, k3⟩ := f34_L1 n hn l P Q a b hl ha A S' (IntKind.i64.wrap (i + 1)) m (by omega) (by rw [wrap_ok (by omega) (by omega)]; omega) (by rw [wrap_ok (by omega) (by omega)]; omega) (by simp; omega)
    refine ⟨S2, ?_, k2.trans ?_, fun T hT hp h5 h6 => ?_⟩
    · rw [f34_t1, bcond_of (by simp; omega), show P ++ S ++ x :: A ++ Q = P ++ S ++ x :: [] ++ (A ++ Q) from by simp, g1, f34_a4_2, ← k1]
      simp
    · refine (g2.append_right A).trans ?_
      simp
    · rw [List.pairwise_cons] at h6
      have hx : ∀ y ∈ S, T y x := fun y hy => h5 y hy x (List.mem_cons_self ..)
      refine k3 T hT (g3 T hT (by simpa using hp) hx (fun y hy => by cases hy)) (fun y hy z hz => ?_) h6.2
      rcases List.mem_append.1 (g2.mem_iff.1 hy) with hy | hy
      · exact h5 y hy z (List.mem_cons_of_mem _ hz)
      · rw [List.mem_singleton.1 hy]; exact h6.1 z hz
/-- A stretch is put in order. -/
def S34 (xs l : List (List C)) (a b : Int) (ys : List (List C)) : Prop := FnAt Try.prog tab 34 [vD, vI a, vI b, vF] (hS xs l) (.tup []) (hS ys l) ∧
  ∀ P A Q, xs = P ++ A ++ Q → (P.length : Int) = a → (P.length : Int) + A.length = b → ∃ S, ys = P ++ S ++ Q ∧ S.Perm A ∧ ∀ T, Tr T → A.Pairwise T → S.Pairwise (RN l T)
theorem at34 {P A Q l : List (List C)} {a b : Int} (h1 : (P.length : Int) = a) (h2 : (P.length : Int) + A.length = b) (hl : (P ++ A ++ Q).length ≤ 1000000) (hl2 : l.length ≤ 1000000) : ∃ ys, S34 (P ++ A ++ Q) l a b ys := by
  have key : ∃ S, evLoop false (f34_s1 2000001) 2000001 (f34_h1 a b (IntKind.i64.wrap (a + 1)) (P ++ A ++ Q) l) (f34_k1 2000001) = some (.tup [], hS (P ++ S ++ Q) l) ∧ S.Perm A ∧ ∀ T, Tr T → A.Pairwise T → S.Pairwise (RN l T) := by
    simp only [List.length_append] at hl
    rw [wrap_ok (by omega) (by omega)]
    cases A with
    | nil =>
      refine ⟨[], ?_, List.Perm.refl _, fun _ _ _ => List.Pairwise.nil⟩
      rw [f34_t1, bcond_no (by simp at h2 ⊢; omega), f34_a1_0]
    | cons x A =>
      simp only [List.length_cons] at h2 hl
      obtain ⟨S, g1, g2, g3⟩ := f34_L1 2000001 (by omega) l P Q a b hl2 h1.symm A [x] (a + 1) 2000001 (by omega) (by simp; omega) (by omega) (by simp; omega)
      refine ⟨S, ?_, g2, fun T hT hp => ?_⟩
      · rw [← g1]; simp
      · rw [List.pairwise_cons] at hp
        exact g3 T hT (by simp) (fun y hy z hz => by rw [List.mem_singleton.1 hy]; exact hp.1 z hz) hp.2
  obtain ⟨S, g1, g2, g3⟩ := key
  refine ⟨P ++ S ++ Q, fn34 sFI rfl (bp := false) (own := oY) (ownR := false) (n := 2000001) ((f34_eq _ _ _ _ _).trans g1), fun P' A' Q' he e1 e2 => ?_⟩
  simp only [List.append_assoc] at he
  obtain ⟨q1, he⟩ := List.append_inj he (by omega)
  obtain ⟨q2, q3⟩ := List.append_inj he (by omega)
  subst q1 q2 q3
  exact ⟨S, rfl, g2, g3⟩
@[irreducible] noncomputable def g34 (xs l : List (List C)) (a b : Int) : Bool := some? (S34 xs l a b)
@[irreducible] noncomputable def y34 (xs l : List (List C)) (a b : Int) : List (List C) := pick (S34 xs l a b)
noncomputable def e34 : En
  | [.one (.own (.ext 0) 0 39), .one (.c (.int .i64 a)), .one (.c (.int .i64 b)), .one (.fn 25 [(.ext 1, 0)])], [(.ext 0, (0, .arr 39 true xs)), (.ext 1, (0, .box 22 [.sl 27 l] []))], k =>
    bcond (g34 xs l a b) (k (.tup []) [(.ext 0, (0, .arr 39 true (y34 xs l a b))), (.ext 1, (0, .box 22 [.sl 27 l] []))]) none
  | _, _, _ => none
theorem es34 : ES Try.prog tab 34 e34 := by
  intro args h k x hh
  unfold e34 at hh
  split at hh
  · rename_i a b xs l
    cases hb : g34 xs l a b with
    | false => rw [hb, bcond_f] at hh; cases hh
    | true =>
      rw [hb, bcond_t] at hh
      unfold y34 at hh
      unfold g34 at hb
      exact ⟨_, _, hh, (some_pick hb).1⟩
  · cases hh
theorem g34_ok {P A Q l : List (List C)} {a b : Int} (h1 : (P.length : Int) = a) (h2 : (P.length : Int) + A.length = b) (hl : (P ++ A ++ Q).length ≤ 1000000) (hl2 : l.length ≤ 1000000) :
    g34 (P ++ A ++ Q) l a b = true ∧ ∃ S, y34 (P ++ A ++ Q) l a b = P ++ S ++ Q ∧ S.Perm A ∧ ∀ T, Tr T → A.Pairwise T → S.Pairwise (RN l T) := by
  obtain ⟨ys, h⟩ := at34 (l := l) h1 h2 hl hl2
  unfold g34 y34
  exact ⟨some_ok h, (pick_ok h).2 P A Q rfl h1 h2⟩

end Go.Proofs.Ytdcdccdhdingbaa
