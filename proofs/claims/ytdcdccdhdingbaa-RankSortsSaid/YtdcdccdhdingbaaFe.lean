/- Fe -/
import Derived.Test.YtdcdccdhdingbaaFd
import Derived.KernelRfl
namespace Go.Proofs.Ytdcdccdhdingbaa
open Go Go.Eng
set_option maxRecDepth 100000
/-- What the comparison of two records tells. -/
@[irreducible] def cmpN (l : List (List C)) (x y : List C) : Int := cmpL ((keyC l (sub y 3 16)).map fun c => [c]) ((keyC l (sub x 3 16)).map fun c => [c])
def e25 : En
  | [.agg 39 x [], .agg 39 y [], .one (.ptr (.ext 0) 0 0)], [(.ext 0, (0, .box 22 [.sl 27 l] []))], k => bcond (Nat.ble l.length 1000000) (k (.one (.c (.int .i64 (cmpN l x y)))) [(.ext 0, (0, .box 22 [.sl 27 l] []))]) none
  | _, _, _ => none
theorem es25 : ES Try.prog tab 25 e25 := by
  intro args h k x hh
  unfold e25 at hh
  split at hh
  · rename_i x y l
    cases hb : Nat.ble l.length 1000000 with
    | false => rw [hb, bcond_f] at hh; cases hh
    | true =>
      rw [hb, bcond_t] at hh
      refine ⟨_, _, hh, fn25 sFH rfl ((f25_eq 0 x y l).trans ?_)⟩
      rw [hb, bcond_t, bcond_t]
      unfold cmpN
      rfl
  · cases hh
def oY : FuncId → Bool := fun f => match f with | 24 => true | 30 => true | 34 => true | 35 => true | 37 => true | 38 => true | _ => false
def FI : Fun := mkF [(25, e25)]
theorem sFI : FSound Try.prog tab FI := mkF_sound (fun p hp => by
  simp only [List.mem_cons, List.not_mem_nil, or_false] at hp
  subst hp
  exact es25)
abbrev hS (xs l : List (List C)) : Heap := [(.ext 0, (0, .arr 39 true xs)), (.ext 1, (0, .box 22 [.sl 27 l] []))]
abbrev vD : V := .one (.own (.ext 0) 0 39)
abbrev vF : V := .one (.fn 25 [(.ext 1, 0)])
abbrev vI (a : Int) : V := .one (.c (.int .i64 a))
noncomputable abbrev f38_c1 : Code := (loops (body Try.f38)).getD 0 .skip
noncomputable abbrev f38_s1 (n : Nat) : St → (X → St → Option R) → Option R := fun st k => evCode tab FI oY lv38 false n f38_c1 st k
noncomputable abbrev f38_k1 (n : Nat) : X → St → Option R := after tab FI oY lv38 false n (body Try.f38) 0 (endK tab false Try.f38)
abbrev f38_h1 (s1 : Int) (s2 : Int) (s3 : Int) (s10 : Int) (e0 : List (List C)) (e1_0 : List (List C)) : St := { t := [((0 : Nat), V.one (A.own (Key.ext (0 : Nat)) (0 : Nat) (39 : Nat))), ((1 : Nat), V.one (A.c (C.int IntKind.i64 s1))), ((2 : Nat), V.one (A.c (C.int IntKind.i64 s2))), ((3 : Nat), V.one (A.c (C.int IntKind.i64 s3))), ((10 : Nat), V.one (A.c (C.int IntKind.i64 s10)))], h := [(Key.ext (0 : Nat), (0 : Nat), B.arr (39 : Nat) true e0), (Key.ext (1 : Nat), (0 : Nat), B.box (22 : Nat) [C.sl (27 : Nat) e1_0] [])] }
abbrev f38_x1_0 (e0 : List (List C)) (e1_0 : List (List C)) : St := { t := [], h := [(Key.ext (0 : Nat), (0 : Nat), B.arr (39 : Nat) true e0), (Key.ext (1 : Nat), (0 : Nat), B.box (22 : Nat) [C.sl (27 : Nat) e1_0] [])] }
theorem f38_t1 (n m : Nat) (k : X → St → Option R) (s1 : Int) (s2 : Int) (s3 : Int) (s10 : Int) (e0 : List (List C)) (e1_0 : List (List C)) : evLoop false (f38_s1 n) (m + 1) (f38_h1 s1 s2 s3 s10 e0 e1_0) k = bcond (decide (s10 < s3)) (bcond (inB (IntKind.i64.wrap (s2 + s10)) e0.length) (bcond (inB (IntKind.i64.wrap (s1 + s10)) e0.length) (bcond (inB (IntKind.i64.wrap (s1 + s10)) e0.length) (bcond (inB (IntKind.i64.wrap (s2 + s10)) (e0.set (IntKind.i64.wrap (s1 + s10)).toNat (el e0 (IntKind.i64.wrap (s2 + s10)).toNat)).length) (evLoop false (f38_s1 n) m (f38_h1 (s1) (s2) (s3) (IntKind.i64.wrap (s10 + (1 : Int))) ((e0.set (IntKind.i64.wrap (s1 + s10)).toNat (el e0 (IntKind.i64.wrap (s2 + s10)).toNat)).set (IntKind.i64.wrap (s2 + s10)).toNat (el e0 (IntKind.i64.wrap (s1 + s10)).toNat)) (e1_0)) k) (none)) (none)) (none)) (none)) (k (X.exit 0) (f38_x1_0 (e0) (e1_0))) := by kernel_rfl
theorem f38_a1_0 (n : Nat) (e0 : List (List C)) (e1_0 : List (List C)) : f38_k1 n (X.exit 0) (f38_x1_0 e0 e1_0) = some ((V.tup [], [(Key.ext (0 : Nat), (0 : Nat), B.arr (39 : Nat) true e0), (Key.ext (1 : Nat), (0 : Nat), B.box (22 : Nat) [C.sl (27 : Nat) e1_0] [])])) := by kernel_rfl
theorem f38_eq (n : Nat) (xs : List (List C)) (l : List (List C)) (a : Int) (b : Int) (c : Int) : evFn tab FI oY false lv38 false n Try.f38 [.one (.own (.ext 0) 0 39), .one (.c (.int .i64 a)), .one (.c (.int .i64 b)), .one (.c (.int .i64 c)), .one (.fn 25 [(.ext 1, 0)])] [(.ext 0, (0, .arr 39 true xs)), (.ext 1, (0, .box 22 [.sl 27 l] []))] = evLoop false (f38_s1 n) n (f38_h1 (a) (b) (c) ((0 : Int)) (xs) (l)) (f38_k1 n) := by kernel_rfl

/-- What is so of some list, if there is one. -/
noncomputable def pick (S : List (List C) → Prop) : List (List C) := Classical.epsilon S
theorem pick_ok {S : List (List C) → Prop} {ys : List (List C)} (h : S ys) : S (pick S) := Classical.epsilon_spec (p := S) ⟨ys, h⟩
noncomputable def some? (S : List (List C) → Prop) : Bool := @decide (∃ ys, S ys) (Classical.propDecidable _)
theorem some_ok {S : List (List C) → Prop} {ys : List (List C)} (h : S ys) : some? S = true := @decide_eq_true _ (Classical.propDecidable _) ⟨ys, h⟩
theorem some_pick {S : List (List C) → Prop} (h : some? S = true) : S (pick S) := Classical.epsilon_spec (p := S) (@of_decide_eq_true _ (Classical.propDecidable _) h)
/-- Two stretches change places. -/
def S38 (xs l : List (List C)) (a b c : Int) (ys : List (List C)) : Prop := FnAt Try.prog tab 38 [vD, vI a, vI b, vI c, vF] (hS xs l) (.tup []) (hS ys l) ∧
  ∀ P A M B Q, xs = P ++ A ++ M ++ B ++ Q → A.length = B.length → (P.length : Int) = a → (P.length : Int) + A.length + M.length = b → (A.length : Int) = c → ys = P ++ B ++ M ++ A ++ Q
theorem el_mid (P : List (List C)) (x : List C) (Q : List (List C)) : el (P ++ x :: Q) P.length = x := by simp [el]
theorem set_mid (P : List (List C)) (x y : List C) (Q : List (List C)) : (P ++ x :: Q).set P.length y = P ++ y :: Q := by simp
theorem f38_L (n : Nat) (k : X → St → Option R) (a b c : Int) (l Q : List (List C)) : ∀ (A B P M : List (List C)) (i m : Nat), A.length = B.length → (P.length : Int) = a + i → (P.length : Int) + A.length + M.length = b + i → (i : Int) + A.length = c → 0 ≤ a → 0 ≤ b → 0 ≤ c →
    (P ++ A ++ M ++ B ++ Q).length ≤ 1000000 → A.length < m → evLoop false (f38_s1 n) m (f38_h1 a b c i (P ++ A ++ M ++ B ++ Q) l) k = k (.exit 0) (f38_x1_0 (P ++ B ++ M ++ A ++ Q) l)
  | [], B, P, M, i, m, hAB, h1, h2, h3, h4, h5, h6, hl, hm => by
    obtain rfl : B = [] := List.eq_nil_of_length_eq_zero (by simpa using hAB.symm)
    obtain ⟨m, rfl⟩ : ∃ g, m = g + 1 := ⟨m - 1, by omega⟩
    rw [f38_t1, bcond_no (by simp at h3 ⊢; omega)]
  | x :: A, [], P, M, i, m, hAB, h1, h2, h3, h4, h5, h6, hl, hm => by cases hAB
  | x :: A, y :: B, P, M, i, m, hAB, h1, h2, h3, h4, h5, h6, hl, hm => by
    obtain ⟨m, rfl⟩ : ∃ g, m = g + 1 := ⟨m - 1, by omega⟩
    simp only [List.length_append, List.length_cons] at hAB h1 h2 h3 hl hm
    have e1 : P ++ x :: A ++ M ++ y :: B ++ Q = P ++ x :: (A ++ M ++ y :: B ++ Q) := by simp
    have e2 : P ++ x :: A ++ M ++ y :: B ++ Q = (P ++ x :: A ++ M) ++ y :: (B ++ Q) := by simp
    have w1 : IntKind.i64.wrap (a + (i : Int)) = (P.length : Int) := by rw [wrap_ok (by omega) (by omega)]; omega
    have w2 : IntKind.i64.wrap (b + (i : Int)) = ((P ++ x :: A ++ M).length : Int) := by rw [wrap_ok (by omega) (by omega)]; simp; omega
    have hE1 : el (P ++ x :: A ++ M ++ y :: B ++ Q) P.length = x := by rw [e1]; exact el_mid _ _ _
    have hE2 : el (P ++ x :: A ++ M ++ y :: B ++ Q) (P ++ x :: A ++ M).length = y := by rw [e2]; exact el_mid _ _ _
    have hS1 : (P ++ x :: A ++ M ++ y :: B ++ Q).set P.length y = (P ++ y :: A ++ M) ++ y :: (B ++ Q) := by rw [e1, set_mid]; simp
    have hL : (P ++ x :: A ++ M).length = (P ++ y :: A ++ M).length := by simp
    rw [f38_t1, bcond_of (by simp; omega), w1, w2]
    simp only [inB_nat, Int.toNat_natCast]
    rw [hE1, hE2, hS1, bcond_of (by simp), bcond_of (by simp), bcond_of (by simp), bcond_of (by simp), hL, set_mid, wrap_succ (by omega)]
    have := f38_L n k a b c l Q A B (P ++ [y]) (M ++ [x]) (i + 1) m (by omega) (by simp; omega) (by simp; omega) (by omega) h4 h5 h6 (by simp; omega) (by omega)
    simp only [List.append_assoc, List.cons_append, List.nil_append] at this ⊢
    exact this
theorem at38 {P A M B Q l : List (List C)} {a b c : Int} (h0 : A.length = B.length) (h1 : (P.length : Int) = a) (h2 : (P.length : Int) + A.length + M.length = b) (h3 : (A.length : Int) = c) (hl : (P ++ A ++ M ++ B ++ Q).length ≤ 1000000) :
    S38 (P ++ A ++ M ++ B ++ Q) l a b c (P ++ B ++ M ++ A ++ Q) := by
  refine ⟨fn38 sFI rfl (bp := false) (own := oY) (ownR := false) (n := 1000001) ?_, fun P' A' M' B' Q' he g0 g1 g2 g3 => ?_⟩
  · have hA : A.length < 1000001 := by simp at hl; omega
    exact (f38_eq 1000001 _ l a b c).trans ((f38_L 1000001 _ a b c l Q A B P M 0 1000001 h0 (by omega) (by omega) (by omega) (by omega) (by omega) (by omega) hl hA).trans (f38_a1_0 _ _ _))
  · have hP : P'.length = P.length := by omega
    have hA : A'.length = A.length := by omega
    have hM : M'.length = M.length := by omega
    simp only [List.append_assoc] at he
    obtain ⟨q1, he⟩ := List.append_inj he hP.symm
    obtain ⟨q2, he⟩ := List.append_inj he hA.symm
    obtain ⟨q3, he⟩ := List.append_inj he hM.symm
    obtain ⟨q4, q5⟩ := List.append_inj he (by omega)
    rw [q1, q2, q3, q4, q5]
@[irreducible] noncomputable def g38 (xs l : List (List C)) (a b c : Int) : Bool := some? (S38 xs l a b c)
@[irreducible] noncomputable def y38 (xs l : List (List C)) (a b c : Int) : List (List C) := pick (S38 xs l a b c)
noncomputable def e38 : En
  | [.one (.own (.ext 0) 0 39), .one (.c (.int .i64 a)), .one (.c (.int .i64 b)), .one (.c (.int .i64 c)), .one (.fn 25 [(.ext 1, 0)])], [(.ext 0, (0, .arr 39 true xs)), (.ext 1, (0, .box 22 [.sl 27 l] []))], k =>
    bcond (g38 xs l a b c) (k (.tup []) [(.ext 0, (0, .arr 39 true (y38 xs l a b c))), (.ext 1, (0, .box 22 [.sl 27 l] []))]) none
  | _, _, _ => none
theorem es38 : ES Try.prog tab 38 e38 := by
  intro args h k x hh
  unfold e38 at hh
  split at hh
  · rename_i a b c xs l
    cases hb : g38 xs l a b c with
    | false => rw [hb, bcond_f] at hh; cases hh
    | true =>
      rw [hb, bcond_t] at hh
      unfold y38 at hh
      unfold g38 at hb
      exact ⟨_, _, hh, (some_pick hb).1⟩
  · cases hh
theorem g38_ok {P A M B Q l : List (List C)} {a b c : Int} (h0 : A.length = B.length) (h1 : (P.length : Int) = a) (h2 : (P.length : Int) + A.length + M.length = b) (h3 : (A.length : Int) = c) (hl : (P ++ A ++ M ++ B ++ Q).length ≤ 1000000) :
    g38 (P ++ A ++ M ++ B ++ Q) l a b c = true ∧ y38 (P ++ A ++ M ++ B ++ Q) l a b c = P ++ B ++ M ++ A ++ Q := by
  have h := at38 (l := l) h0 h1 h2 h3 hl
  unfold g38 y38
  exact ⟨some_ok h, (pick_ok h).2 P A M B Q rfl h0 h1 h2 h3⟩
noncomputable def FJ : Fun := mkF [(38, e38)]
theorem sFJ : FSound Try.prog tab FJ := mkF_sound (fun p hp => by
  simp only [List.mem_cons, List.not_mem_nil, or_false] at hp
  subst hp
  exact es38)
noncomputable abbrev f37_c2 : Code := (loops (body Try.f37)).getD 0 .skip
noncomputable abbrev f37_s2 (n : Nat) : St → (X → St → Option R) → Option R := fun st k => evCode tab FJ oY lv37 false n f37_c2 st k
noncomputable abbrev f37_k2 (n : Nat) : X → St → Option R := after tab FJ oY lv37 false n (body Try.f37) 0 (endK tab false Try.f37)
abbrev f37_h2 (s2 : Int) (s10 : Int) (s11 : Int) (e0 : List (List C)) (e1_0 : List (List C)) : St := { t := [((0 : Nat), V.one (A.own (Key.ext (0 : Nat)) (0 : Nat) (39 : Nat))), ((2 : Nat), V.one (A.c (C.int IntKind.i64 s2))), ((4 : Nat), V.one (A.fn (25 : Nat) [(Key.ext (1 : Nat), (0 : Nat))])), ((10 : Nat), V.one (A.c (C.int IntKind.i64 s10))), ((11 : Nat), V.one (A.c (C.int IntKind.i64 s11)))], h := [(Key.ext (0 : Nat), (0 : Nat), B.arr (39 : Nat) true e0), (Key.ext (1 : Nat), (0 : Nat), B.box (22 : Nat) [C.sl (27 : Nat) e1_0] [])] }
abbrev f37_x2_0 (s2 : Int) (s10 : Int) (e0 : List (List C)) (e1_0 : List (List C)) : St := { t := [((0 : Nat), V.one (A.own (Key.ext (0 : Nat)) (0 : Nat) (39 : Nat))), ((2 : Nat), V.one (A.c (C.int IntKind.i64 s2))), ((4 : Nat), V.one (A.fn (25 : Nat) [(Key.ext (1 : Nat), (0 : Nat))])), ((10 : Nat), V.one (A.c (C.int IntKind.i64 s10)))], h := [(Key.ext (0 : Nat), (0 : Nat), B.arr (39 : Nat) true e0), (Key.ext (1 : Nat), (0 : Nat), B.box (22 : Nat) [C.sl (27 : Nat) e1_0] [])] }
theorem f37_t2 (n m : Nat) (k : X → St → Option R) (s2 : Int) (s10 : Int) (s11 : Int) (e0 : List (List C)) (e1_0 : List (List C)) : evLoop false (f37_s2 n) (m + 1) (f37_h2 s2 s10 s11 e0 e1_0) k = bcond (s10 != s11) (bcond (decide (s10 > s11)) (bcond (g38 e0 e1_0 (IntKind.i64.wrap (s2 - s10)) s2 s11) (evLoop false (f37_s2 n) m (f37_h2 (s2) (IntKind.i64.wrap (s10 - s11)) (s11) (y38 e0 e1_0 (IntKind.i64.wrap (s2 - s10)) s2 s11) (e1_0)) k) (none)) (bcond (g38 e0 e1_0 (IntKind.i64.wrap (s2 - s10)) (IntKind.i64.wrap (IntKind.i64.wrap (s2 + s11) - s10)) s10) (evLoop false (f37_s2 n) m (f37_h2 (s2) (s10) (IntKind.i64.wrap (s11 - s10)) (y38 e0 e1_0 (IntKind.i64.wrap (s2 - s10)) (IntKind.i64.wrap (IntKind.i64.wrap (s2 + s11) - s10)) s10) (e1_0)) k) (none))) (k (X.exit 0) (f37_x2_0 (s2) (s10) (e0) (e1_0))) := by kernel_rfl
theorem f37_a2_0 (n : Nat) (s2 : Int) (s10 : Int) (e0 : List (List C)) (e1_0 : List (List C)) : f37_k2 n (X.exit 0) (f37_x2_0 s2 s10 e0 e1_0) = bcond (g38 e0 e1_0 (IntKind.i64.wrap (s2 - s10)) s2 s10) (some ((V.tup [], [(Key.ext (0 : Nat), (0 : Nat), B.arr (39 : Nat) true (y38 e0 e1_0 (IntKind.i64.wrap (s2 - s10)) s2 s10)), (Key.ext (1 : Nat), (0 : Nat), B.box (22 : Nat) [C.sl (27 : Nat) e1_0] [])]))) (none) := by kernel_rfl
theorem f37_eq (n : Nat) (xs : List (List C)) (l : List (List C)) (a : Int) (b : Int) (c : Int) : evFn tab FJ oY false lv37 false n Try.f37 [.one (.own (.ext 0) 0 39), .one (.c (.int .i64 a)), .one (.c (.int .i64 b)), .one (.c (.int .i64 c)), .one (.fn 25 [(.ext 1, 0)])] [(.ext 0, (0, .arr 39 true xs)), (.ext 1, (0, .box 22 [.sl 27 l] []))] = evLoop false (f37_s2 n) n (f37_h2 (b) (IntKind.i64.wrap (b - a)) (IntKind.i64.wrap (c - b)) (xs) (l)) (f37_k2 n) := by kernel_rfl

theorem f37_L (n : Nat) (l : List (List C)) : ∀ (d m : Nat) (A B P Q : List (List C)) (s2 : Int), A.length + B.length ≤ d → d < m → 0 < A.length → 0 < B.length → (P.length : Int) + A.length = s2 → (P ++ A ++ B ++ Q).length ≤ 1000000 →
    evLoop false (f37_s2 n) m (f37_h2 s2 A.length B.length (P ++ A ++ B ++ Q) l) (f37_k2 n) = some (.tup [], hS (P ++ B ++ A ++ Q) l) := by
  intro d
  induction d with
  | zero => intro m A B P Q s2 h1 h2 h3 h4; omega
  | succ d ih =>
    intro m A B P Q s2 h1 h2 h3 h4 h5 hl
    obtain ⟨m, rfl⟩ : ∃ g, m = g + 1 := ⟨m - 1, by omega⟩
    have hl2 := hl
    simp only [List.length_append] at hl2
    have w1 : IntKind.i64.wrap (s2 - (A.length : Int)) = (P.length : Int) := by rw [wrap_ok (by omega) (by omega)]; omega
    rw [f37_t2, w1]
    rcases Nat.lt_trichotomy A.length B.length with hc | hc | hc
    · rw [bcond_of (by simp; omega), bcond_no (by simp; omega)]
      obtain ⟨B1, B2, hB, hB2⟩ : ∃ B1 B2, B = B1 ++ B2 ∧ B2.length = A.length := ⟨B.take (B.length - A.length), B.drop (B.length - A.length), by simp, by simp; omega⟩
      subst hB
      simp only [List.length_append] at h1 h4 hc hl2 ⊢
      have w2 : IntKind.i64.wrap (IntKind.i64.wrap (s2 + ((B1.length + B2.length : Nat) : Int)) - (A.length : Int)) = (P.length : Int) + A.length + B1.length := by
        rw [wrap_ok (a := s2 + _) (by omega) (by omega), wrap_ok (by omega) (by omega)]; omega
      have w3 : IntKind.i64.wrap (((B1.length + B2.length : Nat) : Int) - (A.length : Int)) = (B1.length : Int) := by rw [wrap_ok (by omega) (by omega)]; omega
      rw [w2, w3, show P ++ A ++ (B1 ++ B2) ++ Q = P ++ A ++ B1 ++ B2 ++ Q from by simp]
      obtain ⟨g1, g2⟩ := g38_ok (P := P) (A := A) (M := B1) (B := B2) (Q := Q) (l := l) (a := P.length) (b := (P.length : Int) + A.length + B1.length) (c := A.length) hB2.symm rfl rfl rfl (by simp; omega)
      rw [g1, bcond_t, g2]
      have := ih m B2 B1 P (A ++ Q) s2 (by omega) (by omega) (by omega) (by omega) (by omega) (by simp; omega)
      rw [← hB2, show P ++ B2 ++ B1 ++ A ++ Q = P ++ B2 ++ B1 ++ (A ++ Q) from by simp, this]
      simp
    · have hb : ((A.length : Int) != (B.length : Int)) = false := by rw [hc]; simp
      rw [hb, bcond_f, f37_a2_0, w1]
      obtain ⟨g1, g2⟩ := g38_ok (P := P) (A := A) (M := []) (B := B) (Q := Q) (l := l) (a := P.length) (b := s2) (c := A.length) hc rfl (by simp; omega) rfl (by simp; omega)
      rw [List.append_nil] at g1 g2
      rw [g1, bcond_t, g2, List.append_nil]
    · rw [bcond_of (by simp; omega), bcond_of (by simp; omega)]
      obtain ⟨A1, A2, hA, hA1⟩ : ∃ A1 A2, A = A1 ++ A2 ∧ A1.length = B.length := ⟨A.take B.length, A.drop B.length, by simp, by simp; omega⟩
      subst hA
      simp only [List.length_append] at h1 h3 h5 hc hl2 ⊢
      have w3 : IntKind.i64.wrap (((A1.length + A2.length : Nat) : Int) - (B.length : Int)) = (A2.length : Int) := by rw [wrap_ok (by omega) (by omega)]; omega
      rw [w3, show P ++ (A1 ++ A2) ++ B ++ Q = P ++ A1 ++ A2 ++ B ++ Q from by simp]
      obtain ⟨g1, g2⟩ := g38_ok (P := P) (A := A1) (M := A2) (B := B) (Q := Q) (l := l) (a := P.length) (b := s2) (c := B.length) hA1 rfl (by omega) (by omega) (by simp; omega)
      rw [g1, bcond_t, g2]
      have := ih m A2 A1 (P ++ B) Q s2 (by omega) (by omega) (by omega) (by omega) (by simp; omega) (by simp; omega)
      rw [← hA1, this]
      simp
/-- One stretch goes behind the next one. -/
def S37 (xs l : List (List C)) (a b c : Int) (ys : List (List C)) : Prop := FnAt Try.prog tab 37 [vD, vI a, vI b, vI c, vF] (hS xs l) (.tup []) (hS ys l) ∧
  ∀ P A B Q, xs = P ++ A ++ B ++ Q → (P.length : Int) = a → (P.length : Int) + A.length = b → (P.length : Int) + A.length + B.length = c → ys = P ++ B ++ A ++ Q
theorem at37 {P A B Q l : List (List C)} {a b c : Int} (hA : 0 < A.length) (hB : 0 < B.length) (h1 : (P.length : Int) = a) (h2 : (P.length : Int) + A.length = b) (h3 : (P.length : Int) + A.length + B.length = c) (hl : (P ++ A ++ B ++ Q).length ≤ 1000000) :
    S37 (P ++ A ++ B ++ Q) l a b c (P ++ B ++ A ++ Q) := by
  refine ⟨fn37 sFJ rfl (bp := false) (own := oY) (ownR := false) (n := 2000001) ?_, fun P' A' B' Q' he g1 g2 g3 => ?_⟩
  · have hl2 := hl
    simp only [List.length_append] at hl2
    rw [f37_eq, show IntKind.i64.wrap (b - a) = (A.length : Int) from by rw [wrap_ok (by omega) (by omega)]; omega, show IntKind.i64.wrap (c - b) = (B.length : Int) from by rw [wrap_ok (by omega) (by omega)]; omega]
    exact f37_L 2000001 l _ _ A B P Q b (Nat.le_refl _) (by omega) hA hB h2 hl
  · have hP : P'.length = P.length := by omega
    have hA : A'.length = A.length := by omega
    have hM : B'.length = B.length := by omega
    simp only [List.append_assoc] at he
    obtain ⟨q1, he⟩ := List.append_inj he hP.symm
    obtain ⟨q2, he⟩ := List.append_inj he hA.symm
    obtain ⟨q3, q4⟩ := List.append_inj he hM.symm
    rw [q1, q2, q3, q4]
@[irreducible] noncomputable def g37 (xs l : List (List C)) (a b c : Int) : Bool := some? (S37 xs l a b c)
@[irreducible] noncomputable def y37 (xs l : List (List C)) (a b c : Int) : List (List C) := pick (S37 xs l a b c)
noncomputable def e37 : En
  | [.one (.own (.ext 0) 0 39), .one (.c (.int .i64 a)), .one (.c (.int .i64 b)), .one (.c (.int .i64 c)), .one (.fn 25 [(.ext 1, 0)])], [(.ext 0, (0, .arr 39 true xs)), (.ext 1, (0, .box 22 [.sl 27 l] []))], k =>
    bcond (g37 xs l a b c) (k (.tup []) [(.ext 0, (0, .arr 39 true (y37 xs l a b c))), (.ext 1, (0, .box 22 [.sl 27 l] []))]) none
  | _, _, _ => none
theorem es37 : ES Try.prog tab 37 e37 := by
  intro args h k x hh
  unfold e37 at hh
  split at hh
  · rename_i a b c xs l
    cases hb : g37 xs l a b c with
    | false => rw [hb, bcond_f] at hh; cases hh
    | true =>
      rw [hb, bcond_t] at hh
      unfold y37 at hh
      unfold g37 at hb
      exact ⟨_, _, hh, (some_pick hb).1⟩
  · cases hh
theorem g37_ok {P A B Q l : List (List C)} {a b c : Int} (hA : 0 < A.length) (hB : 0 < B.length) (h1 : (P.length : Int) = a) (h2 : (P.length : Int) + A.length = b) (h3 : (P.length : Int) + A.length + B.length = c) (hl : (P ++ A ++ B ++ Q).length ≤ 1000000) :
    g37 (P ++ A ++ B ++ Q) l a b c = true ∧ y37 (P ++ A ++ B ++ Q) l a b c = P ++ B ++ A ++ Q := by
  have h := at37 (l := l) hA hB h1 h2 h3 hl
  unfold g37 y37
  exact ⟨some_ok h, (pick_ok h).2 P A B Q rfl h1 h2 h3⟩

end Go.Proofs.Ytdcdccdhdingbaa
