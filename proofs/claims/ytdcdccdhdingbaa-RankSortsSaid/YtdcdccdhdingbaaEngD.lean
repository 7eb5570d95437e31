/- Lists, masks, arguments told apart. Conditions: none. -/
import Derived.Test.YtdcdccdhdingbaaEngC
import Derived.IntWalk
import Derived.Laws.Strings
namespace Go.Eng
open Go

section
variable {α S : Type}
/-- Over a list, with ways out. -/
def overX (g : S → α → S ⊕ Option R) (E : S → Option R) : List α → S → Option R
  | [], s => E s
  | x :: r, s => match g s x with | .inl s' => overX g E r s' | .inr o => o

theorem over_loop {xs : List α} {L : Nat → Nat → S → Option R} {g : S → α → S ⊕ Option R} {E : S → Option R} (Inv : Nat → S → Prop)
    (turn : ∀ m i s x, xs[i]? = some x → i < xs.length → Inv i s → L (m + 1) i s = match g s x with | .inl s' => L m (i + 1) s' | .inr o => o)
    (keep : ∀ i s x s', xs[i]? = some x → i < xs.length → Inv i s → g s x = .inl s' → Inv (i + 1) s')
    (done : ∀ m s, Inv xs.length s → L (m + 1) xs.length s = E s) :
    ∀ d i s m, i + d = xs.length → d < m → Inv i s → L m i s = overX g E (xs.drop i) s
  | 0, i, s, m, hi, hm, hI => by
    obtain ⟨m, rfl⟩ : ∃ q, m = q + 1 := ⟨m - 1, by omega⟩
    obtain rfl : i = xs.length := by omega
    rw [done m s hI, List.drop_length]
    rfl
  | d + 1, i, s, m, hi, hm, hI => by
    obtain ⟨m, rfl⟩ : ∃ q, m = q + 1 := ⟨m - 1, by omega⟩
    have hlt : i < xs.length := by omega
    have hx : xs[i]? = some xs[i] := List.getElem?_eq_getElem hlt
    rw [turn m i s _ hx hlt hI, List.drop_eq_getElem_cons hlt, overX]
    cases hg : g s xs[i] with
    | inl s' => exact over_loop Inv turn keep done d (i + 1) s' m (by omega) (by omega) (keep i s _ s' hx hlt hI hg)
    | inr o => rfl

theorem fold_loop {xs : List α} {L : Nat → Nat → S → Option R} {f : S → α → S} {E : S → Option R} (Inv : Nat → S → Prop)
    (turn : ∀ m i s x, xs[i]? = some x → i < xs.length → Inv i s → L (m + 1) i s = L m (i + 1) (f s x))
    (keep : ∀ i s x, xs[i]? = some x → i < xs.length → Inv i s → Inv (i + 1) (f s x))
    (done : ∀ m s, Inv xs.length s → L (m + 1) xs.length s = E s) :
    ∀ d i s m, i + d = xs.length → d < m → Inv i s → L m i s = E ((xs.drop i).foldl f s)
  | 0, i, s, m, hi, hm, hI => by
    obtain ⟨m, rfl⟩ : ∃ q, m = q + 1 := ⟨m - 1, by omega⟩
    obtain rfl : i = xs.length := by omega
    rw [done m s hI, List.drop_length]
    rfl
  | d + 1, i, s, m, hi, hm, hI => by
    obtain ⟨m, rfl⟩ : ∃ q, m = q + 1 := ⟨m - 1, by omega⟩
    have hlt : i < xs.length := by omega
    have hx : xs[i]? = some xs[i] := List.getElem?_eq_getElem hlt
    rw [turn m i s _ hx hlt hI, List.drop_eq_getElem_cons hlt, List.foldl_cons]
    exact fold_loop Inv turn keep done d (i + 1) _ m (by omega) (by omega) (keep i s _ hx hlt hI)
end

theorem inB_nat (i n : Nat) : inB (i : Int) n = decide (i < n) := by
  unfold inB
  rw [← Bool.decide_and]
  congr 1
  exact propext ⟨fun h => by omega, fun h => by omega⟩
theorem inE_nat (i lo hi : Nat) : inE (i : Int) lo hi = (decide (lo ≤ i) && decide (i ≤ hi)) := by
  unfold inE
  rw [← Bool.decide_and, ← Bool.decide_and]
  congr 1
  exact propext ⟨fun h => by omega, fun h => by omega⟩
theorem lt_nat (i n : Nat) : decide ((i : Int) < (n : Int)) = decide (i < n) := by
  congr 1
  exact propext ⟨fun h => by omega, fun h => by omega⟩
theorem wrap_ok {a : Int} (h : -9223372036854775808 ≤ a) (h2 : a ≤ 9223372036854775807) : IntKind.i64.wrap a = a := IntWalk.i64_in a ⟨h, h2⟩
theorem wrap_succ {i : Nat} (h : i ≤ 4611686018427387904) : IntKind.i64.wrap ((i : Int) + 1) = ((i + 1 : Nat) : Int) := by
  rw [wrap_ok (by omega) (by omega)]
  rfl
theorem el_get {xs : List (List C)} {i : Nat} {x : List C} (h : xs[i]? = some x) : el xs i = x := by
  unfold el
  rw [List.getD_eq_getElem?_getD, h]
  rfl
theorem roomOk_of {n b : Nat} (h : n ≤ 140737488355328) (h2 : n * b ≤ 140737488355328) : roomOk n b = true := by
  unfold roomOk
  rw [Bool.and_eq_true, Nat.ble_eq, Nat.ble_eq]
  exact ⟨h, h2⟩
theorem foldl_filter {α : Type} (p : α → Bool) : ∀ (l acc : List α), l.foldl (fun acc x => if p x = true then acc ++ [x] else acc) acc = acc ++ l.filter p
  | [], acc => by simp
  | x :: l, acc => by
    rw [List.foldl_cons, foldl_filter p l, List.filter_cons]
    split <;> simp
theorem foldl_map {α β : Type} (f : α → β) : ∀ (l : List α) (acc : List β), l.foldl (fun acc x => acc ++ [f x]) acc = acc ++ l.map f
  | [], acc => by simp
  | x :: l, acc => by
    rw [List.foldl_cons, foldl_map f l]
    simp
end Go.Eng

namespace Go.Eng
open Go
/-! ### A list that is turned element by element, in place -/
def upTo {α : Type} (f : α → α) (l : List α) (i : Nat) : List α := (l.take i).map f ++ l.drop i
theorem upTo_zero {α : Type} (f : α → α) (l : List α) : upTo f l 0 = l := by simp [upTo]
theorem upTo_all {α : Type} (f : α → α) (l : List α) : upTo f l l.length = l.map f := by simp [upTo]
theorem upTo_length {α : Type} (f : α → α) (l : List α) {i : Nat} (h : i ≤ l.length) : (upTo f l i).length = l.length := by simp [upTo]; omega
theorem upTo_get {α : Type} (f : α → α) {l : List α} {i : Nat} {x : α} (h : l[i]? = some x) : (upTo f l i)[i]? = some x := by
  have hlt := (List.getElem?_eq_some_iff.1 h).1
  rw [upTo, List.getElem?_append_right (by simp; omega)]
  simp only [List.length_map, List.length_take, List.getElem?_drop]
  rw [Nat.min_eq_left (by omega), Nat.sub_self]
  exact h
theorem upTo_set {α : Type} (f : α → α) {l : List α} {i : Nat} {x : α} (h : l[i]? = some x) : (upTo f l i).set i (f x) = upTo f l (i + 1) := by
  have hlt := (List.getElem?_eq_some_iff.1 h).1
  have hx : l[i] = x := (List.getElem?_eq_some_iff.1 h).2
  have e1 : ((l.take i).map f).length = i := by simp; omega
  rw [upTo, upTo, List.set_append, if_neg (by omega), e1, Nat.sub_self, List.drop_eq_getElem_cons hlt, List.set_cons_zero, List.take_succ_eq_append_getElem hlt, hx]
  simp

/-! ### Weaker contracts -/
def Bw (τ : Tab) (b b' : B) : Prop := ∀ w ok κ e, RB τ w ok κ b e → RB τ w ok κ b' e
def Hw (τ : Tab) : Heap → Heap → Prop
  | [], [] => True
  | (k, (g, b)) :: r, (k', (g', b')) :: r' => k = k' ∧ g = g' ∧ Bw τ b b' ∧ Hw τ r r'
  | _, _ => False
theorem Bw.refl (τ : Tab) (b : B) : Bw τ b b := fun _ _ _ _ h => h
theorem Hw.hook {τ : Tab} : ∀ {h h' : Heap}, Hw τ h h' → ∀ k, (∀ g b, hook h' k = some (g, b) → ∃ b0, hook h k = some (g, b0) ∧ Bw τ b0 b) ∧ ((hook h k).isSome = true → (hook h' k).isSome = true)
  | [], [], _, k => ⟨fun g b h => (by cases h), fun h => h⟩
  | (k0, (g, b)) :: r, (k0', (g', b')) :: r', h, k => by
    obtain ⟨rfl, rfl, hb, hr⟩ := h
    obtain ⟨h1, h2⟩ := Hw.hook hr k
    simp only [Go.Eng.hook]
    cases Key.eq k0 k with
    | true => exact ⟨fun g1 b1 h3 => (by cases h3; exact ⟨b, rfl, hb⟩), fun _ => rfl⟩
    | false => exact ⟨h1, h2⟩
  | [], _ :: _, h, _ => h.elim
  | _ :: _, [], h, _ => h.elim
theorem HRel.weak {τ : Tab} {M : Nat → Prop} {κ : Kap} {h h' : Heap} {w : World} (H : HRel τ M κ h w) (hw : Hw τ h h') : HRel τ M κ h' w := by
  refine ⟨fun k g B hk => ?_, fun k e hk => (hw.hook k).2 (H.dom k e hk), H.inj, H.rng, H.mlt⟩
  obtain ⟨b0, h1, h2⟩ := (hw.hook k).1 g B hk
  obtain ⟨e, h3, h4, h5⟩ := H.hp k g b0 h1
  exact ⟨e, h3, h4, h2 _ _ _ _ h5⟩
theorem FnAt.weak {P : Program} {τ : Tab} {f : FuncId} {args : List V} {h : Heap} {r : V} {h' h2 : Heap} (hf : FnAt P τ f args h r h') (hw : Hw τ h' h2) : FnAt P τ f args h r h2 :=
  ⟨hf.1, fun M κ w vals H h0 hA => (hf.2 M κ w vals H h0 hA).mono fun _ _ ⟨u, he, κ', H', X, hr⟩ => ⟨u, he, κ', H'.weak hw, X, hr⟩⟩
/-- A nil slice in a variable is an empty one. -/
theorem Bw.nil {τ : Tab} {t : TypeId} {x y : List C} {j : Nat} {e : TypeId} (hx : y = x.set j (.sl e [])) (hj : Nat.blt j x.length = true) (hk : K.eq (.sl e) ((ti τ t).ks.getD j .no) = true) : Bw τ (.box t x [(j, .nils e)]) (.box t y []) := by
  intro w ok κ en h
  obtain ⟨b, cs, u, h1, h2, h3, h4, h5, h6⟩ := h
  subst hx
  have hj : j < x.length := by simpa [Nat.blt_eq] using hj
  refine ⟨b, cs, u, h1, h2, h3, by simpa using h4, h5, fun i hi => ?_⟩
  have h7 := h6 i hi
  simp only [ovAt] at h7 ⊢
  cases hb : Nat.beq j i with
  | true =>
    obtain rfl := Nat.eq_of_beq_eq_true hb
    rw [hb] at h7
    obtain ⟨v, hv, hv2, _⟩ := h7
    obtain rfl : v = .slice none 0 0 := hv2
    exact ⟨.sl e [], _, by rw [List.getElem?_set_self hj], hv, hk, RC.sl e [] none 0 ⟨0, 0, none⟩ (fun _ _ => undef) (Nat.le_refl _) (Nat.zero_le _) (fun _ h => (by cases h)) (fun h => absurd rfl h) (fun i x j y h => (by cases h)) (fun i x j y h => (by cases h))⟩
  | false =>
    rw [hb] at h7
    have : j ≠ i := fun h => by subst h; rw [Nat.beq_refl] at hb; cases hb
    rw [List.getElem?_set_ne this]
    exact h7
end Go.Eng

namespace Go.Eng
open Go
/-! ### Masks -/
theorem iand_pow (a : Int) (k : Nat) (hk : k ≤ 62) : iand .i64 a ((2 ^ k - 1 : Nat) : Int) = a % ((2 ^ k : Nat) : Int) := by
  have hp : 2 ^ k ≤ 2 ^ 62 := Nat.pow_le_pow_right (by decide) hk
  have hpos : 0 < 2 ^ k := Nat.pow_pos (by decide)
  have hd : (2 : Nat) ^ 64 = 2 ^ k * 2 ^ (64 - k) := by rw [← Nat.pow_add]; congr 1; omega
  have e1 : (BitVec.ofInt 64 a &&& BitVec.ofInt 64 ((2 ^ k - 1 : Nat) : Int)).toNat = (a % ((2 ^ 64 : Nat) : Int)).toNat % 2 ^ k := by
    rw [BitVec.toNat_and, BitVec.toNat_ofInt, BitVec.toNat_ofInt]
    have e2 : (((2 ^ k - 1 : Nat) : Int) % ((2 ^ 64 : Nat) : Int)).toNat = 2 ^ k - 1 := by
      have : ((2 ^ k - 1 : Nat) : Int) % ((2 ^ 64 : Nat) : Int) = ((2 ^ k - 1 : Nat) : Int) := by
        refine Int.emod_eq_of_lt (by omega) ?_
        have h64 : (2 : Nat) ^ 62 < 2 ^ 64 := by decide
        omega
      rw [this]; rfl
    rw [e2, Nat.and_two_pow_sub_one_eq_mod]
  have e3 : (((a % ((2 ^ 64 : Nat) : Int)).toNat % 2 ^ k : Nat) : Int) = a % ((2 ^ k : Nat) : Int) := by
    rw [Int.natCast_emod, Int.toNat_of_nonneg (Int.emod_nonneg _ (by decide))]
    rw [show ((2 ^ 64 : Nat) : Int) = ((2 ^ k : Nat) : Int) * ((2 ^ (64 - k) : Nat) : Int) from by rw [← Int.natCast_mul, ← hd]]
    exact Int.emod_emod_of_dvd _ (Int.dvd_mul_right _ _)
  have h0 : 0 ≤ a % ((2 ^ k : Nat) : Int) := Int.emod_nonneg _ (by omega)
  have h1 : a % ((2 ^ k : Nat) : Int) < ((2 ^ k : Nat) : Int) := Int.emod_lt_of_pos _ (by omega)
  show IntKind.i64.wrap (((BitVec.ofInt 64 a &&& BitVec.ofInt 64 ((2 ^ k - 1 : Nat) : Int)).toNat : Nat) : Int) = _
  rw [e1, e3]
  have h62 : (2 : Nat) ^ 62 = 4611686018427387904 := by decide
  exact wrap_ok (by omega) (by omega)
theorem iand_1 (a : Int) : iand .i64 a 1 = a % 2 := iand_pow a 1 (by decide)
theorem iand_3 (a : Int) : iand .i64 a 3 = a % 4 := iand_pow a 2 (by decide)
theorem iand_7 (a : Int) : iand .i64 a 7 = a % 8 := iand_pow a 3 (by decide)
theorem iand_15 (a : Int) : iand .i64 a 15 = a % 16 := iand_pow a 4 (by decide)
theorem iand_63 (a : Int) : iand .i64 a 63 = a % 64 := iand_pow a 6 (by decide)
theorem iand_255 (a : Int) : iand .i64 a 255 = a % 256 := iand_pow a 8 (by decide)
theorem iand_FFF (a : Int) : iand .i64 a 4095 = a % 4096 := iand_pow a 12 (by decide)
theorem iand_FFFF (a : Int) : iand .i64 a 65535 = a % 65536 := iand_pow a 16 (by decide)
theorem iand_FFFFFF (a : Int) : iand .i64 a 16777215 = a % 16777216 := iand_pow a 24 (by decide)

/-! ### Answers -/
def isT : Option R → Bool
  | some (.one (.c (.bool true)), []) => true
  | _ => false
theorem isT_eq {o : Option R} (h : isT o = true) : o = some (.one (.c (.bool true)), []) := by
  unfold isT at h
  split at h
  · rfl
  · cases h

/-! ### Arguments, told apart -/
theorem wk_int {k : IntKind} {x : List C} (h : WKs [.int k] x) : ∃ n, x = [.int k n] := by
  match x, h with
  | [.int k' n], h =>
    have := h.1
    simp only [C.kind, K.eq, ikq_iff] at this
    subst this
    exact ⟨n, rfl⟩
  | [.bool _], h => cases h.1
  | [.str _], h => cases h.1
  | [.sl _ _], h => cases h.1
  | _ :: _ :: _, h => exact h.2.elim
theorem wk_bool {x : List C} (h : WKs [.bool] x) : ∃ b, x = [.bool b] := by
  match x, h with
  | [.bool b], _ => exact ⟨b, rfl⟩
  | [.int _ _], h => cases h.1
  | [.str _], h => cases h.1
  | [.sl _ _], h => cases h.1
  | _ :: _ :: _, h => exact h.2.elim
theorem wk_str {x : List C} (h : WKs [.str] x) : ∃ b, x = [.str b] := by
  match x, h with
  | [.str b], _ => exact ⟨b, rfl⟩
  | [.int _ _], h => cases h.1
  | [.bool _], h => cases h.1
  | [.sl _ _], h => cases h.1
  | _ :: _ :: _, h => exact h.2.elim
theorem wk_sl {e : TypeId} {x : List C} (h : WKs [.sl e] x) : ∃ xs, x = [.sl e xs] := by
  match x, h with
  | [.sl e' xs], h =>
    have := h.1
    simp only [C.kind, K.eq] at this
    obtain rfl := Nat.eq_of_beq_eq_true this
    exact ⟨xs, rfl⟩
  | [.int _ _], h => cases h.1
  | [.bool _], h => cases h.1
  | [.str _], h => cases h.1
  | _ :: _ :: _, h => exact h.2.elim
end Go.Eng

namespace Go.Eng
open Go
theorem ishr_nat (a : Int) (k : Nat) (hk : k ≤ 64) : ishr .i64 a (k : Int) = a / ((2 ^ k : Nat) : Int) := by
  show a.fdiv (2 ^ min (k : Int).toNat 64) = _
  rw [Int.toNat_natCast, Nat.min_eq_left hk, Int.fdiv_eq_ediv_of_nonneg _ (by
    have : (0 : Int) ≤ ((2 ^ k : Nat) : Int) := Int.natCast_nonneg _
    simpa using this)]
  simp
theorem ishr_1 (a : Int) : ishr .i64 a 1 = a / 2 := ishr_nat a 1 (by decide)
end Go.Eng

namespace Go.Eng
open Go
theorem fin_of_mod (a : Int) (n : Nat) (h : 0 < n) : ∃ x : Fin n, a % (n : Int) = (x.val : Int) := by
  have h0 : 0 ≤ a % (n : Int) := Int.emod_nonneg _ (by omega)
  have h1 : a % (n : Int) < (n : Int) := Int.emod_lt_of_pos _ (by omega)
  exact ⟨⟨(a % (n : Int)).toNat, by omega⟩, by simp only; omega⟩
end Go.Eng

namespace Go.Eng
open Go
theorem wf_int {τ : Tab} {n : Int} (h : Wf τ (.int .i64 n)) : -9223372036854775808 ≤ n ∧ n ≤ 9223372036854775807 := by
  cases h with
  | int k n h => simpa [Lit.wf, IntKind.min, IntKind.max, IntKind.signed, IntKind.bits] using h
end Go.Eng

namespace Go.Eng
open Go
/-- A text of one byte. -/
def one (j : Nat) : ByteArray := ⟨#[UInt8.ofNat j]⟩
theorem strOf_one (j : Nat) : strOf [[C.int .u8 (j : Int)]] = one j := by
  simp only [strOf, List.map_cons, List.map_nil, byteOf, cl, List.getD_eq_getElem?_getD, List.getElem?_cons_zero, Option.getD_some, C.toI, Int.toNat_natCast]
  rfl
theorem one_ne {i j : Nat} (hi : i < 256) (hj : j < 256) : ((one i).toList == (one j).toList) = decide (i = j) := by
  rw [Go.ByteArray.toList_eq, Go.ByteArray.toList_eq]
  show ([UInt8.ofNat i] == [UInt8.ofNat j]) = _
  by_cases h : i = j
  · subst h; simp
  · rw [decide_eq_false h]
    rw [beq_eq_false_iff_ne]
    intro hc
    have := congrArg UInt8.toNat (List.cons.inj hc).1
    simp only [UInt8.toNat_ofNat'] at this
    omega
theorem u8_nat {i : Nat} (h : i < 256) : IntKind.u8.wrap (i : Int) = (i : Int) := IntWalk.u8_in _ ⟨by omega, by omega⟩
end Go.Eng
