/- Pe -/
import Derived.Test.YtnbiincgplkmbaaPd
import Derived.KernelRfl
namespace Go.Proofs.Ytnbiincgplkmbaa
open Go Go.Eng
set_option maxRecDepth 100000
/-! Arguments are good events. -/
theorem u8_of {c : C} (hk : K.eq c.kind (.int .u8) = true) (hw : Wf tab c) : isC8 c = true := by
  cases hw with
  | int k n h =>
    simp only [C.kind, K.eq, ikq_iff] at hk
    subst hk
    simp only [Lit.wf, IntKind.min, IntKind.max, IntKind.signed, IntKind.bits] at h
    simp only [isC8]
    simpa using h
  | bool b => cases hk
  | str s _ => cases hk
  | sl e xs _ _ _ => cases hk
theorem sub_c8 {x : List C} {ks : List K} {off : Nat} (hx : WKs ks x) (hw : ∀ c ∈ x, Wf tab c) (hk : ∀ i, i < 16 → ks.getD (off + i) .no = .int .u8) : ∀ c ∈ sub x off 16, isC8 c = true := by
  intro c hc
  obtain ⟨i, hi⟩ := List.mem_iff_getElem?.1 hc
  unfold sub at hi
  rw [List.getElem?_take] at hi
  split at hi
  · rename_i h16
    rw [List.getElem?_drop] at hi
    have hk2 := hx.get hi
    rw [hk i h16] at hk2
    exact u8_of hk2 (hw c (List.mem_of_getElem? hi))
  · cases hi
theorem cl_sub {x : List C} {off n j : Nat} (h : j < n) : cl (sub x off n) j = cl x (off + j) := by
  unfold cl sub
  rw [List.getD_eq_getElem?_getD, List.getD_eq_getElem?_getD, List.getElem?_take, if_pos h, List.getElem?_drop]
theorem cl_sl {x : List C} {ks : List K} {j : Nat} {e : TypeId} (hx : WKs ks x) (hj : j < x.length) (hk : ks.getD j .no = .sl e) : ∃ D, cl x j = .sl e D ∧ .sl e D ∈ x := by
  have hget : x[j]? = some x[j] := List.getElem?_eq_getElem hj
  have h := hx.get hget
  rw [hk] at h
  have hc : cl x j = x[j] := by unfold cl; rw [List.getD_eq_getElem?_getD, hget]; rfl
  have hm : x[j] ∈ x := List.getElem_mem hj
  rw [hc]
  generalize x[j] = c at h hm
  cases c with
  | sl e' D =>
    simp only [C.kind, K.eq] at h
    obtain rfl := Nat.eq_of_beq_eq_true h
    exact ⟨D, rfl, hm⟩
  | bool b => cases h
  | int k n => cases h
  | str s => cases h
theorem wf_sl {e : TypeId} {D : List (List C)} (h : Wf tab (.sl e D)) : D.length * (ti tab e).bytes ≤ Eng.lim ∧ (∀ r ∈ D, WK tab e r) ∧ ∀ r ∈ D, ∀ c ∈ r, Wf tab c := by
  cases h with
  | sl e xs h1 h2 h3 => exact ⟨h1, h2, h3⟩
theorem rows_B {D : List (List C)} (h1 : ∀ r ∈ D, WK tab 5 r) (h2 : ∀ r ∈ D, ∀ c ∈ r, Wf tab c) : isB D = true := by
  unfold isB
  rw [List.all_eq_true]
  intro r hr
  obtain ⟨n, rfl⟩ := wk_int (h1 r hr)
  have hw := h2 _ hr _ (List.mem_singleton.2 rfl)
  have := u8_of (c := .int .u8 n) rfl hw
  exact this
theorem k16 : ∀ i : Fin 16, (ti tab 36).ks.getD (5 + i.val) .no = .int .u8
  | ⟨0, _⟩ => rfl
  | ⟨1, _⟩ => rfl
  | ⟨2, _⟩ => rfl
  | ⟨3, _⟩ => rfl
  | ⟨4, _⟩ => rfl
  | ⟨5, _⟩ => rfl
  | ⟨6, _⟩ => rfl
  | ⟨7, _⟩ => rfl
  | ⟨8, _⟩ => rfl
  | ⟨9, _⟩ => rfl
  | ⟨10, _⟩ => rfl
  | ⟨11, _⟩ => rfl
  | ⟨12, _⟩ => rfl
  | ⟨13, _⟩ => rfl
  | ⟨14, _⟩ => rfl
  | ⟨15, _⟩ => rfl
  | ⟨n + 16, h⟩ => absurd h (by omega)
theorem k16a : ∀ i : Fin 16, (ti tab 29).ks.getD (0 + i.val) .no = .int .u8
  | ⟨0, _⟩ => rfl
  | ⟨1, _⟩ => rfl
  | ⟨2, _⟩ => rfl
  | ⟨3, _⟩ => rfl
  | ⟨4, _⟩ => rfl
  | ⟨5, _⟩ => rfl
  | ⟨6, _⟩ => rfl
  | ⟨7, _⟩ => rfl
  | ⟨8, _⟩ => rfl
  | ⟨9, _⟩ => rfl
  | ⟨10, _⟩ => rfl
  | ⟨11, _⟩ => rfl
  | ⟨12, _⟩ => rfl
  | ⟨13, _⟩ => rfl
  | ⟨14, _⟩ => rfl
  | ⟨15, _⟩ => rfl
  | ⟨n + 16, h⟩ => absurd h (by omega)
theorem k16b : ∀ i : Fin 16, (ti tab 42).ks.getD (0 + i.val) .no = .int .u8
  | ⟨0, _⟩ => rfl
  | ⟨1, _⟩ => rfl
  | ⟨2, _⟩ => rfl
  | ⟨3, _⟩ => rfl
  | ⟨4, _⟩ => rfl
  | ⟨5, _⟩ => rfl
  | ⟨6, _⟩ => rfl
  | ⟨7, _⟩ => rfl
  | ⟨8, _⟩ => rfl
  | ⟨9, _⟩ => rfl
  | ⟨10, _⟩ => rfl
  | ⟨11, _⟩ => rfl
  | ⟨12, _⟩ => rfl
  | ⟨13, _⟩ => rfl
  | ⟨14, _⟩ => rfl
  | ⟨15, _⟩ => rfl
  | ⟨n + 16, h⟩ => absurd h (by omega)
theorem sub_len {x : List C} {off n : Nat} (h : off + n ≤ x.length) : (sub x off n).length = n := by
  unfold sub
  rw [List.length_take, List.length_drop]
  omega
theorem adr_ok {e : TypeId} {D : List (List C)} (hk : ∀ i, i < 16 → (ti tab e).ks.getD (0 + i) .no = .int .u8) (hl : 16 ≤ (ti tab e).ks.length) (h1 : ∀ r ∈ D, WK tab e r) (h2 : ∀ r ∈ D, ∀ c ∈ r, Wf tab c) :
    D.all okAdr = true ∧ ∀ d ∈ D, (adB d).length = 16 := by
  refine ⟨?_, fun d hd => ?_⟩
  · rw [List.all_eq_true]
    intro d hd
    unfold okAdr
    rw [List.all_eq_true]
    exact sub_c8 (h1 d hd) (h2 d hd) hk
  · unfold adB
    rw [List.length_map]
    exact sub_len (by have := WKs.len (h1 d hd); omega)
theorem link_ok {y : List C} {D A : List (List C)} (h5 : cl y 5 = .sl 29 D) (h6 : cl y 6 = .sl 42 A) (w5 : Wf tab (.sl 29 D)) (w6 : Wf tab (.sl 42 A)) : okLink y = true ∧ LenL y := by
  obtain ⟨_, a1, a2⟩ := wf_sl w5
  obtain ⟨_, b1, b2⟩ := wf_sl w6
  obtain ⟨c1, c2⟩ := adr_ok (fun i hi => k16a ⟨i, hi⟩) (by decide) a1 a2
  obtain ⟨d1, d2⟩ := adr_ok (fun i hi => k16b ⟨i, hi⟩) (by decide) b1 b2
  unfold okLink LenL
  rw [h5, h6]
  exact ⟨by rw [Bool.and_eq_true]; exact ⟨c1, d1⟩, c2, d2⟩
theorem arg_good {x : List C} (hx : WK tab 36 x) (hw : ∀ c ∈ x, Wf tab c) : GoodE x ∧ (cl x 26).toL.length ≤ lim50 := by
  have hl : x.length = 34 := WKs.len hx
  obtain ⟨D, hD, mD⟩ := cl_sl (j := 23) (e := 5) hx (by omega) (by rfl)
  obtain ⟨T, hT, mT⟩ := cl_sl (j := 26) (e := 9) hx (by omega) (by rfl)
  obtain ⟨S, hS, mS⟩ := cl_sl (j := 29) (e := 29) hx (by omega) (by rfl)
  obtain ⟨A, hA, mA⟩ := cl_sl (j := 30) (e := 42) hx (by omega) (by rfl)
  have c5 : cl (sub x 24 7) 5 = .sl 29 S := by rw [cl_sub (by decide)]; exact hS
  have c6 : cl (sub x 24 7) 6 = .sl 42 A := by rw [cl_sub (by decide)]; exact hA
  obtain ⟨l1, l2⟩ := link_ok c5 c6 (hw _ mS) (hw _ mA)
  obtain ⟨_, d1, d2⟩ := wf_sl (hw _ mD)
  refine ⟨⟨sub_len (by omega), l2, ?_⟩, ?_⟩
  · unfold okEv
    rw [l1, hD, show (C.sl 5 D).toL = D from rfl, rows_B d1 d2, Bool.and_true, Bool.and_true, List.all_eq_true]
    exact sub_c8 hx hw fun i hi => k16 ⟨i, hi⟩
  · have := (wf_sl (hw _ mT)).1
    rw [hT, show (C.sl 9 T).toL = T from rfl]
    have hb : (ti tab 9).bytes = 16 := rfl
    rw [hb] at this
    have h47 : Eng.lim = 140737488351232 := rfl
    have h50 : lim50 = 1125899906842624 := rfl
    omega
theorem args_good {l : List (List C)} (hw : Wf tab (.sl 36 l)) : (∀ x ∈ l, GoodE x) ∧ (l.all fun x => Nat.ble (cl x 26).toL.length lim50) = true := by
  obtain ⟨_, h1, h2⟩ := wf_sl hw
  refine ⟨fun x hx => (arg_good (h1 x hx) (h2 x hx)).1, ?_⟩
  rw [List.all_eq_true]
  intro x hx
  rw [Nat.ble_eq]
  exact (arg_good (h1 x hx) (h2 x hx)).2

end Go.Proofs.Ytnbiincgplkmbaa
