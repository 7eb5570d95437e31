/- That the evaluator is right for operations and calls. Conditions: as before; the table of callees is sound (FSound). -/
import Derived.Test.YtdcdccdhdingbaaEngA
import Derived.Deep.AppendSrc
import Derived.ChangeKeysEq
import Derived.MapKept
import Derived.MapFrom
namespace Go.Eng
open Go

section
variable {P : Program} {τ : Tab} (ht : TabOk P τ)
include ht

/-- What a slice's elements are in memory, one behind the other. -/
def Row (τ : Tab) (w : World) (ok : Nat → Prop) (e : TypeId) (ys : List (List C)) (news : List Value) : Prop :=
  news.length = ys.length * (ti τ e).sz ∧ (∀ x ∈ ys, WK τ e x) ∧ ys.length ≤ big ∧ (∀ u ∈ news, u.oneCell' = true) ∧
    ∀ i x j y, ys[i]? = some x → x[j]? = some y → ∃ u, news[i * (ti τ e).sz + j]? = some u ∧ RC τ w ok y u

omit ht in
theorem mul_lt {i n sz j : Nat} (hi : i < n) (hj : j < sz) : i * sz + j < n * sz := by
  have := Nat.mul_le_mul_right sz (show i + 1 ≤ n from hi)
  rw [Nat.succ_mul] at this
  omega
omit ht in
theorem Row.nil {w : World} {ok : Nat → Prop} {e : TypeId} : Row τ w ok e [] [] :=
  ⟨by simp, fun _ h => (by cases h), Nat.zero_le _, fun _ h => (by cases h), fun i x j y hx => (by cases hx)⟩

theorem rd_cells {w : World} {ok : Nat → Prop} {e : TypeId} {xs : List (List C)} {A : Option Addr} {n c : Nat} (hr : Rd τ w ok e xs (.slice A n c)) :
    n = xs.length ∧ ∃ news, Row τ w ok e xs news ∧ (news = [] ∨ ∃ ad, A = some ad ∧ ad.spot = none ∧ ∀ j u, news[j]? = some u → w.cell? (ad.add j) = some u) ∧ (xs = [] → news = []) ∧
      (xs ≠ [] → ∃ ad, A = some ad ∧ ad.spot = none ∧ ad.block < w.heap.size) := by
  obtain ⟨A', c', h1, h2, h3, h4, ad, us, h5, h6, h7⟩ := hr
  cases h1
  refine ⟨rfl, (List.range (xs.length * (ti τ e).sz)).map (fun p => us (p / (ti τ e).sz) (p % (ti τ e).sz)), ⟨by simp, h4, h3, fun u hu => ?_, fun i x j y hx hy => ?_⟩, ?_, by rintro rfl; simp, fun hne => ⟨ad, (h5 hne).1, (h5 hne).2.2, (h5 hne).2.1⟩⟩
  · obtain ⟨p, hp, rfl⟩ := List.mem_map.1 hu
    simp only [List.mem_range] at hp
    have hsz : 0 < (ti τ e).sz := by
      rcases Nat.eq_zero_or_pos (ti τ e).sz with h | h
      · rw [h] at hp; simp at hp
      · exact h
    have hi : p / (ti τ e).sz < xs.length := Nat.div_lt_of_lt_mul (by rw [Nat.mul_comm]; exact hp)
    have hj := Nat.mod_lt p hsz
    have hx : xs[p / (ti τ e).sz]? = some xs[p / (ti τ e).sz] := List.getElem?_eq_getElem hi
    have hl := WKs.len (h4 _ (List.mem_of_getElem? hx))
    rw [ht.len e] at hl
    exact (h7 _ _ _ _ hx (List.getElem?_eq_getElem (by omega))).one
  · have hi : i < xs.length := (List.getElem?_eq_some_iff.1 hx).1
    have hl := WKs.len (h4 _ (List.mem_of_getElem? hx))
    rw [ht.len e] at hl
    have hj : j < (ti τ e).sz := by have := (List.getElem?_eq_some_iff.1 hy).1; omega
    refine ⟨us i j, ?_, h7 i x j y hx hy⟩
    rw [List.getElem?_map, List.getElem?_range (mul_lt hi hj), Option.map_some]
    have h8 : (i * (ti τ e).sz + j) / (ti τ e).sz = i := by rw [Nat.mul_comm, Nat.mul_add_div (by omega), Nat.div_eq_of_lt hj, Nat.add_zero]
    have h9 : (i * (ti τ e).sz + j) % (ti τ e).sz = j := by rw [Nat.mul_comm, Nat.mul_add_mod, Nat.mod_eq_of_lt hj]
    rw [h8, h9]
  · by_cases hne : xs = []
    · subst hne; simp
    · refine .inr ⟨ad, (h5 hne).1, (h5 hne).2.2, fun p u hu => ?_⟩
      have hp : p < xs.length * (ti τ e).sz := by have := (List.getElem?_eq_some_iff.1 hu).1; simpa using this
      rw [List.getElem?_map, List.getElem?_range hp] at hu
      cases hu
      have hsz : 0 < (ti τ e).sz := by
        rcases Nat.eq_zero_or_pos (ti τ e).sz with h | h
        · rw [h] at hp; simp at hp
        · exact h
      have hi : p / (ti τ e).sz < xs.length := Nat.div_lt_of_lt_mul (by rw [Nat.mul_comm]; exact hp)
      have hj := Nat.mod_lt p hsz
      have hx : xs[p / (ti τ e).sz]? = some xs[p / (ti τ e).sz] := List.getElem?_eq_getElem hi
      have hl := WKs.len (h4 _ (List.mem_of_getElem? hx))
      rw [ht.len e] at hl
      have := h6 _ _ _ _ hx (List.getElem?_eq_getElem (show p % (ti τ e).sz < _ from by omega))
      rw [Nat.mul_comm, Nat.div_add_mod] at this
      obtain ⟨b, o, sp⟩ := ad
      have hs := (h5 hne).2.2
      simp only at hs
      subst hs
      rw [Addr.add_lit]
      exact this

/-- .. as the second argument of an append, or of a copy. -/
theorem rd_src {w : World} {ok : Nat → Prop} {e tx : TypeId} {xs : List (List C)} {v : Value} (hk : (∃ e', P.underlying tx = some (.slice e')) ∨ P.underlying tx = some .string) (hr : Rd τ w ok e xs v) :
    ∃ news, Src P (ti τ e).sz tx v xs.length news w ∧ Row τ w ok e xs news ∧ ∀ m, m ≤ xs.length → (Builtin.firstCells (ti τ e).sz m v).run P w = .ok (news.take (m * (ti τ e).sz)).toArray w := by
  have hr' := hr
  obtain ⟨A, c, rfl, _⟩ := hr'
  obtain ⟨_, news, h1, h2, h3, h4⟩ := rd_cells ht hr
  cases A with
  | some a =>
    have hn : ∀ j u, news[j]? = some u → w.cell? (a.add j) = some u := fun j u hu => by
      rcases h2 with h2 | ⟨ad, h5, h6, h7⟩
      · rw [h2] at hu; simp at hu
      · cases h5; exact h7 j u hu
    refine ⟨news, ⟨hk, fun _ => rfl, run_firstCells_some w _ _ a _ c news h1.1 hn, run_firstCells_some w.drew _ _ a _ c news h1.1 (by simpa using hn), h1.1, h1.2.2.2.1⟩, h1, fun m hm => run_firstCells_some w _ _ a _ c _ ?_ fun j u hu => ?_⟩
    · have := Nat.mul_le_mul_right (ti τ e).sz hm
      have := h1.1
      rw [List.length_take]
      omega
    · rw [List.getElem?_take] at hu
      split at hu
      · exact hn j u hu
      · cases hu
  | none =>
    have hx : xs = [] := by
      by_cases hne : xs = []
      · exact hne
      · obtain ⟨ad, h5, _⟩ := h4 hne; cases h5
    subst hx
    have hne := h3 rfl
    subst hne
    exact ⟨[], ⟨hk, fun _ => rfl, run_firstCells_none w _ 0 0 c, run_firstCells_none w.drew _ 0 0 c, by simp, fun _ h => (by cases h)⟩, h1, fun m _ => by simpa using run_firstCells_none w _ m 0 c⟩

theorem rd_src' {w : World} {ok : Nat → Prop} {e tx : TypeId} {xs : List (List C)} {r : Value} {v : V} (hk : (∃ e', P.underlying tx = some (.slice e')) ∨ P.underlying tx = some .string) (hr : Rd τ w ok e xs r) :
    ∃ news, Src P (ti τ e).sz tx r xs.length news w ∧ Row τ w ok e xs news ∧ (∀ m, m ≤ xs.length → (Builtin.firstCells (ti τ e).sz m r).run P w = .ok (news.take (m * (ti τ e).sz)).toArray w) ∧ ((∃ A c, r = .slice A xs.length c) ∨ ∃ s, v = .one (.c (.str s))) := by
  obtain ⟨news, h1, h2, h3⟩ := rd_src ht hk hr
  obtain ⟨A, c, h4, _⟩ := hr
  exact ⟨news, h1, h2, h3, .inl ⟨A, c, h4⟩⟩

theorem srcV_ok {h : Heap} {e : TypeId} {v : V} {cont : List (List C) → List Key → Option R} {x : R} (hh : srcV τ h e v cont = some x) :
    ∃ ys rk, cont ys rk = some x ∧ ∀ h2, (∀ k ∈ rk, hook h2 k = hook h k) → ∀ M κ w r tx, HRel τ M κ h2 w → RV τ w (okB M κ) κ v r →
      ((∃ e', P.underlying tx = some (.slice e')) ∨ P.underlying tx = some .string) → ∃ news, Src P (ti τ e).sz tx r ys.length news w ∧ Row τ w (okB M κ) e ys news ∧ (∀ m, m ≤ ys.length → (Builtin.firstCells (ti τ e).sz m r).run P w = .ok (news.take (m * (ti τ e).sz)).toArray w) ∧ ((∃ A c, r = .slice A ys.length c) ∨ ∃ s, v = .one (.c (.str s))) := by
  unfold srcV at hh
  split at hh
  · rename_i e' xs
    split at hh
    · rename_i hb
      obtain rfl := beq_eq hb
      exact ⟨_, _, hh, fun h2 _ M κ w r tx H hr hk => rd_src' ht hk (RC.rd hr)⟩
    · cases hh
  · rename_i e'
    split at hh
    · refine ⟨_, _, hh, fun h2 _ M κ w r tx H hr hk => ⟨[], ?_, Row.nil, fun m _ => (by cases hr; simpa using run_firstCells_none w _ m 0 0), .inl ⟨none, 0, hr⟩⟩⟩
      cases hr
      exact ⟨hk, fun _ => rfl, run_firstCells_none w _ 0 0 0, run_firstCells_none w.drew _ 0 0 0, by simp, fun _ h => (by cases h)⟩
    · cases hh
  · rename_i e' xs
    split at hh
    · rename_i hb
      obtain rfl := beq_eq hb
      exact ⟨_, _, hh, fun h2 _ M κ w r tx H hr hk => rd_src' ht hk (RC.rd hr.1)⟩
    · cases hh
  · rename_i q g e'
    split at hh
    · rename_i hb
      obtain rfl := beq_eq hb
      obtain ⟨xs, u, B, hk, h3, hB⟩ := ownAt_inv hh
      exact ⟨_, _, h3, fun h2 hk2 M κ w r tx H hr hkd => rd_src' ht hkd (own_rd H ((hk2 q (by simp)).trans hk) (hB.imp (fun ⟨m, h, _⟩ => ⟨m, h⟩) And.left) hr)⟩
    · cases hh
  · rename_i q g off n e'
    split at hh
    · rename_i hb
      obtain rfl := beq_eq hb
      obtain ⟨t, y, u, B, hk, h3, h4, h5, h6, hB⟩ := bslAt_inv hh
      exact ⟨_, _, h3, fun h2 hk2 M κ w r tx H hr hkd => rd_src' ht hkd (bsl_rd (ht.len _) H ((hk2 q (by simp)).trans hk) h4 h5 h6 (hB.imp And.left And.left) hr)⟩
    · cases hh
  · rename_i s
    split at hh
    · rename_i hd
      refine ⟨_, _, hh, fun h2 _ M κ w r tx H hr hk => ?_⟩
      obtain ⟨rfl, hbig⟩ := RC.str_inv hr
      have hke := Ks.eq_iff hd
      have hs1 : (ti τ e).sz = 1 := by rw [← ht.len e, hke]; rfl
      have hlen : (bytesOf s).length = s.size := by simp [bytesOf]
      refine ⟨byteCells s, ?_, ?_, fun m hm => ?_, .inr ⟨s, rfl⟩⟩
      · rw [hs1, hlen]
        exact ⟨hk, fun _ => rfl, firstCells_string s w, firstCells_string s w.drew, by rw [byteCells_length, Nat.mul_one], fun u hu => by
          obtain ⟨_, _, rfl⟩ := List.mem_map.1 hu
          rfl⟩
      · refine ⟨by rw [hlen, hs1, byteCells_length, Nat.mul_one], fun y hy => ?_, by rw [hlen]; exact hbig, fun u hu => ?_, fun i y j z hy hz => ?_⟩
        · obtain ⟨b, _, rfl⟩ := List.mem_map.1 hy
          unfold WK
          rw [hke]
          exact ⟨rfl, trivial⟩
        · obtain ⟨_, _, rfl⟩ := List.mem_map.1 hu
          rfl
        · simp only [bytesOf, List.getElem?_map] at hy
          cases hb : s.data.toList[i]? with
          | none => rw [hb] at hy; cases hy
          | some b =>
            rw [hb] at hy
            cases hy
            cases j with
            | succ j => cases hz
            | zero =>
              cases hz
              refine ⟨.int .u8 b.toNat, ?_, RC.int _ _⟩
              simp only [byteCells, hs1, Nat.mul_one, Nat.add_zero, List.getElem?_map, hb, Option.map_some]
      · rw [hs1, Nat.mul_one]
        simp only [Builtin.firstCells, Sem.run_pure]
        congr 1
        apply Array.ext'
        simp [byteCells]
    · cases hh
  · cases hh

/-- A slice of our own, in a new row. -/
theorem arr_grow {h : Heap} {M : Nat → Prop} {κ : Kap} {w : World} (H : HRel τ M κ h w) (k : Key) {g : Nat} (hg : ∀ e, κ k = some e → e.g < g) {e : TypeId} (m : Bool) {xs ys : List (List C)} {olds news : List Value} {z : Array Value}
    (ho : Row τ w (okB M κ) e xs olds) (hn : Row τ w (okB M κ) e ys news) {cap : Nat} (hc : xs.length + ys.length ≤ cap) (hz : z.size = (ti τ e).sz) (hbig : xs.length + ys.length ≤ big) :
    ∃ κ', HRel τ M κ' (hput h k (g, .arr e m (xs ++ ys))) (w.drew.alloc (.cells ((olds ++ news).toArray ++ Builtin.zeroCells z (cap - (xs.length + ys.length))) e)) ∧
      Ext M κ w κ' (w.drew.alloc (.cells ((olds ++ news).toArray ++ Builtin.zeroCells z (cap - (xs.length + ys.length))) e)) ∧
      RA τ (w.drew.alloc (.cells ((olds ++ news).toArray ++ Builtin.zeroCells z (cap - (xs.length + ys.length))) e)) (okB M κ') κ' (.own k g e) (.slice (some ⟨w.heap.size, 0, none⟩) (xs.length + ys.length) cap) := by
  obtain ⟨cs, hcs⟩ : ∃ cs, cs = (olds ++ news).toArray ++ Builtin.zeroCells z (cap - (xs.length + ys.length)) := ⟨_, rfl⟩
  rw [← hcs]
  have hsz : w.heap.size ≤ (w.drew.alloc (.cells cs e)).heap.size := by have := wnew_size (w := w.drew) (o := .cells cs e); unfold wnew at this; rw [this]; exact Nat.le_succ _
  have hold : ∀ b, b < w.heap.size → (w.drew.alloc (.cells cs e)).heap[b]? = w.heap[b]? := fun b hb => wnew_old (w := w.drew) hb
  have hat : (w.drew.alloc (.cells cs e)).heap[w.heap.size]? = some (.cells cs e) := wnew_at (w := w.drew)
  have hsz1 : (w.drew.alloc (.cells cs e)).heap.size = w.heap.size + 1 := wnew_size (w := w.drew)
  obtain ⟨en, hen⟩ : ∃ en : Ent, en = ⟨g, .slice (some ⟨w.heap.size, 0, none⟩) (xs.length + ys.length) cap, some w.heap.size⟩ := ⟨_, rfl⟩
  have hgg : ∀ e, κ k = some e → e.g ≤ en.g ∧ (e.g = en.g → en.q = e.q) := fun e he => by
    have := hg e he
    rw [hen]
    exact ⟨Nat.le_of_lt this, fun h => absurd h (Nat.ne_of_lt this)⟩
  have hx : Ext M κ w (κ.set k en) (w.drew.alloc (.cells cs e)) := Ext.upd k en rfl rfl rfl hsz (fun b hb _ => hold b hb) hgg fun b hb => by rw [hen] at hb; cases hb; exact .inl (Nat.le_refl _)
  have hu := HRel.upd (w' := w.drew.alloc (.cells cs e)) H k en (.arr e m (xs ++ ys)) rfl rfl rfl hsz (fun b hb _ => hold b hb) hgg (fun b hb => by rw [hen] at hb; cases hb; exact ⟨by rw [hsz1]; omega, .inl (Nat.le_refl _)⟩)
    (by
      have hol := ho.1
      have hnl := hn.1
      refine ⟨some ⟨w.heap.size, 0, none⟩, cap, by rw [hen, List.length_append], by rw [List.length_append]; exact hc, by rw [List.length_append]; exact hbig, fun x hx => ?_, .inl ⟨w.heap.size, cs, e, by rw [hen], rfl, hat, ?_, fun i x j y hx1 hy => ?_⟩⟩
      · rcases List.mem_append.1 hx with h | h
        · exact ho.2.1 x h
        · exact hn.2.1 x h
      · rw [hcs]
        simp only [Array.size_append, List.size_toArray, List.length_append, hol, hnl, size_zeroCells, hz, ← Nat.add_mul]
        congr 1
        omega
      · have hj : j < (ti τ e).sz := by
          have hw : WK τ e x := by
            rcases List.mem_append.1 (List.mem_of_getElem? hx1) with h | h
            · exact ho.2.1 x h
            · exact hn.2.1 x h
          have := WKs.len hw
          rw [ht.len e] at this
          have := (List.getElem?_eq_some_iff.1 hy).1
          omega
        have hpre : ∀ p, p < (olds ++ news).length → cs[p]? = (olds ++ news)[p]? := fun p hp => by
          rw [hcs, Array.getElem?_append_left (by simpa using hp)]
          simp
        by_cases hi : i < xs.length
        · rw [List.getElem?_append_left hi] at hx1
          obtain ⟨u, h1, h2⟩ := ho.2.2.2.2 i x j y hx1 hy
          have hlt := mul_lt hi hj
          refine ⟨u, ?_, h2.ext hx⟩
          rw [hpre _ (by simp; omega), List.getElem?_append_left (by omega), h1]
        · rw [List.getElem?_append_right (by omega)] at hx1
          obtain ⟨u, h1, h2⟩ := hn.2.2.2.2 _ x j y hx1 hy
          have hlt := mul_lt (i := i - xs.length) (n := ys.length) (by have := (List.getElem?_eq_some_iff.1 hx1).1; omega) hj
          have hmul : i * (ti τ e).sz = xs.length * (ti τ e).sz + (i - xs.length) * (ti τ e).sz := by rw [← Nat.add_mul]; congr 1; omega
          refine ⟨u, ?_, h2.ext hx⟩
          rw [hpre _ (by simp; omega), List.getElem?_append_right (by omega), ← h1]
          congr 1
          omega)
  refine ⟨_, ?_, hx, ?_⟩
  · have := hu.1
    rw [hen] at this
    rw [hen]
    exact this
  · simp only [RA]
    refine ⟨rfl, en, Kap.set_same _ _ _, by rw [hen]; exact Nat.le_refl _, fun _ => by rw [hen]⟩

omit ht in
/-- .. of no more room than elements, kept as it is: nothing came. -/
theorem arr_keep {h : Heap} {M : Nat → Prop} {κ : Kap} {w : World} (H : HRel τ M κ h w) (k : Key) {g : Nat} (hg : ∀ e, κ k = some e → e.g < g) {e : TypeId} (m : Bool) {xs : List (List C)} {v : Value} {A : Option Addr} {n : Nat}
    (hv : v = .slice A n n) (hr : RC τ w (okB M κ) (.sl e xs) v) (hm : m = true → xs = []) :
    ∃ κ', HRel τ M κ' (hput h k (g, .arr e m (xs ++ []))) w ∧ Ext M κ w κ' w ∧ RA τ w (okB M κ') κ' (.own k g e) v := by
  obtain ⟨en, hen⟩ : ∃ en : Ent, en = ⟨g, v, none⟩ := ⟨_, rfl⟩
  have hgg : ∀ e, κ k = some e → e.g ≤ en.g ∧ (e.g = en.g → en.q = e.q) := fun e he => by
    have := hg e he
    rw [hen]
    exact ⟨Nat.le_of_lt this, fun h => absurd h (Nat.ne_of_lt this)⟩
  have hx : Ext M κ w (κ.set k en) w := Ext.upd k en rfl rfl rfl (Nat.le_refl _) (fun b hb _ => rfl) hgg fun b hb => by rw [hen] at hb; cases hb
  have hu := HRel.upd (w' := w) H k en (.arr e m (xs ++ [])) rfl rfl rfl (Nat.le_refl _) (fun b hb _ => rfl) hgg (fun b hb => by rw [hen] at hb; cases hb)
    (by
      obtain ⟨A', c', h1, h2, h3, h4, _⟩ := hr.sl_inv
      rw [hv] at h1
      cases h1
      rw [List.append_nil]
      have hq : en.q = v := by rw [hen]
      exact ⟨A, xs.length, by rw [hq]; exact hv, Nat.le_refl _, h3, h4, .inr ⟨by rw [hen], rfl, hm, by rw [hq]; exact hr.ext hx⟩⟩)
  refine ⟨_, ?_, hx, ?_⟩
  · have := hu.1
    rw [hen] at this
    rw [hen]
    exact this
  · simp only [RA]
    refine ⟨by rw [hv]; rfl, en, Kap.set_same _ _ _, by rw [hen]; exact Nat.le_refl _, fun _ => by rw [hen]⟩

omit ht in
theorem roomOk_iff {n b : Nat} (h : roomOk n b = true) : n ≤ 140737488355328 ∧ n * b ≤ 140737488355328 := by
  simp only [roomOk, Bool.and_eq_true] at h
  exact ⟨Nat.le_of_ble_eq_true h.1, Nat.le_of_ble_eq_true h.2⟩

omit ht in
/-- append: nothing comes. -/
theorem run_append_none {t tx ty e : TypeId} {i : TypeInfo} (hu : P.underlying t = some (.slice e)) (hi : P.info? e = some i) (A : Option Addr) (n c : Nat) {x : Value} {w : World} (hs : Src P i.size tx x 0 [] w) (hc : n ≤ c) :
    (Builtin.append_ #[t, tx] ty #[.slice A n c, x]).run P w = .ok (.slice A n c) w := by
  cases A <;> rcases hs.kind with ⟨e', hk⟩ | hk <;> simp [Builtin.append_, run_underlying hu, run_underlying hk, sizeOf, typeInfo, hi, hs.len, hc, hs.cells, storeCells]

omit ht in
theorem run_append_room_row {t tx ty e : TypeId} {i : TypeInfo} (hu : P.underlying t = some (.slice e)) (hi : P.info? e = some i) {b sLen sCap n : Nat} {x : Value} {news : List Value} {w : World} (hs : Src P i.size tx x n news w)
    (hroom : sLen + n ≤ sCap) {cs : Array Value} {u : TypeId} (hb : w.heap[b]? = some (.cells cs u (0, 0))) (hfit : sLen * i.size + news.length ≤ cs.size) :
    (Builtin.append_ #[t, tx] ty #[.slice (some ⟨b, 0, none⟩) sLen sCap, x]).run P w =
      .ok (.slice (some ⟨b, 0, none⟩) (sLen + n) sCap) (w.setRow b (cs.toList.take (sLen * i.size) ++ news ++ cs.toList.drop (sLen * i.size + news.length)).toArray) := by
  have hst := run_storeCells_at (P := P) b (sLen * i.size) u news 0 cs w hb (by simpa using hfit) hs.one
  simp only [Nat.add_zero] at hst
  rcases hs.kind with ⟨e', hk⟩ | hk <;> simp [Builtin.append_, run_underlying hu, run_underlying hk, sizeOf, typeInfo, hi, hs.len, hroom, hs.cells, Addr.add_lit, hst]

/-- A slice of our own, with room. -/
theorem arr_room {h : Heap} {M : Nat → Prop} {κ : Kap} {w : World} (H : HRel τ M κ h w) {k : Key} {g c b : Nat} {e ty : TypeId} {m : Bool} {xs ys : List (List C)} {news : List Value} {en : Ent} {cs : Array Value}
    (hκ : κ k = some en) (hg : en.g < g) (_hq : en.q = .slice (some ⟨b, 0, none⟩) xs.length c) (hob : en.ob = some b) (hb : w.heap[b]? = some (.cells cs ty (0, 0))) (hcs : cs.size = c * (ti τ e).sz)
    (hwk : ∀ x ∈ xs, WK τ e x) (hel : ∀ i x j y, xs[i]? = some x → x[j]? = some y → ∃ v, cs[i * (ti τ e).sz + j]? = some v ∧ RC τ w (okB M κ) y v)
    (hn : Row τ w (okB M κ) e ys news) (hc : xs.length + ys.length ≤ c) (hbig : xs.length + ys.length ≤ big) :
    ∃ κ', HRel τ M κ' (hput h k (g, .arr e m (xs ++ ys))) (w.setRow b (cs.toList.take (xs.length * (ti τ e).sz) ++ news ++ cs.toList.drop (xs.length * (ti τ e).sz + news.length)).toArray) ∧
      Ext M κ w κ' (w.setRow b (cs.toList.take (xs.length * (ti τ e).sz) ++ news ++ cs.toList.drop (xs.length * (ti τ e).sz + news.length)).toArray) ∧
      RA τ (w.setRow b (cs.toList.take (xs.length * (ti τ e).sz) ++ news ++ cs.toList.drop (xs.length * (ti τ e).sz + news.length)).toArray) (okB M κ') κ' (.own k g e) (.slice (some ⟨b, 0, none⟩) (xs.length + ys.length) c) := by
  have hnl := hn.1
  have hmul := Nat.mul_le_mul_right (ti τ e).sz hc
  rw [Nat.add_mul] at hmul
  obtain ⟨cs', hcs'⟩ : ∃ cs', cs' = (cs.toList.take (xs.length * (ti τ e).sz) ++ news ++ cs.toList.drop (xs.length * (ti τ e).sz + news.length)).toArray := ⟨_, rfl⟩
  rw [← hcs']
  have hw' := setRow_heap w b cs cs' ty (0, 0) hb
  have hget : ∀ p, cs'[p]? = if xs.length * (ti τ e).sz ≤ p ∧ p < xs.length * (ti τ e).sz + news.length then news[p - xs.length * (ti τ e).sz]? else cs[p]? := fun p => by
    have := spl_get (cs := cs.toList) (ys := news) (off := xs.length * (ti τ e).sz) (i := p) (by simp; omega)
    rw [hcs', List.getElem?_toArray, List.append_assoc, this]
    simp
  have hsz' : cs'.size = cs.size := by
    rw [hcs']
    simp only [List.size_toArray, List.length_append, List.length_take, List.length_drop, Array.length_toList]
    omega
  obtain ⟨w', hw⟩ : ∃ w', w' = w.setRow b cs' := ⟨_, rfl⟩
  have hot : ∀ k, k ≠ b → w'.heap[k]? = w.heap[k]? := fun k hk => by rw [hw]; exact setRow_other _ _ _ _ hk
  have hos : w'.os = w.os ∧ w'.tape = w.tape ∧ w'.output = w.output ∧ w'.heap.size = w.heap.size := by rw [hw]; simp
  rw [← hw] at hw' ⊢
  clear hw
  obtain ⟨en', hen⟩ : ∃ en' : Ent, en' = ⟨g, .slice (some ⟨b, 0, none⟩) (xs.length + ys.length) c, some b⟩ := ⟨_, rfl⟩
  have hbx : ∀ b', b' < w.heap.size → (∀ e, κ k = some e → e.ob ≠ some b') → w'.heap[b']? = w.heap[b']? := fun b' _ hn => hot b' fun hc => hn en hκ (by rw [hc]; exact hob)
  have hgg : ∀ e, κ k = some e → e.g ≤ en'.g ∧ (e.g = en'.g → en'.q = e.q) := fun e he => by
    rw [hκ] at he; cases he
    rw [hen]
    exact ⟨Nat.le_of_lt hg, fun h => absurd h (Nat.ne_of_lt hg)⟩
  have hx : Ext M κ w (κ.set k en') w' := Ext.upd k en' hos.1 hos.2.1 hos.2.2.1 (Nat.le_of_eq hos.2.2.2.symm) hbx hgg fun b' hb' => by rw [hen] at hb'; cases hb'; exact .inr ⟨en, hκ, hob⟩
  have hu := HRel.upd H k en' (.arr e m (xs ++ ys)) hos.1 hos.2.1 hos.2.2.1 (Nat.le_of_eq hos.2.2.2.symm) hbx hgg (fun b' hb' => by rw [hen] at hb'; cases hb'; exact ⟨by rw [hos.2.2.2]; exact (H.rng k en b hκ hob).1, .inr ⟨en, hκ, hob⟩⟩)
    (by
      refine ⟨some ⟨b, 0, none⟩, c, by rw [hen, List.length_append], by rw [List.length_append]; exact hc, by rw [List.length_append]; exact hbig, fun x hx => ?_, .inl ⟨b, cs', ty, by rw [hen], rfl, hw', by rw [hsz', hcs], fun i x j y hx1 hy => ?_⟩⟩
      · rcases List.mem_append.1 hx with h | h
        · exact hwk x h
        · exact hn.2.1 x h
      · have hj : j < (ti τ e).sz := by
          have hw : WK τ e x := by
            rcases List.mem_append.1 (List.mem_of_getElem? hx1) with h | h
            · exact hwk x h
            · exact hn.2.1 x h
          have := WKs.len hw
          rw [ht.len e] at this
          have := (List.getElem?_eq_some_iff.1 hy).1
          omega
        by_cases hi : i < xs.length
        · rw [List.getElem?_append_left hi] at hx1
          obtain ⟨u, h1, h2⟩ := hel i x j y hx1 hy
          have hlt := mul_lt hi hj
          exact ⟨u, by rw [hget, if_neg (by omega), h1], h2.ext hx⟩
        · rw [List.getElem?_append_right (by omega)] at hx1
          obtain ⟨u, h1, h2⟩ := hn.2.2.2.2 _ x j y hx1 hy
          have hlt := mul_lt (i := i - xs.length) (n := ys.length) (by have := (List.getElem?_eq_some_iff.1 hx1).1; omega) hj
          have hmul2 : i * (ti τ e).sz = xs.length * (ti τ e).sz + (i - xs.length) * (ti τ e).sz := by rw [← Nat.add_mul]; congr 1; omega
          refine ⟨u, ?_, h2.ext hx⟩
          rw [hget, if_pos (by omega), ← h1]
          congr 1
          omega)
  refine ⟨_, ?_, hx, ?_⟩
  · have := hu.1
    rw [hen] at this
    rw [hen]
    exact this
  · simp only [RA]
    refine ⟨rfl, en', Kap.set_same _ _ _, by rw [hen]; exact Nat.le_refl _, fun _ => by rw [hen]⟩

theorem appendV_ok {h : Heap} {d : Nat} {t tx : TypeId} {s xv : V} {k : Kt} {r : R} (htx : (∃ e', P.underlying tx = some (.slice e')) ∨ P.underlying tx = some .string) (hh : appendV τ h d t s xv k = some r) :
    ∃ v rk u, k v rk u = some r ∧ ∀ h2, (∀ k ∈ rk, hook h2 k = hook h k) → ∀ M κ w sv x ty, HRel τ M κ h2 w → RV τ w (okB M κ) κ s sv → RV τ w (okB M κ) κ xv x →
      ∃ r2 κ' w', (Builtin.append_ #[t, tx] ty #[sv, x]).run P w = .ok r2 w' ∧ HRel τ M κ' (ups h2 u) w' ∧ Ext M κ w κ' w' ∧ RV τ w' (okB M κ') κ' v r2 := by
  unfold appendV at hh
  split at hh
  · rename_i e hd
    obtain ⟨hu, hde⟩ := ht.sl hd
    obtain ⟨d0, inf, z, _, hi, _, _, _, hsz, hby, _, hz, _, hz2⟩ := ht.parts hde
    have hzs : z.cells.size = (ti τ e).sz := by
      have := (zeroOk_rel (τ := τ) default (fun _ => True) (fun _ => none) _ _ hz2).1
      rw [ht.len e] at this
      simpa using this
    obtain ⟨ys, rk, h1, h2⟩ := srcV_ok ht hh
    simp only at h1
    -- what comes
    have hsrc : ∀ h2', (∀ k ∈ rk, hook h2' k = hook h k) → ∀ M κ w x, HRel τ M κ h2' w → RV τ w (okB M κ) κ xv x → ∃ news, Src P inf.size tx x ys.length news w ∧ Row τ w (okB M κ) e ys news := fun h2' hk M κ w x H hx => by
      rw [hsz]
      obtain ⟨news, a1, a2, _⟩ := h2 h2' hk M κ w x tx H hx htx
      exact ⟨news, a1, a2⟩
    have grow : ∀ {M κ w x} {A : Option Addr} {n c : Nat} {xs : List (List C)} {olds news : List Value} {h2' : Heap} (kk : Key) (g : Nat) (m : Bool) (ty : TypeId), HRel τ M κ h2' w → (∀ e, κ kk = some e → e.g < g) → n = xs.length →
        (Builtin.firstCells inf.size n (.slice A n c)).run P w.drew = .ok olds.toArray w.drew → Row τ w (okB M κ) e xs olds → Src P inf.size tx x ys.length news w → Row τ w (okB M κ) e ys news → c < n + ys.length →
        roomOk (xs.length + ys.length) (ti τ e).bytes = true →
        ∃ r2 κ' w', (Builtin.append_ #[t, tx] ty #[.slice A n c, x]).run P w = .ok r2 w' ∧ HRel τ M κ' (hput h2' kk (g, .arr e m (xs ++ ys))) w' ∧ Ext M κ w κ' w' ∧ RV τ w' (okB M κ') κ' (.one (.own kk g e)) r2 := by
      intro M κ w x A n c xs olds news h2' kk g m ty H hg hn hold ho hs hr hc hroom
      subst hn
      obtain ⟨r1, r2⟩ := roomOk_iff hroom
      have hrun := run_append_grow_src (P := P) w t tx ty e inf z hu hi hz A xs.length c olds hold x ys.length news hs hc (by omega) (growslice_fits hc (by rw [hby]; exact r2))
      obtain ⟨κ', a1, a2, a3⟩ := arr_grow ht H kk hg m ho hr (grownCap_ge w (xs.length + ys.length) c e) hzs (by unfold big; omega)
      exact ⟨_, κ', _, hrun, a1, a2, a3⟩
    have gone : ∀ {κ : Kap} {M w h2'} {kk : Key}, HRel τ M κ h2' w → hook h2' kk = hook h kk → ∀ e, κ kk = some e → e.g < nextG h kk := fun {κ M w h2' kk} H hk e he => by
      rw [← nextG_agree hk]; exact nextG_lt H he
    split at h1
    · -- nil
      rename_i e'
      split at h1
      · obtain ⟨hroom, h3⟩ := bcond_some_none h1
        refine ⟨_, _, _, h3, fun h2' hk M κ w sv x ty H hs hx => ?_⟩
        cases hs
        obtain ⟨news, s1, s2⟩ := hsrc h2' (fun k hk' => hk k (List.mem_cons_of_mem _ hk')) M κ w x H hx
        have hgn := gone H (hk _ (List.mem_cons_self ..))
        by_cases hy : ys = []
        · subst hy
          have hne : news = [] := by have := s2.1; simp at this; exact this
          subst hne
          obtain ⟨κ', a1, a2, a3⟩ := arr_keep H (.loc d 0) hgn true (xs := []) (v := .slice none 0 0) (A := none) (n := 0) rfl (RC.sl e [] none 0 ⟨0, 0, none⟩ (fun _ _ => undef) (Nat.le_refl _) (Nat.zero_le _) (fun _ h => (by cases h)) (fun h => absurd rfl h) (fun i x j y h => (by cases h)) (fun i x j y h => (by cases h))) (fun _ => rfl)
          exact ⟨_, κ', w, run_append_none hu hi none 0 0 s1 (Nat.le_refl _), a1, a2, a3⟩
        · have hl : 0 < ys.length := List.length_pos_iff.2 hy
          exact grow (xs := []) (olds := []) (.loc d 0) _ true ty H hgn rfl (run_firstCells_none w.drew _ 0 0 0) Row.nil s1 s2 (by omega) (by simpa using hroom)
      · cases h1
    · -- full
      rename_i e' xs
      split at h1
      · rename_i hbe
        obtain rfl := beq_eq hbe
        obtain ⟨hroom, h3⟩ := bcond_some_none h1
        refine ⟨_, _, _, h3, fun h2' hk M κ w sv x ty H hs hx => ?_⟩
        obtain ⟨hrc, A, n, rfl⟩ := hs
        obtain ⟨news, s1, s2⟩ := hsrc h2' (fun k hk' => hk k (List.mem_cons_of_mem _ hk')) M κ w x H hx
        have hgn := gone H (hk _ (List.mem_cons_self ..))
        obtain ⟨hn, olds, o1, o2, o3, o4⟩ := rd_cells ht hrc.rd
        by_cases hy : ys = []
        · subst hy
          have hne : news = [] := by have := s2.1; simp at this; exact this
          subst hne
          obtain ⟨κ', a1, a2, a3⟩ := arr_keep H (.loc d 0) hgn false (xs := xs) rfl hrc (by simp)
          exact ⟨_, κ', w, run_append_none hu hi A n n s1 (Nat.le_refl _), a1, a2, a3⟩
        · have hl : 0 < ys.length := List.length_pos_iff.2 hy
          have hold : (Builtin.firstCells inf.size n (.slice A n n)).run P w.drew = .ok olds.toArray w.drew := by
            rcases o2 with h | ⟨ad, h4, h5, h6⟩
            · subst h
              have hz0 : n * inf.size = 0 := by have := o1.1; rw [hn, hsz]; simpa using this.symm
              cases A with
              | none => exact run_firstCells_none w.drew _ n n n
              | some a => exact run_firstCells_some w.drew _ n a n n [] (by simpa using hz0.symm) (by simp)
            · subst h4
              exact run_firstCells_some w.drew _ n ad n n olds (by rw [o1.1, hn, hsz]) (by simpa using h6)
          exact grow (.loc d 0) _ false ty H hgn hn hold o1 s1 s2 (by omega) hroom
      · cases h1
    · -- our own
      rename_i q gq e'
      split at h1
      · rename_i g' e'' m xs hk
        split at h1
        · rename_i hb
          simp only [Bool.and_eq_true] at hb
          obtain rfl := beq_eq hb.1
          obtain rfl := beq_eq hb.2.1
          obtain rfl := beq_eq hb.2.2
          obtain ⟨hroom, h3⟩ := bcond_some_none h1
          refine ⟨_, _, _, h3, fun h2' hk2 M κ w sv x ty H hs hx => ?_⟩
          obtain ⟨news, s1, s2⟩ := hsrc h2' (fun k hk' => hk2 k (List.mem_cons_of_mem _ hk')) M κ w x H hx
          have hkq := (hk2 _ (List.mem_cons_self ..)).trans hk
          simp only [RV, RV1, RA] at hs
          obtain ⟨en, e1, e2, e3, rfl⟩ := Ment.ent hs H hkq
          have hgn : ∀ e0, κ q = some e0 → e0.g < gq + 1 := fun e0 he => by rw [e1] at he; cases he; omega
          have hrd := arr_rd H e1 e3
          obtain ⟨A, c, c1, c2, c3, c4, c5⟩ := e3
          rw [c1] at hrd ⊢
          obtain ⟨_, olds, o1, o2, o3, o4⟩ := rd_cells ht hrd
          obtain ⟨r1, r2⟩ := roomOk_iff hroom
          by_cases hfit : xs.length + ys.length ≤ c
          · rcases c5 with ⟨b, cs, tyb, c6, rfl, c8, c9, c10⟩ | ⟨c6, c7, c8, c9⟩
            · have hmul := Nat.mul_le_mul_right (ti τ e).sz hfit
              rw [Nat.add_mul] at hmul
              have hrun := run_append_room_row (ty := ty) hu hi s1 hfit c8 (by rw [hsz]; have := s2.1; omega)
              rw [hsz] at hrun
              obtain ⟨κ', a1, a2, a3⟩ := arr_room ht (m := m) H e1 (hgn en e1) c1 c6 c8 c9 c4 c10 s2 hfit (by unfold big; omega)
              exact ⟨_, κ', _, hrun, a1, a2, a3⟩
            · have hy : ys = [] := by
                rw [c7] at hfit
                exact List.eq_nil_of_length_eq_zero (by omega)
              subst hy
              have hne : news = [] := by have := s2.1; simp at this; exact this
              subst hne
              subst c7
              rw [c1] at c9
              obtain ⟨κ', a1, a2, a3⟩ := arr_keep H q hgn m (xs := xs) rfl c9 c8
              exact ⟨_, κ', w, run_append_none hu hi A _ _ s1 (Nat.le_refl _), a1, a2, a3⟩
          · have hold : (Builtin.firstCells inf.size xs.length (.slice A xs.length c)).run P w.drew = .ok olds.toArray w.drew := by
              rcases o2 with h | ⟨ad, h4, h5, h6⟩
              · subst h
                have hz0 : xs.length * inf.size = 0 := by have := o1.1; rw [hsz]; simpa using this.symm
                cases A with
                | none => exact run_firstCells_none w.drew _ _ _ _
                | some a => exact run_firstCells_some w.drew _ _ a _ _ [] (by simpa using hz0.symm) (by simp)
              · subst h4
                exact run_firstCells_some w.drew _ _ ad _ _ olds (by rw [o1.1, hsz]) (by simpa using h6)
            exact grow q _ m ty H hgn rfl hold o1 s1 s2 (by omega) hroom
        · cases h1
      · cases h1
    · cases h1
  · cases hh
end
end Go.Eng

namespace Go.Eng
open Go

section
variable {P : Program} {τ : Tab} {st : St} {v : V} {x : R} {k : Kt} {d : Option Nat} {ty : TypeId} {pos : String} {gd : Option (Nat × Bool)} {af : Array Edge}

theorem opers_rel {w : World} {ok : Nat → Prop} {κ : Kap} {a : Act} {st2 : St} : ∀ {l : List Operand} {ts : List TypeId} {vs : List V}, opers τ st l ts = some vs → (∀ y ∈ l, ∀ s ∈ opT y, look st2.t s = look st.t s) → Tm τ w ok κ st2.t a →
    All2 (RV τ w ok κ) vs (l.map a.eval)
  | [], _, vs, h, _, _ => by cases h; trivial
  | y :: r, ts, vs, h, hs, T => by
    simp only [opers] at h
    split at h
    · rename_i v hv
      split at h
      · rename_i vs' hvs
        cases h
        exact ⟨oper_rel T (by rw [oper_agree (hs y (List.mem_cons_self ..))]; exact hv), opers_rel hvs (fun y hy => hs y (List.mem_cons_of_mem _ hy)) T⟩
      · cases h
    · cases h

theorem lenV_ok (ht : TabOk P τ) {h : Heap} {t : TypeId} {xv : V} {k : Kt} {r : R} (hh : lenV τ h t xv k = some r) :
    ∃ v rk, k v rk [] = some r ∧ ∀ h2, (∀ k ∈ rk, hook h2 k = hook h k) → ∀ M κ w x ts ty, HRel τ M κ h2 w → RV τ w (okB M κ) κ xv x → (ts : Array TypeId)[0]? = some t →
      ∃ r2, (Builtin.len_ ts ty #[x]).run P w = .ok r2 w ∧ RV τ w (okB M κ) κ v r2 := by
  unfold lenV at hh
  split at hh
  · rename_i hd
    have hu := ht.str hd
    split at hh
    · rename_i s
      refine ⟨_, _, hh, fun h2 _ M κ w x ts ty H hx hg => ⟨.int .i64 s.size, ?_, RC.int _ _⟩⟩
      rw [(RC.str_inv hx).1]
      simp [Builtin.len_, hg, run_underlying hu, goInt]
    · cases hh
  · rename_i n e hd
    obtain ⟨hu, _, _⟩ := ht.arr hd
    refine ⟨_, _, hh, fun h2 _ M κ w x ts ty H hx hg => ⟨.int .i64 n, ?_, RC.int _ _⟩⟩
    simp [Builtin.len_, hg, run_underlying hu, goInt]
  · rename_i e hd
    obtain ⟨hu, _⟩ := ht.sl hd
    have run : ∀ A n c w (ts : Array TypeId) ty, ts[0]? = some t → (Builtin.len_ ts ty #[.slice A n c]).run P w = .ok (.int .i64 n) w := fun A n c w ts ty hg => by
      simp [Builtin.len_, hg, run_underlying hu, goInt]
    split at hh
    · rename_i e' xs
      refine ⟨_, _, hh, fun h2 _ M κ w x ts ty H hx hg => ?_⟩
      obtain ⟨A, c, rfl, _⟩ := RC.sl_inv hx
      exact ⟨_, run _ _ _ _ _ _ hg, RC.int _ _⟩
    · refine ⟨_, _, hh, fun h2 _ M κ w x ts ty H hx hg => ?_⟩
      cases hx
      exact ⟨_, run _ _ _ _ _ _ hg, RC.int _ _⟩
    · rename_i e' xs
      refine ⟨_, _, hh, fun h2 _ M κ w x ts ty H hx hg => ?_⟩
      obtain ⟨A, c, rfl, _⟩ := RC.sl_inv hx.1
      exact ⟨_, run _ _ _ _ _ _ hg, RC.int _ _⟩
    · rename_i q g e'
      split at hh
      · rename_i hb
        obtain rfl := beq_eq hb
        obtain ⟨xs, u, B, hk, h3, hB⟩ := ownAt_inv hh
        refine ⟨_, _, h3, fun h2 hk2 M κ w x ts ty H hx hg => ?_⟩
        obtain ⟨A, c, rfl, _⟩ := own_rd H ((hk2 q (by simp)).trans hk) (hB.imp (fun ⟨m, h, _⟩ => ⟨m, h⟩) And.left) hx
        exact ⟨_, run _ _ _ _ _ _ hg, RC.int _ _⟩
      · cases hh
    · refine ⟨_, _, hh, fun h2 _ M κ w x ts ty H hx hg => ?_⟩
      simp only [RV, RV1, RA] at hx
      obtain ⟨b, c, _, rfl⟩ := hx.1
      exact ⟨_, run _ _ _ _ _ _ hg, RC.int _ _⟩
    · cases hh
  · cases hh

theorem minI_ok {w : World} {ok : Nat → Prop} {κ : Kap} : ∀ {l : List V} {kk : IntKind} {a : Int} {cont : V → Option R} {r : R}, minI l kk a cont = some r →
    ∃ b, cont (.one (.c (.int kk b))) = some r ∧ ∀ (P : Program) (w : World) ok κ vs, All2 (RV τ w ok κ) l vs → (vs.foldlM Builtin.min2 (.int kk a)).run P w = .ok (.int kk b) w
  | [], kk, a, cont, r, hh => ⟨a, hh, fun P w ok κ vs h => by
      cases vs with
      | nil => simp
      | cons _ _ => exact h.elim⟩
  | v :: l, kk, a, cont, r, hh => by
    unfold minI at hh
    split at hh
    · rename_i heq; cases heq
    · rename_i k' b l' heq
      cases heq
      split at hh
      · obtain ⟨b0, h1, h2⟩ := minI_ok (w := w) (ok := ok) (κ := κ) hh
        refine ⟨b0, h1, fun P w ok κ vs h => ?_⟩
        cases vs with
        | nil => exact h.elim
        | cons y vs =>
          obtain rfl := RC.int_inv h.1
          rw [List.foldlM_cons]
          simp only [Builtin.min2, Sem.run_bind, Sem.run_pure, Result.andThen_ok]
          exact h2 P w ok κ vs h.2
      · cases hh
    · cases hh
theorem maxI_ok {w : World} {ok : Nat → Prop} {κ : Kap} : ∀ {l : List V} {kk : IntKind} {a : Int} {cont : V → Option R} {r : R}, maxI l kk a cont = some r →
    ∃ b, cont (.one (.c (.int kk b))) = some r ∧ ∀ (P : Program) (w : World) ok κ vs, All2 (RV τ w ok κ) l vs → (vs.foldlM Builtin.max2 (.int kk a)).run P w = .ok (.int kk b) w
  | [], kk, a, cont, r, hh => ⟨a, hh, fun P w ok κ vs h => by
      cases vs with
      | nil => simp
      | cons _ _ => exact h.elim⟩
  | v :: l, kk, a, cont, r, hh => by
    unfold maxI at hh
    split at hh
    · rename_i heq; cases heq
    · rename_i k' b l' heq
      cases heq
      split at hh
      · obtain ⟨b0, h1, h2⟩ := maxI_ok (w := w) (ok := ok) (κ := κ) hh
        refine ⟨b0, h1, fun P w ok κ vs h => ?_⟩
        cases vs with
        | nil => exact h.elim
        | cons y vs =>
          obtain rfl := RC.int_inv h.1
          rw [List.foldlM_cons]
          simp only [Builtin.max2, Sem.run_bind, Sem.run_pure, Result.andThen_ok]
          exact h2 P w ok κ vs h.2
      · cases hh
    · cases hh

theorem copyV_ok (ht : TabOk P τ) {h : Heap} {t : TypeId} {dst xv : V} {k : Kt} {r : R} (hh : copyV τ h t dst xv k = some r) :
    ∃ v rk u, k v rk u = some r ∧ ∀ h2, (∀ k ∈ rk, hook h2 k = hook h k) → ∀ M κ w sv x ts ty, HRel τ M κ h2 w → RV τ w (okB M κ) κ dst sv → RV τ w (okB M κ) κ xv x → (ts : Array TypeId)[0]? = some t →
      ∃ r2 κ' w', (Builtin.copy_ ts ty #[sv, x]).run P w = .ok r2 w' ∧ HRel τ M κ' (ups h2 u) w' ∧ Ext M κ w κ' w' ∧ RV τ w' (okB M κ') κ' v r2 := by
  unfold copyV at hh
  split at hh
  · rename_i e hd
    obtain ⟨hu, hde⟩ := ht.sl hd
    obtain ⟨ys, rk, h1, h2⟩ := srcV_ok ht hh
    split at h1
    · rename_i q g off n e'
      split at h1
      · rename_i g' T c hk
        split at h1
        · rename_i hb
          simp only [Bool.and_eq_true] at hb
          obtain ⟨hb1, hb2, hb3, hb4⟩ := hb
          obtain rfl := beq_eq hb1
          obtain rfl := beq_eq hb2
          have hs1 := beq_eq hb3
          refine ⟨_, _, _, h1, fun h2' hk2 M κ w sv x ts ty H hs hx hg => ?_⟩
          obtain ⟨news, s1, s2, s3, _⟩ := h2 h2' (fun k hk' => hk2 k (List.mem_cons_of_mem _ hk')) M κ w x t H hx (.inl ⟨_, hu⟩)
          have hkq := (hk2 _ (List.mem_cons_self ..)).trans hk
          simp only [RV, RV1, RA] at hs
          obtain ⟨en, e1, e2, e3, b, c', e4, e5, rfl⟩ := Ment.ent hs H hkq
          obtain ⟨b', cs, tyb, e6, e7, e8, e9⟩ := e3
          rw [e4] at e7
          have hbb : b = b' := by simpa [box0] using e7
          subst hbb
          obtain ⟨mm, hmm⟩ : ∃ mm, mm = Nat.min ys.length n := ⟨_, rfl⟩
          have hm1 : mm ≤ ys.length := by rw [hmm]; exact Nat.min_le_left _ _
          have hm2 : mm ≤ n := by rw [hmm]; exact Nat.min_le_right _ _
          have hnl := s2.1
          rw [hs1, Nat.mul_one] at hnl
          have hkl := ht.len e
          have hfit : off + n ≤ (ti τ T).ks.length ∨ n = 0 := rowOk_one hb4 hs1 (by omega)
          have hle : mm = 0 ∨ off + mm ≤ (ti τ T).ks.length := by omega
          have hcl := e9.2.1
          simp only [Array.length_toList] at hcl
          -- what is written
          obtain ⟨vs, hvs⟩ : ∃ vs, vs = news.take mm := ⟨_, rfl⟩
          have hvl : vs.length = mm := by rw [hvs, List.length_take]; omega
          obtain ⟨zs, hzs⟩ : ∃ zs, zs = (ys.take mm).map fun y => cl y 0 := ⟨_, rfl⟩
          have hzl : zs.length = mm := by rw [hzs]; simp; omega
          have hvz : ∀ i z, zs[i]? = some z → ∃ u, vs[i]? = some u ∧ RC τ w (okB M κ) z u ∧ K.eq z.kind ((ti τ T).ks.getD (off + i) .no) = true := fun i z hz => by
            have hi : i < mm := by have := (List.getElem?_eq_some_iff.1 hz).1; omega
            rw [hzs, List.getElem?_map, List.getElem?_take, if_pos hi] at hz
            cases hy : ys[i]? with
            | none => rw [hy] at hz; cases hz
            | some y =>
              rw [hy] at hz
              cases hz
              have hw := s2.2.1 y (List.mem_of_getElem? hy)
              have hwl := WKs.len hw
              have hy0 : y[0]? = some (cl y 0) := by rw [cl, List.getD_eq_getElem?_getD, List.getElem?_eq_getElem (by omega)]; rfl
              obtain ⟨u, u1, u2⟩ := s2.2.2.2.2 i y 0 _ hy hy0
              have hk0 := WKs.get hw hy0
              have hrow := rowOk_get hb4 hkl (i := i) (j := 0) (by omega) (by omega)
              rw [hs1] at hrow u1
              simp only [Nat.mul_one, Nat.add_zero] at hrow u1
              refine ⟨u, by rw [hvs, List.getElem?_take, if_pos hi, u1], u2, ?_⟩
              rw [List.getD_eq_getElem?_getD, hrow.1, ← List.getD_eq_getElem?_getD]
              exact hk0
          have hone : ∀ v ∈ vs, v.oneCell' = true := fun v hv => s2.2.2.2.1 v (by rw [hvs] at hv; exact List.mem_of_mem_take hv)
          obtain ⟨cs', hcs'⟩ : ∃ cs', cs' = (cs.toList.take off ++ vs ++ cs.toList.drop (off + vs.length)).toArray := ⟨_, rfl⟩
          have hrun : (storeCells ⟨b, off, none⟩ vs 0).run P w = .ok () (w.setRow b cs') := by
            rcases hle with h0 | h0
            · have hv0 : vs = [] := List.eq_nil_of_length_eq_zero (by omega)
              rw [hcs', hv0]
              simp only [storeCells, List.append_nil, List.length_nil, Nat.add_zero, List.take_append_drop, Array.toArray_toList]
              rw [setRow_self w b cs tyb (0, 0) e8]
              rfl
            · have := run_storeCells_at (P := P) b off tyb vs 0 cs w e8 (by simp; omega) hone
              simpa [hcs'] using this
          have hcopy : (Builtin.copy_ ts ty #[.slice (some ⟨b, off, none⟩) n c', x]).run P w = .ok (.int .i64 mm) (w.setRow b cs') := by
            have hfc := s3 mm hm1
            rw [hs1, Nat.mul_one, ← hvs] at hfc
            have hsz := ht.sizeOf hde w
            rw [hs1] at hsz
            simp [Builtin.copy_, hg, run_underlying hu, s1.len, hsz, ← hmm, hfc, hrun, goInt]
          have hL2 : RL τ w (okB M κ) κ (ti τ T).ks (splice c off zs) [] cs'.toList := by
            rcases hle with h0 | h0
            · have hv0 : vs = [] := List.eq_nil_of_length_eq_zero (by omega)
              have hz0 : zs = [] := List.eq_nil_of_length_eq_zero (by omega)
              rw [hcs', hv0, hz0]
              simpa [splice] using e9
            · have hc1 := e9.1
              refine ⟨?_, ?_, fun i hi => ?_⟩
              · simp only [splice, List.length_append, List.length_take, List.length_drop]; omega
              · rw [hcs']; simp only [List.length_append, List.length_take, List.length_drop, Array.length_toList]; omega
              · have g1 := spl_get (cs := c) (ys := zs) (off := off) (i := i) (by omega)
                have g2 := spl_get (cs := cs.toList) (ys := vs) (off := off) (i := i) (by simp; omega)
                have g3 : cs'.toList[i]? = if off ≤ i ∧ i < off + vs.length then vs[i - off]? else cs.toList[i]? := by
                  rw [hcs', List.toList_toArray, List.append_assoc, g2]
                show RCell τ w (okB M κ) κ none (splice c off zs)[i]? cs'.toList[i]? _
                rw [splice, g1, g3]
                by_cases hin : off ≤ i ∧ i < off + zs.length
                · rw [if_pos hin, if_pos (by omega)]
                  have hz : zs[i - off]? = some zs[i - off] := List.getElem?_eq_getElem (by omega)
                  obtain ⟨u, u1, u2, u3⟩ := hvz _ _ hz
                  rw [show off + (i - off) = i from by omega] at u3
                  exact ⟨_, u, hz, u1, u3, u2⟩
                · rw [if_neg hin, if_neg (by omega)]
                  exact e9.2.2 i hi
          have hw' := setRow_heap w b cs cs' tyb (0, 0) e8
          obtain ⟨w', hw⟩ : ∃ w', w' = w.setRow b cs' := ⟨_, rfl⟩
          have hot : ∀ k, k ≠ b → w'.heap[k]? = w.heap[k]? := fun k hk => by rw [hw]; exact setRow_other _ _ _ _ hk
          have hos : w'.os = w.os ∧ w'.tape = w.tape ∧ w'.output = w.output ∧ w'.heap.size = w.heap.size := by rw [hw]; simp
          rw [← hw] at hcopy hw'
          clear hw
          have hbx : ∀ b', b' < w.heap.size → (∀ e, κ q = some e → e.ob ≠ some b') → w'.heap[b']? = w.heap[b']? := fun b' _ hn => hot b' fun hc => hn en e1 (by rw [hc]; exact e6)
          have hgg : ∀ e, κ q = some e → e.g ≤ en.g ∧ (e.g = en.g → en.q = e.q) := fun e he => by rw [e1] at he; cases he; exact ⟨Nat.le_refl _, fun _ => rfl⟩
          have hx' : Ext M κ w (κ.set q en) w' := Ext.upd q en hos.1 hos.2.1 hos.2.2.1 (Nat.le_of_eq hos.2.2.2.symm) hbx hgg fun b' hb' => .inr ⟨en, e1, hb'⟩
          have hu2 := HRel.upd H q en (.box T (splice c off zs) []) hos.1 hos.2.1 hos.2.2.1 (Nat.le_of_eq hos.2.2.2.symm) hbx hgg (fun b' hb' => ⟨by rw [hos.2.2.2]; exact (H.rng q en b' e1 hb').1, .inr ⟨en, e1, hb'⟩⟩)
            ⟨b, cs', tyb, e6, e4, hw', hL2.ext hx'⟩
          refine ⟨_, _, w', hcopy, ?_, hu2.2, ?_⟩
          · have := hu2.1
            rw [e2, hzs, hmm] at this
            exact this
          · rw [hmm]; exact RC.int _ _
        · cases h1
      · cases h1
    · cases h1
  · cases hh
end
end Go.Eng

namespace Go.Eng
open Go

section
variable {P : Program} {τ : Tab} {st : St} {v : V} {x : R} {k : Kt} {d : Option Nat} {ty : TypeId} {pos : String} {gd : Option (Nat × Bool)} {af : Array Edge}

theorem inE_iff {i : Int} {lo hi : Nat} (h : inE i lo hi = true) : (lo : Int) ≤ i ∧ i ≤ (hi : Int) ∧ i.toNat ≤ hi := by
  simp only [inE, Bool.and_eq_true, decide_eq_true_eq] at h
  exact ⟨h.1, h.2, by omega⟩

/-- A bound, as the frame has it. -/
def IsB (b : Option Value) (dd : Int) (i : Int) : Prop := (b = none ∧ i = dd) ∨ ∃ kk, b = some (.int kk i)

theorem boundV_ok {b : Option Operand} {dd : Int} {cont : Int → Option R} (hh : boundV (oo τ st b) dd cont = some x) :
    ∃ i, cont i = some x ∧ ∀ (st2 : St) w ok κ (a : Act), (∀ y, b = some y → ∀ s ∈ opT y, look st2.t s = look st.t s) → Tm τ w ok κ st2.t a → IsB (b.map a.eval) dd i := by
  cases b with
  | none => exact ⟨dd, hh, fun _ _ _ _ _ _ _ => .inl ⟨rfl, rfl⟩⟩
  | some y =>
    simp only [oo, Option.map_some] at hh
    unfold boundV at hh
    split at hh
    · rename_i heq; cases heq
    · rename_i kk i heq
      have heq := Option.some.inj heq
      refine ⟨i, hh, fun st2 w ok κ a hs T => .inr ⟨kk, ?_⟩⟩
      have := RC.int_inv (oper_rel (v := .one (.c (.int kk i))) T (by rw [oper_agree (hs y rfl)]; exact heq))
      simp [this]
    · cases hh

theorem run_bounds {isS : Bool} {len cap : Nat} {lo hi : Option Value} {i j : Int} {w : World} (hj : IsB hi len j) (hj2 : inE j 0 cap = true) (hi' : IsB lo 0 i) (hi2 : inE i 0 j.toNat = true) :
    (Instr.sliceBounds isS len cap lo hi none).run P w = .ok (i.toNat, j.toNat, cap) w := by
  obtain ⟨j1, j2, j3⟩ := inE_iff hj2
  obtain ⟨i1, i2, i3⟩ := inE_iff hi2
  have hj1 : (0 : Int) ≤ j := by simpa using j1
  have hi1 : (0 : Int) ≤ i := by simpa using i1
  have i4 : i ≤ (max j 0) := by omega
  rcases hj with ⟨rfl, rfl⟩ | ⟨kk, rfl⟩ <;> rcases hi' with ⟨rfl, rfl⟩ | ⟨kk2, rfl⟩ <;> simp_all [Instr.sliceBounds, Instr.sliceBound, asIntOf]

theorem run_bounds3 {isS : Bool} {len cap : Nat} {lo hi : Option Value} {kk : IntKind} {i j m : Int} {w : World} (hm : inE m 0 cap = true) (hj : ∃ kk, hi = some (.int kk j)) (hj2 : inE j 0 m.toNat = true) (hi' : IsB lo 0 i) (hi2 : inE i 0 j.toNat = true) :
    (Instr.sliceBounds isS len cap lo hi (some (.int kk m))).run P w = .ok (i.toNat, j.toNat, m.toNat) w := by
  obtain ⟨m1, m2, m3⟩ := inE_iff hm
  obtain ⟨j1, j2, j3⟩ := inE_iff hj2
  obtain ⟨i1, i2, i3⟩ := inE_iff hi2
  have hj1 : (0 : Int) ≤ j := by simpa using j1
  have hi1 : (0 : Int) ≤ i := by simpa using i1
  have hm1 : (0 : Int) ≤ m := by simpa using m1
  have i4 : i ≤ (max j 0) := by omega
  have j4 : j ≤ (max m 0) := by omega
  obtain ⟨kk1, rfl⟩ := hj
  rcases hi' with ⟨rfl, rfl⟩ | ⟨kk2, rfl⟩ <;> simp_all [Instr.sliceBounds, Instr.sliceBound, asIntOf]

theorem lstCut_get {xs : List (List C)} {l h p : Nat} {y : List C} (hy : (lstCut xs l h)[p]? = some y) : xs[l + p]? = some y ∧ l + p < h := by
  simp only [lstCut] at hy
  rw [List.getElem?_drop, List.getElem?_take] at hy
  split at hy
  · exact ⟨hy, by assumption⟩
  · cases hy
theorem lstCut_len {xs : List (List C)} {l h : Nat} (hh : h ≤ xs.length) : (lstCut xs l h).length = h - l := by
  simp [lstCut]; omega
/-- A slice of data, cut. -/
theorem rc_cut {w : World} {ok : Nat → Prop} {e : TypeId} {xs : List (List C)} {A : Option Addr} {c l h m : Nat} (hr : RC τ w ok (.sl e xs) (.slice A xs.length c)) (h1 : l ≤ h) (h2 : h ≤ xs.length) (h3 : h ≤ m) :
    RC τ w ok (.sl e (lstCut xs l h)) (.slice (if m = l then A else A.map (·.add (l * (ti τ e).sz))) (h - l) (m - l)) := by
  obtain ⟨A', c', k1, k2, k3, k4, ad, us, k5, k6, k7⟩ := hr.sl_inv
  cases k1
  have hlen := lstCut_len (l := l) h2
  rw [← hlen]
  refine .sl e _ _ _ ⟨ad.block, ad.off + l * (ti τ e).sz, none⟩ (fun i j => us (l + i) j) (by omega) (by omega) (fun y hy => ?_) (fun hne => ?_) (fun i y j z hy hz => ?_) (fun i y j z hy hz => ?_)
  · obtain ⟨p, hp⟩ := List.getElem?_of_mem hy
    exact k4 _ (List.mem_of_getElem? (lstCut_get hp).1)
  · have hl : 0 < (lstCut xs l h).length := List.length_pos_iff.2 hne
    have hxs : xs ≠ [] := by rintro rfl; simp [lstCut] at hl
    obtain ⟨a1, a2, a3, a4⟩ := k5 hxs
    rw [if_neg (by omega), a1]
    obtain ⟨b, o, sp⟩ := ad
    simp only at a4
    subst a4
    exact ⟨by rw [Option.map_some, Addr.add_lit], a2, a3, rfl⟩
  · have := k6 _ y j z (lstCut_get hy).1 hz
    rw [Nat.add_mul] at this
    rw [show ad.off + l * (ti τ e).sz + (i * (ti τ e).sz + j) = ad.off + (l * (ti τ e).sz + i * (ti τ e).sz + j) from by omega]
    exact this
  · exact k7 _ y j z (lstCut_get hy).1 hz

theorem srcD_ok (ht : TabOk P τ) {h : Heap} {e : TypeId} {xv : V} {cont : List (List C) → List Key → Ups → Option R} (hh : sliceV.srcD τ h e xv cont = some x) :
    ∃ xs rk u, cont xs rk u = some x ∧ ∀ h2, (∀ k ∈ rk, hook h2 k = hook h k) → ∀ M κ w r, HRel τ M κ h2 w → RV τ w (okB M κ) κ xv r →
      ∃ κ', HRel τ M κ' (ups h2 u) w ∧ Ext M κ w κ' w ∧ RC τ w (okB M κ') (.sl e xs) r := by
  unfold sliceV.srcD at hh
  split at hh
  · obtain ⟨c, rk, u, h1, h2⟩ := cellD_ok ht hh
    split at h1
    · rename_i e' xs
      split at h1
      · rename_i hb
        obtain rfl := beq_eq hb
        exact ⟨xs, rk, u, h1, h2⟩
      · cases h1
    · cases h1
  · cases hh

theorem d_slice {t : TypeId} {y : Operand} {lo hi mx : Option Operand} (ht : TabOk P τ) (hh : with1 (oper τ t st y) (fun v => sliceV τ st.h t v (oo τ st lo) (oo τ st hi) (oo τ st mx) k) = some x) :
    Done P τ ⟨d, .slice t y lo hi mx, ty, pos, af, gd⟩ st k x := by
  obtain ⟨v, h1, h2⟩ := with1_inv hh
  have mlo : ∀ {st2 : St}, (∀ s ∈ opTs (.slice t y lo hi mx), look st2.t s = look st.t s) → ∀ z, lo = some z → ∀ s ∈ opT z, look st2.t s = look st.t s := fun h z hz s hs => h s (opTs_mem (by subst hz; simp [Op.operands]) hs)
  have mhi : ∀ {st2 : St}, (∀ s ∈ opTs (.slice t y lo hi mx), look st2.t s = look st.t s) → ∀ z, hi = some z → ∀ s ∈ opT z, look st2.t s = look st.t s := fun h z hz s hs => h s (opTs_mem (by subst hz; simp [Op.operands]) hs)
  have mmx : ∀ {st2 : St}, (∀ s ∈ opTs (.slice t y lo hi mx), look st2.t s = look st.t s) → ∀ z, mx = some z → ∀ s ∈ opT z, look st2.t s = look st.t s := fun h z hz s hs => h s (opTs_mem (by subst hz; simp [Op.operands]) hs)
  unfold sliceV at h2
  split at h2
  · rename_i hd
    have hu := ht.str hd
    split at h2
    · rename_i s hmx
      have hmx : mx = none := by cases mx with | none => rfl | some z => simp [oo] at hmx
      subst hmx
      obtain ⟨j, h3, h4⟩ := boundV_ok h2
      obtain ⟨hj, h3⟩ := bcond_some_none h3
      obtain ⟨i, h5, h6⟩ := boundV_ok h3
      obtain ⟨hi', h5⟩ := bcond_some_none h5
      refine done_run (rk := []) (fun ρ => Instr.sliceAt t (ρ y) (lo.map ρ) (hi.map ρ) (Option.map ρ none)) (fun _ => rfl) h5 fun st2 hs _ M κ a w T H => ?_
      obtain ⟨hr, hbig⟩ := RC.str_inv (at2 hs T h1 (by simp [Op.operands]))
      refine ⟨.string (s.extract i.toNat j.toNat), ?_, RC.str _ ?_⟩
      · rw [hr]
        simp only [Instr.sliceAt, Instr.slice, Sem.run_bind, run_underlying hu, Result.andThen_ok, Option.map_none, Option.isSome_none, Bool.false_eq_true, if_false, Sem.run_pure,
          run_bounds (P := P) (h4 st2 w _ κ a (mhi hs) T) hj (h6 st2 w _ κ a (mlo hs) T) hi']
      · have := (inE_iff hj).2.2
        have hsz : (s.extract i.toNat j.toNat).size = min j.toNat s.size - i.toNat := by simp [ByteArray.size_extract]
        show (s.extract i.toNat j.toNat).size ≤ big
        rw [hsz]; omega
    · cases h2
  · rename_i e hd
    obtain ⟨hu, hde⟩ := ht.sl hd
    obtain ⟨xs, rk, u, h3, h4⟩ := srcD_ok ht h2
    split at h3
    · rename_i hmx
      have hmx : mx = none := by cases mx with | none => rfl | some z => simp [oo] at hmx
      subst hmx
      obtain ⟨j, h5, h6⟩ := boundV_ok h3
      obtain ⟨hj, h5⟩ := bcond_some_none h5
      obtain ⟨i, h7, h8⟩ := boundV_ok h5
      obtain ⟨hi', h7⟩ := bcond_some_none h7
      refine ⟨_, rk, u, h7, ok_val (fun ρ => Instr.sliceAt t (ρ y) (lo.map ρ) (hi.map ρ) (Option.map ρ none)) (fun _ => rfl) fun st2 hs hk2 M κ a w T H => ?_⟩
      obtain ⟨κ', H', hx, hr⟩ := h4 st2.h hk2 M κ w _ H (at2 hs T h1 (by simp [Op.operands]))
      obtain ⟨A, c, k1, k2, _⟩ := hr.sl_inv
      rw [k1] at hr
      have hjc : inE j 0 c = true := by
        have := inE_iff hj
        simp only [inE, Bool.and_eq_true, decide_eq_true_eq]
        omega
      refine ⟨_, κ', w, ?_, H', hx, rc_cut hr (inE_iff hi').2.2 (inE_iff hj).2.2 (inE_iff hjc).2.2⟩
      rw [k1]
      simp only [Instr.sliceAt, Instr.slice, Sem.run_bind, run_underlying hu, Result.andThen_ok, Option.map_none, Sem.run_pure, ht.sizeOf hde,
        run_bounds (P := P) (h6 st2 w _ κ a (mhi hs) T) hjc (h8 st2 w _ κ a (mlo hs) T) hi']
    · rename_i vm hmx
      split at h3
      · cases h3
      · rename_i vh hhi
        obtain ⟨m, h5, h6⟩ := boundV_ok h3
        obtain ⟨hm, h5a⟩ := bcond_some_none h5
        obtain ⟨j, h5b, h6'⟩ := boundV_ok h5a
        obtain ⟨hjm, h5c⟩ := bcond_some_none h5b
        clear h5 h5a h5b
        obtain rfl : j = m := by simpa using hjm
        obtain ⟨i, h7a, h8⟩ := boundV_ok h5c
        obtain ⟨hi', h7⟩ := bcond_some_none h7a
        refine ⟨_, rk, u, h7, ok_val (fun ρ => Instr.sliceAt t (ρ y) (lo.map ρ) (hi.map ρ) (mx.map ρ)) (fun _ => rfl) fun st2 hs hk2 M κ a w T H => ?_⟩
        obtain ⟨κ', H', hx, hr⟩ := h4 st2.h hk2 M κ w _ H (at2 hs T h1 (by simp [Op.operands]))
        obtain ⟨A, c, k1, k2, _⟩ := hr.sl_inv
        rw [k1] at hr
        have hjc : inE j 0 c = true := by
          have := inE_iff hm
          simp only [inE, Bool.and_eq_true, decide_eq_true_eq]
          omega
        have b1 : ∃ kk, mx.map a.eval = some (.int kk j) := by
          rcases h6 st2 w _ κ a (mmx hs) T with ⟨hn, _⟩ | h
          · cases mx with
            | none => simp [oo] at hmx
            | some z => simp at hn
          · exact h
        have b2 : ∃ kk, hi.map a.eval = some (.int kk j) := by
          rcases h6' st2 w _ κ a (mhi hs) T with ⟨hn, _⟩ | h
          · cases hi with
            | none => simp [oo] at hhi
            | some z => simp at hn
          · exact h
        have hjj : inE j 0 j.toNat = true := by
          have := inE_iff hm
          simp only [inE, Bool.and_eq_true, decide_eq_true_eq]
          omega
        obtain ⟨kk, b1⟩ := b1
        refine ⟨_, κ', w, ?_, H', hx, rc_cut hr (inE_iff hi').2.2 (inE_iff hm).2.2 (Nat.le_refl _), _, _, rfl⟩
        rw [k1, b1]
        simp only [Instr.sliceAt, Instr.slice, Sem.run_bind, run_underlying hu, Result.andThen_ok, Sem.run_pure, ht.sizeOf hde,
          run_bounds3 (P := P) hjc b2 hjj (h8 st2 w _ κ a (mlo hs) T) hi']
  · rename_i n e hd
    obtain ⟨hu, hde, _⟩ := ht.arr hd
    split at h2
    · rename_i q g off hmx
      have hmx : mx = none := by cases mx with | none => rfl | some z => simp [oo] at hmx
      subst hmx
      split at h2
      · rename_i hs1
        have hs1 := beq_eq hs1
        obtain ⟨j, h3, h4⟩ := boundV_ok h2
        obtain ⟨hj, h3⟩ := bcond_some_none h3
        obtain ⟨i, h5, h6⟩ := boundV_ok h3
        obtain ⟨hi', h5⟩ := bcond_some_none h5
        rw [Bool.and_eq_true] at hi'
        have hin : i.toNat < n := by simpa [Nat.blt_eq] using hi'.2
        refine done_run (rk := []) (fun ρ => Instr.sliceAt t (ρ y) (lo.map ρ) (hi.map ρ) (Option.map ρ none)) (fun _ => rfl) h5 fun st2 hs _ M κ a w T H => ?_
        have hr := at2 hs T h1 (by simp [Op.operands])
        simp only [RV, RV1, RA] at hr ⊢
        obtain ⟨b, hb⟩ := hr.1
        have hjn := (inE_iff hj).2.2
        refine ⟨.slice (some ⟨b, off + i.toNat, none⟩) (j.toNat - i.toNat) (n - i.toNat), ?_, Ment.imp hr (fun _ => ⟨b, n - i.toNat, by omega, rfl⟩) fun q0 _ hq => ?_⟩
        · rw [hb]
          simp only [Instr.sliceAt, Sem.run_bind, run_underlying hu, Result.andThen_ok, Option.map_none, Instr.sureAddr, Sem.run_pure, ht.sizeOf hde, hs1, Nat.mul_one, if_neg (show ¬ n = i.toNat from by omega), Addr.add_lit,
            run_bounds (P := P) (h4 st2 w _ κ a (mhi hs) T) hj (h6 st2 w _ κ a (mlo hs) T) hi'.1]
        · obtain ⟨b', h7, h8⟩ := hq
          rw [hb] at h8
          cases h8
          exact ⟨b, n - i.toNat, h7, by omega, rfl⟩
      · cases h2
    · cases h2
  · cases h2

theorem byte_get {s : ByteArray} {i : Nat} (hi : i < s.size) : s[i]? = some (s.data.toList.getD i 0) := by
  have h1 : s[i]? = some s[i] := getElem?_pos s i hi
  rw [h1]
  congr 1
  rw [List.getD_eq_getElem?_getD, List.getElem?_eq_getElem (by simpa using hi)]
  simp
  rfl

theorem d_index {t : TypeId} {y z : Operand} (ht : TabOk P τ) (hh : with1 (oper τ 0 st y) (fun v => with1 (oper τ 0 st z) fun i => indexV τ t v i k) = some x) : Done P τ ⟨d, .index t y z, ty, pos, af, gd⟩ st k x := by
  obtain ⟨v, h1, h0⟩ := with1_inv hh
  obtain ⟨vi, h1', h2⟩ := with1_inv h0
  clear h0
  unfold indexV at h2
  split at h2
  · rename_i n e hd
    obtain ⟨hu, hde, _⟩ := ht.arr hd
    split at h2
    · rename_i t' y' kk i
      split at h2
      · rename_i hc
        simp only [Bool.and_eq_true] at hc
        obtain ⟨hc1, hc2, hrow⟩ := hc
        obtain rfl := beq_eq hc1
        have hs1 := beq_eq hc2
        obtain ⟨hin, h3⟩ := bcond_some_none h2
        unfold elemV at h3
        split at h3
        · have hkl := ht.len e
          have key : ∀ w ok κ (cs : Array Value), RL τ w ok κ (ti τ t).ks y' [] cs.toList → ∃ c u, y'[i.toNat]? = some c ∧ cs[i.toNat]? = some u ∧ K.eq c.kind ((ti τ e).ks.getD 0 .no) = true ∧ RC τ w ok c u := fun w ok κ cs hL => by
            have hg := rowOk_get hrow hkl (i := i.toNat) (j := 0) (inB_iff hin).2.2 (by omega)
            rw [hs1] at hg
            simp only [Nat.mul_one, Nat.add_zero, Nat.zero_add] at hg
            obtain ⟨c, u, k1, k2, k3, k4⟩ := hL.2.2 i.toNat hg.2
            refine ⟨c, u, k1, by simpa using k2, ?_, k4⟩
            rw [List.getD_eq_getElem?_getD, hg.1, ← List.getD_eq_getElem?_getD] at k3
            exact k3
          obtain ⟨i1, i2, i3⟩ := inB_iff hin
          have hrun : ∀ w (cs : Array Value) r, (part e cs i.toNat).run P w = .ok r w → (Instr.index t (.agg cs) (.int kk i)).run P w = .ok r w := fun w cs r hr => by
            simp [Instr.index, asIntOf, run_underlying hu, i1, i2, ht.sizeOf hde, hs1, hr]
          split at h3
          · rename_i hag
            refine done_run (rk := []) (fun ρ => Instr.index t (ρ y) (ρ z)) (fun _ => rfl) h3 fun st2 hs _ M κ a w T H => ?_
            obtain ⟨_, cs, hv, hL⟩ := at2 hs T h1 (by simp [Op.operands])
            rw [hv, RC.int_inv (at2 hs T h1' (by simp [Op.operands]))]
            obtain ⟨c, u, k1, k2, k3, k4⟩ := key _ _ _ cs hL
            refine ⟨_, hrun w cs _ ((run_part ht hde w cs i.toNat).1 hag), hag, _, rfl, ?_⟩
            have hsub : sub y' (0 + i.toNat * (ti τ e).sz) (ti τ e).sz = [c] := by
              rw [hs1, Nat.zero_add, Nat.mul_one, sub]
              have := (List.getElem?_eq_some_iff.1 k1)
              rw [List.drop_eq_getElem_cons this.1, this.2]
              rfl
            have hex : (cs.extract i.toNat (i.toNat + (ti τ e).sz)).toList = [u] := by
              rw [hs1, Array.toList_extract]
              have := (List.getElem?_eq_some_iff.1 (show cs.toList[i.toNat]? = some u from by simpa using k2))
              simp only [List.extract]
              rw [List.drop_eq_getElem_cons this.1, this.2]
              simp
            rw [hsub, hex]
            refine ⟨by rw [ht.len e, hs1]; rfl, by rw [ht.len e, hs1]; rfl, fun p hp => ?_⟩
            obtain rfl : p = 0 := by rw [ht.len e, hs1] at hp; omega
            exact ⟨c, u, rfl, rfl, k3, k4⟩
          · rename_i hag
            refine done_run (rk := []) (fun ρ => Instr.index t (ρ y) (ρ z)) (fun _ => rfl) h3 fun st2 hs _ M κ a w T H => ?_
            obtain ⟨_, cs, hv, hL⟩ := at2 hs T h1 (by simp [Op.operands])
            rw [hv, RC.int_inv (at2 hs T h1' (by simp [Op.operands]))]
            obtain ⟨c, u, k1, k2, k3, k4⟩ := key _ _ _ cs hL
            refine ⟨u, hrun w cs _ ((run_part ht hde w cs i.toNat).2 hag u k2), ?_⟩
            show RC τ w _ _ u
            rw [hs1, Nat.zero_add, Nat.mul_one, cl_get k1, norm_kind k3]
            exact k4
        · cases h3
      · cases h2
    · cases h2
  · rename_i hd
    have hu := ht.str hd
    split at h2
    · rename_i s kk i
      obtain ⟨hin, h3⟩ := bcond_some_none h2
      refine done_run (rk := []) (fun ρ => Instr.index t (ρ y) (ρ z)) (fun _ => rfl) h3 fun st2 hs _ M κ a w T H => ?_
      obtain ⟨i1, i2, i3⟩ := inB_iff hin
      rw [(RC.str_inv (at2 hs T h1 (by simp [Op.operands]))).1, RC.int_inv (at2 hs T h1' (by simp [Op.operands]))]
      refine ⟨.int .u8 (s.data.toList.getD i.toNat 0).toNat, ?_, RC.int _ _⟩
      simp only [Instr.index, asIntOf, Sem.run_bind, Sem.run_pure, Result.andThen_ok, run_underlying hu, i1, if_true, byte_get i3]
    · cases h2
  · cases h2
end
end Go.Eng

namespace Go.Eng
open Go

/-- A cell as the model has it (numbers, truth values, strings). -/
def valC : C → Value
  | .bool b => .bool b
  | .int k n => .int k n
  | .str s => .string s
  | .sl _ _ => undef
theorem RC.val {τ : Tab} {w : World} {ok : Nat → Prop} {c : C} {v : Value} (h : RC τ w ok c v) (hs : K.scalar c.kind = true) : v = valC c := by
  cases h <;> first | rfl | simp [C.kind, K.scalar] at hs

theorem eqL_append : ∀ {a b c d : List C}, a.length = b.length → eqL (a ++ c) (b ++ d) = (eqL a b && eqL c d)
  | [], [], c, d, _ => by simp [eqL]
  | x :: a, y :: b, c, d, h => by simp [eqL, eqL_append (a := a) (b := b) (by simpa using h), Bool.and_assoc]
  | [], _ :: _, _, _, h => by simp at h
  | _ :: _, [], _, _, h => by simp at h

def mkV (τ : Tab) (t : TypeId) (x : List C) : Value := if (ti τ t).d.isAgg = true then .agg (x.map valC).toArray else valC (cl x 0)

theorem WKs.sub {ks : List K} {x : List C} {off n : Nat} (h : WKs ks x) : WKs (subKs ks off n) (sub x off n) := by
  have hl := h.len
  refine WKs.mk (by simp [Go.Eng.sub, subKs, hl]) fun j y hy => ?_
  simp only [Go.Eng.sub] at hy
  rw [List.getElem?_take] at hy
  split at hy
  · rename_i hj
    rw [List.getElem?_drop] at hy
    have := h.get hy
    rw [List.getD_eq_getElem?_getD] at this ⊢
    simp only [subKs]
    rw [List.getElem?_take, if_pos hj, List.getElem?_drop]
    exact this
  · cases hy

section
variable {P : Program} {τ : Tab} (ht : TabOk P τ)
include ht

theorem run_part_cells {t : TypeId} (hd : (ti τ t).d ≠ .no) (w : World) {x : List C} {off : Nat} (hl : off + (ti τ t).sz ≤ x.length) :
    (part t (x.map valC).toArray off).run P w = .ok (mkV τ t (sub x off (ti τ t).sz)) w := by
  unfold mkV
  split
  · rename_i hag
    rw [(run_part ht hd w _ off).1 hag]
    congr 2
    apply Array.toList_inj.1
    simp [Go.Eng.sub]
  · rename_i hag
    have hag : (ti τ t).d.isAgg = false := by simpa using hag
    have hs := isAgg_cells ht hag hd
    have hx : x[off]? = some x[off] := List.getElem?_eq_getElem (by omega)
    rw [(run_part ht hd w _ off).2 hag (valC x[off]) (by simp [hx])]
    congr 1
    rw [cl_get]
    simp only [Go.Eng.sub]
    rw [hs, List.getElem?_take, if_pos (by omega), List.getElem?_drop, Nat.add_zero]
    exact hx

omit ht in
theorem sub_split {α : Type} {x : List α} {off n : Nat} : x.drop off = ((x.drop off).take n) ++ x.drop (off + n) := by
  rw [← List.drop_drop]
  exact (List.take_append_drop n (x.drop off)).symm

theorem eqFs_run {ks : List K} {f : TypeId → Bool} {dd : Nat} (w : World)
    (IH : ∀ t, f t = true → (ti τ t).d ≠ .no ∧ ∀ x y, WK τ t x → WK τ t y → (Op.equalIn dd t (mkV τ t x) (mkV τ t y)).run P w = .ok (eqL x y) w) :
    ∀ (l : List (Nat × TypeId)) (fs : List Field) (off : Nat) (x y : List C), eqTy.eqFs τ ks f l off = true → descOk.fsOk fs l = true → (∀ g ∈ fs, (g.name == "_") = false) → WKs ks x → WKs ks y → off ≤ ks.length →
      (Op.eqFields dd (x.map valC).toArray (y.map valC).toArray fs).run P w = .ok (eqL (x.drop off) (y.drop off)) w
  | [], [], off, x, y, h, _, _, hx, hy, _ => by
    simp only [eqTy.eqFs] at h
    have := beq_eq h
    have h1 := hx.len
    have h2 := hy.len
    rw [List.drop_eq_nil_of_le (by omega), List.drop_eq_nil_of_le (by omega)]
    simp [Op.eqFields, eqL]
  | (o, u) :: l, g :: fs, off, x, y, h, hf, hn, hx, hy, hle => by
    simp only [eqTy.eqFs, Bool.and_eq_true] at h
    obtain ⟨h1, h2, h3, h4⟩ := h
    obtain rfl := beq_eq h1
    have hks := Ks.eq_iff h2
    simp only [descOk.fsOk, Bool.and_eq_true] at hf
    obtain ⟨f1, f2, f3⟩ := hf
    have f1 := beq_eq f1
    have f2 := beq_eq f2
    obtain ⟨hd, hih⟩ := IH u h3
    have hxl := hx.len
    have hyl := hy.len
    have hfit : o + (ti τ u).sz ≤ ks.length := by
      have := congrArg List.length hks
      rw [ht.len u] at this
      simp [subKs] at this
      omega
    have hname := hn g (List.mem_cons_self ..)
    have hname' : g.name ≠ "_" := by simpa using hname
    have px := run_part_cells ht hd w (x := x) (off := o) (by omega)
    have py := run_part_cells ht hd w (x := y) (off := o) (by omega)
    have he := hih (sub x o (ti τ u).sz) (sub y o (ti τ u).sz) (by unfold WK; rw [hks]; exact hx.sub) (by unfold WK; rw [hks]; exact hy.sub)
    have hr := eqFs_run w IH l fs (o + (ti τ u).sz) x y h4 f3 (fun g hg => hn g (List.mem_cons_of_mem _ hg)) hx hy hfit
    rw [sub_split (x := x) (off := o) (n := (ti τ u).sz), sub_split (x := y) (off := o) (n := (ti τ u).sz), eqL_append (by simp; omega)]
    rw [Op.eqFields]
    simp only [if_pos hname', f1, f2, Sem.run_bind, px, py, he, Result.andThen_ok]
    show (if (!eqL (sub x o (ti τ u).sz) (sub y o (ti τ u).sz)) = true then pure false else _ : Sem Bool).run P w = .ok (eqL (sub x o (ti τ u).sz) (sub y o (ti τ u).sz) && _) w
    cases eqL (sub x o (ti τ u).sz) (sub y o (ti τ u).sz)
    · simp
    · simpa using hr
  | [], _ :: _, _, _, _, _, hf, _, _, _, _ => by simp [descOk.fsOk] at hf
  | _ :: _, [], _, _, _, _, hf, _, _, _, _ => by simp [descOk.fsOk] at hf

theorem eqItems_run {e : TypeId} {dd c : Nat} (hd : (ti τ e).d ≠ .no) (hc : c = (ti τ e).sz) (w : World) (IH : ∀ x y, WK τ e x → WK τ e y → (Op.equalIn dd e (mkV τ e x) (mkV τ e y)).run P w = .ok (eqL x y) w) {ks : List K} {n : Nat}
    (hrow : rowOk τ ks 0 n e = true) (hkl : ks.length = n * (ti τ e).sz) {x y : List C} (hx : WKs ks x) (hy : WKs ks y) :
    ∀ m i, i + m = n → (Op.eqItems dd e c (x.map valC).toArray (y.map valC).toArray (List.range' i m)).run P w = .ok (eqL (x.drop (i * (ti τ e).sz)) (y.drop (i * (ti τ e).sz))) w
  | 0, i, hi => by
    have h1 := hx.len
    have h2 := hy.len
    have : i = n := by omega
    subst this
    rw [List.drop_eq_nil_of_le (by omega), List.drop_eq_nil_of_le (by omega)]
    simp [Op.eqItems, eqL]
  | m + 1, i, hi => by
    have hxl := hx.len
    have hyl := hy.len
    have hmul := Nat.mul_le_mul_right (ti τ e).sz (show i + 1 ≤ n from by omega)
    rw [Nat.succ_mul] at hmul
    have hks : (ti τ e).ks = subKs ks (i * (ti τ e).sz) (ti τ e).sz := by
      apply List.ext_getElem?
      intro j
      simp only [subKs]
      rw [List.getElem?_take]
      split
      · rename_i hj
        have := rowOk_get hrow (ht.len e) (i := i) (j := j) (by omega) hj
        rw [Nat.zero_add] at this
        rw [List.getElem?_drop, this.1]
      · exact List.getElem?_eq_none (by rw [ht.len e]; omega)
    have px := run_part_cells ht hd w (x := x) (off := i * (ti τ e).sz) (by omega)
    have py := run_part_cells ht hd w (x := y) (off := i * (ti τ e).sz) (by omega)
    have he := IH (sub x (i * (ti τ e).sz) (ti τ e).sz) (sub y (i * (ti τ e).sz) (ti τ e).sz) (by unfold WK; rw [hks]; exact (hx.sub)) (by unfold WK; rw [hks]; exact hy.sub)
    have hr := eqItems_run hd hc w IH hrow hkl hx hy m (i + 1) (by omega)
    rw [Nat.succ_mul] at hr
    rw [sub_split (x := x) (off := i * (ti τ e).sz) (n := (ti τ e).sz), sub_split (x := y) (off := i * (ti τ e).sz) (n := (ti τ e).sz), eqL_append (by simp; omega)]
    subst hc
    rw [List.range'_succ, Op.eqItems]
    simp only [Sem.run_bind, px, py, he, Result.andThen_ok]
    show (if (!eqL (sub x (i * (ti τ e).sz) (ti τ e).sz) (sub y (i * (ti τ e).sz) (ti τ e).sz)) = true then pure false else _ : Sem Bool).run P w = .ok (eqL (sub x (i * (ti τ e).sz) (ti τ e).sz) (sub y (i * (ti τ e).sz) (ti τ e).sz) && _) w
    cases eqL (sub x (i * (ti τ e).sz) (ti τ e).sz) (sub y (i * (ti τ e).sz) (ti τ e).sz)
    · simp
    · simpa using hr

theorem eqTy_run (d : Nat) (w : World) : ∀ (n : Nat) (t : TypeId), eqTy τ n t = true → (ti τ t).d ≠ .no ∧ (∀ x, WK τ t x → ∀ c ∈ x, K.scalar c.kind = true) ∧ ∀ x y, WK τ t x → WK τ t y → (Op.equalIn (d + n) t (mkV τ t x) (mkV τ t y)).run P w = .ok (eqL x y) w
  | 0, t, h => by simp [eqTy] at h
  | n + 1, t, h => by
    have one : ∀ {k : K} {x : List C}, (ti τ t).ks = [k] → WK τ t x → ∃ c, x = [c] ∧ K.eq c.kind k = true := fun {k x} hk hx => by
      unfold WK at hx
      rw [hk] at hx
      cases x with
      | nil => exact hx.elim
      | cons c r =>
        cases r with
        | nil => exact ⟨c, rfl, hx.1⟩
        | cons _ _ => exact hx.2.elim
    unfold eqTy at h
    split at h
    · rename_i hd
      have hks := Ks.eq_iff h
      refine ⟨by rw [hd]; simp, fun x hx c hc => ?_, fun x y hx hy => ?_⟩
      · obtain ⟨c', rfl, hk⟩ := one hks hx
        simp at hc; subst hc
        rw [K.eq_iff hk]; rfl
      · obtain ⟨a, rfl, ha⟩ := one hks hx
        obtain ⟨b, rfl, hb⟩ := one hks hy
        cases a <;> simp [C.kind, K.eq] at ha
        cases b <;> simp [C.kind, K.eq] at hb
        have hu := ht.bool hd
        rw [← Nat.add_assoc]
        simp [mkV, hd, D.isAgg, cl, valC, run_equalIn_bool' w (d + n) t _ _ hu, eqL, eqC]
    · rename_i k hd
      have hks := Ks.eq_iff h
      refine ⟨by rw [hd]; simp, fun x hx c hc => ?_, fun x y hx hy => ?_⟩
      · obtain ⟨c', rfl, hk⟩ := one hks hx
        simp at hc; subst hc
        rw [K.eq_iff hk]; rfl
      · obtain ⟨a, rfl, ha⟩ := one hks hx
        obtain ⟨b, rfl, hb⟩ := one hks hy
        cases a <;> simp [C.kind, K.eq, ikq_iff] at ha
        cases b <;> simp [C.kind, K.eq, ikq_iff] at hb
        subst ha; subst hb
        have hu := ht.int hd
        rw [← Nat.add_assoc]
        simp [mkV, hd, D.isAgg, cl, valC, run_equalIn_int w (d + n) t _ _ _ _ hu, eqL, eqC]
    · rename_i hd
      have hks := Ks.eq_iff h
      refine ⟨by rw [hd]; simp, fun x hx c hc => ?_, fun x y hx hy => ?_⟩
      · obtain ⟨c', rfl, hk⟩ := one hks hx
        simp at hc; subst hc
        rw [K.eq_iff hk]; rfl
      · obtain ⟨a, rfl, ha⟩ := one hks hx
        obtain ⟨b, rfl, hb⟩ := one hks hy
        cases a <;> simp [C.kind, K.eq] at ha
        cases b <;> simp [C.kind, K.eq] at hb
        have hu := ht.str hd
        rw [← Nat.add_assoc]
        simp [mkV, hd, D.isAgg, cl, valC, run_equalIn_string w (d + n) t _ _ hu, eqL, eqC]
    · rename_i l hd
      have hdn : (ti τ t).d ≠ .no := by rw [hd]; simp
      obtain ⟨dd, inf, z, g1, _, g3, _⟩ := ht.parts hdn
      rw [hd] at g3
      cases dd <;> simp [descOk] at g3
      rename_i fs
      obtain ⟨dd', g1', hcmp⟩ := ht.cmp hdn
      rw [g1] at g1'; cases g1'
      simp only [cmpOk, Bool.and_eq_true, List.all_eq_true, Bool.not_eq_true'] at hcmp
      refine ⟨hdn, fun x hx c hc => ?_, fun x y hx hy => ?_⟩
      · -- every cell lies in a field
        have key : ∀ (l : List (Nat × TypeId)) (off : Nat), eqTy.eqFs τ (ti τ t).ks (eqTy τ n) l off = true → off ≤ (ti τ t).ks.length → ∀ j, off ≤ j → ∀ c, x[j]? = some c → K.scalar c.kind = true := by
          intro l
          induction l with
          | nil =>
            intro off ho hle j hj c hc
            simp only [eqTy.eqFs] at ho
            have := beq_eq ho
            have := WKs.len hx
            have := (List.getElem?_eq_some_iff.1 hc).1
            omega
          | cons p l ih =>
            obtain ⟨o, u⟩ := p
            intro off ho hle j hj c hc
            simp only [eqTy.eqFs, Bool.and_eq_true] at ho
            obtain ⟨h1, h2, h3, h4⟩ := ho
            have hks := Ks.eq_iff h2
            have hfit : off + (ti τ u).sz ≤ (ti τ t).ks.length := by
              have := congrArg List.length hks
              rw [ht.len u] at this
              simp [subKs] at this
              omega
            by_cases hj2 : j < off + (ti τ u).sz
            · have hw : WK τ u (sub x off (ti τ u).sz) := by unfold WK; rw [hks]; exact WKs.sub hx
              refine (eqTy_run d w n u h3).2.1 _ hw c ?_
              apply List.mem_of_getElem? (i := j - off)
              simp only [Go.Eng.sub]
              rw [List.getElem?_take, if_pos (by omega), List.getElem?_drop, show off + (j - off) = j from by omega]
              exact hc
            · exact ih _ h4 hfit j (by omega) c hc
        obtain ⟨j, hj⟩ := List.getElem?_of_mem hc
        exact key l 0 h (Nat.zero_le _) j (Nat.zero_le _) c hj
      · have hrun := eqFs_run ht w (fun u hu => ⟨(eqTy_run d w n u hu).1, (eqTy_run d w n u hu).2.2⟩) l fs.toList 0 x y h g3 (fun g hg => hcmp.1 g hg) hx hy (Nat.zero_le _)
        have hf : P.fieldsOf t = fs := by simp [Program.fieldsOf, g1]
        simp only [mkV, hd, D.isAgg, if_true]
        rw [← Nat.add_assoc, run_equalIn_struct (P := P) w (d + n) t _ _ (by rw [hf]; exact g1) hcmp.2.1, hf]
        simpa using hrun
    · rename_i m e hd
      rw [Bool.and_eq_true] at h
      obtain ⟨g1, g2, g3⟩ := ht.arr hd
      obtain ⟨_, infe, _, _, q2, _, _, _, q3, _⟩ := ht.parts g2
      have hce : P.cellsOf e = (ti τ e).sz := by
        have h1 := run_sizeOf w q2
        have h2 := ht.sizeOf g2 w
        rw [h2] at h1
        simpa using h1.symm
      have IH := eqTy_run d w n e h.1
      have hkl : (ti τ t).ks.length = m * (ti τ e).sz := by rw [ht.len t, g3]
      refine ⟨by rw [hd]; simp, fun x hx c hc => ?_, fun x y hx hy => ?_⟩
      · obtain ⟨j, hj⟩ := List.getElem?_of_mem hc
        have hjl := (List.getElem?_eq_some_iff.1 hj).1
        have hxl := WKs.len hx
        have hpos : 0 < (ti τ e).sz := by
          rcases Nat.eq_zero_or_pos (ti τ e).sz with h0 | h0
          · rw [h0] at hkl; omega
          · exact h0
        have hi : j / (ti τ e).sz < m := Nat.div_lt_of_lt_mul (by rw [Nat.mul_comm]; omega)
        have hm := Nat.mod_lt j hpos
        have hdm := Nat.div_add_mod j (ti τ e).sz
        have hg := rowOk_get h.2 (ht.len e) hi hm
        have hw := WKs.get hx hj
        rw [Nat.zero_add, Nat.mul_comm, hdm] at hg
        rw [List.getD_eq_getElem?_getD, hg.1, ← List.getD_eq_getElem?_getD] at hw
        -- an element of one such cell elsewhere: any element with this cell at its place
        refine IH.2.1 (sub x (j / (ti τ e).sz * (ti τ e).sz) (ti τ e).sz) ?_ c ?_
        · unfold WK
          have : (ti τ e).ks = subKs (ti τ t).ks (j / (ti τ e).sz * (ti τ e).sz) (ti τ e).sz := by
            apply List.ext_getElem?
            intro p
            simp only [subKs]
            rw [List.getElem?_take]
            split
            · rename_i hp
              have := rowOk_get h.2 (ht.len e) hi hp
              rw [Nat.zero_add] at this
              rw [List.getElem?_drop, this.1]
            · exact List.getElem?_eq_none (by rw [ht.len e]; omega)
          rw [this]
          exact WKs.sub hx
        · apply List.mem_of_getElem? (i := j % (ti τ e).sz)
          simp only [Go.Eng.sub]
          rw [List.getElem?_take, if_pos hm, List.getElem?_drop, Nat.mul_comm, hdm]
          exact hj
      · have hrun := eqItems_run ht g2 hce w IH.2.2 h.2 hkl hx hy m 0 (by omega)
        simp only [mkV, hd, D.isAgg, if_true]
        rw [← Nat.add_assoc, run_equalIn_array w (d + n) _ _ g1 q2, List.range_eq_range']
        simpa using hrun
    · cases h
end
end Go.Eng

namespace Go.Eng
open Go

section
variable {P : Program} {τ : Tab} {st : St} {v : V} {x : R} {k : Kt} {d : Option Nat} {ty : TypeId} {pos : String} {gd : Option (Nat × Bool)} {af : Array Edge}

theorem g_int {op : BinOp} {t : TypeId} {x y : Operand} {kk k' : IntKind} {a b : Int} {w : World} : (eqGuard op t x y (.int kk a) (.int k' b)).run P w = .ok () w := by cases op <;> simp [eqGuard]
theorem g_str {op : BinOp} {t : TypeId} {x y : Operand} {a b : ByteArray} {w : World} : (eqGuard op t x y (.string a) (.string b)).run P w = .ok () w := by cases op <;> simp [eqGuard]
theorem g_bool {op : BinOp} {t : TypeId} {x y : Operand} {a b : Bool} {w : World} : (eqGuard op t x y (.bool a) (.bool b)).run P w = .ok () w := by cases op <;> simp [eqGuard]
theorem g_ptr {op : BinOp} {t : TypeId} {x y : Operand} {a b : Option Addr} {w : World} : (eqGuard op t x y (.pointer a) (.pointer b)).run P w = .ok () w := by cases op <;> simp [eqGuard]
theorem g_agg {op : BinOp} {t : TypeId} {x y : Operand} {a b : Array Value} {w : World} (h : P.eqGuardType P.depth t = false) : (eqGuard op t x y (.agg a) (.agg b)).run P w = .ok () w := by cases op <;> simp [eqGuard, h]
theorem e_nil {d : Nat} {t e : TypeId} {w : World} (hu : P.underlying t = some (.pointer e)) : (Op.equalIn (d + 1) t (.pointer none) (.pointer none)).run P w = .ok true w := by simp [Op.equalIn, run_underlying hu]
theorem e_ptr {d : Nat} {t e : TypeId} {a : Addr} {w : World} (hu : P.underlying t = some (.pointer e)) : (Op.equalIn (d + 1) t (.pointer (some a)) (.pointer none)).run P w = .ok false w := by simp [Op.equalIn, run_underlying hu]

theorem binI_ok {op : BinOp} {kk k' : IntKind} {a b : Int} {cont : V → Option R} {r : R} (hk : (ikq kk k' || isShift op) = true) (hh : binI op kk a b cont = some r) :
    ∃ c, cont (.one (.c c)) = some r ∧ ∀ (P : Program) (w : World) (ok : Nat → Prop) xt, ∃ u, (binOp op xt (.int kk a) (.int k' b)).run P w = .ok u w ∧ RC τ w ok c u := by
  have hkk : isShift op = false → kk = k' := fun h => by
    rw [h, Bool.or_false] at hk
    exact ikq_iff.1 hk
  cases op <;> simp only [binI] at hh
  case quo =>
    obtain ⟨h1, h2⟩ := bcond_none_some hh
    obtain rfl := hkk rfl
    have hb : b ≠ 0 := by simpa using h1
    exact ⟨_, h2, fun P w ok xt => ⟨_, by simp [binOp, Op.intDiv, hb] <;> rfl, RC.int _ _⟩⟩
  case rem =>
    obtain ⟨h1, h2⟩ := bcond_none_some hh
    obtain rfl := hkk rfl
    have hb : b ≠ 0 := by simpa using h1
    exact ⟨_, h2, fun P w ok xt => ⟨_, by simp [binOp, Op.intDiv, hb] <;> rfl, RC.int _ _⟩⟩
  case shl =>
    obtain ⟨h1, h2⟩ := bcond_none_some hh
    have hb : ¬ b < 0 := by simpa using h1
    exact ⟨_, h2, fun P w ok xt => ⟨_, by simp [binOp, Op.shift, hb] <;> rfl, RC.int _ _⟩⟩
  case shr =>
    obtain ⟨h1, h2⟩ := bcond_none_some hh
    have hb : ¬ b < 0 := by simpa using h1
    exact ⟨_, h2, fun P w ok xt => ⟨_, by simp [binOp, Op.shift, hb] <;> rfl, RC.int _ _⟩⟩
  all_goals
    obtain rfl := hkk rfl
    first
      | exact ⟨_, hh, fun P w ok xt => ⟨_, by simp [binOp, Op.intArith] <;> rfl, RC.int _ _⟩⟩
      | exact ⟨_, hh, fun P w ok xt => ⟨_, by simp [binOp] <;> rfl, RC.int _ _⟩⟩
      | exact ⟨_, hh, fun P w ok xt => ⟨_, by simp [binOp, Op.intCmp] <;> rfl, RC.bool _⟩⟩

theorem binV_ok (ht : TabOk P τ) {op : BinOp} {xt : TypeId} {xv yv : V} {cont : V → Option R} {r : R} (hh : binV τ op xt xv yv cont = some r) :
    ∃ c, cont (.one (.c c)) = some r ∧ ∀ (w : World) (ok : Nat → Prop) κ a b x y, RV τ w ok κ xv a → RV τ w ok κ yv b →
      ∃ u, ((do eqGuard op xt x y a b; binOp op xt a b : Sem Value)).run P w = .ok u w ∧ RC τ w ok c u := by
  unfold binV at hh
  split at hh
  · rename_i kk a k' b
    split at hh
    · rename_i hk
      obtain ⟨c, h1, h2⟩ := binI_ok (τ := τ) hk hh
      refine ⟨c, h1, fun w ok κ va vb x y ha hb => ?_⟩
      obtain rfl := RC.int_inv ha
      obtain rfl := RC.int_inv hb
      obtain ⟨u, h3, h4⟩ := h2 P w ok xt
      refine ⟨u, ?_, h4⟩
      rw [Sem.run_bind, g_int]
      exact h3
    · cases hh
  · rename_i a b
    have key : ∀ c, (∀ (w : World), (Op.stringOp op a b).run P w = .ok (valC c) w) → (∀ (w : World) ok, RC τ w ok c (valC c)) → cont (.one (.c c)) = some r →
        ∃ c, cont (.one (.c c)) = some r ∧ ∀ (w : World) (ok : Nat → Prop) κ a' b' x y, RV τ w ok κ (.one (.c (.str a))) a' → RV τ w ok κ (.one (.c (.str b))) b' →
          ∃ u, ((do eqGuard op xt x y a' b'; binOp op xt a' b' : Sem Value)).run P w = .ok u w ∧ RC τ w ok c u := fun c h1 h2 h3 => by
      refine ⟨c, h3, fun w ok κ va vb x y ha hb => ⟨valC c, ?_, h2 w ok⟩⟩
      obtain ⟨rfl, _⟩ := RC.str_inv ha
      obtain ⟨rfl, _⟩ := RC.str_inv hb
      rw [Sem.run_bind, g_str]
      have : binOp op xt (.string a) (.string b) = Op.stringOp op a b := by cases op <;> rfl
      rw [this]
      exact h1 w
    split at hh
    · exact key _ (fun w => by simp [Op.stringOp, valC]) (fun w ok => RC.bool _) hh
    · exact key _ (fun w => by simp [Op.stringOp, valC]) (fun w ok => RC.bool _) hh
    · obtain ⟨h1, h2⟩ := bcond_some_none hh
      have hle := Nat.le_of_ble_eq_true h1
      refine key _ (fun w => ?_) (fun w ok => RC.str _ ?_) h2
      · have : ¬ (((a.size + b.size : Nat) : Int) > IntKind.i64.max) := by
          have : IntKind.i64.max = 9223372036854775807 := by decide
          omega
        simp only [Op.stringOp, if_neg this, valC, Sem.run_pure]
      · simp only [ByteArray.size_append, big]
        exact hle
    · cases hh
  · rename_i a b
    split at hh
    · rename_i hd
      have hu := ht.bool hd
      have key : ∀ c, (∀ (w : World), (binOp op xt (.bool a) (.bool b)).run P w = .ok (.bool c) w) → cont (.one (.c (.bool c))) = some r →
          ∃ c, cont (.one (.c c)) = some r ∧ ∀ (w : World) (ok : Nat → Prop) κ a' b' x y, RV τ w ok κ (.one (.c (.bool a))) a' → RV τ w ok κ (.one (.c (.bool b))) b' →
            ∃ u, ((do eqGuard op xt x y a' b'; binOp op xt a' b' : Sem Value)).run P w = .ok u w ∧ RC τ w ok c u := fun c h1 h3 => by
        refine ⟨.bool c, h3, fun w ok κ va vb x y ha hb => ⟨.bool c, ?_, RC.bool _⟩⟩
        obtain rfl := RC.bool_inv ha
        obtain rfl := RC.bool_inv hb
        rw [Sem.run_bind, g_bool]
        exact h1 w
      have he : ∀ w, (Op.equal xt (.bool a) (.bool b)).run P w = .ok (a == b) w := fun w => run_equalIn_bool' w 9999 xt a b hu
      split at hh
      · exact key _ (fun w => by simp [binOp, he]) hh
      · exact key _ (fun w => by simp [binOp, he]) hh
      · cases hh
    · cases hh
  · rename_i t a t' b
    split at hh
    · rename_i hc
      simp only [Bool.and_eq_true] at hc
      obtain ⟨c1, c2, c3⟩ := hc
      obtain rfl := beq_eq c1
      obtain rfl := beq_eq c2
      have hdn := (eqTy_run ht 0 default 8 _ c3).1
      obtain ⟨dd, g1, hcmp⟩ := ht.cmp hdn
      have key : ∀ c, (∀ (w : World) cs ds, (Op.equal t' (.agg cs) (.agg ds)).run P w = .ok (eqL a b) w → (binOp op t' (.agg cs) (.agg ds)).run P w = .ok (.bool c) w) → cont (.one (.c (.bool c))) = some r →
          ∃ c, cont (.one (.c c)) = some r ∧ ∀ (w : World) (ok : Nat → Prop) κ a' b' x y, RV τ w ok κ (.agg t' a []) a' → RV τ w ok κ (.agg t' b []) b' →
            ∃ u, ((do eqGuard op t' x y a' b'; binOp op t' a' b' : Sem Value)).run P w = .ok u w ∧ RC τ w ok c u := fun c h1 h3 => by
        refine ⟨.bool c, h3, fun w ok κ va vb x y ha hb => ⟨.bool c, ?_, RC.bool _⟩⟩
        obtain ⟨hag, cs, rfl, hL⟩ := ha
        obtain ⟨_, ds, rfl, hM⟩ := hb
        obtain ⟨_, hsc, heq⟩ := eqTy_run ht 9992 w 8 _ c3
        have wk : ∀ (x : List C) (cs : Array Value), RL τ w ok κ (ti τ t').ks x [] cs.toList → WK τ t' x ∧ cs = (x.map valC).toArray := fun x cs hL => by
          have hw : WK τ t' x := WKs.mk hL.1 fun j y hy => by
            have hj : j < (ti τ t').ks.length := by have := (List.getElem?_eq_some_iff.1 hy).1; have := hL.1; omega
            obtain ⟨c, u, k1, k2, k3, k4⟩ := hL.2.2 j hj
            rw [hy] at k1; cases k1; exact k3
          refine ⟨hw, ?_⟩
          apply Array.toList_inj.1
          apply List.ext_getElem?
          intro j
          by_cases hj : j < (ti τ t').ks.length
          · obtain ⟨c, u, k1, k2, k3, k4⟩ := hL.2.2 j hj
            rw [k2, List.toList_toArray, List.getElem?_map, k1]
            simp only [Option.map_some]
            rw [k4.val (hsc x hw c (List.mem_of_getElem? k1))]
          · rw [List.getElem?_eq_none (by have := hL.2.1; omega), List.getElem?_eq_none (by have := hL.1; simp; omega)]
        obtain ⟨w1, rfl⟩ := wk a cs hL
        obtain ⟨w2, rfl⟩ := wk b ds hM
        have he := heq a b w1 w2
        simp only [mkV, hag, if_true] at he
        have hgt : P.eqGuardType P.depth t' = false := by
          rcases hdd : (ti τ t').d with _ | _ | _ | _ | _ | ⟨n, e⟩ | l | _ | _ | _ <;> simp [hdd, D.isAgg] at hag
          · obtain ⟨g2, _⟩ := ht.arr hdd
            rw [g1] at g2
            cases g2
            simpa [cmpOk] using hcmp
          · obtain ⟨fs, g2, _⟩ := ht.struct hdd
            rw [g1] at g2
            cases g2
            simp only [cmpOk, Bool.and_eq_true, Bool.not_eq_true'] at hcmp
            exact hcmp.2.2
        rw [Sem.run_bind, g_agg hgt]
        exact h1 w _ _ he
      split at hh
      · exact key _ (fun w cs ds he => by simp [binOp, he]) hh
      · exact key _ (fun w cs ds he => by simp [binOp, he]) hh
      · cases hh
    · cases hh
  · split at hh
    · rename_i e hd
      have hu := ht.ptr hd
      have he : ∀ w, (Op.equal xt (.pointer none) (.pointer none)).run P w = .ok true w := fun w => e_nil (d := 9999) hu
      have hg : ∀ w x y, (eqGuard op xt x y (.pointer none) (.pointer none)).run P w = .ok () w := fun w x y => g_ptr
      split at hh
      · refine ⟨_, hh, fun w ok κ va vb x y ha hb => ⟨.bool true, ?_, RC.bool _⟩⟩
        cases ha; cases hb
        rw [Sem.run_bind, hg]
        simp [binOp, he]
      · refine ⟨_, hh, fun w ok κ va vb x y ha hb => ⟨.bool false, ?_, RC.bool _⟩⟩
        cases ha; cases hb
        rw [Sem.run_bind, hg]
        simp [binOp, he]
      · cases hh
    · cases hh
  · split at hh
    · rename_i e hd
      have hu := ht.ptr hd
      have he : ∀ w a, (Op.equal xt (.pointer (some a)) (.pointer none)).run P w = .ok false w := fun w a => e_ptr (d := 9999) hu
      have hg : ∀ w a x y, (eqGuard op xt x y (.pointer (some a)) (.pointer none)).run P w = .ok () w := fun w a x y => g_ptr
      split at hh
      · refine ⟨_, hh, fun w ok κ va vb x y ha hb => ⟨.bool false, ?_, RC.bool _⟩⟩
        simp only [RV, RV1, RA] at ha
        obtain ⟨b, rfl⟩ := ha.1
        cases hb
        rw [Sem.run_bind, hg]
        simp [binOp, he]
      · refine ⟨_, hh, fun w ok κ va vb x y ha hb => ⟨.bool true, ?_, RC.bool _⟩⟩
        simp only [RV, RV1, RA] at ha
        obtain ⟨b, rfl⟩ := ha.1
        cases hb
        rw [Sem.run_bind, hg]
        simp [binOp, he]
      · cases hh
    · cases hh
  · cases hh

theorem d_binOp {op : BinOp} {xt yt : TypeId} {y z : Operand} (ht : TabOk P τ) (hh : with1 (oper τ xt st y) (fun a => with1 (oper τ yt st z) fun b => binV τ op xt a b fun v => k v [] []) = some x) :
    Done P τ ⟨d, .binOp op xt y z yt, ty, pos, af, gd⟩ st k x := by
  obtain ⟨va, h1, h0⟩ := with1_inv hh
  obtain ⟨vb, h1', h2⟩ := with1_inv h0
  obtain ⟨c, h3, h4⟩ := binV_ok ht h2
  refine done_run (rk := []) (fun ρ => do eqGuard op xt y z (ρ y) (ρ z); binOp op xt (ρ y) (ρ z)) (fun _ => rfl) h3 fun st2 hs _ M κ a w T H => ?_
  exact h4 w _ κ _ _ y z (at2 hs T h1 (by simp [Op.operands])) (at2 hs T h1' (by simp [Op.operands]))
end
end Go.Eng

namespace Go.Eng
open Go

theorem fold_push (ns : List Int) : ∀ (s : ByteArray), (ns.foldl (fun r n => r.push (UInt8.ofNat n.toNat)) s).data.toList = s.data.toList ++ ns.map fun n => UInt8.ofNat n.toNat := by
  induction ns with
  | nil => intro s; simp
  | cons n ns ih =>
    intro s
    rw [List.foldl_cons, ih]
    simp [ByteArray.push]

section
variable {P : Program} {τ : Tab} {st : St} {v : V} {x : R} {k : Kt} {d : Option Nat} {ty : TypeId} {pos : String} {gd : Option (Nat × Bool)} {af : Array Edge}

theorem strOf_eq {xs : List (List C)} {ns : List Int} (h : xs = ns.map fun n => [C.int .u8 n]) : ns.foldl (fun r n => r.push (UInt8.ofNat n.toNat)) ByteArray.empty = strOf xs := by
  have h1 := fold_push ns ByteArray.empty
  have h2 : (strOf xs).data.toList = ns.map fun n => UInt8.ofNat n.toNat := by
    simp [strOf, h, byteOf, cl, C.toI, Function.comp_def]
  have h3 : (ns.foldl (fun r n => r.push (UInt8.ofNat n.toNat)) ByteArray.empty).data = (strOf xs).data := by
    apply Array.toList_inj.1
    rw [h1, h2]
    rfl
  cases hx : strOf xs
  cases hy : ns.foldl (fun r n => r.push (UInt8.ofNat n.toNat)) ByteArray.empty
  rw [hx, hy] at h3
  simp at h3
  rw [h3]

theorem u8_row (ht : TabOk P τ) {w : World} {ok : Nat → Prop} {e : TypeId} {xs : List (List C)} {news : List Value} (hks : (ti τ e).ks = [.int .u8]) (hr : Row τ w ok e xs news) :
    ∃ ns : List Int, xs = ns.map (fun n => [C.int .u8 n]) ∧ news = ns.map (Value.int .u8) := by
  have hs1 : (ti τ e).sz = 1 := by rw [← ht.len e, hks]; rfl
  obtain ⟨h1, h2, _, _, h5⟩ := hr
  rw [hs1, Nat.mul_one] at h1
  rw [hs1] at h5
  have hx : ∀ x ∈ xs, x = [C.int .u8 (cl x 0).toI] := fun x hx => by
    have := h2 x hx
    unfold WK at this
    rw [hks] at this
    cases x with
    | nil => exact this.elim
    | cons c r =>
      cases r with
      | cons _ _ => exact this.2.elim
      | nil =>
        have hk := K.eq_iff this.1
        cases c <;> simp [C.kind] at hk
        subst hk
        rfl
  refine ⟨xs.map fun x => (cl x 0).toI, ?_, ?_⟩
  · rw [List.map_map]
    conv => lhs; rw [← List.map_id xs]
    exact List.map_congr_left fun x hx' => hx x hx'
  · apply List.ext_getElem?
    intro i
    rw [List.map_map, List.getElem?_map]
    cases hxi : xs[i]? with
    | none =>
      have := List.getElem?_eq_none_iff.1 hxi
      rw [List.getElem?_eq_none (by omega)]
      rfl
    | some x =>
      have hxe := hx x (List.mem_of_getElem? hxi)
      obtain ⟨u, u1, u2⟩ := h5 i x 0 (C.int .u8 (cl x 0).toI) hxi ((congrArg (fun l : List C => l[0]?) hxe).trans rfl)
      rw [Nat.mul_one, Nat.add_zero] at u1
      rw [u1, RC.int_inv u2]
      rfl

theorem d_convert {src dst : TypeId} {y : Operand} (ht : TabOk P τ) (hh : with1 (oper τ src st y) (fun v => convV τ st.h src dst v k) = some x) : Done P τ ⟨d, .convert src dst y, ty, pos, af, gd⟩ st k x := by
  obtain ⟨v, h1, h2⟩ := with1_inv hh
  unfold convV at h2
  split at h2
  · rename_i kk hd
    have hu := ht.int hd
    split at h2
    · rename_i k0 n k1 hs
      have hus := ht.int hs
      refine done_run (rk := []) (fun ρ => convert src dst (ρ y)) (fun _ => rfl) h2 fun st2 hs _ M κ a w T H => ⟨.int kk (kk.wrap n), ?_, RC.int _ _⟩
      rw [RC.int_inv (at2 hs T h1 (by simp [Op.operands]))]
      simp [convert, run_underlying hu, run_underlying hus, Conv.intToInt]
    · cases h2
  · rename_i hd
    have hu := ht.str hd
    split at h2
    · rename_i e hs
      obtain ⟨hus, hde⟩ := ht.sl hs
      split at h2
      · rename_i he
        have hue := ht.int he
        unfold convV.srcB at h2
        split at h2
        · cases h2
        · rename_i hns
          split at h2
          · cases h2
          · rename_i hks
            have hks := Ks.eq_iff hks
            have hs1 : (ti τ e).sz = 1 := by rw [← ht.len e, hks]; rfl
            obtain ⟨xs, rk, h3, h4⟩ := srcV_ok ht h2
            refine done_run (rk := rk) (fun ρ => convert src dst (ρ y)) (fun _ => rfl) h3 fun st2 hs' hk2 M κ a w T H => ?_
            have hr := at2 hs' T h1 (by simp [Op.operands])
            obtain ⟨news, s1, s2, _, s4⟩ := h4 st2.h hk2 M κ w _ src H hr (.inl ⟨e, hus⟩)
            obtain ⟨ns, n1, n2⟩ := u8_row ht hks s2
            refine ⟨.string (strOf xs), ?_, RC.str _ ?_⟩
            · have hsl : ∃ A n c, a.eval y = .slice A n c := by
                rcases s4 with ⟨A, c, h⟩ | ⟨s, h⟩
                · exact ⟨A, _, c, h⟩
                · exact (hns s h).elim
              obtain ⟨A, n, c, hv⟩ := hsl
              have hlen := s1.len w
              have hcells := s1.cells
              rw [hv] at hlen hcells
              have hn : n = xs.length := by simpa [Builtin.lenOf] using hlen
              subst hn
              rw [hv]
              have hcv : convert src dst (.slice A xs.length c) = convert src dst (.slice A xs.length c) := rfl
              cases A with
              | none =>
                have hx0 : news = [] := by
                  rw [run_firstCells_none] at hcells
                  simpa using hcells
                have hns0 : ns = [] := by rw [hx0] at n2; simpa using n2.symm
                rw [← strOf_eq n1, hns0]
                simp [convert, run_underlying hu, run_underlying hus, run_underlying hue, Conv.bytesToString]
              | some ad =>
                have hl : (loadCells ad xs.length).run P w = .ok (ns.map (Value.int .u8)).toArray w := by
                  rw [← n2]
                  have := hcells
                  simp only [Builtin.firstCells, hs1, Nat.mul_one] at this
                  exact this
                simp [convert, run_underlying hu, run_underlying hus, run_underlying hue, run_bytesToString (P := P) w ad xs.length c ns hl]
                exact strOf_eq n1
            · have : (strOf xs).size = xs.length := by simp [strOf, ByteArray.size]
              rw [this]
              exact s2.2.2.1
      · cases h2
    · rename_i hs
      have hus := ht.str hs
      split at h2
      · rename_i s
        refine done_run (rk := []) (fun ρ => convert src dst (ρ y)) (fun _ => rfl) h2 fun st2 hs _ M κ a w T H => ?_
        have hr := at2 hs T h1 (by simp [Op.operands])
        refine ⟨.string s, ?_, ?_⟩
        · rw [(RC.str_inv hr).1]
          simp [convert, run_underlying hu, run_underlying hus]
        · have := hr
          rw [(RC.str_inv hr).1] at this
          exact this
      · cases h2
    · cases h2
  · cases h2

theorem execOp_len {ρ : Operand → Value} {args : Array Operand} {ts : Array TypeId} : execOp ρ ⟨d, .call ⟨.builtin .len, args, ts⟩, ty, pos, af, gd⟩ = (do pure (.value (← Builtin.len_ ts ty (args.map ρ)))) := by
  simp [execOp, resolve, invoke, builtin]
theorem execOp_append {ρ : Operand → Value} {args : Array Operand} {ts : Array TypeId} : execOp ρ ⟨d, .call ⟨.builtin .append, args, ts⟩, ty, pos, af, gd⟩ = (do pure (.value (← Builtin.append_ ts ty (args.map ρ)))) := by
  simp [execOp, resolve, invoke, builtin]
theorem execOp_copy {ρ : Operand → Value} {args : Array Operand} {ts : Array TypeId} : execOp ρ ⟨d, .call ⟨.builtin .copy, args, ts⟩, ty, pos, af, gd⟩ = (do pure (.value (← Builtin.copy_ ts ty (args.map ρ)))) := by
  simp [execOp, resolve, invoke, builtin]
theorem execOp_min {ρ : Operand → Value} {args : Array Operand} {ts : Array TypeId} : execOp ρ ⟨d, .call ⟨.builtin .min, args, ts⟩, ty, pos, af, gd⟩ = (do pure (.value (← Builtin.min_ ts ty (args.map ρ)))) := by
  simp [execOp, resolve, invoke, builtin]
theorem execOp_max {ρ : Operand → Value} {args : Array Operand} {ts : Array TypeId} : execOp ρ ⟨d, .call ⟨.builtin .max, args, ts⟩, ty, pos, af, gd⟩ = (do pure (.value (← Builtin.max_ ts ty (args.map ρ)))) := by
  simp [execOp, resolve, invoke, builtin]
end
end Go.Eng

namespace Go.Eng
open Go

/-- What a function does, at such arguments: it returns r, and leaves h'. -/
def FnAt (P : Program) (τ : Tab) (f : FuncId) (args : List V) (h : Heap) (r : V) (h' : Heap) : Prop :=
  (∃ fn, P.funcs[f]? = some fn ∧ (fn.name == "runtime.NumGoroutine") = false ∧ fn.body.isNone = false) ∧
  ∀ M κ w (vals : List Value), HRel τ M κ h w → (∀ k e, κ k = some e → (∃ i, k = .ext i) ∧ e.g = 0) → All2 (RV1 τ w (okB M κ) κ) args vals →
    Calls P f vals.toArray w fun e w' => ∃ u, e = .returned u ∧ ∃ κ', HRel τ M κ' h' w' ∧ Ext M κ w κ' w' ∧ RV τ w' (okB M κ') κ' r u

def FSound (P : Program) (τ : Tab) (F : Fun) : Prop := ∀ f args h k x, F f args h k = some x → ∃ r h', k r h' = some x ∧ FnAt P τ f args h r h'

/-! ### Keys -/
theorem keyIx_get : ∀ {l : List (Key × Nat)} {k : Key} {m n g : Nat}, keyIx l k m = some (n, g) → ∃ i, n = m + i ∧ l[i]? = some (k, g)
  | (q, g0) :: r, k, m, n, g, h => by
    simp only [keyIx] at h
    cases hb : Key.eq q k with
    | true =>
      obtain rfl := Key.eq_iff.1 hb
      simp [hb] at h
      exact ⟨0, by omega, by simp [h.2]⟩
    | false =>
      simp only [hb] at h
      obtain ⟨i, h1, h2⟩ := keyIx_get h
      exact ⟨i + 1, by omega, by simpa using h2⟩
  | [], _, _, _, _, h => by simp [keyIx] at h
theorem keyIx_none : ∀ {l : List (Key × Nat)} {k : Key} {m : Nat}, keyIx l k m = none → ∀ p ∈ l, p.1 ≠ k
  | [], _, _, _, _, hp => by cases hp
  | (q, g0) :: r, k, m, h, p, hp => by
    simp only [keyIx] at h
    cases hb : Key.eq q k with
    | true => simp [hb] at h
    | false =>
      simp only [hb] at h
      rcases List.mem_cons.1 hp with rfl | hp
      · exact Key.eq_false.1 hb
      · exact keyIx_none h p hp
theorem hasK_iff {l : List Key} {k : Key} : hasK l k = true ↔ k ∈ l := by
  simp only [hasK, List.any_eq_true]
  constructor
  · rintro ⟨q, h1, h2⟩; rw [← Key.eq_iff.1 h2]; exact h1
  · intro h; exact ⟨k, h, Key.eq_refl k⟩
theorem distinct_nodup : ∀ {l : List Key}, distinct l = true → l.Nodup
  | [], _ => List.nodup_nil
  | k :: r, h => by
    simp only [distinct, Bool.and_eq_true, Bool.not_eq_true'] at h
    refine List.nodup_cons.2 ⟨fun hm => ?_, distinct_nodup h.2⟩
    rw [hasK_iff.2 hm] at h
    cases h.1
theorem addKey_app (ks : List (Key × Nat)) (k : Key) (g : Nat) : ∃ t, addKey ks k g = ks ++ t := by
  unfold addKey
  split
  · exact ⟨[], by simp⟩
  · exact ⟨_, rfl⟩
theorem get_app {α : Type} {l t : List α} {n : Nat} {x : α} (h : l[n]? = some x) : (l ++ t)[n]? = some x := by
  rw [List.getElem?_append_left (List.getElem?_eq_some_iff.1 h).1]; exact h
theorem hook_mem : ∀ {h : Heap} {k : Key} {x : Nat × B}, hook h k = some x → (k, x) ∈ h
  | (q, y) :: r, k, x, hh => by
    simp only [hook] at hh
    cases hb : Key.eq q k with
    | true =>
      obtain rfl := Key.eq_iff.1 hb
      simp [hb] at hh
      subst hh
      exact List.mem_cons_self ..
    | false =>
      simp only [hb] at hh
      exact List.mem_cons_of_mem _ (hook_mem hh)
  | [], _, _, hh => by simp [hook] at hh
theorem mem_hook : ∀ {h : Heap} {k : Key} {x : Nat × B}, (h.map (·.1)).Nodup → (k, x) ∈ h → hook h k = some x
  | (q, y) :: r, k, x, hn, hm => by
    simp only [List.map_cons, List.nodup_cons] at hn
    rcases List.mem_cons.1 hm with h | h
    · cases h; simp [hook, Key.eq_refl]
    · have : q ≠ k := fun hc => hn.1 (by rw [hc]; exact List.mem_map.2 ⟨_, h, rfl⟩)
      simp only [hook, Key.eq_false.2 this]
      exact mem_hook hn.2 h
  | [], _, _, _, hm => by cases hm
theorem ups_hook : ∀ {u : Ups} {h : Heap} {k : Key}, (u.map (·.1)).Nodup → (∀ x, (k, x) ∈ u → hook (ups h u) k = some x) ∧ (k ∉ u.map (·.1) → hook (ups h u) k = hook h k)
  | [], h, k, _ => ⟨fun _ hx => (by cases hx), fun _ => rfl⟩
  | (q, y) :: r, h, k, hn => by
    simp only [List.map_cons, List.nodup_cons] at hn
    obtain ⟨h1, h2⟩ := ups_hook (u := r) (h := hput h q y) (k := k) hn.2
    refine ⟨fun x hx => ?_, fun hk => ?_⟩
    · rcases List.mem_cons.1 hx with hh | hh
      · cases hh
        exact (h2 hn.1).trans (hook_hput_same _ _ _)
      · exact h1 x hh
    · simp only [List.map_cons, List.mem_cons, not_or] at hk
      exact (h2 hk.2).trans (hook_hput_ne _ _ _ _ (Ne.symm hk.1))

/-! ### What is lent -/
inductive LV (τ : Tab) (w : World) (ok : Nat → Prop) (κ : Kap) (ks : List (Key × Nat)) : V → Value → Prop
  | data (v : V) (r : Value) : v.data = true → RV1 τ w ok κ v r → LV τ w ok κ ks v r
  | ptr (n : Nat) (q : Key) (g off : Nat) (r : Value) : ks[n]? = some (q, g) → RA τ w ok κ (.ptr q g off) r → LV τ w ok κ ks (.one (.ptr (.ext n) 0 off)) r
  | own (n : Nat) (q : Key) (g : Nat) (e : TypeId) (r : Value) : ks[n]? = some (q, g) → RA τ w ok κ (.own q g e) r → LV τ w ok κ ks (.one (.own (.ext n) 0 e)) r
  | fn (f : FuncId) (cs caps : List (Key × Nat)) (r : Value) : RA τ w ok κ (.fn f caps) r → cs.length = caps.length →
      (∀ (i : Nat) (c : Key × Nat), cs[i]? = some c → ∃ (n : Nat) (q : Key) (g : Nat), c = (Key.ext n, 0) ∧ ks[n]? = some (q, g) ∧ caps[i]? = some (q, g)) → LV τ w ok κ ks (.one (.fn f cs)) r

section
variable {P : Program} {τ : Tab} {M : Nat → Prop} {κ κ' : Kap} {w w' : World}
theorem LV.ext {ks t : List (Key × Nat)} {v : V} {r : Value} (h : LV τ w (okB M κ) κ ks v r) (hx : Ext M κ w κ' w') : LV τ w' (okB M κ') κ' (ks ++ t) v r := by
  cases h with
  | data v r h1 h2 => exact .data _ _ h1 (h2.ext hx)
  | ptr n q g off r h1 h2 => exact .ptr n q g off r (get_app h1) (h2.ext hx)
  | own n q g e r h1 h2 => exact .own n q g e r (get_app h1) (h2.ext hx)
  | fn f cs caps r h1 h2 h3 =>
    refine .fn f cs caps r (h1.ext hx) h2 fun i c hc => ?_
    obtain ⟨n, q, g, h4, h5, h6⟩ := h3 i c hc
    exact ⟨n, q, g, h4, get_app h5, h6⟩

theorem lendCaps_ok : ∀ {caps ks : List (Key × Nat)} {cont : List (Key × Nat) → List (Key × Nat) → Option R} {x : R}, lendCaps caps ks cont = some x →
    ∃ cs ks', cont cs ks' = some x ∧ (∃ t, ks' = ks ++ t) ∧ cs.length = caps.length ∧ ∀ (i : Nat) (c : Key × Nat), cs[i]? = some c → ∃ (n : Nat) (q : Key) (g : Nat), c = (Key.ext n, 0) ∧ ks'[n]? = some (q, g) ∧ caps[i]? = some (q, g)
  | [], ks, cont, x, hh => ⟨[], ks, hh, ⟨[], by simp⟩, rfl, fun i c hc => (by simp at hc)⟩
  | (q, g) :: r, ks, cont, x, hh => by
    simp only [lendCaps] at hh
    split at hh
    · rename_i n g' hk
      split at hh
      · rename_i hg
        obtain rfl := beq_eq hg
        obtain ⟨cs, ks', h1, ⟨t, h2⟩, h3, h4⟩ := lendCaps_ok hh
        obtain ⟨t0, h0⟩ := addKey_app ks q g
        obtain ⟨i0, hi0, hi1⟩ := keyIx_get hk
        rw [Nat.zero_add] at hi0
        subst hi0
        refine ⟨_, _, h1, ⟨t0 ++ t, by rw [h2, h0, List.append_assoc]⟩, by simp [h3], fun i c hc => ?_⟩
        cases i with
        | zero =>
          cases hc
          exact ⟨n, q, g, rfl, by rw [h2]; exact get_app hi1, rfl⟩
        | succ i => exact h4 i c (by simpa using hc)
      · cases hh
    · cases hh

theorem lendV_ok (ht : TabOk P τ) {h : Heap} {own : Bool} {v : V} {ks : List (Key × Nat)} {cont : V → List (Key × Nat) → List Key → Ups → Option R} {x : R} (hh : lendV τ h own v ks cont = some x) :
    ∃ v' ks' rk u, cont v' ks' rk u = some x ∧ (∃ t, ks' = ks ++ t) ∧ ∀ h2, (∀ k ∈ rk, hook h2 k = hook h k) → ∀ M κ w r, HRel τ M κ h2 w → RV τ w (okB M κ) κ v r →
      ∃ κ', HRel τ M κ' (ups h2 u) w ∧ Ext M κ w κ' w ∧ LV τ w (okB M κ') κ' ks' v' r := by
  have hdata : ∀ v, dataV τ h v (fun v' rk u => cont v' ks rk u) = some x → ∃ v' ks' rk u, cont v' ks' rk u = some x ∧ (∃ t, ks' = ks ++ t) ∧ ∀ h2, (∀ k ∈ rk, hook h2 k = hook h k) → ∀ M κ w r, HRel τ M κ h2 w → RV τ w (okB M κ) κ v r →
      ∃ κ', HRel τ M κ' (ups h2 u) w ∧ Ext M κ w κ' w ∧ LV τ w (okB M κ') κ' ks' v' r := fun v hh => by
    obtain ⟨v', rk, u, h1, hda, h2⟩ := dataV_ok ht hh
    refine ⟨v', ks, rk, u, h1, ⟨[], by simp⟩, fun h2' hk M κ w r H hr => ?_⟩
    obtain ⟨κ', H', hx, hr'⟩ := h2 h2' hk M κ w r H hr
    exact ⟨κ', H', hx, .data _ _ hda hr'⟩
  unfold lendV at hh
  split at hh
  · rename_i q g off
    split at hh
    · rename_i n g' hk
      split at hh
      · rename_i hg
        obtain rfl := beq_eq hg
        obtain ⟨i0, hi0, hi1⟩ := keyIx_get hk
        rw [Nat.zero_add] at hi0
        subst hi0
        exact ⟨_, _, _, _, hh, addKey_app _ _ _, fun h2 _ M κ w r H hr => ⟨κ, H, Ext.refl _ _ _, .ptr n q g off r hi1 hr⟩⟩
      · cases hh
    · cases hh
  · rename_i f caps
    obtain ⟨cs, ks', h1, h2, h3, h4⟩ := lendCaps_ok hh
    exact ⟨_, _, _, _, h1, h2, fun h2 _ M κ w r H hr => ⟨κ, H, Ext.refl _ _ _, .fn f cs caps r hr h3 h4⟩⟩
  · rename_i q g e
    split at hh
    · split at hh
      · rename_i n g' hk
        split at hh
        · rename_i hg
          obtain rfl := beq_eq hg
          obtain ⟨i0, hi0, hi1⟩ := keyIx_get hk
          rw [Nat.zero_add] at hi0
          subst hi0
          exact ⟨_, _, _, _, hh, addKey_app _ _ _, fun h2 _ M κ w r H hr => ⟨κ, H, Ext.refl _ _ _, .own n q g e r hi1 hr⟩⟩
        · cases hh
      · cases hh
    · exact hdata _ hh
  · exact hdata _ hh

theorem lendAll_ok (ht : TabOk P τ) {own : Bool} : ∀ {args : List V} {h : Heap} {ks : List (Key × Nat)} {cont : List V → List (Key × Nat) → List Key → Ups → Option R} {x : R}, lendAll τ own h args ks cont = some x →
    ∃ vs ks' rk u, cont vs ks' rk u = some x ∧ (∃ t, ks' = ks ++ t) ∧ ∀ h2, (∀ k ∈ rk, hook h2 k = hook h k) → ∀ M κ w rs, HRel τ M κ h2 w → All2 (RV τ w (okB M κ) κ) args rs →
      ∃ κ', HRel τ M κ' (ups h2 u) w ∧ Ext M κ w κ' w ∧ All2 (LV τ w (okB M κ') κ' ks') vs rs
  | [], h, ks, cont, x, hh => ⟨[], ks, [], [], hh, ⟨[], by simp⟩, fun h2 _ M κ w rs H hA => by
      cases rs with
      | nil => exact ⟨κ, H, Ext.refl _ _ _, trivial⟩
      | cons _ _ => exact hA.elim⟩
  | v :: args, h, ks, cont, x, hh => by
    simp only [lendAll] at hh
    obtain ⟨v', ks1, rk, u, h1, ⟨t1, h2⟩, h3⟩ := lendV_ok ht hh
    obtain ⟨vs, ks2, rk', u', h4, ⟨t2, h5⟩, h6⟩ := lendAll_ok ht h1
    refine ⟨_, _, _, _, h4, ⟨t1 ++ t2, by rw [h5, h2, List.append_assoc]⟩, fun h2' hk M κ w rs H hA => ?_⟩
    cases rs with
    | nil => exact hA.elim
    | cons r rs =>
      obtain ⟨κ1, H1, x1, r1⟩ := h3 h2' (fun k hk' => hk k (List.mem_append_left _ hk')) M κ w r H hA.1
      obtain ⟨κ2, H2, x2, r2⟩ := h6 (ups h2' u) (fun k hk' => ups_agree u (hk k (List.mem_append_right _ hk'))) M κ1 w rs H1 (hA.2.imp fun _ _ hh => hh.ext x1)
      exact ⟨κ2, by rw [ups_append]; exact H2, x1.trans x2, by rw [h5]; exact r1.ext x2, r2⟩

theorem lentH_ok {h : Heap} : ∀ {ks : List (Key × Nat)} {n0 : Nat} {cont : Heap → Option R} {x : R}, lentH h ks n0 cont = some x →
    ∃ ch, cont ch = some x ∧ (∀ k g b, hook ch k = some (g, b) → ∃ m q g0, k = .ext (n0 + m) ∧ ks[m]? = some (q, g0) ∧ g = 0 ∧ hook h q = some (g0, b) ∧ b.closed = true) ∧
      ∀ m q g0, ks[m]? = some (q, g0) → ∃ b, hook ch (.ext (n0 + m)) = some (0, b) ∧ hook h q = some (g0, b) ∧ b.closed = true
  | [], n0, cont, x, hh => ⟨[], hh, fun k g b hk => (by simp [hook] at hk), fun m q g0 hm => (by simp at hm)⟩
  | (q, g) :: r, n0, cont, x, hh => by
    simp only [lentH] at hh
    split at hh
    · rename_i g' b hk
      split at hh
      · rename_i hc
        rw [Bool.and_eq_true] at hc
        obtain rfl := beq_eq hc.1
        obtain ⟨ch, h1, h2, h3⟩ := lentH_ok hh
        refine ⟨_, h1, fun k g2 b2 hk2 => ?_, fun m q2 g2 hm => ?_⟩
        · simp only [hook] at hk2
          cases hb : Key.eq (.ext n0) k with
          | true =>
            simp only [hb] at hk2
            cases hk2
            exact ⟨0, q, g, (Key.eq_iff.1 hb).symm, rfl, rfl, hk, hc.2⟩
          | false =>
            simp only [hb] at hk2
            obtain ⟨m, q2, g3, h4, h5, h6⟩ := h2 k g2 b2 hk2
            exact ⟨m + 1, q2, g3, by rw [h4]; congr 1; omega, by simpa using h5, h6⟩
        · cases m with
          | zero =>
            cases hm
            exact ⟨b, by simp [hook, Key.eq_refl], hk, hc.2⟩
          | succ m =>
            obtain ⟨b2, h4, h5⟩ := h3 m q2 g2 (by simpa using hm)
            refine ⟨b2, ?_, h5⟩
            have hne : Key.eq (.ext n0) (.ext (n0 + (m + 1))) = false := Key.eq_false.2 (by intro hc; simp at hc)
            simp only [hook, hne]
            rw [show n0 + (m + 1) = n0 + 1 + m from by omega]
            exact h4
      · cases hh
    · cases hh

theorem noKeys_at : ∀ {ov : List (Nat × A)} {i : Nat} {a : A}, noKeys ov = true → ovAt ov i = some a → (∃ e, a = .nils e) ∨ a = .nilp ∨ ∃ c, a = .c c
  | (j, b) :: r, i, a, h, ho => by
    rw [ovAt_cons] at ho
    by_cases hj : j = i
    · rw [if_pos hj] at ho
      cases ho
      cases b with
      | nils e => exact .inl ⟨e, rfl⟩
      | nilp => exact .inr (.inl rfl)
      | c c => exact .inr (.inr ⟨c, rfl⟩)
      | _ => simp [noKeys] at h
    · rw [if_neg hj] at ho
      refine noKeys_at (ov := r) ?_ ho
      cases b <;> simp [noKeys] at h <;> exact h
  | [], _, _, _, ho => by simp [ovAt] at ho

theorem RL.closed {ok ok' : Nat → Prop} {κ2 : Kap} {ks : List K} {x : List C} {ov : List (Nat × A)} {cs : List Value} (hc : noKeys ov = true) (hm : ∀ c v, RC τ w ok c v → RC τ w ok' c v) (h : RL τ w ok κ ks x ov cs) : RL τ w ok' κ2 ks x ov cs := by
  refine ⟨h.1, h.2.1, fun i hi => ?_⟩
  have := h.2.2 i hi
  cases ho : ovAt ov i with
  | none =>
    rw [ho] at this
    obtain ⟨c, u, h1, h2, h3, h4⟩ := this
    exact ⟨c, u, h1, h2, h3, hm _ _ h4⟩
  | some a =>
    rw [ho] at this
    obtain ⟨u, h1, h2, h3⟩ := this
    refine ⟨u, h1, ?_, h3⟩
    rcases noKeys_at hc ho with ⟨e, rfl⟩ | rfl | ⟨c, rfl⟩
    · exact h2
    · exact h2
    · exact hm _ _ h2
/-- A block that names no key, seen by another. -/
theorem RB.closed {ok ok' : Nat → Prop} {κ2 : Kap} {b : B} {e e' : Ent} (hc : b.closed = true) (hok : ∀ b, b < w.heap.size → ok b → ok' b) (hq : e'.q = e.q) (ho : e'.ob = e.ob) (h : RB τ w ok κ b e) : RB τ w ok' κ2 b e' := by
  have hm : ∀ c v, RC τ w ok c v → RC τ w ok' c v := fun c v h => h.mono (Nat.le_refl _) fun b hb hk => ⟨hok b hb hk, rfl⟩
  cases b with
  | box t x ov =>
    obtain ⟨b, cs, u, h1, h2, h3, h4⟩ := h
    exact ⟨b, cs, u, ho.trans h1, hq.trans h2, h3, h4.closed hc hm⟩
  | boxf t x =>
    obtain ⟨h0, b, cs, u, h1, h2, h3, h4, h5⟩ := h
    exact ⟨ho.trans h0, b, cs, u, hq.trans h1, hok b h3 h2, h3, h4, h5.closed rfl hm⟩
  | arr t m xs =>
    obtain ⟨A, c, h1, h2, h3, h4, h5⟩ := h
    refine ⟨A, c, hq.trans h1, h2, h3, h4, ?_⟩
    rcases h5 with ⟨b, cs, u, h6, h7, h8, h9, h10⟩ | ⟨h6, h7, h8, h9⟩
    · refine .inl ⟨b, cs, u, ho.trans h6, h7, h8, h9, fun i x j y hx hy => ?_⟩
      obtain ⟨v, h11, h12⟩ := h10 i x j y hx hy
      exact ⟨v, h11, hm _ _ h12⟩
    · exact .inr ⟨ho.trans h6, h7, h8, by rw [hq]; exact hm _ _ h9⟩
  | froz t xs => exact ⟨ho.trans h.1, by rw [hq]; exact hm _ _ h.2⟩
  | map kt et kv =>
    obtain ⟨r, es, clock, h1, h2, h3, h4⟩ := h
    exact ⟨r, es, clock, ho.trans h1, hq.trans h2, h3, h4⟩
  | dead => simp [B.closed] at hc
end
end Go.Eng

namespace Go.Eng
open Go

def kapC (κ : Kap) (ks : List (Key × Nat)) : Kap := fun k => match k with
  | .ext n => (match ks[n]? with | some p => (κ p.1).map fun e => ⟨0, e.q, e.ob⟩ | none => none)
  | _ => none
def mC (M : Nat → Prop) (κ : Kap) (ks : List (Key × Nat)) : Nat → Prop := fun b => M b ∨ ∃ k e, κ k = some e ∧ e.ob = some b ∧ k ∉ ks.map (·.1)

theorem kapC_some {κ : Kap} {ks : List (Key × Nat)} {k : Key} {e : Ent} (h : kapC κ ks k = some e) : ∃ n q g e0, k = .ext n ∧ ks[n]? = some (q, g) ∧ κ q = some e0 ∧ e = ⟨0, e0.q, e0.ob⟩ := by
  cases k with
  | ext n =>
    simp only [kapC] at h
    cases hk : ks[n]? with
    | none => simp [hk] at h
    | some p =>
      simp only [hk] at h
      cases hq : κ p.1 with
      | none => simp [hq] at h
      | some e0 =>
        simp [hq] at h
        exact ⟨n, p.1, p.2, e0, rfl, hk, hq, h.symm⟩
  | _ => simp [kapC] at h
theorem kapC_at {κ : Kap} {ks : List (Key × Nat)} {n g : Nat} {q : Key} {e : Ent} (h : ks[n]? = some (q, g)) (hq : κ q = some e) : kapC κ ks (.ext n) = some ⟨0, e.q, e.ob⟩ := by
  simp [kapC, h, hq]
theorem key_mem {ks : List (Key × Nat)} {n g : Nat} {q : Key} (h : ks[n]? = some (q, g)) : q ∈ ks.map (·.1) := List.mem_map.2 ⟨_, List.mem_of_getElem? h, rfl⟩
theorem key_inj {ks : List (Key × Nat)} (hn : (ks.map (·.1)).Nodup) {n n' g g' : Nat} {q : Key} (h : ks[n]? = some (q, g)) (h' : ks[n']? = some (q, g')) : n = n' := by
  have h1 : (ks.map (·.1))[n]? = some q := by rw [List.getElem?_map, h]; rfl
  have h2 : (ks.map (·.1))[n']? = some q := by rw [List.getElem?_map, h']; rfl
  have l1 := (List.getElem?_eq_some_iff.1 h1).1
  exact (List.getElem?_inj l1 hn).1 (h1.trans h2.symm)
theorem keyIx_at {ks : List (Key × Nat)} (hn : (ks.map (·.1)).Nodup) {n g : Nat} {q : Key} (h : ks[n]? = some (q, g)) : keyIx ks q 0 = some (n, g) := by
  cases hk : keyIx ks q 0 with
  | none => exact (keyIx_none hk _ (List.mem_of_getElem? h) rfl).elim
  | some p =>
    obtain ⟨n', g'⟩ := p
    obtain ⟨i, h1, h2⟩ := keyIx_get hk
    have := key_inj hn h h2
    subst this
    rw [h] at h2
    cases h2
    rw [h1, Nat.zero_add]

section
variable {P : Program} {τ : Tab} {M : Nat → Prop} {κ : Kap} {h : Heap} {w : World} {ks : List (Key × Nat)}

theorem ok_lent {b : Nat} (_hcov : ∀ (m : Nat) (q : Key) (g : Nat), ks[m]? = some (q, g) → (κ q).isSome = true) : okB (mC M κ ks) (kapC κ ks) b ↔ okB M κ b := by
  constructor
  · rintro ⟨h1, h2⟩
    refine ⟨fun hm => h1 (.inl hm), fun k e hk hb => ?_⟩
    by_cases hks : k ∈ ks.map (·.1)
    · obtain ⟨p, hp, rfl⟩ := List.mem_map.1 hks
      obtain ⟨n, hn⟩ := List.getElem?_of_mem hp
      exact h2 (.ext n) _ (kapC_at (g := p.2) (q := p.1) hn hk) hb
    · exact h1 (.inr ⟨k, e, hk, hb, hks⟩)
  · rintro ⟨h1, h2⟩
    refine ⟨?_, fun k e hk hb => ?_⟩
    · rintro (hm | ⟨k, e, hk, hb, _⟩)
      · exact h1 hm
      · exact h2 k e hk hb
    · obtain ⟨n, q, g, e0, _, _, h3, rfl⟩ := kapC_some hk
      exact h2 q e0 h3 hb

theorem lend_hrel (H : HRel τ M κ h w) (hn : (ks.map (·.1)).Nodup) {ch : Heap}
    (h1 : ∀ k g b, hook ch k = some (g, b) → ∃ (m : Nat) (q : Key) (g0 : Nat), k = .ext (0 + m) ∧ ks[m]? = some (q, g0) ∧ g = 0 ∧ hook h q = some (g0, b) ∧ b.closed = true)
    (h2 : ∀ (m : Nat) (q : Key) (g0 : Nat), ks[m]? = some (q, g0) → ∃ b, hook ch (.ext (0 + m)) = some (0, b) ∧ hook h q = some (g0, b) ∧ b.closed = true) :
    HRel τ (mC M κ ks) (kapC κ ks) ch w ∧ (∀ (m : Nat) (q : Key) (g : Nat), ks[m]? = some (q, g) → ∃ e, κ q = some e ∧ e.g = g) := by
  have hcov : ∀ (m : Nat) (q : Key) (g : Nat), ks[m]? = some (q, g) → ∃ e, κ q = some e ∧ e.g = g := fun m q g hm => by
    obtain ⟨b, _, h3, _⟩ := h2 m q g hm
    obtain ⟨e, h4, h5, _⟩ := H.hp _ _ _ h3
    exact ⟨e, h4, h5⟩
  have hok : ∀ b, okB (mC M κ ks) (kapC κ ks) b ↔ okB M κ b := fun b => ok_lent fun m q g hm => by obtain ⟨e, he, _⟩ := hcov m q g hm; simp [he]
  refine ⟨⟨fun k g B hk => ?_, fun k e hk => ?_, fun k k' e e' b hk hk' hb hb' => ?_, fun k e b hk hb => ?_, fun b hm => ?_⟩, hcov⟩
  · obtain ⟨m, q, g0, rfl, hm, rfl, hq, hc⟩ := h1 k g B hk
    obtain ⟨e, h4, h5, h6⟩ := H.hp _ _ _ hq
    rw [Nat.zero_add]
    exact ⟨_, kapC_at hm h4, rfl, RB.closed (e := e) hc (fun b _ hb => (hok b).2 hb) rfl rfl h6⟩
  · obtain ⟨n, q, g, e0, rfl, hq, _, _⟩ := kapC_some hk
    obtain ⟨b, h3, _⟩ := h2 n q g hq
    rw [Nat.zero_add] at h3
    simp [h3]
  · obtain ⟨n, q, g, e0, rfl, hq, h3, rfl⟩ := kapC_some hk
    obtain ⟨n', q', g', e0', rfl, hq', h3', rfl⟩ := kapC_some hk'
    have := H.inj q q' e0 e0' b h3 h3' hb hb'
    subst this
    rw [key_inj hn hq hq']
  · obtain ⟨n, q, g, e0, rfl, hq, h3, rfl⟩ := kapC_some hk
    have hr := H.rng q e0 b h3 hb
    refine ⟨hr.1, ?_⟩
    rintro (hm | ⟨k2, e2, hk2, hb2, hn2⟩)
    · exact hr.2 hm
    · have := H.inj q k2 e0 e2 b h3 hk2 hb hb2
      subst this
      exact hn2 (key_mem hq)
  · rcases hm with hm | ⟨k, e, hk, hb, _⟩
    · exact H.mlt b hm
    · exact (H.rng k e b hk hb).1

theorem RV1.data {ok ok' : Nat → Prop} {κ2 : Kap} {v : V} {r : Value} (hd : v.data = true) (hm : ∀ c v, RC τ w ok c v → RC τ w ok' c v) (h : RV1 τ w ok κ v r) : RV1 τ w ok' κ2 v r := by
  cases v with
  | one a =>
    cases a with
    | c c => exact hm _ _ h
    | nilp => exact h
    | _ => simp [V.data] at hd
  | agg t x ov =>
    cases ov with
    | nil =>
      obtain ⟨h0, cs, h1, h2⟩ := h
      exact ⟨h0, cs, h1, h2.closed rfl hm⟩
    | cons _ _ => simp [V.data] at hd
  | tup l => exact h.elim

theorem LV.rel {v : V} {r : Value} (hcov : ∀ (m : Nat) (q : Key) (g : Nat), ks[m]? = some (q, g) → ∃ e, κ q = some e ∧ e.g = g) (h : LV τ w (okB M κ) κ ks v r) : RV1 τ w (okB (mC M κ ks) (kapC κ ks)) (kapC κ ks) v r := by
  have hok : ∀ b, okB (mC M κ ks) (kapC κ ks) b ↔ okB M κ b := fun b => ok_lent fun m q g hm => by obtain ⟨e, he, _⟩ := hcov m q g hm; simp [he]
  have ment : ∀ {n q g S p}, ks[n]? = some (q, g) → Ment κ q g S p → Ment (kapC κ ks) (.ext n) 0 S p := fun {n q g S p} hk hm => by
    obtain ⟨e, h1, h2⟩ := hcov _ _ _ hk
    obtain ⟨hS, e', h3, h4, h5⟩ := hm
    rw [h1] at h3; cases h3
    exact ⟨hS, _, kapC_at hk h1, Nat.le_refl _, fun _ => h5 h2.symm⟩
  cases h with
  | data v r h1 h2 => exact RV1.data h1 (fun c v hc => hc.mono (Nat.le_refl _) fun b _ hb => ⟨(hok b).2 hb, rfl⟩) h2
  | ptr n q g off r h1 h2 =>
    simp only [RA] at h2
    simp only [RV1, RA]
    exact ment h1 h2
  | own n q g e r h1 h2 =>
    simp only [RA] at h2
    simp only [RV1, RA]
    exact ment h1 h2
  | fn f cs caps r h1 h2 h3 =>
    obtain ⟨us, h4, h5, h6⟩ := h1
    refine ⟨us, h4, h2.trans h5, fun i p u hp hu => ?_⟩
    obtain ⟨n, q, g, rfl, h7, h8⟩ := h3 i p hp
    exact ment h7 (h6 i (q, g) u h8 hu)

/-! ### Back -/
theorem backH_ok {d : Nat} {h0 : Heap} : ∀ {h' : Heap} {cont : Ups → Option R} {x : R}, backH d ks h0 h' cont = some x →
    ∃ up, cont up = some x ∧ (∀ k g B, (k, (g, B)) ∈ up → B.closed = true ∧ ((∃ n gc g0, (Key.ext n, (gc, B)) ∈ h' ∧ ks[n]? = some (k, g0) ∧ g = g0 + gc) ∨ ∃ j gc, (Key.new j, (gc, B)) ∈ h' ∧ k = .loc d j ∧ keyIx ks k 0 = none ∧ g = nextG h0 (.loc d j))) ∧
      (∀ n gc B, (Key.ext n, (gc, B)) ∈ h' → ∃ q g0, ks[n]? = some (q, g0) ∧ (q, (g0 + gc, B)) ∈ up) ∧ (∀ j gc B, (Key.new j, (gc, B)) ∈ h' → (Key.loc d j, (nextG h0 (.loc d j), B)) ∈ up ∧ keyIx ks (.loc d j) 0 = none) ∧
      ∀ kk x, (kk, x) ∈ h' → (∃ n, kk = .ext n) ∨ ∃ j, kk = .new j
  | [], cont, x, hh => ⟨[], hh, fun _ _ _ h => (by cases h), fun _ _ _ h => (by cases h), fun _ _ _ h => (by cases h), fun _ _ h => (by cases h)⟩
  | (kk, (gc, b)) :: r, cont, x, hh => by
    cases kk with
    | ext n =>
      simp only [backH] at hh
      split at hh
      · rename_i q g hk
        split at hh
        · rename_i hc
          obtain ⟨up, h1, h2, h3, h4, h5⟩ := backH_ok hh
          refine ⟨_, h1, fun k g2 B hm => ?_, fun n2 gc2 B hm => ?_, fun j gc2 B hm => ?_, fun kk2 x2 hm => ?_⟩
          · rcases List.mem_cons.1 hm with hm | hm
            · cases hm; exact ⟨hc, .inl ⟨n, gc, g, List.mem_cons_self .., hk, rfl⟩⟩
            · obtain ⟨h6, h7⟩ := h2 k g2 B hm
              refine ⟨h6, ?_⟩
              rcases h7 with ⟨n3, gc3, g3, h8, h9⟩ | ⟨j, gc3, h8, h9⟩
              · exact .inl ⟨n3, gc3, g3, List.mem_cons_of_mem _ h8, h9⟩
              · exact .inr ⟨j, gc3, List.mem_cons_of_mem _ h8, h9⟩
          · rcases List.mem_cons.1 hm with hm | hm
            · cases hm; exact ⟨q, g, hk, List.mem_cons_self ..⟩
            · obtain ⟨q2, g2, h6, h7⟩ := h3 n2 gc2 B hm
              exact ⟨q2, g2, h6, List.mem_cons_of_mem _ h7⟩
          · rcases List.mem_cons.1 hm with hm | hm
            · cases hm
            · obtain ⟨h6, h7⟩ := h4 j gc2 B hm
              exact ⟨List.mem_cons_of_mem _ h6, h7⟩
          · rcases List.mem_cons.1 hm with hm | hm
            · cases hm; exact .inl ⟨n, rfl⟩
            · exact h5 kk2 x2 hm
        · cases hh
      · cases hh
    | new j =>
      simp only [backH] at hh
      split at hh
      · rename_i hc
        rw [Bool.and_eq_true] at hc
        have hnone : keyIx ks (.loc d j) 0 = none := by simpa using hc.2
        obtain ⟨up, h1, h2, h3, h4, h5⟩ := backH_ok hh
        refine ⟨_, h1, fun k g2 B hm => ?_, fun n2 gc2 B hm => ?_, fun j2 gc2 B hm => ?_, fun kk2 x2 hm => ?_⟩
        · rcases List.mem_cons.1 hm with hm | hm
          · cases hm; exact ⟨hc.1, .inr ⟨j, gc, List.mem_cons_self .., rfl, hnone, rfl⟩⟩
          · obtain ⟨h6, h7⟩ := h2 k g2 B hm
            refine ⟨h6, ?_⟩
            rcases h7 with ⟨n3, gc3, g3, h8, h9⟩ | ⟨j, gc3, h8, h9⟩
            · exact .inl ⟨n3, gc3, g3, List.mem_cons_of_mem _ h8, h9⟩
            · exact .inr ⟨j, gc3, List.mem_cons_of_mem _ h8, h9⟩
        · rcases List.mem_cons.1 hm with hm | hm
          · cases hm
          · obtain ⟨q2, g2, h6, h7⟩ := h3 n2 gc2 B hm
            exact ⟨q2, g2, h6, List.mem_cons_of_mem _ h7⟩
        · rcases List.mem_cons.1 hm with hm | hm
          · cases hm; exact ⟨List.mem_cons_self .., hnone⟩
          · obtain ⟨h6, h7⟩ := h4 j2 gc2 B hm
            exact ⟨List.mem_cons_of_mem _ h6, h7⟩
        · rcases List.mem_cons.1 hm with hm | hm
          · cases hm; exact .inr ⟨j, rfl⟩
          · exact h5 kk2 x2 hm
      · cases hh
    | loc s j => simp [backH] at hh

/-- The keys after a call. -/
def kapB (κ κc : Kap) (ks : List (Key × Nat)) (d : Nat) (h0 : Heap) : Kap := fun k => match keyIx ks k 0 with
  | some p => (κc (.ext p.1)).map fun e => ⟨p.2 + e.g, e.q, e.ob⟩
  | none => match k with
    | .loc s j => (match Nat.beq s d, κc (.new j) with
      | true, some e => some ⟨nextG h0 (.loc d j), e.q, e.ob⟩
      | _, _ => κ k)
    | _ => κ k

theorem kapB_lent {κc : Kap} {d : Nat} {h0 : Heap} (hn : (ks.map (·.1)).Nodup) {n g : Nat} {q : Key} (hk : ks[n]? = some (q, g)) {e : Ent} (he : κc (.ext n) = some e) : kapB κ κc ks d h0 q = some ⟨g + e.g, e.q, e.ob⟩ := by
  simp [kapB, keyIx_at hn hk, he]
theorem kapB_new {κc : Kap} {d : Nat} {h0 : Heap} {j : Nat} (hk : keyIx ks (.loc d j) 0 = none) {e : Ent} (he : κc (.new j) = some e) : kapB κ κc ks d h0 (.loc d j) = some ⟨nextG h0 (.loc d j), e.q, e.ob⟩ := by
  simp [kapB, hk, he]
/-- What an entry of the keys after a call comes from. -/
theorem kapB_some {κc : Kap} {d : Nat} {h0 : Heap} {k : Key} {e : Ent} (h : kapB κ κc ks d h0 k = some e) :
    (∃ n g ec, ks[n]? = some (k, g) ∧ κc (.ext n) = some ec ∧ e = ⟨g + ec.g, ec.q, ec.ob⟩) ∨
    (∃ j ec, k = .loc d j ∧ keyIx ks k 0 = none ∧ κc (.new j) = some ec ∧ e = ⟨nextG h0 (.loc d j), ec.q, ec.ob⟩) ∨
    (keyIx ks k 0 = none ∧ (∀ j, k = .loc d j → κc (.new j) = none) ∧ κ k = some e) := by
  unfold kapB at h
  split at h
  · rename_i p hk
    obtain ⟨i, h1, h2⟩ := keyIx_get (n := p.1) (g := p.2) hk
    rw [Nat.zero_add] at h1
    cases hc : κc (.ext p.1) with
    | none => simp [hc] at h
    | some ec =>
      simp [hc] at h
      exact .inl ⟨p.1, p.2, ec, by rw [h1]; exact h2, hc, h.symm⟩
  · rename_i hk
    split at h
    · rename_i s j
      split at h
      · rename_i ec hb hc
        obtain rfl := beq_eq hb
        cases h
        exact .inr (.inl ⟨j, ec, rfl, hk, hc, rfl⟩)
      · rename_i hno
        refine .inr (.inr ⟨hk, fun j2 hj => ?_, h⟩)
        cases hj
        cases hc : κc (.new j) with
        | none => rfl
        | some ec => exact (hno ec (by simp) hc).elim
    · rename_i hno
      exact .inr (.inr ⟨hk, fun j hj => (hno _ _ hj).elim, h⟩)

/-- What a call leaves behind the keys. -/
theorem back_hrel (H : HRel τ M κ h w) (hn : (ks.map (·.1)).Nodup) (hcov : ∀ (m : Nat) (q : Key) (g : Nat), ks[m]? = some (q, g) → ∃ e, κ q = some e ∧ e.g = g) {κc : Kap} {h' : Heap} {w' : World} {d : Nat}
    (Hc : HRel τ (mC M κ ks) κc h' w') (Xc : Ext (mC M κ ks) (kapC κ ks) w κc w') {up : Ups}
    (u1 : ∀ k g B, (k, (g, B)) ∈ up → B.closed = true ∧ ((∃ n gc g0, (Key.ext n, (gc, B)) ∈ h' ∧ ks[n]? = some (k, g0) ∧ g = g0 + gc) ∨ ∃ j gc, (Key.new j, (gc, B)) ∈ h' ∧ k = .loc d j ∧ keyIx ks k 0 = none ∧ g = nextG h (.loc d j)))
    (u2 : ∀ n gc B, (Key.ext n, (gc, B)) ∈ h' → ∃ q g0, ks[n]? = some (q, g0) ∧ (q, (g0 + gc, B)) ∈ up) (u3 : ∀ j gc B, (Key.new j, (gc, B)) ∈ h' → (Key.loc d j, (nextG h (.loc d j), B)) ∈ up ∧ keyIx ks (.loc d j) 0 = none)
    (_u4 : ∀ kk x, (kk, x) ∈ h' → (∃ n, kk = .ext n) ∨ ∃ j, kk = .new j) (hd : (h'.map (·.1)).Nodup) (hu : (up.map (·.1)).Nodup) :
    HRel τ M (kapB κ κc ks d h) (ups h up) w' ∧ Ext M κ w (kapB κ κc ks d h) w' ∧ ∀ b, okB (mC M κ ks) κc b → okB M (kapB κ κc ks d h) b := by
  -- the lent are all there
  have lent : ∀ (n : Nat) (q : Key) (g : Nat), ks[n]? = some (q, g) → ∃ e ec B, κ q = some e ∧ e.g = g ∧ κc (.ext n) = some ec ∧ (ec.g = 0 → ec.q = e.q) ∧ hook h' (.ext n) = some (ec.g, B) := fun n q g hk => by
    obtain ⟨e, h1, h2⟩ := hcov n q g hk
    obtain ⟨ec, h3, h4, h5⟩ := Xc.mono _ _ (kapC_at hk h1)
    obtain ⟨x, hx⟩ := Option.isSome_iff_exists.1 (Hc.dom _ _ h3)
    obtain ⟨gg, B⟩ := x
    obtain ⟨ec', h6, h7, _⟩ := Hc.hp _ _ _ hx
    rw [h3] at h6; cases h6
    exact ⟨e, ec, B, h1, h2, h3, fun h0 => h5 h0.symm, by rw [h7]; exact hx⟩
  have hsz := Xc.size
  -- a callee's block is nobody else's
  have apart : ∀ kk ec b, κc kk = some ec → ec.ob = some b → ∀ k e, κ k = some e → e.ob = some b → k ∈ ks.map (·.1) := fun kk ec b hkk hb k e hk hb' => by
    by_cases hin : k ∈ ks.map (·.1)
    · exact hin
    · exact ((Hc.rng kk ec b hkk hb).2 (.inr ⟨k, e, hk, hb', hin⟩)).elim
  have notin : ∀ k, keyIx ks k 0 = none → k ∉ ks.map (·.1) := fun k hk hm => by
    obtain ⟨p, hp, rfl⟩ := List.mem_map.1 hm
    exact keyIx_none hk p hp rfl
  have hok : ∀ b, okB (mC M κ ks) κc b → okB M (kapB κ κc ks d h) b := fun b hb => by
    refine ⟨fun hm => hb.1 (.inl hm), fun k e hk he => ?_⟩
    rcases kapB_some hk with ⟨n, g, ec, h1, h2, rfl⟩ | ⟨j, ec, rfl, h1, h2, rfl⟩ | ⟨h1, h2, h3⟩
    · exact hb.2 _ _ h2 he
    · exact hb.2 _ _ h2 he
    · exact hb.1 (.inr ⟨k, e, h3, he, notin k h1⟩)
  have hext : Ext M κ w (kapB κ κc ks d h) w' := by
    refine ⟨Xc.os, Xc.tape, Xc.output, hsz, fun b hb hno => Xc.out b hb fun k e hk he => ?_, fun k e hk => ?_, fun k e b hk he => ?_⟩
    · obtain ⟨n, q, g, e0, rfl, h1, h2, rfl⟩ := kapC_some hk
      exact hno q e0 h2 he
    · cases hkx : keyIx ks k 0 with
      | some p =>
        obtain ⟨i, h1, h2⟩ := keyIx_get (n := p.1) (g := p.2) hkx
        rw [Nat.zero_add] at h1
        subst h1
        obtain ⟨e0, ec, B, h3, h4, h5, h6, _⟩ := lent _ _ _ h2
        rw [hk] at h3; cases h3
        refine ⟨_, kapB_lent hn h2 h5, (show e.g ≤ p.2 + ec.g from by omega), fun he => h6 ?_⟩
        have he : e.g = p.2 + ec.g := he
        omega
      | none =>
        by_cases hj : ∃ j ec, k = .loc d j ∧ κc (.new j) = some ec
        · obtain ⟨j, ec, rfl, hc⟩ := hj
          have := nextG_lt H hk
          exact ⟨_, kapB_new hkx hc, Nat.le_of_lt this, fun he => by simp only at he; omega⟩
        · have hsame : kapB κ κc ks d h k = some e := by
            unfold kapB
            rw [hkx]
            simp only
            split
            · rename_i s j
              split
              · rename_i ec hb hc
                obtain rfl := beq_eq hb
                exact (hj ⟨j, ec, rfl, hc⟩).elim
              · exact hk
            · exact hk
          exact ⟨e, hsame, Nat.le_refl _, fun _ => rfl⟩
    · have fromC : ∀ kk ec, κc kk = some ec → ec.ob = some b → w.heap.size ≤ b ∨ ∃ k0 e0, κ k0 = some e0 ∧ e0.ob = some b := fun kk ec h1 h2 => by
        rcases Xc.rng kk ec b h1 h2 with h3 | ⟨k0, e0, h3, h4⟩
        · exact .inl h3
        · obtain ⟨n, q, g, e1, rfl, h5, h6, rfl⟩ := kapC_some h3
          exact .inr ⟨q, e1, h6, h4⟩
      rcases kapB_some hk with ⟨n, g, ec, h1, h2, rfl⟩ | ⟨j, ec, rfl, h1, h2, rfl⟩ | ⟨h1, h2, h3⟩
      · exact fromC _ _ h2 he
      · exact fromC _ _ h2 he
      · exact .inr ⟨k, e, h3, he⟩
  have fromH : ∀ kk gc B, (kk, (gc, B)) ∈ h' → ∃ ec, κc kk = some ec ∧ ec.g = gc ∧ RB τ w' (okB (mC M κ ks) κc) κc B ec := fun kk gc B hm => Hc.hp _ _ _ (mem_hook hd hm)
  refine ⟨⟨fun k g B hk => ?_, fun k e hk => ?_, fun k k' e e' b hk hk' hb hb' => ?_, fun k e b hk hb => ?_, fun b hm => Nat.lt_of_lt_of_le (H.mlt b hm) hsz⟩, hext, hok⟩
  · by_cases hin : k ∈ up.map (·.1)
    · obtain ⟨p, hp, rfl⟩ := List.mem_map.1 hin
      obtain ⟨k, g1, B1⟩ := p
      simp only at hk hp hin ⊢
      rw [(ups_hook hu).1 _ hp] at hk
      cases hk
      obtain ⟨hc, h1⟩ := u1 k g B hp
      rcases h1 with ⟨n, gc, g0, h2, h3, rfl⟩ | ⟨j, gc, h2, rfl, h3, rfl⟩
      · obtain ⟨ec, h4, h5, h6⟩ := fromH _ _ _ h2
        exact ⟨_, kapB_lent hn h3 h4, by rw [← h5], RB.closed (e := ec) hc (fun b _ hb => hok b hb) rfl rfl h6⟩
      · obtain ⟨ec, h4, h5, h6⟩ := fromH _ _ _ h2
        exact ⟨_, kapB_new h3 h4, rfl, RB.closed (e := ec) hc (fun b _ hb => hok b hb) rfl rfl h6⟩
    · rw [(ups_hook hu).2 hin] at hk
      obtain ⟨e, h1, h2, h3⟩ := H.hp k g B hk
      have hkx : keyIx ks k 0 = none := by
        cases hkx : keyIx ks k 0 with
        | none => rfl
        | some p =>
          obtain ⟨i, h4, h5⟩ := keyIx_get (n := p.1) (g := p.2) hkx
          rw [Nat.zero_add] at h4
          subst h4
          obtain ⟨e0, ec, B2, _, _, _, _, h6⟩ := lent _ _ _ h5
          obtain ⟨q, g0, h7, h8⟩ := u2 _ _ _ (hook_mem h6)
          rw [h5] at h7
          cases h7
          exact (hin (List.mem_map.2 ⟨_, h8, rfl⟩)).elim
      have hnew : ∀ j, k = .loc d j → κc (.new j) = none := fun j hj => by
        cases hc : κc (.new j) with
        | none => rfl
        | some ec =>
          obtain ⟨x, hx⟩ := Option.isSome_iff_exists.1 (Hc.dom _ _ hc)
          obtain ⟨h4, _⟩ := u3 j x.1 x.2 (hook_mem hx)
          exact (hin (List.mem_map.2 ⟨_, h4, hj.symm⟩)).elim
      have hsame : kapB κ κc ks d h k = some e := by
        unfold kapB
        rw [hkx]
        simp only
        split
        · rename_i s j
          split
          · rename_i ec hb hc
            obtain rfl := beq_eq hb
            rw [hnew j rfl] at hc
            cases hc
          · exact h1
        · exact h1
      refine ⟨e, hsame, h2, h3.ext hext fun b hb => Xc.out b (H.rng k e b h1 hb).1 fun k2 e2 hk2 hb2 => ?_⟩
      obtain ⟨n, q, g2, e3, rfl, h4, h5, rfl⟩ := kapC_some hk2
      have := H.inj k q e e3 b h1 h5 hb hb2
      subst this
      exact notin _ hkx (key_mem h4)
  · rcases kapB_some hk with ⟨n, g, ec, h1, h2, rfl⟩ | ⟨j, ec, rfl, h1, h2, rfl⟩ | ⟨h1, h2, h3⟩
    · obtain ⟨e0, ec', B, _, _, h4, _, h5⟩ := lent _ _ _ h1
      obtain ⟨q, g0, h6, h7⟩ := u2 _ _ _ (hook_mem h5)
      rw [h1] at h6
      cases h6
      rw [(ups_hook hu).1 _ h7]; rfl
    · obtain ⟨x, hx⟩ := Option.isSome_iff_exists.1 (Hc.dom _ _ h2)
      obtain ⟨h4, _⟩ := u3 j x.1 x.2 (hook_mem hx)
      rw [(ups_hook hu).1 _ h4]; rfl
    · by_cases hin : k ∈ up.map (·.1)
      · obtain ⟨p, hp, rfl⟩ := List.mem_map.1 hin
        rw [(ups_hook hu).1 p.2 hp]; rfl
      · rw [(ups_hook hu).2 hin]
        exact H.dom k e h3
  · rcases kapB_some hk with ⟨n, g, ec, h1, h2, rfl⟩ | ⟨j, ec, rfl, h1, h2, rfl⟩ | ⟨h1, h2, h3⟩ <;> rcases kapB_some hk' with ⟨n', g', ec', h1', h2', rfl⟩ | ⟨j', ec', rfl, h1', h2', rfl⟩ | ⟨h1', h2', h3'⟩
    · have := Hc.inj _ _ _ _ b h2 h2' hb hb'
      cases this
      rw [h1] at h1'
      cases h1'; rfl
    · cases Hc.inj _ _ _ _ b h2 h2' hb hb'
    · exact (notin _ h1' (apart _ _ b h2 hb _ _ h3' hb')).elim
    · cases Hc.inj _ _ _ _ b h2 h2' hb hb'
    · cases Hc.inj _ _ _ _ b h2 h2' hb hb'; rfl
    · exact (notin _ h1' (apart _ _ b h2 hb _ _ h3' hb')).elim
    · exact (notin _ h1 (apart _ _ b h2' hb' _ _ h3 hb)).elim
    · exact (notin _ h1 (apart _ _ b h2' hb' _ _ h3 hb)).elim
    · exact H.inj k k' e e' b h3 h3' hb hb'
  · have fromC : ∀ kk ec, κc kk = some ec → ec.ob = some b → b < w'.heap.size ∧ ¬ M b := fun kk ec h1 h2 => by
      have := Hc.rng kk ec b h1 h2
      exact ⟨this.1, fun hm => this.2 (.inl hm)⟩
    rcases kapB_some hk with ⟨n, g, ec, h1, h2, rfl⟩ | ⟨j, ec, rfl, h1, h2, rfl⟩ | ⟨h1, h2, h3⟩
    · exact fromC _ _ h2 hb
    · exact fromC _ _ h2 hb
    · have := H.rng k e b h3 hb
      exact ⟨Nat.lt_of_lt_of_le this.1 hsz, this.2⟩

theorem backA_ok {d : Nat} {h0 h' : Heap} {a : A} {cont : A → Option R} {x : R} (hh : backA d ks h0 h' a cont = some x) :
    ∃ a', cont a' = some x ∧ ∀ (κ : Kap) (w' : World) ok ok' κc u, (ks.map (·.1)).Nodup → (∀ c v, RC τ w' ok c v → RC τ w' ok' c v) →
      (∀ k g B, hook h' k = some (g, B) → ∃ e, κc k = some e ∧ e.g = g) → (∀ (j : Nat) x, hook h' (.new j) = some x → keyIx ks (.loc d j) 0 = none) →
      RA τ w' ok κc a u → RA τ w' ok' (kapB κ κc ks d h0) a' u := by
  have lent : ∀ {n g gc : Nat} {q : Key} {S : Prop} {p : Value → Prop} {κ κc : Kap}, (ks.map (·.1)).Nodup → ks[n]? = some (q, g) → Ment κc (.ext n) gc S p → Ment (kapB κ κc ks d h0) q (g + gc) S p := fun {n g gc q S p κ κc} hn hk hm => by
    obtain ⟨hS, e, h1, h2, h3⟩ := hm
    refine ⟨hS, _, kapB_lent hn hk h1, (show g + gc ≤ g + e.g from by omega), fun he => h3 ?_⟩
    have he : g + gc = g + e.g := he
    omega
  have new : ∀ {j g g' : Nat} {b : B} {S : Prop} {p : Value → Prop} {κ κc : Kap}, hook h' (.new j) = some (g', b) → Nat.beq g g' = true → (∀ k g B, hook h' k = some (g, B) → ∃ e, κc k = some e ∧ e.g = g) →
      (∀ (j : Nat) x, hook h' (.new j) = some x → keyIx ks (.loc d j) 0 = none) → Ment κc (.new j) g S p → Ment (kapB κ κc ks d h0) (.loc d j) (nextG h0 (.loc d j)) S p := fun {j g g' b S p κ κc} hk hg hH hnew hm => by
    obtain rfl := beq_eq hg
    obtain ⟨hS, e, h1, h2, h3⟩ := hm
    obtain ⟨e', h4, h5⟩ := hH _ _ _ hk
    rw [h1] at h4; cases h4
    exact ⟨hS, _, kapB_new (hnew j _ hk) h1, Nat.le_refl _, fun _ => h3 h5.symm⟩
  unfold backA at hh
  split at hh
  · exact ⟨_, hh, fun κ w' ok ok' κc u _ hm _ _ h => hm _ _ h⟩
  · exact ⟨_, hh, fun κ w' ok ok' κc u _ hm _ _ h => h⟩
  · rename_i n gc off
    split at hh
    · rename_i q g hk
      refine ⟨_, hh, fun κ w' ok ok' κc u hn _ _ _ h => ?_⟩
      simp only [RA] at h ⊢
      exact lent hn hk h
    · cases hh
  · rename_i j g off
    split at hh
    · rename_i g' b hk
      split at hh
      · rename_i hg
        refine ⟨_, hh, fun κ w' ok ok' κc u hn _ hH hnew h => ?_⟩
        simp only [RA] at h ⊢
        exact new hk hg hH hnew h
      · cases hh
    · cases hh
  · rename_i n gc e0
    split at hh
    · rename_i q g hk
      refine ⟨_, hh, fun κ w' ok ok' κc u hn _ _ _ h => ?_⟩
      simp only [RA] at h ⊢
      exact lent hn hk h
    · cases hh
  · rename_i j g e0
    split at hh
    · rename_i g' b hk
      split at hh
      · rename_i hg
        refine ⟨_, hh, fun κ w' ok ok' κc u hn _ hH hnew h => ?_⟩
        simp only [RA] at h ⊢
        exact new hk hg hH hnew h
      · cases hh
    · cases hh
  · cases hh

theorem backL_ok {d : Nat} {h0 h' : Heap} : ∀ {l : List V} {cont : List V → Option R} {x : R}, backL d ks h0 h' l cont = some x →
    ∃ l', cont l' = some x ∧ ∀ (κ : Kap) (w' : World) ok ok' κc us, (ks.map (·.1)).Nodup → (∀ c v, RC τ w' ok c v → RC τ w' ok' c v) →
      (∀ k g B, hook h' k = some (g, B) → ∃ e, κc k = some e ∧ e.g = g) → (∀ (j : Nat) x, hook h' (.new j) = some x → keyIx ks (.loc d j) 0 = none) →
      All2 (RV1 τ w' ok κc) l us → All2 (RV1 τ w' ok' (kapB κ κc ks d h0)) l' us
  | [], cont, x, hh => ⟨[], hh, fun κ w' ok ok' κc us _ _ _ _ h => by
      cases us with
      | nil => trivial
      | cons _ _ => exact h.elim⟩
  | .one a :: r, cont, x, hh => by
    simp only [backL] at hh
    obtain ⟨a', h1, h2⟩ := backA_ok (τ := τ) hh
    obtain ⟨l', h3, h4⟩ := backL_ok h1
    refine ⟨_, h3, fun κ w' ok ok' κc us hn hm hH hnew h => ?_⟩
    cases us with
    | nil => exact h.elim
    | cons u us => exact ⟨h2 κ w' ok ok' κc u hn hm hH hnew h.1, h4 κ w' ok ok' κc us hn hm hH hnew h.2⟩
  | .agg t y [] :: r, cont, x, hh => by
    simp only [backL] at hh
    obtain ⟨l', h3, h4⟩ := backL_ok hh
    refine ⟨_, h3, fun κ w' ok ok' κc us hn hm hH hnew h => ?_⟩
    cases us with
    | nil => exact h.elim
    | cons u us => exact ⟨RV1.data (v := .agg t y []) rfl hm h.1, h4 κ w' ok ok' κc us hn hm hH hnew h.2⟩
  | .agg t y (_ :: _) :: r, cont, x, hh => by simp [backL] at hh
  | .tup _ :: r, cont, x, hh => by simp [backL] at hh

theorem backV_ok {d : Nat} {h0 h' : Heap} {v : V} {cont : V → Option R} {x : R} (hh : backV d ks h0 h' v cont = some x) :
    ∃ v', cont v' = some x ∧ ∀ (κ : Kap) (w' : World) ok ok' κc u, (ks.map (·.1)).Nodup → (∀ c v, RC τ w' ok c v → RC τ w' ok' c v) →
      (∀ k g B, hook h' k = some (g, B) → ∃ e, κc k = some e ∧ e.g = g) → (∀ (j : Nat) x, hook h' (.new j) = some x → keyIx ks (.loc d j) 0 = none) →
      RV τ w' ok κc v u → RV τ w' ok' (kapB κ κc ks d h0) v' u := by
  unfold backV at hh
  split at hh
  · obtain ⟨a', h1, h2⟩ := backA_ok (τ := τ) hh
    exact ⟨_, h1, h2⟩
  · exact ⟨_, hh, fun κ w' ok ok' κc u hn hm hH hnew h => RV1.data (v := .agg _ _ []) rfl hm h⟩
  · obtain ⟨l', h1, h2⟩ := backL_ok (τ := τ) hh
    refine ⟨_, h1, fun κ w' ok ok' κc u hn hm hH hnew h => ?_⟩
    obtain ⟨vs, h3, h4⟩ := h
    exact ⟨vs, h3, h2 κ w' ok ok' κc _ hn hm hH hnew h4⟩
  · cases hh

theorem newKeys_mem {d : Nat} : ∀ {h' : Heap} {j : Nat} {x : Nat × B}, (Key.new j, x) ∈ h' → Key.loc d j ∈ callV.newKeys d h'
  | (kk, y) :: r, j, x, hm => by
    rcases List.mem_cons.1 hm with h | h
    · cases h
      simp [callV.newKeys]
    · have := newKeys_mem (d := d) h
      cases kk <;> simp [callV.newKeys, this]
  | [], _, _, hm => by cases hm

theorem callV_ok (ht : TabOk P τ) {F : Fun} {own : FuncId → Bool} (hF : FSound P τ F) {d : Nat} {f : FuncId} {args : List V} {k : Kt} {x : R} {h : Heap} (hh : callV τ F own h d f args k = some x) :
    ∃ v rk u, k v rk u = some x ∧ (∃ fn, P.funcs[f]? = some fn ∧ (fn.name == "runtime.NumGoroutine") = false ∧ fn.body.isNone = false) ∧ ∀ h2, (∀ k ∈ rk, hook h2 k = hook h k) → ∀ M κ w (rs : List Value), HRel τ M κ h2 w → All2 (RV τ w (okB M κ) κ) args rs →
      Calls P f rs.toArray w fun e w' => ∃ r, e = .returned r ∧ ∃ κ', HRel τ M κ' (ups h2 u) w' ∧ Ext M κ w κ' w' ∧ RV τ w' (okB M κ') κ' v r := by
  unfold callV at hh
  obtain ⟨vs, ks, rk, u, h1, ⟨t, hks⟩, h2⟩ := lendAll_ok ht hh
  obtain ⟨ch, h3, h4, h5⟩ := lentH_ok h1
  obtain ⟨r, h', h6, hfn⟩ := hF f vs ch _ x h3
  obtain ⟨up, h7, u1, u2, u3, u4⟩ := backH_ok h6
  split at h7
  · rename_i hd
    simp only [Bool.and_eq_true] at hd
    have hn := distinct_nodup hd.1
    have hdh := distinct_nodup hd.2.1
    have hdu := distinct_nodup hd.2.2
    obtain ⟨v, h8, h9⟩ := backV_ok (τ := τ) h7
    refine ⟨v, _, _, h8, hfn.1, fun h2' hk M κ w rs H hA => ?_⟩
    have k1 : ∀ k ∈ rk, hook h2' k = hook h k := fun k hk' => hk k (List.mem_append_left _ hk')
    have k2 : ∀ k ∈ ks.map (·.1), hook (ups h2' u) k = hook (ups h u) k := fun k hk' => ups_agree u (hk k (List.mem_append_right _ (List.mem_append_left _ hk')))
    have k3 : ∀ j x, (Key.new j, x) ∈ h' → nextG (ups h2' u) (.loc d j) = nextG (ups h u) (.loc d j) := fun j x hm => nextG_agree (ups_agree u (hk _ (List.mem_append_right _ (List.mem_append_right _ (newKeys_mem hm)))))
    obtain ⟨κ1, H1, x1, r1⟩ := h2 h2' k1 M κ w rs H hA
    obtain ⟨Hl, hcov⟩ := lend_hrel H1 hn (ch := ch)
      (fun k g b hk' => by
        obtain ⟨m, q, g0, a1, a2, a3, a4, a5⟩ := h4 k g b hk'
        exact ⟨m, q, g0, a1, a2, a3, (k2 q (key_mem a2)).trans a4, a5⟩)
      (fun m q g0 hm => by
        obtain ⟨b, a1, a2, a3⟩ := h5 m q g0 hm
        exact ⟨b, a1, (k2 q (key_mem hm)).trans a2, a3⟩)
    refine Calls.mono (hfn.2 _ _ w rs Hl (fun k e hk' => ?_) (r1.imp fun v r hv => LV.rel hcov hv)) fun e w' he => ?_
    · obtain ⟨n, q, g, e0, rfl, _, _, rfl⟩ := kapC_some hk'
      exact ⟨⟨n, rfl⟩, rfl⟩
    · obtain ⟨r0, rfl, κc, Hc, Xc, hr⟩ := he
      have hH : ∀ k g B, hook h' k = some (g, B) → ∃ e, κc k = some e ∧ e.g = g := fun k g B hk' => by
        obtain ⟨e, a1, a2, _⟩ := Hc.hp _ _ _ hk'
        exact ⟨e, a1, a2⟩
      have hnew : ∀ (j : Nat) x, hook h' (.new j) = some x → keyIx ks (.loc d j) 0 = none := fun j x hx => (u3 j x.1 x.2 (hook_mem hx)).2
      obtain ⟨b1, b2, b3⟩ := back_hrel H1 hn hcov Hc Xc (d := d) (up := up)
        (fun k g B hm => by
          obtain ⟨a1, a2⟩ := u1 k g B hm
          refine ⟨a1, ?_⟩
          rcases a2 with a2 | ⟨j, gc, a3, a4, a5, a6⟩
          · exact .inl a2
          · exact .inr ⟨j, gc, a3, a4, a5, a6.trans (k3 j _ a3).symm⟩)
        u2 (fun j gc B hm => by rw [k3 j _ hm]; exact u3 j gc B hm) u4 hdh hdu
      have hcongr : kapB κ1 κc ks d (ups h u) = kapB κ1 κc ks d (ups h2' u) := by
        funext k
        unfold kapB
        cases keyIx ks k 0 with
        | some p => rfl
        | none =>
          simp only
          cases k with
          | loc s j =>
            simp only
            cases hb : Nat.beq s d with
            | false => rfl
            | true =>
              cases hc : κc (.new j) with
              | none => rfl
              | some e =>
                obtain ⟨y, hy⟩ := Option.isSome_iff_exists.1 (Hc.dom _ _ hc)
                simp only
                rw [k3 j y (hook_mem hy)]
          | _ => rfl
      refine ⟨r0, rfl, _, by rw [ups_append]; exact b1, x1.trans b2, ?_⟩
      have := h9 κ1 w' (okB (mC M κ1 ks) κc) (okB M (kapB κ1 κc ks d (ups h2' u))) κc r0 hn (fun c v hcv => hcv.mono (Nat.le_refl _) fun b _ hb => ⟨b3 b hb, rfl⟩) hH hnew hr
      rw [hcongr] at this
      exact this
  · cases h7
end
end Go.Eng

namespace Go.Eng
open Go

section
variable {P : Program} {τ : Tab}

theorem plain_RC {d : D} {c : C} (w : World) (ok : Nat → Prop) (h : plainK d c.kind = true) : RC τ w ok c (sval c) := by
  cases c <;> first | exact .bool _ | exact .int _ _ | (cases d <;> simp [plainK, C.kind] at h)
theorem plain_inv {d : D} {c : C} {w : World} {ok : Nat → Prop} {v : Value} (h : plainK d c.kind = true) (hr : RC τ w ok c v) : v = sval c := by
  cases c <;> first | exact RC.bool_inv hr | exact RC.int_inv hr | (cases d <;> simp [plainK, C.kind] at h)
theorem sval_inj {d : D} {a b : C} (ha : plainK d a.kind = true) (hb : plainK d b.kind = true) (h : sval a = sval b) : a = b := by
  cases a <;> cases b <;> cases d <;> simp_all [plainK, C.kind, sval]
theorem eqC_plain {d : D} {a b : C} (ha : plainK d a.kind = true) (hb : plainK d b.kind = true) : eqC a b = true ↔ a = b := by
  cases a <;> cases b <;> cases d <;> simp_all [plainK, C.kind, eqC, ikq_iff]
theorem plain_key (ht : TabOk P τ) {kt : TypeId} {a : C} (h : plainK (ti τ kt).d a.kind = true) : ∃ d, P.underlying kt = some d ∧ ∀ c : C, plainK (ti τ kt).d c.kind = true → MapKept.IsKey d (sval c) := by
  cases hd : (ti τ kt).d with
  | bool =>
    refine ⟨_, ht.bool hd, fun c hc => ?_⟩
    cases c <;> simp_all [plainK, C.kind, sval, MapKept.IsKey]
  | int k =>
    refine ⟨_, ht.int hd, fun c hc => ?_⟩
    cases c <;> simp_all [plainK, C.kind, sval, MapKept.IsKey, ikq_iff]
  | _ => rw [hd] at h; simp [plainK] at h

theorem RM.keys {kt et : TypeId} {f : C → Option C} {es : List MapEntry} {d : TypeDesc} (h : RM τ kt et f es) (hk : ∀ c : C, plainK (ti τ kt).d c.kind = true → MapKept.IsKey d (sval c)) : ∀ x ∈ es, MapKept.IsKey d x.key := fun x hx => by
  obtain ⟨a, b, h1, _, h3, _⟩ := h.2.1 x hx
  rw [h1]; exact hk a h3
theorem RM.nil (kt et : TypeId) : RM τ kt et mnil [] := ⟨.nil, fun _ h => (by cases h), fun _ _ _ h => by cases h⟩
theorem RM.at {kt et : TypeId} {f : C → Option C} {es : List MapEntry} {a : C} {e : MapEntry} (h : RM τ kt et f es) (ha : plainK (ti τ kt).d a.kind = true) (he : e ∈ es) (hk : e.key = sval a) :
    ∃ b, f a = some b ∧ e.val = sval b ∧ plainK (ti τ et).d b.kind = true := by
  obtain ⟨a', b, h1, h2, h3, h4, h5⟩ := h.2.1 e he
  obtain rfl := sval_inj h3 ha (h1.symm.trans hk)
  exact ⟨b, h5, h2, h4⟩
theorem RM.none {kt et : TypeId} {f : C → Option C} {es : List MapEntry} {a : C} (h : RM τ kt et f es) (ha : plainK (ti τ kt).d a.kind = true) (hn : ∀ x ∈ es, x.key ≠ sval a) : f a = none := by
  cases hf : f a with
  | none => rfl
  | some b =>
    obtain ⟨e, h1, h2⟩ := h.2.2 a b ha hf
    exact (hn e h1 h2).elim
theorem mset_same {d : D} {f : C → Option C} {a b : C} (ha : plainK d a.kind = true) : mset f a b a = some b := by
  unfold mset; rw [(eqC_plain ha ha).2 rfl]
theorem mset_ne {d : D} {f : C → Option C} {a b c : C} (ha : plainK d a.kind = true) (hc : plainK d c.kind = true) (hne : a ≠ c) : mset f a b c = f c := by
  unfold mset
  cases he : eqC a c with
  | true => exact (hne ((eqC_plain ha hc).1 he)).elim
  | false => rfl

theorem RM.push {kt et : TypeId} {f : C → Option C} {es : Array MapEntry} {a b : C} {n : Nat} (h : RM τ kt et f es.toList) (ha : plainK (ti τ kt).d a.kind = true) (hb : plainK (ti τ et).d b.kind = true)
    (hn : ∀ x ∈ es.toList, x.key ≠ sval a) : RM τ kt et (mset f a b) (es.push { key := sval a, val := sval b, born := n }).toList := by
  rw [Array.toList_push]
  refine ⟨List.pairwise_append.2 ⟨h.1, List.pairwise_singleton _ _, fun x hx y hy => ?_⟩, fun e he => ?_, fun c v hc hf => ?_⟩
  · obtain rfl := List.mem_singleton.1 hy
    exact hn x hx
  · rcases List.mem_append.1 he with he | he
    · obtain ⟨a', b', h1, h2, h3, h4, h5⟩ := h.2.1 e he
      refine ⟨a', b', h1, h2, h3, h4, ?_⟩
      rw [mset_ne ha h3 fun hc => hn e he (by rw [h1, hc])]
      exact h5
    · obtain rfl := List.mem_singleton.1 he
      exact ⟨a, b, rfl, rfl, ha, hb, mset_same ha⟩
  · by_cases hac : a = c
    · subst hac
      exact ⟨_, List.mem_append_right _ (List.mem_singleton.2 rfl), rfl⟩
    · rw [mset_ne ha hc hac] at hf
      obtain ⟨e, h1, h2⟩ := h.2.2 c v hc hf
      exact ⟨e, List.mem_append_left _ h1, h2⟩

theorem RM.modify {kt et : TypeId} {f : C → Option C} {es : Array MapEntry} {a b : C} {j : Nat} {e0 : MapEntry} (h : RM τ kt et f es.toList) (ha : plainK (ti τ kt).d a.kind = true) (hb : plainK (ti τ et).d b.kind = true)
    (hj : es[j]? = some e0) (hk : e0.key = sval a) : RM τ kt et (mset f a b) (es.modify j fun e => { e with key := sval a, val := sval b }).toList := by
  have hget : ∀ m, (es.modify j fun e => { e with key := sval a, val := sval b }).toList[m]? = if j = m then some { e0 with key := sval a, val := sval b } else es.toList[m]? := fun m => by
    simp only [Array.getElem?_toList, Array.getElem?_modify]
    by_cases hjm : j = m
    · subst hjm; simp [hj]
    · simp [hjm]
  have hkeys := MapKept.modify_keys (es := es) j (fun e => { e with key := sval a, val := sval b }) fun e he => by
    rw [hj] at he; cases he; exact hk.symm
  have hjl : es.toList[j]? = some e0 := by rw [Array.getElem?_toList]; exact hj
  refine ⟨?_, fun e he => ?_, fun c v hc hf => ?_⟩
  · have h1 := h.1
    rw [← List.pairwise_map (f := fun x : MapEntry => x.key) (R := fun x y => x ≠ y)] at h1 ⊢
    rw [hkeys]
    exact h1
  · obtain ⟨m, hm⟩ := List.getElem?_of_mem he
    rw [hget] at hm
    by_cases hjm : j = m
    · rw [if_pos hjm] at hm
      cases hm
      exact ⟨a, b, rfl, rfl, ha, hb, mset_same ha⟩
    · rw [if_neg hjm] at hm
      obtain ⟨a', b', h1, h2, h3, h4, h5⟩ := h.2.1 e (List.mem_of_getElem? hm)
      refine ⟨a', b', h1, h2, h3, h4, ?_⟩
      rw [mset_ne ha h3 fun hc => ?_]
      · exact h5
      · have hp := List.pairwise_iff_getElem.1 h.1
        have hjlt := (List.getElem?_eq_some_iff.1 hjl)
        have hmlt := (List.getElem?_eq_some_iff.1 hm)
        obtain ⟨j1, j2⟩ := hjlt
        obtain ⟨m1, m2⟩ := hmlt
        have hkk : es.toList[j].key = es.toList[m].key := by rw [j2, m2, hk, h1, hc]
        rcases Nat.lt_or_gt_of_ne hjm with hlt | hlt
        · exact hp j m j1 m1 hlt hkk
        · exact hp m j m1 j1 hlt hkk.symm
  · have hin : ∃ e ∈ es.toList, e.key = sval c := by
      by_cases hac : a = c
      · subst hac; exact ⟨e0, List.mem_of_getElem? hjl, hk⟩
      · rw [mset_ne ha hc hac] at hf
        exact h.2.2 c v hc hf
    obtain ⟨e, h1, h2⟩ := hin
    have hmm : e.key ∈ (es.modify j fun e => { e with key := sval a, val := sval b }).toList.map (·.key) := by
      rw [hkeys]; exact List.mem_map.2 ⟨e, h1, rfl⟩
    obtain ⟨e', h3, h4⟩ := List.mem_map.1 hmm
    exact ⟨e', h3, h4.trans h2⟩

/-- What is put into a map. -/
theorem put_run (ht : TabOk P τ) {w : World} {t kt et k2 e2 : TypeId} {r clock : Nat} {es : Array MapEntry} {f : C → Option C} {a b : C} (hm : (ti τ t).d = .map k2 e2) (hk2 : k2 = kt) (hb : w.heap[r]? = some (.map es clock))
    (hM : RM τ kt et f es.toList) (ha : plainK (ti τ kt).d a.kind = true) (hv : plainK (ti τ et).d b.kind = true) :
    ∃ es' clock', (Instr.mapUpdate t (.map (some r)) (sval a) (sval b)).run P w = .ok () { w with heap := w.heap.setIfInBounds r (.map es' clock') } ∧ RM τ kt et (mset f a b) es'.toList := by
  subst hk2
  obtain ⟨d, hd, hkey⟩ := plain_key ht ha
  have hm' := (ht.map hm).1
  rcases MapKept.findNow_spec (hkey a ha) es.toList 0 (hM.keys hkey) with ⟨h1, h2⟩ | ⟨j, e, h1, h2, h3⟩
  · refine ⟨es.push { key := sval a, val := sval b, born := clock }, clock + 1, ?_, hM.push ha hv h2⟩
    simp [Instr.mapUpdate, run_underlying hm', MapKept.run_getObj_map hb, MapKept.run_checkKey hd (hkey a ha), MapKept.run_findKey hd h1, MapKept.run_setObj_map _ hb, Result.andThen]
  · have hj : es[j]? = some e := by simpa using h2
    refine ⟨_, clock, ?_, hM.modify (j := j) (e0 := e) ha hv hj h3⟩
    simp [Instr.mapUpdate, run_underlying hm', MapKept.run_getObj_map hb, MapKept.run_checkKey hd (hkey a ha), MapKept.run_findKey hd h1, hj, h3, MapKept.run_keyThatStays (hkey a ha), MapKept.run_setObj_map _ hb, Result.andThen]
end
end Go.Eng

namespace Go.Eng
open Go

section
variable {P : Program} {τ : Tab} {st : St} {x : R} {d : Option Nat} {ty : TypeId} {pos : String} {gd : Option (Nat × Bool)} {af : Array Edge}

theorem d_makeMap {t : TypeId} {k : Kt} (hh : (match (ti τ t).d with
    | .map kt et => k (.one (.mp (.loc (d.getD 0) 0) (nextG st.h (.loc (d.getD 0) 0)) kt et)) [.loc (d.getD 0) 0] [(.loc (d.getD 0) 0, (nextG st.h (.loc (d.getD 0) 0), .map kt et mnil))]
    | _ => none) = some x) : Done P τ ⟨d, .makeMap t none, ty, pos, af, gd⟩ st k x := by
  split at hh
  · rename_i kt et hm
    refine ⟨_, _, _, hh, ok_val (fun ρ => Instr.makeMap t none) (fun _ => rfl) fun st2 h5 h6 M κ a w T H => ?_⟩
    have hg := nextG_agree (h6 (.loc (d.getD 0) 0) (by simp))
    obtain ⟨κ', H', hx, hk⟩ := HRel.new H (.loc (d.getD 0) 0) (.map #[] 0) (.map (some w.heap.size)) (.map kt et mnil) fun κ' hx => ⟨w.heap.size, #[], 0, rfl, rfl, wnew_at, RM.nil kt et⟩
    rw [hg] at H' hk
    refine ⟨.map (some w.heap.size), κ', _, ?_, H', hx, ?_⟩
    · simp [Instr.makeMap, Result.andThen]
    · simp only [RV, RV1, RA]
      exact ⟨rfl, _, hk, Nat.le_refl _, fun _ => rfl⟩
  · cases hh

theorem put_core (ht : TabOk P τ) {M : Nat → Prop} {κ : Kap} {h : Heap} {w : World} {t kt et k2 e2 : TypeId} {q : Key} {g : Nat} {f : C → Option C} {a b : C} {mv : Value}
    (H : HRel τ M κ h w) (hq : hook h q = some (g, .map kt et f)) (hmv : RA τ w (okB M κ) κ (.mp q g kt et) mv) (hm : (ti τ t).d = .map k2 e2) (hk2 : k2 = kt)
    (ha : plainK (ti τ kt).d a.kind = true) (hv : plainK (ti τ et).d b.kind = true) :
    ∃ κ' w', (Instr.mapUpdate t mv (sval a) (sval b)).run P w = .ok () w' ∧ HRel τ M κ' (hput h q (g, .map kt et (mset f a b))) w' ∧ Ext M κ w κ' w' := by
  simp only [RA] at hmv
  obtain ⟨en, h3, h4, h5, rfl⟩ := Ment.ent hmv H hq
  obtain ⟨r, es, clock, h6, h7, h8, h9⟩ := h5
  obtain ⟨es', clock', h10, h11⟩ := put_run ht hm hk2 h8 h9 ha hv
  obtain ⟨s1, s2⟩ := MapKept.heap_set (o' := .map es' clock') h8
  have hup := HRel.upd (w' := { w with heap := w.heap.setIfInBounds r (.map es' clock') }) H q en (.map kt et (mset f a b)) rfl rfl rfl (by simp)
    (fun b' hb' hno => s2 b' fun hc => hno en h3 (by rw [h6, hc]))
    (fun e he => by rw [h3] at he; cases he; exact ⟨Nat.le_refl _, fun _ => rfl⟩)
    (fun b' hb' => ⟨by simpa using (H.rng q en b' h3 hb').1, .inr ⟨en, h3, hb'⟩⟩)
    ⟨r, es', clock', h6, h7, s1, h11⟩
  rw [h4] at hup
  rw [h7]
  exact ⟨_, _, h10, hup.1, hup.2⟩

theorem putM_inv {t : TypeId} {m ky y : Operand} {k : Key → Nat → TypeId → TypeId → (C → Option C) → C → C → Option R} (hh : putM τ st t m ky y k = some x) :
    ∃ q g kt et f a b k2 e2, oper τ 0 st m = some (.one (.mp q g kt et)) ∧ oper τ 0 st ky = some (.one (.c a)) ∧ oper τ 0 st y = some (.one (.c b)) ∧ hook st.h q = some (g, .map kt et f) ∧
      plainK (ti τ kt).d a.kind = true ∧ plainK (ti τ et).d b.kind = true ∧ (ti τ t).d = .map k2 e2 ∧ k2 = kt ∧ k q g kt et f a b = some x := by
  unfold putM at hh
  obtain ⟨mv, h1, hh1⟩ := with1_inv hh
  obtain ⟨kv, h2, hh2⟩ := with1_inv hh1
  obtain ⟨xv, h3, hh3⟩ := with1_inv hh2
  clear hh hh1 hh2
  revert h1 h2 h3
  split at hh3
  · rename_i q g kt et a b
    have hh := hh3
    clear hh3
    intro h1 h2 h3
    split at hh
    · rename_i g' kt' et' f hk
      split at hh
      · rename_i hc
        simp only [Bool.and_eq_true] at hc
        obtain ⟨c1, c2, c3, c4, c5⟩ := hc
        obtain rfl := beq_eq c1
        obtain rfl := beq_eq c2
        obtain rfl := beq_eq c3
        split at hh
        · rename_i k2 e2 hd
          split at hh
          · rename_i hkk
            exact ⟨q, g, kt, et, f, a, b, k2, e2, h1, h2, h3, hk, c4, c5, hd, beq_eq hkk, hh⟩
          · cases hh
        · cases hh
      · cases hh
    · cases hh
  · cases hh3

theorem d_mapUpdate (ht : TabOk P τ) {t : TypeId} {m ky y : Operand} {k : Kt} (hh : putM τ st t m ky y (fun q g kt et f a b => k (.one .un) [q] [(q, (g, .map kt et (mset f a b)))]) = some x) :
    Done P τ ⟨d, .mapUpdate t m ky y, ty, pos, af, gd⟩ st k x := by
  obtain ⟨q, g, kt, et, f, a, b, k2, e2, h1, h2, h3, hk, c4, c5, hd, hkk, hx⟩ := putM_inv hh
  refine ⟨_, _, _, hx, ok_unit (fun ρ => Instr.mapUpdate t (ρ m) (ρ ky) (ρ y)) (fun _ => rfl) rfl fun st2 h5 h6 M κ ac w T H => ?_⟩
  have r1 := at2 h5 T h1 (by simp [Op.operands])
  have r2 := at2 h5 T h2 (by simp [Op.operands])
  have r3 := at2 h5 T h3 (by simp [Op.operands])
  have e2' := plain_inv c4 (show RC τ w (okB M κ) a (ac.eval ky) from r2)
  have e3' := plain_inv c5 (show RC τ w (okB M κ) b (ac.eval y) from r3)
  obtain ⟨κ', w', p1, p2, p3⟩ := put_core ht H ((h6 q (by simp)).trans hk) (show RA τ w (okB M κ) κ (.mp q g kt et) (ac.eval m) from r1) hd hkk c4 c5
  exact ⟨κ', w', by simp only [e2', e3']; exact p1, p2, p3⟩

/-- A type of flags or numbers: its zero. -/
theorem zero_plain (ht : TabOk P τ) {et : TypeId} {z : C} (hz : (ti τ et).z = [z]) (ho : (ti τ et).zov = []) (hp : plainK (ti τ et).d z.kind = true) (w : World) : (zeroValue et).run P w = .ok (sval z) w := by
  have hd : (ti τ et).d ≠ .no := fun hc => by rw [hc] at hp; simp [plainK] at hp
  have hag : (ti τ et).d.isAgg = false := by
    cases h : (ti τ et).d <;> first | rfl | (rw [h] at hp; simp [plainK] at hp)
  have hs1 := isAgg_cells ht hag hd
  obtain ⟨v, h1, h2, h3⟩ := ht.zero hd w
  have h4 := (h3 w (fun _ => True) (fun _ => none)).2.2 0 (by rw [ht.len]; omega)
  rw [hz, ho] at h4
  obtain ⟨c', u, h5, h6, _, h7⟩ := h4
  cases h5
  have hu := plain_inv hp h7
  rw [h1]
  rw [hag] at h2
  have hv : v = u := by
    cases v <;> simp_all [Value.cells]
  rw [hv, hu]

theorem look_run (ht : TabOk P τ) {w : World} {t kt et k2 e2 : TypeId} {r clock : Nat} {es : Array MapEntry} {f : C → Option C} {a z : C} (hm : (ti τ t).d = .map k2 e2) (hk2 : k2 = kt) (he2 : e2 = et) (hb : w.heap[r]? = some (.map es clock))
    (hM : RM τ kt et f es.toList) (ha : plainK (ti τ kt).d a.kind = true) (hz : (ti τ et).z = [z]) (ho : (ti τ et).zov = []) (hp : plainK (ti τ et).d z.kind = true) :
    (Instr.lookup t (.map (some r)) (sval a) false).run P w = .ok (sval (mgetD f a z)) w ∧ plainK (ti τ et).d (mgetD f a z).kind = true := by
  subst hk2
  subst he2
  obtain ⟨d, hd, hkey⟩ := plain_key ht ha
  have hm' := (ht.map hm).1
  rcases MapKept.findNow_spec (hkey a ha) es.toList 0 (hM.keys hkey) with ⟨h1, h2⟩ | ⟨j, e, h1, h2, h3⟩
  · have hn := hM.none ha h2
    have hg : mgetD f a z = z := by unfold mgetD; rw [hn]
    rw [hg]
    refine ⟨?_, hp⟩
    simp [Instr.lookup, run_underlying hm', MapKept.run_getObj_map hb, MapKept.run_checkKey hd (hkey a ha), MapKept.run_findKey hd h1, zero_plain ht hz ho hp w, Result.andThen]
  · obtain ⟨b, h4, h5, h6⟩ := hM.at ha (List.mem_of_getElem? h2) h3
    have hg : mgetD f a z = b := by unfold mgetD; rw [h4]
    rw [hg]
    refine ⟨?_, h6⟩
    simp [Instr.lookup, run_underlying hm', MapKept.run_getObj_map hb, MapKept.run_checkKey hd (hkey a ha), MapKept.run_findKey hd h1, h5, Result.andThen]

theorem d_lookup (ht : TabOk P τ) {t : TypeId} {m ky : Operand} {k : Kt} (hh : lookM τ st t m ky k = some x) :
    Done P τ ⟨d, .lookup t m ky false, ty, pos, af, gd⟩ st k x := by
  unfold lookM at hh
  obtain ⟨mv, h1, hh1⟩ := with1_inv hh
  obtain ⟨kv, h2, hh2⟩ := with1_inv hh1
  clear hh hh1
  revert h1 h2
  split at hh2
  · rename_i q g kt et a
    have hh := hh2
    clear hh2
    intro h1 h2
    split at hh
    · rename_i g' kt' et' f hk
      split at hh
      · rename_i hc
        simp only [Bool.and_eq_true] at hc
        obtain ⟨c1, c2, c3, c4⟩ := hc
        obtain rfl := beq_eq c1
        obtain rfl := beq_eq c2
        obtain rfl := beq_eq c3
        split at hh
        · rename_i k2 e2 z hd hz ho
          split at hh
          · rename_i hkk
            simp only [Bool.and_eq_true] at hkk
            obtain ⟨j1, j2, j3⟩ := hkk
            have key : ∀ v : V, k v [q] [] = some x → (∀ c : C, plainK (ti τ et).d c.kind = true → mgetD f a z = c → v = .one (.c c)) → Done P τ ⟨d, .lookup t m ky false, ty, pos, af, gd⟩ st k x := fun v hv hvc => by
              refine done_run (rk := [q]) (fun ρ => Instr.lookup t (ρ m) (ρ ky) false) (fun _ => rfl) hv fun st2 h5 h6 M κ ac w T H => ?_
              have r1 := at2 h5 T h1 (by simp [Op.operands])
              have r2 := at2 h5 T h2 (by simp [Op.operands])
              have e2' := plain_inv c4 (show RC τ w (okB M κ) a (ac.eval ky) from r2)
              have hmv : RA τ w (okB M κ) κ (.mp q g kt et) (ac.eval m) := r1
              simp only [RA] at hmv
              obtain ⟨en, g3, g4, g5, g6⟩ := Ment.ent hmv H ((h6 q (by simp)).trans hk)
              obtain ⟨r, es, clock, g7, g8, g9, g10⟩ := g5
              obtain ⟨l1, l2⟩ := look_run ht hd (beq_eq j1) (beq_eq j2) g9 g10 c4 hz ho j3
              refine ⟨_, by rw [e2', g6, g8]; exact l1, ?_⟩
              rw [hvc _ l2 rfl]
              exact plain_RC w _ l2
            split at hh
            · rename_i hb
              refine key _ hh fun c hc hcc => ?_
              rw [hb] at hc
              rw [hcc]
              cases c <;> simp_all [plainK, C.kind, C.toB]
            · rename_i kk hb
              refine key _ hh fun c hc hcc => ?_
              rw [hb] at hc
              rw [hcc]
              cases c <;> simp_all [plainK, C.kind, C.toI, ikq_iff]
            · cases hh
          · cases hh
        · cases hh
      · cases hh
    · cases hh
  · cases hh2

/-! ### What is put into a map while others are -/
def Wk (x y : Option (Nat × B)) : Prop := x = y ∨ ∃ g kt et f f', x = some (g, .map kt et f) ∧ y = some (g, .map kt et f')

/-- What an operation comes to that may put something into a map. -/
def OpOkN (P : Program) (τ : Tab) (o : Oper) (st : St) (v : V) (rk : List Key) (u : Ups) (n : Ins) : Prop :=
  ∀ st2 : St, (∀ s ∈ opTs o.op, look st2.t s = look st.t s) → (∀ k ∈ rk, hook st2.h k = hook st.h k) → (∀ q a b, n = some (q, a, b) → Wk (hook st2.h q) (hook st.h q)) →
    ∀ M κ (a : Act) w, Tm τ w (okB M κ) κ st2.t a → HRel τ M κ st2.h w → ∀ K Q,
      (∀ r κ' w', HRel τ M κ' (hinsO (ups st2.h u) n) w' → Ext M κ w κ' w' → RV τ w' (okB M κ') κ' v r → K (a.put o.dst r) w') → o.wp P a w K Q

theorem OpOk.toN {o : Oper} {v : V} {rk : List Key} {u : Ups} (h : OpOk P τ o st v rk u) : OpOkN P τ o st v rk u none :=
  fun st2 h1 h2 _ M κ a w T H K Q hK => h st2 h1 h2 M κ a w T H K Q hK

theorem d_insert (ht : TabOk P τ) {t : TypeId} {m ky y : Operand} {k : Key → Nat → TypeId → TypeId → (C → Option C) → C → C → Option R} (hh : putM τ st t m ky y k = some x) :
    ∃ q g kt et f a b, k q g kt et f a b = some x ∧ OpOkN P τ ⟨d, .insert t m ky y, ty, pos, af, gd⟩ st (.one .un) [] [] (some (q, a, b)) := by
  obtain ⟨q, g, kt, et, f, a, b, k2, e2, h1, h2, h3, hk, c4, c5, hd, hkk, hx⟩ := putM_inv hh
  refine ⟨q, g, kt, et, f, a, b, hx, fun st2 h5 _ hw M κ ac w T H K Q hK => ?_⟩
  have hw' := hw q a b rfl
  have r1 := at2 h5 T h1 (by simp [Op.operands])
  have r2 := at2 h5 T h2 (by simp [Op.operands])
  have r3 := at2 h5 T h3 (by simp [Op.operands])
  have e2' := plain_inv c4 (show RC τ w (okB M κ) a (ac.eval ky) from r2)
  have e3' := plain_inv c5 (show RC τ w (okB M κ) b (ac.eval y) from r3)
  obtain ⟨f2, hf2⟩ : ∃ f2, hook st2.h q = some (g, .map kt et f2) := by
    rcases hw' with hw' | ⟨g', kt', et', f1, f1', w1, w2⟩
    · exact ⟨f, hw'.trans hk⟩
    · rw [hk] at w2
      cases w2
      exact ⟨f1, w1⟩
  obtain ⟨κ', w', p1, p2, p3⟩ := put_core ht H hf2 (show RA τ w (okB M κ) κ (.mp q g kt et) (ac.eval m) from r1) hd hkk c4 c5
  unfold Oper.wp
  have he : execOp ac.eval ⟨d, .insert t m ky y, ty, pos, af, gd⟩ = (do Instr.mapUpdate t (ac.eval m) (ac.eval ky) (ac.eval y); pure .skip) := rfl
  rw [he]
  simp only [Sem.run_bind, e2', e3', p1, Result.andThen_ok, Sem.run_pure]
  refine hK undef κ' w' ?_ p3 rfl
  show HRel τ M κ' (hins st2.h q a b) w'
  unfold hins
  rw [hf2]
  exact p2
end
end Go.Eng

namespace Go.Eng
open Go

section
variable {P : Program} {τ : Tab} {st : St} {v : V} {x : R} {k : Kt} {d : Option Nat} {ty : TypeId} {pos : String} {gd : Option (Nat × Bool)} {af : Array Edge}

theorem All2.app {α β : Type} {p : α → β → Prop} : ∀ {a : List α} {b : List β} {c : List α} {d : List β}, All2 p a b → All2 p c d → All2 p (a ++ c) (b ++ d)
  | [], [], _, _, _, h => h
  | _ :: _, _ :: _, _, _, h, h' => ⟨h.1, All2.app h.2 h'⟩
  | [], _ :: _, _, _, h, _ => h.elim
  | _ :: _, [], _, _, h, _ => h.elim

theorem capsV_rel {w : World} {ok : Nat → Prop} {κ : Kap} : ∀ {caps : List (Key × Nat)} {cs : List Value}, caps.length = cs.length →
    (∀ (i : Nat) (p : Key × Nat) (u : Value), caps[i]? = some p → cs[i]? = some u → Ment κ p.1 p.2 (∃ b, u = .pointer (some ⟨b, 0, none⟩)) fun q => ∃ b, q = box0 b ∧ u = .pointer (some ⟨b, 0, none⟩)) → All2 (RV τ w ok κ) (capsV caps) cs
  | [], [], _, _ => trivial
  | (q, g) :: r, u :: cs, hl, h => ⟨(by simp only [RV, RV1, RA]; exact h 0 (q, g) u rfl rfl), capsV_rel (by simpa using hl) fun i p u hp hu => h (i + 1) p u (by simpa using hp) (by simpa using hu)⟩
  | [], _ :: _, hl, _ => by simp at hl
  | _ :: _, [], hl, _ => by simp at hl

theorem d_call (ht : TabOk P τ) {F : Fun} {own : FuncId → Bool} (hF : FSound P τ F) {f : Operand} {args : Array Operand} {ts : Array TypeId} {dd : Nat}
    (hh : (match oper τ 0 st f with
    | some (.one (.fn n caps)) => match opers τ st args.toList ts.toList with
      | some vs => callV τ F own st.h dd n (vs ++ capsV caps) k
      | none => none
    | _ => none) = some x) : Done P τ ⟨d, .call ⟨.value f, args, ts⟩, ty, pos, af, gd⟩ st k x := by
  split at hh
  · rename_i n caps hf
    split at hh
    · rename_i vs hvs
      obtain ⟨v, rk, u, h1, ⟨fn, hfn, hname, hbody⟩, h2⟩ := callV_ok ht hF hh
      refine ⟨v, rk, u, h1, fun st2 h3 h4 M κ a w T H K Q hK => ?_⟩
      have hops : ∀ y ∈ args.toList, ∀ s ∈ opT y, look st2.t s = look st.t s := fun y hy s hs => h3 s (opTs_mem (by simp [Op.operands, Call.operands] at hy ⊢; exact .inr hy) hs)
      obtain ⟨cs, c1, c2, c3⟩ := at2 h3 T hf (by simp [Op.operands, Call.operands])
      have hA : All2 (RV τ w (okB M κ) κ) (vs ++ capsV caps) (args.toList.map a.eval ++ cs) := All2.app (opers_rel hvs hops T) (capsV_rel c2 c3)
      have hcalls := h2 st2.h h4 M κ w _ H hA
      have hex : (execOp a.eval ⟨d, .call ⟨.value f, args, ts⟩, ty, pos, af, gd⟩).run P w = .ok (.enter n (args.toList.map a.eval ++ cs).toArray) w := by
        have hname' : fn.name ≠ "runtime.NumGoroutine" := by simpa using hname
        have hbody' : fn.body ≠ none := by
          intro hc
          rw [hc] at hbody
          cases hbody
        simp [execOp, resolve, c1, Deferred.ofValue, invoke, callFunc, hfn, hname', hbody']
      unfold Oper.wp
      rw [hex, Oper.upon_enter]
      refine Calls.mono hcalls fun e w' he => ?_
      obtain ⟨r, rfl, κ', H', X', hr⟩ := he
      exact hK r κ' w' H' X' hr
    · cases hh
  · cases hh

theorem d_builtin (ht : TabOk P τ) {b : Builtin} {args : Array Operand} {ts : Array TypeId}
    (hh : (match opers τ st args.toList ts.toList with
    | some vs => match b, vs with
      | .len, [x] => match ts.toList with
        | t :: _ => lenV τ st.h t x k
        | _ => none
      | .append, [s, x] => match ts.toList with
        | [t, tx] => match (ti τ tx).d with
          | .sl _ => appendV τ st.h (d.getD 0) t s x k
          | .str => appendV τ st.h (d.getD 0) t s x k
          | _ => none
        | _ => none
      | .copy, [s, x] => match ts.toList with
        | t :: _ => copyV τ st.h t s x k
        | _ => none
      | .min, x :: r => match x with
        | .one (.c (.int kk a)) => minI r kk a fun v => k v [] []
        | _ => none
      | .max, x :: r => match x with
        | .one (.c (.int kk a)) => maxI r kk a fun v => k v [] []
        | _ => none
      | _, _ => none
    | none => none) = some x) : Done P τ ⟨d, .call ⟨.builtin b, args, ts⟩, ty, pos, af, gd⟩ st k x := by
  split at hh
  · rename_i vs hvs
    have hrel : ∀ (st2 : St), (∀ s ∈ opTs (.call ⟨.builtin b, args, ts⟩), look st2.t s = look st.t s) → ∀ w ok κ (a : Act), Tm τ w ok κ st2.t a → All2 (RV τ w ok κ) vs (args.toList.map a.eval) := fun st2 h3 w ok κ a T =>
      opers_rel hvs (fun y hy s hs => h3 s (opTs_mem (by simp [Op.operands, Call.operands] at hy ⊢; exact hy) hs)) T
    have args1 : ∀ {a : Act} {y : Value}, args.toList.map a.eval = [y] → args.map a.eval = #[y] := fun {a y} h => by
      apply Array.toList_inj.1; rw [Array.toList_map, h]
    have args2 : ∀ {a : Act} {y z : Value}, args.toList.map a.eval = [y, z] → args.map a.eval = #[y, z] := fun {a y z} h => by
      apply Array.toList_inj.1; rw [Array.toList_map, h]
    have all1 : ∀ {p : V → Value → Prop} {v : V} {l : List Value}, All2 p [v] l → ∃ y, l = [y] ∧ p v y := fun {p v l} h => by
      cases l with
      | nil => exact h.elim
      | cons y l =>
        cases l with
        | nil => exact ⟨y, rfl, h.1⟩
        | cons _ _ => exact h.2.elim
    have all2 : ∀ {p : V → Value → Prop} {v u : V} {l : List Value}, All2 p [v, u] l → ∃ y z, l = [y, z] ∧ p v y ∧ p u z := fun {p v u l} h => by
      cases l with
      | nil => exact h.elim
      | cons y l =>
        obtain ⟨z, rfl, hz⟩ := all1 h.2
        exact ⟨y, z, rfl, h.1, hz⟩
    have alls : ∀ {p : V → Value → Prop} {v : V} {vs : List V} {l : List Value}, All2 p (v :: vs) l → ∃ y ys, l = y :: ys ∧ p v y ∧ All2 p vs ys := fun {p v vs l} h => by
      cases l with
      | nil => exact h.elim
      | cons y l => exact ⟨y, l, rfl, h.1, h.2⟩
    split at hh
    · split at hh
      · rename_i y t tr hts
        have hg : ts[0]? = some t := by
          have : ts.toList[0]? = some t := by rw [hts]; rfl
          simpa using this
        obtain ⟨v, rk, h1, h2⟩ := lenV_ok ht hh
        refine done_run (rk := rk) (fun ρ => Builtin.len_ ts ty (args.map ρ)) (fun _ => execOp_len) h1 fun st2 h3 h4 M κ a w T H => ?_
        obtain ⟨z, hz, hr⟩ := all1 (hrel st2 h3 w _ κ a T)
        obtain ⟨r2, h5, h6⟩ := h2 st2.h h4 M κ w z ts ty H hr hg
        exact ⟨r2, by rw [args1 hz]; exact h5, h6⟩
      · cases hh
    · split at hh
      · rename_i s y _ t tx hts
        have hte : ts = #[t, tx] := by apply Array.toList_inj.1; rw [hts]
        have key : ((∃ e', P.underlying tx = some (.slice e')) ∨ P.underlying tx = some .string) → appendV τ st.h (d.getD 0) t s y k = some x → Done P τ ⟨d, .call ⟨.builtin .append, args, ts⟩, ty, pos, af, gd⟩ st k x := fun htx hh => by
          obtain ⟨v, rk, u, h1, h2⟩ := appendV_ok ht htx hh
          refine ⟨v, rk, u, h1, ok_val (fun ρ => Builtin.append_ ts ty (args.map ρ)) (fun _ => execOp_append) fun st2 h3 h4 M κ a w T H => ?_⟩
          obtain ⟨z1, z2, hz, hr1, hr2⟩ := all2 (hrel st2 h3 w _ κ a T)
          obtain ⟨r2, κ', w', h5, h6, h7, h8⟩ := h2 st2.h h4 M κ w z1 z2 ty H hr1 hr2
          exact ⟨r2, κ', w', by rw [args2 hz, hte]; exact h5, h6, h7, h8⟩
        split at hh
        · rename_i e hd
          exact key (.inl ⟨e, (ht.sl hd).1⟩) hh
        · rename_i hd
          exact key (.inr (ht.str hd)) hh
        · cases hh
      · cases hh
    · split at hh
      · rename_i s y t tr hts
        have hg : ts[0]? = some t := by
          have : ts.toList[0]? = some t := by rw [hts]; rfl
          simpa using this
        obtain ⟨v, rk, u, h1, h2⟩ := copyV_ok ht hh
        refine ⟨v, rk, u, h1, ok_val (fun ρ => Builtin.copy_ ts ty (args.map ρ)) (fun _ => execOp_copy) fun st2 h3 h4 M κ a w T H => ?_⟩
        obtain ⟨z1, z2, hz, hr1, hr2⟩ := all2 (hrel st2 h3 w _ κ a T)
        obtain ⟨r2, κ', w', h5, h6, h7, h8⟩ := h2 st2.h h4 M κ w z1 z2 ts ty H hr1 hr2 hg
        exact ⟨r2, κ', w', by rw [args2 hz]; exact h5, h6, h7, h8⟩
      · cases hh
    · split at hh
      · rename_i r kk n
        obtain ⟨b0, h1, h2⟩ := minI_ok (τ := τ) (w := default) (ok := fun _ => True) (κ := fun _ => none) hh
        refine done_run (rk := []) (fun ρ => Builtin.min_ ts ty (args.map ρ)) (fun _ => execOp_min) h1 fun st2 h3 _ M κ a w T H => ?_
        obtain ⟨z, zs, hz, hr, hrs⟩ := alls (hrel st2 h3 w _ κ a T)
        obtain rfl := RC.int_inv hr
        exact ⟨.int kk b0, by simp only [Builtin.min_, Array.toList_map, hz]; exact h2 P w _ κ zs hrs, RC.int _ _⟩
      · cases hh
    · split at hh
      · rename_i r kk n
        obtain ⟨b0, h1, h2⟩ := maxI_ok (τ := τ) (w := default) (ok := fun _ => True) (κ := fun _ => none) hh
        refine done_run (rk := []) (fun ρ => Builtin.max_ ts ty (args.map ρ)) (fun _ => execOp_max) h1 fun st2 h3 _ M κ a w T H => ?_
        obtain ⟨z, zs, hz, hr, hrs⟩ := alls (hrel st2 h3 w _ κ a T)
        obtain rfl := RC.int_inv hr
        exact ⟨.int kk b0, by simp only [Builtin.max_, Array.toList_map, hz]; exact h2 P w _ κ zs hrs, RC.int _ _⟩
      · cases hh
    · cases hh
  · cases hh

theorem evOp_ok (ht : TabOk P τ) {F : Fun} {own : FuncId → Bool} (hF : FSound P τ F) {o : Oper} (hh : evOp τ F own st o k = some x) : Done P τ o st k x := by
  obtain ⟨d, op, ty, pos, af, gd⟩ := o
  unfold evOp at hh
  simp only at hh
  split at hh
  · exact d_move hh
  · exact d_assign hh
  · exact d_pick hh
  · exact d_alloc ht hh
  · exact d_box ht hh
  · exact d_build ht hh
  · exact d_buildSlice ht hh
  · exact d_load ht hh
  · exact d_store ht hh
  · exact d_nilCheck hh
  · exact d_binOp ht hh
  · exact d_unOp hh
  · exact d_convert ht hh
  · exact d_s2ap ht hh
  · exact d_slice ht hh
  · exact d_fieldAddr ht hh
  · exact d_field ht hh
  · exact d_indexAddr ht hh
  · exact d_index ht hh
  · exact d_extract hh
  · rename_i fn0 first caps
    split at hh
    · rename_i f hfi
      have hfi' : first = #[] := by apply Array.toList_inj.1; rw [hfi]
      subst hfi'
      exact d_makeFunc hh
    · cases hh
  · exact d_makeMap hh
  · exact d_mapUpdate ht hh
  · exact d_lookup ht hh
  · exact d_builtin ht hh
  · exact d_call ht hF hh
  · cases hh
end
end Go.Eng
