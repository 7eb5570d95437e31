/- Rc -/
import Derived.Test.YtacklcdhfoedlaaRb
import Derived.KernelRfl
namespace Go.Proofs.Ytacklcdhfoedlaa
open Go Go.Eng
set_option maxRecDepth 100000
/-- An entry: which name, which type, how long, put when. -/
structure Ey where
  j : Nat
  k : Nat
  t : Nat
  p : Nat
def recR (j k t : Nat) : List C := [.str (one (97 + j)), .int .i64 (1 + (k : Int)), .int .i64 (t : Int), C.int IntKind.u8 (0 : Int), C.int IntKind.u8 (0 : Int), C.int IntKind.u8 (0 : Int), C.int IntKind.u8 (0 : Int), C.int IntKind.u8 (0 : Int), C.int IntKind.u8 (0 : Int), C.int IntKind.u8 (0 : Int), C.int IntKind.u8 (0 : Int), C.int IntKind.u8 (0 : Int), C.int IntKind.u8 (0 : Int), C.int IntKind.u8 (0 : Int), C.int IntKind.u8 (0 : Int), C.int IntKind.u8 (0 : Int), C.int IntKind.u8 (0 : Int), C.int IntKind.u8 (0 : Int), C.int IntKind.u8 (0 : Int), C.str (ByteArray.mk #[]), C.str (ByteArray.mk #[])]
/-- As the cache has it. -/
def cE (e : Ey) : List C := mkE (e.p : Int) (.str (one (97 + e.j))) (.int .i64 (1 + (e.k : Int))) 1 [recR e.j e.k e.t] (e.t : Int)
/-- As the statement has it. -/
def mE (e : Ey) : List C := [.str (one (97 + e.j)), .int .i64 (1 + (e.k : Int)), .int .i64 (e.t : Int), .int .i64 (IntKind.i64.wrap ((e.p : Int) + (e.t : Int))), .int .i64 (e.p : Int)]
def Ok (e : Ey) : Prop := e.j < 8 ∧ e.k < 2 ∧ 1 ≤ e.t ∧ e.t ≤ 14 ∧ e.p ≤ 1000
def lv (now : Nat) (e : Ey) : Bool := decide (now < e.p + e.t)
def sq (j k : Nat) (e : Ey) : Bool := decide (e.j = j ∧ e.k = k)
theorem until_c {e : Ey} (h : Ok e) : (cl (cE e) 4).toI = (e.p : Int) + e.t := by
  obtain ⟨h1, h2, h3, h4, h5⟩ := h
  show IntKind.i64.wrap ((e.p : Int) + if (1048576 : Int) < (e.t : Int) then (1048576 : Int) else (e.t : Int)) = _
  rw [if_neg (by omega), wrap_ok (by omega) (by omega)]
theorem until_m {e : Ey} (h : Ok e) : (cl (mE e) 3).toI = (e.p : Int) + e.t := by
  obtain ⟨h1, h2, h3, h4, h5⟩ := h
  show IntKind.i64.wrap ((e.p : Int) + (e.t : Int)) = _
  rw [wrap_ok (by omega) (by omega)]
theorem live_c {e : Ey} (h : Ok e) (now : Nat) : live now (cE e) = lv now e := by
  unfold live lv
  rw [until_c h]
  congr 1
  exact propext ⟨fun h => by omega, fun h => by omega⟩
theorem live_m {e : Ey} (h : Ok e) (now : Nat) : liveM now (mE e) = lv now e := by
  unfold liveM lv
  rw [until_m h]
  congr 1
  exact propext ⟨fun h => by omega, fun h => by omega⟩
theorem q_eq {a b j k : Nat} (h1 : a < 8) (h2 : j < 8) : eqL [.str (one (97 + a)), .int .i64 (1 + (b : Int))] [.str (one (97 + j)), .int .i64 (1 + (k : Int))] = decide (a = j ∧ b = k) := by
  show (((one (97 + a)).toList == (one (97 + j)).toList) && ((1 + (b : Int) == 1 + (k : Int)) && true)) = _
  rw [one_ne (by omega) (by omega), Bool.and_true]
  by_cases h : a = j
  · by_cases h' : b = k
    · subst h h'; simp
    · rw [beq_eq_false_iff_ne.2 (by omega), Bool.and_false, decide_eq_false (by omega)]
  · rw [decide_eq_false (by omega), Bool.false_and, decide_eq_false (by omega)]
theorem notQ_c {e : Ey} (h : Ok e) {j k : Nat} (hj : j < 8) : notQ [.str (one (97 + j)), .int .i64 (1 + (k : Int))] (cE e) = !sq j k e := by
  show (!eqL [.str (one (97 + e.j)), .int .i64 (1 + (e.k : Int))] _) = _
  rw [q_eq h.1 hj]
  rfl
theorem eqQ_m {e : Ey} (h : Ok e) {j k : Nat} (hj : j < 8) : eqL (sub (mE e) 0 2) [.str (one (97 + j)), .int .i64 (1 + (k : Int))] = sq j k e := by
  show eqL [.str (one (97 + e.j)), .int .i64 (1 + (e.k : Int))] _ = _
  rw [q_eq h.1 hj]
  rfl
theorem filter_map' {α β : Type} (f : α → β) (p : β → Bool) (q : α → Bool) : ∀ {l : List α}, (∀ x ∈ l, p (f x) = q x) → (l.map f).filter p = (l.filter q).map f
  | [], _ => rfl
  | x :: l, h => by
    rw [List.map_cons, List.filter_cons, List.filter_cons, h x (List.mem_cons_self ..), filter_map' f p q fun y hy => h y (List.mem_cons_of_mem _ hy)]
    split <;> rfl
theorem find_map' {α β : Type} (f : α → β) (p : β → Bool) (q : α → Bool) : ∀ {l : List α}, (∀ x ∈ l, p (f x) = q x) → (l.map f).find? p = (l.find? q).map f
  | [], _ => rfl
  | x :: l, h => by
    rw [List.map_cons, List.find?_cons, List.find?_cons, h x (List.mem_cons_self ..), find_map' f p q fun y hy => h y (List.mem_cons_of_mem _ hy)]
    split <;> rfl
def Inv (E : List Ey) (size now : Nat) : Prop := E.length ≤ size ∧ (∀ e ∈ E, Ok e ∧ e.p ≤ now) ∧ E.Pairwise fun a b => ¬ (a.j = b.j ∧ a.k = b.k)
theorem Inv.sub {E F : List Ey} {size now now' : Nat} (h : Inv E size now) (hs : F.Sublist E) (hn : now ≤ now') : Inv F size now' :=
  ⟨Nat.le_trans hs.length_le h.1, fun e he => ⟨(h.2.1 e (hs.subset he)).1, Nat.le_trans (h.2.1 e (hs.subset he)).2 hn⟩, h.2.2.sublist hs⟩
theorem Inv.uniq {E : List Ey} {size now : Nat} (h : Inv E size now) {a b : Ey} (ha : a ∈ E) (hb : b ∈ E) (hj : a.j = b.j) (hk : a.k = b.k) : a = b := by
  obtain ⟨i, hi, rfl⟩ := List.mem_iff_getElem.1 ha
  obtain ⟨m, hm, rfl⟩ := List.mem_iff_getElem.1 hb
  have hp := List.pairwise_iff_getElem.1 h.2.2
  rcases Nat.lt_trichotomy i m with hc | hc | hc
  · exact absurd ⟨hj, hk⟩ (hp i m hi hm hc)
  · subst hc; rfl
  · exact absurd ⟨hj.symm, hk.symm⟩ (hp m i hm hi hc)
def hitE (now j k : Nat) (e : Ey) : Bool := sq j k e && lv now e
theorem hit_c {e : Ey} (h : Ok e) {j k now : Nat} (hj : j < 8) : hit now [.str (one (97 + j)), .int .i64 (1 + (k : Int))] (cE e) = hitE now j k e := by
  unfold hit hitE
  rw [notQ_c h hj, Bool.not_not, until_c h]
  congr 1
  unfold lv
  rw [← decide_not]
  congr 1
  exact propext ⟨fun h => by omega, fun h => by omega⟩
theorem get_c {E : List Ey} {size now' : Nat} (h : Inv E size now') {j k now : Nat} (hj : j < 8) : getE now (E.map cE) [.str (one (97 + j)), .int .i64 (1 + (k : Int))] = (E.find? (hitE now j k)).map cE :=
  find_map' cE _ _ fun e he => hit_c (h.2.1 e he).1 hj

theorem f7_L53 (n : Nat) (kk : X → St → Option R) (E : List Ey) (size now j k : Nat) (h : Inv E size now) (hj : j < 8) (hnow : now ≤ 1000) (h200 : size ≤ 100) (s0 sz s35 s36 s169 : Int) (s34 : List (List C)) (es : List (List C)) (m : Nat) (hm : E.length < m) :
    evLoop false (f7_s53 n) m (f7_h53 s0 (getO ((E.find? (hitE now j k)).map cE)) (getL now ((E.find? (hitE now j k)).map cE)) 0 s34 s35 s36 s169 (E.map mE) ((E.map mE).length : Int) 0 sz es (E.map mE) now (one (97 + j)) (1 + (k : Int))) kk =
      kk (.exit 9) (f7_x53_9 s0 (getO ((E.find? (hitE now j k)).map cE)) (getL now ((E.find? (hitE now j k)).map cE)) (getO ((E.find? (hitE now j k)).map cE)) s34 s35 s36 s169 sz es (E.map mE) now (one (97 + j)) (1 + (k : Int))) := by
  have hlen := h.1
  have hL := fold_loop (xs := E) (L := fun m i (s : Int) => evLoop false (f7_s53 n) m (f7_h53 s0 (getO ((E.find? (hitE now j k)).map cE)) (getL now ((E.find? (hitE now j k)).map cE)) s s34 s35 s36 s169 (E.map mE) ((E.map mE).length : Int) i sz es (E.map mE) now (one (97 + j)) (1 + (k : Int))) kk)
    (f := fun s e => if hitE now j k e = true then 1 else s) (E := fun s => kk (.exit 9) (f7_x53_9 s0 (getO ((E.find? (hitE now j k)).map cE)) (getL now ((E.find? (hitE now j k)).map cE)) s s34 s35 s36 s169 sz es (E.map mE) now (one (97 + j)) (1 + (k : Int)))) (fun _ _ => True)
    (fun m i s e hx hlt _ => by
      show evLoop false (f7_s53 n) (m + 1) _ _ = evLoop false (f7_s53 n) m _ _
      have he : e ∈ E := List.mem_of_getElem? hx
      obtain ⟨hok, hp⟩ := h.2.1 e he
      have hx2 : (E.map mE)[i]? = some (mE e) := by rw [List.getElem?_map, hx]; rfl
      rw [f7_t53]
      simp only [lt_nat, inB_nat, Int.toNat_natCast, el_get hx2, wrap_succ (i := i) (by omega), List.length_map, hlt, decide_true, bcond_t, eqQ_m hok hj]
      rw [show decide ((cl (mE e) 3).toI > (now : Int)) = lv now e from live_m hok now]
      unfold hitE
      cases h1 : sq j k e with
      | false => rw [bcond_f]; rfl
      | true =>
        rw [bcond_t]
        cases h2 : lv now e with
        | false => rw [bcond_f]; rfl
        | true =>
          rw [bcond_t]
          have hf : E.find? (hitE now j k) = some e := by
            cases hf : E.find? (hitE now j k) with
            | none =>
              rw [List.find?_eq_none] at hf
              exact absurd (by unfold hitE; rw [h1, h2]; rfl) (hf e he)
            | some e' =>
              have hp' := List.find?_some hf
              have hm' := List.mem_of_find?_eq_some hf
              unfold hitE sq at hp'
              unfold sq at h1
              simp only [Bool.and_eq_true, decide_eq_true_eq] at hp' h1
              rw [h.uniq hm' he (by omega) (by omega)]
          have hff : E.find? (fun e => sq j k e && lv now e) = some e := hf
          obtain ⟨g1, g2, g3, g4, g5⟩ := hok
          unfold lv at h2
          simp only [decide_eq_true_eq] at h2
          rw [hff]
          have hcl : (cl (el (getL now (some (cE e))) 0) 2).toI = (e.t : Int) - (now - e.p) := by
            show (if (0 : Int) > IntKind.i64.wrap ((e.t : Int) - IntKind.i64.wrap ((now : Int) - (e.p : Int))) then (0 : Int) else IntKind.i64.wrap ((e.t : Int) - IntKind.i64.wrap ((now : Int) - (e.p : Int)))) = _
            rw [wrap_ok (a := (now : Int) - (e.p : Int)) (by omega) (by omega), wrap_ok (by omega) (by omega), if_neg (by omega)]
          have hc2 : IntKind.i64.wrap ((cl (mE e) 2).toI - IntKind.i64.wrap ((now : Int) - (cl (mE e) 4).toI)) = (e.t : Int) - (now - e.p) := by
            show IntKind.i64.wrap ((e.t : Int) - IntKind.i64.wrap ((now : Int) - (e.p : Int))) = _
            rw [wrap_ok (a := (now : Int) - (e.p : Int)) (by omega) (by omega), wrap_ok (by omega) (by omega)]
          have hnm : (cl (el (getL now (some (cE e))) 0) 0).toS = one (97 + j) := by
            unfold sq at h1
            simp only [decide_eq_true_eq] at h1
            rw [← h1.1]
            rfl
          rw [show Option.map cE (some e) = some (cE e) from rfl, hcl, hc2, hnm]
          rw [bcond_no (b := _ != (1 : Int)) (by rfl), bcond_of (b := inB (0 : Int) _) (by rfl), bcond_no (by simp), bcond_of (b := inB (0 : Int) _) (by rfl), bcond_no (by simp)]
          rfl)
    (fun _ _ _ _ _ _ => trivial)
    (fun m s _ => by
      show evLoop false (f7_s53 n) (m + 1) _ _ = _
      rw [f7_t53, List.length_map, lt_nat, bcond_no (by simp)])
    E.length 0 0 m (by omega) hm trivial
  refine hL.trans ?_
  rw [List.drop_zero]
  congr 2
  clear hL hm hlen h
  have key : ∀ (l : List Ey) (s : Int), l.foldl (fun s e => if hitE now j k e = true then 1 else s) s = if l.any (hitE now j k) = true then 1 else s := by
    intro l
    induction l with
    | nil => intro s; rfl
    | cons x l ih =>
      intro s
      rw [List.foldl_cons, ih, List.any_cons]
      cases hitE now j k x <;> cases l.any (hitE now j k) <;> rfl
  rw [key]
  cases hf : E.find? (hitE now j k) with
  | none =>
    rw [List.find?_eq_none] at hf
    rw [if_neg (by rw [List.any_eq_true]; rintro ⟨x, hx, hp⟩; exact hf x hx hp)]
    rfl
  | some e =>
    rw [if_pos (by rw [List.any_eq_true]; exact ⟨e, List.mem_of_find?_eq_some hf, List.find?_some hf⟩)]
    rfl

end Go.Proofs.Ytacklcdhfoedlaa
