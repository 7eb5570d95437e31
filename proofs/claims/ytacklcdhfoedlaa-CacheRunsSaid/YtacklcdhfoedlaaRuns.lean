/- Runs -/
import Derived.Test.YtacklcdhfoedlaaRc
import Derived.KernelRfl
namespace Go.Proofs.Ytacklcdhfoedlaa
open Go Go.Eng
set_option maxRecDepth 100000
theorem nm97 {i : Nat} (h : i ≤ 100) : strOf [[C.int IntKind.u8 (IntKind.u8.wrap (IntKind.i64.wrap ((97 : Int) + (i : Int))))]] = one (97 + i) := by
  rw [wrap_ok (by omega) (by omega), show (97 : Int) + (i : Int) = ((97 + i : Nat) : Int) from rfl, u8_nat (by omega), strOf_one]
theorem es_ok {E : List Ey} {size now : Nat} (h : Inv E size now) (hs : size ≤ 7) : (Nat.ble (E.map cE).length 1000000 && (E.map cE).all fun e => Nat.ble (cl e 3).toL.length 1000000) = true := by
  have := h.1
  rw [Bool.and_eq_true, Nat.ble_eq, List.length_map, List.all_eq_true]
  refine ⟨by omega, fun e he => ?_⟩
  obtain ⟨x, _, rfl⟩ := List.mem_map.1 he
  rfl
theorem f7_L47 (n : Nat) (hn : 1000 < n) (kk : X → St → Option R) (mm : Nat) (E : List Ey) (size now : Nat) (h : Inv E size now) (hs : size ≤ 7) (hnow : now ≤ 1000) (s0 sz s35 s36 : Int) (s34 : List (List C)) : ∀ (d m i : Nat), i + d = 16 → d < m →
    evLoop false (f7_s47 n) m (f7_h47 s0 s34 s35 s36 i sz (E.map cE) (E.map mE) now) (f7_k47 n mm kk) = evLoop false (f7_s10 n) mm (f7_h10 s0 s34 s35 (IntKind.i64.wrap (s36 + 1)) sz (E.map cE) (E.map mE) now) kk
  | 0, m, i, hi, hm => by
    obtain ⟨m, rfl⟩ : ∃ g, m = g + 1 := ⟨m - 1, by omega⟩
    rw [f7_t47, bcond_no (by simp; omega), f7_a47_7]
  | d + 1, m, i, hi, hm => by
    obtain ⟨m, rfl⟩ : ∃ g, m = g + 1 := ⟨m - 1, by omega⟩
    have e1 : iand IntKind.i64 (i : Int) 7 = ((i % 8 : Nat) : Int) := by rw [iand_7]; omega
    have e2 : IntKind.i64.wrap ((1 : Int) + ishr IntKind.i64 (i : Int) 3) = 1 + ((i / 8 : Nat) : Int) := by
      rw [show (3 : Int) = ((3 : Nat) : Int) from rfl, ishr_nat _ 3 (by decide), wrap_ok (by simp; omega) (by simp; omega)]
      simp
    have hj : i % 8 < 8 := Nat.mod_lt _ (by decide)
    have hlen := h.1
    rw [f7_t47, bcond_of (by simp; omega), bcond_of (es_ok h hs), e1, e2, nm97 (by omega), get_c h hj]
    rw [f7_L53 n _ E size now (i % 8) (i / 8) h hj hnow (by omega) s0 sz s35 s36 i s34 _ n (by omega), f7_a53_9, bcond_no (by simp), wrap_succ (by omega)]
    have hgo : ∀ o : Option (List C), (getO o == 0) = true ∨ True := fun _ => .inr trivial
    cases hf : E.find? (hitE now (i % 8) (i / 8)) with
    | none =>
      rw [bcond_of (b := getO _ == (0 : Int)) rfl, bcond_no (by simp [getL])]
      exact f7_L47 n hn kk mm E size now h hs hnow s0 sz s35 s36 s34 d m (i + 1) (by omega) (by omega)
    | some e =>
      rw [bcond_no (b := getO _ == (0 : Int)) rfl]
      exact f7_L47 n hn kk mm E size now h hs hnow s0 sz s35 s36 s34 d m (i + 1) (by omega) (by omega)
/-- What stays at a put. -/
def restE (now size : Nat) (E : List Ey) (j k : Nat) : List Ey :=
  let R := (E.filter (lv now)).filter fun e => !sq j k e
  if R.length = size then R.take (minIx (R.map cE)) ++ R.drop (minIx (R.map cE) + 1) else R
theorem rest_len {E : List Ey} {size now now' j k : Nat} (h : Inv E size now) (hs : 0 < size) : (restE now' size E j k).length + 1 ≤ size := by
  have h1 : ((E.filter (lv now')).filter fun e => !sq j k e).length ≤ E.length := Nat.le_trans (List.length_filter_le _ _) (List.length_filter_le _ _)
  have h2 := h.1
  unfold restE
  simp only
  split
  · rename_i hq
    have := minIx_lt (((E.filter (lv now')).filter fun e => !sq j k e).map cE) (by rw [List.length_map]; omega)
    rw [List.length_map] at this
    rw [List.length_append, List.length_take, List.length_drop]
    omega
  · omega
theorem rest_sub {E : List Ey} {now size j k : Nat} : (restE now size E j k).Sublist E := by
  have h1 : ((E.filter (lv now)).filter fun e => !sq j k e).Sublist E := List.filter_sublist.trans List.filter_sublist
  unfold restE
  simp only
  split
  · refine List.Sublist.trans ?_ h1
    generalize ((E.filter (lv now)).filter fun e => !sq j k e) = R
    have h2 : (R.take (minIx (R.map cE)) ++ R.drop (minIx (R.map cE) + 1)).Sublist (R.take (minIx (R.map cE)) ++ R.drop (minIx (R.map cE))) :=
      List.Sublist.append (List.Sublist.refl _) (by rw [← List.drop_drop]; exact List.drop_sublist _ _)
    rwa [List.take_append_drop] at h2
  · exact h1
theorem rest_sq {E : List Ey} {now size j k : Nat} {e : Ey} (h : e ∈ restE now size E j k) : sq j k e = false := by
  have : e ∈ (E.filter (lv now)).filter fun e => !sq j k e := by
    unfold restE at h
    simp only at h
    split at h
    · rcases List.mem_append.1 h with h | h
      · exact List.mem_of_mem_take h
      · exact List.mem_of_mem_drop h
    · exact h
  simpa using (List.mem_filter.1 this).2
theorem put_inv {E : List Ey} {size now now' j k t : Nat} (h : Inv E size now) (hn : now ≤ now') (h1000 : now' ≤ 1000) (hs : 0 < size) (hj : j < 8) (hk : k < 2) (ht : 1 ≤ t) (ht2 : t ≤ 14) : Inv (restE now' size E j k ++ [(⟨j, k, t, now'⟩ : Ey)]) size now' := by
  have h2 := h.sub (rest_sub (now := now') (size := size) (j := j) (k := k)) hn
  refine ⟨by simpa using rest_len h hs, fun e he => ?_, ?_⟩
  · rcases List.mem_append.1 he with he | he
    · exact h2.2.1 e he
    · rw [List.mem_singleton.1 he]
      exact ⟨⟨hj, hk, ht, ht2, h1000⟩, Nat.le_refl _⟩
  · rw [List.pairwise_append]
    refine ⟨h2.2.2, by simp, fun a ha b hb hc => ?_⟩
    rw [List.mem_singleton.1 hb] at hc
    have := rest_sq ha
    unfold sq at this
    rw [decide_eq_false_iff_not] at this
    exact this hc
theorem filt_c {E : List Ey} {size now0 : Nat} (h : Inv E size now0) (now : Nat) : (E.map cE).filter (live now) = (E.filter (lv now)).map cE := filter_map' cE _ _ fun e he => live_c (h.2.1 e he).1 now
theorem filt_m {E : List Ey} {size now0 : Nat} (h : Inv E size now0) (now : Nat) : (E.map mE).filter (liveM now) = (E.filter (lv now)).map mE := filter_map' mE _ _ fun e he => live_m (h.2.1 e he).1 now
theorem put_c {E : List Ey} {size now0 now j k t : Nat} (h : Inv E size now0) (hs : 0 < size) (hj : j < 8) (ht : 1 ≤ t) : putR now size (E.map cE) (.str (one (97 + j))) (.int .i64 (1 + (k : Int))) 1 [recR j k t] (t : Int) = (restE now size E j k ++ [(⟨j, k, t, now⟩ : Ey)]).map cE := by
  unfold putR
  rw [if_neg (by simp; omega), if_neg (by simp; omega), List.map_append]
  refine congr (congrArg _ ?_) rfl
  unfold restOf
  have h2 := h.sub (F := E.filter (lv now)) List.filter_sublist (Nat.le_refl _)
  rw [filt_c h, filter_map' cE _ (fun e => !sq j k e) fun e he => notQ_c (h2.2.1 e he).1 hj]
  unfold restE
  simp only [List.length_map]
  by_cases hq : ((E.filter (lv now)).filter fun e => !sq j k e).length = size
  · rw [if_pos (by rw [hq, beq_iff_eq]), if_pos hq, List.map_append, List.map_take, List.map_drop]
  · rw [if_neg (by rw [beq_iff_eq]; omega), if_neg hq]
theorem f7_L22 (n : Nat) (kk : X → St → Option R) (F : List Ey) (size now0 : Nat) (h : Inv F size now0) (hs : size ≤ 7) {j : Nat} (hj : j < 8) (k : Nat) (s0 s11 s35 s36 sz now : Int) (s34 es b6 : List (List C)) (m : Nat) (hm : F.length < m) :
    evLoop false (f7_s22 n) m (f7_h22 s0 s11 s34 s35 s36 (F.map mE) ((F.map mE).length : Int) 0 sz es b6 now (one (97 + j)) (1 + (k : Int)) []) kk = kk (.exit 3) (f7_x22_3 s0 s11 s34 s35 s36 sz es b6 now (one (97 + j)) (1 + (k : Int)) ((F.filter fun e => !sq j k e).map mE)) := by
  have hlen := h.1
  have hL := fold_loop (xs := F) (L := fun m i (acc : List (List C)) => evLoop false (f7_s22 n) m (f7_h22 s0 s11 s34 s35 s36 (F.map mE) ((F.map mE).length : Int) i sz es b6 now (one (97 + j)) (1 + (k : Int)) acc) kk)
    (f := fun acc e => if (!sq j k e) = true then acc ++ [mE e] else acc) (E := fun acc => kk (.exit 3) (f7_x22_3 s0 s11 s34 s35 s36 sz es b6 now (one (97 + j)) (1 + (k : Int)) acc)) (fun i acc => acc.length ≤ i)
    (fun m i acc e hx hlt hI => by
      show evLoop false (f7_s22 n) (m + 1) _ _ = evLoop false (f7_s22 n) m _ _
      have hx2 : (F.map mE)[i]? = some (mE e) := by rw [List.getElem?_map, hx]; rfl
      have hr : roomOk (acc.length + [mE e].length) 48 = true := roomOk_of (by simp; omega) (by simp; omega)
      rw [f7_t22]
      simp only [lt_nat, inB_nat, Int.toNat_natCast, el_get hx2, wrap_succ (i := i) (by omega), List.length_map, hlt, decide_true, bcond_t, eqQ_m (h.2.1 e (List.mem_of_getElem? hx)).1 hj, hr]
      cases sq j k e <;> rfl)
    (fun i acc e hx hlt hI => by split <;> (try simp) <;> omega)
    (fun m acc _ => by
      show evLoop false (f7_s22 n) (m + 1) _ _ = _
      rw [f7_t22, List.length_map, lt_nat, bcond_no (by simp)])
    F.length 0 [] m (by omega) hm (by simp)
  refine hL.trans ?_
  rw [List.drop_zero]
  congr 2
  have key : ∀ (l : List Ey) (acc : List (List C)), l.foldl (fun acc e => if (!sq j k e) = true then acc ++ [mE e] else acc) acc = acc ++ (l.filter fun e => !sq j k e).map mE := by
    intro l
    induction l with
    | nil => intro acc; simp
    | cons x l ih =>
      intro acc
      rw [List.foldl_cons, ih, List.filter_cons]
      cases sq j k x <;> simp
  rw [key]
  rfl
theorem f7_L30 (n : Nat) (kk : X → St → Option R) (F : List Ey) (size now0 : Nat) (h : Inv F size now0) (hs : size ≤ 7) (h0 : 0 < F.length) (s0 s11 s35 s36 sz now q1 : Int) (q0 : ByteArray) (s34 es b6 : List (List C)) (m : Nat) (hm : F.length < m) :
    evLoop false (f7_s30 n) m (f7_h30 s0 s11 0 s34 s35 s36 ((F.map mE).length : Int) 0 sz es b6 now q0 q1 (F.map mE)) kk = kk (.exit 5) (f7_x30_5 s0 s11 (minIx (F.map cE) : Int) s34 s35 s36 sz es b6 now q0 q1 (F.map mE)) := by
  have hlen := h.1
  have hz : (F.map cE).zipIdx.length = F.length := by rw [List.length_zipIdx, List.length_map]
  have hL := fold_loop (xs := (F.map cE).zipIdx) (L := fun m i (s : Nat) => evLoop false (f7_s30 n) m (f7_h30 s0 s11 s s34 s35 s36 ((F.map mE).length : Int) i sz es b6 now q0 q1 (F.map mE)) kk)
    (f := soon (F.map cE)) (E := fun s => kk (.exit 5) (f7_x30_5 s0 s11 (s : Int) s34 s35 s36 sz es b6 now q0 q1 (F.map mE))) (fun _ s => s < F.length)
    (fun m i s x hx hlt hI => by
      show evLoop false (f7_s30 n) (m + 1) _ _ = evLoop false (f7_s30 n) m _ _
      rw [hz] at hlt
      have h1 : F[i]? = some F[i] := List.getElem?_eq_getElem hlt
      have h2 : F[s]? = some F[s] := List.getElem?_eq_getElem hI
      have c1 : (F.map cE)[i]? = some (cE F[i]) := by rw [List.getElem?_map, h1]; rfl
      have c2 : (F.map cE)[s]? = some (cE F[s]) := by rw [List.getElem?_map, h2]; rfl
      have m1 : (F.map mE)[i]? = some (mE F[i]) := by rw [List.getElem?_map, h1]; rfl
      have m2 : (F.map mE)[s]? = some (mE F[s]) := by rw [List.getElem?_map, h2]; rfl
      have o1 := (h.2.1 _ (List.mem_of_getElem? h1)).1
      have o2 := (h.2.1 _ (List.mem_of_getElem? h2)).1
      rw [List.getElem?_zipIdx, c1] at hx
      simp only [Option.map_some, Option.some.injEq, Nat.zero_add] at hx
      subst hx
      rw [f7_t30]
      simp only [lt_nat, inB_nat, Int.toNat_natCast, el_get m1, el_get m2, wrap_succ (i := i) (by omega), List.length_map, hlt, hI, decide_true, bcond_t, soon, until_m o1, until_m o2, el_get c2, until_c o1, until_c o2]
      split
      · rename_i hp
        rw [bcond_of hp]
      · rename_i hp
        rw [bcond_no (by simpa using hp)])
    (fun i s x hx hlt hI => by
      unfold soon
      split
      · have := List.mem_zipIdx (List.mem_of_getElem? hx)
        rw [List.length_map] at this
        omega
      · exact hI)
    (fun m s _ => by
      show evLoop false (f7_s30 n) (m + 1) _ _ = _
      rw [f7_t30, hz, List.length_map, lt_nat, bcond_no (by simp)])
    F.length 0 0 m (by omega) hm h0
  exact hL
theorem chk (n : Nat) (hn : 1000 < n) (kk : X → St → Option R) (rr rr2 : Option R) (mm : Nat) (E : List Ey) (size now : Nat) (h : Inv E size now) (hs : size ≤ 7) (hnow : now ≤ 1000) (sz s35 : Int) (i : Nat) (hi : i ≤ 1000) (s34 : List (List C)) :
    bcond (((E.map cE).length : Int) != ((E.map mE).length : Int)) rr (bcond (decide (((E.map cE).length : Int) > (size : Int))) rr2 (evLoop false (f7_s47 n) n (f7_h47 size s34 s35 i 0 sz (E.map cE) (E.map mE) now) (f7_k47 n mm kk))) =
      evLoop false (f7_s10 n) mm (f7_h10 size s34 s35 ((i + 1 : Nat) : Int) sz (E.map cE) (E.map mE) now) kk := by
  have hlen := h.1
  have hL := f7_L47 n hn kk mm E size now h hs hnow size sz s35 i s34 16 n 0 rfl (by omega)
  rw [wrap_succ (by omega)] at hL
  rw [bcond_no (by simp), bcond_no (by simp; omega)]
  exact hL
theorem chk2 (n : Nat) (hn : 1000 < n) (kk : X → St → Option R) (rr rr2 : Option R) (mm : Nat) (E : List Ey) (size now : Nat) (h : Inv E size now) (hs : size ≤ 7) (hnow : now ≤ 1000) (sz s35 : Int) (i : Nat) (hi : i ≤ 1000) (s34 : List (List C)) :
    bcond (((E.map cE).length : Int) != ((E.map mE).length : Int)) rr (bcond (decide (size < (E.map cE).length)) rr2 (evLoop false (f7_s47 n) n (f7_h47 size s34 s35 i 0 sz (E.map cE) (E.map mE) now) (f7_k47 n mm kk))) =
      evLoop false (f7_s10 n) mm (f7_h10 size s34 s35 ((i + 1 : Nat) : Int) sz (E.map cE) (E.map mE) now) kk := by
  rw [← lt_nat]
  exact chk n hn kk rr rr2 mm E size now h hs hnow sz s35 i hi s34
theorem new_m (j k t now : Nat) : [C.str (one (97 + j)), C.int IntKind.i64 (1 + (k : Int)), C.int IntKind.i64 (t : Int), C.int IntKind.i64 (IntKind.i64.wrap ((now : Int) + (t : Int))), ((ti tab 3).ks.getD 0 K.no).norm (C.int IntKind.i64 (now : Int))] = mE ⟨j, k, t, now⟩ := rfl
theorem put_step (n : Nat) (hn : 1000 < n) (kk : X → St → Option R) (mm : Nat) (E : List Ey) (size now0 now j k t : Nat) (h : Inv E size now0) (hN : now0 ≤ now) (hs0 : 0 < size) (hs : size ≤ 7) (hnow : now ≤ 1000) (hj : j < 8) (hk : k < 2) (ht : 1 ≤ t) (ht2 : t ≤ 14) (sz s35 : Int) (i : Nat) (hi : i ≤ 1000) (s34 b6 : List (List C)) :
    evLoop false (f7_s22 n) n (f7_h22 size t s34 s35 i (((E.filter (lv now)).map mE)) ((((E.filter (lv now)).map mE)).length : Int) 0 sz ((restE now size E j k ++ [(⟨j, k, t, now⟩ : Ey)]).map cE) b6 now (one (97 + j)) (1 + (k : Int)) []) (f7_k22 n mm kk) =
      evLoop false (f7_s10 n) mm (f7_h10 size s34 s35 ((i + 1 : Nat) : Int) sz ((restE now size E j k ++ [(⟨j, k, t, now⟩ : Ey)]).map cE) ((restE now size E j k ++ [(⟨j, k, t, now⟩ : Ey)]).map mE) now) kk := by
  have hF := h.sub (F := E.filter (lv now)) List.filter_sublist (Nat.le_refl _)
  have hlF := hF.1
  have hR := hF.sub (F := (E.filter (lv now)).filter fun e => !sq j k e) List.filter_sublist (Nat.le_refl _)
  have hput := put_inv (j := j) (k := k) (t := t) h hN hnow hs0 hj hk ht ht2
  rw [f7_L22 n _ _ size now0 hF hs hj k _ _ _ _ _ _ _ _ _ n (by omega), f7_a22_3, new_m]
  have hrest : restE now size E j k = if ((E.filter (lv now)).filter fun e => !sq j k e).length = size then ((E.filter (lv now)).filter fun e => !sq j k e).take (minIx (((E.filter (lv now)).filter fun e => !sq j k e).map cE)) ++ ((E.filter (lv now)).filter fun e => !sq j k e).drop (minIx (((E.filter (lv now)).filter fun e => !sq j k e).map cE) + 1) else ((E.filter (lv now)).filter fun e => !sq j k e) := rfl
  obtain ⟨R, hRR⟩ : ∃ R, R = (E.filter (lv now)).filter fun e => !sq j k e := ⟨_, rfl⟩
  rw [← hRR] at hR hrest ⊢
  have hlR := hR.1
  by_cases hq : R.length = size
  · have hmi := minIx_lt (R.map cE) (by rw [List.length_map]; omega)
    rw [List.length_map] at hmi
    rw [if_pos hq] at hrest
    rw [bcond_of (by rw [List.length_map, hq, beq_iff_eq]), f7_L30 n _ R size now0 hR hs (by omega) _ _ _ _ _ _ _ _ _ _ _ n (by omega), f7_a30_5, new_m]
    have e1 : lstCut (R.map mE) 0 (minIx (R.map cE) : Int).toNat = (R.take (minIx (R.map cE))).map mE := by simp [lstCut, List.map_take]
    have e2 : lstCut (R.map mE) (IntKind.i64.wrap ((minIx (R.map cE) : Int) + 1)).toNat ((R.map mE).length : Int).toNat = (R.drop (minIx (R.map cE) + 1)).map mE := by
      rw [wrap_succ (by omega), Int.toNat_natCast, Int.toNat_natCast, lstCut, List.take_of_length_le (Nat.le_refl _), List.map_drop]
    have e3 : (R.take (minIx (R.map cE))).map mE ++ (R.drop (minIx (R.map cE) + 1)).map mE ++ [mE ⟨j, k, t, now⟩] = (restE now size E j k ++ [(⟨j, k, t, now⟩ : Ey)]).map mE := by
      rw [hrest, List.map_append, List.map_append]
      rfl
    rw [e1, e2, wrap_succ (by omega), e3]
    simp only [inE_nat, Int.toNat_natCast]
    rw [bcond_of (by rw [List.length_map]; simp; omega), bcond_of (roomOk_of (by simp; omega) (by simp; omega)), bcond_of (by simp), bcond_of (by rw [List.length_map]; simp; omega), bcond_of (roomOk_of (by simp; omega) (by simp; omega)), bcond_of (roomOk_of (by simp; omega) (by simp; omega))]
    exact chk n hn kk _ _ mm _ size now hput hs hnow sz s35 i hi s34
  · rw [if_neg hq] at hrest
    rw [bcond_no (by rw [List.length_map, beq_eq_false_iff_ne]; omega), bcond_of (roomOk_of (by simp; omega) (by simp; omega))]
    have e3 : R.map mE ++ [mE ⟨j, k, t, now⟩] = (restE now size E j k ++ [(⟨j, k, t, now⟩ : Ey)]).map mE := by
      rw [hrest, List.map_append]
      rfl
    rw [e3]
    exact chk n hn kk _ _ mm _ size now hput hs hnow sz s35 i hi s34
theorem f7_L10 (n : Nat) (hn : 1000 < n) (l : List (List C)) (hl : l.length ≤ 200) (size : Nat) (hs : size ≤ 7) : ∀ (d i m : Nat) (E : List Ey) (now : Nat), i + d = l.length → d < m → Inv E size now → now ≤ 3 * i →
    evLoop false (f7_s10 n) m (f7_h10 size l (l.length : Int) i size (E.map cE) (E.map mE) now) (f7_k10 n) = some (.one (.c (.bool true)), []) := by
  intro d
  induction d with
  | zero =>
    intro i m E now hi hm h hnow
    obtain ⟨m, rfl⟩ : ∃ g, m = g + 1 := ⟨m - 1, by omega⟩
    rw [f7_t10, bcond_no (by simp; omega), f7_a10_0]
  | succ d ih =>
    intro i m E now hi hm h hnow
    obtain ⟨m, rfl⟩ : ∃ g, m = g + 1 := ⟨m - 1, by omega⟩
    have hlen := h.1
    have hlt : i < l.length := by omega
    have hx : l[i]? = some l[i] := List.getElem?_eq_getElem hlt
    obtain ⟨x, hxx⟩ : ∃ x, x = l[i] := ⟨_, rfl⟩
    rw [← hxx] at hx
    obtain ⟨w, hw⟩ : ∃ w : Nat, ((cl x 2).toI % 4) = (w : Int) ∧ w < 4 := ⟨((cl x 2).toI % 4).toNat, by omega, by omega⟩
    obtain ⟨j, hj⟩ : ∃ w : Nat, ((cl x 1).toI % 8) = (w : Int) ∧ w < 8 := ⟨((cl x 1).toI % 8).toNat, by omega, by omega⟩
    obtain ⟨k, hk⟩ : ∃ w : Nat, ((cl x 1).toI / 8 % 2) = (w : Int) ∧ w < 2 := ⟨((cl x 1).toI / 8 % 2).toNat, by omega, by omega⟩
    obtain ⟨tt, htt⟩ : ∃ tt : Int, (cl x 3).toI % 16 - 1 = tt ∧ -1 ≤ tt ∧ tt ≤ 14 := ⟨_, rfl, by omega, by omega⟩
    have hNow : IntKind.i64.wrap ((now : Int) + iand .i64 (cl x 2).toI 3) = ((now + w : Nat) : Int) := by rw [iand_3, hw.1, wrap_ok (by omega) (by omega)]; omega
    have hNM : strOf [[C.int IntKind.u8 (IntKind.u8.wrap (IntKind.i64.wrap ((97 : Int) + iand .i64 (cl x 1).toI 7)))]] = one (97 + j) := by rw [iand_7, hj.1]; exact nm97 (by omega)
    have hTY : IntKind.i64.wrap ((1 : Int) + iand .i64 (ishr .i64 (cl x 1).toI 3) 1) = 1 + (k : Int) := by
      rw [show (3 : Int) = ((3 : Nat) : Int) from rfl, ishr_nat _ 3 (by decide), iand_1]
      rw [show ((2 ^ 3 : Nat) : Int) = 8 from rfl, hk.1, wrap_ok (by omega) (by omega)]
    have hTT : IntKind.i64.wrap (iand .i64 (cl x 3).toI 15 - 1) = tt := by rw [iand_15, htt.1, wrap_ok (by omega) (by omega)]
    rw [f7_t10]
    simp only [lt_nat, inB_nat, Int.toNat_natCast, el_get hx, hlt, decide_true, bcond_t, hNow, hNM, hTY, hTT]
    have hN1 : now + w ≤ 1000 := by omega
    cases h3 : (IntKind.i64.wrap ((cl x 0).toI.tmod 6 + 6)).tmod 6 == 3 with
    | true =>
      rw [bcond_t]
      have h' := h.sub (List.Sublist.refl _) (now' := now + w) (by omega)
      exact (chk2 n hn _ _ _ m E size (now + w) h' hs hN1 size _ i (by omega) l).trans (ih (i + 1) m E (now + w) (by omega) (by omega) h' (by omega))
    | false =>
      rw [bcond_f]
      cases h4 : (IntKind.i64.wrap ((cl x 0).toI.tmod 6 + 6)).tmod 6 == 4 with
      | true =>
        rw [bcond_t, bcond_of (by rw [Nat.ble_eq, List.length_map]; omega), bcond_of (by rw [Nat.ble_eq, List.length_map]; omega), filt_c h, filt_m h]
        have h' := h.sub (F := E.filter (lv (now + w))) List.filter_sublist (now' := now + w) (by omega)
        exact (chk2 n hn _ _ _ m _ size (now + w) h' hs hN1 size _ i (by omega) l).trans (ih (i + 1) m _ (now + w) (by omega) (by omega) h' (by omega))
      | false =>
        rw [bcond_f]
        cases h5 : (IntKind.i64.wrap ((cl x 0).toI.tmod 6 + 6)).tmod 6 == 5 with
        | true =>
          rw [bcond_t]
          have h' := h.sub (F := []) (List.nil_sublist _) (now' := now + w) (by omega)
          have hc := chk2 n hn (f7_k10 n) none none m [] size (now + w) h' hs hN1 size (l.length : Int) i (by omega) l
          rw [bcond_no (by simp), bcond_no (by simp)] at hc
          rw [bcond_no (by simp)]
          exact hc.trans (ih (i + 1) m [] (now + w) (by omega) (by omega) h' (by omega))
        | false =>
          rw [bcond_f, bcond_of (by rw [Bool.and_eq_true, Nat.ble_eq, List.length_map]; exact ⟨by omega, rfl⟩)]
          have h' := h.sub (List.Sublist.refl _) (now' := now + w) (by omega)
          by_cases hz : size = 0
          · have hp : ∀ rs, putR ((now + w : Nat) : Int) (size : Int) (E.map cE) (.str (one (97 + j))) (.int .i64 (1 + (k : Int))) 1 rs tt = E.map cE := fun rs => by unfold putR; rw [if_pos (by simp [hz])]
            rw [bcond_of (by simp [hz])]
            simp only [hp]
            exact (chk2 n hn _ _ _ m E size (now + w) h' hs hN1 size _ i (by omega) l).trans (ih (i + 1) m E (now + w) (by omega) (by omega) h' (by omega))
          · rw [bcond_no (by simp [hz])]
            cases h1 : decide (tt < 1) with
            | true =>
              have hp : ∀ rs, putR ((now + w : Nat) : Int) (size : Int) (E.map cE) (.str (one (97 + j))) (.int .i64 (1 + (k : Int))) 1 rs tt = E.map cE := fun rs => by unfold putR; rw [if_neg (by simp [hz]), if_pos h1]
              rw [bcond_t]
              simp only [hp]
              exact (chk2 n hn _ _ _ m E size (now + w) h' hs hN1 size _ i (by omega) l).trans (ih (i + 1) m E (now + w) (by omega) (by omega) h' (by omega))
            | false =>
              rw [decide_eq_false_iff_not] at h1
              obtain ⟨t, rfl⟩ : ∃ t : Nat, tt = (t : Int) := ⟨tt.toNat, by omega⟩
              rw [bcond_f, bcond_of (by rw [Nat.ble_eq, List.length_map]; omega), filt_m h, if_neg (by omega)]
              have hpc := put_c (now := now + w) (k := k) (t := t) h (by omega) hj.2 (by omega)
              have hinv := put_inv (j := j) (k := k) (t := t) h (now' := now + w) (by omega) hN1 (by omega) hj.2 hk.2 (by omega) (by omega)
              have hst := put_step n hn (f7_k10 n) m E size now (now + w) j k t h (by omega) (by omega) hs hN1 hj.2 hk.2 (by omega) (by omega) size (l.length : Int) i (by omega) l ((E.filter (lv (now + w))).map mE)
              rw [← hpc] at hst
              refine Eq.trans hst ?_
              rw [hpc]
              exact ih (i + 1) m _ (now + w) (by omega) (by omega) hinv (by omega)
theorem f7_out (n : Nat) (hn : 1000 < n) (s : Int) (l : List (List C)) : evFn tab FR nO false lv7 false n Try.f7 [.one (.c (.int .i64 s)), .one (.c (.sl 49 l))] [] = some (.one (.c (.bool true)), []) := by
  rw [f7_eq]
  cases h1 : decide ((l.length : Int) > 200) with
  | true => rfl
  | false =>
    rw [decide_eq_false_iff_not] at h1
    obtain ⟨z, hz⟩ : ∃ z : Nat, s % 8 = (z : Int) ∧ z ≤ 7 := ⟨(s % 8).toNat, by omega, by omega⟩
    rw [bcond_f, iand_7, hz.1, show clampN (z : Int) = (z : Int) from by unfold clampN; rw [if_neg (by split <;> omega), if_neg (by omega)]]
    exact f7_L10 n hn l (by omega) z hz.2 l.length 0 n [] 0 (by omega) (by omega) ⟨Nat.zero_le _, fun _ h => (by cases h), List.Pairwise.nil⟩ (Nat.zero_le _)
theorem law_CacheRuns : ∀ xs, All2 (ArgOk tab) [3, 46] xs → FnAt Try.prog tab 7 (List.zipWith (argV tab) [3, 46] xs) [] (.one (.c (.bool true))) [] := by
  intro xs h
  match xs, h with
  | [x, y], h =>
    obtain ⟨s, rfl⟩ := wk_int h.1.1
    obtain ⟨l, rfl⟩ := wk_sl h.2.1.1
    exact fn7 sFR rfl (f7_out 1001 (by omega) s l)

end Go.Proofs.Ytacklcdhfoedlaa
