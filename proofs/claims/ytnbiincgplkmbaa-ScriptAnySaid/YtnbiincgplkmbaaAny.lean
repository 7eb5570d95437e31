/- Any -/
import Derived.Test.YtnbiincgplkmbaaPe
import Derived.KernelRfl
namespace Go.Proofs.Ytnbiincgplkmbaa
open Go Go.Eng
set_option maxRecDepth 100000
noncomputable abbrev f4_c9 : Code := (loops (body Try.f4)).getD 0 .skip
noncomputable abbrev f4_s9 (n : Nat) : St → (X → St → Option R) → Option R := fun st k => evCode tab FH nO lv4 false n f4_c9 st k
noncomputable abbrev f4_k9 (n : Nat) : X → St → Option R := after tab FH nO lv4 false n (body Try.f4) 0 (endK tab false Try.f4)
abbrev f4_h9 (s0 : List (List C)) (s3 : List (List C)) (s27 : List (List C)) (s28 : Int) (s29 : Int) : St := { t := [((0 : Nat), V.one (A.c (C.sl (5 : Nat) s0))), ((3 : Nat), V.one (A.c (C.sl (36 : Nat) s3))), ((27 : Nat), V.one (A.c (C.sl (36 : Nat) s27))), ((28 : Nat), V.one (A.c (C.int IntKind.i64 s28))), ((29 : Nat), V.one (A.c (C.int IntKind.i64 s29)))], h := [] }
abbrev f4_x9_r (s2 : Bool) (b5 : List C) : St := { t := [((2 : Nat), V.one (A.c (C.bool s2)))], h := [(Key.loc (5 : Nat) (0 : Nat), (0 : Nat), B.box (36 : Nat) b5 [])] }
abbrev f4_x9_0 (s3 : List (List C)) : St := { t := [((3 : Nat), V.one (A.c (C.sl (36 : Nat) s3)))], h := [] }
theorem f4_t9 (n m : Nat) (k : X → St → Option R) (s0 : List (List C)) (s3 : List (List C)) (s27 : List (List C)) (s28 : Int) (s29 : Int) : evLoop false (f4_s9 n) (m + 1) (f4_h9 s0 s3 s27 s28 s29) k = bcond (decide (s29 < s28)) (bcond (inB s29 s27.length) (bcond (decide ((cl (el s27 s29.toNat) (0 : Nat)).toI < (0 : Int))) (k X.ret (f4_x9_r (false) (el s27 s29.toNat))) (bcond (decide ((cl (el s27 s29.toNat) (0 : Nat)).toI > (7 : Int))) (k X.ret (f4_x9_r (false) (el s27 s29.toNat))) (bcond (decide ((cl (el s27 s29.toNat) (1 : Nat)).toI < (0 : Int))) (k X.ret (f4_x9_r (false) (el s27 s29.toNat))) (bcond (decide ((cl (el s27 s29.toNat) (1 : Nat)).toI > (7 : Int))) (k X.ret (f4_x9_r (false) (el s27 s29.toNat))) (bcond (decide ((↑(cl (el s27 s29.toNat) (23 : Nat)).toL.length : Int) > (↑s0.length : Int))) (k X.ret (f4_x9_r (false) (el s27 s29.toNat))) (bcond (decide ((↑(cl (el s27 s29.toNat) (26 : Nat)).toL.length : Int) > (3 : Int))) (k X.ret (f4_x9_r (false) (el s27 s29.toNat))) (evLoop false (f4_s9 n) m (f4_h9 (s0) (s3) (s27) (s28) (IntKind.i64.wrap (s29 + (1 : Int)))) k))))))) (none)) (k (X.exit 0) (f4_x9_0 (s3))) := by kernel_rfl
theorem f4_a9_r (n : Nat) (s2 : Bool) (b5 : List C) : f4_k9 n X.ret (f4_x9_r s2 b5) = some ((V.one (A.c (C.bool s2)), [])) := by kernel_rfl
theorem f4_a9_0 (n : Nat) (s3 : List (List C)) : f4_k9 n (X.exit 0) (f4_x9_0 s3) = bcond (s3.all okEv && s3.length.ble (100000 : Nat)) (bcond (isB (toB (encR s3)) && (toB (encR s3)).length.ble lim38) (bcond ((decR (unB (toB (encR s3)))).all okEv && (decR (unB (toB (encR s3)))).length.ble (100000 : Nat)) (bcond (s3.all okEv && s3.length.ble (100000 : Nat)) (some ((V.one (A.c (C.bool (sameB (decR (unB (toB (encR s3)))) s3))), []))) (none)) (none)) (none)) (none) := by kernel_rfl
theorem f4_eq (n : Nat) (xs : List (List C)) : evFn tab FH nO false lv4 false n Try.f4 [.one (.c (.sl 5 xs))] [] = bcond (decide ((↑xs.length : Int) > (2000 : Int))) (some ((V.one (A.c (C.bool true)), []))) (bcond (isB xs && xs.length.ble lim38) (bcond (!((↑(decR (unB xs)).length : Int) == (0 : Int)) == ((↑xs.length : Int) == (0 : Int))) (some ((V.one (A.c (C.bool false)), []))) (bcond (decide ((↑(decR (unB xs)).length : Int) > (↑xs.length : Int))) (some ((V.one (A.c (C.bool false)), []))) (evLoop false (f4_s9 n) n (f4_h9 (xs) (decR (unB xs)) (decR (unB xs)) ((↑(decR (unB xs)).length : Int)) ((0 : Int))) (f4_k9 n)))) (none)) := by kernel_rfl


/-! What any bytes tell are good events. -/
theorem adr_all (l : List UInt8) : (adr l).all isC8 = true := by
  rw [List.all_eq_true]
  exact adr_c8 l
theorem okAdr_adr (l : List UInt8) (r : List C) : okAdr (adr l ++ r) = true ∧ (adB (adr l ++ r)).length = 16 := by
  unfold okAdr adB sub
  rw [List.drop_zero, take_app (adr_len l), adr_all, List.length_map, adr_len]
  exact ⟨rfl, rfl⟩
theorem ads_ok : ∀ (k : Nat) (l : List UInt8), ∀ d ∈ ads k l, okAdr d = true ∧ (adB d).length = 16
  | 0, _, d, hd => by cases hd
  | k + 1, l, d, hd => by
    rcases List.mem_append.1 hd with h | h
    · exact ads_ok k l d h
    · obtain rfl := List.mem_singleton.1 h
      have := okAdr_adr (dr16 k l) []
      rw [List.append_nil] at this
      exact this
theorem los_ok : ∀ (k : Nat) (l : List UInt8), ∀ d ∈ los k l, okAdr d = true ∧ (adB d).length = 16
  | 0, _, d, hd => by cases hd
  | k + 1, l, d, hd => by
    rcases List.mem_append.1 hd with h | h
    · exact los_ok k l d h
    · obtain rfl := List.mem_singleton.1 h
      exact okAdr_adr (dr16 k l) _
theorem linkR_ok (l : List UInt8) : okLink (linkR l) = true ∧ LenL (linkR l) ∧ (linkR l).length = 7 ∧ (cl (linkR l) 2).toL.length ≤ 3 := by
  have e5 : (cl (linkR l) 5).toL = ads (nS (fl l)) (lk1 l) := rfl
  have e6 : (cl (linkR l) 6).toL = los (nL (fl l)) (lk2 l) := rfl
  have e2 : (cl (linkR l) 2).toL = txs (nD (fl l)) (l.drop 1) := rfl
  refine ⟨?_, ⟨fun d hd => (ads_ok _ _ d (by rw [← e5]; exact hd)).2, fun d hd => (los_ok _ _ d (by rw [← e6]; exact hd)).2⟩, rfl, ?_⟩
  · unfold okLink
    rw [e5, e6, Bool.and_eq_true, List.all_eq_true, List.all_eq_true]
    exact ⟨fun d hd => (ads_ok _ _ d hd).1, fun d hd => (los_ok _ _ d hd).1⟩
  · rw [e2, txs_len]
    exact n3 _
structure AnyE (b : Nat) (x : List C) : Prop where
  good : GoodE x
  kd : 0 ≤ (cl x 0).toI ∧ (cl x 0).toI ≤ 7
  lk : 0 ≤ (cl x 1).toI ∧ (cl x 1).toI ≤ 7
  da : (cl x 23).toL.length ≤ b
  do_ : (cl x 26).toL.length ≤ 3
theorem any_of {b : Nat} {x : List C} {kd lk : Int} {nm : ByteArray} {ty id : Int} {fr : List C} {pt dr : Int} {da : List UInt8} {st : List C} {cf ho od : ByteArray} (h : Parts x kd lk nm ty id fr pt dr da st cf ho od)
    (hf : fr.length = 16) (hc : fr.all isC8 = true) (hs : LenL st) (ho' : okLink st = true) (hk : 0 ≤ kd ∧ kd ≤ 7) (hl : 0 ≤ lk ∧ lk ≤ 7) (hd : da.length ≤ b) (h2 : (cl st 2).toL.length ≤ 3) : AnyE b x := by
  refine ⟨good_of h hf hc hs ho', by rw [h.kd]; exact hk, by rw [h.lk]; exact hl, by rw [h.da, toB_len]; exact hd, ?_⟩
  have : cl (sub x 24 7) 2 = cl x 26 := cl_sub (by decide)
  rw [← this, h.st]
  exact h2
theorem evOf_any (l : List UInt8) : AnyE l.length (evOf l) := by
  have hk : 0 ≤ kdB l ∧ kdB l ≤ 7 := by
    unfold kdB
    rw [iand_7]
    have h0 : 0 ≤ b1 l % 8 := Int.emod_nonneg _ (by decide)
    have h1 : b1 l % 8 < 8 := Int.emod_lt_of_pos _ (by decide)
    omega
  have hl : 0 ≤ lkB l ∧ lkB l ≤ 7 := by
    unfold lkB
    rw [iand_7]
    have h0 : 0 ≤ ishr .i64 (b1 l) 3 % 8 := Int.emod_nonneg _ (by decide)
    have h1 : ishr .i64 (b1 l) 3 % 8 < 8 := Int.emod_lt_of_pos _ (by decide)
    omega
  unfold evOf
  split
  · exact any_of (evC_parts _ _ _ _ _ u16_len _ _ _ rfl _ _ _) u16_len u16_ok noL_len noL_ok hk hl (Nat.zero_le _) (by decide)
  · split
    · refine any_of (evC_parts _ _ _ _ _ (adr_len _) _ _ _ rfl _ _ _) (adr_len _) (adr_all _) noL_len noL_ok hk hl ?_ (by decide)
      refine Nat.le_trans (List.length_take_le' _ _) ?_
      simp only [List.length_drop]
      omega
    · split
      · obtain ⟨o1, o2, o3, o4⟩ := linkR_ok (l.drop 1)
        exact any_of (evC_parts _ _ _ _ _ u16_len _ _ _ o3 _ _ _) u16_len u16_ok o2 o1 hk hl (Nat.zero_le _) o4
      · split
        · exact any_of (evC_parts _ _ _ _ _ u16_len _ _ _ rfl _ _ _) u16_len u16_ok noL_len noL_ok hk hl (Nat.zero_le _) (by decide)
        · exact any_of (evC_parts _ _ _ _ _ u16_len _ _ _ rfl _ _ _) u16_len u16_ok noL_len noL_ok hk hl (Nat.zero_le _) (by decide)
theorem AnyE.mono {b c : Nat} {x : List C} (h : AnyE b x) (hb : b ≤ c) : AnyE c x := ⟨h.good, h.kd, h.lk, Nat.le_trans h.da hb, h.do_⟩
theorem decN_any : ∀ (d : Nat) (l : List UInt8), (decN d l).length ≤ l.length ∧ ∀ x ∈ decN d l, AnyE l.length x
  | 0, l => ⟨Nat.zero_le _, fun x hx => (by cases hx)⟩
  | d + 1, [] => ⟨Nat.le_refl _, fun x hx => (by cases hx)⟩
  | d + 1, b :: r => by
    have hlt := evRest_len (l := b :: r) (by simp)
    obtain ⟨h1, h2⟩ := decN_any d (evRest (b :: r))
    rw [decN]
    refine ⟨by simp only [List.length_cons] at hlt ⊢; omega, fun x hx => ?_⟩
    rcases List.mem_cons.1 hx with rfl | hx
    · exact evOf_any _
    · exact (h2 x hx).mono (by omega)
theorem decR_zero (l : List UInt8) : (((decR l).length : Int) == 0) = ((l.length : Int) == 0) := by
  cases l with
  | nil => rfl
  | cons b r =>
    unfold decR
    rw [List.length_cons, decN]
    have h1 : ((((evOf (b :: r) :: decN r.length (evRest (b :: r))).length : Nat) : Int) == 0) = false := by rw [beq_eq_false_iff_ne, List.length_cons]; omega
    have h2 : (((r.length + 1 : Nat) : Int) == 0) = false := by rw [beq_eq_false_iff_ne]; omega
    rw [h1, h2]

theorem f4_L9 (n : Nat) (k : X → St → Option R) (xs l : List (List C)) (h : ∀ x ∈ l, AnyE xs.length x) (hl : l.length ≤ 2000) (m : Nat) (hm : l.length < m) :
    evLoop false (f4_s9 n) m (f4_h9 xs l l l.length 0) k = k (X.exit 0) (f4_x9_0 l) :=
  fold_loop (xs := l) (L := fun m i (_ : Unit) => evLoop false (f4_s9 n) m (f4_h9 xs l l l.length i) k) (f := fun _ _ => ()) (E := fun _ => k (X.exit 0) (f4_x9_0 l)) (fun _ _ => True)
    (fun m i _ x hx hlt _ => by
      show evLoop false (f4_s9 n) (m + 1) _ k = evLoop false (f4_s9 n) m _ k
      have ha := h x (List.mem_of_getElem? hx)
      have a1 := ha.kd
      have a2 := ha.lk
      have a3 := ha.da
      have a4 := ha.do_
      rw [f4_t9]
      simp only [lt_nat, inB_nat, Int.toNat_natCast, el_get hx, wrap_succ (i := i) (by omega), hlt, decide_true, bcond_t]
      rw [bcond_no (by simp; omega), bcond_no (by simp; omega), bcond_no (by simp; omega), bcond_no (by simp; omega), bcond_no (by simp; omega), bcond_no (by simp; omega)])
    (fun _ _ _ _ _ _ => trivial)
    (fun m _ _ => by
      show evLoop false (f4_s9 n) (m + 1) _ k = _
      rw [f4_t9, lt_nat, bcond_no (by simp)])
    l.length 0 () m (by simp) hm trivial
theorem f4_out (n : Nat) (hn : 3000 < n) (xs : List (List C)) (hb : isB xs = true) : evFn tab FH nO false lv4 false n Try.f4 [.one (.c (.sl 5 xs))] [] = some (.one (.c (.bool true)), []) := by
  rw [f4_eq]
  cases h1 : decide ((xs.length : Int) > 2000) with
  | true => rfl
  | false =>
    simp only [decide_eq_false_iff_not] at h1
    have hx := isB_eq hb
    have hul : (unB xs).length = xs.length := List.length_map ..
    obtain ⟨d1, d2⟩ := decN_any (unB xs).length (unB xs)
    have hz := decR_zero (unB xs)
    have h38 : lim38 = 274877906944 := rfl
    change (decR (unB xs)).length ≤ _ at d1
    change ∀ x ∈ decR (unB xs), _ at d2
    rw [bcond_f, hb, Bool.true_and, bcond_of (by rw [Nat.ble_eq]; omega)]
    generalize decR (unB xs) = l at d1 d2 hz
    have hg : ∀ x ∈ l, GoodE x := fun x hx => (d2 x hx).good
    have hen := encR_len l
    rw [bcond_no (by rw [hz, hul]; simp), bcond_no (by simp; omega), f4_L9 n _ xs l (fun x hx => by rw [← hul]; exact d2 x hx) (by omega) n (by omega), f4_a9_0, ok_all hg (by omega), bcond_t]
    rw [bcond_of (by
      rw [isB_toB, toB_len, Bool.true_and, Nat.ble_eq]
      omega), unB_toB, decR_enc l hg, ok_all (good_nm hg) (by rw [List.length_map]; omega), bcond_t, bcond_t]
    have hs : sameB (l.map nmE) l = true := by
      unfold sameB
      rw [encR_nm l hg, List.length_map]
      simp
    rw [hs]
theorem law_ScriptAny : ∀ xs, All2 (ArgOk tab) [25] xs → FnAt Try.prog tab 4 (List.zipWith (argV tab) [25] xs) [] (.one (.c (.bool true))) [] := by
  intro xs h
  match xs, h with
  | [x], h =>
    obtain ⟨l, rfl⟩ := wk_sl h.1.1
    obtain ⟨_, h1, h2⟩ := wf_sl (h.1.2 _ (List.mem_singleton.2 rfl))
    exact fn4 sFH rfl (f4_out 3001 (by omega) l (rows_B h1 h2))

end Go.Proofs.Ytnbiincgplkmbaa
