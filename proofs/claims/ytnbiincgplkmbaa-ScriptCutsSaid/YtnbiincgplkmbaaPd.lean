/- Pd -/
import Derived.Test.YtnbiincgplkmbaaPc
import Derived.KernelRfl
namespace Go.Proofs.Ytnbiincgplkmbaa
open Go Go.Eng
set_option maxRecDepth 100000
theorem len7 {l : List C} (h : l.length = 7) : ∃ a b c d e f g, l = [a, b, c, d, e, f, g] := by
  match l, h with
  | [a, b, c, d, e, f, g], _ => exact ⟨_, _, _, _, _, _, _, rfl⟩
structure Parts (x : List C) (kd lk : Int) (nm : ByteArray) (ty id : Int) (fr : List C) (pt dr : Int) (da : List UInt8) (st : List C) (cf ho od : ByteArray) : Prop where
  ad : sub x 5 16 = fr
  st : sub x 24 7 = st
  kd : (cl x 0).toI = kd
  lk : (cl x 1).toI = lk
  nm : (cl x 2).toS = nm
  ty : (cl x 3).toI = ty
  id : (cl x 4).toI = id
  pt : (cl x 21).toI = pt
  dr : (cl x 22).toI = dr
  da : (cl x 23).toL = toB da
  cf : (cl x 31).toS = cf
  ho : (cl x 32).toS = ho
  od : (cl x 33).toS = od
theorem evC_parts (kd lk : Int) (nm : ByteArray) (ty id : Int) {fr : List C} (hf : fr.length = 16) (pt dr : Int) (da : List UInt8) {st : List C} (hs : st.length = 7) (cf ho od : ByteArray) :
    Parts (evC kd lk nm ty id fr pt dr da st cf ho od) kd lk nm ty id fr pt dr da st cf ho od := by
  obtain ⟨a0, a1, a2, a3, a4, a5, a6, a7, a8, a9, a10, a11, a12, a13, a14, a15, rfl⟩ := len16 hf
  obtain ⟨b0, b1, b2, b3, b4, b5, b6, rfl⟩ := len7 hs
  exact ⟨rfl, rfl, rfl, rfl, rfl, rfl, rfl, rfl, rfl, rfl, rfl, rfl, rfl⟩
theorem k8 (x : List C) : 0 ≤ kN x ∧ kN x < 8 := ⟨Int.emod_nonneg _ (by decide), Int.emod_lt_of_pos _ (by decide)⟩
theorem l8 (x : List C) : 0 ≤ lN x ∧ lN x < 8 := ⟨Int.emod_nonneg _ (by decide), Int.emod_lt_of_pos _ (by decide)⟩
theorem u16_len : u16s.length = 16 := rfl
theorem hd_same {x y : List C} (h1 : kN y = kN x) (h2 : lN y = lN x) {d : Int} (h4 : 0 ≤ d) (h5 : d < 4) : hdZ y d = hdZ x d := by
  have e1 : (cl y 0).toI % 8 = (cl x 0).toI % 8 := h1
  have e2 : (cl y 1).toI % 8 = (cl x 1).toI % 8 := h2
  rw [hdZ_eq y h4 h5, hdZ_eq x h4 h5, e1, e2]
theorem u16_ok : u16s.all isC8 = true := by decide
theorem noL_ok : okLink noL = true := rfl
theorem noL_len : LenL noL := ⟨fun d hd => (by cases hd), fun d hd => (by cases hd)⟩
theorem nmL_len (y : List C) (hL : LenL y) : LenL (nmL y) := by
  refine ⟨fun d hd => ?_, fun d hd => ?_⟩
  · obtain ⟨e, he, rfl⟩ := List.mem_map.1 (show d ∈ (t3 (cl y 5).toL).map f2 from hd)
    have h := hL.1 e (List.mem_of_mem_take he)
    rw [adB_f2 h]
    exact h
  · obtain ⟨e, he, rfl⟩ := List.mem_map.1 (show d ∈ (t3 (cl y 6).toL).map f3 from hd)
    have h := hL.2 e (List.mem_of_mem_take he)
    rw [show adB (f3 e) = adB e from adB_of h _]
    exact h
/-- An event of such parts is a good one. -/
theorem good_of {x : List C} {kd lk : Int} {nm : ByteArray} {ty id : Int} {fr : List C} {pt dr : Int} {da : List UInt8} {st : List C} {cf ho od : ByteArray} (h : Parts x kd lk nm ty id fr pt dr da st cf ho od)
    (hf : fr.length = 16) (hc : fr.all isC8 = true) (hs : LenL st) (ho' : okLink st = true) : GoodE x := by
  refine ⟨by rw [h.ad]; exact hf, by rw [h.st]; exact hs, ?_⟩
  unfold okEv
  rw [h.ad, h.st, h.da, hc, isB_toB, ho']
  rfl
theorem c8_all (l : List UInt8) : (l.map c8).all isC8 = true := by
  rw [List.all_eq_true]
  intro c hc
  obtain ⟨b, _, rfl⟩ := List.mem_map.1 hc
  exact isC8_c8 b
/-- What comes back has such parts. -/
theorem nm_parts {x : List C} (hg : GoodE x) : GoodE (nmE x) ∧ kN (nmE x) = kN x ∧ lN (nmE x) = lN x ∧ encE (nmE x) = encE x ∧ (cl (nmE x) 0).toI = kN x ∧ (cl (nmE x) 1).toI = lN x ∧
    (kN x = 1 → (cl (nmE x) 3).toI = (cl x 3).toI % 65536 ∧ (cl (nmE x) 2).toS = cutS (cl x 2).toS) := by
  have hk := k8 x
  have hl := l8 x
  have fin : ∀ {y : List C}, (cl y 0).toI = kN x → (cl y 1).toI = lN x → kN y = kN x ∧ lN y = lN x := fun {y} h1 h2 => by
    unfold kN lN at *
    omega
  obtain ⟨g0, g1⟩ := d4 (cl x 22).toI
  have gm : (cl x 22).toI % 4 % 4 = (cl x 22).toI % 4 := by omega
  unfold nmE
  by_cases h1 : kN x = 1
  · rw [if_pos h1]
    have P := evC_parts (kN x) (lN x) (cutS (cl x 2).toS) ((cl x 3).toI % 65536) ((cl x 4).toI % 256) u16_len 0 ((cl x 22).toI % 4294967296) [] (st := noL) rfl emp emp emp
    generalize evC (kN x) (lN x) (cutS (cl x 2).toS) ((cl x 3).toI % 65536) ((cl x 4).toI % 256) u16s 0 ((cl x 22).toI % 4294967296) [] noL emp emp emp = y at P
    obtain ⟨f1, f2⟩ := fin P.kd P.lk
    refine ⟨good_of P u16_len u16_ok noL_len noL_ok, f1, f2, ?_, P.kd, P.lk, fun _ => ⟨P.ty, P.nm⟩⟩
    have e1 := ev1 (x := y) (by omega) []
    have e2 := ev1 (x := x) h1 []
    rw [List.append_nil] at e1 e2
    rw [e1, e2, hd_same f1 f2 (by omega) (by omega), P.id, P.ty, P.dr, P.nm, putB_1m, putB_2m, putB_4m, cutS_cutS]
  · rw [if_neg h1]
    by_cases h2 : kN x = 2
    · rw [if_pos h2]
      have hfl : (((sub x 5 16).map byC).map c8).length = 16 := by rw [List.length_map, List.length_map]; exact hg.ad
      have P := evC_parts (kN x) (lN x) emp 0 0 hfl ((cl x 21).toI % 65536) ((cl x 22).toI % 4294967296) (unB (daE x)) (st := noL) rfl emp emp emp
      generalize evC (kN x) (lN x) emp 0 0 (((sub x 5 16).map byC).map c8) ((cl x 21).toI % 65536) ((cl x 22).toI % 4294967296) (unB (daE x)) noL emp emp emp = y at P
      obtain ⟨f1, f2⟩ := fin P.kd P.lk
      refine ⟨good_of P hfl (c8_all _) noL_len noL_ok, f1, f2, ?_, P.kd, P.lk, fun h => absurd h h1⟩
      have e1 := ev2 (x := y) (by omega) []
      have e2 := ev2 (x := x) h2 []
      rw [List.append_nil] at e1 e2
      have hdl : (unB (daE x)).length = (daE x).length := List.length_map ..
      have hd5 : (daE x).length ≤ 65535 := List.length_take_le _ _
      have hda : daE y = toB (unB (daE x)) := by
        unfold daE
        rw [P.da, List.take_of_length_le]
        · rfl
        · rw [toB_len]
          exact Nat.le_trans (Nat.le_of_eq hdl) hd5
      rw [e1, e2, hd_same f1 f2 (by omega) (by omega), P.ad, P.pt, P.dr, hda, unB_toB, toB_len, hdl, map_byC, putB_2m, putB_4m]
    · rw [if_neg h2]
      by_cases h3 : kN x = 3
      · rw [if_pos h3]
        have P := evC_parts (kN x) (lN x) emp 0 0 u16_len 0 ((cl x 22).toI % 4) [] (st := nmL (sub x 24 7)) rfl emp emp emp
        generalize evC (kN x) (lN x) emp 0 0 u16s 0 ((cl x 22).toI % 4) [] (nmL (sub x 24 7)) emp emp emp = y at P
        obtain ⟨f1, f2⟩ := fin P.kd P.lk
        refine ⟨good_of P u16_len u16_ok (nmL_len _ hg.lk) (okLink_nm _ hg.lk), f1, f2, ?_, P.kd, P.lk, fun h => absurd h h1⟩
        have e1 := ev3 (x := y) (by omega) []
        have e2 := ev3 (x := x) h3 []
        rw [List.append_nil, List.append_nil] at e1 e2
        rw [e1, e2, P.dr, gm, hd_same f1 f2 g0 g1, P.st, encL_nm _ hg.lk]
      · rw [if_neg h3]
        by_cases h6 : kN x = 6
        · rw [if_pos h6]
          have P := evC_parts (kN x) (lN x) emp 0 0 u16_len 0 ((cl x 22).toI % 4) [] (st := noL) rfl (cutS (cl x 31).toS) (cutS (cl x 32).toS) (cutS (cl x 33).toS)
          generalize evC (kN x) (lN x) emp 0 0 u16s 0 ((cl x 22).toI % 4) [] noL (cutS (cl x 31).toS) (cutS (cl x 32).toS) (cutS (cl x 33).toS) = y at P
          obtain ⟨f1, f2⟩ := fin P.kd P.lk
          refine ⟨good_of P u16_len u16_ok noL_len noL_ok, f1, f2, ?_, P.kd, P.lk, fun h => absurd h h1⟩
          have e1 := ev6 (x := y) (by omega) []
          have e2 := ev6 (x := x) h6 []
          rw [List.append_nil] at e1 e2
          rw [e1, e2, P.dr, gm, hd_same f1 f2 g0 g1, P.cf, P.ho, P.od, cutS_cutS, cutS_cutS, cutS_cutS]
        · rw [if_neg h6]
          have P := evC_parts (kN x) (lN x) emp 0 0 u16_len 0 ((cl x 22).toI % 4) [] (st := noL) rfl emp emp emp
          generalize evC (kN x) (lN x) emp 0 0 u16s 0 ((cl x 22).toI % 4) [] noL emp emp emp = y at P
          obtain ⟨f1, f2⟩ := fin P.kd P.lk
          refine ⟨good_of P u16_len u16_ok noL_len noL_ok, f1, f2, ?_, P.kd, P.lk, fun h => absurd h h1⟩
          have e1 := ev0 (x := y) (by omega) (by omega) (by omega) (by omega) []
          have e2 := ev0 (x := x) h1 h2 h3 h6 []
          rw [List.append_nil] at e1 e2
          rw [e1, e2, P.dr, gm, hd_same f1 f2 g0 g1]
/-! Lists of events. -/
theorem encE_pos (x : List C) : 0 < (encE x).length := by
  unfold encE
  split
  · simp
  · split
    · simp
    · split
      · simp
      · split <;> simp
theorem decN_nil (d : Nat) : decN d [] = [] := by cases d <;> rfl
theorem dec_enc : ∀ (l : List (List C)), (∀ x ∈ l, GoodE x) → ∀ (d : Nat), (encR l).length ≤ d → decN d (encR l) = l.map nmE
  | [], _, d, _ => decN_nil d
  | x :: l, hg, d, hd => by
    have hp := encE_pos x
    have hgx := hg x (List.mem_cons_self ..)
    have he : encR (x :: l) = encE x ++ encR l := List.flatMap_cons ..
    obtain ⟨h1, h2⟩ := ev_back hgx (encR l)
    rw [he] at hd ⊢
    rw [List.length_append] at hd
    have hne : encE x ++ encR l ≠ [] := by
      intro h
      rw [List.append_eq_nil_iff] at h
      rw [h.1] at hp
      exact Nat.lt_irrefl _ hp
    generalize encE x ++ encR l = L at h1 h2 hne
    cases L with
    | nil => exact absurd rfl hne
    | cons b r =>
      cases d with
      | zero => omega
      | succ d =>
        rw [decN, h1, h2, List.map_cons, dec_enc l (fun y hy => hg y (List.mem_cons_of_mem _ hy)) d (by omega)]
theorem decR_enc (l : List (List C)) (hg : ∀ x ∈ l, GoodE x) : decR (encR l) = l.map nmE := dec_enc l hg _ (Nat.le_refl _)
theorem encR_nm : ∀ (l : List (List C)), (∀ x ∈ l, GoodE x) → encR (l.map nmE) = encR l
  | [], _ => rfl
  | x :: l, hg => by
    have h := (nm_parts (hg x (List.mem_cons_self ..))).2.2.2.1
    show encE (nmE x) ++ encR (l.map nmE) = encE x ++ encR l
    rw [h, encR_nm l fun y hy => hg y (List.mem_cons_of_mem _ hy)]
theorem good_nm {l : List (List C)} (hg : ∀ x ∈ l, GoodE x) : ∀ y ∈ l.map nmE, GoodE y := fun y hy => by
  obtain ⟨x, hx, rfl⟩ := List.mem_map.1 hy
  exact (nm_parts (hg x hx)).1
theorem ok_all {l : List (List C)} (hg : ∀ x ∈ l, GoodE x) (hl : l.length ≤ 100000) : (l.all okEv && Nat.ble l.length 100000) = true := by
  rw [Bool.and_eq_true, List.all_eq_true, Nat.ble_eq]
  exact ⟨fun x hx => (hg x hx).ok, hl⟩
theorem encR_len (l : List (List C)) : (encR l).length ≤ l.length * 70000 := flatMap_len encE 70000 encE_len l
theorem encR_app (l k : List (List C)) : encR l ++ encR k = encR (l ++ k) := List.flatMap_append.symm

end Go.Proofs.Ytnbiincgplkmbaa
