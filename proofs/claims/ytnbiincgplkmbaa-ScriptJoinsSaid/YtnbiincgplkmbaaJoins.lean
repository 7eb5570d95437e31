/- Joins -/
import Derived.Test.YtnbiincgplkmbaaBack
import Derived.KernelRfl
namespace Go.Proofs.Ytnbiincgplkmbaa
open Go Go.Eng
set_option maxRecDepth 100000
theorem f5_eq (n : Nat) (l : List (List C)) (k : List (List C)) : evFn tab FH nO false lv5 false n Try.f5 [.one (.c (.sl 36 l)), .one (.c (.sl 36 k))] [] = bcond (l.all fun x => (cl x (26 : Nat)).toL.length.ble lim50) (bcond (!lightB l) (some ((V.one (A.c (C.bool true)), []))) (bcond (k.all fun x => (cl x (26 : Nat)).toL.length.ble lim50) (bcond (!lightB k) (some ((V.one (A.c (C.bool true)), []))) (bcond (l.all okEv && l.length.ble (100000 : Nat)) (bcond (k.all okEv && k.length.ble (100000 : Nat)) (bcond (roomOk (toB (encR l)).length (1 : Nat)) (bcond (roomOk ((toB (encR l)).length + (toB (encR k)).length) (1 : Nat)) (bcond (isB (toB (encR l) ++ toB (encR k)) && (toB (encR l) ++ toB (encR k)).length.ble lim38) (bcond ((↑(decR (unB (toB (encR l) ++ toB (encR k)))).length : Int) == IntKind.i64.wrap ((↑l.length : Int) + (↑k.length : Int))) (bcond (inE (↑l.length : Int) (0 : Nat) (decR (unB (toB (encR l) ++ toB (encR k)))).length) (bcond ((lstCut (decR (unB (toB (encR l) ++ toB (encR k)))) (0 : Nat) (↑l.length : Int).toNat).all okEv && (lstCut (decR (unB (toB (encR l) ++ toB (encR k)))) (0 : Nat) (↑l.length : Int).toNat).length.ble (100000 : Nat)) (bcond ((strOf (toB (encR (lstCut (decR (unB (toB (encR l) ++ toB (encR k)))) (0 : Nat) (↑l.length : Int).toNat)))).toList == (strOf (toB (encR l))).toList) (bcond (inE (↑(decR (unB (toB (encR l) ++ toB (encR k)))).length : Int) (0 : Nat) (decR (unB (toB (encR l) ++ toB (encR k)))).length) (bcond (inE (↑l.length : Int) (0 : Nat) (↑(decR (unB (toB (encR l) ++ toB (encR k)))).length : Int).toNat) (bcond ((lstCut (decR (unB (toB (encR l) ++ toB (encR k)))) (↑l.length : Int).toNat (↑(decR (unB (toB (encR l) ++ toB (encR k)))).length : Int).toNat).all okEv && (lstCut (decR (unB (toB (encR l) ++ toB (encR k)))) (↑l.length : Int).toNat (↑(decR (unB (toB (encR l) ++ toB (encR k)))).length : Int).toNat).length.ble (100000 : Nat)) (some ((V.one (A.c (C.bool ((strOf (toB (encR (lstCut (decR (unB (toB (encR l) ++ toB (encR k)))) (↑l.length : Int).toNat (↑(decR (unB (toB (encR l) ++ toB (encR k)))).length : Int).toNat)))).toList == (strOf (toB (encR k))).toList))), []))) (none)) (none)) (none)) (some ((V.one (A.c (C.bool false)), [])))) (none)) (none)) (some ((V.one (A.c (C.bool false)), [])))) (none)) (none)) (none)) (none)) (none))) (none))) (none) := by kernel_rfl


theorem f5_out (n : Nat) (l k : List (List C)) (hl : Wf tab (.sl 36 l)) (hk : Wf tab (.sl 36 k)) : evFn tab FH nO false lv5 false n Try.f5 [.one (.c (.sl 36 l)), .one (.c (.sl 36 k))] [] = some (.one (.c (.bool true)), []) := by
  obtain ⟨hg, h26⟩ := args_good hl
  obtain ⟨kg, k26⟩ := args_good hk
  have h38 : lim38 = 274877906944 := rfl
  rw [f5_eq, h26, bcond_t]
  cases hli : lightB l with
  | false => rfl
  | true =>
    refine (bcond_no (by rfl) _ _).trans ?_
    rw [k26, bcond_t]
    cases hki : lightB k with
    | false => rfl
    | true =>
      have h40 := light_len hli
      have k40 := light_len hki
      have e1 := encR_len l
      have e2 := encR_len k
      have hgood : ∀ x ∈ l ++ k, GoodE x := fun x hx => (List.mem_append.1 hx).elim (hg x) (kg x)
      have hdec := decR_enc (l ++ k) hgood
      have hokl := ok_all (good_nm hg) (by rw [List.length_map]; omega)
      have hokk := ok_all (good_nm kg) (by rw [List.length_map]; omega)
      have hcut1 : lstCut ((l ++ k).map nmE) 0 (l.length : Int).toNat = l.map nmE := by
        unfold lstCut
        rw [Int.toNat_natCast, List.drop_zero, List.map_append, take_app (List.length_map ..)]
      have hcut2 : lstCut ((l ++ k).map nmE) (l.length : Int).toNat (((l ++ k).map nmE).length : Int).toNat = k.map nmE := by
        unfold lstCut
        rw [Int.toNat_natCast, Int.toNat_natCast, List.take_length, List.map_append, drop_app (List.length_map ..)]
      refine (bcond_no (by rfl) _ _).trans ?_
      rw [ok_all hg (by omega), bcond_t, ok_all kg (by omega), bcond_t, bcond_of (roomOk_of (by rw [toB_len]; omega) (by rw [toB_len]; omega)), bcond_of (roomOk_of (by rw [toB_len, toB_len]; omega) (by rw [toB_len, toB_len]; omega))]
      rw [toB_app, unB_toB, encR_app, hdec, hcut1, hcut2]
      rw [bcond_of (by
        have := encR_len (l ++ k)
        rw [List.length_append] at this
        rw [isB_toB, toB_len, Bool.true_and, Nat.ble_eq]
        omega)]
      rw [List.length_map, List.length_append, wrap_ok (by omega) (by omega), bcond_of (by simp), inE_nat, bcond_of (by simp), hokl, bcond_t, encR_nm l hg, bcond_of (by simp)]
      rw [inE_nat, bcond_of (by simp), Int.toNat_natCast, inE_nat, bcond_of (by simp), hokk, bcond_t, encR_nm k kg]
      simp
theorem law_ScriptJoins : ∀ xs, All2 (ArgOk tab) [22, 22] xs → FnAt Try.prog tab 5 (List.zipWith (argV tab) [22, 22] xs) [] (.one (.c (.bool true))) [] := by
  intro xs h
  match xs, h with
  | [x, y], h =>
    obtain ⟨l, rfl⟩ := wk_sl h.1.1
    obtain ⟨k, rfl⟩ := wk_sl h.2.1.1
    exact fn5 sFH rfl (f5_out 101 l k (h.1.2 _ (List.mem_singleton.2 rfl)) (h.2.1.2 _ (List.mem_singleton.2 rfl)))

end Go.Proofs.Ytnbiincgplkmbaa
