/- Times -/
import Derived.Test.YtacklcdhfoedlaaLem
import Derived.KernelRfl
namespace Go.Proofs.Ytacklcdhfoedlaa
open Go Go.Eng
set_option maxRecDepth 100000
def f4_nf (u : Int) (ttl : Int) : Option R := bcond (decide (ttl > (1099511627776 : Int))) (some ((V.one (A.c (C.bool true)), []))) (bcond (decide (ttl < (1 : Int))) (some ((V.one (A.c (C.bool ((↑(putR (u) (clampN (2 : Int)) [] (C.str { data := #[(97 : UInt8)] }) (C.int IntKind.i64 (1 : Int)) (5 : Int) [] ttl).length : Int) == (0 : Int)))), []))) (bcond ((putR (u) (clampN (2 : Int)) [] (C.str { data := #[(97 : UInt8)] }) (C.int IntKind.i64 (1 : Int)) (5 : Int) [] ttl).length.ble (1000000 : Nat) && (putR (u) (clampN (2 : Int)) [] (C.str { data := #[(97 : UInt8)] }) (C.int IntKind.i64 (1 : Int)) (5 : Int) [] ttl).all fun e => (cl e (3 : Nat)).toL.length.ble (1000000 : Nat)) (bcond ((putR (u) (clampN (2 : Int)) [] (C.str { data := #[(97 : UInt8)] }) (C.int IntKind.i64 (1 : Int)) (5 : Int) [] ttl).length.ble (1000000 : Nat) && (putR (u) (clampN (2 : Int)) [] (C.str { data := #[(97 : UInt8)] }) (C.int IntKind.i64 (1 : Int)) (5 : Int) [] ttl).all fun e => (cl e (3 : Nat)).toL.length.ble (1000000 : Nat)) (bcond ((putR (u) (clampN (2 : Int)) [] (C.str { data := #[(97 : UInt8)] }) (C.int IntKind.i64 (1 : Int)) (5 : Int) [] ttl).length.ble (1000000 : Nat)) (bcond ((List.filter (live (IntKind.i64.wrap (IntKind.i64.wrap (u + if (1048576 : Int) < ttl then (1048576 : Int) else ttl) - (1 : Int)))) (putR (u) (clampN (2 : Int)) [] (C.str { data := #[(97 : UInt8)] }) (C.int IntKind.i64 (1 : Int)) (5 : Int) [] ttl)).length.ble (1000000 : Nat)) (bcond (getO (getE (IntKind.i64.wrap (IntKind.i64.wrap (u + if (1048576 : Int) < ttl then (1048576 : Int) else ttl) - (1 : Int))) (putR (u) (clampN (2 : Int)) [] (C.str { data := #[(97 : UInt8)] }) (C.int IntKind.i64 (1 : Int)) (5 : Int) [] ttl) [C.str { data := #[(97 : UInt8)] }, C.int IntKind.i64 (1 : Int)]) == (5 : Int)) (bcond (getO (getE (IntKind.i64.wrap (u + if (1048576 : Int) < ttl then (1048576 : Int) else ttl)) (putR (u) (clampN (2 : Int)) [] (C.str { data := #[(97 : UInt8)] }) (C.int IntKind.i64 (1 : Int)) (5 : Int) [] ttl) [C.str { data := #[(97 : UInt8)] }, C.int IntKind.i64 (1 : Int)]) == (0 : Int)) (bcond ((↑(List.filter (live (IntKind.i64.wrap (IntKind.i64.wrap (u + if (1048576 : Int) < ttl then (1048576 : Int) else ttl) - (1 : Int)))) (putR (u) (clampN (2 : Int)) [] (C.str { data := #[(97 : UInt8)] }) (C.int IntKind.i64 (1 : Int)) (5 : Int) [] ttl)).length : Int) == (1 : Int)) (some ((V.one (A.c (C.bool ((↑(List.filter (live (IntKind.i64.wrap (u + if (1048576 : Int) < ttl then (1048576 : Int) else ttl))) (List.filter (live (IntKind.i64.wrap (IntKind.i64.wrap (u + if (1048576 : Int) < ttl then (1048576 : Int) else ttl) - (1 : Int)))) (putR (u) (clampN (2 : Int)) [] (C.str { data := #[(97 : UInt8)] }) (C.int IntKind.i64 (1 : Int)) (5 : Int) [] ttl))).length : Int) == (0 : Int)))), []))) (some ((V.one (A.c (C.bool false)), [])))) (some ((V.one (A.c (C.bool false)), [])))) (some ((V.one (A.c (C.bool false)), [])))) (none)) (none)) (none)) (none)))
theorem f4_eq (n : Nat) (ttl : Int) (now : Int) : evFn tab FC nO false lv4 false n Try.f4 [.one (.c (.int .i64 ttl)), .one (.c (.int .i64 now))] [] = f4_nf (iand IntKind.i64 now (16777215 : Int)) (ttl) := by kernel_rfl


theorem f4_true (u ttl : Int) (h0 : 0 ≤ u) (h1 : u < 16777216) (hw : -9223372036854775808 ≤ ttl) : isT (f4_nf u ttl) = true := by
  have hc : clampN 2 ≠ 0 := by decide
  unfold f4_nf
  cases hb : decide (ttl > 1099511627776) with
  | true => rfl
  | false =>
    rw [bcond_f]
    cases hl : decide (ttl < 1) with
    | true =>
      rw [bcond_t]
      unfold putR
      rw [if_neg (by decide), if_pos hl]
      rfl
    | false =>
      simp only [decide_eq_false_iff_not] at hb hl
      obtain ⟨k, hk⟩ : ∃ k, k = if (1048576 : Int) < ttl then (1048576 : Int) else ttl := ⟨_, rfl⟩
      have hk1 : 1 ≤ k ∧ k ≤ 1048576 := by rw [hk]; split <;> omega
      have w1 : IntKind.i64.wrap (u + if (1048576 : Int) < ttl then (1048576 : Int) else ttl) = u + k := by rw [← hk]; exact wrap_ok (by omega) (by omega)
      have w2 : IntKind.i64.wrap (u + k - 1) = u + k - 1 := wrap_ok (by omega) (by omega)
      rw [bcond_f, w1, w2, putR_nil hc (by omega)]
      obtain ⟨e, he⟩ : ∃ e, e = mkE u (C.str { data := #[(97 : UInt8)] }) (C.int IntKind.i64 (1 : Int)) (5 : Int) [] ttl := ⟨_, rfl⟩
      have e4 : (cl e 4).toI = u + k := by rw [he, ← w1]; rfl
      have e3 : (cl e 3).toL = [] := by rw [he]; rfl
      have e2 : (cl e 2).toI = 5 := by rw [he]; rfl
      have eq : notQ [C.str { data := #[(97 : UInt8)] }, C.int IntKind.i64 (1 : Int)] e = false := by rw [he]; kernel_rfl
      rw [← he]
      have l1 : live (u + k - 1) e = true := by unfold live; rw [e4]; simp; omega
      have l2 : live (u + k) e = false := by unfold live; rw [e4]; simp
      have g1 : getE (u + k - 1) [e] [C.str { data := #[(97 : UInt8)] }, C.int IntKind.i64 (1 : Int)] = some e := by
        unfold getE hit
        rw [List.find?_cons, eq, e4]
        simp only [Bool.not_false, Bool.true_and]
        rw [show (!decide (u + k ≤ u + k - 1)) = true from by simp; omega]
      have g2 : getE (u + k) [e] [C.str { data := #[(97 : UInt8)] }, C.int IntKind.i64 (1 : Int)] = none := by
        unfold getE hit
        rw [List.find?_cons, eq, e4]
        simp
      have f1 : [e].filter (live (u + k - 1)) = [e] := by simp [l1]
      have f2 : [e].filter (live (u + k)) = [] := by simp [l2]
      simp only [g1, g2, f1, f2, List.all_cons, e3, getO, e2]
      rfl
theorem law_CacheTimes : ∀ xs, All2 (ArgOk tab) [3, 3] xs → FnAt Try.prog tab 4 (List.zipWith (argV tab) [3, 3] xs) [] (.one (.c (.bool true))) [] := by
  intro xs h
  match xs, h with
  | [x, y], h =>
    obtain ⟨a, rfl⟩ := wk_int h.1.1
    obtain ⟨b, rfl⟩ := wk_int h.2.1.1
    have ha := wf_int (h.1.2 _ (List.mem_singleton.2 rfl))
    refine fn4 sFC rfl ((f4_eq 0 a b).trans ?_)
    rw [iand_FFFFFF]
    exact isT_eq (f4_true _ _ (Int.emod_nonneg _ (by decide)) (Int.emod_lt_of_pos _ (by decide)) ha.1)

end Go.Proofs.Ytacklcdhfoedlaa
