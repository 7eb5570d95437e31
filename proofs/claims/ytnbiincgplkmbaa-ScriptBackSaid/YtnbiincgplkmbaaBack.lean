/- Back -/
import Derived.Test.YtnbiincgplkmbaaPe
import Derived.KernelRfl
namespace Go.Proofs.Ytnbiincgplkmbaa
open Go Go.Eng
set_option maxRecDepth 100000
noncomputable abbrev f3_c10 : Code := (loops (body Try.f3)).getD 0 .skip
noncomputable abbrev f3_s10 (n : Nat) : St → (X → St → Option R) → Option R := fun st k => evCode tab FH nO lv3 false n f3_c10 st k
noncomputable abbrev f3_k10 (n : Nat) : X → St → Option R := after tab FH nO lv3 false n (body Try.f3) 0 (endK tab false Try.f3)
abbrev f3_h10 (s0 : List (List C)) (s4 : List (List C)) (s30 : Int) (s31 : Int) : St := { t := [((0 : Nat), V.one (A.c (C.sl (36 : Nat) s0))), ((4 : Nat), V.one (A.c (C.sl (36 : Nat) s4))), ((30 : Nat), V.one (A.c (C.int IntKind.i64 s30))), ((31 : Nat), V.one (A.c (C.int IntKind.i64 s31)))], h := [] }
abbrev f3_x10_r (s2 : Bool) : St := { t := [((2 : Nat), V.one (A.c (C.bool s2)))], h := [] }
abbrev f3_x10_rv1 (s2 : Bool) (b6 : List C) : St := { t := [((2 : Nat), V.one (A.c (C.bool s2)))], h := [(Key.loc (6 : Nat) (0 : Nat), (0 : Nat), B.box (36 : Nat) b6 [])] }
abbrev f3_x10_0 : St := { t := [], h := [] }
theorem f3_t10 (n m : Nat) (k : X → St → Option R) (s0 : List (List C)) (s4 : List (List C)) (s30 : Int) (s31 : Int) : evLoop false (f3_s10 n) (m + 1) (f3_h10 s0 s4 s30 s31) k = bcond (decide (s31 < s30)) (bcond (inB s31 s4.length) (bcond (inB s31 s0.length) (bcond ((cl (el s4 s31.toNat) (0 : Nat)).toI != iand IntKind.i64 (cl (el s0 s31.toNat) (0 : Nat)).toI (7 : Int)) (k X.ret (f3_x10_r (false))) (bcond (inB s31 s4.length) (bcond (inB s31 s0.length) (bcond ((cl (el s4 s31.toNat) (1 : Nat)).toI != iand IntKind.i64 (cl (el s0 s31.toNat) (1 : Nat)).toI (7 : Int)) (k X.ret (f3_x10_r (false))) (bcond (inB s31 s0.length) (bcond (inB s31 s4.length) (bcond ((cl (el s4 s31.toNat) (0 : Nat)).toI == (1 : Int)) (bcond (inB s31 s4.length) (bcond ((cl (el s4 s31.toNat) (3 : Nat)).toI != iand IntKind.i64 (cl (el s0 s31.toNat) (3 : Nat)).toI (65535 : Int)) (k X.ret (f3_x10_rv1 (false) (el s0 s31.toNat))) (bcond (inB s31 s4.length) (bcond (inE (if (255 : Int) < (↑(cl (el s0 s31.toNat) (2 : Nat)).toS.size : Int) then (255 : Int) else (↑(cl (el s0 s31.toNat) (2 : Nat)).toS.size : Int)) (0 : Nat) (cl (el s0 s31.toNat) (2 : Nat)).toS.size) (bcond (!(cl (el s4 s31.toNat) (2 : Nat)).toS.toList == (strCut (cl (el s0 s31.toNat) (2 : Nat)).toS (0 : Nat) (if (255 : Int) < (↑(cl (el s0 s31.toNat) (2 : Nat)).toS.size : Int) then (255 : Int) else (↑(cl (el s0 s31.toNat) (2 : Nat)).toS.size : Int)).toNat).toList) (k X.ret (f3_x10_rv1 (false) (el s0 s31.toNat))) (evLoop false (f3_s10 n) m (f3_h10 (s0) (s4) (s30) (IntKind.i64.wrap (s31 + (1 : Int)))) k)) (none)) (none))) (none)) (evLoop false (f3_s10 n) m (f3_h10 (s0) (s4) (s30) (IntKind.i64.wrap (s31 + (1 : Int)))) k)) (none)) (none))) (none)) (none))) (none)) (none)) (k (X.exit 0) (f3_x10_0)) := by kernel_rfl
theorem f3_a10_r (n : Nat) (s2 : Bool) : f3_k10 n X.ret (f3_x10_r s2) = some ((V.one (A.c (C.bool s2)), [])) := by kernel_rfl
theorem f3_a10_rv1 (n : Nat) (s2 : Bool) (b6 : List C) : f3_k10 n X.ret (f3_x10_rv1 s2 b6) = some ((V.one (A.c (C.bool s2)), [])) := by kernel_rfl
theorem f3_a10_0 (n : Nat) : f3_k10 n (X.exit 0) (f3_x10_0) = some ((V.one (A.c (C.bool true)), [])) := by kernel_rfl
theorem f3_eq (n : Nat) (l : List (List C)) : evFn tab FH nO false lv3 false n Try.f3 [.one (.c (.sl 36 l))] [] = bcond (l.all fun x => (cl x (26 : Nat)).toL.length.ble lim50) (bcond (!lightB l) (some ((V.one (A.c (C.bool true)), []))) (bcond (l.all okEv && l.length.ble (100000 : Nat)) (bcond (isB (toB (encR l)) && (toB (encR l)).length.ble lim38) (bcond ((↑(decR (unB (toB (encR l)))).length : Int) != (↑l.length : Int)) (some ((V.one (A.c (C.bool false)), []))) (bcond ((decR (unB (toB (encR l)))).all okEv && (decR (unB (toB (encR l)))).length.ble (100000 : Nat)) (bcond (!(strOf (toB (encR (decR (unB (toB (encR l))))))).toList == (strOf (toB (encR l))).toList) (some ((V.one (A.c (C.bool false)), []))) (evLoop false (f3_s10 n) n (f3_h10 (l) (decR (unB (toB (encR l)))) ((↑l.length : Int)) ((0 : Int))) (f3_k10 n))) (none))) (none)) (none))) (none) := by kernel_rfl


theorem enc_ok {l : List (List C)} (h40 : l.length ≤ 40) : (isB (toB (encR l)) && Nat.ble (toB (encR l)).length lim38) = true := by
  have := encR_len l
  have h38 : lim38 = 274877906944 := rfl
  rw [isB_toB, toB_len, Bool.true_and, Nat.ble_eq]
  omega
theorem f3_L10 (n : Nat) (k : X → St → Option R) (l : List (List C)) (hg : ∀ x ∈ l, GoodE x) (h40 : l.length ≤ 40) (m : Nat) (hm : l.length < m) :
    evLoop false (f3_s10 n) m (f3_h10 l (l.map nmE) l.length 0) k = k (X.exit 0) f3_x10_0 :=
  fold_loop (xs := l) (L := fun m i (_ : Unit) => evLoop false (f3_s10 n) m (f3_h10 l (l.map nmE) l.length i) k) (f := fun _ _ => ()) (E := fun _ => k (X.exit 0) f3_x10_0) (fun _ _ => True)
    (fun m i _ x hx hlt _ => by
      show evLoop false (f3_s10 n) (m + 1) _ k = evLoop false (f3_s10 n) m _ k
      obtain ⟨_, _, _, _, e0, e1, e2⟩ := nm_parts (hg x (List.mem_of_getElem? hx))
      have hy : (l.map nmE)[i]? = some (nmE x) := by rw [List.getElem?_map, hx]; rfl
      rw [f3_t10]
      simp only [lt_nat, inB_nat, Int.toNat_natCast, el_get hx, el_get hy, List.length_map, wrap_succ (i := i) (by omega), hlt, decide_true, bcond_t, e0, e1, cutS_ok]
      rw [iand_7, iand_7, bcond_no (by show (kN x != kN x) = false; simp), bcond_no (by show (lN x != lN x) = false; simp)]
      cases hk : (kN x == 1) with
      | false => rfl
      | true =>
        obtain ⟨t1, t2⟩ := e2 (by simpa using hk)
        rw [bcond_t, iand_FFFF, t1, t2, bcond_no (by simp)]
        refine (bcond_no ?_ _ _).trans rfl
        show (!((cutS (cl x 2).toS).toList == (cutS (cl x 2).toS).toList)) = false
        simp)
    (fun _ _ _ _ _ _ => trivial)
    (fun m _ _ => by
      show evLoop false (f3_s10 n) (m + 1) _ k = _
      rw [f3_t10, lt_nat, bcond_no (by simp)])
    l.length 0 () m (by simp) hm trivial
theorem ok_nm {l : List (List C)} (hg : ∀ x ∈ l, GoodE x) (hl : l.length ≤ 100000) : ((l.map nmE).all okEv && Nat.ble l.length 100000) = true := by
  have := ok_all (good_nm hg) (by rw [List.length_map]; exact hl)
  rwa [List.length_map] at this
theorem f3_out (n : Nat) (hn : 100 < n) (l : List (List C)) (hw : Wf tab (.sl 36 l)) : evFn tab FH nO false lv3 false n Try.f3 [.one (.c (.sl 36 l))] [] = some (.one (.c (.bool true)), []) := by
  obtain ⟨hg, h26⟩ := args_good hw
  rw [f3_eq, h26, bcond_t]
  cases hli : lightB l with
  | false => rfl
  | true =>
    have h40 := light_len hli
    have hdec := decR_enc l hg
    have hok2 := ok_nm hg (by omega)
    refine (bcond_no (by rfl) _ _).trans ?_
    rw [ok_all hg (by omega), bcond_t, enc_ok h40, bcond_t, unB_toB, hdec, List.length_map, bcond_no (by simp), hok2, bcond_t, encR_nm l hg, bcond_no (by simp), f3_L10 n _ l hg h40 n (by omega), f3_a10_0]
theorem law_ScriptBack : ∀ xs, All2 (ArgOk tab) [22] xs → FnAt Try.prog tab 3 (List.zipWith (argV tab) [22] xs) [] (.one (.c (.bool true))) [] := by
  intro xs h
  match xs, h with
  | [x], h =>
    obtain ⟨l, rfl⟩ := wk_sl h.1.1
    exact fn3 sFH rfl (f3_out 101 (by omega) l (h.1.2 _ (List.mem_singleton.2 rfl)))

end Go.Proofs.Ytnbiincgplkmbaa
