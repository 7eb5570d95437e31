/- Gd -/
import Derived.Test.YtnbiincgplkmbaaGc
import Derived.KernelRfl
namespace Go.Proofs.Ytnbiincgplkmbaa
open Go Go.Eng
set_option maxRecDepth 100000
noncomputable abbrev f10_c4 : Code := (loops (body Try.f10)).getD 0 .skip
noncomputable abbrev f10_s4 (n : Nat) : St → (X → St → Option R) → Option R := fun st k => evCode tab nF nO lv10 false n f10_c4 st k
noncomputable abbrev f10_k4 (n : Nat) : X → St → Option R := after tab nF nO lv10 false n (body Try.f10) 0 (endK tab false Try.f10)
abbrev f10_h4 (s11 : List (List C)) (s12 : Int) (s13 : Int) : St := { t := [((11 : Nat), V.one (A.c (C.sl (36 : Nat) s11))), ((12 : Nat), V.one (A.c (C.int IntKind.i64 s12))), ((13 : Nat), V.one (A.c (C.int IntKind.i64 s13)))], h := [] }
noncomputable abbrev f10_c8 : Code := (loops (f10_c4)).getD 0 .skip
noncomputable abbrev f10_s8 (n : Nat) : St → (X → St → Option R) → Option R := fun st k => evCode tab nF nO lv10 false n f10_c8 st k
noncomputable abbrev f10_k8 (n m : Nat) (k : X → St → Option R) : X → St → Option R := after tab nF nO lv10 false n f10_c4 0 (backK false (f10_s4 n) m k)
abbrev f10_h8 (s5 : Int) (s11 : List (List C)) (s12 : Int) (s13 : Int) (s38 : List (List C)) (s39 : Int) (s40 : Int) (b4 : List C) : St := { t := [((4 : Nat), V.one (A.ptr (Key.loc (4 : Nat) (0 : Nat)) (0 : Nat) (0 : Nat))), ((5 : Nat), V.one (A.c (C.int IntKind.i64 s5))), ((11 : Nat), V.one (A.c (C.sl (36 : Nat) s11))), ((12 : Nat), V.one (A.c (C.int IntKind.i64 s12))), ((13 : Nat), V.one (A.c (C.int IntKind.i64 s13))), ((38 : Nat), V.one (A.c (C.sl (9 : Nat) s38))), ((39 : Nat), V.one (A.c (C.int IntKind.i64 s39))), ((40 : Nat), V.one (A.c (C.int IntKind.i64 s40)))], h := [(Key.loc (4 : Nat) (0 : Nat), (0 : Nat), B.box (36 : Nat) b4 [])] }
abbrev f10_x8_2 (s5 : Int) (s11 : List (List C)) (s12 : Int) (s13 : Int) (b4 : List C) : St := { t := [((4 : Nat), V.one (A.ptr (Key.loc (4 : Nat) (0 : Nat)) (0 : Nat) (0 : Nat))), ((5 : Nat), V.one (A.c (C.int IntKind.i64 s5))), ((11 : Nat), V.one (A.c (C.sl (36 : Nat) s11))), ((12 : Nat), V.one (A.c (C.int IntKind.i64 s12))), ((13 : Nat), V.one (A.c (C.int IntKind.i64 s13)))], h := [(Key.loc (4 : Nat) (0 : Nat), (0 : Nat), B.box (36 : Nat) b4 [])] }
abbrev f10_x4_0 : St := { t := [], h := [] }
abbrev f10_x4_r (s2 : Bool) (b4 : List C) : St := { t := [((2 : Nat), V.one (A.c (C.bool s2)))], h := [(Key.loc (4 : Nat) (0 : Nat), (0 : Nat), B.box (36 : Nat) b4 [])] }
theorem f10_t4 (n m : Nat) (k : X → St → Option R) (s11 : List (List C)) (s12 : Int) (s13 : Int) : evLoop false (f10_s4 n) (m + 1) (f10_h4 s11 s12 s13) k = bcond (decide (s13 < s12)) (bcond (inB s13 s11.length) (evLoop false (f10_s8 n) n (f10_h8 (IntKind.i64.wrap (IntKind.i64.wrap (IntKind.i64.wrap (IntKind.i64.wrap ((↑(cl (el s11 s13.toNat) (2 : Nat)).toS.size : Int) + (↑(cl (el s11 s13.toNat) (23 : Nat)).toL.length : Int)) + (↑(cl (el s11 s13.toNat) (31 : Nat)).toS.size : Int)) + (↑(cl (el s11 s13.toNat) (32 : Nat)).toS.size : Int)) + (↑(cl (el s11 s13.toNat) (33 : Nat)).toS.size : Int))) (s11) (s12) (s13) ((cl (el s11 s13.toNat) (26 : Nat)).toL) ((↑(cl (el s11 s13.toNat) (26 : Nat)).toL.length : Int)) ((0 : Int)) (el s11 s13.toNat)) (f10_k8 n m k)) (none)) (k (X.exit 0) (f10_x4_0)) := by kernel_rfl
theorem f10_t8 (n m : Nat) (k : X → St → Option R) (s5 : Int) (s11 : List (List C)) (s12 : Int) (s13 : Int) (s38 : List (List C)) (s39 : Int) (s40 : Int) (b4 : List C) : evLoop false (f10_s8 n) (m + 1) (f10_h8 s5 s11 s12 s13 s38 s39 s40 b4) k = bcond (decide (s40 < s39)) (bcond (inB s40 s38.length) (evLoop false (f10_s8 n) m (f10_h8 (IntKind.i64.wrap (s5 + (↑(cl (el s38 s40.toNat) (0 : Nat)).toS.size : Int))) (s11) (s12) (s13) (s38) (s39) (IntKind.i64.wrap (s40 + (1 : Int))) (b4)) k) (none)) (k (X.exit 2) (f10_x8_2 (s5) (s11) (s12) (s13) (b4))) := by kernel_rfl
theorem f10_a8_2 (n m : Nat) (k : X → St → Option R) (s5 : Int) (s11 : List (List C)) (s12 : Int) (s13 : Int) (b4 : List C) : f10_k8 n m k (X.exit 2) (f10_x8_2 s5 s11 s12 s13 b4) = bcond (decide (s5 > (3000 : Int))) (k X.ret (f10_x4_r (false) (b4))) (bcond (decide (IntKind.i64.wrap (IntKind.i64.wrap ((↑(cl b4 (26 : Nat)).toL.length : Int) + (↑(cl b4 (29 : Nat)).toL.length : Int)) + (↑(cl b4 (30 : Nat)).toL.length : Int)) > (100 : Int))) (k X.ret (f10_x4_r (false) (b4))) (evLoop false (f10_s4 n) m (f10_h4 (s11) (s12) (IntKind.i64.wrap (s13 + (1 : Int)))) k)) := by kernel_rfl
theorem f10_a4_0 (n : Nat) : f10_k4 n (X.exit 0) (f10_x4_0) = some ((V.one (A.c (C.bool true)), [])) := by kernel_rfl
theorem f10_a4_r (n : Nat) (s2 : Bool) (b4 : List C) : f10_k4 n X.ret (f10_x4_r s2 b4) = some ((V.one (A.c (C.bool s2)), [])) := by kernel_rfl
theorem f10_eq (n : Nat) (l : List (List C)) : evFn tab nF nO false lv10 false n Try.f10 [.one (.c (.sl 36 l))] [] = bcond (decide ((↑l.length : Int) > (40 : Int))) (some ((V.one (A.c (C.bool false)), []))) (evLoop false (f10_s4 n) n (f10_h4 (l) ((↑l.length : Int)) ((0 : Int))) (f10_k4 n)) := by kernel_rfl


theorem f13_eq (n : Nat) (l : List (List C)) (k : List (List C)) : evFn tab FG nO false lv13 false n Try.f13 [.one (.c (.sl 36 l)), .one (.c (.sl 36 k))] [] = bcond (l.all okEv && l.length.ble (100000 : Nat)) (bcond (k.all okEv && k.length.ble (100000 : Nat)) (bcond ((strOf (toB (encR l))).toList == (strOf (toB (encR k))).toList) (some ((V.one (A.c (C.bool ((↑l.length : Int) == (↑k.length : Int)))), []))) (some ((V.one (A.c (C.bool false)), [])))) (none)) (none) := by kernel_rfl


def sumE (x : List C) : Int := (cl x 26).toL.foldl (fun (s : Int) d => IntKind.i64.wrap (s + ((cl d 0).toS.size : Int)))
  (IntKind.i64.wrap (IntKind.i64.wrap (IntKind.i64.wrap (IntKind.i64.wrap (((cl x 2).toS.size : Int) + ((cl x 23).toL.length : Int)) + ((cl x 31).toS.size : Int)) + ((cl x 32).toS.size : Int)) + ((cl x 33).toS.size : Int)))
def cntE (x : List C) : Int := IntKind.i64.wrap (IntKind.i64.wrap (((cl x 26).toL.length : Int) + ((cl x 29).toL.length : Int)) + ((cl x 30).toL.length : Int))
def heavy (x : List C) : Bool := decide (sumE x > 3000) || decide (cntE x > 100)
def lightB (l : List (List C)) : Bool := !decide ((l.length : Int) > 40) && (l.find? heavy).isNone
def lim50 : Nat := 1125899906842624
theorem overX_find {α : Type} (p : α → Bool) (o : α → Option R) (E : Unit → Option R) : ∀ l : List α, overX (fun (_ : Unit) x => if p x = true then .inr (o x) else .inl ()) E l () = match l.find? p with | some x => o x | none => E ()
  | [] => rfl
  | x :: l => by
    rw [overX, List.find?_cons]
    cases p x with
    | true => rfl
    | false => exact overX_find p o E l
theorem f10_L8 (n : Nat) (k : X → St → Option R) (l : List (List C)) (len i s : Int) (x : List C) (D : List (List C)) (hD : D.length ≤ lim50) (m : Nat) (hm : D.length < m) :
    evLoop false (f10_s8 n) m (f10_h8 s l len i D D.length 0 x) k = k (X.exit 2) (f10_x8_2 (D.foldl (fun (s : Int) d => IntKind.i64.wrap (s + ((cl d 0).toS.size : Int))) s) l len i x) :=
  fold_loop (xs := D) (L := fun m j (s : Int) => evLoop false (f10_s8 n) m (f10_h8 s l len i D D.length j x) k) (f := fun (s : Int) d => IntKind.i64.wrap (s + ((cl d 0).toS.size : Int))) (E := fun s => k (X.exit 2) (f10_x8_2 s l len i x)) (fun _ _ => True)
    (fun m j s d hd hlt _ => by
      show evLoop false (f10_s8 n) (m + 1) _ k = evLoop false (f10_s8 n) m _ k
      have h50 : lim50 = 1125899906842624 := rfl
      rw [f10_t8]
      simp only [lt_nat, inB_nat, Int.toNat_natCast, el_get hd, wrap_succ (i := j) (by omega), hlt, decide_true, bcond_t])
    (fun _ _ _ _ _ _ => trivial)
    (fun m s _ => by
      show evLoop false (f10_s8 n) (m + 1) _ k = _
      rw [f10_t8, lt_nat, bcond_no (by simp)])
    D.length 0 s m (by simp) hm trivial
theorem f10_out (l : List (List C)) (hl : ∀ x ∈ l, (cl x 26).toL.length ≤ lim50) : evFn tab nF nO false lv10 false (lim50 + 1) Try.f10 [.one (.c (.sl 36 l))] [] = some (.one (.c (.bool (lightB l))), []) := by
  have h50 : lim50 = 1125899906842624 := rfl
  rw [f10_eq]
  unfold lightB
  cases h1 : decide ((l.length : Int) > 40) with
  | true => rfl
  | false =>
    simp only [decide_eq_false_iff_not] at h1
    rw [bcond_f]
    have h := over_loop (xs := l) (L := fun m i (_ : Unit) => evLoop false (f10_s4 (lim50 + 1)) m (f10_h4 l l.length i) (f10_k4 (lim50 + 1)))
      (g := fun (_ : Unit) x => if heavy x = true then .inr (some (.one (.c (.bool false)), [])) else .inl ()) (E := fun _ => some (.one (.c (.bool true)), [])) (fun _ _ => True)
      (fun m i _ x hx hlt _ => by
        show evLoop false (f10_s4 (lim50 + 1)) (m + 1) _ _ = _
        rw [f10_t4]
        simp only [lt_nat, inB_nat, Int.toNat_natCast, el_get hx, hlt, decide_true, bcond_t]
        refine (f10_L8 (lim50 + 1) _ l _ _ _ x _ (hl x (List.mem_of_getElem? hx)) (lim50 + 1) (by have := hl x (List.mem_of_getElem? hx); omega)).trans ?_
        rw [f10_a8_2]
        show bcond (decide (sumE x > 3000)) _ (bcond (decide (cntE x > 100)) _ _) = _
        unfold heavy
        cases decide (sumE x > 3000) with
        | true => exact f10_a4_r (lim50 + 1) false x
        | false =>
          cases decide (cntE x > 100) with
          | true => exact f10_a4_r (lim50 + 1) false x
          | false =>
            show evLoop false (f10_s4 (lim50 + 1)) m (f10_h4 l l.length (IntKind.i64.wrap ((i : Int) + 1))) _ = _
            rw [wrap_succ (by omega)]
            rfl)
      (fun _ _ _ _ _ _ _ _ => trivial)
      (fun m _ _ => by
        show evLoop false (f10_s4 (lim50 + 1)) (m + 1) _ _ = _
        rw [f10_t4, lt_nat, bcond_no (by simp), f10_a4_0])
      l.length 0 () (lim50 + 1) (by omega) (by omega) trivial
    refine h.trans ?_
    rw [List.drop_zero, overX_find]
    cases l.find? heavy <;> rfl
def e10 : En
  | [.one (.c (.sl 36 l))], [], k => bcond (l.all fun x => Nat.ble (cl x 26).toL.length lim50) (k (.one (.c (.bool (lightB l)))) []) none
  | _, _, _ => none
theorem es10 : ES Try.prog tab 10 e10 := by
  intro args h k x hh
  unfold e10 at hh
  split at hh
  · rename_i l
    cases hb : (l.all fun x => Nat.ble (cl x 26).toL.length lim50) with
    | false => rw [hb, bcond_f] at hh; cases hh
    | true =>
      rw [hb, bcond_t] at hh
      rw [List.all_eq_true] at hb
      exact ⟨_, _, hh, fn10 (nF_sound _ _) rfl (f10_out l (fun x hx => by simpa using hb x hx))⟩
  · cases hh
theorem light_len {l : List (List C)} (h : lightB l = true) : l.length ≤ 40 := by
  unfold lightB at h
  rw [Bool.and_eq_true, Bool.not_eq_true', decide_eq_false_iff_not] at h
  omega
def sameB (l k : List (List C)) : Bool := (mkS (encR l)).toList == (mkS (encR k)).toList && ((l.length : Int) == (k.length : Int))
def e13 : En
  | [.one (.c (.sl 36 l)), .one (.c (.sl 36 k))], [], c => bcond (l.all okEv && Nat.ble l.length 100000) (bcond (k.all okEv && Nat.ble k.length 100000) (c (.one (.c (.bool (sameB l k)))) []) none) none
  | _, _, _ => none
theorem es13 : ES Try.prog tab 13 e13 := by
  intro args h c x hh
  unfold e13 at hh
  split at hh
  · rename_i l k
    have ho := f13_eq 0 l k
    cases hb : (l.all okEv && Nat.ble l.length 100000) with
    | false => rw [hb, bcond_f] at hh; cases hh
    | true =>
      rw [hb, bcond_t] at hh ho
      cases hc : (k.all okEv && Nat.ble k.length 100000) with
      | false => rw [hc, bcond_f] at hh; cases hh
      | true =>
        rw [hc, bcond_t] at hh ho
        refine ⟨_, _, hh, fn13 sFG rfl (ho.trans ?_)⟩
        rw [strOf_toB, strOf_toB]
        unfold sameB
        cases ((mkS (encR l)).toList == (mkS (encR k)).toList) <;> rfl
  · cases hh
def FH : Fun := mkF [(9, e9), (10, e10), (11, e11), (12, e12), (13, e13)]
theorem sFH : FSound Try.prog tab FH := mkF_sound (fun p hp => by
  simp only [List.mem_cons, List.not_mem_nil, or_false] at hp
  rcases hp with rfl | rfl | rfl | rfl | rfl
  · exact es9
  · exact es10
  · exact es11
  · exact es12
  · exact es13)

end Go.Proofs.Ytnbiincgplkmbaa
