/- Fd -/
import Derived.Test.YtacklcdhfoedlaaFc
import Derived.KernelRfl
namespace Go.Proofs.Ytacklcdhfoedlaa
open Go Go.Eng
set_option maxRecDepth 100000
/-- The answer to a question, if there is one. -/
def hit (now : Int) (q : List C) (e : List C) : Bool := !notQ q e && !decide ((cl e 4).toI ≤ now)
def getE (now : Int) (es : List (List C)) (q : List C) : Option (List C) := es.find? (hit now q)
/-- A record, so long afterwards. -/
def ageR (now : Int) (e r : List C) : List C := r.set 2 (.int .i64 (if (0 : Int) > IntKind.i64.wrap ((cl r 2).toI - IntKind.i64.wrap (now - (cl e 5).toI)) then (0 : Int) else IntKind.i64.wrap ((cl r 2).toI - IntKind.i64.wrap (now - (cl e 5).toI))))
def getO : Option (List C) → Int
  | some e => (cl e 2).toI
  | none => 0
def getL (now : Int) : Option (List C) → List (List C)
  | some e => (cl e 3).toL.map (ageR now e)
  | none => []

noncomputable abbrev f12_c4 : Code := (loops (body Try.f12)).getD 0 .skip
noncomputable abbrev f12_s4 (n : Nat) : St → (X → St → Option R) → Option R := fun st k => evCode tab nF nO lv12 false n f12_c4 st k
noncomputable abbrev f12_k4 (n : Nat) : X → St → Option R := after tab nF nO lv12 false n (body Try.f12) 0 (endK tab false Try.f12)
abbrev f12_h4 (s1 : Int) (s17 : List (List C)) (s18 : Int) (s19 : Int) (e0_0 : Int) (e0_1 : List (List C)) (b5_0 : C) (b5_1 : C) : St := { t := [((1 : Nat), V.one (A.c (C.int IntKind.i64 s1))), ((5 : Nat), V.one (A.ptr (Key.loc (5 : Nat) (0 : Nat)) (0 : Nat) (0 : Nat))), ((17 : Nat), V.one (A.c (C.sl (57 : Nat) s17))), ((18 : Nat), V.one (A.c (C.int IntKind.i64 s18))), ((19 : Nat), V.one (A.c (C.int IntKind.i64 s19)))], h := [(Key.ext (0 : Nat), (0 : Nat), B.box (55 : Nat) [C.int IntKind.i64 e0_0, C.sl (57 : Nat) e0_1] []), (Key.loc (5 : Nat) (0 : Nat), (0 : Nat), B.box (26 : Nat) [b5_0, b5_1] [])] }
noncomputable abbrev f12_c9 : Code := (loops (f12_c4)).getD 0 .skip
noncomputable abbrev f12_s9 (n : Nat) : St → (X → St → Option R) → Option R := fun st k => evCode tab nF nO lv12 false n f12_c9 st k
noncomputable abbrev f12_k9 (n m : Nat) (k : X → St → Option R) : X → St → Option R := after tab nF nO lv12 false n f12_c4 0 (backK false (f12_s4 n) m k)
abbrev f12_h9 (s1 : Int) (s37 : Int) (s38 : Int) (e0_0 : Int) (e0_1 : List (List C)) (b9 : List C) (b35 : List (List C)) : St := { t := [((1 : Nat), V.one (A.c (C.int IntKind.i64 s1))), ((9 : Nat), V.one (A.ptr (Key.loc (9 : Nat) (0 : Nat)) (0 : Nat) (0 : Nat))), ((10 : Nat), V.one (A.own (Key.loc (35 : Nat) (0 : Nat)) (0 : Nat) (32 : Nat))), ((37 : Nat), V.one (A.c (C.int IntKind.i64 s37))), ((38 : Nat), V.one (A.c (C.int IntKind.i64 s38)))], h := [(Key.ext (0 : Nat), (0 : Nat), B.box (55 : Nat) [C.int IntKind.i64 e0_0, C.sl (57 : Nat) e0_1] []), (Key.loc (9 : Nat) (0 : Nat), (0 : Nat), B.box (57 : Nat) b9 []), (Key.loc (35 : Nat) (0 : Nat), (0 : Nat), B.arr (32 : Nat) true b35)] }
abbrev f12_x9_2 (e0_0 : Int) (e0_1 : List (List C)) (b9 : List C) (b35 : List (List C)) : St := { t := [((9 : Nat), V.one (A.ptr (Key.loc (9 : Nat) (0 : Nat)) (0 : Nat) (0 : Nat))), ((10 : Nat), V.one (A.own (Key.loc (35 : Nat) (0 : Nat)) (0 : Nat) (32 : Nat)))], h := [(Key.ext (0 : Nat), (0 : Nat), B.box (55 : Nat) [C.int IntKind.i64 e0_0, C.sl (57 : Nat) e0_1] []), (Key.loc (9 : Nat) (0 : Nat), (0 : Nat), B.box (57 : Nat) b9 []), (Key.loc (35 : Nat) (0 : Nat), (0 : Nat), B.arr (32 : Nat) true b35)] }
abbrev f12_x4_0 (e0_0 : Int) (e0_1 : List (List C)) (b5_0 : C) (b5_1 : C) : St := { t := [], h := [(Key.ext (0 : Nat), (0 : Nat), B.box (55 : Nat) [C.int IntKind.i64 e0_0, C.sl (57 : Nat) e0_1] []), (Key.loc (5 : Nat) (0 : Nat), (0 : Nat), B.box (26 : Nat) [b5_0, b5_1] [])] }
abbrev f12_x4_r (s6 : Int) (e0_0 : Int) (e0_1 : List (List C)) (b9 : List C) (b35 : List (List C)) : St := { t := [((6 : Nat), V.one (A.c (C.int IntKind.i64 s6))), ((7 : Nat), V.one (A.own (Key.loc (35 : Nat) (0 : Nat)) (0 : Nat) (32 : Nat)))], h := [(Key.ext (0 : Nat), (0 : Nat), B.box (55 : Nat) [C.int IntKind.i64 e0_0, C.sl (57 : Nat) e0_1] []), (Key.loc (9 : Nat) (0 : Nat), (0 : Nat), B.box (57 : Nat) b9 []), (Key.loc (35 : Nat) (0 : Nat), (0 : Nat), B.arr (32 : Nat) true b35)] }
theorem f12_t4 (n m : Nat) (k : X → St → Option R) (s1 : Int) (s17 : List (List C)) (s18 : Int) (s19 : Int) (e0_0 : Int) (e0_1 : List (List C)) (b5_0 : C) (b5_1 : C) : evLoop false (f12_s4 n) (m + 1) (f12_h4 s1 s17 s18 s19 e0_0 e0_1 b5_0 b5_1) k = bcond (decide (s19 < s18)) (bcond (inB s19 s17.length) (bcond (!eqL (sub (el s17 s19.toNat) (0 : Nat) (2 : Nat)) [b5_0, b5_1]) (evLoop false (f12_s4 n) m (f12_h4 (s1) (s17) (s18) (IntKind.i64.wrap (s19 + (1 : Int))) (e0_0) (e0_1) (b5_0) (b5_1)) k) (bcond (decide ((cl (el s17 s19.toNat) (4 : Nat)).toI ≤ s1)) (evLoop false (f12_s4 n) m (f12_h4 (s1) (s17) (s18) (IntKind.i64.wrap (s19 + (1 : Int))) (e0_0) (e0_1) (b5_0) (b5_1)) k) (bcond (roomOk (cl (el s17 s19.toNat) (3 : Nat)).toL.length (80 : Nat)) (evLoop false (f12_s9 n) n (f12_h9 (s1) ((↑(cl (el s17 s19.toNat) (3 : Nat)).toL.length : Int)) ((0 : Int)) (e0_0) (e0_1) (el s17 s19.toNat) ((cl (el s17 s19.toNat) (3 : Nat)).toL)) (f12_k9 n m k)) (none)))) (none)) (k (X.exit 0) (f12_x4_0 (e0_0) (e0_1) (b5_0) (b5_1))) := by kernel_rfl
theorem f12_t9 (n m : Nat) (k : X → St → Option R) (s1 : Int) (s37 : Int) (s38 : Int) (e0_0 : Int) (e0_1 : List (List C)) (b9 : List C) (b35 : List (List C)) : evLoop false (f12_s9 n) (m + 1) (f12_h9 s1 s37 s38 e0_0 e0_1 b9 b35) k = bcond (decide (s38 < s37)) (bcond (inB s38 b35.length) (bcond (inB s38 b35.length) (evLoop false (f12_s9 n) m (f12_h9 (s1) (s37) (IntKind.i64.wrap (s38 + (1 : Int))) (e0_0) (e0_1) (b9) (b35.set s38.toNat ((el b35 s38.toNat).set (2 : Nat) (C.int IntKind.i64 (if (0 : Int) > IntKind.i64.wrap ((cl (el b35 s38.toNat) (2 : Nat)).toI - IntKind.i64.wrap (s1 - (cl b9 (5 : Nat)).toI)) then (0 : Int) else IntKind.i64.wrap ((cl (el b35 s38.toNat) (2 : Nat)).toI - IntKind.i64.wrap (s1 - (cl b9 (5 : Nat)).toI))))))) k) (none)) (none)) (k (X.exit 2) (f12_x9_2 (e0_0) (e0_1) (b9) (b35))) := by kernel_rfl
theorem f12_a9_2 (n m : Nat) (k : X → St → Option R) (e0_0 : Int) (e0_1 : List (List C)) (b9 : List C) (b35 : List (List C)) : f12_k9 n m k (X.exit 2) (f12_x9_2 e0_0 e0_1 b9 b35) = k X.ret (f12_x4_r ((cl b9 (2 : Nat)).toI) (e0_0) (e0_1) (b9) (b35)) := by kernel_rfl
theorem f12_a4_0 (n : Nat) (e0_0 : Int) (e0_1 : List (List C)) (b5_0 : C) (b5_1 : C) : f12_k4 n (X.exit 0) (f12_x4_0 e0_0 e0_1 b5_0 b5_1) = some ((V.tup [V.one (A.c (C.int IntKind.i64 (0 : Int))), V.one (A.c (C.sl (32 : Nat) []))], [(Key.ext (0 : Nat), (0 : Nat), B.box (55 : Nat) [C.int IntKind.i64 e0_0, C.sl (57 : Nat) e0_1] [])])) := by kernel_rfl
theorem f12_a4_r (n : Nat) (s6 : Int) (e0_0 : Int) (e0_1 : List (List C)) (b9 : List C) (b35 : List (List C)) : f12_k4 n X.ret (f12_x4_r s6 e0_0 e0_1 b9 b35) = some ((V.tup [V.one (A.c (C.int IntKind.i64 s6)), V.one (A.c (C.sl (32 : Nat) b35))], [(Key.ext (0 : Nat), (0 : Nat), B.box (55 : Nat) [C.int IntKind.i64 e0_0, C.sl (57 : Nat) e0_1] [])])) := by kernel_rfl
theorem f12_eq (n : Nat) (now : Int) (size : Int) (l : List (List C)) (q0 : C) (q1 : C) : evFn tab nF nO false lv12 false n Try.f12 [.one (.ptr (.ext 0) 0 0), .one (.c (.int .i64 now)), .agg 26 [q0, q1] []] [(.ext 0, (0, .box 55 [.int .i64 size, .sl 57 l] []))] = evLoop false (f12_s4 n) n (f12_h4 (now) (l) ((↑l.length : Int)) ((0 : Int)) (size) (l) (q0) (q1)) (f12_k4 n) := by kernel_rfl


theorem f12_L9 (n : Nat) (k : X → St → Option R) (now size : Int) (l rs : List (List C)) (e : List C) (hl : rs.length ≤ 1000000) (m : Nat) (hm : rs.length < m) :
    evLoop false (f12_s9 n) m (f12_h9 now rs.length 0 size l e rs) k = k (X.exit 2) (f12_x9_2 size l e (rs.map (ageR now e))) := by
  have h := fold_loop (xs := rs) (L := fun m i (_ : Unit) => evLoop false (f12_s9 n) m (f12_h9 now rs.length i size l e (upTo (ageR now e) rs i)) k)
    (f := fun _ _ => ()) (E := fun _ => k (X.exit 2) (f12_x9_2 size l e (rs.map (ageR now e)))) (fun _ _ => True)
    (fun m i _ x hx hlt _ => by
      show evLoop false (f12_s9 n) (m + 1) _ k = evLoop false (f12_s9 n) m _ k
      rw [f12_t9]
      simp only [lt_nat, inB_nat, Int.toNat_natCast, upTo_length _ _ (Nat.le_of_lt hlt), el_get (upTo_get (ageR now e) hx), wrap_succ (i := i) (by omega), hlt, decide_true, bcond_t]
      rw [← upTo_set (ageR now e) hx]
      rfl)
    (fun _ _ _ _ _ _ => trivial)
    (fun m _ _ => by
      show evLoop false (f12_s9 n) (m + 1) _ k = _
      rw [f12_t9, lt_nat, bcond_no (by simp), upTo_all])
    rs.length 0 () m (by omega) hm trivial
  rw [upTo_zero] at h
  exact h

theorem overX_find {α : Type} (p : α → Bool) (o : α → Option R) (E : Unit → Option R) : ∀ l : List α, overX (fun (_ : Unit) x => if p x = true then .inr (o x) else .inl ()) E l () = match l.find? p with | some x => o x | none => E ()
  | [] => rfl
  | x :: l => by
    rw [overX, List.find?_cons]
    cases p x with
    | true => rfl
    | false => exact overX_find p o E l

theorem f12_out (now size : Int) (l : List (List C)) (q0 q1 : C) (hl : l.length ≤ 1000000) (hr : ∀ e ∈ l, (cl e 3).toL.length ≤ 1000000) (n : Nat) (hn : 1000000 < n) :
    evFn tab nF nO false lv12 false n Try.f12 [.one (.ptr (.ext 0) 0 0), .one (.c (.int .i64 now)), .agg 26 [q0, q1] []] [(.ext 0, (0, .box 55 [.int .i64 size, .sl 57 l] []))] =
      some (.tup [.one (.c (.int .i64 (getO (getE now l [q0, q1])))), .one (.c (.sl 32 (getL now (getE now l [q0, q1]))))], [(.ext 0, (0, .box 55 [.int .i64 size, .sl 57 l] []))]) := by
  rw [f12_eq]
  have h := over_loop (xs := l) (L := fun m i (_ : Unit) => evLoop false (f12_s4 n) m (f12_h4 now l l.length i size l q0 q1) (f12_k4 n))
    (g := fun (_ : Unit) x => if hit now [q0, q1] x = true then .inr (some (.tup [.one (.c (.int .i64 (cl x 2).toI)), .one (.c (.sl 32 ((cl x 3).toL.map (ageR now x))))], [(.ext 0, (0, .box 55 [.int .i64 size, .sl 57 l] []))])) else .inl ())
    (E := fun _ => some (.tup [.one (.c (.int .i64 0)), .one (.c (.sl 32 []))], [(.ext 0, (0, .box 55 [.int .i64 size, .sl 57 l] []))])) (fun _ _ => True)
    (fun m i _ x hx hlt _ => by
      show evLoop false (f12_s4 n) (m + 1) _ _ = _
      have hx3 := hr x (List.mem_of_getElem? hx)
      rw [f12_t4]
      simp only [lt_nat, inB_nat, Int.toNat_natCast, el_get hx, wrap_succ (i := i) (by omega), hlt, decide_true, bcond_t]
      show bcond (notQ [q0, q1] x) _ _ = _
      unfold hit
      cases hp : notQ [q0, q1] x with
      | true => rfl
      | false =>
        rw [bcond_f]
        cases hq : decide ((cl x 4).toI ≤ now) with
        | true => rfl
        | false =>
          rw [bcond_f, bcond_of (roomOk_of (by omega) (by omega)), f12_L9 n _ now size l _ x hx3 n (by omega), f12_a9_2]
          exact f12_a4_r n _ size l x _)
    (fun _ _ _ _ _ _ _ _ => trivial)
    (fun m _ _ => by
      show evLoop false (f12_s4 n) (m + 1) _ _ = _
      rw [f12_t4, lt_nat, bcond_no (by simp), f12_a4_0])
    l.length 0 () n (by omega) (by omega) trivial
  refine h.trans ?_
  rw [List.drop_zero, overX_find]
  unfold getE
  cases l.find? (hit now [q0, q1]) <;> rfl

theorem f12n_eq (n : Nat) (now : Int) (q0 : C) (q1 : C) : evFn tab nF nO false lv12 false n Try.f12 [.one .nilp, .one (.c (.int .i64 now)), .agg 26 [q0, q1] []] [] = some ((V.tup [V.one (A.c (C.int IntKind.i64 (0 : Int))), V.one (A.c (C.sl (32 : Nat) []))], [])) := by kernel_rfl


def e12 : En
  | [.one (.ptr (.ext 0) 0 0), .one (.c (.int .i64 now)), .agg 26 [q0, q1] []], [(.ext 0, (0, .box 55 [.int .i64 size, .sl 57 l] []))], k =>
    bcond (Nat.ble l.length 1000000 && l.all fun e => Nat.ble (cl e 3).toL.length 1000000)
      (k (.tup [.one (.c (.int .i64 (getO (getE now l [q0, q1])))), .one (.c (.sl 32 (getL now (getE now l [q0, q1]))))]) [(.ext 0, (0, .box 55 [.int .i64 size, .sl 57 l] []))]) none
  | [.one .nilp, .one (.c (.int .i64 _)), .agg 26 [_, _] []], [], k => k (.tup [.one (.c (.int .i64 0)), .one (.c (.sl 32 []))]) []
  | _, _, _ => none
theorem es12 : ES Try.prog tab 12 e12 := by
  intro args h k x hh
  unfold e12 at hh
  split at hh
  · rename_i now q0 q1 size l
    cases hb : (Nat.ble l.length 1000000 && l.all fun e => Nat.ble (cl e 3).toL.length 1000000) with
    | false => rw [hb, bcond_f] at hh; cases hh
    | true =>
      rw [hb, bcond_t] at hh
      rw [Bool.and_eq_true, Nat.ble_eq, List.all_eq_true] at hb
      exact ⟨_, _, hh, fn12 (nF_sound _ _) rfl (f12_out now size l q0 q1 hb.1 (fun e he => by simpa using hb.2 e he) 1000001 (by omega))⟩
  · exact ⟨_, _, hh, fn12 (nF_sound _ _) rfl (f12n_eq 0 _ _ _)⟩
  · cases hh

end Go.Proofs.Ytacklcdhfoedlaa
