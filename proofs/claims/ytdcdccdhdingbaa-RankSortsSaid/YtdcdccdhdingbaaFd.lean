/- Fd -/
import Derived.Test.YtdcdccdhdingbaaFc
import Derived.KernelRfl
namespace Go.Proofs.Ytdcdccdhdingbaa
open Go Go.Eng
set_option maxRecDepth 100000
noncomputable abbrev f10_c4 : Code := (loops (body Try.f10)).getD 0 .skip
noncomputable abbrev f10_s4 (n : Nat) : St → (X → St → Option R) → Option R := fun st k => evCode tab FD nO lv10 false n f10_c4 st k
noncomputable abbrev f10_k4 (n : Nat) : X → St → Option R := after tab FD nO lv10 false n (body Try.f10) 0 (endK tab false Try.f10)
abbrev f10_h4 (s7 : Bool) (s10 : List (List C)) (s11 : Int) (s12 : Int) (b3 : List C) (b4 : List C) (b6 : List C) : St := { t := [((3 : Nat), V.one (A.ptr (Key.loc (3 : Nat) (0 : Nat)) (0 : Nat) (0 : Nat))), ((4 : Nat), V.one (A.ptr (Key.loc (4 : Nat) (0 : Nat)) (0 : Nat) (0 : Nat))), ((6 : Nat), V.one (A.ptr (Key.loc (6 : Nat) (0 : Nat)) (0 : Nat) (0 : Nat))), ((7 : Nat), V.one (A.c (C.bool s7))), ((10 : Nat), V.one (A.c (C.sl (27 : Nat) s10))), ((11 : Nat), V.one (A.c (C.int IntKind.i64 s11))), ((12 : Nat), V.one (A.c (C.int IntKind.i64 s12)))], h := [(Key.loc (3 : Nat) (0 : Nat), (0 : Nat), B.box (24 : Nat) b3 []), (Key.loc (4 : Nat) (0 : Nat), (0 : Nat), B.box (27 : Nat) b4 []), (Key.loc (6 : Nat) (0 : Nat), (0 : Nat), B.box (27 : Nat) b6 [])] }
abbrev f10_x4_0 (s7 : Bool) (b3 : List C) (b4 : List C) (b6 : List C) : St := { t := [((4 : Nat), V.one (A.ptr (Key.loc (4 : Nat) (0 : Nat)) (0 : Nat) (0 : Nat))), ((6 : Nat), V.one (A.ptr (Key.loc (6 : Nat) (0 : Nat)) (0 : Nat) (0 : Nat))), ((7 : Nat), V.one (A.c (C.bool s7)))], h := [(Key.loc (3 : Nat) (0 : Nat), (0 : Nat), B.box (24 : Nat) b3 []), (Key.loc (4 : Nat) (0 : Nat), (0 : Nat), B.box (27 : Nat) b4 []), (Key.loc (6 : Nat) (0 : Nat), (0 : Nat), B.box (27 : Nat) b6 [])] }
theorem f10_t4 (n m : Nat) (k : X → St → Option R) (s7 : Bool) (s10 : List (List C)) (s11 : Int) (s12 : Int) (b3 : List C) (b4 : List C) (b6 : List C) : evLoop false (f10_s4 n) (m + 1) (f10_h4 s7 s10 s11 s12 b3 b4 b6) k = bcond (decide (s12 < s11)) (bcond (inB s12 s10.length) (bcond (is4 (sub (el s10 s12.toNat) (0 : Nat) (16 : Nat)) == is4 b3) (bcond (!s7) (evLoop false (f10_s4 n) m (f10_h4 (true) (s10) (s11) (IntKind.i64.wrap (s12 + (1 : Int))) (b3) (b4) (el s10 s12.toNat)) k) (bcond (decide (betN (el s10 s12.toNat) b6 b3 > (0 : Int))) (evLoop false (f10_s4 n) m (f10_h4 (true) (s10) (s11) (IntKind.i64.wrap (s12 + (1 : Int))) (b3) (b4) (el s10 s12.toNat)) k) (evLoop false (f10_s4 n) m (f10_h4 (s7) (s10) (s11) (IntKind.i64.wrap (s12 + (1 : Int))) (b3) (b4) (b6)) k))) (evLoop false (f10_s4 n) m (f10_h4 (s7) (s10) (s11) (IntKind.i64.wrap (s12 + (1 : Int))) (b3) (b4) (b6)) k)) (none)) (k (X.exit 0) (f10_x4_0 (s7) (b3) (b4) (b6))) := by kernel_rfl
theorem f10_a4_0 (n : Nat) (s7 : Bool) (b3 : List C) (b4 : List C) (b6 : List C) : f10_k4 n (X.exit 0) (f10_x4_0 s7 b3 b4 b6) = some ((V.tup [V.agg (27 : Nat) b6 [], V.one (A.c (C.bool s7))], [])) := by kernel_rfl
theorem f10_eq (n : Nat) (l : List (List C)) (z : List C) : evFn tab FD nO false lv10 false n Try.f10 [.one (.c (.sl 27 l)), .agg 24 z []] [] = evLoop false (f10_s4 n) n (f10_h4 (false) (l) ((↑l.length : Int)) ((0 : Int)) (z) ([C.int IntKind.u8 (0 : Int), C.int IntKind.u8 (0 : Int), C.int IntKind.u8 (0 : Int), C.int IntKind.u8 (0 : Int), C.int IntKind.u8 (0 : Int), C.int IntKind.u8 (0 : Int), C.int IntKind.u8 (0 : Int), C.int IntKind.u8 (0 : Int), C.int IntKind.u8 (0 : Int), C.int IntKind.u8 (0 : Int), C.int IntKind.u8 (0 : Int), C.int IntKind.u8 (0 : Int), C.int IntKind.u8 (0 : Int), C.int IntKind.u8 (0 : Int), C.int IntKind.u8 (0 : Int), C.int IntKind.u8 (0 : Int), C.bool false, C.bool false]) ([C.int IntKind.u8 (0 : Int), C.int IntKind.u8 (0 : Int), C.int IntKind.u8 (0 : Int), C.int IntKind.u8 (0 : Int), C.int IntKind.u8 (0 : Int), C.int IntKind.u8 (0 : Int), C.int IntKind.u8 (0 : Int), C.int IntKind.u8 (0 : Int), C.int IntKind.u8 (0 : Int), C.int IntKind.u8 (0 : Int), C.int IntKind.u8 (0 : Int), C.int IntKind.u8 (0 : Int), C.int IntKind.u8 (0 : Int), C.int IntKind.u8 (0 : Int), C.int IntKind.u8 (0 : Int), C.int IntKind.u8 (0 : Int), C.bool false, C.bool false])) (f10_k4 n) := by kernel_rfl

def loc0 : List C := [.int .u8 0, .int .u8 0, .int .u8 0, .int .u8 0, .int .u8 0, .int .u8 0, .int .u8 0, .int .u8 0, .int .u8 0, .int .u8 0, .int .u8 0, .int .u8 0, .int .u8 0, .int .u8 0, .int .u8 0, .int .u8 0, .bool false, .bool false]
/-- The best so far; is there one? -/
def srcS (z : List C) (s : List C × Bool) (x : List C) : List C × Bool :=
  bif is4 (ad x) == is4 z then (bif !s.2 then (x, true) else bif decide (betN x s.1 z > 0) then (x, true) else s) else s
@[irreducible] def srcN (l : List (List C)) (z : List C) : List C × Bool := l.foldl (srcS z) (loc0, false)
theorem f10_out (n : Nat) (hn : 1000000 < n) (l : List (List C)) (hl : l.length ≤ 1000000) (z : List C) : evFn tab FD nO false lv10 false n Try.f10 [.one (.c (.sl 27 l)), .agg 24 z []] [] = some (.tup [.agg 27 (srcN l z).1 [], .one (.c (.bool (srcN l z).2))], []) := by
  rw [f10_eq]
  have h := fold_loop (xs := l) (L := fun m i (s : List C × Bool) => evLoop false (f10_s4 n) m (f10_h4 s.2 l l.length i z loc0 s.1) (f10_k4 n)) (f := srcS z) (E := fun s => f10_k4 n (.exit 0) (f10_x4_0 s.2 z loc0 s.1)) (fun _ _ => True)
    (fun m i s x hx hlt _ => by
      show evLoop false (f10_s4 n) (m + 1) _ _ = evLoop false (f10_s4 n) m _ _
      obtain ⟨b, f⟩ := s
      rw [f10_t4]
      simp only [lt_nat, inB_nat, Int.toNat_natCast, el_get hx, wrap_succ (i := i) (by omega), hlt, decide_true, bcond_t]
      unfold srcS ad
      cases is4 (sub x 0 16) == is4 z <;> cases f <;> cases decide (betN x b z > 0) <;> rfl)
    (fun _ _ _ _ _ _ => trivial)
    (fun m s _ => by
      show evLoop false (f10_s4 n) (m + 1) _ _ = _
      rw [f10_t4, lt_nat, bcond_no (by simp)])
    l.length 0 (loc0, false) n (by omega) (by omega) trivial
  refine h.trans ?_
  rw [f10_a4_0, List.drop_zero]
  unfold srcN
  rfl
def e10 : En
  | [.one (.c (.sl 27 l)), .agg 24 z []], [], k => bcond (Nat.ble l.length 1000000) (k (.tup [.agg 27 (srcN l z).1 [], .one (.c (.bool (srcN l z).2))]) []) none
  | _, _, _ => none
theorem es10 : ES Try.prog tab 10 e10 := by
  intro args h k x hh
  unfold e10 at hh
  split at hh
  · rename_i l z
    cases hb : Nat.ble l.length 1000000 with
    | false => rw [hb, bcond_f] at hh; cases hh
    | true =>
      rw [hb, bcond_t] at hh
      exact ⟨_, _, hh, fn10 sFD rfl (f10_out 1000001 (by omega) l (by simpa using hb) z)⟩
  · cases hh
def FE : Fun := mkF [(10, e10), (12, e12), (13, e13), (21, e21), (22, e22)]
theorem sFE : FSound Try.prog tab FE := mkF_sound (fun p hp => by
  simp only [List.mem_cons, List.not_mem_nil, or_false] at hp
  rcases hp with rfl | rfl | rfl | rfl | rfl
  · exact es10
  · exact es12
  · exact es13
  · exact es21
  · exact es22)
theorem f11_eq (n : Nat) (l : List (List C)) (z : List C) : evFn tab FE nO false lv11 false n Try.f11 [.one (.c (.sl 27 l)), .agg 24 z []] [] = bcond (l.length.ble (1000000 : Nat)) (bcond (!(srcN l z).snd) (some ((V.agg (30 : Nat) [C.int IntKind.i64 (0 : Int), C.int IntKind.i64 (0 : Int), C.int IntKind.i64 (0 : Int), C.int IntKind.i64 (0 : Int), C.int IntKind.i64 (0 : Int), C.int IntKind.i64 (polP z), C.int IntKind.i64 (IntKind.i64.wrap ((0 : Int) - scN z)), C.int IntKind.i64 (0 : Int)] [], []))) (some ((V.agg (30 : Nat) [C.int IntKind.i64 (1 : Int), C.int IntKind.i64 (if (scN (sub (srcN l z).fst (0 : Nat) (16 : Nat)) == scN z) = true then (1 : Int) else (0 : Int)), C.int IntKind.i64 (if (!(cl (srcN l z).fst (16 : Nat)).toB) = true then (1 : Int) else (0 : Int)), C.int IntKind.i64 (if (cl (srcN l z).fst (17 : Nat)).toB = true then (1 : Int) else (0 : Int)), C.int IntKind.i64 (if (polL (sub (srcN l z).fst (0 : Nat) (16 : Nat)) == polL z) = true then (1 : Int) else (0 : Int)), C.int IntKind.i64 (polP z), C.int IntKind.i64 (IntKind.i64.wrap ((0 : Int) - scN z)), C.int IntKind.i64 (shN (sub (srcN l z).fst (0 : Nat) (16 : Nat)) z)] [], [])))) (none) := by kernel_rfl

/-- What an address is sorted by. -/
def keyO (l : List (List C)) (z : List C) : List Int :=
  bif (srcN l z).2 then [1, b2i (scN (ad (srcN l z).1) == scN z), b2i (!dep (srcN l z).1), b2i (hom (srcN l z).1), b2i (polL (ad (srcN l z).1) == polL z), polP z, IntKind.i64.wrap (0 - scN z), shN (ad (srcN l z).1) z]
  else [0, 0, 0, 0, 0, polP z, IntKind.i64.wrap (0 - scN z), 0]
@[irreducible] def keyN (l : List (List C)) (z : List C) (j : Nat) : Int := (keyO l z).getD j 0
def keyC (l : List (List C)) (z : List C) : List C := [.int .i64 (keyN l z 0), .int .i64 (keyN l z 1), .int .i64 (keyN l z 2), .int .i64 (keyN l z 3), .int .i64 (keyN l z 4), .int .i64 (keyN l z 5), .int .i64 (keyN l z 6), .int .i64 (keyN l z 7)]
theorem f11_out (n : Nat) (l : List (List C)) (hl : l.length ≤ 1000000) (z : List C) : evFn tab FE nO false lv11 false n Try.f11 [.one (.c (.sl 27 l)), .agg 24 z []] [] = some (.agg 30 (keyC l z) [], []) := by
  rw [f11_eq, bcond_of (by simpa using hl)]
  unfold keyC keyN keyO
  cases (srcN l z).2 <;> rfl
def e11 : En
  | [.one (.c (.sl 27 l)), .agg 24 z []], [], k => bcond (Nat.ble l.length 1000000) (k (.agg 30 (keyC l z) []) []) none
  | _, _, _ => none
theorem es11 : ES Try.prog tab 11 e11 := by
  intro args h k x hh
  unfold e11 at hh
  split at hh
  · rename_i l z
    cases hb : Nat.ble l.length 1000000 with
    | false => rw [hb, bcond_f] at hh; cases hh
    | true =>
      rw [hb, bcond_t] at hh
      exact ⟨_, _, hh, fn11 sFE rfl (f11_out 0 l (by simpa using hb) z)⟩
  · cases hh
def e36 : En
  | [.one (.c (.int .i64 _))], [], k => k (.one (.c (.bool false))) []
  | _, _, _ => none
theorem es36 : ES Try.prog tab 36 e36 := by
  intro args h k x hh
  unfold e36 at hh
  split at hh
  · exact ⟨_, _, hh, fn36 (nF_sound _ _) rfl ((f36_eq 0 _).trans (by simp))⟩
  · cases hh
def FF : Fun := mkF [(36, e36)]
theorem sFF : FSound Try.prog tab FF := mkF_sound (fun p hp => by
  simp only [List.mem_cons, List.not_mem_nil, or_false] at hp
  subst hp
  exact es36)
theorem f31_eq (n : Nat) (a : Int) (b : Int) : evFn tab FF nO false lv31 false n Try.f31 [.one (.c (.int .i64 a)), .one (.c (.int .i64 b))] [] = bcond (decide (a < b)) (some ((V.one (A.c (C.int IntKind.i64 (-1 : Int))), []))) (bcond (decide (a > b)) (some ((V.one (A.c (C.int IntKind.i64 (1 : Int))), []))) (some ((V.one (A.c (C.int IntKind.i64 (0 : Int))), [])))) := by kernel_rfl

def cmpI (a b : Int) : Int := bif decide (a < b) then -1 else bif decide (a > b) then 1 else 0
theorem f31_out (n : Nat) (a b : Int) : evFn tab FF nO false lv31 false n Try.f31 [.one (.c (.int .i64 a)), .one (.c (.int .i64 b))] [] = some (.one (.c (.int .i64 (cmpI a b))), []) := by
  rw [f31_eq]
  unfold cmpI
  cases decide (a < b) <;> cases decide (a > b) <;> rfl
def e31 : En
  | [.one (.c (.int .i64 a)), .one (.c (.int .i64 b))], [], k => k (.one (.c (.int .i64 (cmpI a b)))) []
  | _, _, _ => none
theorem es31 : ES Try.prog tab 31 e31 := by
  intro args h k x hh
  unfold e31 at hh
  split at hh
  · exact ⟨_, _, hh, fn31 sFF rfl (f31_out 0 _ _)⟩
  · cases hh
def FG : Fun := mkF [(31, e31)]
theorem sFG : FSound Try.prog tab FG := mkF_sound (fun p hp => by
  simp only [List.mem_cons, List.not_mem_nil, or_false] at hp
  subst hp
  exact es31)
noncomputable abbrev f26_c2 : Code := (loops (body Try.f26)).getD 0 .skip
noncomputable abbrev f26_s2 (n : Nat) : St → (X → St → Option R) → Option R := fun st k => evCode tab FG nO lv26 false n f26_c2 st k
noncomputable abbrev f26_k2 (n : Nat) : X → St → Option R := after tab FG nO lv26 false n (body Try.f26) 0 (endK tab false Try.f26)
abbrev f26_h2 (s0 : List (List C)) (s1 : List (List C)) (s9 : List (List C)) (s10 : Int) (s11 : Int) : St := { t := [((0 : Nat), V.one (A.c (C.sl (3 : Nat) s0))), ((1 : Nat), V.one (A.c (C.sl (3 : Nat) s1))), ((9 : Nat), V.one (A.c (C.sl (3 : Nat) s9))), ((10 : Nat), V.one (A.c (C.int IntKind.i64 s10))), ((11 : Nat), V.one (A.c (C.int IntKind.i64 s11)))], h := [] }
abbrev f26_x2_r (s4 : Int) : St := { t := [((4 : Nat), V.one (A.c (C.int IntKind.i64 s4)))], h := [] }
abbrev f26_x2_0 (s0 : List (List C)) (s1 : List (List C)) : St := { t := [((0 : Nat), V.one (A.c (C.sl (3 : Nat) s0))), ((1 : Nat), V.one (A.c (C.sl (3 : Nat) s1)))], h := [] }
theorem f26_t2 (n m : Nat) (k : X → St → Option R) (s0 : List (List C)) (s1 : List (List C)) (s9 : List (List C)) (s10 : Int) (s11 : Int) : evLoop false (f26_s2 n) (m + 1) (f26_h2 s0 s1 s9 s10 s11) k = bcond (decide (s11 < s10)) (bcond (inB s11 s9.length) (bcond (decide (s11 ≥ (↑s1.length : Int))) (k X.ret (f26_x2_r ((1 : Int)))) (bcond (inB s11 s1.length) (bcond (cmpI (cl (el s9 s11.toNat) (0 : Nat)).toI (cl (el s1 s11.toNat) (0 : Nat)).toI != (0 : Int)) (k X.ret (f26_x2_r (cmpI (cl (el s9 s11.toNat) (0 : Nat)).toI (cl (el s1 s11.toNat) (0 : Nat)).toI))) (evLoop false (f26_s2 n) m (f26_h2 (s0) (s1) (s9) (s10) (IntKind.i64.wrap (s11 + (1 : Int)))) k)) (none))) (none)) (k (X.exit 0) (f26_x2_0 (s0) (s1))) := by kernel_rfl
theorem f26_a2_r (n : Nat) (s4 : Int) : f26_k2 n X.ret (f26_x2_r s4) = some ((V.one (A.c (C.int IntKind.i64 s4)), [])) := by kernel_rfl
theorem f26_a2_0 (n : Nat) (s0 : List (List C)) (s1 : List (List C)) : f26_k2 n (X.exit 0) (f26_x2_0 s0 s1) = bcond (decide ((↑s0.length : Int) < (↑s1.length : Int))) (some ((V.one (A.c (C.int IntKind.i64 (-1 : Int))), []))) (some ((V.one (A.c (C.int IntKind.i64 (0 : Int))), []))) := by kernel_rfl
theorem f26_eq (n : Nat) (l : List (List C)) (r : List (List C)) : evFn tab FG nO false lv26 false n Try.f26 [.one (.c (.sl 3 l)), .one (.c (.sl 3 r))] [] = evLoop false (f26_s2 n) n (f26_h2 (l) (r) (l) ((↑l.length : Int)) ((0 : Int))) (f26_k2 n) := by kernel_rfl

/-- Of two lists, place by place. -/
def cmpL : List (List C) → List (List C) → Int
  | x :: l, y :: r => bif cmpI (cl x 0).toI (cl y 0).toI != 0 then cmpI (cl x 0).toI (cl y 0).toI else cmpL l r
  | _, _ => 0
theorem f26_out (n : Nat) (hn : 1000000 < n) (l r : List (List C)) (hl : l.length ≤ 1000000) (hr : r.length = l.length) : evFn tab FG nO false lv26 false n Try.f26 [.one (.c (.sl 3 l)), .one (.c (.sl 3 r))] [] = some (.one (.c (.int .i64 (cmpL l r))), []) := by
  rw [f26_eq]
  have hz : (l.zip r).length = l.length := by simp [hr]
  have h := over_loop (xs := l.zip r) (L := fun m i (_ : Unit) => evLoop false (f26_s2 n) m (f26_h2 l r l l.length i) (f26_k2 n))
    (g := fun (_ : Unit) p => bif cmpI (cl p.1 0).toI (cl p.2 0).toI != 0 then .inr (some (.one (.c (.int .i64 (cmpI (cl p.1 0).toI (cl p.2 0).toI))), [])) else .inl ())
    (E := fun _ => some (.one (.c (.int .i64 0)), [])) (fun _ _ => True)
    (fun m i _ p hx hlt _ => by
      show evLoop false (f26_s2 n) (m + 1) _ _ = _
      rw [hz] at hlt
      obtain ⟨x, y⟩ := p
      rw [List.getElem?_zip_eq_some] at hx
      obtain ⟨hx, hy⟩ := hx
      have hlt2 : i < r.length := by omega
      rw [f26_t2]
      simp only [lt_nat, inB_nat, Int.toNat_natCast, el_get hx, el_get hy, wrap_succ (i := i) (by omega), hlt, hlt2, decide_true, bcond_t]
      rw [bcond_no (by simp; omega)]
      cases cmpI (cl x 0).toI (cl y 0).toI != 0 with
      | true => exact f26_a2_r n _
      | false => rfl)
    (fun _ _ _ _ _ _ _ _ => trivial)
    (fun m _ _ => by
      show evLoop false (f26_s2 n) (m + 1) _ _ = _
      rw [f26_t2, hz, lt_nat, bcond_no (by simp), f26_a2_0, bcond_no (by simp; omega)])
    l.length 0 () n (by omega) (by omega) trivial
  refine h.trans ?_
  rw [List.drop_zero]
  clear h hz hn hl
  induction l generalizing r with
  | nil => cases r <;> rfl
  | cons x l ih =>
    cases r with
    | nil => cases hr
    | cons y r =>
      rw [List.zip_cons_cons, overX, cmpL]
      cases cmpI (cl x 0).toI (cl y 0).toI != 0 with
      | true => rfl
      | false => exact ih r (by simpa using hr)
def e26 : En
  | [.one (.c (.sl 3 l)), .one (.c (.sl 3 r))], [], k => bcond (Nat.ble l.length 1000000 && Nat.beq r.length l.length) (k (.one (.c (.int .i64 (cmpL l r)))) []) none
  | _, _, _ => none
theorem es26 : ES Try.prog tab 26 e26 := by
  intro args h k x hh
  unfold e26 at hh
  split at hh
  · rename_i l r
    cases hb : (Nat.ble l.length 1000000 && Nat.beq r.length l.length) with
    | false => rw [hb, bcond_f] at hh; cases hh
    | true =>
      rw [hb, bcond_t] at hh
      rw [Bool.and_eq_true] at hb
      exact ⟨_, _, hh, fn26 sFG rfl (f26_out 1000001 (by omega) l r (by simpa using hb.1) (Nat.eq_of_beq_eq_true hb.2))⟩
  · cases hh
def FH : Fun := mkF [(11, e11), (26, e26)]
theorem sFH : FSound Try.prog tab FH := mkF_sound (fun p hp => by
  simp only [List.mem_cons, List.not_mem_nil, or_false] at hp
  rcases hp with rfl | rfl
  · exact es11
  · exact es26)
theorem f25_eq (n : Nat) (x : List C) (y : List C) (l : List (List C)) : evFn tab FH nO false lv25 false n Try.f25 [.agg 39 x [], .agg 39 y [], .one (.ptr (.ext 0) 0 0)] [(.ext 0, (0, .box 22 [.sl 27 l] []))] = bcond (l.length.ble (1000000 : Nat)) (bcond (l.length.ble (1000000 : Nat)) (bcond ([[C.int IntKind.i64 (keyN l (sub y (3 : Nat) (16 : Nat)) (0 : Nat))], [C.int IntKind.i64 (keyN l (sub y (3 : Nat) (16 : Nat)) (1 : Nat))], [C.int IntKind.i64 (keyN l (sub y (3 : Nat) (16 : Nat)) (2 : Nat))], [C.int IntKind.i64 (keyN l (sub y (3 : Nat) (16 : Nat)) (3 : Nat))], [C.int IntKind.i64 (keyN l (sub y (3 : Nat) (16 : Nat)) (4 : Nat))], [C.int IntKind.i64 (keyN l (sub y (3 : Nat) (16 : Nat)) (5 : Nat))], [C.int IntKind.i64 (keyN l (sub y (3 : Nat) (16 : Nat)) (6 : Nat))], [C.int IntKind.i64 (keyN l (sub y (3 : Nat) (16 : Nat)) (7 : Nat))]].length.ble (1000000 : Nat) && [[C.int IntKind.i64 (keyN l (sub x (3 : Nat) (16 : Nat)) (0 : Nat))], [C.int IntKind.i64 (keyN l (sub x (3 : Nat) (16 : Nat)) (1 : Nat))], [C.int IntKind.i64 (keyN l (sub x (3 : Nat) (16 : Nat)) (2 : Nat))], [C.int IntKind.i64 (keyN l (sub x (3 : Nat) (16 : Nat)) (3 : Nat))], [C.int IntKind.i64 (keyN l (sub x (3 : Nat) (16 : Nat)) (4 : Nat))], [C.int IntKind.i64 (keyN l (sub x (3 : Nat) (16 : Nat)) (5 : Nat))], [C.int IntKind.i64 (keyN l (sub x (3 : Nat) (16 : Nat)) (6 : Nat))], [C.int IntKind.i64 (keyN l (sub x (3 : Nat) (16 : Nat)) (7 : Nat))]].length.beq [[C.int IntKind.i64 (keyN l (sub y (3 : Nat) (16 : Nat)) (0 : Nat))], [C.int IntKind.i64 (keyN l (sub y (3 : Nat) (16 : Nat)) (1 : Nat))], [C.int IntKind.i64 (keyN l (sub y (3 : Nat) (16 : Nat)) (2 : Nat))], [C.int IntKind.i64 (keyN l (sub y (3 : Nat) (16 : Nat)) (3 : Nat))], [C.int IntKind.i64 (keyN l (sub y (3 : Nat) (16 : Nat)) (4 : Nat))], [C.int IntKind.i64 (keyN l (sub y (3 : Nat) (16 : Nat)) (5 : Nat))], [C.int IntKind.i64 (keyN l (sub y (3 : Nat) (16 : Nat)) (6 : Nat))], [C.int IntKind.i64 (keyN l (sub y (3 : Nat) (16 : Nat)) (7 : Nat))]].length) (some ((V.one (A.c (C.int IntKind.i64 (cmpL [[C.int IntKind.i64 (keyN l (sub y (3 : Nat) (16 : Nat)) (0 : Nat))], [C.int IntKind.i64 (keyN l (sub y (3 : Nat) (16 : Nat)) (1 : Nat))], [C.int IntKind.i64 (keyN l (sub y (3 : Nat) (16 : Nat)) (2 : Nat))], [C.int IntKind.i64 (keyN l (sub y (3 : Nat) (16 : Nat)) (3 : Nat))], [C.int IntKind.i64 (keyN l (sub y (3 : Nat) (16 : Nat)) (4 : Nat))], [C.int IntKind.i64 (keyN l (sub y (3 : Nat) (16 : Nat)) (5 : Nat))], [C.int IntKind.i64 (keyN l (sub y (3 : Nat) (16 : Nat)) (6 : Nat))], [C.int IntKind.i64 (keyN l (sub y (3 : Nat) (16 : Nat)) (7 : Nat))]] [[C.int IntKind.i64 (keyN l (sub x (3 : Nat) (16 : Nat)) (0 : Nat))], [C.int IntKind.i64 (keyN l (sub x (3 : Nat) (16 : Nat)) (1 : Nat))], [C.int IntKind.i64 (keyN l (sub x (3 : Nat) (16 : Nat)) (2 : Nat))], [C.int IntKind.i64 (keyN l (sub x (3 : Nat) (16 : Nat)) (3 : Nat))], [C.int IntKind.i64 (keyN l (sub x (3 : Nat) (16 : Nat)) (4 : Nat))], [C.int IntKind.i64 (keyN l (sub x (3 : Nat) (16 : Nat)) (5 : Nat))], [C.int IntKind.i64 (keyN l (sub x (3 : Nat) (16 : Nat)) (6 : Nat))], [C.int IntKind.i64 (keyN l (sub x (3 : Nat) (16 : Nat)) (7 : Nat))]]))), [(Key.ext (0 : Nat), (0 : Nat), B.box (22 : Nat) [C.sl (27 : Nat) l] [])]))) (none)) (none)) (none) := by kernel_rfl

end Go.Proofs.Ytdcdccdhdingbaa
