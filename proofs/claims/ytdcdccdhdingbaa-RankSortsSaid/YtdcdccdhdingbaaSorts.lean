/- Sorts -/
import Derived.Test.YtdcdccdhdingbaaKb
import Derived.KernelRfl
namespace Go.Proofs.Ytdcdccdhdingbaa
open Go Go.Eng
set_option maxRecDepth 100000
noncomputable def FW : Fun := mkF [(9, e9), (15, e15), (16, e16)]
theorem sFW : FSound Try.prog tab FW := mkF_sound (fun p hp => by
  simp only [List.mem_cons, List.not_mem_nil, or_false] at hp
  rcases hp with rfl | rfl | rfl
  · exact es9
  · exact es15
  · exact es16)
noncomputable abbrev f5_c7 : Code := (loops (body Try.f5)).getD 0 .skip
noncomputable abbrev f5_s7 (n : Nat) : St → (X → St → Option R) → Option R := fun st k => evCode tab FW nO lv5 false n f5_c7 st k
noncomputable abbrev f5_k7 (n : Nat) : X → St → Option R := after tab FW nO lv5 false n (body Try.f5) 0 (endK tab false Try.f5)
abbrev f5_h7 (s0 : List (List C)) (s23 : List (List C)) (s24 : Int) (s25 : Int) (b5 : List (List C)) : St := { t := [((0 : Nat), V.one (A.c (C.sl (27 : Nat) s0))), ((5 : Nat), V.one (A.own (Key.loc (5 : Nat) (0 : Nat)) (0 : Nat) (39 : Nat))), ((23 : Nat), V.one (A.c (C.sl (24 : Nat) s23))), ((24 : Nat), V.one (A.c (C.int IntKind.i64 s24))), ((25 : Nat), V.one (A.c (C.int IntKind.i64 s25)))], h := [(Key.loc (5 : Nat) (0 : Nat), (0 : Nat), B.arr (39 : Nat) true b5)] }
abbrev f5_x7_0 (s0 : List (List C)) (b5 : List (List C)) : St := { t := [((0 : Nat), V.one (A.c (C.sl (27 : Nat) s0))), ((5 : Nat), V.one (A.own (Key.loc (5 : Nat) (0 : Nat)) (0 : Nat) (39 : Nat)))], h := [(Key.loc (5 : Nat) (0 : Nat), (0 : Nat), B.arr (39 : Nat) true b5)] }
noncomputable abbrev f5_c16 : Code := (loops (body Try.f5)).getD 1 .skip
noncomputable abbrev f5_s16 (n : Nat) : St → (X → St → Option R) → Option R := fun st k => evCode tab FW nO lv5 false n f5_c16 st k
noncomputable abbrev f5_k16 (n : Nat) : X → St → Option R := after tab FW nO lv5 false n (body Try.f5) 1 (endK tab false Try.f5)
abbrev f5_h16 (s0 : List (List C)) (s8 : List (List C)) (s46 : List (List C)) (s47 : Int) (s48 : Int) (b5 : List (List C)) (b45 : C → Option C) : St := { t := [((0 : Nat), V.one (A.c (C.sl (27 : Nat) s0))), ((5 : Nat), V.one (A.own (Key.loc (5 : Nat) (0 : Nat)) (0 : Nat) (39 : Nat))), ((8 : Nat), V.one (A.c (C.sl (39 : Nat) s8))), ((9 : Nat), V.one (A.mp (Key.loc (45 : Nat) (0 : Nat)) (0 : Nat) (3 : Nat) (4 : Nat))), ((46 : Nat), V.one (A.c (C.sl (39 : Nat) s46))), ((47 : Nat), V.one (A.c (C.int IntKind.i64 s47))), ((48 : Nat), V.one (A.c (C.int IntKind.i64 s48)))], h := [(Key.loc (5 : Nat) (0 : Nat), (0 : Nat), B.froz (39 : Nat) b5), (Key.loc (45 : Nat) (0 : Nat), (0 : Nat), B.map (3 : Nat) (4 : Nat) b45)] }
abbrev f5_x16_r (s4 : Bool) (b5 : List (List C)) (b45 : C → Option C) (b11 : List C) : St := { t := [((4 : Nat), V.one (A.c (C.bool s4)))], h := [(Key.loc (5 : Nat) (0 : Nat), (0 : Nat), B.froz (39 : Nat) b5), (Key.loc (45 : Nat) (0 : Nat), (0 : Nat), B.map (3 : Nat) (4 : Nat) b45), (Key.loc (11 : Nat) (0 : Nat), (0 : Nat), B.box (39 : Nat) b11 [])] }
abbrev f5_x16_rv1 (s4 : Bool) (b5 : List (List C)) (b45 : C → Option C) (b11 : List C) (b12 : List C) : St := { t := [((4 : Nat), V.one (A.c (C.bool s4)))], h := [(Key.loc (5 : Nat) (0 : Nat), (0 : Nat), B.froz (39 : Nat) b5), (Key.loc (45 : Nat) (0 : Nat), (0 : Nat), B.map (3 : Nat) (4 : Nat) b45), (Key.loc (11 : Nat) (0 : Nat), (0 : Nat), B.box (39 : Nat) b11 []), (Key.loc (12 : Nat) (0 : Nat), (0 : Nat), B.box (39 : Nat) b12 [])] }
abbrev f5_x16_2 (b5 : List (List C)) (b45 : C → Option C) : St := { t := [], h := [(Key.loc (5 : Nat) (0 : Nat), (0 : Nat), B.froz (39 : Nat) b5), (Key.loc (45 : Nat) (0 : Nat), (0 : Nat), B.map (3 : Nat) (4 : Nat) b45)] }
theorem f5_t7 (n m : Nat) (k : X → St → Option R) (s0 : List (List C)) (s23 : List (List C)) (s24 : Int) (s25 : Int) (b5 : List (List C)) : evLoop false (f5_s7 n) (m + 1) (f5_h7 s0 s23 s24 s25 b5) k = bcond (decide (s25 < s24)) (bcond (inB s25 s23.length) (bcond (roomOk (b5.length + [(splice [C.str (ByteArray.mk #[]), C.int IntKind.i64 (0 : Int), C.int IntKind.i64 (0 : Int), C.int IntKind.u8 (0 : Int), C.int IntKind.u8 (0 : Int), C.int IntKind.u8 (0 : Int), C.int IntKind.u8 (0 : Int), C.int IntKind.u8 (0 : Int), C.int IntKind.u8 (0 : Int), C.int IntKind.u8 (0 : Int), C.int IntKind.u8 (0 : Int), C.int IntKind.u8 (0 : Int), C.int IntKind.u8 (0 : Int), C.int IntKind.u8 (0 : Int), C.int IntKind.u8 (0 : Int), C.int IntKind.u8 (0 : Int), C.int IntKind.u8 (0 : Int), C.int IntKind.u8 (0 : Int), C.int IntKind.u8 (0 : Int), C.str (ByteArray.mk #[]), C.str (ByteArray.mk #[])] (3 : Nat) (el s23 s25.toNat)).set (2 : Nat) (C.int IntKind.i64 s25)].length) (80 : Nat)) (evLoop false (f5_s7 n) m (f5_h7 (s0) (s23) (s24) (IntKind.i64.wrap (s25 + (1 : Int))) (b5 ++ [(splice [C.str (ByteArray.mk #[]), C.int IntKind.i64 (0 : Int), C.int IntKind.i64 (0 : Int), C.int IntKind.u8 (0 : Int), C.int IntKind.u8 (0 : Int), C.int IntKind.u8 (0 : Int), C.int IntKind.u8 (0 : Int), C.int IntKind.u8 (0 : Int), C.int IntKind.u8 (0 : Int), C.int IntKind.u8 (0 : Int), C.int IntKind.u8 (0 : Int), C.int IntKind.u8 (0 : Int), C.int IntKind.u8 (0 : Int), C.int IntKind.u8 (0 : Int), C.int IntKind.u8 (0 : Int), C.int IntKind.u8 (0 : Int), C.int IntKind.u8 (0 : Int), C.int IntKind.u8 (0 : Int), C.int IntKind.u8 (0 : Int), C.str (ByteArray.mk #[]), C.str (ByteArray.mk #[])] (3 : Nat) (el s23 s25.toNat)).set (2 : Nat) (C.int IntKind.i64 s25)])) k) (none)) (none)) (k (X.exit 0) (f5_x7_0 (s0) (b5))) := by kernel_rfl
theorem f5_a7_0 (n : Nat) (s0 : List (List C)) (b5 : List (List C)) : f5_k7 n (X.exit 0) (f5_x7_0 s0 b5) = bcond (b5.length.ble (40 : Nat) && s0.length.ble (1000000 : Nat)) (bcond ((↑(y30 b5 s0).length : Int) != (↑b5.length : Int)) (some ((V.one (A.c (C.bool false)), []))) (evLoop false (f5_s16 n) n (f5_h16 (s0) (y30 b5 s0) (y30 b5 s0) ((↑(y30 b5 s0).length : Int)) ((0 : Int)) (b5) (mnil)) (f5_k16 n))) (none) := by kernel_rfl
theorem f5_t16 (n m : Nat) (k : X → St → Option R) (s0 : List (List C)) (s8 : List (List C)) (s46 : List (List C)) (s47 : Int) (s48 : Int) (b5 : List (List C)) (b45 : C → Option C) : evLoop false (f5_s16 n) (m + 1) (f5_h16 s0 s8 s46 s47 s48 b5 b45) k = bcond (decide (s48 < s47)) (bcond (inB s48 s46.length) (bcond (decide ((cl (el s46 s48.toNat) (2 : Nat)).toI < (0 : Int))) (k X.ret (f5_x16_r (false) (b5) (b45) (el s46 s48.toNat))) (bcond (decide ((cl (el s46 s48.toNat) (2 : Nat)).toI ≥ (↑b5.length : Int))) (k X.ret (f5_x16_r (false) (b5) (b45) (el s46 s48.toNat))) (bcond ((mgetD b45 (((ti tab (39 : Nat)).ks.getD (2 : Nat) K.no).norm (cl (el s46 s48.toNat) (2 : Nat))) (C.bool false)).toB) (k X.ret (f5_x16_r (false) (b5) (b45) (el s46 s48.toNat))) (bcond (inB (cl (el s46 s48.toNat) (2 : Nat)).toI b5.length) (bcond (!eqL (el b5 (cl (el s46 s48.toNat) (2 : Nat)).toI.toNat) (el s46 s48.toNat)) (k X.ret (f5_x16_r (false) (b5) (b45) (el s46 s48.toNat))) (bcond (decide (s48 > (0 : Int))) (bcond (inB (IntKind.i64.wrap (s48 - (1 : Int))) s8.length) (bcond (s0.length.ble (1000000 : Nat)) (bcond (aheadR s0 (sub (el s46 s48.toNat) (3 : Nat) (16 : Nat)) (sub (el s8 (IntKind.i64.wrap (s48 - (1 : Int))).toNat) (3 : Nat) (16 : Nat))) (k X.ret (f5_x16_rv1 (false) (b5) (mset b45 (((ti tab (39 : Nat)).ks.getD (2 : Nat) K.no).norm (cl (el s46 s48.toNat) (2 : Nat))) (C.bool true)) (el s46 s48.toNat) (el s8 (IntKind.i64.wrap (s48 - (1 : Int))).toNat))) (bcond (s0.length.ble (1000000 : Nat)) (bcond (!aheadR s0 (sub (el s8 (IntKind.i64.wrap (s48 - (1 : Int))).toNat) (3 : Nat) (16 : Nat)) (sub (el s46 s48.toNat) (3 : Nat) (16 : Nat))) (bcond (decide ((cl (el s8 (IntKind.i64.wrap (s48 - (1 : Int))).toNat) (2 : Nat)).toI > (cl (el s46 s48.toNat) (2 : Nat)).toI)) (k X.ret (f5_x16_rv1 (false) (b5) (mset b45 (((ti tab (39 : Nat)).ks.getD (2 : Nat) K.no).norm (cl (el s46 s48.toNat) (2 : Nat))) (C.bool true)) (el s46 s48.toNat) (el s8 (IntKind.i64.wrap (s48 - (1 : Int))).toNat))) (evLoop false (f5_s16 n) m (f5_h16 (s0) (s8) (s46) (s47) (IntKind.i64.wrap (s48 + (1 : Int))) (b5) (mset b45 (((ti tab (39 : Nat)).ks.getD (2 : Nat) K.no).norm (cl (el s46 s48.toNat) (2 : Nat))) (C.bool true))) k)) (evLoop false (f5_s16 n) m (f5_h16 (s0) (s8) (s46) (s47) (IntKind.i64.wrap (s48 + (1 : Int))) (b5) (mset b45 (((ti tab (39 : Nat)).ks.getD (2 : Nat) K.no).norm (cl (el s46 s48.toNat) (2 : Nat))) (C.bool true))) k)) (none))) (none)) (none)) (evLoop false (f5_s16 n) m (f5_h16 (s0) (s8) (s46) (s47) (IntKind.i64.wrap (s48 + (1 : Int))) (b5) (mset b45 (((ti tab (39 : Nat)).ks.getD (2 : Nat) K.no).norm (cl (el s46 s48.toNat) (2 : Nat))) (C.bool true))) k))) (none))))) (none)) (k (X.exit 2) (f5_x16_2 (b5) (b45))) := by kernel_rfl
theorem f5_a16_r (n : Nat) (s4 : Bool) (b5 : List (List C)) (b45 : C → Option C) (b11 : List C) : f5_k16 n X.ret (f5_x16_r s4 b5 b45 b11) = some ((V.one (A.c (C.bool s4)), [])) := by kernel_rfl
theorem f5_a16_rv1 (n : Nat) (s4 : Bool) (b5 : List (List C)) (b45 : C → Option C) (b11 : List C) (b12 : List C) : f5_k16 n X.ret (f5_x16_rv1 s4 b5 b45 b11 b12) = some ((V.one (A.c (C.bool s4)), [])) := by kernel_rfl
theorem f5_a16_2 (n : Nat) (b5 : List (List C)) (b45 : C → Option C) : f5_k16 n (X.exit 2) (f5_x16_2 b5 b45) = some ((V.one (A.c (C.bool true)), [])) := by kernel_rfl
theorem f5_eq (n : Nat) (l : List (List C)) (a : List (List C)) : evFn tab FW nO false lv5 false n Try.f5 [.one (.c (.sl 27 l)), .one (.c (.sl 24 a))] [] = bcond (decide ((↑l.length : Int) > (20 : Int))) (some ((V.one (A.c (C.bool true)), []))) (bcond (decide ((↑a.length : Int) > (40 : Int))) (some ((V.one (A.c (C.bool true)), []))) (evLoop false (f5_s7 n) n (f5_h7 (l) (a) ((↑a.length : Int)) ((0 : Int)) ([])) (f5_k7 n))) := by kernel_rfl

/-- A record of an address, with a number. -/
def recT (a : List C) (i : Nat) : List C := (splice [C.str (ByteArray.mk #[]), C.int IntKind.i64 (0 : Int), C.int IntKind.i64 (0 : Int), C.int IntKind.u8 (0 : Int), C.int IntKind.u8 (0 : Int), C.int IntKind.u8 (0 : Int), C.int IntKind.u8 (0 : Int), C.int IntKind.u8 (0 : Int), C.int IntKind.u8 (0 : Int), C.int IntKind.u8 (0 : Int), C.int IntKind.u8 (0 : Int), C.int IntKind.u8 (0 : Int), C.int IntKind.u8 (0 : Int), C.int IntKind.u8 (0 : Int), C.int IntKind.u8 (0 : Int), C.int IntKind.u8 (0 : Int), C.int IntKind.u8 (0 : Int), C.int IntKind.u8 (0 : Int), C.int IntKind.u8 (0 : Int), C.str (ByteArray.mk #[]), C.str (ByteArray.mk #[])] 3 a).set 2 (C.int IntKind.i64 (i : Int))
theorem recT_eq {a : List C} (h : a.length = 16) (i : Nat) : recT a i = [C.str (ByteArray.mk #[]), C.int IntKind.i64 (0 : Int), C.int IntKind.i64 (i : Int)] ++ (a ++ [C.str (ByteArray.mk #[]), C.str (ByteArray.mk #[])]) := by
  unfold recT splice
  rw [h]
  rfl
def ttl (x : List C) : Int := (cl x 2).toI
theorem recT_ttl {a : List C} (h : a.length = 16) (i : Nat) : cl (recT a i) 2 = C.int IntKind.i64 (i : Int) := by rw [recT_eq h]; rfl
theorem recT_adr {a : List C} (h : a.length = 16) (i : Nat) : sub (recT a i) 3 16 = a := by
  rw [recT_eq h]
  show (a ++ [C.str (ByteArray.mk #[]), C.str (ByteArray.mk #[])]).take 16 = a
  rw [List.take_append_of_le_length (by omega), List.take_of_length_le (by omega)]
theorem eqL_app : ∀ {x y u v : List C}, x.length = y.length → eqL (x ++ u) (y ++ v) = (eqL x y && eqL u v)
  | [], [], _, _, _ => rfl
  | [], _ :: _, _, _, h => by cases h
  | _ :: _, [], _, _, h => by cases h
  | a :: x, b :: y, u, v, h => by
    show (eqC a b && eqL (x ++ u) (y ++ v)) = ((eqC a b && eqL x y) && eqL u v)
    rw [eqL_app (by simpa using h), Bool.and_assoc]
theorem recT_self {a : List C} (h : A8 a) (i : Nat) : eqL (recT a i) (recT a i) = true := by
  rw [recT_eq h.len, eqL_app rfl, eqL_app rfl, eqL_self h]
  show ((((ByteArray.mk #[]).toList == (ByteArray.mk #[]).toList) && (((0 : Int) == 0) && (((i : Int) == (i : Int)) && true))) && (true && (((ByteArray.mk #[]).toList == (ByteArray.mk #[]).toList) && (((ByteArray.mk #[]).toList == (ByteArray.mk #[]).toList) && true)))) = true
  simp
def recs (a : List (List C)) : List (List C) := a.zipIdx.map fun p => recT p.1 p.2
theorem recs_len (a : List (List C)) : (recs a).length = a.length := by simp [recs]
theorem recs_get {a : List (List C)} {i : Nat} {x : List C} (h : a[i]? = some x) : (recs a)[i]? = some (recT x i) := by
  simp [recs, List.getElem?_zipIdx, h]
theorem recs_mem {a : List (List C)} {r : List C} (h : r ∈ recs a) : ∃ j x, a[j]? = some x ∧ r = recT x j := by
  obtain ⟨j, hj⟩ := List.mem_iff_getElem?.1 h
  have hlt := (List.getElem?_eq_some_iff.1 hj).1
  rw [recs_len] at hlt
  have hx : a[j]? = some a[j] := List.getElem?_eq_getElem hlt
  rw [recs_get hx] at hj
  exact ⟨j, _, hx, (Option.some.inj hj).symm⟩
theorem recs_take {a : List (List C)} {i : Nat} {x : List C} (h : a[i]? = some x) : (recs a).take (i + 1) = (recs a).take i ++ [recT x i] := by
  have hlt := (List.getElem?_eq_some_iff.1 h).1
  rw [List.take_succ_eq_append_getElem (by rw [recs_len]; exact hlt), (List.getElem?_eq_some_iff.1 (recs_get h)).2]
theorem f5_L7 (n : Nat) (l a : List (List C)) (ha : a.length ≤ 40) (kk : X → St → Option R) (m : Nat) (hm : a.length < m) :
    evLoop false (f5_s7 n) m (f5_h7 l a (a.length : Int) 0 []) kk = kk (.exit 0) (f5_x7_0 l (recs a)) := by
  have h := fold_loop (xs := a) (L := fun m i (_ : Unit) => evLoop false (f5_s7 n) m (f5_h7 l a (a.length : Int) i ((recs a).take i)) kk) (f := fun _ _ => ()) (E := fun _ => kk (.exit 0) (f5_x7_0 l (recs a))) (fun _ _ => True)
    (fun m i _ x hx hlt _ => by
      show evLoop false (f5_s7 n) (m + 1) _ _ = evLoop false (f5_s7 n) m _ _
      have hl := recs_len a
      rw [f5_t7]
      simp only [lt_nat, inB_nat, Int.toNat_natCast, el_get hx, wrap_succ (i := i) (by omega), hlt, decide_true, bcond_t]
      rw [bcond_of (roomOk_of (by simp; omega) (by simp; omega)), recs_take hx]
      rfl)
    (fun _ _ _ _ _ _ => trivial)
    (fun m _ _ => by
      show evLoop false (f5_s7 n) (m + 1) _ _ = _
      rw [f5_t7, lt_nat, bcond_no (by simp), List.take_of_length_le (by rw [recs_len]; exact Nat.le_refl _)])
    a.length 0 () m (by omega) hm trivial
  exact h
/-- What has been seen. -/
def seen (l : List (List C)) : C → Option C := l.foldl (fun f x => mset f (cl x 2) (.bool true)) mnil
theorem seen_snoc (l : List (List C)) (x : List C) : seen (l ++ [x]) = mset (seen l) (cl x 2) (.bool true) := by
  unfold seen
  rw [List.foldl_append]
  rfl
theorem seen_no {i : Nat} : ∀ (l : List (List C)) (f : C → Option C), f (.int .i64 (i : Int)) = none → (∀ x ∈ l, ∃ j : Nat, cl x 2 = .int .i64 (j : Int) ∧ j ≠ i) → (l.foldl (fun f x => mset f (cl x 2) (.bool true)) f) (.int .i64 (i : Int)) = none
  | [], f, hf, _ => hf
  | x :: l, f, hf, h => by
    rw [List.foldl_cons]
    refine seen_no l _ ?_ fun y hy => h y (List.mem_cons_of_mem _ hy)
    obtain ⟨j, hj, hne⟩ := h x (List.mem_cons_self ..)
    rw [hj]
    unfold mset
    rw [show eqC (.int .i64 (j : Int)) (.int .i64 (i : Int)) = ((j : Int) == (i : Int)) from rfl, beq_eq_false_iff_ne.2 (by omega)]
    exact hf
def Tt (x y : List C) : Prop := ttl x < ttl y
theorem Tt_tr : Tr Tt := fun _ _ _ h1 h2 => Int.lt_trans h1 h2
theorem recs_T {a : List (List C)} (ha : ∀ x ∈ a, A8 x) : (recs a).Pairwise Tt := by
  rw [List.pairwise_iff_getElem]
  intro i j hi hj hij
  have hi2 := hi
  have hj2 := hj
  rw [recs_len] at hi2 hj2
  have e1 := recs_get (List.getElem?_eq_getElem hi2)
  have e2 := recs_get (List.getElem?_eq_getElem hj2)
  rw [(List.getElem?_eq_some_iff.1 e1).2, (List.getElem?_eq_some_iff.1 e2).2]
  unfold Tt ttl
  rw [recT_ttl (ha _ (List.getElem_mem hi2)).len, recT_ttl (ha _ (List.getElem_mem hj2)).len]
  show (i : Int) < (j : Int)
  omega
theorem ahead_lt {l : List (List C)} (hl : ∀ x ∈ l, L8 x) {x y : List C} (hx : A8 (sub x 3 16)) (hy : A8 (sub y 3 16)) : aheadR l (sub x 3 16) (sub y 3 16) = true ↔ ltN l x y := by
  rw [← ahead_lex hl hx hy, ltN_iff]
theorem f5_L16 (n : Nat) (l a out : List (List C)) (hl : ∀ x ∈ l, L8 x) (hl1 : l.length ≤ 1000) (ha : ∀ x ∈ a, A8 x) (ha1 : a.length ≤ 40) (hS : Srt l (recs a) out) (m : Nat) (hm : out.length < m) :
    evLoop false (f5_s16 n) m (f5_h16 l out out (out.length : Int) 0 (recs a) mnil) (f5_k16 n) = some (.one (.c (.bool true)), []) := by
  have hlen : out.length = a.length := by rw [hS.1.length_eq, recs_len]
  have hT := recs_T ha
  have hR := hS.2 Tt Tt_tr hT
  have hnd : out.Nodup := by
    rw [hS.1.nodup_iff, List.nodup_iff_pairwise_ne]
    refine hT.imp fun {x y} h => ?_
    intro hc
    subst hc
    exact Int.lt_irrefl _ h
  have form : ∀ {i : Nat} {x}, out[i]? = some x → ∃ j u, a[j]? = some u ∧ A8 u ∧ x = recT u j ∧ j < a.length := by
    intro i x hx
    obtain ⟨j, u, h1, h2⟩ := recs_mem (hS.1.mem_iff.1 (List.mem_of_getElem? hx))
    exact ⟨j, u, h1, ha u (List.mem_of_getElem? h1), h2, (List.getElem?_eq_some_iff.1 h1).1⟩
  have h := fold_loop (xs := out) (L := fun m i (_ : Unit) => evLoop false (f5_s16 n) m (f5_h16 l out out (out.length : Int) i (recs a) (seen (out.take i))) (f5_k16 n)) (f := fun _ _ => ()) (E := fun _ => some (.one (.c (.bool true)), [])) (fun _ _ => True)
    (fun m i _ x hx hlt _ => by
      show evLoop false (f5_s16 n) (m + 1) _ _ = evLoop false (f5_s16 n) m _ _
      obtain ⟨j, u, h1, h2, h3, h4⟩ := form hx
      have ht : cl x 2 = .int .i64 (j : Int) := by rw [h3]; exact recT_ttl h2.len j
      have hr : (recs a)[j]? = some x := by rw [recs_get h1, h3]
      have hself : eqL x x = true := by rw [h3]; exact recT_self h2 j
      have hadr : sub x 3 16 = u := by rw [h3]; exact recT_adr h2.len j
      have htake : out.take (i + 1) = out.take i ++ [x] := by
        rw [List.take_succ_eq_append_getElem hlt, (List.getElem?_eq_some_iff.1 hx).2]
      have hsn : seen (out.take i) (.int .i64 (j : Int)) = none := by
        unfold seen
        refine seen_no _ _ rfl fun y hy => ?_
        obtain ⟨i', hi', hy'⟩ := mem_take_idx hy
        obtain ⟨j', u', g1, g2, g3, g4⟩ := form hy'
        refine ⟨j', by rw [g3]; exact recT_ttl g2.len j', fun hc => ?_⟩
        subst hc
        rw [h1] at g1
        have huu : u = u' := Option.some.inj g1
        subst huu
        rw [g3, ← h3] at hy'
        have hi'l := (List.getElem?_eq_some_iff.1 hy').1
        have := (List.nodup_iff_pairwise_ne.1 hnd)
        rw [List.pairwise_iff_getElem] at this
        refine this i' i hi'l hlt hi' ?_
        rw [(List.getElem?_eq_some_iff.1 hy').2, (List.getElem?_eq_some_iff.1 hx).2]
      have hnorm : ((ti tab (39 : Nat)).ks.getD (2 : Nat) K.no).norm (C.int IntKind.i64 (j : Int)) = C.int IntKind.i64 (j : Int) := rfl
      have hrl := recs_len a
      rw [f5_t16]
      simp only [lt_nat, inB_nat, Int.toNat_natCast, el_get hx, hlt, decide_true, bcond_t, ht, hnorm]
      rw [show (C.int IntKind.i64 (j : Int)).toI = (j : Int) from rfl]
      simp only [inB_nat, Int.toNat_natCast, el_get hr, hrl, h4, decide_true, bcond_t, hself, wrap_succ (i := i) (by omega)]
      rw [bcond_no (b := decide ((j : Int) < 0)) (by simp), bcond_no (b := decide ((j : Int) ≥ (a.length : Int))) (by simp; omega), bcond_no (b := (mgetD _ _ _).toB) (by unfold mgetD; rw [hsn]; rfl), bcond_no (b := !true) rfl]
      have hnext : mset (seen (out.take i)) (C.int IntKind.i64 (j : Int)) (C.bool true) = seen (out.take (i + 1)) := by rw [htake, seen_snoc, ht]
      rw [hnext]
      by_cases hi0 : i = 0
      · rw [bcond_no (b := decide ((i : Int) > 0)) (by simp; omega)]
      · have hlt' : i - 1 < out.length := by omega
        have hp : out[i - 1]? = some out[i - 1] := List.getElem?_eq_getElem hlt'
        obtain ⟨p, hpp⟩ : ∃ p, p = out[i - 1] := ⟨_, rfl⟩
        rw [← hpp] at hp
        obtain ⟨j', u', g1, g2, g3, g4⟩ := form hp
        have ht' : cl p 2 = .int .i64 (j' : Int) := by rw [g3]; exact recT_ttl g2.len j'
        have hadr' : sub p 3 16 = u' := by rw [g3]; exact recT_adr g2.len j'
        have hpx : RN l Tt p x := by
          have := List.pairwise_iff_getElem.1 hR (i - 1) i hlt' hlt (by omega)
          rwa [← hpp, (List.getElem?_eq_some_iff.1 hx).2] at this
        have hi1 : IntKind.i64.wrap ((i : Int) - 1) = ((i - 1 : Nat) : Int) := by rw [wrap_ok (by omega) (by omega)]; omega
        have hA : A8 (sub x 3 16) := by rw [hadr]; exact h2
        have hA' : A8 (sub p 3 16) := by rw [hadr']; exact g2
        have hn1 : aheadR l (sub x 3 16) (sub p 3 16) = false := by
          cases hc : aheadR l (sub x 3 16) (sub p 3 16) with
          | false => rfl
          | true => exact absurd ((ahead_lt hl hA hA').1 hc) (Rr.le (swN l) hpx)
        rw [bcond_of (b := decide ((i : Int) > 0)) (by simp; omega), hi1]
        simp only [inB_nat, Int.toNat_natCast, el_get hp, hlt', decide_true, bcond_t, hn1, ht']
        rw [bcond_of (b := Nat.ble _ _) (by rw [Nat.ble_eq]; omega), bcond_f, bcond_of (b := Nat.ble _ _) (by rw [Nat.ble_eq]; omega)]
        cases hc : aheadR l (sub p 3 16) (sub x 3 16) with
        | true => rw [bcond_no (b := !true) rfl]
        | false =>
          rcases hpx with hpx | ⟨_, hpx⟩
          · rw [(ahead_lt hl hA' hA).2 hpx] at hc
            cases hc
          · unfold Tt ttl at hpx
            rw [ht, ht'] at hpx
            rw [bcond_of (b := !false) rfl, bcond_no (b := decide (_ > _)) (by
              rw [decide_eq_false_iff_not]
              show ¬ ((j' : Int) > (j : Int))
              have : (j' : Int) < (j : Int) := hpx
              omega)])
    (fun _ _ _ _ _ _ => trivial)
    (fun m _ _ => by
      show evLoop false (f5_s16 n) (m + 1) _ _ = _
      rw [f5_t16, lt_nat, bcond_no (by simp), f5_a16_2])
    out.length 0 () m (by omega) hm trivial
  exact h
theorem f5_out (n : Nat) (hn : 1000 < n) (l a : List (List C)) (hl : ∀ x ∈ l, L8 x) (ha : ∀ x ∈ a, A8 x) : evFn tab FW nO false lv5 false n Try.f5 [.one (.c (.sl 27 l)), .one (.c (.sl 24 a))] [] = some (.one (.c (.bool true)), []) := by
  rw [f5_eq]
  cases h1 : decide ((l.length : Int) > 20) with
  | true => rfl
  | false =>
    rw [bcond_f]
    cases h3 : decide ((a.length : Int) > 40) with
    | true => rfl
    | false =>
      rw [decide_eq_false_iff_not] at h1 h3
      have hrl := recs_len a
      have hS := (g30_ok (l := l) (xs := recs a) (by omega) (by omega)).2
      have hlen := hS.1.length_eq
      rw [bcond_f, f5_L7 n l a (by omega) _ n (by omega), f5_a7_0, bcond_of (by rw [Bool.and_eq_true, Nat.ble_eq, Nat.ble_eq]; omega), bcond_no (by rw [hlen]; simp)]
      exact f5_L16 n l a _ hl (by omega) ha (by omega) hS n (by omega)
theorem law_RankSorts : ∀ xs, All2 (ArgOk tab) [22, 42] xs → FnAt Try.prog tab 5 (List.zipWith (argV tab) [22, 42] xs) [] (.one (.c (.bool true))) [] := by
  intro xs h
  match xs, h with
  | [x, y], h =>
    obtain ⟨l, rfl⟩ := wk_sl h.1.1
    obtain ⟨a, rfl⟩ := wk_sl h.2.1.1
    exact fn5 sFW rfl (f5_out 1001 (by omega) l a (locs_ok (h.1.2 (.sl 27 l) (by simp))) (adrs_ok (h.2.1.2 (.sl 24 a) (by simp))))

end Go.Proofs.Ytdcdccdhdingbaa
