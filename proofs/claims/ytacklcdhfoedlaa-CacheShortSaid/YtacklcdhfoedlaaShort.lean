/- Short -/
import Derived.Test.YtacklcdhfoedlaaLem
import Derived.KernelRfl
namespace Go.Proofs.Ytacklcdhfoedlaa
open Go Go.Eng
set_option maxRecDepth 100000
theorem f15_eq (n : Nat) (i : Int) : evFn tab nF nO false lv15 false n Try.f15 [.one (.c (.int .i64 i))] [] = some ((V.agg (26 : Nat) [C.str (strOf [[C.int IntKind.u8 (IntKind.u8.wrap (IntKind.i64.wrap ((97 : Int) + i)))]]), C.int IntKind.i64 (1 : Int)] [], [])) := by kernel_rfl


def e15 : En
  | [.one (.c (.int .i64 i))], [], k => k (.agg 26 [.str (strOf [[.int .u8 (IntKind.u8.wrap (IntKind.i64.wrap (97 + i)))]]), .int .i64 1] []) []
  | _, _, _ => none
theorem es15 : ES Try.prog tab 15 e15 := by
  intro args h k x hh
  unfold e15 at hh
  split at hh
  · exact ⟨_, _, hh, fn15 (nF_sound _ _) rfl (f15_eq 0 _)⟩
  · cases hh
def FD : Fun := mkF [(9, e9), (10, e10), (11, e11), (12, e12), (13, e13), (14, e14), (15, e15)]
theorem sFD : FSound Try.prog tab FD := mkF_sound (fun p hp => by
  simp only [List.mem_cons, List.not_mem_nil, or_false] at hp
  rcases hp with rfl | rfl | rfl | rfl | rfl | rfl | rfl
  · exact es9
  · exact es10
  · exact es11
  · exact es12
  · exact es13
  · exact es14
  · exact es15)

noncomputable abbrev f5_c9 : Code := (loops (body Try.f5)).getD 0 .skip
noncomputable abbrev f5_s9 (n : Nat) : St → (X → St → Option R) → Option R := fun st k => evCode tab FD nO lv5 false n f5_c9 st k
noncomputable abbrev f5_k9 (n : Nat) : X → St → Option R := after tab FD nO lv5 false n (body Try.f5) 0 (endK tab false Try.f5)
abbrev f5_h9 (s0 : List (List C)) (s5 : Int) (s26 : List (List C)) (s27 : Int) (s28 : Int) (b25_0 : Int) (b25_1 : List (List C)) : St := { t := [((0 : Nat), V.one (A.c (C.sl (3 : Nat) s0))), ((3 : Nat), V.one (A.ptr (Key.loc (25 : Nat) (0 : Nat)) (0 : Nat) (0 : Nat))), ((4 : Nat), V.one (A.fn (15 : Nat) [])), ((5 : Nat), V.one (A.c (C.int IntKind.i64 s5))), ((26 : Nat), V.one (A.c (C.sl (3 : Nat) s26))), ((27 : Nat), V.one (A.c (C.int IntKind.i64 s27))), ((28 : Nat), V.one (A.c (C.int IntKind.i64 s28)))], h := [(Key.loc (25 : Nat) (0 : Nat), (0 : Nat), B.box (55 : Nat) [C.int IntKind.i64 b25_0, C.sl (57 : Nat) b25_1] [])] }
abbrev f5_x9_0 (s0 : List (List C)) (s5 : Int) (b25_0 : Int) (b25_1 : List (List C)) : St := { t := [((0 : Nat), V.one (A.c (C.sl (3 : Nat) s0))), ((3 : Nat), V.one (A.ptr (Key.loc (25 : Nat) (0 : Nat)) (0 : Nat) (0 : Nat))), ((4 : Nat), V.one (A.fn (15 : Nat) [])), ((5 : Nat), V.one (A.c (C.int IntKind.i64 s5)))], h := [(Key.loc (25 : Nat) (0 : Nat), (0 : Nat), B.box (55 : Nat) [C.int IntKind.i64 b25_0, C.sl (57 : Nat) b25_1] [])] }
noncomputable abbrev f5_c17 : Code := (loops (body Try.f5)).getD 1 .skip
noncomputable abbrev f5_s17 (n : Nat) : St → (X → St → Option R) → Option R := fun st k => evCode tab FD nO lv5 false n f5_c17 st k
noncomputable abbrev f5_k17 (n : Nat) : X → St → Option R := after tab FD nO lv5 false n (body Try.f5) 1 (endK tab false Try.f5)
abbrev f5_h17 (s0 : List (List C)) (s5 : Int) (s56 : Int) (s57 : Int) (b25_0 : Int) (b25_1 : List (List C)) : St := { t := [((0 : Nat), V.one (A.c (C.sl (3 : Nat) s0))), ((3 : Nat), V.one (A.ptr (Key.loc (25 : Nat) (0 : Nat)) (0 : Nat) (0 : Nat))), ((4 : Nat), V.one (A.fn (15 : Nat) [])), ((5 : Nat), V.one (A.c (C.int IntKind.i64 s5))), ((56 : Nat), V.one (A.c (C.int IntKind.i64 s56))), ((57 : Nat), V.one (A.c (C.int IntKind.i64 s57)))], h := [(Key.loc (25 : Nat) (0 : Nat), (0 : Nat), B.box (55 : Nat) [C.int IntKind.i64 b25_0, C.sl (57 : Nat) b25_1] [])] }
abbrev f5_x17_r (s2 : Bool) (b25_0 : Int) (b25_1 : List (List C)) : St := { t := [((2 : Nat), V.one (A.c (C.bool s2)))], h := [(Key.loc (25 : Nat) (0 : Nat), (0 : Nat), B.box (55 : Nat) [C.int IntKind.i64 b25_0, C.sl (57 : Nat) b25_1] [])] }
abbrev f5_x17_2 (s0 : List (List C)) (b25_0 : Int) (b25_1 : List (List C)) : St := { t := [((0 : Nat), V.one (A.c (C.sl (3 : Nat) s0))), ((3 : Nat), V.one (A.ptr (Key.loc (25 : Nat) (0 : Nat)) (0 : Nat) (0 : Nat))), ((4 : Nat), V.one (A.fn (15 : Nat) []))], h := [(Key.loc (25 : Nat) (0 : Nat), (0 : Nat), B.box (55 : Nat) [C.int IntKind.i64 b25_0, C.sl (57 : Nat) b25_1] [])] }
theorem f5_t9 (n m : Nat) (k : X → St → Option R) (s0 : List (List C)) (s5 : Int) (s26 : List (List C)) (s27 : Int) (s28 : Int) (b25_0 : Int) (b25_1 : List (List C)) : evLoop false (f5_s9 n) (m + 1) (f5_h9 s0 s5 s26 s27 s28 b25_0 b25_1) k = bcond (decide (s28 < s27)) (bcond (inB s28 s26.length) (bcond (b25_1.length.ble (1000000 : Nat) && Nat.ble (0 : Nat) (1000000 : Nat)) (bcond (inB s5 s0.length) (bcond (decide (iand IntKind.i64 (cl (el s26 s28.toNat) (0 : Nat)).toI (7 : Int) < iand IntKind.i64 (cl (el s0 s5.toNat) (0 : Nat)).toI (7 : Int))) (evLoop false (f5_s9 n) m (f5_h9 (s0) (s28) (s26) (s27) (IntKind.i64.wrap (s28 + (1 : Int))) (b25_0) (putR (0 : Int) b25_0 b25_1 (C.str (strOf [[C.int IntKind.u8 (IntKind.u8.wrap (IntKind.i64.wrap ((97 : Int) + s28)))]])) (C.int IntKind.i64 (1 : Int)) (1 : Int) [] (IntKind.i64.wrap (iand IntKind.i64 (cl (el s26 s28.toNat) (0 : Nat)).toI (7 : Int) + (1 : Int))))) k) (evLoop false (f5_s9 n) m (f5_h9 (s0) (s5) (s26) (s27) (IntKind.i64.wrap (s28 + (1 : Int))) (b25_0) (putR (0 : Int) b25_0 b25_1 (C.str (strOf [[C.int IntKind.u8 (IntKind.u8.wrap (IntKind.i64.wrap ((97 : Int) + s28)))]])) (C.int IntKind.i64 (1 : Int)) (1 : Int) [] (IntKind.i64.wrap (iand IntKind.i64 (cl (el s26 s28.toNat) (0 : Nat)).toI (7 : Int) + (1 : Int))))) k)) (none)) (none)) (none)) (k (X.exit 0) (f5_x9_0 (s0) (s5) (b25_0) (b25_1))) := by kernel_rfl
theorem f5_a9_0 (n : Nat) (s0 : List (List C)) (s5 : Int) (b25_0 : Int) (b25_1 : List (List C)) : f5_k9 n (X.exit 0) (f5_x9_0 s0 s5 b25_0 b25_1) = bcond (b25_1.length.ble (1000000 : Nat) && Nat.ble (0 : Nat) (1000000 : Nat)) (evLoop false (f5_s17 n) n (f5_h17 (s0) (s5) ((↑s0.length : Int)) ((0 : Int)) (b25_0) (putR (0 : Int) b25_0 b25_1 (C.str (strOf [[C.int IntKind.u8 (IntKind.u8.wrap (IntKind.i64.wrap ((97 : Int) + (20 : Int))))]])) (C.int IntKind.i64 (1 : Int)) (1 : Int) [] (99 : Int))) (f5_k17 n)) (none) := by kernel_rfl
theorem f5_t17 (n m : Nat) (k : X → St → Option R) (s0 : List (List C)) (s5 : Int) (s56 : Int) (s57 : Int) (b25_0 : Int) (b25_1 : List (List C)) : evLoop false (f5_s17 n) (m + 1) (f5_h17 s0 s5 s56 s57 b25_0 b25_1) k = bcond (decide (s57 < s56)) (bcond (b25_1.length.ble (1000000 : Nat) && b25_1.all fun e => (cl e (3 : Nat)).toL.length.ble (1000000 : Nat)) (bcond (!(getO (getE (0 : Int) b25_1 [C.str (strOf [[C.int IntKind.u8 (IntKind.u8.wrap (IntKind.i64.wrap ((97 : Int) + s57)))]]), C.int IntKind.i64 (1 : Int)]) == (0 : Int)) == (s57 == s5)) (k X.ret (f5_x17_r (false) (b25_0) (b25_1))) (evLoop false (f5_s17 n) m (f5_h17 (s0) (s5) (s56) (IntKind.i64.wrap (s57 + (1 : Int))) (b25_0) (b25_1)) k)) (none)) (k (X.exit 2) (f5_x17_2 (s0) (b25_0) (b25_1))) := by kernel_rfl
theorem f5_a17_r (n : Nat) (s2 : Bool) (b25_0 : Int) (b25_1 : List (List C)) : f5_k17 n X.ret (f5_x17_r s2 b25_0 b25_1) = some ((V.one (A.c (C.bool s2)), [])) := by kernel_rfl
theorem f5_a17_2 (n : Nat) (s0 : List (List C)) (b25_0 : Int) (b25_1 : List (List C)) : f5_k17 n (X.exit 2) (f5_x17_2 s0 b25_0 b25_1) = bcond (b25_1.length.ble (1000000 : Nat) && b25_1.all fun e => (cl e (3 : Nat)).toL.length.ble (1000000 : Nat)) (bcond (getO (getE (0 : Int) b25_1 [C.str (strOf [[C.int IntKind.u8 (IntKind.u8.wrap (IntKind.i64.wrap ((97 : Int) + (20 : Int))))]]), C.int IntKind.i64 (1 : Int)]) == (1 : Int)) (some ((V.one (A.c (C.bool ((↑b25_1.length : Int) == (↑s0.length : Int)))), []))) (some ((V.one (A.c (C.bool false)), [])))) (none) := by kernel_rfl
theorem f5_eq (n : Nat) (l : List (List C)) : evFn tab FD nO false lv5 false n Try.f5 [.one (.c (.sl 3 l))] [] = bcond (decide ((↑l.length : Int) > (15 : Int))) (some ((V.one (A.c (C.bool true)), []))) (bcond ((↑l.length : Int) == (0 : Int)) (some ((V.one (A.c (C.bool true)), []))) (evLoop false (f5_s9 n) n (f5_h9 (l) ((0 : Int)) (l) ((↑l.length : Int)) ((0 : Int)) (clampN (↑l.length : Int)) ([])) (f5_k9 n))) := by kernel_rfl


/-- An entry of the statement's: number j, which counts so long. -/
def ent (j : Nat) (t : Int) : List C := mkE 0 (.str (one (97 + j))) (.int .i64 1) 1 [] t
def xI (x : List C) : Int := (cl x 0).toI % 8
def full (l : List (List C)) : List (List C) := l.zipIdx.map fun p => ent p.2 (xI p.1 + 1)
theorem full_len (l : List (List C)) : (full l).length = l.length := by simp [full]
theorem full_get {l : List (List C)} {i : Nat} {x : List C} (h : l[i]? = some x) : (full l)[i]? = some (ent i (xI x + 1)) := by
  simp [full, List.getElem?_zipIdx, h]
theorem full_mem {l : List (List C)} {e : List C} (h : e ∈ full l) : ∃ j x, l[j]? = some x ∧ e = ent j (xI x + 1) := by
  obtain ⟨j, hj⟩ := List.mem_iff_getElem?.1 h
  have hlt := (List.getElem?_eq_some_iff.1 hj).1
  rw [full_len] at hlt
  have hx : l[j]? = some l[j] := List.getElem?_eq_getElem hlt
  rw [full_get hx] at hj
  exact ⟨j, _, hx, (Option.some.inj hj).symm⟩
theorem xI_rng (x : List C) : 0 ≤ xI x ∧ xI x < 8 := ⟨Int.emod_nonneg _ (by decide), Int.emod_lt_of_pos _ (by decide)⟩
theorem ent_until {j : Nat} {t : Int} (h0 : 1 ≤ t) (h1 : t ≤ 1000) : (cl (ent j t) 4).toI = t := by
  show IntKind.i64.wrap (0 + if (1048576 : Int) < t then (1048576 : Int) else t) = t
  rw [if_neg (by omega), wrap_ok (by omega) (by omega)]
  omega
theorem ent_live {j : Nat} {t : Int} (h0 : 1 ≤ t) (h1 : t ≤ 1000) : live 0 (ent j t) = true := by
  unfold live
  rw [ent_until h0 h1]
  exact decide_eq_true (by omega)
theorem ent_notQ {j i : Nat} {t : Int} (hj : j ≤ 100) (hi : i ≤ 100) : notQ [.str (one (97 + i)), .int .i64 1] (ent j t) = !decide (j = i) := by
  show (!(((one (97 + j)).toList == (one (97 + i)).toList) && true)) = _
  rw [one_ne (by omega) (by omega), Bool.and_true]
  congr 2
  exact propext ⟨fun h => by omega, fun h => by omega⟩
theorem ent_hit {j i : Nat} {t : Int} (hj : j ≤ 100) (hi : i ≤ 100) (h0 : 1 ≤ t) (h1 : t ≤ 1000) : hit 0 [.str (one (97 + i)), .int .i64 1] (ent j t) = decide (j = i) := by
  unfold hit
  rw [ent_notQ hj hi, ent_until h0 h1, Bool.not_not, decide_eq_false (p := t ≤ 0) (by omega)]
  simp
theorem name97 {i : Nat} (h : i ≤ 100) : strOf [[C.int IntKind.u8 (IntKind.u8.wrap (IntKind.i64.wrap ((97 : Int) + (i : Int))))]] = one (97 + i) := by
  rw [wrap_ok (by omega) (by omega), show (97 : Int) + (i : Int) = ((97 + i : Nat) : Int) from rfl, u8_nat (by omega), strOf_one]
/-- The first that counts shortest, of the first i. -/
def atI (l : List (List C)) (i : Nat) : Nat := ((full l).zipIdx.take i).foldl (soon (full l)) 0
theorem atI_lt {l : List (List C)} (h : 0 < l.length) (i : Nat) : atI l i < l.length := by
  rw [← full_len l] at h ⊢
  refine soon_lt _ _ 0 (fun p hp => ?_) h
  have := List.mem_zipIdx (List.mem_of_mem_take hp)
  omega
theorem atI_succ {l : List (List C)} {i : Nat} {x : List C} (h : l[i]? = some x) : atI l (i + 1) = soon (full l) (atI l i) (ent i (xI x + 1), i) := by
  have hlt := (List.getElem?_eq_some_iff.1 h).1
  have h2 : (full l).zipIdx[i]? = some (ent i (xI x + 1), i) := by simp [List.getElem?_zipIdx, full_get h]
  have hl : i < (full l).zipIdx.length := by simp [full_len, hlt]
  have h3 : (full l).zipIdx[i] = (ent i (xI x + 1), i) := (List.getElem?_eq_some_iff.1 h2).2
  rw [atI, List.take_succ_eq_append_getElem hl, List.foldl_append, h3]
  rfl
theorem atI_all (l : List (List C)) : atI l l.length = minIx (full l) := by
  rw [atI, List.take_of_length_le (by simp [full_len])]
  rfl

theorem f5_L9 (n : Nat) (k : X → St → Option R) (l : List (List C)) (h0 : 0 < l.length) (h15 : l.length ≤ 15) (m : Nat) (hm : l.length < m) :
    evLoop false (f5_s9 n) m (f5_h9 l 0 l l.length 0 l.length []) k = k (X.exit 0) (f5_x9_0 l (minIx (full l)) l.length (full l)) := by
  have h := fold_loop (xs := l) (L := fun m i (_ : Unit) => evLoop false (f5_s9 n) m (f5_h9 l (atI l i) l l.length i l.length ((full l).take i)) k) (f := fun _ _ => ()) (E := fun _ => k (X.exit 0) (f5_x9_0 l (minIx (full l)) l.length (full l))) (fun _ _ => True)
    (fun m i _ x hx hlt _ => by
      show evLoop false (f5_s9 n) (m + 1) _ k = evLoop false (f5_s9 n) m _ k
      have hlen : ((full l).take i).length = i := by simp [full_len]; omega
      have hxr := xI_rng x
      have hput : putR 0 l.length ((full l).take i) (.str (one (97 + i))) (.int .i64 1) 1 [] (xI x + 1) = (full l).take (i + 1) := by
        rw [putR_full (by omega) (by omega) (fun e he => by
          obtain ⟨j, y, hj, rfl⟩ := full_mem (List.mem_of_mem_take he)
          have := xI_rng y
          exact ent_live (by omega) (by omega)) (fun e he => by
          obtain ⟨j, hj⟩ := List.mem_iff_getElem?.1 he
          have hji : j < i := by have := (List.getElem?_eq_some_iff.1 hj).1; omega
          rw [List.getElem?_take, if_pos hji] at hj
          have hy : l[j]? = some l[j] := List.getElem?_eq_getElem (by omega)
          rw [full_get hy] at hj
          rw [← Option.some.inj hj, ent_notQ (by omega) (by omega), decide_eq_false (by omega)]
          rfl), hlen, if_neg (by simp; omega), List.take_succ_eq_append_getElem (by rw [full_len]; exact hlt)]
        congr 2
        exact ((List.getElem?_eq_some_iff.1 (full_get hx)).2).symm
      have hat := atI_lt h0 i
      have hy : l[atI l i]? = some l[atI l i] := List.getElem?_eq_getElem hat
      have hyr := xI_rng l[atI l i]
      rw [f5_t9]
      simp only [lt_nat, inB_nat, Int.toNat_natCast, el_get hx, el_get hy, wrap_succ (i := i) (by omega), hlt, hat, decide_true, bcond_t, name97 (i := i) (by omega), iand_7]
      rw [bcond_of (b := Nat.ble _ _ && _) (by rw [hlen, Bool.and_eq_true, Nat.ble_eq]; exact ⟨by omega, rfl⟩)]
      rw [show (cl x 0).toI % 8 = xI x from rfl, show (cl l[atI l i] 0).toI % 8 = xI l[atI l i] from rfl, wrap_ok (by omega) (by omega), hput, atI_succ hx]
      unfold soon
      rw [el_get (full_get hy), ent_until (by omega) (by omega), ent_until (by omega) (by omega)]
      cases hd : decide (xI x < xI l[atI l i]) with
      | true => rw [bcond_t, if_pos (by simp only [decide_eq_true_eq] at hd ⊢; omega)]
      | false => rw [bcond_f, if_neg (by simp only [decide_eq_false_iff_not, decide_eq_true_eq] at hd ⊢; omega)])
    (fun _ _ _ _ _ _ => trivial)
    (fun m _ _ => by
      show evLoop false (f5_s9 n) (m + 1) _ k = _
      rw [f5_t9, lt_nat, bcond_no (by simp), atI_all, List.take_of_length_le (by simp [full_len])])
    l.length 0 () m (by omega) hm trivial
  exact h

/-- What is left in the end. -/
def left (l : List (List C)) : List (List C) := ((full l).take (minIx (full l)) ++ (full l).drop (minIx (full l) + 1)) ++ [ent 20 99]
theorem left_mem {l : List (List C)} {e : List C} (h : e ∈ left l) : (∃ j x, l[j]? = some x ∧ j ≠ minIx (full l) ∧ e = ent j (xI x + 1)) ∨ e = ent 20 99 := by
  rcases List.mem_append.1 h with h | h
  · left
    obtain ⟨j, hj, hne⟩ : ∃ j, (full l)[j]? = some e ∧ j ≠ minIx (full l) := by
      rcases List.mem_append.1 h with h | h
      · obtain ⟨j, hj⟩ := List.mem_iff_getElem?.1 h
        have hlt := (List.getElem?_eq_some_iff.1 hj).1
        simp only [List.length_take] at hlt
        rw [List.getElem?_take, if_pos (by omega)] at hj
        exact ⟨j, hj, by omega⟩
      · obtain ⟨j, hj⟩ := List.mem_iff_getElem?.1 h
        rw [List.getElem?_drop] at hj
        exact ⟨_, hj, by omega⟩
    have hlt := (List.getElem?_eq_some_iff.1 hj).1
    rw [full_len] at hlt
    have hx : l[j]? = some l[j] := List.getElem?_eq_getElem hlt
    rw [full_get hx] at hj
    exact ⟨j, _, hx, hne, (Option.some.inj hj).symm⟩
  · right
    exact List.mem_singleton.1 h
theorem mem_left {l : List (List C)} {j : Nat} {x : List C} (h : l[j]? = some x) (hne : j ≠ minIx (full l)) : ent j (xI x + 1) ∈ left l := by
  refine List.mem_append_left _ ?_
  have hg := full_get h
  rcases Nat.lt_or_gt_of_ne hne with h1 | h1
  · exact List.mem_append_left _ (List.mem_iff_getElem?.2 ⟨j, by rw [List.getElem?_take, if_pos h1]; exact hg⟩)
  · exact List.mem_append_right _ (List.mem_iff_getElem?.2 ⟨j - (minIx (full l) + 1), by rw [List.getElem?_drop, show minIx (full l) + 1 + (j - (minIx (full l) + 1)) = j from by omega]; exact hg⟩)
theorem left_len {l : List (List C)} (h : 0 < l.length) : (left l).length = l.length := by
  have := minIx_lt (full l) (by rw [full_len]; exact h)
  rw [full_len] at this
  simp [left, full_len]
  omega
theorem left_out {l : List (List C)} {e : List C} (h : e ∈ left l) : (cl e 2).toI = 1 ∧ (cl e 3).toL = [] := by
  rcases left_mem h with ⟨j, x, _, _, rfl⟩ | rfl <;> exact ⟨rfl, rfl⟩
theorem get_left {l : List (List C)} (h15 : l.length ≤ 15) {i : Nat} (hi : i < l.length) : (getO (getE 0 (left l) [.str (one (97 + i)), .int .i64 1]) == 0) = decide (i = minIx (full l)) := by
  have hh : ∀ e ∈ left l, hit 0 [.str (one (97 + i)), .int .i64 1] e = true → ∃ x, l[i]? = some x ∧ i ≠ minIx (full l) := fun e he hit => by
    rcases left_mem he with ⟨j, x, hx, hne, rfl⟩ | rfl
    · have := xI_rng x
      have hj := (List.getElem?_eq_some_iff.1 hx).1
      rw [ent_hit (by omega) (by omega) (by omega) (by omega), decide_eq_true_eq] at hit
      subst hit
      exact ⟨x, hx, hne⟩
    · rw [ent_hit (by omega) (by omega) (by omega) (by omega), decide_eq_true_eq] at hit
      omega
  unfold getE
  cases hf : (left l).find? (hit 0 [.str (one (97 + i)), .int .i64 1]) with
  | none =>
    rw [List.find?_eq_none] at hf
    rw [eq_comm, show (getO none == 0) = true from rfl, decide_eq_true_eq]
    refine Classical.byContradiction fun hne => ?_
    have hx : l[i]? = some l[i] := List.getElem?_eq_getElem hi
    have := xI_rng l[i]
    have hm := mem_left hx hne
    refine hf _ hm ?_
    rw [ent_hit (by omega) (by omega) (by omega) (by omega)]
    simp
  | some e =>
    have hm := List.mem_of_find?_eq_some hf
    have hp := List.find?_some hf
    obtain ⟨_, _, hne⟩ := hh e hm hp
    rw [decide_eq_false hne, getO, (left_out hm).1]
    rfl
theorem get_20 (l : List (List C)) (h15 : l.length ≤ 15) : getO (getE 0 (left l) [.str (one (97 + 20)), .int .i64 1]) = 1 := by
  unfold getE
  cases hf : (left l).find? (hit 0 [.str (one (97 + 20)), .int .i64 1]) with
  | none =>
    rw [List.find?_eq_none] at hf
    have := hf (ent 20 99) (List.mem_append_right _ (List.mem_singleton.2 rfl))
    rw [ent_hit (by omega) (by omega) (by omega) (by omega)] at this
    simp at this
  | some e => exact (left_out (List.mem_of_find?_eq_some hf)).1
theorem left_ok {l : List (List C)} (h0 : 0 < l.length) (h15 : l.length ≤ 15) : (Nat.ble (left l).length 1000000 && (left l).all fun e => Nat.ble (cl e 3).toL.length 1000000) = true := by
  rw [Bool.and_eq_true, Nat.ble_eq, left_len h0, List.all_eq_true]
  exact ⟨by omega, fun e he => by rw [(left_out he).2]; rfl⟩

theorem f5_L17 (n : Nat) (k : X → St → Option R) (l : List (List C)) (s : Int) (h0 : 0 < l.length) (h15 : l.length ≤ 15) (m : Nat) (hm : l.length < m) :
    evLoop false (f5_s17 n) m (f5_h17 l (minIx (full l)) l.length 0 s (left l)) k = k (X.exit 2) (f5_x17_2 l s (left l)) := by
  have h := fold_loop (xs := l) (L := fun m i (_ : Unit) => evLoop false (f5_s17 n) m (f5_h17 l (minIx (full l)) l.length i s (left l)) k) (f := fun _ _ => ()) (E := fun _ => k (X.exit 2) (f5_x17_2 l s (left l))) (fun _ _ => True)
    (fun m i _ x hx hlt _ => by
      show evLoop false (f5_s17 n) (m + 1) _ k = evLoop false (f5_s17 n) m _ k
      rw [f5_t17]
      simp only [lt_nat, hlt, decide_true, bcond_t, name97 (i := i) (by omega), left_ok h0 h15, get_left h15 hlt, wrap_succ (i := i) (by omega)]
      rw [bcond_no]
      have : ((i : Int) == ((minIx (full l) : Nat) : Int)) = decide (i = minIx (full l)) := by
        by_cases h : i = minIx (full l)
        · rw [h]; simp
        · rw [decide_eq_false h, beq_eq_false_iff_ne]; omega
      rw [this]
      simp)
    (fun _ _ _ _ _ _ => trivial)
    (fun m _ _ => by
      show evLoop false (f5_s17 n) (m + 1) _ k = _
      rw [f5_t17, lt_nat, bcond_no (by simp)])
    l.length 0 () m (by omega) hm trivial
  exact h

theorem clampN_id {i : Nat} (h : i ≤ 15) : clampN (i : Int) = (i : Int) := by unfold clampN; rw [if_neg (by split <;> omega), if_neg (by omega)]
theorem f5_out (n : Nat) (hn : 100 ≤ n) (l : List (List C)) : evFn tab FD nO false lv5 false n Try.f5 [.one (.c (.sl 3 l))] [] = some (.one (.c (.bool true)), []) := by
  rw [f5_eq]
  cases h1 : decide ((l.length : Int) > 15) with
  | true => rfl
  | false =>
    rw [bcond_f]
    cases h2 : ((l.length : Int) == 0) with
    | true => rfl
    | false =>
      simp only [decide_eq_false_iff_not, beq_eq_false_iff_ne, ne_eq] at h1 h2
      have h15 : l.length ≤ 15 := by omega
      have h0 : 0 < l.length := by omega
      rw [bcond_f, clampN_id h15, f5_L9 n _ l h0 h15 n (by omega), f5_a9_0]
      have hput : putR 0 l.length (full l) (.str (one (97 + 20))) (.int .i64 1) 1 [] 99 = left l := by
        rw [putR_full (by omega) (by omega) (fun e he => by
          obtain ⟨j, y, hj, rfl⟩ := full_mem he
          have := xI_rng y
          exact ent_live (by omega) (by omega)) (fun e he => by
          obtain ⟨j, y, hj, rfl⟩ := full_mem he
          have := (List.getElem?_eq_some_iff.1 hj).1
          rw [ent_notQ (by omega) (by omega), decide_eq_false (by omega)]
          rfl), full_len, if_pos (by simp)]
        rfl
      rw [show strOf [[C.int IntKind.u8 (IntKind.u8.wrap (IntKind.i64.wrap ((97 : Int) + (20 : Int))))]] = one (97 + 20) from name97 (i := 20) (by omega), hput]
      rw [bcond_of (by rw [full_len, Bool.and_eq_true, Nat.ble_eq]; exact ⟨by omega, rfl⟩), f5_L17 n _ l _ h0 h15 n (by omega), f5_a17_2, bcond_of (left_ok h0 h15)]
      rw [show strOf [[C.int IntKind.u8 (IntKind.u8.wrap (IntKind.i64.wrap ((97 : Int) + (20 : Int))))]] = one (97 + 20) from name97 (i := 20) (by omega), get_20 l h15, left_len h0]
      rw [bcond_of (b := ((1 : Int) == 1)) rfl]
      simp
theorem law_CacheShort : ∀ xs, All2 (ArgOk tab) [40] xs → FnAt Try.prog tab 5 (List.zipWith (argV tab) [40] xs) [] (.one (.c (.bool true))) [] := by
  intro xs h
  match xs, h with
  | [x], h =>
    obtain ⟨l, rfl⟩ := wk_sl h.1.1
    exact fn5 sFD rfl (f5_out 100 (by omega) l)

end Go.Proofs.Ytacklcdhfoedlaa
