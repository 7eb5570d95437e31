/- Cuts -/
import Derived.Test.YtnbiincgplkmbaaPf
import Derived.KernelRfl
namespace Go.Proofs.Ytnbiincgplkmbaa
open Go Go.Eng
set_option maxRecDepth 100000
noncomputable abbrev f6_c9 : Code := (loops (body Try.f6)).getD 0 .skip
noncomputable abbrev f6_s9 (n : Nat) : St → (X → St → Option R) → Option R := fun st k => evCode tab FH nO lv6 false n f6_c9 st k
noncomputable abbrev f6_k9 (n : Nat) : X → St → Option R := after tab FH nO lv6 false n (body Try.f6) 0 (endK tab false Try.f6)
abbrev f6_h9 (s0 : List (List C)) (s1 : Int) (s6 : List (List C)) (s7 : Int) : St := { t := [((0 : Nat), V.one (A.c (C.sl (36 : Nat) s0))), ((1 : Nat), V.one (A.c (C.int IntKind.i64 s1))), ((6 : Nat), V.one (A.c (C.sl (36 : Nat) s6))), ((7 : Nat), V.one (A.c (C.int IntKind.i64 s7)))], h := [] }
abbrev f6_x9_0 (s0 : List (List C)) (s1 : Int) (s6 : List (List C)) (s7 : Int) : St := { t := [((0 : Nat), V.one (A.c (C.sl (36 : Nat) s0))), ((1 : Nat), V.one (A.c (C.int IntKind.i64 s1))), ((6 : Nat), V.one (A.c (C.sl (36 : Nat) s6))), ((7 : Nat), V.one (A.c (C.int IntKind.i64 s7)))], h := [] }
theorem f6_t9 (n m : Nat) (k : X → St → Option R) (s0 : List (List C)) (s1 : Int) (s6 : List (List C)) (s7 : Int) : evLoop false (f6_s9 n) (m + 1) (f6_h9 s0 s1 s6 s7) k = bcond (decide (s7 < (↑s0.length : Int))) (bcond (inE (IntKind.i64.wrap (s7 + (1 : Int))) (0 : Nat) s0.length) (bcond ((lstCut s0 (0 : Nat) (IntKind.i64.wrap (s7 + (1 : Int))).toNat).all okEv && (lstCut s0 (0 : Nat) (IntKind.i64.wrap (s7 + (1 : Int))).toNat).length.ble (100000 : Nat)) (bcond (decide ((↑(toB (encR (lstCut s0 (0 : Nat) (IntKind.i64.wrap (s7 + (1 : Int))).toNat))).length : Int) ≤ s1)) (evLoop false (f6_s9 n) m (f6_h9 (s0) (s1) (s6) (IntKind.i64.wrap (s7 + (1 : Int)))) k) (k (X.exit 0) (f6_x9_0 (s0) (s1) (s6) (s7)))) (none)) (none)) (k (X.exit 0) (f6_x9_0 (s0) (s1) (s6) (s7))) := by kernel_rfl
theorem f6_a9_0 (n : Nat) (s0 : List (List C)) (s1 : Int) (s6 : List (List C)) (s7 : Int) : f6_k9 n (X.exit 0) (f6_x9_0 s0 s1 s6 s7) = bcond (inE s7 (0 : Nat) s0.length) (bcond ((lstCut s0 (0 : Nat) s7.toNat).all okEv && (lstCut s0 (0 : Nat) s7.toNat).length.ble (100000 : Nat)) (bcond ((↑s6.length : Int) == IntKind.i64.wrap (s7 + (mgetD (mset (mset mnil (C.bool true) (C.int IntKind.i64 (0 : Int))) (C.bool false) (C.int IntKind.i64 (1 : Int))) (C.bool ((↑(toB (encR (lstCut s0 (0 : Nat) s7.toNat))).length : Int) == s1)) (C.int IntKind.i64 (0 : Int))).toI)) (bcond (inE s7 (0 : Nat) s6.length) (bcond ((lstCut s6 (0 : Nat) s7.toNat).all okEv && (lstCut s6 (0 : Nat) s7.toNat).length.ble (100000 : Nat)) (bcond (inE s7 (0 : Nat) s0.length) (bcond ((lstCut s0 (0 : Nat) s7.toNat).all okEv && (lstCut s0 (0 : Nat) s7.toNat).length.ble (100000 : Nat)) (some ((V.one (A.c (C.bool ((strOf (toB (encR (lstCut s6 (0 : Nat) s7.toNat)))).toList == (strOf (toB (encR (lstCut s0 (0 : Nat) s7.toNat)))).toList))), []))) (none)) (none)) (none)) (none)) (some ((V.one (A.c (C.bool false)), [])))) (none)) (none) := by kernel_rfl
theorem f6_eq (n : Nat) (xs : List (List C)) (a : Int) : evFn tab FH nO false lv6 false n Try.f6 [.one (.c (.sl 36 xs)), .one (.c (.int .i64 a))] [] = bcond (xs.all fun x => (cl x (26 : Nat)).toL.length.ble lim50) (bcond (!lightB xs) (some ((V.one (A.c (C.bool true)), []))) (bcond (xs.all okEv && xs.length.ble (100000 : Nat)) (bcond (IntKind.i64.wrap ((↑(toB (encR xs)).length : Int) + (1 : Int)) == (0 : Int)) (none) (bcond (IntKind.i64.wrap ((↑(toB (encR xs)).length : Int) + (1 : Int)) == (0 : Int)) (none) (bcond (inE ((IntKind.i64.wrap (IntKind.i64.wrap (a.tmod (IntKind.i64.wrap ((↑(toB (encR xs)).length : Int) + (1 : Int))) + (↑(toB (encR xs)).length : Int)) + (1 : Int))).tmod (IntKind.i64.wrap ((↑(toB (encR xs)).length : Int) + (1 : Int)))) (0 : Nat) (toB (encR xs)).length) (bcond (isB (lstCut (toB (encR xs)) (0 : Nat) ((IntKind.i64.wrap (IntKind.i64.wrap (a.tmod (IntKind.i64.wrap ((↑(toB (encR xs)).length : Int) + (1 : Int))) + (↑(toB (encR xs)).length : Int)) + (1 : Int))).tmod (IntKind.i64.wrap ((↑(toB (encR xs)).length : Int) + (1 : Int)))).toNat) && (lstCut (toB (encR xs)) (0 : Nat) ((IntKind.i64.wrap (IntKind.i64.wrap (a.tmod (IntKind.i64.wrap ((↑(toB (encR xs)).length : Int) + (1 : Int))) + (↑(toB (encR xs)).length : Int)) + (1 : Int))).tmod (IntKind.i64.wrap ((↑(toB (encR xs)).length : Int) + (1 : Int)))).toNat).length.ble lim38) (evLoop false (f6_s9 n) n (f6_h9 (xs) ((IntKind.i64.wrap (IntKind.i64.wrap (a.tmod (IntKind.i64.wrap ((↑(toB (encR xs)).length : Int) + (1 : Int))) + (↑(toB (encR xs)).length : Int)) + (1 : Int))).tmod (IntKind.i64.wrap ((↑(toB (encR xs)).length : Int) + (1 : Int)))) (decR (unB (lstCut (toB (encR xs)) (0 : Nat) ((IntKind.i64.wrap (IntKind.i64.wrap (a.tmod (IntKind.i64.wrap ((↑(toB (encR xs)).length : Int) + (1 : Int))) + (↑(toB (encR xs)).length : Int)) + (1 : Int))).tmod (IntKind.i64.wrap ((↑(toB (encR xs)).length : Int) + (1 : Int)))).toNat))) ((0 : Int))) (f6_k9 n)) (none)) (none)))) (none))) (none) := by kernel_rfl


theorem cut_rng (a : Int) (L : Nat) (hL : L ≤ 100000000) : ∃ c : Nat, c ≤ L ∧ (IntKind.i64.wrap (IntKind.i64.wrap (a.tmod (IntKind.i64.wrap ((L : Int) + 1)) + (L : Int)) + 1)).tmod (IntKind.i64.wrap ((L : Int) + 1)) = (c : Int) := by
  have hw : IntKind.i64.wrap ((L : Int) + 1) = (L : Int) + 1 := wrap_ok (by omega) (by omega)
  rw [hw]
  have h1 := Int.tmod_lt_of_pos a (show (0 : Int) < (L : Int) + 1 by omega)
  have h2 := Int.lt_tmod_of_pos a (show (0 : Int) < (L : Int) + 1 by omega)
  generalize a.tmod ((L : Int) + 1) = t at h1 h2
  have e1 : IntKind.i64.wrap (t + (L : Int)) = t + (L : Int) := wrap_ok (by omega) (by omega)
  have e2 : IntKind.i64.wrap (t + (L : Int) + 1) = t + (L : Int) + 1 := wrap_ok (by omega) (by omega)
  rw [e1, e2, Int.tmod_eq_emod_of_nonneg (by omega)]
  have h3 := Int.emod_nonneg (t + (L : Int) + 1) (show (L : Int) + 1 ≠ 0 by omega)
  have h4 := Int.emod_lt_of_pos (t + (L : Int) + 1) (show (0 : Int) < (L : Int) + 1 by omega)
  exact ⟨((t + (L : Int) + 1) % ((L : Int) + 1)).toNat, by omega, by omega⟩
theorem cut0 (l : List (List C)) (n : Nat) : lstCut l 0 n = l.take n := by unfold lstCut; rw [List.drop_zero]
theorem encR_mono (l : List (List C)) {i n : Nat} (h : i ≤ n) : (encR (l.take i)).length ≤ (encR (l.take n)).length := by
  have : l.take n = l.take i ++ (l.take n).drop i := by
    have h1 := List.take_append_drop i (l.take n)
    rw [List.take_take, Nat.min_eq_left h] at h1
    exact h1.symm
  rw [this, ← encR_app, List.length_append]
  omega
theorem f6_L9 (n : Nat) (k : X → St → Option R) (l : List (List C)) (hg : ∀ x ∈ l, GoodE x) (h40 : l.length ≤ 40) (c w : Nat) (m : List (List C)) (hw : w ≤ l.length) (hc : (encR (l.take w)).length ≤ c)
    (hn : w = l.length ∨ c < (encR (l.take (w + 1))).length) : ∀ (d i f : Nat), i + d = w → d < f → evLoop false (f6_s9 n) f (f6_h9 l (c : Int) m (i : Int)) k = k (.exit 0) (f6_x9_0 l (c : Int) m (w : Int)) := by
  intro d
  induction d with
  | zero =>
    intro i f hi hf
    obtain ⟨f, rfl⟩ : ∃ g, f = g + 1 := ⟨f - 1, by omega⟩
    obtain rfl : i = w := by omega
    rw [f6_t9, lt_nat]
    rcases hn with hn | hn
    · rw [bcond_no (by rw [hn]; simp)]
    · by_cases hlt : i < l.length
      · have hgt : ∀ x ∈ l.take (i + 1), GoodE x := fun x hx => hg x (List.mem_of_mem_take hx)
        rw [bcond_of (by simpa using hlt), wrap_succ (by omega), inE_nat, bcond_of (by simp; omega)]
        rw [show (((i + 1 : Nat) : Int)).toNat = i + 1 from Int.toNat_natCast _, cut0, ok_all hgt (by rw [List.length_take]; omega), bcond_t, toB_len]
        rw [bcond_no (by rw [decide_eq_false_iff_not]; omega)]
      · rw [bcond_no (by simpa using hlt)]
  | succ d ih =>
    intro i f hi hf
    obtain ⟨f, rfl⟩ : ∃ g, f = g + 1 := ⟨f - 1, by omega⟩
    have hlt : i < l.length := by omega
    have hgt : ∀ x ∈ l.take (i + 1), GoodE x := fun x hx => hg x (List.mem_of_mem_take hx)
    have hm := encR_mono l (show i + 1 ≤ w by omega)
    rw [f6_t9, lt_nat, bcond_of (by simpa using hlt), wrap_succ (by omega), inE_nat, bcond_of (by simp; omega)]
    rw [show (((i + 1 : Nat) : Int)).toNat = i + 1 from Int.toNat_natCast _, cut0, ok_all hgt (by rw [List.length_take]; omega), bcond_t, toB_len]
    rw [bcond_of (by rw [decide_eq_true_eq]; omega)]
    exact ih (i + 1) f (by omega) (by omega)

theorem ok_nmC {l : List (List C)} (hg : ∀ x ∈ l, GoodE x) (hl : l.length ≤ 100000) : ((l.map nmE).all okEv && Nat.ble l.length 100000) = true := by
  have := ok_all (good_nm hg) (by rw [List.length_map]; exact hl)
  rwa [List.length_map] at this
theorem f6_out (n : Nat) (hn : 100 < n) (l : List (List C)) (hw : Wf tab (.sl 36 l)) (a : Int) : evFn tab FH nO false lv6 false n Try.f6 [.one (.c (.sl 36 l)), .one (.c (.int .i64 a))] [] = some (.one (.c (.bool true)), []) := by
  obtain ⟨hg, h26⟩ := args_good hw
  have h38 : lim38 = 274877906944 := rfl
  rw [f6_eq, h26, bcond_t]
  cases hli : lightB l with
  | false => rfl
  | true =>
    have h40 := light_len hli
    have e1 := encR_len l
    refine (bcond_no (by rfl) _ _).trans ?_
    rw [ok_all hg (by omega), bcond_t, toB_len]
    obtain ⟨c, hc, hce⟩ := cut_rng a (encR l).length (by omega)
    have hz : (IntKind.i64.wrap (((encR l).length : Int) + 1) == 0) = false := by
      rw [wrap_succ (by omega)]
      rw [beq_eq_false_iff_ne]
      omega
    rw [hz, bcond_f, bcond_f, hce, inE_nat, bcond_of (by simp; omega), show ((c : Nat) : Int).toNat = c from Int.toNat_natCast _, cut0, toB_take, isB_toB, toB_len, Bool.true_and]
    rw [bcond_of (by rw [Nat.ble_eq, List.length_take]; omega), unB_toB]
    obtain ⟨w, P, h1, h2, h3, h4⟩ := cut_split l c hc
    have hgw : ∀ x ∈ l.take w, GoodE x := fun x hx => hg x (List.mem_of_mem_take hx)
    have hPr : evRest P = [] := by
      rcases h4 with ⟨_, rfl⟩ | ⟨x, hx, hP, hlt⟩
      · rfl
      · cases hPl : P.length with
        | zero =>
          obtain rfl := List.eq_nil_of_length_eq_zero hPl
          rfl
        | succ j =>
          rw [hP]
          exact ev_part (hg x (List.mem_of_getElem? hx)) _ (by omega) hlt
    have hdec : decR ((encR l).take c) = (l.take w).map nmE ++ tailE P := by
      rw [h2]
      exact dec_part (l.take w) hgw P hPr _ (Nat.le_refl _)
    have hstop : w = l.length ∨ c < (encR (l.take (w + 1))).length := by
      rcases h4 with ⟨h, _⟩ | ⟨x, hx, hP, hlt⟩
      · exact .inl h
      · refine .inr ?_
        obtain ⟨hwl, hxe⟩ := List.getElem?_eq_some_iff.1 hx
        rw [take_at hwl, hxe, ← encR_app, List.length_append]
        have : encR [x] = encE x := by show [x].flatMap encE = _; rw [List.flatMap_singleton]
        rw [this]
        omega
    have hcw : (encR (l.take w)).length ≤ c := by omega
    have hwl : (l.take w).length = w := by rw [List.length_take]; omega
    rw [hdec]
    generalize hm : (l.take w).map nmE ++ tailE P = m
    have hmw : m.take w = (l.take w).map nmE := by
      rw [← hm]
      exact take_app (by rw [List.length_map]; exact hwl)
    have hml : (m.length : Int) = IntKind.i64.wrap ((w : Int) + (mgetD (mset (mset mnil (C.bool true) (C.int IntKind.i64 0)) (C.bool false) (C.int IntKind.i64 1)) (C.bool (((encR (l.take w)).length : Int) == (c : Int))) (C.int IntKind.i64 0)).toI) := by
      rw [← hm, List.length_append, List.length_map, hwl]
      cases P with
      | nil =>
        have : (((encR (l.take w)).length : Int) == (c : Int)) = true := by rw [beq_iff_eq]; simp at h3; omega
        rw [this]
        show ((w + 0 : Nat) : Int) = IntKind.i64.wrap ((w : Int) + 0)
        rw [wrap_ok (by omega) (by omega)]
        rfl
      | cons b r =>
        have : (((encR (l.take w)).length : Int) == (c : Int)) = false := by rw [beq_eq_false_iff_ne]; simp at h3; omega
        rw [this]
        show ((w + 1 : Nat) : Int) = IntKind.i64.wrap ((w : Int) + 1)
        rw [wrap_succ (by omega)]
    have hmle : w ≤ m.length := by
      rw [← hm, List.length_append, List.length_map, hwl]; omega
    have hokm := ok_nmC hgw (by omega)
    have hokw := ok_all hgw (by omega)
    have L9 := f6_L9 n (f6_k9 n) l hg h40 c w m h1 hcw hstop w 0 n (by omega) (by omega)
    refine Eq.trans L9 ?_
    rw [f6_a9_0, inE_nat, bcond_of (by simp; omega), show ((w : Nat) : Int).toNat = w from Int.toNat_natCast _, cut0, cut0, hokw, bcond_t, toB_len, bcond_of (beq_iff_eq.2 hml), inE_nat, bcond_of (by simp; omega), hmw]
    rw [show (((l.take w).map nmE).all okEv && Nat.ble ((l.take w).map nmE).length 100000) = true by rw [List.length_map]; exact hokm, bcond_t, bcond_of (by simp; omega), bcond_t, encR_nm _ hgw]
    simp
theorem law_ScriptCuts : ∀ xs, All2 (ArgOk tab) [22, 3] xs → FnAt Try.prog tab 6 (List.zipWith (argV tab) [22, 3] xs) [] (.one (.c (.bool true))) [] := by
  intro xs h
  match xs, h with
  | [x, y], h =>
    obtain ⟨l, rfl⟩ := wk_sl h.1.1
    obtain ⟨a, rfl⟩ := wk_int h.2.1.1
    exact fn6 sFH rfl (f6_out 101 (by omega) l (h.1.2 _ (List.mem_singleton.2 rfl)) a)

end Go.Proofs.Ytnbiincgplkmbaa
