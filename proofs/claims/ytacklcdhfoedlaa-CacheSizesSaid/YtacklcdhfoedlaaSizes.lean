/- Sizes -/
import Derived.Test.YtacklcdhfoedlaaLem
import Derived.KernelRfl
namespace Go.Proofs.Ytacklcdhfoedlaa
open Go Go.Eng
set_option maxRecDepth 100000
noncomputable abbrev f8_c6 : Code := (loops (body Try.f8)).getD 0 .skip
noncomputable abbrev f8_s6 (n : Nat) : St → (X → St → Option R) → Option R := fun st k => evCode tab FC nO lv8 false n f8_c6 st k
noncomputable abbrev f8_k6 (n : Nat) : X → St → Option R := after tab FC nO lv8 false n (body Try.f8) 0 (endK tab false Try.f8)
abbrev f8_h6 (s0 : Int) (s1 : Int) (s16 : Int) (s17 : Int) (b15_0 : Int) (b15_1 : List (List C)) : St := { t := [((0 : Nat), V.one (A.c (C.int IntKind.i64 s0))), ((1 : Nat), V.one (A.c (C.int IntKind.i64 s1))), ((5 : Nat), V.one (A.ptr (Key.loc (15 : Nat) (0 : Nat)) (0 : Nat) (0 : Nat))), ((16 : Nat), V.one (A.c (C.int IntKind.i64 s16))), ((17 : Nat), V.one (A.c (C.int IntKind.i64 s17)))], h := [(Key.loc (15 : Nat) (0 : Nat), (0 : Nat), B.box (55 : Nat) [C.int IntKind.i64 b15_0, C.sl (57 : Nat) b15_1] [])] }
abbrev f8_x6_0 (s0 : Int) (s1 : Int) (b15_0 : Int) (b15_1 : List (List C)) : St := { t := [((0 : Nat), V.one (A.c (C.int IntKind.i64 s0))), ((1 : Nat), V.one (A.c (C.int IntKind.i64 s1))), ((5 : Nat), V.one (A.ptr (Key.loc (15 : Nat) (0 : Nat)) (0 : Nat) (0 : Nat)))], h := [(Key.loc (15 : Nat) (0 : Nat), (0 : Nat), B.box (55 : Nat) [C.int IntKind.i64 b15_0, C.sl (57 : Nat) b15_1] [])] }
theorem f8_t6 (n m : Nat) (k : X → St → Option R) (s0 : Int) (s1 : Int) (s16 : Int) (s17 : Int) (b15_0 : Int) (b15_1 : List (List C)) : evLoop false (f8_s6 n) (m + 1) (f8_h6 s0 s1 s16 s17 b15_0 b15_1) k = bcond (decide (s17 < s16)) (bcond (b15_1.length.ble (1000000 : Nat) && Nat.ble (0 : Nat) (1000000 : Nat)) (evLoop false (f8_s6 n) m (f8_h6 (s0) (s1) (s16) (IntKind.i64.wrap (s17 + (1 : Int))) (b15_0) (putR (0 : Int) b15_0 b15_1 (C.str (strOf [[C.int IntKind.u8 (IntKind.u8.wrap s17)]])) (C.int IntKind.i64 (1 : Int)) (1 : Int) [] (IntKind.i64.wrap (s17 + (1 : Int))))) k) (none)) (k (X.exit 0) (f8_x6_0 (s0) (s1) (b15_0) (b15_1))) := by kernel_rfl
theorem f8_a6_0 (n : Nat) (s0 : Int) (s1 : Int) (b15_0 : Int) (b15_1 : List (List C)) : f8_k6 n (X.exit 0) (f8_x6_0 s0 s1 b15_0 b15_1) = bcond ((↑b15_1.length : Int) == if (if (16 : Int) < if (0 : Int) > s0 then (0 : Int) else s0 then (16 : Int) else if (0 : Int) > s0 then (0 : Int) else s0) < s1 then if (16 : Int) < if (0 : Int) > s0 then (0 : Int) else s0 then (16 : Int) else if (0 : Int) > s0 then (0 : Int) else s0 else s1) (some ((V.one (A.c (C.bool ((↑(0 : Nat) : Int) == (0 : Int)))), []))) (some ((V.one (A.c (C.bool false)), []))) := by kernel_rfl
theorem f8_eq (n : Nat) (size : Int) (a : Int) : evFn tab FC nO false lv8 false n Try.f8 [.one (.c (.int .i64 size)), .one (.c (.int .i64 a))] [] = evLoop false (f8_s6 n) n (f8_h6 (size) (iand IntKind.i64 a (63 : Int)) (iand IntKind.i64 a (63 : Int)) ((0 : Int)) (clampN size) ([])) (f8_k6 n) := by kernel_rfl


/-- What the cache holds behind i calls. -/
def after8 (s : Int) : Nat → List (List C)
  | 0 => []
  | i + 1 => putR 0 s (after8 s i) (.str (one i)) (.int .i64 1) 1 [] ((i : Int) + 1)
theorem cut_len {l : List (List C)} (h : 0 < l.length) : (l.take (minIx l) ++ l.drop (minIx l + 1)).length + 1 = l.length := by
  have := minIx_lt l h
  simp
  omega
theorem after8_inv {s : Int} (h0 : 0 ≤ s) (h1 : s ≤ 16) : ∀ i, i ≤ 64 → (∀ e ∈ after8 s i, live 0 e = true ∧ ∃ j, j < i ∧ ∃ r, e = .str (one j) :: r) ∧ ((after8 s i).length : Int) = if (i : Int) < s then (i : Int) else s
  | 0, _ => ⟨fun e he => (by cases he), (by simp [after8]; omega)⟩
  | i + 1, hi => by
    obtain ⟨h2, h3⟩ := after8_inv h0 h1 i (by omega)
    rcases Int.lt_or_eq_of_le h0 with hs | hs
    · have hput := putR_full (now := 0) (size := s) (es := after8 s i) (q0 := .str (one i)) (q1 := .int .i64 1) (oc := 1) (rs := []) (ttl := (i : Int) + 1) (by omega) (by omega) (fun e he => (h2 e he).1) (fun e he => by
        obtain ⟨_, j, hj, r, rfl⟩ := h2 e he
        show (!(((one j).toList == (one i).toList) && _)) = true
        rw [one_ne (by omega) (by omega), decide_eq_false (by omega)]
        rfl)
      have hnew : live 0 (mkE 0 (.str (one i)) (.int .i64 1) 1 [] ((i : Int) + 1)) = true := by
        show decide (IntKind.i64.wrap (0 + if (1048576 : Int) < (i : Int) + 1 then (1048576 : Int) else (i : Int) + 1) > 0) = true
        rw [if_neg (by omega), wrap_ok (by omega) (by omega)]
        exact decide_eq_true (by omega)
      rw [after8, hput]
      refine ⟨fun e he => ?_, ?_⟩
      · rcases List.mem_append.1 he with he | he
        · have hm : e ∈ after8 s i := by
            split at he
            · exact mem_cut he
            · exact he
          obtain ⟨a1, j, a2, a3⟩ := h2 e hm
          exact ⟨a1, j, by omega, a3⟩
        · rw [List.mem_singleton] at he
          subst he
          exact ⟨hnew, i, by omega, _, rfl⟩
      · rw [List.length_append]
        split
        · rename_i hq
          simp only [beq_iff_eq] at hq
          have := cut_len (l := after8 s i) (by omega)
          simp only [List.length_singleton]
          split at h3 <;> split <;> omega
        · rename_i hq
          simp only [beq_iff_eq] at hq
          simp only [List.length_singleton]
          split at h3 <;> split <;> omega
    · subst hs
      have : after8 0 (i + 1) = after8 0 i := by
        rw [after8]
        unfold putR
        rw [if_pos (by rfl)]
      rw [this]
      refine ⟨fun e he => ?_, ?_⟩
      · obtain ⟨a1, j, a2, a3⟩ := h2 e he
        exact ⟨a1, j, by omega, a3⟩
      · split at h3 <;> split <;> omega

theorem f8_L6 (n : Nat) (k : X → St → Option R) (s0 s1 s : Int) (h0 : 0 ≤ s) (h1 : s ≤ 16) (c : Nat) (hc : c ≤ 63) (m : Nat) (hm : c < m) :
    evLoop false (f8_s6 n) m (f8_h6 s0 s1 c 0 s []) k = k (X.exit 0) (f8_x6_0 s0 s1 s (after8 s c)) :=
  fold_loop (xs := List.range c) (L := fun m i (_ : Unit) => evLoop false (f8_s6 n) m (f8_h6 s0 s1 c i s (after8 s i)) k) (f := fun _ _ => ()) (E := fun _ => k (X.exit 0) (f8_x6_0 s0 s1 s (after8 s c))) (fun _ _ => True)
    (fun m i _ x hx hlt _ => by
      show evLoop false (f8_s6 n) (m + 1) _ k = evLoop false (f8_s6 n) m _ k
      simp only [List.length_range] at hlt
      have hle : (after8 s i).length ≤ 1000000 := by
        have := (after8_inv h0 h1 i (by omega)).2
        split at this <;> omega
      rw [f8_t6]
      simp only [lt_nat, hlt, decide_true, bcond_t, u8_nat (i := i) (by omega), strOf_one]
      rw [bcond_of (by rw [Bool.and_eq_true, Nat.ble_eq]; exact ⟨hle, rfl⟩), wrap_ok (by omega) (by omega)]
      rfl)
    (fun _ _ _ _ _ _ => trivial)
    (fun m _ _ => by
      show evLoop false (f8_s6 n) (m + 1) _ k = _
      rw [f8_t6, List.length_range, lt_nat, bcond_no (by simp)])
    c 0 () m (by simp) (by omega) trivial
theorem clampN_rng (a : Int) : 0 ≤ clampN a ∧ clampN a ≤ 16 := by unfold clampN; split <;> split <;> (try split) <;> omega
theorem f8_out (n : Nat) (size a : Int) (hn : 64 ≤ n) : evFn tab FC nO false lv8 false n Try.f8 [.one (.c (.int .i64 size)), .one (.c (.int .i64 a))] [] = some (.one (.c (.bool true)), []) := by
  obtain ⟨c, hc⟩ := fin_of_mod a 64 (by decide)
  have hcl := clampN_rng size
  have hc2 := c.isLt
  rw [f8_eq, iand_63, show (64 : Int) = ((64 : Nat) : Int) from rfl, hc, f8_L6 n _ _ _ _ hcl.1 hcl.2 c.val (by omega) n (by omega), f8_a6_0]
  rw [bcond_of]
  · rfl
  · rw [(after8_inv hcl.1 hcl.2 c.val (by omega)).2, beq_iff_eq]
    show _ = if clampN size < (c.val : Int) then clampN size else (c.val : Int)
    split <;> split <;> omega
theorem law_CacheSizes : ∀ xs, All2 (ArgOk tab) [3, 3] xs → FnAt Try.prog tab 8 (List.zipWith (argV tab) [3, 3] xs) [] (.one (.c (.bool true))) [] := by
  intro xs h
  match xs, h with
  | [x, y], h =>
    obtain ⟨a, rfl⟩ := wk_int h.1.1
    obtain ⟨b, rfl⟩ := wk_int h.2.1.1
    exact fn8 sFC rfl (f8_out 64 a b (by omega))

end Go.Proofs.Ytacklcdhfoedlaa
