/- Kb -/
import Derived.Test.YtdcdccdhdingbaaKa
import Derived.KernelRfl
namespace Go.Proofs.Ytdcdccdhdingbaa
open Go Go.Eng
set_option maxRecDepth 100000
theorem b2i_lt (a b : Bool) : (b2i a < b2i b) = (a = false ∧ b = true) := by cases a <;> cases b <;> simp [b2i]
theorem b2i_eq (a b : Bool) : (b2i a = b2i b) = (a = b) := by cases a <;> cases b <;> simp [b2i]
theorem tail_lex {px py sx sy hx hy : Int} : (py < px ∨ py = px ∧ (-sy < -sx ∨ -sy = -sx ∧ (hy < hx ∨ hy = hx ∧ False))) ↔ tailR true px py sx sy hx hy = true := by
  unfold tailR
  simp only [and_false, or_false]
  by_cases h1 : px = py
  · subst h1
    rw [if_neg (by simp)]
    by_cases h2 : sx = sy
    · subst h2
      rw [if_neg (by simp), if_pos trivial, decide_eq_true_eq]
      constructor
      · intro h; omega
      · intro h; omega
    · rw [if_pos (by simp [h2]), decide_eq_true_eq]
      constructor
      · intro h; omega
      · intro h; omega
  · rw [if_pos (by simp [h1]), decide_eq_true_eq]
    constructor
    · intro h; omega
    · intro h; omega
theorem tail_lex0 {px py sx sy hx hy : Int} : (py < px ∨ py = px ∧ (-sy < -sx ∨ -sy = -sx ∧ ((0 : Int) < 0 ∨ (0 : Int) = 0 ∧ False))) ↔ tailR false px py sx sy hx hy = true := by
  unfold tailR
  simp only [and_false, or_false]
  by_cases h1 : px = py
  · subst h1
    rw [if_neg (by simp)]
    by_cases h2 : sx = sy
    · subst h2
      rw [if_neg (by simp)]
      simp
    · rw [if_pos (by simp [h2]), decide_eq_true_eq]
      constructor
      · intro h; omega
      · intro h; omega
  · rw [if_pos (by simp [h1]), decide_eq_true_eq]
    constructor
    · intro h; omega
    · intro h; omega
theorem key_ok {l : List (List C)} (hl : ∀ x ∈ l, L8 x) {z : List C} (hz : A8 z) : keyI l z = bif (srcR l z).2 then [1, b2i (scR (ad (srcR l z).1) == scR z), b2i (!dep (srcR l z).1), b2i (hom (srcR l z).1), b2i ((polR (ad (srcR l z).1)).2 == (polR z).2), (polR z).1, -scR z, shR (ad (srcR l z).1) z]
    else [0, 0, 0, 0, 0, (polR z).1, -scR z, 0] := by
  have hs := src_eq hl hz
  have h8 : L8 (srcR l z).1 := by rw [← hs]; exact srcN_L8 hl
  have hr := sc_rng hz
  have hw : IntKind.i64.wrap (0 - scN z) = -scR z := by rw [sc_eq hz, wrap_ok (by omega) (by omega)]; omega
  unfold keyI keyN keyO
  rw [hs, sc_eq h8.ad, sc_eq hz, (pol_eq h8.ad).2, (pol_eq hz).2, (pol_eq hz).1, shR_eq h8.ad hz, ← sc_eq hz, hw, sc_eq hz]
  cases (srcR l z).2 <;> rfl
/-- The greater key is that of the address that comes ahead. -/
theorem ahead_lex {l : List (List C)} (hl : ∀ x ∈ l, L8 x) {x y : List C} (hx : A8 x) (hy : A8 y) : lexI (keyI l y) (keyI l x) ↔ aheadR l x y = true := by
  rw [key_ok hl hx, key_ok hl hy]
  unfold aheadR
  generalize (scR (ad (srcR l x).1) == scR x) = mx
  generalize (scR (ad (srcR l y).1) == scR y) = my
  generalize dep (srcR l x).1 = dx
  generalize dep (srcR l y).1 = dy
  generalize hom (srcR l x).1 = hx'
  generalize hom (srcR l y).1 = hy'
  generalize ((polR (ad (srcR l x).1)).2 == (polR x).2) = lx
  generalize ((polR (ad (srcR l y).1)).2 == (polR y).2) = ly
  cases (srcR l x).2 <;> cases (srcR l y).2
  · rw [cond_false, cond_false, if_neg (by simp), if_neg (by simp), ← tail_lex0]
    simp only [lexI]
    simp
  · rw [cond_false, cond_true, if_pos (by rfl)]
    simp [lexI]
  · rw [cond_false, cond_true, if_pos (by rfl)]
    simp [lexI]
  · rw [cond_true, cond_true, if_neg (by simp), if_pos rfl]
    simp only [lexI, b2i_lt, b2i_eq]
    cases mx <;> cases my <;> first | (simp; done) | (
      cases dx <;> cases dy <;> first | (simp; done) | (
        cases hx' <;> cases hy' <;> first | (simp; done) | (
          cases lx <;> cases ly <;> first | (simp; done) | (
            rw [if_neg (by decide), if_neg (by decide), if_neg (by decide), if_neg (by decide), ← tail_lex]
            simp))))
noncomputable def FV : Fun := mkF [(9, e9), (11, e11), (16, e16)]
theorem sFV : FSound Try.prog tab FV := mkF_sound (fun p hp => by
  simp only [List.mem_cons, List.not_mem_nil, or_false] at hp
  rcases hp with rfl | rfl | rfl
  · exact es9
  · exact es11
  · exact es16)
noncomputable abbrev f7_c8 : Code := (loops (body Try.f7)).getD 0 .skip
noncomputable abbrev f7_s8 (n : Nat) : St → (X → St → Option R) → Option R := fun st k => evCode tab FV nO lv7 false n f7_c8 st k
noncomputable abbrev f7_k8 (n : Nat) : X → St → Option R := after tab FV nO lv7 false n (body Try.f7) 0 (endK tab false Try.f7)
abbrev f7_h8 (s0 : List (List C)) (s9 : Int) (s22 : Int) (b4 : List C) (b5 : List C) (b7 : List C) (b8 : List C) : St := { t := [((0 : Nat), V.one (A.c (C.sl (27 : Nat) s0))), ((4 : Nat), V.one (A.ptr (Key.loc (4 : Nat) (0 : Nat)) (0 : Nat) (0 : Nat))), ((5 : Nat), V.one (A.ptr (Key.loc (5 : Nat) (0 : Nat)) (0 : Nat) (0 : Nat))), ((7 : Nat), V.one (A.ptr (Key.loc (7 : Nat) (0 : Nat)) (0 : Nat) (0 : Nat))), ((8 : Nat), V.one (A.ptr (Key.loc (8 : Nat) (0 : Nat)) (0 : Nat) (0 : Nat))), ((9 : Nat), V.one (A.c (C.int IntKind.i64 s9))), ((22 : Nat), V.one (A.c (C.int IntKind.i64 s22)))], h := [(Key.loc (4 : Nat) (0 : Nat), (0 : Nat), B.box (24 : Nat) b4 []), (Key.loc (5 : Nat) (0 : Nat), (0 : Nat), B.box (24 : Nat) b5 []), (Key.loc (7 : Nat) (0 : Nat), (0 : Nat), B.box (30 : Nat) b7 []), (Key.loc (8 : Nat) (0 : Nat), (0 : Nat), B.box (30 : Nat) b8 [])] }
abbrev f7_x8_0 (s0 : List (List C)) (s9 : Int) (b4 : List C) (b5 : List C) (b7 : List C) (b8 : List C) : St := { t := [((0 : Nat), V.one (A.c (C.sl (27 : Nat) s0))), ((4 : Nat), V.one (A.ptr (Key.loc (4 : Nat) (0 : Nat)) (0 : Nat) (0 : Nat))), ((5 : Nat), V.one (A.ptr (Key.loc (5 : Nat) (0 : Nat)) (0 : Nat) (0 : Nat))), ((9 : Nat), V.one (A.c (C.int IntKind.i64 s9)))], h := [(Key.loc (4 : Nat) (0 : Nat), (0 : Nat), B.box (24 : Nat) b4 []), (Key.loc (5 : Nat) (0 : Nat), (0 : Nat), B.box (24 : Nat) b5 []), (Key.loc (7 : Nat) (0 : Nat), (0 : Nat), B.box (30 : Nat) b7 []), (Key.loc (8 : Nat) (0 : Nat), (0 : Nat), B.box (30 : Nat) b8 [])] }
theorem f7_t8 (n m : Nat) (k : X → St → Option R) (s0 : List (List C)) (s9 : Int) (s22 : Int) (b4 : List C) (b5 : List C) (b7 : List C) (b8 : List C) : evLoop false (f7_s8 n) (m + 1) (f7_h8 s0 s9 s22 b4 b5 b7 b8) k = bcond (decide (s22 < (8 : Int))) (bcond (s9 == (0 : Int)) (bcond (inB s22 (8 : Nat)) (bcond (inB s22 (8 : Nat)) (bcond ((cl b7 ((0 : Nat) + s22.toNat * (1 : Nat))).toI != (cl b8 ((0 : Nat) + s22.toNat * (1 : Nat))).toI) (bcond (inB s22 (8 : Nat)) (bcond (inB s22 (8 : Nat)) (bcond (decide ((cl b7 ((0 : Nat) + s22.toNat * (1 : Nat))).toI < (cl b8 ((0 : Nat) + s22.toNat * (1 : Nat))).toI)) (evLoop false (f7_s8 n) m (f7_h8 (s0) ((-1 : Int)) (IntKind.i64.wrap (s22 + (1 : Int))) (b4) (b5) (b7) (b8)) k) (evLoop false (f7_s8 n) m (f7_h8 (s0) ((1 : Int)) (IntKind.i64.wrap (s22 + (1 : Int))) (b4) (b5) (b7) (b8)) k)) (none)) (none)) (evLoop false (f7_s8 n) m (f7_h8 (s0) (s9) (IntKind.i64.wrap (s22 + (1 : Int))) (b4) (b5) (b7) (b8)) k)) (none)) (none)) (evLoop false (f7_s8 n) m (f7_h8 (s0) (s9) (IntKind.i64.wrap (s22 + (1 : Int))) (b4) (b5) (b7) (b8)) k)) (k (X.exit 0) (f7_x8_0 (s0) (s9) (b4) (b5) (b7) (b8))) := by kernel_rfl
theorem f7_a8_0 (n : Nat) (s0 : List (List C)) (s9 : Int) (b4 : List C) (b5 : List C) (b7 : List C) (b8 : List C) : f7_k8 n (X.exit 0) (f7_x8_0 s0 s9 b4 b5 b7 b8) = bcond (s0.length.ble (1000000 : Nat)) (bcond (decide (s9 > (0 : Int)) == aheadR s0 b4 b5) (bcond (s0.length.ble (1000000 : Nat)) (some ((V.one (A.c (C.bool (decide (s9 < (0 : Int)) == aheadR s0 b5 b4))), []))) (none)) (some ((V.one (A.c (C.bool false)), [])))) (none) := by kernel_rfl
theorem f7_eq (n : Nat) (l : List (List C)) (x : List C) (y : List C) : evFn tab FV nO false lv7 false n Try.f7 [.one (.c (.sl 27 l)), .agg 24 x [], .agg 24 y []] [] = bcond (decide ((↑l.length : Int) > (20 : Int))) (some ((V.one (A.c (C.bool true)), []))) (bcond (l.length.ble (1000000 : Nat)) (bcond (l.length.ble (1000000 : Nat)) (evLoop false (f7_s8 n) n (f7_h8 (l) ((0 : Int)) ((0 : Int)) (x) (y) ([C.int IntKind.i64 (keyN l x (0 : Nat)), C.int IntKind.i64 (keyN l x (1 : Nat)), C.int IntKind.i64 (keyN l x (2 : Nat)), C.int IntKind.i64 (keyN l x (3 : Nat)), C.int IntKind.i64 (keyN l x (4 : Nat)), C.int IntKind.i64 (keyN l x (5 : Nat)), C.int IntKind.i64 (keyN l x (6 : Nat)), C.int IntKind.i64 (keyN l x (7 : Nat))]) ([C.int IntKind.i64 (keyN l y (0 : Nat)), C.int IntKind.i64 (keyN l y (1 : Nat)), C.int IntKind.i64 (keyN l y (2 : Nat)), C.int IntKind.i64 (keyN l y (3 : Nat)), C.int IntKind.i64 (keyN l y (4 : Nat)), C.int IntKind.i64 (keyN l y (5 : Nat)), C.int IntKind.i64 (keyN l y (6 : Nat)), C.int IntKind.i64 (keyN l y (7 : Nat))])) (f7_k8 n)) (none)) (none)) := by kernel_rfl


def cmpS (c : Int) (p : C × C) : Int := if c = 0 then (if p.1.toI ≠ p.2.toI then (if p.1.toI < p.2.toI then -1 else 1) else 0) else c
theorem cmpS_lex : ∀ (zs : List (C × C)) (c : Int), (zs.foldl cmpS c > 0 ↔ c > 0 ∨ (c = 0 ∧ lexI (zs.map fun p => p.2.toI) (zs.map fun p => p.1.toI))) ∧ (zs.foldl cmpS c < 0 ↔ c < 0 ∨ (c = 0 ∧ lexI (zs.map fun p => p.1.toI) (zs.map fun p => p.2.toI)))
  | [], c => by simp [lexI]
  | (a, b) :: zs, c => by
    obtain ⟨h1, h2⟩ := cmpS_lex zs (cmpS c (a, b))
    rw [List.foldl_cons]
    refine ⟨h1.trans ?_, h2.trans ?_⟩
    · unfold cmpS
      simp only [List.map_cons, lexI]
      by_cases hc : c = 0
      · rw [if_pos hc]
        by_cases hab : a.toI = b.toI
        · rw [if_neg (by simpa using hab), hab]
          constructor
          · rintro (h | ⟨_, h⟩)
            · omega
            · exact .inr ⟨hc, .inr ⟨rfl, h⟩⟩
          · rintro (h | ⟨_, h | ⟨_, h⟩⟩)
            · omega
            · omega
            · exact .inr ⟨rfl, h⟩
        · rw [if_pos hab]
          by_cases hl : a.toI < b.toI
          · rw [if_pos hl]
            constructor
            · rintro (h | ⟨h, _⟩) <;> omega
            · rintro (h | ⟨_, h | ⟨h, _⟩⟩) <;> omega
          · rw [if_neg hl]
            exact ⟨fun _ => .inr ⟨hc, .inl (by omega)⟩, fun _ => .inl (by omega)⟩
      · rw [if_neg hc]
        constructor
        · rintro (h | ⟨h, _⟩)
          · exact .inl h
          · exact absurd h hc
        · rintro (h | ⟨h, _⟩)
          · exact .inl h
          · exact absurd h hc
    · unfold cmpS
      simp only [List.map_cons, lexI]
      by_cases hc : c = 0
      · rw [if_pos hc]
        by_cases hab : a.toI = b.toI
        · rw [if_neg (by simpa using hab), hab]
          constructor
          · rintro (h | ⟨_, h⟩)
            · omega
            · exact .inr ⟨hc, .inr ⟨rfl, h⟩⟩
          · rintro (h | ⟨_, h | ⟨_, h⟩⟩)
            · omega
            · omega
            · exact .inr ⟨rfl, h⟩
        · rw [if_pos hab]
          by_cases hl : a.toI < b.toI
          · rw [if_pos hl]
            exact ⟨fun _ => .inr ⟨hc, .inl hl⟩, fun _ => .inl (by omega)⟩
          · rw [if_neg hl]
            constructor
            · rintro (h | ⟨h, _⟩) <;> omega
            · rintro (h | ⟨_, h | ⟨h, _⟩⟩) <;> omega
      · rw [if_neg hc]
        constructor
        · rintro (h | ⟨h, _⟩)
          · exact .inl h
          · exact absurd h hc
        · rintro (h | ⟨h, _⟩)
          · exact .inl h
          · exact absurd h hc
theorem f7_out (n : Nat) (hn : 100 < n) (l : List (List C)) (hl : ∀ x ∈ l, L8 x) (x y : List C) (hx : A8 x) (hy : A8 y) : evFn tab FV nO false lv7 false n Try.f7 [.one (.c (.sl 27 l)), .agg 24 x [], .agg 24 y []] [] = some (.one (.c (.bool true)), []) := by
  rw [f7_eq]
  cases h1 : decide ((l.length : Int) > 20) with
  | true => rfl
  | false =>
    rw [decide_eq_false_iff_not] at h1
    have hb : Nat.ble l.length 1000000 = true := by rw [Nat.ble_eq]; omega
    rw [bcond_f, hb, bcond_t, bcond_t]
    have hz : ((keyC l x).zip (keyC l y)).length = 8 := rfl
    have A := fold_loop (xs := (keyC l x).zip (keyC l y)) (L := fun m i (c : Int) => evLoop false (f7_s8 n) m (f7_h8 l c i x y (keyC l x) (keyC l y)) (f7_k8 n)) (f := cmpS) (E := fun c => f7_k8 n (.exit 0) (f7_x8_0 l c x y (keyC l x) (keyC l y))) (fun _ _ => True)
      (fun m i c p hp hlt _ => by
        show evLoop false (f7_s8 n) (m + 1) _ _ = evLoop false (f7_s8 n) m _ _
        rw [hz] at hlt
        obtain ⟨u, v⟩ := p
        rw [List.getElem?_zip_eq_some] at hp
        have e1 : cl (keyC l x) i = u := by unfold cl; rw [List.getD_eq_getElem?_getD, hp.1]; rfl
        have e2 : cl (keyC l y) i = v := by unfold cl; rw [List.getD_eq_getElem?_getD, hp.2]; rfl
        have hin : inB (i : Int) 8 = true := by rw [inB_nat]; simpa using hlt
        rw [f7_t8, bcond_of (b := decide ((i : Int) < 8)) (by simp; omega), hin]
        simp only [Int.toNat_natCast, Nat.zero_add, Nat.mul_one, e1, e2, wrap_succ (i := i) (by omega), bcond_t]
        unfold cmpS
        by_cases hc : c = 0
        · rw [if_pos hc, bcond_of (by simpa using hc)]
          by_cases hab : u.toI = v.toI
          · rw [if_neg (by simpa using hab), bcond_no (by simpa using hab), hc]
          · rw [if_pos hab, bcond_of (by simpa using hab)]
            by_cases hlt : u.toI < v.toI
            · rw [if_pos hlt, bcond_of (by simpa using hlt)]
            · rw [if_neg hlt, bcond_no (by simpa using hlt)]
        · rw [if_neg hc, bcond_no (by simpa using hc)])
      (fun _ _ _ _ _ _ => trivial)
      (fun m c _ => by
        show evLoop false (f7_s8 n) (m + 1) _ _ = _
        rw [f7_t8, hz, bcond_no (by simp)])
      8 0 0 n (by rw [hz]) (by omega) trivial
    refine A.trans ?_
    rw [f7_a8_0, hb, bcond_t, bcond_t, List.drop_zero]
    obtain ⟨c1, c2⟩ := cmpS_lex ((keyC l x).zip (keyC l y)) 0
    have k1 : ((keyC l x).zip (keyC l y)).map (fun p => p.1.toI) = keyI l x := rfl
    have k2 : ((keyC l x).zip (keyC l y)).map (fun p => p.2.toI) = keyI l y := rfl
    rw [k1, k2] at c1 c2
    have d1 : decide (((keyC l x).zip (keyC l y)).foldl cmpS 0 > 0) = aheadR l x y := by
      rw [Bool.eq_iff_iff, decide_eq_true_eq, c1, ← ahead_lex hl hx hy]
      simp
    have d2 : decide (((keyC l x).zip (keyC l y)).foldl cmpS 0 < 0) = aheadR l y x := by
      rw [Bool.eq_iff_iff, decide_eq_true_eq, c2, ← ahead_lex hl hy hx]
      simp
    rw [d1, d2, bcond_of (by simp)]
    simp
theorem law_RankKeys : ∀ xs, All2 (ArgOk tab) [22, 24, 24] xs → FnAt Try.prog tab 7 (List.zipWith (argV tab) [22, 24, 24] xs) [] (.one (.c (.bool true))) [] := by
  intro xs h
  match xs, h with
  | [x, y, z], h =>
    obtain ⟨l, rfl⟩ := wk_sl h.1.1
    exact fn7 sFV rfl (f7_out 101 (by omega) l (locs_ok (h.1.2 (.sl 27 l) (by simp))) y z (a8_of h.2.1.1 h.2.1.2) (a8_of h.2.2.1.1 h.2.2.1.2))

end Go.Proofs.Ytdcdccdhdingbaa
