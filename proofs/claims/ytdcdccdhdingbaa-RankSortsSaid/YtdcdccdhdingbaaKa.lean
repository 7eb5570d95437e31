/- Ka -/
import Derived.Test.YtdcdccdhdingbaaWd
import Derived.KernelRfl
namespace Go.Proofs.Ytdcdccdhdingbaa
open Go Go.Eng
set_option maxRecDepth 100000
def FS : Fun := mkF [(17, e17), (18, e18), (28, e28), (29, e29)]
theorem sFS : FSound Try.prog tab FS := mkF_sound (fun p hp => by
  simp only [List.mem_cons, List.not_mem_nil, or_false] at hp
  rcases hp with rfl | rfl | rfl | rfl
  · exact es17
  · exact es18
  · exact es28
  · exact es29)
theorem f32_eq (n : Nat) (x : List C) (y : List C) (z : List C) : evFn tab FS nO false lv32 false n Try.f32 [.agg 27 x [], .agg 27 y [], .agg 24 z []] [] = bcond (!eqL (sub x (0 : Nat) (16 : Nat)) z == eqL (sub y (0 : Nat) (16 : Nat)) z) (some ((V.one (A.c (C.bool (eqL (sub x (0 : Nat) (16 : Nat)) z))), []))) (bcond (decide (scR (sub x (0 : Nat) (16 : Nat)) < scR (sub y (0 : Nat) (16 : Nat)))) (some ((V.one (A.c (C.bool (decide (scR (sub x (0 : Nat) (16 : Nat)) ≥ scR z)))), []))) (bcond (decide (scR (sub x (0 : Nat) (16 : Nat)) > scR (sub y (0 : Nat) (16 : Nat)))) (some ((V.one (A.c (C.bool (decide (scR (sub y (0 : Nat) (16 : Nat)) < scR z)))), []))) (bcond (!(cl x (16 : Nat)).toB == (cl y (16 : Nat)).toB) (some ((V.one (A.c (C.bool (cl y (16 : Nat)).toB)), []))) (bcond (!(cl x (17 : Nat)).toB == (cl y (17 : Nat)).toB) (some ((V.one (A.c (C.bool (cl x (17 : Nat)).toB)), []))) (bcond (!((polR (sub x (0 : Nat) (16 : Nat))).snd == (polR z).snd) == ((polR (sub y (0 : Nat) (16 : Nat))).snd == (polR z).snd)) (some ((V.one (A.c (C.bool ((polR (sub x (0 : Nat) (16 : Nat))).snd == (polR z).snd))), []))) (some ((V.one (A.c (C.bool (decide (shR (sub x (0 : Nat) (16 : Nat)) z > shR (sub y (0 : Nat) (16 : Nat)) z)))), [])))))))) := by kernel_rfl

@[irreducible] def betR (x y z : List C) : Bool :=
  if (!(eqL (ad x) z == eqL (ad y) z)) = true then eqL (ad x) z
  else if decide (scR (ad x) < scR (ad y)) = true then decide (scR (ad x) ≥ scR z)
  else if decide (scR (ad x) > scR (ad y)) = true then decide (scR (ad y) < scR z)
  else if (!(dep x == dep y)) = true then dep y
  else if (!(hom x == hom y)) = true then hom x
  else if (!(((polR (ad x)).2 == (polR z).2) == ((polR (ad y)).2 == (polR z).2))) = true then (polR (ad x)).2 == (polR z).2
  else decide (shR (ad x) z > shR (ad y) z)
theorem bcond_rb (b x y : Bool) : bcond b (some ((.one (.c (.bool x)), []) : R)) (some (.one (.c (.bool y)), [])) = some (.one (.c (.bool (if b = true then x else y))), []) := by cases b <;> rfl
theorem f32_out (n : Nat) (x y z : List C) : evFn tab FS nO false lv32 false n Try.f32 [.agg 27 x [], .agg 27 y [], .agg 24 z []] [] = some (.one (.c (.bool (betR x y z))), []) := by
  rw [f32_eq]
  simp only [bcond_rb]
  unfold betR
  rfl
def e32 : En
  | [.agg 27 x [], .agg 27 y [], .agg 24 z []], [], k => k (.one (.c (.bool (betR x y z)))) []
  | _, _, _ => none
theorem es32 : ES Try.prog tab 32 e32 := by
  intro args h k x hh
  unfold e32 at hh
  split at hh
  · exact ⟨_, _, hh, fn32 sFS rfl (f32_out 0 _ _ _)⟩
  · cases hh
def FT : Fun := mkF [(29, e29), (32, e32)]
theorem sFT : FSound Try.prog tab FT := mkF_sound (fun p hp => by
  simp only [List.mem_cons, List.not_mem_nil, or_false] at hp
  rcases hp with rfl | rfl
  · exact es29
  · exact es32)
noncomputable abbrev f27_c3 : Code := (loops (body Try.f27)).getD 0 .skip
noncomputable abbrev f27_s3 (n : Nat) : St → (X → St → Option R) → Option R := fun st k => evCode tab FT nO lv27 false n f27_c3 st k
noncomputable abbrev f27_k3 (n : Nat) : X → St → Option R := after tab FT nO lv27 false n (body Try.f27) 0 (endK tab false Try.f27)
abbrev f27_h3 (s0 : List (List C)) (s6 : Int) (s7 : Int) (b3 : List C) (b4 : List C) : St := { t := [((0 : Nat), V.one (A.c (C.sl (27 : Nat) s0))), ((3 : Nat), V.one (A.ptr (Key.loc (3 : Nat) (0 : Nat)) (0 : Nat) (0 : Nat))), ((4 : Nat), V.one (A.ptr (Key.loc (4 : Nat) (0 : Nat)) (0 : Nat) (0 : Nat))), ((6 : Nat), V.one (A.c (C.int IntKind.i64 s6))), ((7 : Nat), V.one (A.c (C.int IntKind.i64 s7)))], h := [(Key.loc (3 : Nat) (0 : Nat), (0 : Nat), B.box (24 : Nat) b3 []), (Key.loc (4 : Nat) (0 : Nat), (0 : Nat), B.box (27 : Nat) b4 [])] }
abbrev f27_x3_0 (s0 : List (List C)) (s6 : Int) (b3 : List C) (b4 : List C) : St := { t := [((0 : Nat), V.one (A.c (C.sl (27 : Nat) s0))), ((4 : Nat), V.one (A.ptr (Key.loc (4 : Nat) (0 : Nat)) (0 : Nat) (0 : Nat))), ((6 : Nat), V.one (A.c (C.int IntKind.i64 s6)))], h := [(Key.loc (3 : Nat) (0 : Nat), (0 : Nat), B.box (24 : Nat) b3 []), (Key.loc (4 : Nat) (0 : Nat), (0 : Nat), B.box (27 : Nat) b4 [])] }
theorem f27_t3 (n m : Nat) (k : X → St → Option R) (s0 : List (List C)) (s6 : Int) (s7 : Int) (b3 : List C) (b4 : List C) : evLoop false (f27_s3 n) (m + 1) (f27_h3 s0 s6 s7 b3 b4) k = bcond (decide (s7 < (↑s0.length : Int))) (bcond (inB s7 s0.length) (bcond (!fourR (sub (el s0 s7.toNat) (0 : Nat) (16 : Nat)) == fourR b3) (evLoop false (f27_s3 n) m (f27_h3 (s0) (s6) (IntKind.i64.wrap (s7 + (1 : Int))) (b3) (b4)) k) (bcond (decide (s6 < (0 : Int))) (evLoop false (f27_s3 n) m (f27_h3 (s0) (s7) (IntKind.i64.wrap (s7 + (1 : Int))) (b3) (b4)) k) (bcond (inB s7 s0.length) (bcond (inB s6 s0.length) (bcond (betR (el s0 s7.toNat) (el s0 s6.toNat) b3) (evLoop false (f27_s3 n) m (f27_h3 (s0) (s7) (IntKind.i64.wrap (s7 + (1 : Int))) (b3) (b4)) k) (evLoop false (f27_s3 n) m (f27_h3 (s0) (s6) (IntKind.i64.wrap (s7 + (1 : Int))) (b3) (b4)) k)) (none)) (none)))) (none)) (k (X.exit 0) (f27_x3_0 (s0) (s6) (b3) (b4))) := by kernel_rfl
theorem f27_a3_0 (n : Nat) (s0 : List (List C)) (s6 : Int) (b3 : List C) (b4 : List C) : f27_k3 n (X.exit 0) (f27_x3_0 s0 s6 b3 b4) = bcond (decide (s6 < (0 : Int))) (some ((V.tup [V.agg (27 : Nat) [C.int IntKind.u8 (0 : Int), C.int IntKind.u8 (0 : Int), C.int IntKind.u8 (0 : Int), C.int IntKind.u8 (0 : Int), C.int IntKind.u8 (0 : Int), C.int IntKind.u8 (0 : Int), C.int IntKind.u8 (0 : Int), C.int IntKind.u8 (0 : Int), C.int IntKind.u8 (0 : Int), C.int IntKind.u8 (0 : Int), C.int IntKind.u8 (0 : Int), C.int IntKind.u8 (0 : Int), C.int IntKind.u8 (0 : Int), C.int IntKind.u8 (0 : Int), C.int IntKind.u8 (0 : Int), C.int IntKind.u8 (0 : Int), C.bool false, C.bool false] [], V.one (A.c (C.bool false))], []))) (bcond (inB s6 s0.length) (some ((V.tup [V.agg (27 : Nat) (el s0 s6.toNat) [], V.one (A.c (C.bool true))], []))) (none)) := by kernel_rfl
theorem f27_eq (n : Nat) (l : List (List C)) (z : List C) : evFn tab FT nO false lv27 false n Try.f27 [.one (.c (.sl 27 l)), .agg 24 z []] [] = evLoop false (f27_s3 n) n (f27_h3 (l) ((-1 : Int)) ((0 : Int)) (z) ([C.int IntKind.u8 (0 : Int), C.int IntKind.u8 (0 : Int), C.int IntKind.u8 (0 : Int), C.int IntKind.u8 (0 : Int), C.int IntKind.u8 (0 : Int), C.int IntKind.u8 (0 : Int), C.int IntKind.u8 (0 : Int), C.int IntKind.u8 (0 : Int), C.int IntKind.u8 (0 : Int), C.int IntKind.u8 (0 : Int), C.int IntKind.u8 (0 : Int), C.int IntKind.u8 (0 : Int), C.int IntKind.u8 (0 : Int), C.int IntKind.u8 (0 : Int), C.int IntKind.u8 (0 : Int), C.int IntKind.u8 (0 : Int), C.bool false, C.bool false])) (f27_k3 n) := by kernel_rfl


def stpR (l : List (List C)) (z : List C) (o : Option Nat) (p : List C × Nat) : Option Nat :=
  bif fourR (ad p.1) == fourR z then (match o with | none => some p.2 | some j => bif betR p.1 (el l j) z then some p.2 else o) else o
def atR : Option Nat → Int | none => -1 | some j => (j : Int)
def valR (l : List (List C)) : Option Nat → List C × Bool | none => (loc0, false) | some j => (el l j, true)
@[irreducible] def srcR (l : List (List C)) (z : List C) : List C × Bool := valR l (l.zipIdx.foldl (stpR l z) none)
theorem f27_out (n : Nat) (hn : 1000000 < n) (l : List (List C)) (hl : l.length ≤ 1000000) (z : List C) : evFn tab FT nO false lv27 false n Try.f27 [.one (.c (.sl 27 l)), .agg 24 z []] [] = some (.tup [.agg 27 (srcR l z).1 [], .one (.c (.bool (srcR l z).2))], []) := by
  rw [f27_eq]
  have hz : l.zipIdx.length = l.length := List.length_zipIdx
  have hin : ∀ (ps : List (List C × Nat)) (o : Option Nat), (∀ p ∈ ps, p.2 < l.length) → (∀ j, o = some j → j < l.length) → ∀ j, ps.foldl (stpR l z) o = some j → j < l.length := by
    intro ps
    induction ps with
    | nil => intro o _ h; exact h
    | cons p ps ih =>
      intro o h1 h2
      rw [List.foldl_cons]
      refine ih _ (fun q hq => h1 q (List.mem_cons_of_mem _ hq)) fun j hj => ?_
      have hp := h1 p (List.mem_cons_self ..)
      unfold stpR at hj
      cases hc : fourR (ad p.1) == fourR z with
      | false => rw [hc] at hj; exact h2 j hj
      | true =>
        rw [hc] at hj
        cases o with
        | none => cases hj; exact hp
        | some i =>
          simp only [cond_true] at hj
          cases hb : betR p.1 (el l i) z with
          | true => rw [hb] at hj; cases hj; exact hp
          | false => rw [hb] at hj; exact h2 j hj
  have h := fold_loop (xs := l.zipIdx) (L := fun m i (o : Option Nat) => evLoop false (f27_s3 n) m (f27_h3 l (atR o) i z loc0) (f27_k3 n)) (f := stpR l z) (E := fun o => f27_k3 n (.exit 0) (f27_x3_0 l (atR o) z loc0)) (fun _ o => ∀ j, o = some j → j < l.length)
    (fun m i o p hx hlt hI => by
      show evLoop false (f27_s3 n) (m + 1) _ _ = evLoop false (f27_s3 n) m _ _
      rw [hz] at hlt
      have hx2 : l[i]? = some l[i] := List.getElem?_eq_getElem hlt
      rw [List.getElem?_zipIdx, hx2] at hx
      simp only [Option.map_some, Option.some.injEq, Nat.zero_add] at hx
      subst hx
      rw [f27_t3]
      simp only [lt_nat, inB_nat, Int.toNat_natCast, el_get hx2, wrap_succ (i := i) (by omega), hlt, decide_true, bcond_t]
      unfold stpR ad
      cases hc : fourR (sub l[i] 0 16) == fourR z with
      | false => rfl
      | true =>
        rw [show (!true) = false from rfl, bcond_f]
        cases o with
        | none =>
          rw [bcond_of (b := decide (atR none < 0)) rfl]
          rfl
        | some j =>
          have hj := hI j rfl
          rw [bcond_no (b := decide (atR (some j) < 0)) (by rw [decide_eq_false_iff_not]; show ¬ ((j : Int) < 0); omega), bcond_of (b := inB (atR (some j)) _) (by show inB (j : Int) _ = true; rw [inB_nat]; simpa using hj)]
          show bcond (betR l[i] (el l ((j : Int).toNat)) z) _ _ = _
          rw [Int.toNat_natCast]
          simp only [cond_true]
          cases betR l[i] (el l j) z <;> rfl)
    (fun i o p hx hlt hI => by
      have hp : p.2 < l.length := by
        have := List.mem_zipIdx (List.mem_of_getElem? hx)
        omega
      intro j hj
      exact hin [p] o (fun q hq => by rw [List.mem_singleton.1 hq]; exact hp) hI j hj)
    (fun m o _ => by
      show evLoop false (f27_s3 n) (m + 1) _ _ = _
      rw [f27_t3, hz, lt_nat, bcond_no (by simp)])
    l.length 0 none n (by omega) (by omega) (fun j h => by cases h)
  refine h.trans ?_
  have hfin := hin l.zipIdx none (fun p hp => by have := List.mem_zipIdx hp; omega) (fun j h => by cases h)
  rw [f27_a3_0, List.drop_zero]
  unfold srcR
  cases hf : l.zipIdx.foldl (stpR l z) none with
  | none => rfl
  | some j =>
    have hj := hfin j hf
    rw [bcond_no (b := decide (atR (some j) < 0)) (by rw [decide_eq_false_iff_not]; show ¬ ((j : Int) < 0); omega), bcond_of (b := inB (atR (some j)) _) (by show inB (j : Int) _ = true; rw [inB_nat]; simpa using hj)]
    rfl
def e27 : En
  | [.one (.c (.sl 27 l)), .agg 24 z []], [], k => bcond (Nat.ble l.length 1000000) (k (.tup [.agg 27 (srcR l z).1 [], .one (.c (.bool (srcR l z).2))]) []) none
  | _, _, _ => none
theorem es27 : ES Try.prog tab 27 e27 := by
  intro args h k x hh
  unfold e27 at hh
  split at hh
  · rename_i l z
    cases hb : Nat.ble l.length 1000000 with
    | false => rw [hb, bcond_f] at hh; cases hh
    | true =>
      rw [hb, bcond_t] at hh
      exact ⟨_, _, hh, fn27 sFT rfl (f27_out 1000001 (by omega) l (by simpa using hb) z)⟩
  · cases hh
def FU : Fun := mkF [(17, e17), (18, e18), (27, e27), (28, e28)]
theorem sFU : FSound Try.prog tab FU := mkF_sound (fun p hp => by
  simp only [List.mem_cons, List.not_mem_nil, or_false] at hp
  rcases hp with rfl | rfl | rfl | rfl
  · exact es17
  · exact es18
  · exact es27
  · exact es28)
theorem f16_eq (n : Nat) (l : List (List C)) (x : List C) (y : List C) : evFn tab FU nO false lv16 false n Try.f16 [.one (.c (.sl 27 l)), .agg 24 x [], .agg 24 y []] [] = bcond (l.length.ble (1000000 : Nat)) (bcond (l.length.ble (1000000 : Nat)) (bcond (!(srcR l x).snd == (srcR l y).snd) (some ((V.one (A.c (C.bool (srcR l x).snd)), []))) (bcond ((srcR l x).snd) (bcond (!(scR (sub (srcR l x).fst (0 : Nat) (16 : Nat)) == scR x) == (scR (sub (srcR l y).fst (0 : Nat) (16 : Nat)) == scR y)) (some ((V.one (A.c (C.bool (scR (sub (srcR l x).fst (0 : Nat) (16 : Nat)) == scR x))), []))) (bcond (!(cl (srcR l x).fst (16 : Nat)).toB == (cl (srcR l y).fst (16 : Nat)).toB) (some ((V.one (A.c (C.bool (cl (srcR l y).fst (16 : Nat)).toB)), []))) (bcond (!(cl (srcR l x).fst (17 : Nat)).toB == (cl (srcR l y).fst (17 : Nat)).toB) (some ((V.one (A.c (C.bool (cl (srcR l x).fst (17 : Nat)).toB)), []))) (bcond (!((polR (sub (srcR l x).fst (0 : Nat) (16 : Nat))).snd == (polR x).snd) == ((polR (sub (srcR l y).fst (0 : Nat) (16 : Nat))).snd == (polR y).snd)) (some ((V.one (A.c (C.bool ((polR (sub (srcR l x).fst (0 : Nat) (16 : Nat))).snd == (polR x).snd))), []))) (bcond ((polR x).fst != (polR y).fst) (some ((V.one (A.c (C.bool (decide ((polR x).fst > (polR y).fst)))), []))) (bcond (scR x != scR y) (some ((V.one (A.c (C.bool (decide (scR x < scR y)))), []))) (bcond ((srcR l x).snd) (some ((V.one (A.c (C.bool (decide (shR (sub (srcR l x).fst (0 : Nat) (16 : Nat)) x > shR (sub (srcR l y).fst (0 : Nat) (16 : Nat)) y)))), []))) (some ((V.one (A.c (C.bool false)), [])))))))))) (bcond ((polR x).fst != (polR y).fst) (some ((V.one (A.c (C.bool (decide ((polR x).fst > (polR y).fst)))), []))) (bcond (scR x != scR y) (some ((V.one (A.c (C.bool (decide (scR x < scR y)))), []))) (bcond ((srcR l x).snd) (some ((V.one (A.c (C.bool (decide (shR (sub (srcR l x).fst (0 : Nat) (16 : Nat)) x > shR (sub (srcR l y).fst (0 : Nat) (16 : Nat)) y)))), []))) (some ((V.one (A.c (C.bool false)), [])))))))) (none)) (none) := by kernel_rfl

def tailR (ox : Bool) (px py sx sy hx hy : Int) : Bool := if (px != py) = true then decide (px > py) else if (sx != sy) = true then decide (sx < sy) else if ox = true then decide (hx > hy) else false
@[irreducible] def aheadR (l : List (List C)) (x y : List C) : Bool :=
  if (!((srcR l x).2 == (srcR l y).2)) = true then (srcR l x).2
  else if (srcR l x).2 = true then
    if (!((scR (ad (srcR l x).1) == scR x) == (scR (ad (srcR l y).1) == scR y))) = true then scR (ad (srcR l x).1) == scR x
    else if (!(dep (srcR l x).1 == dep (srcR l y).1)) = true then dep (srcR l y).1
    else if (!(hom (srcR l x).1 == hom (srcR l y).1)) = true then hom (srcR l x).1
    else if (!(((polR (ad (srcR l x).1)).2 == (polR x).2) == ((polR (ad (srcR l y).1)).2 == (polR y).2))) = true then (polR (ad (srcR l x).1)).2 == (polR x).2
    else tailR (srcR l x).2 (polR x).1 (polR y).1 (scR x) (scR y) (shR (ad (srcR l x).1) x) (shR (ad (srcR l y).1) y)
  else tailR (srcR l x).2 (polR x).1 (polR y).1 (scR x) (scR y) (shR (ad (srcR l x).1) x) (shR (ad (srcR l y).1) y)
theorem f16_out (n : Nat) (l : List (List C)) (hl : l.length ≤ 1000000) (x y : List C) : evFn tab FU nO false lv16 false n Try.f16 [.one (.c (.sl 27 l)), .agg 24 x [], .agg 24 y []] [] = some (.one (.c (.bool (aheadR l x y))), []) := by
  rw [f16_eq, bcond_of (by simpa using hl), bcond_of (by simpa using hl)]
  simp only [bcond_rb]
  unfold aheadR tailR
  rfl
def e16 : En
  | [.one (.c (.sl 27 l)), .agg 24 x [], .agg 24 y []], [], k => bcond (Nat.ble l.length 1000000) (k (.one (.c (.bool (aheadR l x y)))) []) none
  | _, _, _ => none
theorem es16 : ES Try.prog tab 16 e16 := by
  intro args h k x hh
  unfold e16 at hh
  split at hh
  · rename_i l x y
    cases hb : Nat.ble l.length 1000000 with
    | false => rw [hb, bcond_f] at hh; cases hh
    | true =>
      rw [hb, bcond_t] at hh
      exact ⟨_, _, hh, fn16 sFU rfl (f16_out 0 l (by simpa using hb) x y)⟩
  · cases hh
/-! ### Program and reference agree -/
theorem sc_rng {x : List C} (h : A8 x) : 0 ≤ scR x ∧ scR x ≤ 15 := by
  obtain ⟨l, h1, h2, rfl⟩ := h
  have hb : l.getD 1 0 < 256 := (by8_u16 h2 (i := 1) (by omega)).2
  have e1 : (cl (u16 l) 1).toI = ((l.getD 1 0 : Nat) : Int) := (by8_u16 h2 (i := 1) (by omega)).1
  unfold scR
  rw [e1, wrap_ok (by omega) (by omega), Int.tmod_eq_emod_of_nonneg (by omega)]
  split
  · omega
  · split
    · omega
    · split
      · omega
      · split
        · omega
        · split <;> omega
theorem sh_rng (x y : List C) : 0 ≤ shR x y ∧ shR x y ≤ 128 := by
  unfold shR
  cases h : srch (bdif x y) 128 0 with
  | some t =>
    have := srch_rng h
    simp only
    omega
  | none => simp only; omega
theorem b2i_beq {a b : Int} : (b2i (a == b)) = if a = b then 1 else 0 := by unfold b2i; simp
theorem bet_eq {x y z : List C} (hx : L8 x) (hy : L8 y) (hz : A8 z) : decide (betN x y z > 0) = betR x y z := by
  have rx := sc_rng hx.ad
  have ry := sc_rng hy.ad
  have rz := sc_rng hz
  have s1 := sh_rng (ad x) z
  have s2 := sh_rng (ad y) z
  unfold betN betR
  rw [sc_eq hx.ad, sc_eq hy.ad, sc_eq hz, (pol_eq hx.ad).2, (pol_eq hy.ad).2, (pol_eq hz).2, shR_eq hx.ad hz, shR_eq hy.ad hz, wrap_ok (a := shR (ad x) z - shR (ad y) z) (by omega) (by omega)]
  simp only [dif2_zero]
  generalize eqL (ad x) z = e1
  generalize eqL (ad y) z = e2
  generalize ((polR (ad x)).2 == (polR z).2) = p1
  generalize ((polR (ad y)).2 == (polR z).2) = p2
  generalize dep x = d1
  generalize dep y = d2
  generalize hom x = h1
  generalize hom y = h2
  generalize scR (ad x) = sx at *
  generalize scR (ad y) = sy at *
  generalize scR z = sz at *
  generalize shR (ad x) z = u at *
  generalize shR (ad y) z = v at *
  cases hE : !(e1 == e2) with
  | true => cases e1 <;> cases e2 <;> first | rfl | cases hE
  | false =>
    rw [cond_false, if_neg (by simp)]
    rcases Int.lt_trichotomy sx sy with hc | hc | hc
    · rw [if_pos (by simpa using hc), show (sx != sy) = true from by simp; omega, cond_true, decide_eq_true hc, cond_true]
      by_cases hh : sx < sz
      · rw [decide_eq_true hh, decide_eq_false (p := sx ≥ sz) (by omega)]; rfl
      · rw [decide_eq_false hh, decide_eq_true (p := sx ≥ sz) (by omega)]; rfl
    · subst hc
      rw [if_neg (by simp), if_neg (by simp), show (sx != sx) = false from by simp, cond_false]
      cases hD : !(d2 == d1) with
      | true => cases d1 <;> cases d2 <;> first | rfl | cases hD
      | false =>
        have hD2 : d1 = d2 := by revert hD; cases d1 <;> cases d2 <;> decide
        subst hD2
        rw [cond_false, if_neg (by simp)]
        cases hH : !(h1 == h2) with
        | true => cases h1 <;> cases h2 <;> first | rfl | cases hH
        | false =>
          rw [cond_false, if_neg (by simp)]
          cases hP : !(p1 == p2) with
          | true => cases p1 <;> cases p2 <;> first | rfl | cases hP
          | false =>
            rw [cond_false, if_neg (by simp)]
            congr 1
            exact propext ⟨fun h => by omega, fun h => by omega⟩
    · rw [if_neg (by simp; omega), if_pos (by simpa using hc), show (sx != sy) = true from by simp; omega, cond_true, decide_eq_false (p := sx < sy) (by omega), cond_false]
      by_cases hh : sy < sz
      · rw [decide_eq_true hh]; rfl
      · rw [decide_eq_false hh]; rfl
theorem src_step {l : List (List C)} (hl : ∀ x ∈ l, L8 x) {z : List C} (hz : A8 z) : ∀ (d i : Nat) (o : Option Nat), i + d = l.length → (∀ j, o = some j → j < l.length) →
    valR l (((l.zipIdx).drop i).foldl (stpR l z) o) = (l.drop i).foldl (srcS z) (valR l o)
  | 0, i, o, hi, ho => by
    rw [List.drop_of_length_le (by simp; omega), List.drop_of_length_le (by omega)]
    rfl
  | d + 1, i, o, hi, ho => by
    have hlt : i < l.length := by omega
    have hx : l[i]? = some l[i] := List.getElem?_eq_getElem hlt
    have hxl := hl _ (List.getElem_mem hlt)
    rw [List.drop_eq_getElem_cons (l := l.zipIdx) (by simp; omega), List.drop_eq_getElem_cons hlt, List.foldl_cons, List.foldl_cons]
    have hp : l.zipIdx[i]'(by simp; omega) = (l[i], i) := by simp
    rw [hp, src_step hl hz d (i + 1) _ (by omega)]
    · congr 1
      unfold stpR srcS
      rw [four_eq hxl.ad, four_eq hz]
      cases fourR (ad l[i]) == fourR z with
      | false => rfl
      | true =>
        cases o with
        | none => simp only [cond_true, valR, el_get hx, Bool.not_false]
        | some j =>
          have hj := ho j rfl
          have hjl : L8 (el l j) := by
            rw [el_get (List.getElem?_eq_getElem hj)]
            exact hl _ (List.getElem_mem hj)
          have hbe := bet_eq hxl hjl hz
          show valR l (bif betR l[i] (el l j) z then some i else some j) = bif decide (betN l[i] (el l j) z > 0) then (l[i], true) else (el l j, true)
          rw [hbe]
          cases betR l[i] (el l j) z <;> simp [valR, el_get hx]
    · intro j hj
      unfold stpR at hj
      cases hc : fourR (ad l[i]) == fourR z with
      | false => rw [hc] at hj; exact ho j hj
      | true =>
        rw [hc] at hj
        cases o with
        | none => cases hj; exact hlt
        | some t =>
          simp only [cond_true] at hj
          cases hb : betR l[i] (el l t) z with
          | true => rw [hb] at hj; cases hj; exact hlt
          | false => rw [hb] at hj; exact ho j hj
theorem src_eq {l : List (List C)} (hl : ∀ x ∈ l, L8 x) {z : List C} (hz : A8 z) : srcN l z = srcR l z := by
  have := src_step hl hz l.length 0 none (by omega) (fun j h => by cases h)
  rw [List.drop_zero, List.drop_zero] at this
  unfold srcN srcR
  exact this.symm

end Go.Proofs.Ytdcdccdhdingbaa
