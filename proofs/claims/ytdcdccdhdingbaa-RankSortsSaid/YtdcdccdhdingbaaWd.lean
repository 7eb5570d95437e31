/- Wd -/
import Derived.Test.YtdcdccdhdingbaaWc
import Derived.KernelRfl
namespace Go.Proofs.Ytdcdccdhdingbaa
open Go Go.Eng
set_option maxRecDepth 100000
theorem pre_bytes {a b : List Nat} (ha : a.length = 16) (hb : b.length = 16) (ha2 : ∀ m ∈ a, m < 256) (hb2 : ∀ m ∈ b, m < 256) : ∀ k, k ≤ 16 → pre a b (8 * k) = (List.range k).all fun i => a.getD i 0 == b.getD i 0
  | 0, _ => rfl
  | k + 1, hk => by
    have ih := pre_bytes ha hb ha2 hb2 k (by omega)
    unfold pre at ih ⊢
    have hr : List.range' 0 (8 * (k + 1)) = List.range' 0 (8 * k) ++ (List.range 8).map (8 * k + ·) := by
      rw [← List.range'_eq_map_range, Nat.mul_add, Nat.mul_one, ← List.range'_append]
      simp
    rw [hr, List.all_append, ih, show List.range (k + 1) = List.range k ++ [k] from List.range_succ, List.all_append, List.all_map]
    congr 1
    rw [List.all_cons, List.all_nil, Bool.and_true, ← byte_eq (by8_u16 ha2 (by omega)).2 (by8_u16 hb2 (by omega)).2]
    simp only [List.range, List.range.loop, List.all_cons, List.all_nil, Function.comp, db]
    have h8 : ∀ r : Nat, r < 8 → (8 * k + r) / 8 = k ∧ (8 * k + r) % 8 = r := fun r hr => by omega
    simp only [(h8 0 (by decide)).1, (h8 0 (by decide)).2, (h8 1 (by decide)).1, (h8 1 (by decide)).2, (h8 2 (by decide)).1, (h8 2 (by decide)).2, (h8 3 (by decide)).1, (h8 3 (by decide)).2, (h8 4 (by decide)).1, (h8 4 (by decide)).2, (h8 5 (by decide)).1, (h8 5 (by decide)).2, (h8 6 (by decide)).1, (h8 6 (by decide)).2, (h8 7 (by decide)).1, (h8 7 (by decide)).2]
theorem byte_7 : ∀ a : Fin 256, ((List.range' 0 7).all fun t => !((a.val ^^^ 252).testBit (7 - t % 8))) = (a.val == 252 || a.val == 253) := by decide +kernel
theorem byte_10 : ∀ a : Fin 256, ((List.range' 8 2).all fun t => !((a.val ^^^ 192).testBit (7 - t % 8))) = decide (a.val ≥ 192) := by decide +kernel
/-- Of what holds of the nine lines, the best one. -/
def polV (p1 p2 p3 p4 p5 p6 p7 p8 p9 : Bool) : List C := (tblN.zip [p1, p2, p3, p4, p5, p6, p7, p8, p9]).foldl (fun b l => if (decide ((cl l.1 16).toI > (cl b 16).toI) && l.2) = true then l.1 else b) lin0
def lq (x : List C) (l : List C) : Bool := decide (shN x (sub l 0 16) ≥ (cl l 16).toI)
theorem polB_V (x : List C) : polB x = polV (lq x (el tblN 0)) (lq x (el tblN 1)) (lq x (el tblN 2)) (lq x (el tblN 3)) (lq x (el tblN 4)) (lq x (el tblN 5)) (lq x (el tblN 6)) (lq x (el tblN 7)) (lq x (el tblN 8)) := by
  unfold polB
  rfl
theorem polV_T : ∀ p1 p3 p4 p5 p6 p7 p8 p9 : Bool, (p1 = true → p7 = true) → (cl (polV p1 true p3 p4 p5 p6 p7 p8 p9) 17).toI = (polT p7 p1 p3 p5 p4 p9 p8 p6).1 ∧ (cl (polV p1 true p3 p4 p5 p6 p7 p8 p9) 18).toI = (polT p7 p1 p3 p5 p4 p9 p8 p6).2 := by decide +kernel
theorem ic (a n : Nat) : ((a : Int) == (n : Int)) = (a == n) := by
  by_cases h : a = n
  · subst h; simp
  · rw [beq_eq_false_iff_ne.2 h, beq_eq_false_iff_ne]; omega
theorem sixteen {l : List Nat} (h : l.length = 16) : ∃ a0 a1 a2 a3 a4 a5 a6 a7 a8 a9 a10 a11 a12 a13 a14 a15, l = [a0, a1, a2, a3, a4, a5, a6, a7, a8, a9, a10, a11, a12, a13, a14, a15] := by
  match l, h with
  | [a0, a1, a2, a3, a4, a5, a6, a7, a8, a9, a10, a11, a12, a13, a14, a15], _ => exact ⟨_, _, _, _, _, _, _, _, _, _, _, _, _, _, _, _, rfl⟩
theorem ic0 (a : Nat) : ((a : Int) == 0) = (a == 0) := ic a 0
theorem ic255 (a : Nat) : ((a : Int) == 255) = (a == 255) := ic a 255
theorem four_eq {x : List C} (h : A8 x) : is4 x = fourR x := by
  obtain ⟨l, h1, h2, rfl⟩ := h
  obtain ⟨a0, a1, a2, a3, a4, a5, a6, a7, a8, a9, a10, a11, a12, a13, a14, a15, rfl⟩ := sixteen h1
  rw [is4_eq]
  unfold fourR
  show (((a0 : Int) == 0) && (((a1 : Int) == 0) && (((a2 : Int) == 0) && (((a3 : Int) == 0) && (((a4 : Int) == 0) && (((a5 : Int) == 0) && (((a6 : Int) == 0) && (((a7 : Int) == 0) && (((a8 : Int) == 0) && (((a9 : Int) == 0) && (((a10 : Int) == 255) && (((a11 : Int) == 255) && true)))))))))))) =
    ((((a0 : Int) == 0) && (((a1 : Int) == 0) && (((a2 : Int) == 0) && (((a3 : Int) == 0) && (((a4 : Int) == 0) && (((a5 : Int) == 0) && (((a6 : Int) == 0) && (((a7 : Int) == 0) && (((a8 : Int) == 0) && (((a9 : Int) == 0) && true)))))))))) && (((a10 : Int) == 255) && ((a11 : Int) == 255)))
  simp only [Bool.and_assoc, Bool.and_true]
theorem icn (a : Nat) (n : Nat) (k : Int) (h : k = (n : Int)) : ((a : Int) == k) = (a == n) := by rw [h]; exact ic a n
theorem lq_pre {a h : List Nat} (ha : a.length = 16) (hh : h.length = 16) (ha2 : ∀ m ∈ a, m < 256) (hh2 : ∀ m ∈ h, m < 256) {n : Nat} (hn : n ≤ 128) (p q : Int) : lq (u16 a) (lin h (n : Int) p q) = pre a h n := by
  have hl : (u16 h).length = 16 := by simpa [u16] using hh
  have e1 : sub (lin h (n : Int) p q) 0 16 = u16 h := by
    unfold lin sub
    rw [List.drop_zero, List.take_append_of_le_length (by omega), List.take_of_length_le (by omega)]
  have e2 : (cl (lin h (n : Int) p q) 16).toI = (n : Int) := by
    unfold lin cl
    rw [List.getD_eq_getElem?_getD, List.getElem?_append_right (by omega), hl]
    rfl
  unfold lq
  rw [e1, e2, shN_ge ha hh ha2 hh2 hn]
theorem pol_eq {x : List C} (h : A8 x) : polP x = (polR x).1 ∧ polL x = (polR x).2 := by
  obtain ⟨l, h1, h2, rfl⟩ := h
  have lp := fun (g : List Nat) (hg : g.length = 16) (hg2 : ∀ m ∈ g, m < 256) (n : Nat) (hn : n ≤ 128) (p q : Int) => lq_pre (a := l) (h := g) h1 hg h2 hg2 hn p q
  have pb := fun (g : List Nat) (hg : g.length = 16) (hg2 : ∀ m ∈ g, m < 256) (k : Nat) (hk : k ≤ 16) => pre_bytes (a := l) (b := g) h1 hg h2 hg2 k hk
  have q1 : lq (u16 l) (el tblN 0) = _ := (lp [0,0,0,0,0,0,0,0,0,0,0,0,0,0,0,1] rfl (by decide) 128 (by decide) 50 0).trans (pb _ rfl (by decide) 16 (by decide))
  have q2 : lq (u16 l) (el tblN 1) = true := (lp [0,0,0,0,0,0,0,0,0,0,0,0,0,0,0,0] rfl (by decide) 0 (by decide) 40 1).trans rfl
  have q3 : lq (u16 l) (el tblN 2) = _ := (lp [0,0,0,0,0,0,0,0,0,0,255,255,0,0,0,0] rfl (by decide) 96 (by decide) 35 4).trans (pb _ rfl (by decide) 12 (by decide))
  have q4 : lq (u16 l) (el tblN 3) = _ := (lp [32,2,0,0,0,0,0,0,0,0,0,0,0,0,0,0] rfl (by decide) 16 (by decide) 30 2).trans (pb _ rfl (by decide) 2 (by decide))
  have q5 : lq (u16 l) (el tblN 4) = _ := (lp [32,1,0,0,0,0,0,0,0,0,0,0,0,0,0,0] rfl (by decide) 32 (by decide) 5 5).trans (pb _ rfl (by decide) 4 (by decide))
  have q6 : lq (u16 l) (el tblN 5) = _ := lp [252,0,0,0,0,0,0,0,0,0,0,0,0,0,0,0] rfl (by decide) 7 (by decide) 3 13
  have q7 : lq (u16 l) (el tblN 6) = _ := (lp [0,0,0,0,0,0,0,0,0,0,0,0,0,0,0,0] rfl (by decide) 96 (by decide) 1 3).trans (pb _ rfl (by decide) 12 (by decide))
  have q8 : lq (u16 l) (el tblN 7) = _ := lp [254,192,0,0,0,0,0,0,0,0,0,0,0,0,0,0] rfl (by decide) 10 (by decide) 1 11
  have q9 : lq (u16 l) (el tblN 8) = _ := (lp [63,254,0,0,0,0,0,0,0,0,0,0,0,0,0,0] rfl (by decide) 16 (by decide) 1 12).trans (pb _ rfl (by decide) 2 (by decide))
  have r8 : pre l [254,192,0,0,0,0,0,0,0,0,0,0,0,0,0,0] 10 = ((l.getD 0 0 == 254) && decide (l.getD 1 0 ≥ 192)) := by
    have e1 := pb [254,192,0,0,0,0,0,0,0,0,0,0,0,0,0,0] rfl (by decide) 1 (by decide)
    have e2 := byte_10 ⟨l.getD 1 0, (by8_u16 h2 (i := 1) (by omega)).2⟩
    unfold pre at e1 ⊢
    rw [show List.range' 0 10 = List.range' 0 (8 * 1) ++ List.range' 8 2 from rfl, List.all_append, e1]
    exact congr (congrArg _ (Bool.and_true _)) e2
  have r6 : pre l [252,0,0,0,0,0,0,0,0,0,0,0,0,0,0,0] 7 = ((l.getD 0 0 == 252) || (l.getD 0 0 == 253)) := byte_7 ⟨l.getD 0 0, (by8_u16 h2 (i := 0) (by omega)).2⟩
  obtain ⟨a0, a1, a2, a3, a4, a5, a6, a7, a8, a9, a10, a11, a12, a13, a14, a15, rfl⟩ := sixteen h1
  have s1 : (List.range 16).all (fun i => ([a0, a1, a2, a3, a4, a5, a6, a7, a8, a9, a10, a11, a12, a13, a14, a15] : List Nat).getD i 0 == ([0,0,0,0,0,0,0,0,0,0,0,0,0,0,0,1] : List Nat).getD i 0) = eqL (u16 [a0, a1, a2, a3, a4, a5, a6, a7, a8, a9, a10, a11, a12, a13, a14, a15]) one8 := by
    show _ = eqL (u16 _) (u16 [0,0,0,0,0,0,0,0,0,0,0,0,0,0,0,1])
    simp only [u16, List.map, eqL, eqC, ic, List.range, List.range.loop, List.all_cons, List.all_nil, List.getD_cons_succ, List.getD_cons_zero]
  have s7 : (List.range 12).all (fun i => ([a0, a1, a2, a3, a4, a5, a6, a7, a8, a9, a10, a11, a12, a13, a14, a15] : List Nat).getD i 0 == ([0,0,0,0,0,0,0,0,0,0,0,0,0,0,0,0] : List Nat).getD i 0) = zer (u16 [a0, a1, a2, a3, a4, a5, a6, a7, a8, a9, a10, a11, a12, a13, a14, a15]) := by
    simp only [zer, u16, List.map, cl, C.toI, ic0, List.range, List.range.loop, List.all_cons, List.all_nil, List.getD_cons_succ, List.getD_cons_zero]
  have s3 : (List.range 12).all (fun i => ([a0, a1, a2, a3, a4, a5, a6, a7, a8, a9, a10, a11, a12, a13, a14, a15] : List Nat).getD i 0 == ([0,0,0,0,0,0,0,0,0,0,255,255,0,0,0,0] : List Nat).getD i 0) = fourR (u16 [a0, a1, a2, a3, a4, a5, a6, a7, a8, a9, a10, a11, a12, a13, a14, a15]) := by
    unfold fourR
    simp only [u16, List.map, cl, C.toI, ic0, ic255, List.range, List.range.loop, List.all_cons, List.all_nil, List.getD_cons_succ, List.getD_cons_zero, Bool.and_true, Bool.and_assoc]
  have hr : polR (u16 [a0, a1, a2, a3, a4, a5, a6, a7, a8, a9, a10, a11, a12, a13, a14, a15]) = polT (lq (u16 [a0, a1, a2, a3, a4, a5, a6, a7, a8, a9, a10, a11, a12, a13, a14, a15]) (el tblN 6)) (lq (u16 [a0, a1, a2, a3, a4, a5, a6, a7, a8, a9, a10, a11, a12, a13, a14, a15]) (el tblN 0)) (lq (u16 [a0, a1, a2, a3, a4, a5, a6, a7, a8, a9, a10, a11, a12, a13, a14, a15]) (el tblN 2)) (lq (u16 [a0, a1, a2, a3, a4, a5, a6, a7, a8, a9, a10, a11, a12, a13, a14, a15]) (el tblN 4)) (lq (u16 [a0, a1, a2, a3, a4, a5, a6, a7, a8, a9, a10, a11, a12, a13, a14, a15]) (el tblN 3)) (lq (u16 [a0, a1, a2, a3, a4, a5, a6, a7, a8, a9, a10, a11, a12, a13, a14, a15]) (el tblN 8)) (lq (u16 [a0, a1, a2, a3, a4, a5, a6, a7, a8, a9, a10, a11, a12, a13, a14, a15]) (el tblN 7)) (lq (u16 [a0, a1, a2, a3, a4, a5, a6, a7, a8, a9, a10, a11, a12, a13, a14, a15]) (el tblN 5)) := by
    rw [q1, q3, q4, q5, q6, q7, q8, q9, r6, r8, s1, s3, s7]
    unfold polR
    simp only [u16, List.map, cl, C.toI, List.range, List.range.loop, List.all_cons, List.all_nil, List.getD_cons_succ, List.getD_cons_zero, Bool.and_true, icn a0 32 32 rfl, icn a0 63 63 rfl, icn a0 254 254 rfl, icn a0 252 252 rfl, icn a0 253 253 rfl, icn a1 1 1 rfl, icn a1 2 2 rfl, icn a1 254 254 rfl, ic0, show decide ((a1 : Int) ≥ 192) = decide (a1 ≥ 192) from by congr 1; exact propext ⟨fun h => by omega, fun h => by omega⟩]
  rw [hr]
  unfold polP polL
  rw [polB_V, q2]
  refine polV_T _ _ _ _ _ _ _ _ ?_
  rw [q1, q7]
  intro h
  rw [List.all_eq_true] at h ⊢
  intro i hi
  have hi2 := List.mem_range.1 hi
  have := h i (List.mem_range.2 (by omega))
  match i, hi2 with
  | 0, _ | 1, _ | 2, _ | 3, _ | 4, _ | 5, _ | 6, _ | 7, _ | 8, _ | 9, _ | 10, _ | 11, _ => exact this
theorem and_15 : ∀ a : Fin 256, iand .u8 ((a.val : Nat) : Int) 15 = (((a.val % 16 : Nat)) : Int) := by decide +kernel
theorem and_192 : ∀ a : Fin 256, (iand .u8 ((a.val : Nat) : Int) 192 == 128) = (decide (a.val ≥ 128) && decide (a.val < 192)) ∧ (iand .u8 ((a.val : Nat) : Int) 192 == 192) = decide (a.val ≥ 192) := by decide +kernel
theorem sc_eq {x : List C} (h : A8 x) : scN x = scR x := by
  have hf := four_eq h
  obtain ⟨l, h1, h2, rfl⟩ := h
  have hb : l.getD 1 0 < 256 := (by8_u16 h2 (i := 1) (by omega)).2
  have e1 : (cl (u16 l) 1).toI = ((l.getD 1 0 : Nat) : Int) := (by8_u16 h2 (i := 1) (by omega)).1
  have f1 := and_15 ⟨l.getD 1 0, hb⟩
  obtain ⟨f2, f3⟩ := and_192 ⟨l.getD 1 0, hb⟩
  simp only at f1 f2 f3
  unfold scN scR
  rw [hf, e1, f1, f2, f3]
  rw [show eqL (u16 l) [.int .u8 0, .int .u8 0, .int .u8 0, .int .u8 0, .int .u8 0, .int .u8 0, .int .u8 0, .int .u8 0, .int .u8 0, .int .u8 0, .int .u8 0, .int .u8 0, .int .u8 0, .int .u8 0, .int .u8 0, .int .u8 1] = eqL (u16 l) one8 from rfl]
  rw [wrap_ok (a := ((l.getD 1 0 % 16 : Nat) : Int)) (by omega) (by omega), wrap_ok (a := ((l.getD 1 0 : Nat) : Int)) (by omega) (by omega), Int.tmod_eq_emod_of_nonneg (by omega), show ((l.getD 1 0 : Nat) : Int) % 16 = ((l.getD 1 0 % 16 : Nat) : Int) from by omega]
  rw [show decide (((l.getD 1 0 : Nat) : Int) ≥ 128) = decide (l.getD 1 0 ≥ 128) from by congr 1; exact propext ⟨fun h => by omega, fun h => by omega⟩, show decide (((l.getD 1 0 : Nat) : Int) < 192) = decide (l.getD 1 0 < 192) from by congr 1; exact propext ⟨fun h => by omega, fun h => by omega⟩, show decide (((l.getD 1 0 : Nat) : Int) ≥ 192) = decide (l.getD 1 0 ≥ 192) from by congr 1; exact propext ⟨fun h => by omega, fun h => by omega⟩]
  cases fourR (u16 l) <;> cases (cl (u16 l) 12).toI == 127 <;> cases (cl (u16 l) 12).toI == 169 <;> cases (cl (u16 l) 13).toI == 254 <;> cases (cl (u16 l) 0).toI == 255 <;> cases (cl (u16 l) 0).toI == 254 <;> cases eqL (u16 l) one8 <;> cases decide (l.getD 1 0 ≥ 128) <;> cases decide (l.getD 1 0 < 192) <;> cases decide (l.getD 1 0 ≥ 192) <;> rfl

end Go.Proofs.Ytdcdccdhdingbaa
