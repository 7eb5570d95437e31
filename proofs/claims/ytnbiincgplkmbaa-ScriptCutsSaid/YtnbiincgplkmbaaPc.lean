/- Pc -/
import Derived.Test.YtnbiincgplkmbaaPb
import Derived.KernelRfl
namespace Go.Proofs.Ytnbiincgplkmbaa
open Go Go.Eng
set_option maxRecDepth 100000
/-! Events. -/
structure GoodE (x : List C) : Prop where
  ad : (sub x 5 16).length = 16
  lk : LenL (sub x 24 7)
  ok : okEv x = true
def kN (x : List C) : Int := (cl x 0).toI % 8
def lN (x : List C) : Int := (cl x 1).toI % 8
/-- What comes back of an event. -/
def nmE (x : List C) : List C :=
  if kN x = 1 then evC (kN x) (lN x) (cutS (cl x 2).toS) ((cl x 3).toI % 65536) ((cl x 4).toI % 256) u16s 0 ((cl x 22).toI % 4294967296) [] noL emp emp emp
  else if kN x = 2 then evC (kN x) (lN x) emp 0 0 (((sub x 5 16).map byC).map c8) ((cl x 21).toI % 65536) ((cl x 22).toI % 4294967296) (unB (daE x)) noL emp emp emp
  else if kN x = 3 then evC (kN x) (lN x) emp 0 0 u16s 0 ((cl x 22).toI % 4) [] (nmL (sub x 24 7)) emp emp emp
  else if kN x = 6 then evC (kN x) (lN x) emp 0 0 u16s 0 ((cl x 22).toI % 4) [] noL (cutS (cl x 31).toS) (cutS (cl x 32).toS) (cutS (cl x 33).toS)
  else evC (kN x) (lN x) emp 0 0 u16s 0 ((cl x 22).toI % 4) [] noL emp emp emp
theorem kdE_eq (x : List C) : kdE x = kN x := iand_7 _
theorem p1 : (256 : Int) ^ 1 = 256 := by decide
theorem p2 : (256 : Int) ^ 2 = 65536 := by decide
theorem p4 : (256 : Int) ^ 4 = 4294967296 := by decide
theorem num1 (a : Int) (r : List UInt8) : numB ((putB 1 a ++ r).take 1) = a % 256 ∧ (putB 1 a ++ r).drop 1 = r := ⟨by rw [take_app (putB_len 1 a), numB_putB, p1], drop_app (putB_len 1 a)⟩
theorem num2 (a : Int) (r : List UInt8) : numB ((putB 2 a ++ r).take 2) = a % 65536 ∧ (putB 2 a ++ r).drop 2 = r := ⟨by rw [take_app (putB_len 2 a), numB_putB, p2], drop_app (putB_len 2 a)⟩
theorem num4 (a : Int) (r : List UInt8) : numB ((putB 4 a ++ r).take 4) = a % 4294967296 ∧ (putB 4 a ++ r).drop 4 = r := ⟨by rw [take_app (putB_len 4 a), numB_putB, p4], drop_app (putB_len 4 a)⟩
theorem beq_t {a b : Int} (h : a = b) : (a == b) = true := by rw [h]; exact beq_self_eq_true b
theorem beq_f {a b : Int} (h : a ≠ b) : ¬ (a == b) = true := by rw [beq_iff_eq]; exact h
theorem ev1 {x : List C} (h : kN x = 1) (r : List UInt8) : encE x ++ r = u8 (hdZ x 0) :: (putB 1 (cl x 4).toI ++ (putB 2 (cl x 3).toI ++ (putB 4 (cl x 22).toI ++ (texB (cutS (cl x 2).toS) ++ r)))) := by
  unfold encE
  rw [kdE_eq, if_pos (beq_t h)]
  simp only [List.cons_append, List.append_assoc]
theorem ev2 {x : List C} (h : kN x = 2) (r : List UInt8) : encE x ++ r = u8 (hdZ x 0) :: ((sub x 5 16).map byC ++ (putB 2 (cl x 21).toI ++ (putB 4 (cl x 22).toI ++ (putB 2 ((daE x).length : Int) ++ (unB (daE x) ++ r))))) := by
  unfold encE
  rw [kdE_eq, if_neg (beq_f (by omega)), if_pos (beq_t h)]
  simp only [List.cons_append, List.append_assoc]
theorem ev3 {x : List C} (h : kN x = 3) (r : List UInt8) : encE x ++ r = u8 (hdZ x ((cl x 22).toI % 4)) :: (encL (sub x 24 7) ++ r) := by
  unfold encE
  rw [kdE_eq, if_neg (beq_f (by omega)), if_neg (beq_f (by omega)), if_pos (beq_t h), iand_3]
  rfl
theorem ev6 {x : List C} (h : kN x = 6) (r : List UInt8) : encE x ++ r = u8 (hdZ x ((cl x 22).toI % 4)) :: (texB (cutS (cl x 31).toS) ++ (texB (cutS (cl x 32).toS) ++ (texB (cutS (cl x 33).toS) ++ r))) := by
  unfold encE
  rw [kdE_eq, if_neg (beq_f (by omega)), if_neg (beq_f (by omega)), if_neg (beq_f (by omega)), if_pos (beq_t h), iand_3]
  simp only [List.cons_append, List.append_assoc]
theorem ev0 {x : List C} (h1 : kN x ≠ 1) (h2 : kN x ≠ 2) (h3 : kN x ≠ 3) (h6 : kN x ≠ 6) (r : List UInt8) : encE x ++ r = u8 (hdZ x ((cl x 22).toI % 4)) :: r := by
  unfold encE
  rw [kdE_eq, if_neg (beq_f h1), if_neg (beq_f h2), if_neg (beq_f h3), if_neg (beq_f h6), iand_3]
  rfl
theorem d4 (z : Int) : 0 ≤ z % 4 ∧ z % 4 < 4 := ⟨Int.emod_nonneg _ (by decide), Int.emod_lt_of_pos _ (by decide)⟩
theorem head_k (x : List C) {d : Int} (h4 : 0 ≤ d) (h5 : d < 4) (r : List UInt8) : kdB (u8 (hdZ x d) :: r) = kN x ∧ lkB (u8 (hdZ x d) :: r) = lN x ∧ drB (u8 (hdZ x d) :: r) = d := head_of x h4 h5 r
theorem ev_back {x : List C} (hg : GoodE x) (r : List UInt8) : evOf (encE x ++ r) = nmE x ∧ evRest (encE x ++ r) = r := by
  unfold nmE
  by_cases h1 : kN x = 1
  · rw [if_pos h1, ev1 h1]
    obtain ⟨k1, k2, k3⟩ := head_k x (d := 0) (by omega) (by omega) (putB 1 (cl x 4).toI ++ (putB 2 (cl x 3).toI ++ (putB 4 (cl x 22).toI ++ (texB (cutS (cl x 2).toS) ++ r))))
    have D1 : (u8 (hdZ x 0) :: (putB 1 (cl x 4).toI ++ (putB 2 (cl x 3).toI ++ (putB 4 (cl x 22).toI ++ (texB (cutS (cl x 2).toS) ++ r))))).drop 1 = putB 1 (cl x 4).toI ++ (putB 2 (cl x 3).toI ++ (putB 4 (cl x 22).toI ++ (texB (cutS (cl x 2).toS) ++ r))) := rfl
    generalize u8 (hdZ x 0) :: (putB 1 (cl x 4).toI ++ (putB 2 (cl x 3).toI ++ (putB 4 (cl x 22).toI ++ (texB (cutS (cl x 2).toS) ++ r)))) = L at k1 k2 k3 D1
    unfold evOf evRest
    rw [k1, k2, D1, (num1 _ _).1, (num1 _ _).2, (num2 _ _).1, (num2 _ _).2, (num4 _ _).1, (num4 _ _).2, texB_tx _ (cutS_len _), texB_tr _ (cutS_len _), mkS_list, if_pos (beq_t h1), if_pos (beq_t h1)]
    exact ⟨rfl, rfl⟩
  · rw [if_neg h1]
    by_cases h2 : kN x = 2
    · rw [if_pos h2, ev2 h2]
      have hdl : (daE x).length ≤ 65535 := List.length_take_le _ _
      have hul : (unB (daE x)).length = (daE x).length := List.length_map ..
      obtain ⟨k1, k2, k3⟩ := head_k x (d := 0) (by omega) (by omega) ((sub x 5 16).map byC ++ (putB 2 (cl x 21).toI ++ (putB 4 (cl x 22).toI ++ (putB 2 ((daE x).length : Int) ++ (unB (daE x) ++ r)))))
      have hbl : ((sub x 5 16).map byC).length = 16 := by rw [List.length_map]; exact hg.ad
      have D1 : (u8 (hdZ x 0) :: ((sub x 5 16).map byC ++ (putB 2 (cl x 21).toI ++ (putB 4 (cl x 22).toI ++ (putB 2 ((daE x).length : Int) ++ (unB (daE x) ++ r)))))).drop 1 = (sub x 5 16).map byC ++ (putB 2 (cl x 21).toI ++ (putB 4 (cl x 22).toI ++ (putB 2 ((daE x).length : Int) ++ (unB (daE x) ++ r)))) := rfl
      generalize u8 (hdZ x 0) :: ((sub x 5 16).map byC ++ (putB 2 (cl x 21).toI ++ (putB 4 (cl x 22).toI ++ (putB 2 ((daE x).length : Int) ++ (unB (daE x) ++ r))))) = L at k1 k2 k3 D1
      unfold evOf evRest
      rw [k1, k2, D1, adr_app hbl, drop_app hbl, (num2 _ _).1, (num2 _ _).2, (num4 _ _).1, (num4 _ _).2, (num2 _ _).1, (num2 _ _).2]
      have hn : ((((daE x).length : Nat) : Int) % 65536).toNat = (unB (daE x)).length := by omega
      rw [hn, take_app rfl, drop_app rfl, if_neg (beq_f h1), if_neg (beq_f h1), if_pos (beq_t h2), if_pos (beq_t h2)]
      exact ⟨rfl, rfl⟩
    · rw [if_neg h2]
      obtain ⟨g0, g1⟩ := d4 (cl x 22).toI
      by_cases h3 : kN x = 3
      · rw [if_pos h3, ev3 h3]
        obtain ⟨k1, k2, k3⟩ := head_k x g0 g1 (encL (sub x 24 7) ++ r)
        have D1 : (u8 (hdZ x ((cl x 22).toI % 4)) :: (encL (sub x 24 7) ++ r)).drop 1 = encL (sub x 24 7) ++ r := rfl
        generalize u8 (hdZ x ((cl x 22).toI % 4)) :: (encL (sub x 24 7) ++ r) = L at k1 k2 k3 D1
        obtain ⟨l1, l2⟩ := link_back (sub x 24 7) hg.lk r
        unfold evOf evRest
        rw [k1, k2, k3, D1, l1, l2, if_neg (beq_f h1), if_neg (beq_f h1), if_neg (beq_f h2), if_neg (beq_f h2), if_pos (beq_t h3), if_pos (beq_t h3)]
        exact ⟨rfl, rfl⟩
      · rw [if_neg h3]
        by_cases h6 : kN x = 6
        · rw [if_pos h6, ev6 h6]
          obtain ⟨k1, k2, k3⟩ := head_k x g0 g1 (texB (cutS (cl x 31).toS) ++ (texB (cutS (cl x 32).toS) ++ (texB (cutS (cl x 33).toS) ++ r)))
          have D1 : (u8 (hdZ x ((cl x 22).toI % 4)) :: (texB (cutS (cl x 31).toS) ++ (texB (cutS (cl x 32).toS) ++ (texB (cutS (cl x 33).toS) ++ r)))).drop 1 = texB (cutS (cl x 31).toS) ++ (texB (cutS (cl x 32).toS) ++ (texB (cutS (cl x 33).toS) ++ r)) := rfl
          generalize u8 (hdZ x ((cl x 22).toI % 4)) :: (texB (cutS (cl x 31).toS) ++ (texB (cutS (cl x 32).toS) ++ (texB (cutS (cl x 33).toS) ++ r))) = L at k1 k2 k3 D1
          unfold evOf evRest
          rw [k1, k2, k3, D1, texB_tx _ (cutS_len _), texB_tr _ (cutS_len _), texB_tx _ (cutS_len _), texB_tr _ (cutS_len _), texB_tx _ (cutS_len _), texB_tr _ (cutS_len _), mkS_list, mkS_list, mkS_list,
            if_neg (beq_f h1), if_neg (beq_f h1), if_neg (beq_f h2), if_neg (beq_f h2), if_neg (beq_f h3), if_neg (beq_f h3), if_pos (beq_t h6), if_pos (beq_t h6)]
          exact ⟨rfl, rfl⟩
        · rw [if_neg h6, ev0 h1 h2 h3 h6]
          obtain ⟨k1, k2, k3⟩ := head_k x g0 g1 r
          have D1 : (u8 (hdZ x ((cl x 22).toI % 4)) :: r).drop 1 = r := rfl
          generalize u8 (hdZ x ((cl x 22).toI % 4)) :: r = L at k1 k2 k3 D1
          unfold evOf evRest
          rw [k1, k2, k3, D1, if_neg (beq_f h1), if_neg (beq_f h1), if_neg (beq_f h2), if_neg (beq_f h2), if_neg (beq_f h3), if_neg (beq_f h3), if_neg (beq_f h6), if_neg (beq_f h6)]
          exact ⟨rfl, rfl⟩

end Go.Proofs.Ytnbiincgplkmbaa
