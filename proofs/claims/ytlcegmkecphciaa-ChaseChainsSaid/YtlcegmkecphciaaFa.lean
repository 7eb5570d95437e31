/- Fa -/
import Derived.Test.YtlcegmkecphciaaTab
import Derived.KernelRfl
namespace Go.Proofs.Ytlcegmkecphciaa
open Go Go.Eng
set_option maxRecDepth 100000
theorem f13_eq (n : Nat) (a : Int) (b : Int) (c : Int) (d : Int) : evFn tab nF nO false lv13 false n Try.f13 [.one (.c (.int .u8 a)), .one (.c (.int .u8 b)), .one (.c (.int .u8 c)), .one (.c (.int .u8 d))] [] = some ((V.agg (31 : Nat) [C.int IntKind.u8 (0 : Int), C.int IntKind.u8 (0 : Int), C.int IntKind.u8 (0 : Int), C.int IntKind.u8 (0 : Int), C.int IntKind.u8 (0 : Int), C.int IntKind.u8 (0 : Int), C.int IntKind.u8 (0 : Int), C.int IntKind.u8 (0 : Int), C.int IntKind.u8 (0 : Int), C.int IntKind.u8 (0 : Int), C.int IntKind.u8 (255 : Int), C.int IntKind.u8 (255 : Int), C.int IntKind.u8 a, C.int IntKind.u8 b, C.int IntKind.u8 c, C.int IntKind.u8 d] [], [])) := by kernel_rfl


def addr4 (a b c d : Int) : List C := [.int .u8 0, .int .u8 0, .int .u8 0, .int .u8 0, .int .u8 0, .int .u8 0, .int .u8 0, .int .u8 0, .int .u8 0, .int .u8 0, .int .u8 255, .int .u8 255, .int .u8 a, .int .u8 b, .int .u8 c, .int .u8 d]
def e13 : En
  | [.one (.c (.int .u8 a)), .one (.c (.int .u8 b)), .one (.c (.int .u8 c)), .one (.c (.int .u8 d))], [], k => k (.agg 31 (addr4 a b c d) []) []
  | _, _, _ => none
theorem es13 : ES Try.prog tab 13 e13 := by
  intro args h k x hh
  unfold e13 at hh
  split at hh
  · exact ⟨_, _, hh, fn13 (nF_sound _ _) rfl (f13_eq 0 _ _ _ _)⟩
  · cases hh

theorem f15_eq (n : Nat) (a : Int) : evFn tab nF nO false lv15 false n Try.f15 [.one (.c (.int .i64 a))] [] = bcond (inB (iand IntKind.i64 a (7 : Int)) (8 : Nat)) (some ((V.one (A.c (C.str (cl (el [[C.str (ByteArray.mk #[(97 : UInt8)])], [C.str (ByteArray.mk #[(98 : UInt8), (46 : UInt8), (97 : UInt8)])], [C.str (ByteArray.mk #[(119 : UInt8), (119 : UInt8), (119 : UInt8), (46 : UInt8), (98 : UInt8), (46 : UInt8), (97 : UInt8)])], [C.str (ByteArray.mk #[(120 : UInt8), (110 : UInt8), (45 : UInt8), (45 : UInt8), (98 : UInt8), (99 : UInt8), (104 : UInt8), (101 : UInt8), (114 : UInt8), (45 : UInt8), (107 : UInt8), (118 : UInt8), (97 : UInt8), (46 : UInt8), (100 : UInt8), (101 : UInt8)])], [C.str (ByteArray.mk #[(120 : UInt8), (95 : UInt8), (121 : UInt8), (46 : UInt8), (99 : UInt8), (111 : UInt8), (114 : UInt8), (112 : UInt8)])], [C.str (ByteArray.mk #[(48 : UInt8)])], [C.str (ByteArray.mk #[(99 : UInt8), (111 : UInt8), (114 : UInt8), (112 : UInt8)])], [C.str (ByteArray.mk #[(99 : UInt8), (46 : UInt8), (98 : UInt8), (46 : UInt8), (97 : UInt8)])]] (iand IntKind.i64 a (7 : Int)).toNat) (0 : Nat)).toS)), []))) (none) := by kernel_rfl


def names8 : List (List C) := [[C.str (ByteArray.mk #[(97 : UInt8)])], [C.str (ByteArray.mk #[(98 : UInt8), (46 : UInt8), (97 : UInt8)])], [C.str (ByteArray.mk #[(119 : UInt8), (119 : UInt8), (119 : UInt8), (46 : UInt8), (98 : UInt8), (46 : UInt8), (97 : UInt8)])], [C.str (ByteArray.mk #[(120 : UInt8), (110 : UInt8), (45 : UInt8), (45 : UInt8), (98 : UInt8), (99 : UInt8), (104 : UInt8), (101 : UInt8), (114 : UInt8), (45 : UInt8), (107 : UInt8), (118 : UInt8), (97 : UInt8), (46 : UInt8), (100 : UInt8), (101 : UInt8)])], [C.str (ByteArray.mk #[(120 : UInt8), (95 : UInt8), (121 : UInt8), (46 : UInt8), (99 : UInt8), (111 : UInt8), (114 : UInt8), (112 : UInt8)])], [C.str (ByteArray.mk #[(48 : UInt8)])], [C.str (ByteArray.mk #[(99 : UInt8), (111 : UInt8), (114 : UInt8), (112 : UInt8)])], [C.str (ByteArray.mk #[(99 : UInt8), (46 : UInt8), (98 : UInt8), (46 : UInt8), (97 : UInt8)])]]
def nameOf (a : Int) : ByteArray := (cl (el names8 (iand .i64 a 7).toNat) 0).toS
theorem f15_out (n : Nat) (a : Int) : evFn tab nF nO false lv15 false n Try.f15 [.one (.c (.int .i64 a))] [] = some (.one (.c (.str (nameOf a))), []) := by
  rw [f15_eq, bcond_of]
  · rfl
  · rw [iand_7, inB, Bool.and_eq_true, decide_eq_true_eq, decide_eq_true_eq]
    exact ⟨Int.emod_nonneg _ (by decide), Int.emod_lt_of_pos _ (by decide)⟩
def e15 : En
  | [.one (.c (.int .i64 a))], [], k => k (.one (.c (.str (nameOf a)))) []
  | _, _, _ => none
theorem es15 : ES Try.prog tab 15 e15 := by
  intro args h k x hh
  unfold e15 at hh
  split at hh
  · exact ⟨_, _, hh, fn15 (nF_sound _ _) rfl (f15_out 0 _)⟩
  · cases hh

noncomputable abbrev f16_c2 : Code := (loops (body Try.f16)).getD 0 .skip
noncomputable abbrev f16_s2 (n : Nat) : St → (X → St → Option R) → Option R := fun st k => evCode tab nF nO lv16 false n f16_c2 st k
noncomputable abbrev f16_k2 (n : Nat) : X → St → Option R := after tab nF nO lv16 false n (body Try.f16) 0 (endK tab false Try.f16)
abbrev f16_h2 (s6 : List (List C)) (s7 : Int) (s8 : Int) : St := { t := [((6 : Nat), V.one (A.c (C.sl (33 : Nat) s6))), ((7 : Nat), V.one (A.c (C.int IntKind.i64 s7))), ((8 : Nat), V.one (A.c (C.int IntKind.i64 s8)))], h := [] }
abbrev f16_x2_r (s2 : Int) (b4 : List C) : St := { t := [((2 : Nat), V.one (A.c (C.int IntKind.i64 s2)))], h := [(Key.loc (4 : Nat) (0 : Nat), (0 : Nat), B.box (33 : Nat) b4 [])] }
abbrev f16_x2_0 : St := { t := [], h := [] }
theorem f16_t2 (n m : Nat) (k : X → St → Option R) (s6 : List (List C)) (s7 : Int) (s8 : Int) : evLoop false (f16_s2 n) (m + 1) (f16_h2 s6 s7 s8) k = bcond (decide (s8 < s7)) (bcond (inB s8 s6.length) (bcond ((cl (el s6 s8.toNat) (1 : Nat)).toI == (6 : Int)) (k X.ret (f16_x2_r ((cl (el s6 s8.toNat) (2 : Nat)).toI) (el s6 s8.toNat))) (evLoop false (f16_s2 n) m (f16_h2 (s6) (s7) (IntKind.i64.wrap (s8 + (1 : Int)))) k)) (none)) (k (X.exit 0) (f16_x2_0)) := by kernel_rfl
theorem f16_a2_r (n : Nat) (s2 : Int) (b4 : List C) : f16_k2 n X.ret (f16_x2_r s2 b4) = some ((V.one (A.c (C.int IntKind.i64 s2)), [])) := by kernel_rfl
theorem f16_a2_0 (n : Nat) : f16_k2 n (X.exit 0) (f16_x2_0) = some ((V.one (A.c (C.int IntKind.i64 (0 : Int))), [])) := by kernel_rfl
theorem f16_eq (n : Nat) (x : List C) : evFn tab nF nO false lv16 false n Try.f16 [.agg 27 x []] [] = evLoop false (f16_s2 n) n (f16_h2 ((cl x (8 : Nat)).toL) ((↑(cl x (8 : Nat)).toL.length : Int)) ((0 : Int))) (f16_k2 n) := by kernel_rfl


theorem overX_find {α : Type} (p : α → Bool) (o : α → Option R) (E : Unit → Option R) : ∀ l : List α, overX (fun (_ : Unit) x => if p x = true then .inr (o x) else .inl ()) E l () = match l.find? p with | some x => o x | none => E ()
  | [] => rfl
  | x :: l => by
    rw [overX, List.find?_cons]
    cases p x with
    | true => rfl
    | false => exact overX_find p o E l
def isSOA (r : List C) : Bool := (cl r 1).toI == 6
/-- How long it counts that there is nothing. -/
def negOf (l : List (List C)) : Int := match l.find? isSOA with | some r => (cl r 2).toI | none => 0
theorem f16_out (x : List C) (hl : (cl x 8).toL.length ≤ 1000000) (n : Nat) (hn : 1000000 < n) : evFn tab nF nO false lv16 false n Try.f16 [.agg 27 x []] [] = some (.one (.c (.int .i64 (negOf (cl x 8).toL))), []) := by
  rw [f16_eq]
  obtain ⟨l, hll⟩ : ∃ l, l = (cl x 8).toL := ⟨_, rfl⟩
  rw [← hll] at hl ⊢
  have h := over_loop (xs := l) (L := fun m i (_ : Unit) => evLoop false (f16_s2 n) m (f16_h2 l l.length i) (f16_k2 n))
    (g := fun (_ : Unit) r => if isSOA r = true then .inr (some (.one (.c (.int .i64 (cl r 2).toI)), [])) else .inl ()) (E := fun _ => some (.one (.c (.int .i64 0)), [])) (fun _ _ => True)
    (fun m i _ r hx hlt _ => by
      show evLoop false (f16_s2 n) (m + 1) _ _ = _
      rw [f16_t2]
      simp only [lt_nat, inB_nat, Int.toNat_natCast, el_get hx, wrap_succ (i := i) (by omega), hlt, decide_true, bcond_t]
      show bcond (isSOA r) _ _ = _
      cases hp : isSOA r with
      | true => exact f16_a2_r n _ r
      | false => rfl)
    (fun _ _ _ _ _ _ _ _ => trivial)
    (fun m _ _ => by
      show evLoop false (f16_s2 n) (m + 1) _ _ = _
      rw [f16_t2, lt_nat, bcond_no (by simp), f16_a2_0])
    l.length 0 () n (by omega) (by omega) trivial
  refine h.trans ?_
  rw [List.drop_zero, overX_find]
  unfold negOf
  cases l.find? isSOA <;> rfl
def e16 : En
  | [.agg 27 x []], [], k => bcond (Nat.ble (cl x 8).toL.length 1000000) (k (.one (.c (.int .i64 (negOf (cl x 8).toL)))) []) none
  | _, _, _ => none
theorem es16 : ES Try.prog tab 16 e16 := by
  intro args h k x hh
  unfold e16 at hh
  split at hh
  · rename_i y
    cases hb : Nat.ble (cl y 8).toL.length 1000000 with
    | false => rw [hb, bcond_f] at hh; cases hh
    | true =>
      rw [hb, bcond_t] at hh
      exact ⟨_, _, hh, fn16 (nF_sound _ _) rfl (f16_out y (by simpa using hb) 1000001 (by omega))⟩
  · cases hh

noncomputable abbrev f14_c3 : Code := (loops (body Try.f14)).getD 0 .skip
noncomputable abbrev f14_s3 (n : Nat) : St → (X → St → Option R) → Option R := fun st k => evCode tab nF nO lv14 false n f14_c3 st k
noncomputable abbrev f14_k3 (n : Nat) : X → St → Option R := after tab nF nO lv14 false n (body Try.f14) 0 (endK tab false Try.f14)
abbrev f14_h3 (s3 : Int) (s6 : List (List C)) (s7 : Int) (s8 : Int) : St := { t := [((3 : Nat), V.one (A.c (C.int IntKind.i64 s3))), ((6 : Nat), V.one (A.c (C.sl (33 : Nat) s6))), ((7 : Nat), V.one (A.c (C.int IntKind.i64 s7))), ((8 : Nat), V.one (A.c (C.int IntKind.i64 s8)))], h := [] }
abbrev f14_x3_0 (s3 : Int) : St := { t := [((3 : Nat), V.one (A.c (C.int IntKind.i64 s3)))], h := [] }
theorem f14_t3 (n m : Nat) (k : X → St → Option R) (s3 : Int) (s6 : List (List C)) (s7 : Int) (s8 : Int) : evLoop false (f14_s3 n) (m + 1) (f14_h3 s3 s6 s7 s8) k = bcond (decide (s8 < s7)) (bcond (inB s8 s6.length) (evLoop false (f14_s3 n) m (f14_h3 (if (cl (el s6 s8.toNat) (2 : Nat)).toI < s3 then (cl (el s6 s8.toNat) (2 : Nat)).toI else s3) (s6) (s7) (IntKind.i64.wrap (s8 + (1 : Int)))) k) (none)) (k (X.exit 0) (f14_x3_0 (s3))) := by kernel_rfl
theorem f14_a3_0 (n : Nat) (s3 : Int) : f14_k3 n (X.exit 0) (f14_x3_0 s3) = some ((V.one (A.c (C.int IntKind.i64 s3)), [])) := by kernel_rfl
theorem f14_eq (n : Nat) (l : List (List C)) : evFn tab nF nO false lv14 false n Try.f14 [.one (.c (.sl 33 l))] [] = evLoop false (f14_s3 n) n (f14_h3 ((1048576 : Int)) (l) ((↑l.length : Int)) ((0 : Int))) (f14_k3 n) := by kernel_rfl


/-- How long records count. -/
def ttlOf (l : List (List C)) : Int := l.foldl (fun a r => if (cl r 2).toI < a then (cl r 2).toI else a) 1048576
theorem f14_out (l : List (List C)) (hl : l.length ≤ 1000000) (n : Nat) (hn : 1000000 < n) : evFn tab nF nO false lv14 false n Try.f14 [.one (.c (.sl 33 l))] [] = some (.one (.c (.int .i64 (ttlOf l))), []) := by
  rw [f14_eq, ← f14_a3_0 n]
  exact fold_loop (xs := l) (L := fun m i (a : Int) => evLoop false (f14_s3 n) m (f14_h3 a l l.length i) (f14_k3 n)) (E := fun a => f14_k3 n (X.exit 0) (f14_x3_0 a)) (fun _ _ => True)
    (fun m i a x hx hlt _ => by
      show evLoop false (f14_s3 n) (m + 1) _ _ = evLoop false (f14_s3 n) m _ _
      rw [f14_t3]
      simp only [lt_nat, inB_nat, Int.toNat_natCast, el_get hx, wrap_succ (i := i) (by omega), hlt, decide_true, bcond_t])
    (fun _ _ _ _ _ _ => trivial)
    (fun m a _ => by
      show evLoop false (f14_s3 n) (m + 1) _ _ = _
      rw [f14_t3, lt_nat, bcond_no (by simp)])
    l.length 0 1048576 n (by omega) (by omega) trivial
def e14 : En
  | [.one (.c (.sl 33 l))], [], k => bcond (Nat.ble l.length 1000000) (k (.one (.c (.int .i64 (ttlOf l)))) []) none
  | _, _, _ => none
theorem es14 : ES Try.prog tab 14 e14 := by
  intro args h k x hh
  unfold e14 at hh
  split at hh
  · rename_i l
    cases hb : Nat.ble l.length 1000000 with
    | false => rw [hb, bcond_f] at hh; cases hh
    | true =>
      rw [hb, bcond_t] at hh
      exact ⟨_, _, hh, fn14 (nF_sound _ _) rfl (f14_out l (by simpa using hb) 1000001 (by omega))⟩
  · cases hh

end Go.Proofs.Ytlcegmkecphciaa
