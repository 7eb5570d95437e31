/- Fc -/
import Derived.Test.YtdcdccdhdingbaaFb
import Derived.KernelRfl
namespace Go.Proofs.Ytdcdccdhdingbaa
open Go Go.Eng
set_option maxRecDepth 100000
def u16 (l : List Nat) : List C := l.map fun (n : Nat) => C.int .u8 (n : Int)
def lin (l : List Nat) (b p q : Int) : List C := u16 l ++ [.int .i64 b, .int .i64 p, .int .i64 q]
def tblN : List (List C) := [lin [0,0,0,0,0,0,0,0,0,0,0,0,0,0,0,1] 128 50 0, lin [0,0,0,0,0,0,0,0,0,0,0,0,0,0,0,0] 0 40 1, lin [0,0,0,0,0,0,0,0,0,0,255,255,0,0,0,0] 96 35 4, lin [32,2,0,0,0,0,0,0,0,0,0,0,0,0,0,0] 16 30 2, lin [32,1,0,0,0,0,0,0,0,0,0,0,0,0,0,0] 32 5 5,
  lin [252,0,0,0,0,0,0,0,0,0,0,0,0,0,0,0] 7 3 13, lin [0,0,0,0,0,0,0,0,0,0,0,0,0,0,0,0] 96 1 3, lin [254,192,0,0,0,0,0,0,0,0,0,0,0,0,0,0] 10 1 11, lin [63,254,0,0,0,0,0,0,0,0,0,0,0,0,0,0] 16 1 12]
theorem f23_out (n : Nat) : evFn tab FA nO false lv23 false n Try.f23 [] [] = some (.one (.c (.sl 51 tblN)), []) := by kernel_rfl
def e23 : En
  | [], [], k => k (.one (.c (.sl 51 tblN))) []
  | _, _, _ => none
theorem es23 : ES Try.prog tab 23 e23 := by
  intro args h k x hh
  unfold e23 at hh
  split at hh
  · exact ⟨_, _, hh, fn23 sFA rfl (f23_out 0)⟩
  · cases hh
/-- The scope, as the program tells it. -/
@[irreducible] def scN (x : List C) : Int := bif is4 x then (bif (cl x 12).toI == 127 then 2 else bif (cl x 12).toI == 169 && (cl x 13).toI == 254 then 2 else 14)
  else bif (cl x 0).toI == 255 then IntKind.i64.wrap (iand .u8 (cl x 1).toI 15)
  else bif (cl x 0).toI == 254 && iand .u8 (cl x 1).toI 192 == 128 then 2
  else bif eqL x [.int .u8 0, .int .u8 0, .int .u8 0, .int .u8 0, .int .u8 0, .int .u8 0, .int .u8 0, .int .u8 0, .int .u8 0, .int .u8 0, .int .u8 0, .int .u8 0, .int .u8 0, .int .u8 0, .int .u8 0, .int .u8 1] then 2
  else bif (cl x 0).toI == 254 && iand .u8 (cl x 1).toI 192 == 192 then 5 else 14
theorem f13_out (n : Nat) (x : List C) : evFn tab FA nO false lv13 false n Try.f13 [.agg 24 x []] [] = some (.one (.c (.int .i64 (scN x))), []) := by
  rw [f13_eq]
  unfold scN
  cases is4 x <;> cases (cl x 12).toI == 127 <;> cases (cl x 12).toI == 169 <;> cases (cl x 13).toI == 254 <;> cases (cl x 0).toI == 255 <;> cases (cl x 0).toI == 254 <;> cases iand .u8 (cl x 1).toI 192 == 128 <;> cases iand .u8 (cl x 1).toI 192 == 192 <;> cases eqL x [.int .u8 0, .int .u8 0, .int .u8 0, .int .u8 0, .int .u8 0, .int .u8 0, .int .u8 0, .int .u8 0, .int .u8 0, .int .u8 0, .int .u8 0, .int .u8 0, .int .u8 0, .int .u8 0, .int .u8 0, .int .u8 1] <;> rfl
def e13 : En
  | [.agg 24 x []], [], k => k (.one (.c (.int .i64 (scN x)))) []
  | _, _, _ => none
theorem es13 : ES Try.prog tab 13 e13 := by
  intro args h k x hh
  unfold e13 at hh
  split at hh
  · exact ⟨_, _, hh, fn13 sFA rfl (f13_out 0 _)⟩
  · cases hh
def FB : Fun := mkF [(13, e13), (14, e14), (19, e19), (21, e21), (22, e22), (23, e23)]
theorem sFB : FSound Try.prog tab FB := mkF_sound (fun p hp => by
  simp only [List.mem_cons, List.not_mem_nil, or_false] at hp
  rcases hp with rfl | rfl | rfl | rfl | rfl | rfl
  · exact es13
  · exact es14
  · exact es19
  · exact es21
  · exact es22
  · exact es23)
noncomputable abbrev f12_c3 : Code := (loops (body Try.f12)).getD 0 .skip
noncomputable abbrev f12_s3 (n : Nat) : St → (X → St → Option R) → Option R := fun st k => evCode tab FB nO lv12 false n f12_c3 st k
noncomputable abbrev f12_k3 (n : Nat) : X → St → Option R := after tab FB nO lv12 false n (body Try.f12) 0 (endK tab false Try.f12)
abbrev f12_h3 (s8 : List (List C)) (s9 : Int) (s10 : Int) (b1 : List C) (b4 : List C) : St := { t := [((1 : Nat), V.one (A.ptr (Key.loc (1 : Nat) (0 : Nat)) (0 : Nat) (0 : Nat))), ((4 : Nat), V.one (A.ptr (Key.loc (4 : Nat) (0 : Nat)) (0 : Nat) (0 : Nat))), ((8 : Nat), V.one (A.c (C.sl (51 : Nat) s8))), ((9 : Nat), V.one (A.c (C.int IntKind.i64 s9))), ((10 : Nat), V.one (A.c (C.int IntKind.i64 s10)))], h := [(Key.loc (1 : Nat) (0 : Nat), (0 : Nat), B.box (24 : Nat) b1 []), (Key.loc (4 : Nat) (0 : Nat), (0 : Nat), B.box (51 : Nat) b4 [])] }
abbrev f12_x3_0 (b1 : List C) (b4 : List C) : St := { t := [((4 : Nat), V.one (A.ptr (Key.loc (4 : Nat) (0 : Nat)) (0 : Nat) (0 : Nat)))], h := [(Key.loc (1 : Nat) (0 : Nat), (0 : Nat), B.box (24 : Nat) b1 []), (Key.loc (4 : Nat) (0 : Nat), (0 : Nat), B.box (51 : Nat) b4 [])] }
theorem f12_t3 (n m : Nat) (k : X → St → Option R) (s8 : List (List C)) (s9 : Int) (s10 : Int) (b1 : List C) (b4 : List C) : evLoop false (f12_s3 n) (m + 1) (f12_h3 s8 s9 s10 b1 b4) k = bcond (decide (s10 < s9)) (bcond (inB s10 s8.length) (bcond (decide ((cl (el s8 s10.toNat) (16 : Nat)).toI > (cl b4 (16 : Nat)).toI)) (bcond (decide (shN b1 (sub (el s8 s10.toNat) (0 : Nat) (16 : Nat)) ≥ (cl (el s8 s10.toNat) (16 : Nat)).toI)) (evLoop false (f12_s3 n) m (f12_h3 (s8) (s9) (IntKind.i64.wrap (s10 + (1 : Int))) (b1) (el s8 s10.toNat)) k) (evLoop false (f12_s3 n) m (f12_h3 (s8) (s9) (IntKind.i64.wrap (s10 + (1 : Int))) (b1) (b4)) k)) (evLoop false (f12_s3 n) m (f12_h3 (s8) (s9) (IntKind.i64.wrap (s10 + (1 : Int))) (b1) (b4)) k)) (none)) (k (X.exit 0) (f12_x3_0 (b1) (b4))) := by kernel_rfl
theorem f12_a3_0 (n : Nat) (b1 : List C) (b4 : List C) : f12_k3 n (X.exit 0) (f12_x3_0 b1 b4) = some ((V.tup [V.one (A.c (C.int IntKind.i64 (cl b4 (17 : Nat)).toI)), V.one (A.c (C.int IntKind.i64 (cl b4 (18 : Nat)).toI))], [])) := by kernel_rfl
theorem f12_eq (n : Nat) (x : List C) : evFn tab FB nO false lv12 false n Try.f12 [.agg 24 x []] [] = evLoop false (f12_s3 n) n (f12_h3 ([[C.int IntKind.u8 (↑(0 : Nat) : Int), C.int IntKind.u8 (↑(0 : Nat) : Int), C.int IntKind.u8 (↑(0 : Nat) : Int), C.int IntKind.u8 (↑(0 : Nat) : Int), C.int IntKind.u8 (↑(0 : Nat) : Int), C.int IntKind.u8 (↑(0 : Nat) : Int), C.int IntKind.u8 (↑(0 : Nat) : Int), C.int IntKind.u8 (↑(0 : Nat) : Int), C.int IntKind.u8 (↑(0 : Nat) : Int), C.int IntKind.u8 (↑(0 : Nat) : Int), C.int IntKind.u8 (↑(0 : Nat) : Int), C.int IntKind.u8 (↑(0 : Nat) : Int), C.int IntKind.u8 (↑(0 : Nat) : Int), C.int IntKind.u8 (↑(0 : Nat) : Int), C.int IntKind.u8 (↑(0 : Nat) : Int), C.int IntKind.u8 (↑(1 : Nat) : Int), C.int IntKind.i64 (128 : Int), C.int IntKind.i64 (50 : Int), C.int IntKind.i64 (0 : Int)], [C.int IntKind.u8 (↑(0 : Nat) : Int), C.int IntKind.u8 (↑(0 : Nat) : Int), C.int IntKind.u8 (↑(0 : Nat) : Int), C.int IntKind.u8 (↑(0 : Nat) : Int), C.int IntKind.u8 (↑(0 : Nat) : Int), C.int IntKind.u8 (↑(0 : Nat) : Int), C.int IntKind.u8 (↑(0 : Nat) : Int), C.int IntKind.u8 (↑(0 : Nat) : Int), C.int IntKind.u8 (↑(0 : Nat) : Int), C.int IntKind.u8 (↑(0 : Nat) : Int), C.int IntKind.u8 (↑(0 : Nat) : Int), C.int IntKind.u8 (↑(0 : Nat) : Int), C.int IntKind.u8 (↑(0 : Nat) : Int), C.int IntKind.u8 (↑(0 : Nat) : Int), C.int IntKind.u8 (↑(0 : Nat) : Int), C.int IntKind.u8 (↑(0 : Nat) : Int), C.int IntKind.i64 (0 : Int), C.int IntKind.i64 (40 : Int), C.int IntKind.i64 (1 : Int)], [C.int IntKind.u8 (↑(0 : Nat) : Int), C.int IntKind.u8 (↑(0 : Nat) : Int), C.int IntKind.u8 (↑(0 : Nat) : Int), C.int IntKind.u8 (↑(0 : Nat) : Int), C.int IntKind.u8 (↑(0 : Nat) : Int), C.int IntKind.u8 (↑(0 : Nat) : Int), C.int IntKind.u8 (↑(0 : Nat) : Int), C.int IntKind.u8 (↑(0 : Nat) : Int), C.int IntKind.u8 (↑(0 : Nat) : Int), C.int IntKind.u8 (↑(0 : Nat) : Int), C.int IntKind.u8 (↑(255 : Nat) : Int), C.int IntKind.u8 (↑(255 : Nat) : Int), C.int IntKind.u8 (↑(0 : Nat) : Int), C.int IntKind.u8 (↑(0 : Nat) : Int), C.int IntKind.u8 (↑(0 : Nat) : Int), C.int IntKind.u8 (↑(0 : Nat) : Int), C.int IntKind.i64 (96 : Int), C.int IntKind.i64 (35 : Int), C.int IntKind.i64 (4 : Int)], [C.int IntKind.u8 (↑(32 : Nat) : Int), C.int IntKind.u8 (↑(2 : Nat) : Int), C.int IntKind.u8 (↑(0 : Nat) : Int), C.int IntKind.u8 (↑(0 : Nat) : Int), C.int IntKind.u8 (↑(0 : Nat) : Int), C.int IntKind.u8 (↑(0 : Nat) : Int), C.int IntKind.u8 (↑(0 : Nat) : Int), C.int IntKind.u8 (↑(0 : Nat) : Int), C.int IntKind.u8 (↑(0 : Nat) : Int), C.int IntKind.u8 (↑(0 : Nat) : Int), C.int IntKind.u8 (↑(0 : Nat) : Int), C.int IntKind.u8 (↑(0 : Nat) : Int), C.int IntKind.u8 (↑(0 : Nat) : Int), C.int IntKind.u8 (↑(0 : Nat) : Int), C.int IntKind.u8 (↑(0 : Nat) : Int), C.int IntKind.u8 (↑(0 : Nat) : Int), C.int IntKind.i64 (16 : Int), C.int IntKind.i64 (30 : Int), C.int IntKind.i64 (2 : Int)], [C.int IntKind.u8 (↑(32 : Nat) : Int), C.int IntKind.u8 (↑(1 : Nat) : Int), C.int IntKind.u8 (↑(0 : Nat) : Int), C.int IntKind.u8 (↑(0 : Nat) : Int), C.int IntKind.u8 (↑(0 : Nat) : Int), C.int IntKind.u8 (↑(0 : Nat) : Int), C.int IntKind.u8 (↑(0 : Nat) : Int), C.int IntKind.u8 (↑(0 : Nat) : Int), C.int IntKind.u8 (↑(0 : Nat) : Int), C.int IntKind.u8 (↑(0 : Nat) : Int), C.int IntKind.u8 (↑(0 : Nat) : Int), C.int IntKind.u8 (↑(0 : Nat) : Int), C.int IntKind.u8 (↑(0 : Nat) : Int), C.int IntKind.u8 (↑(0 : Nat) : Int), C.int IntKind.u8 (↑(0 : Nat) : Int), C.int IntKind.u8 (↑(0 : Nat) : Int), C.int IntKind.i64 (32 : Int), C.int IntKind.i64 (5 : Int), C.int IntKind.i64 (5 : Int)], [C.int IntKind.u8 (↑(252 : Nat) : Int), C.int IntKind.u8 (↑(0 : Nat) : Int), C.int IntKind.u8 (↑(0 : Nat) : Int), C.int IntKind.u8 (↑(0 : Nat) : Int), C.int IntKind.u8 (↑(0 : Nat) : Int), C.int IntKind.u8 (↑(0 : Nat) : Int), C.int IntKind.u8 (↑(0 : Nat) : Int), C.int IntKind.u8 (↑(0 : Nat) : Int), C.int IntKind.u8 (↑(0 : Nat) : Int), C.int IntKind.u8 (↑(0 : Nat) : Int), C.int IntKind.u8 (↑(0 : Nat) : Int), C.int IntKind.u8 (↑(0 : Nat) : Int), C.int IntKind.u8 (↑(0 : Nat) : Int), C.int IntKind.u8 (↑(0 : Nat) : Int), C.int IntKind.u8 (↑(0 : Nat) : Int), C.int IntKind.u8 (↑(0 : Nat) : Int), C.int IntKind.i64 (7 : Int), C.int IntKind.i64 (3 : Int), C.int IntKind.i64 (13 : Int)], [C.int IntKind.u8 (↑(0 : Nat) : Int), C.int IntKind.u8 (↑(0 : Nat) : Int), C.int IntKind.u8 (↑(0 : Nat) : Int), C.int IntKind.u8 (↑(0 : Nat) : Int), C.int IntKind.u8 (↑(0 : Nat) : Int), C.int IntKind.u8 (↑(0 : Nat) : Int), C.int IntKind.u8 (↑(0 : Nat) : Int), C.int IntKind.u8 (↑(0 : Nat) : Int), C.int IntKind.u8 (↑(0 : Nat) : Int), C.int IntKind.u8 (↑(0 : Nat) : Int), C.int IntKind.u8 (↑(0 : Nat) : Int), C.int IntKind.u8 (↑(0 : Nat) : Int), C.int IntKind.u8 (↑(0 : Nat) : Int), C.int IntKind.u8 (↑(0 : Nat) : Int), C.int IntKind.u8 (↑(0 : Nat) : Int), C.int IntKind.u8 (↑(0 : Nat) : Int), C.int IntKind.i64 (96 : Int), C.int IntKind.i64 (1 : Int), C.int IntKind.i64 (3 : Int)], [C.int IntKind.u8 (↑(254 : Nat) : Int), C.int IntKind.u8 (↑(192 : Nat) : Int), C.int IntKind.u8 (↑(0 : Nat) : Int), C.int IntKind.u8 (↑(0 : Nat) : Int), C.int IntKind.u8 (↑(0 : Nat) : Int), C.int IntKind.u8 (↑(0 : Nat) : Int), C.int IntKind.u8 (↑(0 : Nat) : Int), C.int IntKind.u8 (↑(0 : Nat) : Int), C.int IntKind.u8 (↑(0 : Nat) : Int), C.int IntKind.u8 (↑(0 : Nat) : Int), C.int IntKind.u8 (↑(0 : Nat) : Int), C.int IntKind.u8 (↑(0 : Nat) : Int), C.int IntKind.u8 (↑(0 : Nat) : Int), C.int IntKind.u8 (↑(0 : Nat) : Int), C.int IntKind.u8 (↑(0 : Nat) : Int), C.int IntKind.u8 (↑(0 : Nat) : Int), C.int IntKind.i64 (10 : Int), C.int IntKind.i64 (1 : Int), C.int IntKind.i64 (11 : Int)], [C.int IntKind.u8 (↑(63 : Nat) : Int), C.int IntKind.u8 (↑(254 : Nat) : Int), C.int IntKind.u8 (↑(0 : Nat) : Int), C.int IntKind.u8 (↑(0 : Nat) : Int), C.int IntKind.u8 (↑(0 : Nat) : Int), C.int IntKind.u8 (↑(0 : Nat) : Int), C.int IntKind.u8 (↑(0 : Nat) : Int), C.int IntKind.u8 (↑(0 : Nat) : Int), C.int IntKind.u8 (↑(0 : Nat) : Int), C.int IntKind.u8 (↑(0 : Nat) : Int), C.int IntKind.u8 (↑(0 : Nat) : Int), C.int IntKind.u8 (↑(0 : Nat) : Int), C.int IntKind.u8 (↑(0 : Nat) : Int), C.int IntKind.u8 (↑(0 : Nat) : Int), C.int IntKind.u8 (↑(0 : Nat) : Int), C.int IntKind.u8 (↑(0 : Nat) : Int), C.int IntKind.i64 (16 : Int), C.int IntKind.i64 (1 : Int), C.int IntKind.i64 (12 : Int)]]) ((↑(9 : Nat) : Int)) ((0 : Int)) (x) ([C.int IntKind.u8 (0 : Int), C.int IntKind.u8 (0 : Int), C.int IntKind.u8 (0 : Int), C.int IntKind.u8 (0 : Int), C.int IntKind.u8 (0 : Int), C.int IntKind.u8 (0 : Int), C.int IntKind.u8 (0 : Int), C.int IntKind.u8 (0 : Int), C.int IntKind.u8 (0 : Int), C.int IntKind.u8 (0 : Int), C.int IntKind.u8 (0 : Int), C.int IntKind.u8 (0 : Int), C.int IntKind.u8 (0 : Int), C.int IntKind.u8 (0 : Int), C.int IntKind.u8 (0 : Int), C.int IntKind.u8 (0 : Int), C.int IntKind.i64 (-1 : Int), C.int IntKind.i64 (0 : Int), C.int IntKind.i64 (0 : Int)])) (f12_k3 n) := by kernel_rfl

/-- A line that is longer than the best one, and that an address has. -/
def polS (x b l : List C) : List C := if (decide ((cl l 16).toI > (cl b 16).toI) && decide (shN x (sub l 0 16) ≥ (cl l 16).toI)) = true then l else b
def lin0 : List C := [.int .u8 0, .int .u8 0, .int .u8 0, .int .u8 0, .int .u8 0, .int .u8 0, .int .u8 0, .int .u8 0, .int .u8 0, .int .u8 0, .int .u8 0, .int .u8 0, .int .u8 0, .int .u8 0, .int .u8 0, .int .u8 0, .int .i64 (-1), .int .i64 0, .int .i64 0]
@[irreducible] def polB (x : List C) : List C := tblN.foldl (polS x) lin0
def polP (x : List C) : Int := (cl (polB x) 17).toI
def polL (x : List C) : Int := (cl (polB x) 18).toI
theorem tblN_len : tblN.length = 9 := by kernel_rfl
theorem f12_out (n : Nat) (hn : 20 < n) (x : List C) : evFn tab FB nO false lv12 false n Try.f12 [.agg 24 x []] [] = some (.tup [.one (.c (.int .i64 (polP x))), .one (.c (.int .i64 (polL x)))], []) := by
  rw [f12_eq]
  have h9 := tblN_len
  refine (fold_loop (xs := tblN) (L := fun m i (b : List C) => evLoop false (f12_s3 n) m (f12_h3 tblN tblN.length i x b) (f12_k3 n)) (f := polS x) (E := fun b => f12_k3 n (.exit 0) (f12_x3_0 x b)) (fun _ _ => True)
    (fun m i b l hx hlt _ => by
      show evLoop false (f12_s3 n) (m + 1) _ _ = evLoop false (f12_s3 n) m _ _
      rw [f12_t3]
      simp only [lt_nat, inB_nat, Int.toNat_natCast, el_get hx, wrap_succ (i := i) (by omega), hlt, decide_true, bcond_t]
      unfold polS
      cases decide ((cl l 16).toI > (cl b 16).toI) <;> cases decide (shN x (sub l 0 16) ≥ (cl l 16).toI) <;> rfl)
    (fun _ _ _ _ _ _ => trivial)
    (fun m b _ => by
      show evLoop false (f12_s3 n) (m + 1) _ _ = _
      rw [f12_t3, lt_nat, bcond_no (by simp)])
    9 0 lin0 n (by omega) (by omega) trivial).trans ?_
  rw [f12_a3_0, List.drop_zero]
  unfold polP polL polB
  rfl
def e12 : En
  | [.agg 24 x []], [], k => k (.tup [.one (.c (.int .i64 (polP x))), .one (.c (.int .i64 (polL x)))]) []
  | _, _, _ => none
theorem es12 : ES Try.prog tab 12 e12 := by
  intro args h k x hh
  unfold e12 at hh
  split at hh
  · exact ⟨_, _, hh, fn12 sFB rfl (f12_out 21 (by omega) _)⟩
  · cases hh
def FC : Fun := mkF [(12, e12), (13, e13), (14, e14), (21, e21), (22, e22)]
theorem sFC : FSound Try.prog tab FC := mkF_sound (fun p hp => by
  simp only [List.mem_cons, List.not_mem_nil, or_false] at hp
  rcases hp with rfl | rfl | rfl | rfl | rfl
  · exact es12
  · exact es13
  · exact es14
  · exact es21
  · exact es22)
theorem f20_eq (n : Nat) (x : List C) (y : List C) (z : List C) : evFn tab FC nO false lv20 false n Try.f20 [.agg 27 x [], .agg 27 y [], .agg 24 z []] [] = bcond (IntKind.i64.wrap ((if eqL (sub x (0 : Nat) (16 : Nat)) z = true then (1 : Int) else (0 : Int)) - if eqL (sub y (0 : Nat) (16 : Nat)) z = true then (1 : Int) else (0 : Int)) != (0 : Int)) (some ((V.one (A.c (C.int IntKind.i64 (IntKind.i64.wrap ((if eqL (sub x (0 : Nat) (16 : Nat)) z = true then (1 : Int) else (0 : Int)) - if eqL (sub y (0 : Nat) (16 : Nat)) z = true then (1 : Int) else (0 : Int))))), []))) (bcond (scN (sub x (0 : Nat) (16 : Nat)) != scN (sub y (0 : Nat) (16 : Nat))) (bcond (decide (scN (sub x (0 : Nat) (16 : Nat)) < scN (sub y (0 : Nat) (16 : Nat)))) (some ((V.one (A.c (C.int IntKind.i64 (IntKind.i64.wrap ((1 : Int) - IntKind.i64.wrap ((2 : Int) * if decide (scN (sub x (0 : Nat) (16 : Nat)) < scN z) = true then (1 : Int) else (0 : Int)))))), []))) (some ((V.one (A.c (C.int IntKind.i64 (IntKind.i64.wrap (IntKind.i64.wrap ((2 : Int) * if decide (scN (sub y (0 : Nat) (16 : Nat)) < scN z) = true then (1 : Int) else (0 : Int)) - (1 : Int))))), [])))) (bcond (IntKind.i64.wrap ((if (cl y (16 : Nat)).toB = true then (1 : Int) else (0 : Int)) - if (cl x (16 : Nat)).toB = true then (1 : Int) else (0 : Int)) != (0 : Int)) (some ((V.one (A.c (C.int IntKind.i64 (IntKind.i64.wrap ((if (cl y (16 : Nat)).toB = true then (1 : Int) else (0 : Int)) - if (cl x (16 : Nat)).toB = true then (1 : Int) else (0 : Int))))), []))) (bcond (IntKind.i64.wrap ((if (cl x (17 : Nat)).toB = true then (1 : Int) else (0 : Int)) - if (cl y (17 : Nat)).toB = true then (1 : Int) else (0 : Int)) != (0 : Int)) (some ((V.one (A.c (C.int IntKind.i64 (IntKind.i64.wrap ((if (cl x (17 : Nat)).toB = true then (1 : Int) else (0 : Int)) - if (cl y (17 : Nat)).toB = true then (1 : Int) else (0 : Int))))), []))) (bcond (IntKind.i64.wrap ((if (polL (sub x (0 : Nat) (16 : Nat)) == polL z) = true then (1 : Int) else (0 : Int)) - if (polL (sub y (0 : Nat) (16 : Nat)) == polL z) = true then (1 : Int) else (0 : Int)) != (0 : Int)) (some ((V.one (A.c (C.int IntKind.i64 (IntKind.i64.wrap ((if (polL (sub x (0 : Nat) (16 : Nat)) == polL z) = true then (1 : Int) else (0 : Int)) - if (polL (sub y (0 : Nat) (16 : Nat)) == polL z) = true then (1 : Int) else (0 : Int))))), []))) (some ((V.one (A.c (C.int IntKind.i64 (IntKind.i64.wrap (shN (sub x (0 : Nat) (16 : Nat)) z - shN (sub y (0 : Nat) (16 : Nat)) z)))), []))))))) := by kernel_rfl

/-- A local address's own. -/
def ad (x : List C) : List C := sub x 0 16
def dep (x : List C) : Bool := (cl x 16).toB
def hom (x : List C) : Bool := (cl x 17).toB
def b2i (b : Bool) : Int := if b = true then 1 else 0
def dif2 (a b : Bool) : Int := IntKind.i64.wrap (b2i a - b2i b)
@[irreducible] def betN (x y z : List C) : Int :=
  bif dif2 (eqL (ad x) z) (eqL (ad y) z) != 0 then dif2 (eqL (ad x) z) (eqL (ad y) z)
  else bif scN (ad x) != scN (ad y) then
    bif decide (scN (ad x) < scN (ad y)) then IntKind.i64.wrap (1 - IntKind.i64.wrap (2 * b2i (decide (scN (ad x) < scN z)))) else IntKind.i64.wrap (IntKind.i64.wrap (2 * b2i (decide (scN (ad y) < scN z))) - 1)
  else bif dif2 (dep y) (dep x) != 0 then dif2 (dep y) (dep x)
  else bif dif2 (hom x) (hom y) != 0 then dif2 (hom x) (hom y)
  else bif dif2 (polL (ad x) == polL z) (polL (ad y) == polL z) != 0 then dif2 (polL (ad x) == polL z) (polL (ad y) == polL z)
  else IntKind.i64.wrap (shN (ad x) z - shN (ad y) z)
theorem bcond_r (b : Bool) (x y : Int) : bcond b (some ((.one (.c (.int .i64 x)), []) : R)) (some (.one (.c (.int .i64 y)), [])) = some (.one (.c (.int .i64 (bif b then x else y))), []) := by cases b <;> rfl
theorem f20_out (n : Nat) (x y z : List C) : evFn tab FC nO false lv20 false n Try.f20 [.agg 27 x [], .agg 27 y [], .agg 24 z []] [] = some (.one (.c (.int .i64 (betN x y z))), []) := by
  rw [f20_eq]
  simp only [bcond_r]
  unfold betN
  rfl
def e20 : En
  | [.agg 27 x [], .agg 27 y [], .agg 24 z []], [], k => k (.one (.c (.int .i64 (betN x y z)))) []
  | _, _, _ => none
theorem es20 : ES Try.prog tab 20 e20 := by
  intro args h k x hh
  unfold e20 at hh
  split at hh
  · exact ⟨_, _, hh, fn20 sFC rfl (f20_out 0 _ _ _)⟩
  · cases hh
def FD : Fun := mkF [(14, e14), (20, e20)]
theorem sFD : FSound Try.prog tab FD := mkF_sound (fun p hp => by
  simp only [List.mem_cons, List.not_mem_nil, or_false] at hp
  rcases hp with rfl | rfl
  · exact es14
  · exact es20)

end Go.Proofs.Ytdcdccdhdingbaa
