/- Fc -/
import Derived.Test.YtnbiincgplkmbaaFb
import Derived.KernelRfl
namespace Go.Proofs.Ytnbiincgplkmbaa
open Go Go.Eng
set_option maxRecDepth 100000
def FC : Fun := mkF [(17, e17), (18, e18), (19, e19)]
theorem sFC : FSound Try.prog tab FC := mkF_sound (fun p hp => by
  simp only [List.mem_cons, List.not_mem_nil, or_false] at hp
  rcases hp with rfl | rfl | rfl
  · exact es17
  · exact es18
  · exact es19)

noncomputable abbrev f21_c4 : Code := (loops (body Try.f21)).getD 0 .skip
noncomputable abbrev f21_s4 (n : Nat) : St → (X → St → Option R) → Option R := fun st k => evCode tab FC nO lv21 false n f21_c4 st k
noncomputable abbrev f21_k4 (n : Nat) : X → St → Option R := after tab FC nO lv21 false n (body Try.f21) 0 (endK tab false Try.f21)
abbrev f21_h4 (s3 : Int) (s16 : Int) (s17 : Int) (e0_0 : List (List C)) (b2_0 : Bool) (b2_1 : Int) (b2_2 : List (List C)) (b2_3 : Bool) (b2_4 : Bool) (b2_5 : List (List C)) (b2_6 : List (List C)) (b4_0 : Bool) (b4_1 : Int) (b4_2 : List (List C)) (b4_3 : Bool) (b4_4 : Bool) (b4_5 : List (List C)) (b4_6 : List (List C)) (b2_3_18 : List (List C)) (b2_6_19 : List (List C)) (b2_7 : List (List C)) (b4_3_21 : List (List C)) (b4_6_22 : List (List C)) (b4_7 : List (List C)) : St := { t := [((0 : Nat), V.one (A.ptr (Key.ext (0 : Nat)) (0 : Nat) (0 : Nat))), ((2 : Nat), V.one (A.ptr (Key.loc (2 : Nat) (0 : Nat)) (0 : Nat) (0 : Nat))), ((3 : Nat), V.one (A.c (C.int IntKind.i64 s3))), ((4 : Nat), V.one (A.ptr (Key.loc (4 : Nat) (0 : Nat)) (0 : Nat) (0 : Nat))), ((16 : Nat), V.one (A.c (C.int IntKind.i64 s16))), ((17 : Nat), V.one (A.c (C.int IntKind.i64 s17)))], h := [(Key.ext (0 : Nat), (0 : Nat), B.box (52 : Nat) [C.sl (5 : Nat) e0_0] []), (Key.loc (2 : Nat) (0 : Nat), (0 : Nat), B.box (34 : Nat) [C.bool b2_0, C.int IntKind.i64 b2_1, C.sl (9 : Nat) b2_2, C.bool b2_3, C.bool b2_4, C.sl (29 : Nat) b2_5, C.sl (42 : Nat) b2_6] [((2 : Nat), A.own (Key.loc (2 : Nat) (3 : Nat)) (0 : Nat) (9 : Nat)), ((5 : Nat), A.own (Key.loc (2 : Nat) (6 : Nat)) (0 : Nat) (29 : Nat)), ((6 : Nat), A.own (Key.loc (2 : Nat) (7 : Nat)) (0 : Nat) (42 : Nat))]), (Key.loc (4 : Nat) (0 : Nat), (0 : Nat), B.box (34 : Nat) [C.bool b4_0, C.int IntKind.i64 b4_1, C.sl (9 : Nat) b4_2, C.bool b4_3, C.bool b4_4, C.sl (29 : Nat) b4_5, C.sl (42 : Nat) b4_6] [((2 : Nat), A.own (Key.loc (4 : Nat) (3 : Nat)) (0 : Nat) (9 : Nat)), ((5 : Nat), A.own (Key.loc (4 : Nat) (6 : Nat)) (0 : Nat) (29 : Nat)), ((6 : Nat), A.own (Key.loc (4 : Nat) (7 : Nat)) (0 : Nat) (42 : Nat))]), (Key.loc (2 : Nat) (3 : Nat), (0 : Nat), B.arr (9 : Nat) true b2_3_18), (Key.loc (2 : Nat) (6 : Nat), (0 : Nat), B.arr (29 : Nat) true b2_6_19), (Key.loc (2 : Nat) (7 : Nat), (0 : Nat), B.arr (42 : Nat) true b2_7), (Key.loc (4 : Nat) (3 : Nat), (0 : Nat), B.arr (9 : Nat) true b4_3_21), (Key.loc (4 : Nat) (6 : Nat), (0 : Nat), B.arr (29 : Nat) true b4_6_22), (Key.loc (4 : Nat) (7 : Nat), (0 : Nat), B.arr (42 : Nat) true b4_7)] }
abbrev f21_x4_0 (s3 : Int) (e0_0 : List (List C)) (b2_0 : Bool) (b2_1 : Int) (b2_2 : List (List C)) (b2_3 : Bool) (b2_4 : Bool) (b2_5 : List (List C)) (b2_6 : List (List C)) (b4_0 : Bool) (b4_1 : Int) (b4_2 : List (List C)) (b4_3 : Bool) (b4_4 : Bool) (b4_5 : List (List C)) (b4_6 : List (List C)) (b2_3_16 : List (List C)) (b2_6_17 : List (List C)) (b2_7 : List (List C)) (b4_3_19 : List (List C)) (b4_6_20 : List (List C)) (b4_7 : List (List C)) : St := { t := [((0 : Nat), V.one (A.ptr (Key.ext (0 : Nat)) (0 : Nat) (0 : Nat))), ((2 : Nat), V.one (A.ptr (Key.loc (2 : Nat) (0 : Nat)) (0 : Nat) (0 : Nat))), ((3 : Nat), V.one (A.c (C.int IntKind.i64 s3))), ((4 : Nat), V.one (A.ptr (Key.loc (4 : Nat) (0 : Nat)) (0 : Nat) (0 : Nat)))], h := [(Key.ext (0 : Nat), (0 : Nat), B.box (52 : Nat) [C.sl (5 : Nat) e0_0] []), (Key.loc (2 : Nat) (0 : Nat), (0 : Nat), B.box (34 : Nat) [C.bool b2_0, C.int IntKind.i64 b2_1, C.sl (9 : Nat) b2_2, C.bool b2_3, C.bool b2_4, C.sl (29 : Nat) b2_5, C.sl (42 : Nat) b2_6] [((2 : Nat), A.own (Key.loc (2 : Nat) (3 : Nat)) (0 : Nat) (9 : Nat)), ((5 : Nat), A.own (Key.loc (2 : Nat) (6 : Nat)) (0 : Nat) (29 : Nat)), ((6 : Nat), A.own (Key.loc (2 : Nat) (7 : Nat)) (0 : Nat) (42 : Nat))]), (Key.loc (4 : Nat) (0 : Nat), (0 : Nat), B.box (34 : Nat) [C.bool b4_0, C.int IntKind.i64 b4_1, C.sl (9 : Nat) b4_2, C.bool b4_3, C.bool b4_4, C.sl (29 : Nat) b4_5, C.sl (42 : Nat) b4_6] [((2 : Nat), A.own (Key.loc (4 : Nat) (3 : Nat)) (0 : Nat) (9 : Nat)), ((5 : Nat), A.own (Key.loc (4 : Nat) (6 : Nat)) (0 : Nat) (29 : Nat)), ((6 : Nat), A.own (Key.loc (4 : Nat) (7 : Nat)) (0 : Nat) (42 : Nat))]), (Key.loc (2 : Nat) (3 : Nat), (0 : Nat), B.arr (9 : Nat) true b2_3_16), (Key.loc (2 : Nat) (6 : Nat), (0 : Nat), B.arr (29 : Nat) true b2_6_17), (Key.loc (2 : Nat) (7 : Nat), (0 : Nat), B.arr (42 : Nat) true b2_7), (Key.loc (4 : Nat) (3 : Nat), (0 : Nat), B.arr (9 : Nat) true b4_3_19), (Key.loc (4 : Nat) (6 : Nat), (0 : Nat), B.arr (29 : Nat) true b4_6_20), (Key.loc (4 : Nat) (7 : Nat), (0 : Nat), B.arr (42 : Nat) true b4_7)] }
noncomputable abbrev f21_c8 : Code := (loops (body Try.f21)).getD 1 .skip
noncomputable abbrev f21_s8 (n : Nat) : St → (X → St → Option R) → Option R := fun st k => evCode tab FC nO lv21 false n f21_c8 st k
noncomputable abbrev f21_k8 (n : Nat) : X → St → Option R := after tab FC nO lv21 false n (body Try.f21) 1 (endK tab false Try.f21)
abbrev f21_h8 (s3 : Int) (s29 : Int) (s30 : Int) (e0_0 : List (List C)) (b2_0 : Bool) (b2_1 : Int) (b2_2 : List (List C)) (b2_3 : Bool) (b2_4 : Bool) (b2_5 : List (List C)) (b2_6 : List (List C)) (b4_0 : Bool) (b4_1 : Int) (b4_2 : List (List C)) (b4_3 : Bool) (b4_4 : Bool) (b4_5 : List (List C)) (b4_6 : List (List C)) (b2_3_18 : List (List C)) (b2_6_19 : List (List C)) (b2_7 : List (List C)) (b4_3_21 : List (List C)) (b4_6_22 : List (List C)) (b4_7 : List (List C)) : St := { t := [((0 : Nat), V.one (A.ptr (Key.ext (0 : Nat)) (0 : Nat) (0 : Nat))), ((2 : Nat), V.one (A.ptr (Key.loc (2 : Nat) (0 : Nat)) (0 : Nat) (0 : Nat))), ((3 : Nat), V.one (A.c (C.int IntKind.i64 s3))), ((4 : Nat), V.one (A.ptr (Key.loc (4 : Nat) (0 : Nat)) (0 : Nat) (0 : Nat))), ((29 : Nat), V.one (A.c (C.int IntKind.i64 s29))), ((30 : Nat), V.one (A.c (C.int IntKind.i64 s30)))], h := [(Key.ext (0 : Nat), (0 : Nat), B.box (52 : Nat) [C.sl (5 : Nat) e0_0] []), (Key.loc (2 : Nat) (0 : Nat), (0 : Nat), B.box (34 : Nat) [C.bool b2_0, C.int IntKind.i64 b2_1, C.sl (9 : Nat) b2_2, C.bool b2_3, C.bool b2_4, C.sl (29 : Nat) b2_5, C.sl (42 : Nat) b2_6] [((2 : Nat), A.own (Key.loc (2 : Nat) (3 : Nat)) (0 : Nat) (9 : Nat)), ((5 : Nat), A.own (Key.loc (2 : Nat) (6 : Nat)) (0 : Nat) (29 : Nat)), ((6 : Nat), A.own (Key.loc (2 : Nat) (7 : Nat)) (0 : Nat) (42 : Nat))]), (Key.loc (4 : Nat) (0 : Nat), (0 : Nat), B.box (34 : Nat) [C.bool b4_0, C.int IntKind.i64 b4_1, C.sl (9 : Nat) b4_2, C.bool b4_3, C.bool b4_4, C.sl (29 : Nat) b4_5, C.sl (42 : Nat) b4_6] [((2 : Nat), A.own (Key.loc (4 : Nat) (3 : Nat)) (0 : Nat) (9 : Nat)), ((5 : Nat), A.own (Key.loc (4 : Nat) (6 : Nat)) (0 : Nat) (29 : Nat)), ((6 : Nat), A.own (Key.loc (4 : Nat) (7 : Nat)) (0 : Nat) (42 : Nat))]), (Key.loc (2 : Nat) (3 : Nat), (0 : Nat), B.arr (9 : Nat) true b2_3_18), (Key.loc (2 : Nat) (6 : Nat), (0 : Nat), B.arr (29 : Nat) true b2_6_19), (Key.loc (2 : Nat) (7 : Nat), (0 : Nat), B.arr (42 : Nat) true b2_7), (Key.loc (4 : Nat) (3 : Nat), (0 : Nat), B.arr (9 : Nat) true b4_3_21), (Key.loc (4 : Nat) (6 : Nat), (0 : Nat), B.arr (29 : Nat) true b4_6_22), (Key.loc (4 : Nat) (7 : Nat), (0 : Nat), B.arr (42 : Nat) true b4_7)] }
abbrev f21_x8_2 (s3 : Int) (e0_0 : List (List C)) (b2_0 : Bool) (b2_1 : Int) (b2_2 : List (List C)) (b2_3 : Bool) (b2_4 : Bool) (b2_5 : List (List C)) (b2_6 : List (List C)) (b4_0 : Bool) (b4_1 : Int) (b4_2 : List (List C)) (b4_3 : Bool) (b4_4 : Bool) (b4_5 : List (List C)) (b4_6 : List (List C)) (b2_3_16 : List (List C)) (b2_6_17 : List (List C)) (b2_7 : List (List C)) (b4_3_19 : List (List C)) (b4_6_20 : List (List C)) (b4_7 : List (List C)) : St := { t := [((0 : Nat), V.one (A.ptr (Key.ext (0 : Nat)) (0 : Nat) (0 : Nat))), ((2 : Nat), V.one (A.ptr (Key.loc (2 : Nat) (0 : Nat)) (0 : Nat) (0 : Nat))), ((3 : Nat), V.one (A.c (C.int IntKind.i64 s3))), ((4 : Nat), V.one (A.ptr (Key.loc (4 : Nat) (0 : Nat)) (0 : Nat) (0 : Nat)))], h := [(Key.ext (0 : Nat), (0 : Nat), B.box (52 : Nat) [C.sl (5 : Nat) e0_0] []), (Key.loc (2 : Nat) (0 : Nat), (0 : Nat), B.box (34 : Nat) [C.bool b2_0, C.int IntKind.i64 b2_1, C.sl (9 : Nat) b2_2, C.bool b2_3, C.bool b2_4, C.sl (29 : Nat) b2_5, C.sl (42 : Nat) b2_6] [((2 : Nat), A.own (Key.loc (2 : Nat) (3 : Nat)) (0 : Nat) (9 : Nat)), ((5 : Nat), A.own (Key.loc (2 : Nat) (6 : Nat)) (0 : Nat) (29 : Nat)), ((6 : Nat), A.own (Key.loc (2 : Nat) (7 : Nat)) (0 : Nat) (42 : Nat))]), (Key.loc (4 : Nat) (0 : Nat), (0 : Nat), B.box (34 : Nat) [C.bool b4_0, C.int IntKind.i64 b4_1, C.sl (9 : Nat) b4_2, C.bool b4_3, C.bool b4_4, C.sl (29 : Nat) b4_5, C.sl (42 : Nat) b4_6] [((2 : Nat), A.own (Key.loc (4 : Nat) (3 : Nat)) (0 : Nat) (9 : Nat)), ((5 : Nat), A.own (Key.loc (4 : Nat) (6 : Nat)) (0 : Nat) (29 : Nat)), ((6 : Nat), A.own (Key.loc (4 : Nat) (7 : Nat)) (0 : Nat) (42 : Nat))]), (Key.loc (2 : Nat) (3 : Nat), (0 : Nat), B.arr (9 : Nat) true b2_3_16), (Key.loc (2 : Nat) (6 : Nat), (0 : Nat), B.arr (29 : Nat) true b2_6_17), (Key.loc (2 : Nat) (7 : Nat), (0 : Nat), B.arr (42 : Nat) true b2_7), (Key.loc (4 : Nat) (3 : Nat), (0 : Nat), B.arr (9 : Nat) true b4_3_19), (Key.loc (4 : Nat) (6 : Nat), (0 : Nat), B.arr (29 : Nat) true b4_6_20), (Key.loc (4 : Nat) (7 : Nat), (0 : Nat), B.arr (42 : Nat) true b4_7)] }
noncomputable abbrev f21_c12 : Code := (loops (body Try.f21)).getD 2 .skip
noncomputable abbrev f21_s12 (n : Nat) : St → (X → St → Option R) → Option R := fun st k => evCode tab FC nO lv21 false n f21_c12 st k
noncomputable abbrev f21_k12 (n : Nat) : X → St → Option R := after tab FC nO lv21 false n (body Try.f21) 2 (endK tab false Try.f21)
abbrev f21_h12 (s42 : Int) (s43 : Int) (e0_0 : List (List C)) (b2_0 : Bool) (b2_1 : Int) (b2_2 : List (List C)) (b2_3 : Bool) (b2_4 : Bool) (b2_5 : List (List C)) (b2_6 : List (List C)) (b4_0 : Bool) (b4_1 : Int) (b4_2 : List (List C)) (b4_3 : Bool) (b4_4 : Bool) (b4_5 : List (List C)) (b4_6 : List (List C)) (b2_3_17 : List (List C)) (b2_6_18 : List (List C)) (b2_7 : List (List C)) (b4_3_20 : List (List C)) (b4_6_21 : List (List C)) (b4_7 : List (List C)) : St := { t := [((0 : Nat), V.one (A.ptr (Key.ext (0 : Nat)) (0 : Nat) (0 : Nat))), ((2 : Nat), V.one (A.ptr (Key.loc (2 : Nat) (0 : Nat)) (0 : Nat) (0 : Nat))), ((4 : Nat), V.one (A.ptr (Key.loc (4 : Nat) (0 : Nat)) (0 : Nat) (0 : Nat))), ((42 : Nat), V.one (A.c (C.int IntKind.i64 s42))), ((43 : Nat), V.one (A.c (C.int IntKind.i64 s43)))], h := [(Key.ext (0 : Nat), (0 : Nat), B.box (52 : Nat) [C.sl (5 : Nat) e0_0] []), (Key.loc (2 : Nat) (0 : Nat), (0 : Nat), B.box (34 : Nat) [C.bool b2_0, C.int IntKind.i64 b2_1, C.sl (9 : Nat) b2_2, C.bool b2_3, C.bool b2_4, C.sl (29 : Nat) b2_5, C.sl (42 : Nat) b2_6] [((2 : Nat), A.own (Key.loc (2 : Nat) (3 : Nat)) (0 : Nat) (9 : Nat)), ((5 : Nat), A.own (Key.loc (2 : Nat) (6 : Nat)) (0 : Nat) (29 : Nat)), ((6 : Nat), A.own (Key.loc (2 : Nat) (7 : Nat)) (0 : Nat) (42 : Nat))]), (Key.loc (4 : Nat) (0 : Nat), (0 : Nat), B.box (34 : Nat) [C.bool b4_0, C.int IntKind.i64 b4_1, C.sl (9 : Nat) b4_2, C.bool b4_3, C.bool b4_4, C.sl (29 : Nat) b4_5, C.sl (42 : Nat) b4_6] [((2 : Nat), A.own (Key.loc (4 : Nat) (3 : Nat)) (0 : Nat) (9 : Nat)), ((5 : Nat), A.own (Key.loc (4 : Nat) (6 : Nat)) (0 : Nat) (29 : Nat)), ((6 : Nat), A.own (Key.loc (4 : Nat) (7 : Nat)) (0 : Nat) (42 : Nat))]), (Key.loc (2 : Nat) (3 : Nat), (0 : Nat), B.arr (9 : Nat) true b2_3_17), (Key.loc (2 : Nat) (6 : Nat), (0 : Nat), B.arr (29 : Nat) true b2_6_18), (Key.loc (2 : Nat) (7 : Nat), (0 : Nat), B.arr (42 : Nat) true b2_7), (Key.loc (4 : Nat) (3 : Nat), (0 : Nat), B.arr (9 : Nat) true b4_3_20), (Key.loc (4 : Nat) (6 : Nat), (0 : Nat), B.arr (29 : Nat) true b4_6_21), (Key.loc (4 : Nat) (7 : Nat), (0 : Nat), B.arr (42 : Nat) true b4_7)] }
abbrev f21_x12_4 (e0_0 : List (List C)) (b2_0 : Bool) (b2_1 : Int) (b2_2 : List (List C)) (b2_3 : Bool) (b2_4 : Bool) (b2_5 : List (List C)) (b2_6 : List (List C)) (b4_0 : Bool) (b4_1 : Int) (b4_2 : List (List C)) (b4_3 : Bool) (b4_4 : Bool) (b4_5 : List (List C)) (b4_6 : List (List C)) (b2_3_15 : List (List C)) (b2_6_16 : List (List C)) (b2_7 : List (List C)) (b4_3_18 : List (List C)) (b4_6_19 : List (List C)) (b4_7 : List (List C)) : St := { t := [((2 : Nat), V.one (A.ptr (Key.loc (2 : Nat) (0 : Nat)) (0 : Nat) (0 : Nat))), ((4 : Nat), V.one (A.ptr (Key.loc (4 : Nat) (0 : Nat)) (0 : Nat) (0 : Nat)))], h := [(Key.ext (0 : Nat), (0 : Nat), B.box (52 : Nat) [C.sl (5 : Nat) e0_0] []), (Key.loc (2 : Nat) (0 : Nat), (0 : Nat), B.box (34 : Nat) [C.bool b2_0, C.int IntKind.i64 b2_1, C.sl (9 : Nat) b2_2, C.bool b2_3, C.bool b2_4, C.sl (29 : Nat) b2_5, C.sl (42 : Nat) b2_6] [((2 : Nat), A.own (Key.loc (2 : Nat) (3 : Nat)) (0 : Nat) (9 : Nat)), ((5 : Nat), A.own (Key.loc (2 : Nat) (6 : Nat)) (0 : Nat) (29 : Nat)), ((6 : Nat), A.own (Key.loc (2 : Nat) (7 : Nat)) (0 : Nat) (42 : Nat))]), (Key.loc (4 : Nat) (0 : Nat), (0 : Nat), B.box (34 : Nat) [C.bool b4_0, C.int IntKind.i64 b4_1, C.sl (9 : Nat) b4_2, C.bool b4_3, C.bool b4_4, C.sl (29 : Nat) b4_5, C.sl (42 : Nat) b4_6] [((2 : Nat), A.own (Key.loc (4 : Nat) (3 : Nat)) (0 : Nat) (9 : Nat)), ((5 : Nat), A.own (Key.loc (4 : Nat) (6 : Nat)) (0 : Nat) (29 : Nat)), ((6 : Nat), A.own (Key.loc (4 : Nat) (7 : Nat)) (0 : Nat) (42 : Nat))]), (Key.loc (2 : Nat) (3 : Nat), (0 : Nat), B.arr (9 : Nat) true b2_3_15), (Key.loc (2 : Nat) (6 : Nat), (0 : Nat), B.arr (29 : Nat) true b2_6_16), (Key.loc (2 : Nat) (7 : Nat), (0 : Nat), B.arr (42 : Nat) true b2_7), (Key.loc (4 : Nat) (3 : Nat), (0 : Nat), B.arr (9 : Nat) true b4_3_18), (Key.loc (4 : Nat) (6 : Nat), (0 : Nat), B.arr (29 : Nat) true b4_6_19), (Key.loc (4 : Nat) (7 : Nat), (0 : Nat), B.arr (42 : Nat) true b4_7)] }
theorem f21_t4 (n m : Nat) (k : X → St → Option R) (s3 : Int) (s16 : Int) (s17 : Int) (e0_0 : List (List C)) (b2_0 : Bool) (b2_1 : Int) (b2_2 : List (List C)) (b2_3 : Bool) (b2_4 : Bool) (b2_5 : List (List C)) (b2_6 : List (List C)) (b4_0 : Bool) (b4_1 : Int) (b4_2 : List (List C)) (b4_3 : Bool) (b4_4 : Bool) (b4_5 : List (List C)) (b4_6 : List (List C)) (b2_3_18 : List (List C)) (b2_6_19 : List (List C)) (b2_7 : List (List C)) (b4_3_21 : List (List C)) (b4_6_22 : List (List C)) (b4_7 : List (List C)) : evLoop false (f21_s4 n) (m + 1) (f21_h4 s3 s16 s17 e0_0 b2_0 b2_1 b2_2 b2_3 b2_4 b2_5 b2_6 b4_0 b4_1 b4_2 b4_3 b4_4 b4_5 b4_6 b2_3_18 b2_6_19 b2_7 b4_3_21 b4_6_22 b4_7) k = bcond (decide (s17 < s16)) (bcond (isB e0_0 && e0_0.length.ble lim40) (bcond (roomOk (b4_3_21.length + [[C.str (mkS (tx (unB e0_0)))]].length) (16 : Nat)) (evLoop false (f21_s4 n) m (f21_h4 (s3) (s16) (IntKind.i64.wrap (s17 + (1 : Int))) (toB (tr (unB e0_0))) (b2_0) (b2_1) (b2_2) (b2_3) (b2_4) (b2_5) (b2_6) (b4_0) (b4_1) (b4_2) (b4_3) (b4_4) (b4_5) (b4_6) (b2_3_18) (b2_6_19) (b2_7) (b4_3_21 ++ [[C.str (mkS (tx (unB e0_0)))]]) (b4_6_22) (b4_7)) k) (none)) (none)) (k (X.exit 0) (f21_x4_0 (s3) (e0_0) (b2_0) (b2_1) (b2_2) (b2_3) (b2_4) (b2_5) (b2_6) (b4_0) (b4_1) (b4_2) (b4_3) (b4_4) (b4_5) (b4_6) (b2_3_18) (b2_6_19) (b2_7) (b4_3_21) (b4_6_22) (b4_7))) := by kernel_rfl
theorem f21_a4_0 (n : Nat) (s3 : Int) (e0_0 : List (List C)) (b2_0 : Bool) (b2_1 : Int) (b2_2 : List (List C)) (b2_3 : Bool) (b2_4 : Bool) (b2_5 : List (List C)) (b2_6 : List (List C)) (b4_0 : Bool) (b4_1 : Int) (b4_2 : List (List C)) (b4_3 : Bool) (b4_4 : Bool) (b4_5 : List (List C)) (b4_6 : List (List C)) (b2_3_16 : List (List C)) (b2_6_17 : List (List C)) (b2_7 : List (List C)) (b4_3_19 : List (List C)) (b4_6_20 : List (List C)) (b4_7 : List (List C)) : f21_k4 n (X.exit 0) (f21_x4_0 s3 e0_0 b2_0 b2_1 b2_2 b2_3 b2_4 b2_5 b2_6 b4_0 b4_1 b4_2 b4_3 b4_4 b4_5 b4_6 b2_3_16 b2_6_17 b2_7 b4_3_19 b4_6_20 b4_7) = evLoop false (f21_s8 n) n (f21_h8 (s3) (iand IntKind.i64 (ishr IntKind.i64 s3 (4 : Int)) (3 : Int)) ((0 : Int)) (e0_0) (b2_0) (b2_1) (b2_2) (b2_3) (b2_4) (b2_5) (b2_6) (b4_0) (b4_1) (b4_2) (b4_3) (b4_4) (b4_5) (b4_6) (b2_3_16) (b2_6_17) (b2_7) (b4_3_19) (b4_6_20) (b4_7)) (f21_k8 n) := by kernel_rfl
theorem f21_t8 (n m : Nat) (k : X → St → Option R) (s3 : Int) (s29 : Int) (s30 : Int) (e0_0 : List (List C)) (b2_0 : Bool) (b2_1 : Int) (b2_2 : List (List C)) (b2_3 : Bool) (b2_4 : Bool) (b2_5 : List (List C)) (b2_6 : List (List C)) (b4_0 : Bool) (b4_1 : Int) (b4_2 : List (List C)) (b4_3 : Bool) (b4_4 : Bool) (b4_5 : List (List C)) (b4_6 : List (List C)) (b2_3_18 : List (List C)) (b2_6_19 : List (List C)) (b2_7 : List (List C)) (b4_3_21 : List (List C)) (b4_6_22 : List (List C)) (b4_7 : List (List C)) : evLoop false (f21_s8 n) (m + 1) (f21_h8 s3 s29 s30 e0_0 b2_0 b2_1 b2_2 b2_3 b2_4 b2_5 b2_6 b4_0 b4_1 b4_2 b4_3 b4_4 b4_5 b4_6 b2_3_18 b2_6_19 b2_7 b4_3_21 b4_6_22 b4_7) k = bcond (decide (s30 < s29)) (bcond (isB e0_0 && e0_0.length.ble lim40) (bcond (roomOk (b4_6_22.length + [adr (unB e0_0)].length) (16 : Nat)) (evLoop false (f21_s8 n) m (f21_h8 (s3) (s29) (IntKind.i64.wrap (s30 + (1 : Int))) (toB (List.drop (16 : Nat) (unB e0_0))) (b2_0) (b2_1) (b2_2) (b2_3) (b2_4) (b2_5) (b2_6) (b4_0) (b4_1) (b4_2) (b4_3) (b4_4) (b4_5) (b4_6) (b2_3_18) (b2_6_19) (b2_7) (b4_3_21) (b4_6_22 ++ [adr (unB e0_0)]) (b4_7)) k) (none)) (none)) (k (X.exit 2) (f21_x8_2 (s3) (e0_0) (b2_0) (b2_1) (b2_2) (b2_3) (b2_4) (b2_5) (b2_6) (b4_0) (b4_1) (b4_2) (b4_3) (b4_4) (b4_5) (b4_6) (b2_3_18) (b2_6_19) (b2_7) (b4_3_21) (b4_6_22) (b4_7))) := by kernel_rfl
theorem f21_a8_2 (n : Nat) (s3 : Int) (e0_0 : List (List C)) (b2_0 : Bool) (b2_1 : Int) (b2_2 : List (List C)) (b2_3 : Bool) (b2_4 : Bool) (b2_5 : List (List C)) (b2_6 : List (List C)) (b4_0 : Bool) (b4_1 : Int) (b4_2 : List (List C)) (b4_3 : Bool) (b4_4 : Bool) (b4_5 : List (List C)) (b4_6 : List (List C)) (b2_3_16 : List (List C)) (b2_6_17 : List (List C)) (b2_7 : List (List C)) (b4_3_19 : List (List C)) (b4_6_20 : List (List C)) (b4_7 : List (List C)) : f21_k8 n (X.exit 2) (f21_x8_2 s3 e0_0 b2_0 b2_1 b2_2 b2_3 b2_4 b2_5 b2_6 b4_0 b4_1 b4_2 b4_3 b4_4 b4_5 b4_6 b2_3_16 b2_6_17 b2_7 b4_3_19 b4_6_20 b4_7) = evLoop false (f21_s12 n) n (f21_h12 (iand IntKind.i64 (ishr IntKind.i64 s3 (6 : Int)) (3 : Int)) ((0 : Int)) (e0_0) (b2_0) (b2_1) (b2_2) (b2_3) (b2_4) (b2_5) (b2_6) (b4_0) (b4_1) (b4_2) (b4_3) (b4_4) (b4_5) (b4_6) (b2_3_16) (b2_6_17) (b2_7) (b4_3_19) (b4_6_20) (b4_7)) (f21_k12 n) := by kernel_rfl
theorem f21_t12 (n m : Nat) (k : X → St → Option R) (s42 : Int) (s43 : Int) (e0_0 : List (List C)) (b2_0 : Bool) (b2_1 : Int) (b2_2 : List (List C)) (b2_3 : Bool) (b2_4 : Bool) (b2_5 : List (List C)) (b2_6 : List (List C)) (b4_0 : Bool) (b4_1 : Int) (b4_2 : List (List C)) (b4_3 : Bool) (b4_4 : Bool) (b4_5 : List (List C)) (b4_6 : List (List C)) (b2_3_17 : List (List C)) (b2_6_18 : List (List C)) (b2_7 : List (List C)) (b4_3_20 : List (List C)) (b4_6_21 : List (List C)) (b4_7 : List (List C)) : evLoop false (f21_s12 n) (m + 1) (f21_h12 s42 s43 e0_0 b2_0 b2_1 b2_2 b2_3 b2_4 b2_5 b2_6 b4_0 b4_1 b4_2 b4_3 b4_4 b4_5 b4_6 b2_3_17 b2_6_18 b2_7 b4_3_20 b4_6_21 b4_7) k = bcond (decide (s43 < s42)) (bcond (isB e0_0 && e0_0.length.ble lim40) (bcond (roomOk (b4_7.length + [splice [C.int IntKind.u8 (0 : Int), C.int IntKind.u8 (0 : Int), C.int IntKind.u8 (0 : Int), C.int IntKind.u8 (0 : Int), C.int IntKind.u8 (0 : Int), C.int IntKind.u8 (0 : Int), C.int IntKind.u8 (0 : Int), C.int IntKind.u8 (0 : Int), C.int IntKind.u8 (0 : Int), C.int IntKind.u8 (0 : Int), C.int IntKind.u8 (0 : Int), C.int IntKind.u8 (0 : Int), C.int IntKind.u8 (0 : Int), C.int IntKind.u8 (0 : Int), C.int IntKind.u8 (0 : Int), C.int IntKind.u8 (0 : Int), C.bool false, C.bool false] (0 : Nat) (adr (unB e0_0))].length) (18 : Nat)) (evLoop false (f21_s12 n) m (f21_h12 (s42) (IntKind.i64.wrap (s43 + (1 : Int))) (toB (List.drop (16 : Nat) (unB e0_0))) (b2_0) (b2_1) (b2_2) (b2_3) (b2_4) (b2_5) (b2_6) (b4_0) (b4_1) (b4_2) (b4_3) (b4_4) (b4_5) (b4_6) (b2_3_17) (b2_6_18) (b2_7) (b4_3_20) (b4_6_21) (b4_7 ++ [splice [C.int IntKind.u8 (0 : Int), C.int IntKind.u8 (0 : Int), C.int IntKind.u8 (0 : Int), C.int IntKind.u8 (0 : Int), C.int IntKind.u8 (0 : Int), C.int IntKind.u8 (0 : Int), C.int IntKind.u8 (0 : Int), C.int IntKind.u8 (0 : Int), C.int IntKind.u8 (0 : Int), C.int IntKind.u8 (0 : Int), C.int IntKind.u8 (0 : Int), C.int IntKind.u8 (0 : Int), C.int IntKind.u8 (0 : Int), C.int IntKind.u8 (0 : Int), C.int IntKind.u8 (0 : Int), C.int IntKind.u8 (0 : Int), C.bool false, C.bool false] (0 : Nat) (adr (unB e0_0))])) k) (none)) (none)) (k (X.exit 4) (f21_x12_4 (e0_0) (b2_0) (b2_1) (b2_2) (b2_3) (b2_4) (b2_5) (b2_6) (b4_0) (b4_1) (b4_2) (b4_3) (b4_4) (b4_5) (b4_6) (b2_3_17) (b2_6_18) (b2_7) (b4_3_20) (b4_6_21) (b4_7))) := by kernel_rfl
theorem f21_a12_4 (n : Nat) (e0_0 : List (List C)) (b2_0 : Bool) (b2_1 : Int) (b2_2 : List (List C)) (b2_3 : Bool) (b2_4 : Bool) (b2_5 : List (List C)) (b2_6 : List (List C)) (b4_0 : Bool) (b4_1 : Int) (b4_2 : List (List C)) (b4_3 : Bool) (b4_4 : Bool) (b4_5 : List (List C)) (b4_6 : List (List C)) (b2_3_15 : List (List C)) (b2_6_16 : List (List C)) (b2_7 : List (List C)) (b4_3_18 : List (List C)) (b4_6_19 : List (List C)) (b4_7 : List (List C)) : f21_k12 n (X.exit 4) (f21_x12_4 e0_0 b2_0 b2_1 b2_2 b2_3 b2_4 b2_5 b2_6 b4_0 b4_1 b4_2 b4_3 b4_4 b4_5 b4_6 b2_3_15 b2_6_16 b2_7 b4_3_18 b4_6_19 b4_7) = some ((V.agg (34 : Nat) [C.bool b4_0, C.int IntKind.i64 b4_1, C.sl (9 : Nat) b4_3_18, C.bool b4_3, C.bool b4_4, C.sl (29 : Nat) b4_6_19, C.sl (42 : Nat) b4_7] [], [(Key.ext (0 : Nat), (0 : Nat), B.box (52 : Nat) [C.sl (5 : Nat) e0_0] [])])) := by kernel_rfl
theorem f21_eq (n : Nat) (xs : List (List C)) : evFn tab FC nO false lv21 false n Try.f21 [.one (.ptr (.ext 0) 0 0)] [(.ext 0, (0, .box 52 [.sl 5 xs] []))] = bcond (isB xs && (decide ((0 : Int) ≤ (1 : Int)) && (decide ((1 : Int) ≤ (7 : Int)) && xs.length.ble lim40))) (evLoop false (f21_s4 n) n (f21_h4 (numB (List.take (1 : Nat) (unB xs))) (iand IntKind.i64 (ishr IntKind.i64 (numB (List.take (1 : Nat) (unB xs))) (2 : Int)) (3 : Int)) ((0 : Int)) (toB (List.drop (1 : Nat) (unB xs))) (false) ((0 : Int)) ([]) (false) (false) ([]) ([]) (false) ((0 : Int)) ([]) (decide (iand IntKind.i64 (numB (List.take (1 : Nat) (unB xs))) (1 : Int) > (0 : Int))) (decide (iand IntKind.i64 (numB (List.take (1 : Nat) (unB xs))) (2 : Int) > (0 : Int))) ([]) ([]) ([]) ([]) ([]) ([]) ([]) ([])) (f21_k4 n)) (none) := by kernel_rfl


/-- Texts and addresses, one behind the other. -/
def trs : Nat → List UInt8 → List UInt8
  | 0, l => l
  | k + 1, l => tr (trs k l)
def txs : Nat → List UInt8 → List (List C)
  | 0, _ => []
  | k + 1, l => txs k l ++ [[C.str (mkS (tx (trs k l)))]]
def dr16 : Nat → List UInt8 → List UInt8
  | 0, l => l
  | k + 1, l => (dr16 k l).drop 16
def ads : Nat → List UInt8 → List (List C)
  | 0, _ => []
  | k + 1, l => ads k l ++ [adr (dr16 k l)]
def loc (l : List UInt8) : List C := adr l ++ [C.bool false, C.bool false]
def los : Nat → List UInt8 → List (List C)
  | 0, _ => []
  | k + 1, l => los k l ++ [loc (dr16 k l)]
theorem trs_len : ∀ (k : Nat) (l : List UInt8), (trs k l).length ≤ l.length
  | 0, _ => Nat.le_refl _
  | k + 1, l => by
    have := trs_len k l
    simp only [trs, tr, List.length_drop]
    omega
theorem dr16_len : ∀ (k : Nat) (l : List UInt8), (dr16 k l).length ≤ l.length
  | 0, _ => Nat.le_refl _
  | k + 1, l => by
    have := dr16_len k l
    simp only [dr16, List.length_drop]
    omega
theorem txs_len : ∀ (k : Nat) (l : List UInt8), (txs k l).length = k
  | 0, _ => rfl
  | k + 1, l => by simp [txs, txs_len k l]
theorem ads_len : ∀ (k : Nat) (l : List UInt8), (ads k l).length = k
  | 0, _ => rfl
  | k + 1, l => by simp [ads, ads_len k l]
theorem los_len : ∀ (k : Nat) (l : List UInt8), (los k l).length = k
  | 0, _ => rfl
  | k + 1, l => by simp [los, los_len k l]
theorem adr_len (l : List UInt8) : (adr l).length = 16 := by
  have : (l.take 16).length ≤ 16 := List.length_take_le _ _
  simp only [adr, List.length_append, List.length_map, List.length_replicate]
  omega
theorem okxs (l : List UInt8) (h : l.length ≤ lim40) : (isB (toB l) && Nat.ble (toB l).length lim40) = true := by
  rw [isB_toB, toB_len, Bool.true_and, Nat.ble_eq]
  exact h
theorem loc_eq (l : List UInt8) : splice [C.int IntKind.u8 0, C.int IntKind.u8 0, C.int IntKind.u8 0, C.int IntKind.u8 0, C.int IntKind.u8 0, C.int IntKind.u8 0, C.int IntKind.u8 0, C.int IntKind.u8 0, C.int IntKind.u8 0, C.int IntKind.u8 0, C.int IntKind.u8 0, C.int IntKind.u8 0, C.int IntKind.u8 0, C.int IntKind.u8 0, C.int IntKind.u8 0, C.int IntKind.u8 0, C.bool false, C.bool false] 0 (adr l) = loc l := by
  unfold splice
  rw [adr_len]
  rfl

theorem f21_L4 (n : Nat) (k : X → St → Option R) (s3 : Int) (b3 b4 : Bool) (c : Nat) (hc : c ≤ 3) (l : List UInt8) (hl : l.length ≤ lim40) (m : Nat) (hm : c < m) :
    evLoop false (f21_s4 n) m (f21_h4 s3 c 0 (toB l) false 0 [] false false [] [] false 0 [] b3 b4 [] [] [] [] [] [] [] []) k =
      k (X.exit 0) (f21_x4_0 s3 (toB (trs c l)) false 0 [] false false [] [] false 0 [] b3 b4 [] [] [] [] [] (txs c l) [] []) :=
  fold_loop (xs := List.range c) (L := fun m i (_ : Unit) => evLoop false (f21_s4 n) m (f21_h4 s3 c i (toB (trs i l)) false 0 [] false false [] [] false 0 [] b3 b4 [] [] [] [] [] (txs i l) [] []) k) (f := fun _ _ => ())
    (E := fun _ => k (X.exit 0) (f21_x4_0 s3 (toB (trs c l)) false 0 [] false false [] [] false 0 [] b3 b4 [] [] [] [] [] (txs c l) [] [])) (fun _ _ => True)
    (fun m i _ x hx hlt _ => by
      show evLoop false (f21_s4 n) (m + 1) _ k = evLoop false (f21_s4 n) m _ k
      simp only [List.length_range] at hlt
      have ht := trs_len i l
      rw [f21_t4]
      simp only [lt_nat, hlt, decide_true, bcond_t, okxs (trs i l) (by omega), unB_toB, wrap_succ (i := i) (by omega)]
      rw [bcond_of (roomOk_of (by rw [txs_len]; simp; omega) (by rw [txs_len]; simp; omega))]
      rfl)
    (fun _ _ _ _ _ _ => trivial)
    (fun m _ _ => by
      show evLoop false (f21_s4 n) (m + 1) _ k = _
      rw [f21_t4, List.length_range, lt_nat, bcond_no (by simp)])
    c 0 () m (by simp) hm trivial
theorem f21_L8 (n : Nat) (k : X → St → Option R) (s3 : Int) (b3 b4 : Bool) (c : Nat) (hc : c ≤ 3) (l : List UInt8) (ts : List (List C)) (hl : l.length ≤ lim40) (m : Nat) (hm : c < m) :
    evLoop false (f21_s8 n) m (f21_h8 s3 c 0 (toB l) false 0 [] false false [] [] false 0 [] b3 b4 [] [] [] [] [] ts [] []) k =
      k (X.exit 2) (f21_x8_2 s3 (toB (dr16 c l)) false 0 [] false false [] [] false 0 [] b3 b4 [] [] [] [] [] ts (ads c l) []) :=
  fold_loop (xs := List.range c) (L := fun m i (_ : Unit) => evLoop false (f21_s8 n) m (f21_h8 s3 c i (toB (dr16 i l)) false 0 [] false false [] [] false 0 [] b3 b4 [] [] [] [] [] ts (ads i l) []) k) (f := fun _ _ => ())
    (E := fun _ => k (X.exit 2) (f21_x8_2 s3 (toB (dr16 c l)) false 0 [] false false [] [] false 0 [] b3 b4 [] [] [] [] [] ts (ads c l) [])) (fun _ _ => True)
    (fun m i _ x hx hlt _ => by
      show evLoop false (f21_s8 n) (m + 1) _ k = evLoop false (f21_s8 n) m _ k
      simp only [List.length_range] at hlt
      have ht := dr16_len i l
      rw [f21_t8]
      simp only [lt_nat, hlt, decide_true, bcond_t, okxs (dr16 i l) (by omega), unB_toB, wrap_succ (i := i) (by omega)]
      rw [bcond_of (roomOk_of (by rw [ads_len]; simp; omega) (by rw [ads_len]; simp; omega))]
      rfl)
    (fun _ _ _ _ _ _ => trivial)
    (fun m _ _ => by
      show evLoop false (f21_s8 n) (m + 1) _ k = _
      rw [f21_t8, List.length_range, lt_nat, bcond_no (by simp)])
    c 0 () m (by simp) hm trivial
theorem f21_L12 (n : Nat) (k : X → St → Option R) (b3 b4 : Bool) (c : Nat) (hc : c ≤ 3) (l : List UInt8) (ts ss : List (List C)) (hl : l.length ≤ lim40) (m : Nat) (hm : c < m) :
    evLoop false (f21_s12 n) m (f21_h12 c 0 (toB l) false 0 [] false false [] [] false 0 [] b3 b4 [] [] [] [] [] ts ss []) k =
      k (X.exit 4) (f21_x12_4 (toB (dr16 c l)) false 0 [] false false [] [] false 0 [] b3 b4 [] [] [] [] [] ts ss (los c l)) :=
  fold_loop (xs := List.range c) (L := fun m i (_ : Unit) => evLoop false (f21_s12 n) m (f21_h12 c i (toB (dr16 i l)) false 0 [] false false [] [] false 0 [] b3 b4 [] [] [] [] [] ts ss (los i l)) k) (f := fun _ _ => ())
    (E := fun _ => k (X.exit 4) (f21_x12_4 (toB (dr16 c l)) false 0 [] false false [] [] false 0 [] b3 b4 [] [] [] [] [] ts ss (los c l))) (fun _ _ => True)
    (fun m i _ x hx hlt _ => by
      show evLoop false (f21_s12 n) (m + 1) _ k = evLoop false (f21_s12 n) m _ k
      simp only [List.length_range] at hlt
      have ht := dr16_len i l
      rw [f21_t12]
      simp only [lt_nat, hlt, decide_true, bcond_t, okxs (dr16 i l) (by omega), unB_toB, wrap_succ (i := i) (by omega), loc_eq]
      rw [bcond_of (roomOk_of (by rw [los_len]; simp; omega) (by rw [los_len]; simp; omega))]
      rfl)
    (fun _ _ _ _ _ _ => trivial)
    (fun m _ _ => by
      show evLoop false (f21_s12 n) (m + 1) _ k = _
      rw [f21_t12, List.length_range, lt_nat, bcond_no (by simp)])
    c 0 () m (by simp) hm trivial

/-- A link's first byte, and how many texts, servers, local addresses it tells. -/
def fl (l : List UInt8) : Int := numB (l.take 1)
def nD (f : Int) : Nat := (f / 4 % 4).toNat
def nS (f : Int) : Nat := (f / 16 % 4).toNat
def nL (f : Int) : Nat := (f / 64 % 4).toNat
def lk1 (l : List UInt8) : List UInt8 := trs (nD (fl l)) (l.drop 1)
def lk2 (l : List UInt8) : List UInt8 := dr16 (nS (fl l)) (lk1 l)
def linkR (l : List UInt8) : List C := [C.bool false, C.int IntKind.i64 0, C.sl 9 (txs (nD (fl l)) (l.drop 1)), C.bool (decide (iand .i64 (fl l) 1 > 0)), C.bool (decide (iand .i64 (fl l) 2 > 0)), C.sl 29 (ads (nS (fl l)) (lk1 l)), C.sl 42 (los (nL (fl l)) (lk2 l))]
def linkT (l : List UInt8) : List UInt8 := dr16 (nL (fl l)) (lk2 l)
theorem and3 (f : Int) (k : Nat) (hk : k ≤ 64) : iand .i64 (ishr .i64 f (k : Int)) 3 = ((f / ((2 ^ k : Nat) : Int) % 4).toNat : Int) := by
  rw [iand_3, ishr_nat f k hk, Int.toNat_of_nonneg (Int.emod_nonneg _ (by decide))]
theorem n3 (z : Int) : (z % 4).toNat ≤ 3 := by
  have := Int.emod_lt_of_pos z (show (0 : Int) < 4 by decide)
  omega
theorem f21_out (n : Nat) (hn : 100 < n) (xs : List (List C)) (hb : isB xs = true) (hl : xs.length ≤ lim40) : evFn tab FC nO false lv21 false n Try.f21 [.one (.ptr (.ext 0) 0 0)] [(.ext 0, (0, .box 52 [.sl 5 xs] []))] =
    some (.agg 34 (linkR (unB xs)) [], [(.ext 0, (0, .box 52 [.sl 5 (toB (linkT (unB xs)))] []))]) := by
  have hx := isB_eq hb
  rw [f21_eq, bcond_of (by simp only [hb, Bool.true_and, Bool.and_eq_true, decide_eq_true_eq, Nat.ble_eq]; exact ⟨by decide, by decide, hl⟩)]
  generalize unB xs = l at hx
  subst hx
  rw [toB_len] at hl
  have h1 : (l.drop 1).length ≤ lim40 := by rw [List.length_drop]; omega
  have h2 : (lk1 l).length ≤ lim40 := Nat.le_trans (trs_len _ _) h1
  have h3 : (lk2 l).length ≤ lim40 := Nat.le_trans (dr16_len _ _) h2
  have a2 : iand .i64 (ishr .i64 (numB (l.take 1)) 2) 3 = (nD (fl l) : Int) := and3 _ 2 (by decide)
  have a4 : iand .i64 (ishr .i64 (numB (l.take 1)) 4) 3 = (nS (fl l) : Int) := and3 _ 4 (by decide)
  have a6 : iand .i64 (ishr .i64 (numB (l.take 1)) 6) 3 = (nL (fl l) : Int) := and3 _ 6 (by decide)
  rw [a2, f21_L4 n _ _ _ _ (nD (fl l)) (n3 _) _ h1 n (by have := n3 (fl l / 4); unfold nD; omega), f21_a4_0, a4]
  show evLoop false (f21_s8 n) n (f21_h8 _ _ _ (toB (lk1 l)) _ _ _ _ _ _ _ _ _ _ _ _ _ _ _ _ _ _ _ _) _ = _
  rw [f21_L8 n _ _ _ _ (nS (fl l)) (n3 _) _ _ h2 n (by have := n3 (fl l / 16); unfold nS; omega), f21_a8_2, a6]
  show evLoop false (f21_s12 n) n (f21_h12 _ _ (toB (lk2 l)) _ _ _ _ _ _ _ _ _ _ _ _ _ _ _ _ _ _ _ _) _ = _
  rw [f21_L12 n _ _ _ (nL (fl l)) (n3 _) _ _ _ h3 n (by have := n3 (fl l / 64); unfold nL; omega), f21_a12_4]
  rfl
def e21 : En
  | [.one (.ptr (.ext 0) 0 0)], [(.ext 0, (0, .box 52 [.sl 5 xs] []))], k =>
    bcond (isB xs && Nat.ble xs.length lim40) (k (.agg 34 (linkR (unB xs)) []) [(.ext 0, (0, .box 52 [.sl 5 (toB (linkT (unB xs)))] []))]) none
  | _, _, _ => none
theorem es21 : ES Try.prog tab 21 e21 := by
  intro args h k x hh
  unfold e21 at hh
  split at hh
  · rename_i xs
    cases hb : (isB xs && Nat.ble xs.length lim40) with
    | false => rw [hb, bcond_f] at hh; cases hh
    | true =>
      rw [hb, bcond_t] at hh
      simp only [Bool.and_eq_true, Nat.ble_eq] at hb
      exact ⟨_, _, hh, fn21 sFC rfl (f21_out 101 (by omega) xs hb.1 hb.2)⟩
  · cases hh

end Go.Proofs.Ytnbiincgplkmbaa
