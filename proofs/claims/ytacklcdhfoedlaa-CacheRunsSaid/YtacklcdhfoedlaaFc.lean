/- Fc -/
import Derived.Test.YtacklcdhfoedlaaFb
import Derived.KernelRfl
namespace Go.Proofs.Ytacklcdhfoedlaa
open Go Go.Eng
set_option maxRecDepth 100000
def FA : Fun := mkF [(14, e14)]
theorem sFA : FSound Try.prog tab FA := mkF_sound (fun p hp => by
  simp only [List.mem_cons, List.not_mem_nil, or_false] at hp
  subst hp
  exact es14)
def notQ (q : List C) (e : List C) : Bool := !eqL (sub e 0 2) q
def soon (l : List (List C)) (k : Nat) (p : List C × Nat) : Nat := if decide ((cl p.1 4).toI < (cl (el l k) 4).toI) = true then p.2 else k
/-- The first that counts shortest. -/
def minIx (l : List (List C)) : Nat := l.zipIdx.foldl (soon l) 0
def mkE (now : Int) (q0 q1 : C) (oc : Int) (rs : List (List C)) (ttl : Int) : List C := [q0, q1, .int .i64 oc, .sl 32 rs, .int .i64 (IntKind.i64.wrap (now + if (1048576 : Int) < ttl then (1048576 : Int) else ttl)), .int .i64 now]
/-- What stays. -/
def restOf (now size : Int) (es : List (List C)) (q : List C) : List (List C) :=
  let rest := (es.filter (live now)).filter (notQ q)
  if ((rest.length : Int) == size) = true then rest.take (minIx rest) ++ rest.drop (minIx rest + 1) else rest
def putR (now size : Int) (es : List (List C)) (q0 q1 : C) (oc : Int) (rs : List (List C)) (ttl : Int) : List (List C) :=
  if (size == 0) = true then es else if decide (ttl < 1) = true then es else restOf now size es [q0, q1] ++ [mkE now q0 q1 oc rs ttl]

noncomputable abbrev f11_c5 : Code := (loops (body Try.f11)).getD 0 .skip
noncomputable abbrev f11_s5 (n : Nat) : St → (X → St → Option R) → Option R := fun st k => evCode tab FA nO lv11 false n f11_c5 st k
noncomputable abbrev f11_k5 (n : Nat) : X → St → Option R := after tab FA nO lv11 false n (body Try.f11) 0 (endK tab false Try.f11)
abbrev f11_h5 (s1 : Int) (s3 : Int) (s4 : List (List C)) (s5 : Int) (s37 : List (List C)) (s38 : Int) (s39 : Int) (e0_0 : Int) (e0_1 : List (List C)) (b8_0 : C) (b8_1 : C) (b12 : List (List C)) : St := { t := [((0 : Nat), V.one (A.ptr (Key.ext (0 : Nat)) (0 : Nat) (0 : Nat))), ((1 : Nat), V.one (A.c (C.int IntKind.i64 s1))), ((3 : Nat), V.one (A.c (C.int IntKind.i64 s3))), ((4 : Nat), V.one (A.c (C.sl (32 : Nat) s4))), ((5 : Nat), V.one (A.c (C.int IntKind.i64 s5))), ((8 : Nat), V.one (A.ptr (Key.loc (8 : Nat) (0 : Nat)) (0 : Nat) (0 : Nat))), ((12 : Nat), V.one (A.own (Key.loc (12 : Nat) (0 : Nat)) (0 : Nat) (57 : Nat))), ((37 : Nat), V.one (A.c (C.sl (57 : Nat) s37))), ((38 : Nat), V.one (A.c (C.int IntKind.i64 s38))), ((39 : Nat), V.one (A.c (C.int IntKind.i64 s39)))], h := [(Key.ext (0 : Nat), (0 : Nat), B.box (55 : Nat) [C.int IntKind.i64 e0_0, C.sl (57 : Nat) e0_1] []), (Key.loc (8 : Nat) (0 : Nat), (0 : Nat), B.box (26 : Nat) [b8_0, b8_1] []), (Key.loc (12 : Nat) (0 : Nat), (0 : Nat), B.arr (57 : Nat) true b12)] }
abbrev f11_x5_0 (s1 : Int) (s3 : Int) (s4 : List (List C)) (s5 : Int) (e0_0 : Int) (e0_1 : List (List C)) (b8_0 : C) (b8_1 : C) (b12 : List (List C)) : St := { t := [((0 : Nat), V.one (A.ptr (Key.ext (0 : Nat)) (0 : Nat) (0 : Nat))), ((1 : Nat), V.one (A.c (C.int IntKind.i64 s1))), ((3 : Nat), V.one (A.c (C.int IntKind.i64 s3))), ((4 : Nat), V.one (A.c (C.sl (32 : Nat) s4))), ((5 : Nat), V.one (A.c (C.int IntKind.i64 s5))), ((8 : Nat), V.one (A.ptr (Key.loc (8 : Nat) (0 : Nat)) (0 : Nat) (0 : Nat))), ((12 : Nat), V.one (A.own (Key.loc (12 : Nat) (0 : Nat)) (0 : Nat) (57 : Nat)))], h := [(Key.ext (0 : Nat), (0 : Nat), B.box (55 : Nat) [C.int IntKind.i64 e0_0, C.sl (57 : Nat) e0_1] []), (Key.loc (8 : Nat) (0 : Nat), (0 : Nat), B.box (26 : Nat) [b8_0, b8_1] []), (Key.loc (12 : Nat) (0 : Nat), (0 : Nat), B.arr (57 : Nat) true b12)] }
noncomputable abbrev f11_c13 : Code := (loops (body Try.f11)).getD 1 .skip
noncomputable abbrev f11_s13 (n : Nat) : St → (X → St → Option R) → Option R := fun st k => evCode tab FA nO lv11 false n f11_c13 st k
noncomputable abbrev f11_k13 (n : Nat) : X → St → Option R := after tab FA nO lv11 false n (body Try.f11) 1 (endK tab false Try.f11)
abbrev f11_h13 (s1 : Int) (s3 : Int) (s4 : List (List C)) (s5 : Int) (s15 : Int) (s60 : Int) (s61 : Int) (e0_0 : Int) (e0_1 : List (List C)) (b8_0 : C) (b8_1 : C) (b12 : List (List C)) : St := { t := [((0 : Nat), V.one (A.ptr (Key.ext (0 : Nat)) (0 : Nat) (0 : Nat))), ((1 : Nat), V.one (A.c (C.int IntKind.i64 s1))), ((3 : Nat), V.one (A.c (C.int IntKind.i64 s3))), ((4 : Nat), V.one (A.c (C.sl (32 : Nat) s4))), ((5 : Nat), V.one (A.c (C.int IntKind.i64 s5))), ((8 : Nat), V.one (A.ptr (Key.loc (8 : Nat) (0 : Nat)) (0 : Nat) (0 : Nat))), ((12 : Nat), V.one (A.own (Key.loc (12 : Nat) (0 : Nat)) (0 : Nat) (57 : Nat))), ((15 : Nat), V.one (A.c (C.int IntKind.i64 s15))), ((59 : Nat), V.one (A.own (Key.loc (12 : Nat) (0 : Nat)) (0 : Nat) (57 : Nat))), ((60 : Nat), V.one (A.c (C.int IntKind.i64 s60))), ((61 : Nat), V.one (A.c (C.int IntKind.i64 s61)))], h := [(Key.ext (0 : Nat), (0 : Nat), B.box (55 : Nat) [C.int IntKind.i64 e0_0, C.sl (57 : Nat) e0_1] []), (Key.loc (8 : Nat) (0 : Nat), (0 : Nat), B.box (26 : Nat) [b8_0, b8_1] []), (Key.loc (12 : Nat) (0 : Nat), (0 : Nat), B.arr (57 : Nat) true b12)] }
abbrev f11_x13_2 (s1 : Int) (s3 : Int) (s4 : List (List C)) (s5 : Int) (s15 : Int) (e0_0 : Int) (e0_1 : List (List C)) (b8_0 : C) (b8_1 : C) (b12 : List (List C)) : St := { t := [((0 : Nat), V.one (A.ptr (Key.ext (0 : Nat)) (0 : Nat) (0 : Nat))), ((1 : Nat), V.one (A.c (C.int IntKind.i64 s1))), ((3 : Nat), V.one (A.c (C.int IntKind.i64 s3))), ((4 : Nat), V.one (A.c (C.sl (32 : Nat) s4))), ((5 : Nat), V.one (A.c (C.int IntKind.i64 s5))), ((8 : Nat), V.one (A.ptr (Key.loc (8 : Nat) (0 : Nat)) (0 : Nat) (0 : Nat))), ((12 : Nat), V.one (A.own (Key.loc (12 : Nat) (0 : Nat)) (0 : Nat) (57 : Nat))), ((15 : Nat), V.one (A.c (C.int IntKind.i64 s15)))], h := [(Key.ext (0 : Nat), (0 : Nat), B.box (55 : Nat) [C.int IntKind.i64 e0_0, C.sl (57 : Nat) e0_1] []), (Key.loc (8 : Nat) (0 : Nat), (0 : Nat), B.box (26 : Nat) [b8_0, b8_1] []), (Key.loc (12 : Nat) (0 : Nat), (0 : Nat), B.arr (57 : Nat) true b12)] }
theorem f11_t5 (n m : Nat) (k : X → St → Option R) (s1 : Int) (s3 : Int) (s4 : List (List C)) (s5 : Int) (s37 : List (List C)) (s38 : Int) (s39 : Int) (e0_0 : Int) (e0_1 : List (List C)) (b8_0 : C) (b8_1 : C) (b12 : List (List C)) : evLoop false (f11_s5 n) (m + 1) (f11_h5 s1 s3 s4 s5 s37 s38 s39 e0_0 e0_1 b8_0 b8_1 b12) k = bcond (decide (s39 < s38)) (bcond (inB s39 s37.length) (bcond (!eqL (sub (el s37 s39.toNat) (0 : Nat) (2 : Nat)) [b8_0, b8_1]) (bcond (roomOk (b12.length + [el s37 s39.toNat].length) (72 : Nat)) (evLoop false (f11_s5 n) m (f11_h5 (s1) (s3) (s4) (s5) (s37) (s38) (IntKind.i64.wrap (s39 + (1 : Int))) (e0_0) (e0_1) (b8_0) (b8_1) (b12 ++ [el s37 s39.toNat])) k) (none)) (evLoop false (f11_s5 n) m (f11_h5 (s1) (s3) (s4) (s5) (s37) (s38) (IntKind.i64.wrap (s39 + (1 : Int))) (e0_0) (e0_1) (b8_0) (b8_1) (b12)) k)) (none)) (k (X.exit 0) (f11_x5_0 (s1) (s3) (s4) (s5) (e0_0) (e0_1) (b8_0) (b8_1) (b12))) := by kernel_rfl
theorem f11_a5_0 (n : Nat) (s1 : Int) (s3 : Int) (s4 : List (List C)) (s5 : Int) (e0_0 : Int) (e0_1 : List (List C)) (b8_0 : C) (b8_1 : C) (b12 : List (List C)) : f11_k5 n (X.exit 0) (f11_x5_0 s1 s3 s4 s5 e0_0 e0_1 b8_0 b8_1 b12) = bcond ((↑b12.length : Int) == e0_0) (evLoop false (f11_s13 n) n (f11_h13 (s1) (s3) (s4) (s5) ((0 : Int)) ((↑b12.length : Int)) ((0 : Int)) (e0_0) (e0_1) (b8_0) (b8_1) (b12)) (f11_k13 n)) (bcond (roomOk s4.length (80 : Nat)) (bcond (roomOk (b12.length + [[b8_0, b8_1, C.int IntKind.i64 s3, C.sl (32 : TypeId) s4, C.int IntKind.i64 (IntKind.i64.wrap (s1 + if (1048576 : Int) < s5 then (1048576 : Int) else s5)), C.int IntKind.i64 s1]].length) (72 : Nat)) (some ((V.tup [], [(Key.ext (0 : Nat), (0 : Nat), B.box (55 : Nat) [C.int IntKind.i64 e0_0, C.sl (57 : Nat) (b12 ++ [[b8_0, b8_1, C.int IntKind.i64 s3, C.sl (32 : TypeId) s4, C.int IntKind.i64 (IntKind.i64.wrap (s1 + if (1048576 : Int) < s5 then (1048576 : Int) else s5)), C.int IntKind.i64 s1]])] [])]))) (none)) (none)) := by kernel_rfl
theorem f11_t13 (n m : Nat) (k : X → St → Option R) (s1 : Int) (s3 : Int) (s4 : List (List C)) (s5 : Int) (s15 : Int) (s60 : Int) (s61 : Int) (e0_0 : Int) (e0_1 : List (List C)) (b8_0 : C) (b8_1 : C) (b12 : List (List C)) : evLoop false (f11_s13 n) (m + 1) (f11_h13 s1 s3 s4 s5 s15 s60 s61 e0_0 e0_1 b8_0 b8_1 b12) k = bcond (decide (s61 < s60)) (bcond (inB s61 b12.length) (bcond (inB s15 b12.length) (bcond (decide ((cl (el b12 s61.toNat) (4 : Nat)).toI < (cl (el b12 s15.toNat) (4 : Nat)).toI)) (evLoop false (f11_s13 n) m (f11_h13 (s1) (s3) (s4) (s5) (s61) (s60) (IntKind.i64.wrap (s61 + (1 : Int))) (e0_0) (e0_1) (b8_0) (b8_1) (b12)) k) (evLoop false (f11_s13 n) m (f11_h13 (s1) (s3) (s4) (s5) (s15) (s60) (IntKind.i64.wrap (s61 + (1 : Int))) (e0_0) (e0_1) (b8_0) (b8_1) (b12)) k)) (none)) (none)) (k (X.exit 2) (f11_x13_2 (s1) (s3) (s4) (s5) (s15) (e0_0) (e0_1) (b8_0) (b8_1) (b12))) := by kernel_rfl
theorem f11_a13_2 (n : Nat) (s1 : Int) (s3 : Int) (s4 : List (List C)) (s5 : Int) (s15 : Int) (e0_0 : Int) (e0_1 : List (List C)) (b8_0 : C) (b8_1 : C) (b12 : List (List C)) : f11_k13 n (X.exit 2) (f11_x13_2 s1 s3 s4 s5 s15 e0_0 e0_1 b8_0 b8_1 b12) = bcond (inE s15 (0 : Nat) b12.length) (bcond (s15 == s15) (bcond (inE (↑b12.length : Int) (0 : Nat) b12.length) (bcond (inE (IntKind.i64.wrap (s15 + (1 : Int))) (0 : Nat) (↑b12.length : Int).toNat) (bcond (roomOk ((lstCut b12 (0 : Nat) s15.toNat).length + (lstCut b12 (IntKind.i64.wrap (s15 + (1 : Int))).toNat (↑b12.length : Int).toNat).length) (72 : Nat)) (bcond (roomOk s4.length (80 : Nat)) (bcond (roomOk ((lstCut b12 (0 : Nat) s15.toNat ++ lstCut b12 (IntKind.i64.wrap (s15 + (1 : Int))).toNat (↑b12.length : Int).toNat).length + [[b8_0, b8_1, C.int IntKind.i64 s3, C.sl (32 : TypeId) s4, C.int IntKind.i64 (IntKind.i64.wrap (s1 + if (1048576 : Int) < s5 then (1048576 : Int) else s5)), C.int IntKind.i64 s1]].length) (72 : Nat)) (some ((V.tup [], [(Key.ext (0 : Nat), (0 : Nat), B.box (55 : Nat) [C.int IntKind.i64 e0_0, C.sl (57 : Nat) (lstCut b12 (0 : Nat) s15.toNat ++ lstCut b12 (IntKind.i64.wrap (s15 + (1 : Int))).toNat (↑b12.length : Int).toNat ++ [[b8_0, b8_1, C.int IntKind.i64 s3, C.sl (32 : TypeId) s4, C.int IntKind.i64 (IntKind.i64.wrap (s1 + if (1048576 : Int) < s5 then (1048576 : Int) else s5)), C.int IntKind.i64 s1]])] [])]))) (none)) (none)) (none)) (none)) (none)) (none)) (none) := by kernel_rfl
theorem f11_eq (n : Nat) (now : Int) (size : Int) (oc : Int) (ttl : Int) (es : List (List C)) (q0 : C) (q1 : C) (rs : List (List C)) : evFn tab FA nO false lv11 false n Try.f11 [.one (.ptr (.ext 0) 0 0), .one (.c (.int .i64 now)), .agg 26 [q0, q1] [], .one (.c (.int .i64 oc)), .one (.c (.sl 32 rs)), .one (.c (.int .i64 ttl))] [(.ext 0, (0, .box 55 [.int .i64 size, .sl 57 es] []))] = bcond (size == (0 : Int)) (some ((V.tup [], [(Key.ext (0 : Nat), (0 : Nat), B.box (55 : Nat) [C.int IntKind.i64 size, C.sl (57 : Nat) es] [])]))) (bcond (decide (ttl < (1 : Int))) (some ((V.tup [], [(Key.ext (0 : Nat), (0 : Nat), B.box (55 : Nat) [C.int IntKind.i64 size, C.sl (57 : Nat) es] [])]))) (bcond (es.length.ble (1000000 : Nat)) (evLoop false (f11_s5 n) n (f11_h5 (now) (oc) (rs) (ttl) (List.filter (live now) es) ((↑(List.filter (live now) es).length : Int)) ((0 : Int)) (size) (List.filter (live now) es) (q0) (q1) ([])) (f11_k5 n)) (none))) := by kernel_rfl


theorem f11_L5 (n : Nat) (k : X → St → Option R) (now oc ttl size : Int) (rs l e1 : List (List C)) (q0 q1 : C) (hl : l.length ≤ 1000000) (m : Nat) (hm : l.length < m) :
    evLoop false (f11_s5 n) m (f11_h5 now oc rs ttl l l.length 0 size e1 q0 q1 []) k = k (X.exit 0) (f11_x5_0 now oc rs ttl size e1 q0 q1 (l.filter (notQ [q0, q1]))) := by
  have h := fold_loop (xs := l) (L := fun m i (acc : List (List C)) => evLoop false (f11_s5 n) m (f11_h5 now oc rs ttl l l.length i size e1 q0 q1 acc) k)
    (f := fun acc x => if notQ [q0, q1] x = true then acc ++ [x] else acc) (E := fun acc => k (X.exit 0) (f11_x5_0 now oc rs ttl size e1 q0 q1 acc)) (fun i acc => acc.length ≤ i)
    (fun m i acc x hx hlt hI => by
      show evLoop false (f11_s5 n) (m + 1) _ k = evLoop false (f11_s5 n) m _ k
      have hr : roomOk (acc.length + [x].length) 72 = true := roomOk_of (by simp; omega) (by simp; omega)
      rw [f11_t5]
      simp only [lt_nat, inB_nat, Int.toNat_natCast, el_get hx, wrap_succ (i := i) (by omega), hlt, decide_true, bcond_t, hr]
      show bcond (notQ [q0, q1] x) _ _ = _
      cases hp : notQ [q0, q1] x
      · rw [bcond_f, if_neg (by simp)]
      · rw [bcond_t, if_pos rfl])
    (fun i acc x hx hlt hI => by split <;> (try simp) <;> omega)
    (fun m acc hI => by
      show evLoop false (f11_s5 n) (m + 1) _ k = _
      rw [f11_t5, lt_nat, bcond_no (by simp)])
    l.length 0 [] m (by omega) hm (by simp)
  rw [foldl_filter] at h
  simpa using h

theorem soon_lt (l : List (List C)) : ∀ (ps : List (List C × Nat)) (k : Nat), (∀ p ∈ ps, p.2 < l.length) → k < l.length → ps.foldl (soon l) k < l.length
  | [], k, _, h => h
  | p :: ps, k, hp, h => by
    rw [List.foldl_cons]
    refine soon_lt l ps _ (fun p h => hp p (List.mem_cons_of_mem _ h)) ?_
    unfold soon
    split
    · exact hp p (List.mem_cons_self ..)
    · exact h
theorem minIx_lt (l : List (List C)) (h : 0 < l.length) : minIx l < l.length := by
  refine soon_lt l _ 0 (fun p hp => ?_) h
  obtain ⟨x, i⟩ := p
  have := List.mem_zipIdx hp
  simp only at this ⊢
  omega

theorem f11_L13 (n : Nat) (k : X → St → Option R) (now oc ttl size : Int) (rs l e1 : List (List C)) (q0 q1 : C) (hl : l.length ≤ 1000000) (h0 : 0 < l.length) (m : Nat) (hm : l.length < m) :
    evLoop false (f11_s13 n) m (f11_h13 now oc rs ttl 0 l.length 0 size e1 q0 q1 l) k = k (X.exit 2) (f11_x13_2 now oc rs ttl (minIx l) size e1 q0 q1 l) := by
  have hz : l.zipIdx.length = l.length := List.length_zipIdx
  exact fold_loop (xs := l.zipIdx) (L := fun m i (s : Nat) => evLoop false (f11_s13 n) m (f11_h13 now oc rs ttl s l.length i size e1 q0 q1 l) k)
    (f := soon l) (E := fun s => k (X.exit 2) (f11_x13_2 now oc rs ttl s size e1 q0 q1 l)) (fun i s => s < l.length)
    (fun m i s x hx hlt hI => by
      show evLoop false (f11_s13 n) (m + 1) _ k = evLoop false (f11_s13 n) m _ k
      rw [hz] at hlt
      have hx2 : l[i]? = some l[i] := List.getElem?_eq_getElem hlt
      rw [List.getElem?_zipIdx, hx2] at hx
      simp only [Option.map_some, Option.some.injEq, Nat.zero_add] at hx
      subst hx
      rw [f11_t13]
      simp only [lt_nat, inB_nat, Int.toNat_natCast, el_get hx2, wrap_succ (i := i) (by omega), hlt, hI, decide_true, bcond_t, soon]
      split
      · rename_i hp
        rw [bcond_of hp]
      · rename_i hp
        rw [bcond_no (by simpa using hp)])
    (fun i s x hx hlt hI => by
      unfold soon
      split
      · have := List.mem_zipIdx (List.mem_of_getElem? hx)
        omega
      · exact hI)
    (fun m s hI => by
      show evLoop false (f11_s13 n) (m + 1) _ k = _
      rw [f11_t13, hz, lt_nat, bcond_no (by simp)])
    l.length 0 0 m (by omega) hm h0

theorem f11_out (now size oc ttl : Int) (es : List (List C)) (q0 q1 : C) (rs : List (List C)) (he : es.length ≤ 1000000) (hr : rs.length ≤ 1000000) (n : Nat) (hn : 1000000 < n) :
    evFn tab FA nO false lv11 false n Try.f11 [.one (.ptr (.ext 0) 0 0), .one (.c (.int .i64 now)), .agg 26 [q0, q1] [], .one (.c (.int .i64 oc)), .one (.c (.sl 32 rs)), .one (.c (.int .i64 ttl))] [(.ext 0, (0, .box 55 [.int .i64 size, .sl 57 es] []))] =
      some (.tup [], [(.ext 0, (0, .box 55 [.int .i64 size, .sl 57 (putR now size es q0 q1 oc rs ttl)] []))]) := by
  rw [f11_eq, putR]
  cases hs : (size == 0) with
  | true => rw [bcond_t, if_pos rfl]
  | false =>
    rw [bcond_f, if_neg (by simp)]
    cases ht : decide (ttl < 1) with
    | true => rw [bcond_t, if_pos rfl]
    | false =>
      have hf1 : (es.filter (live now)).length ≤ es.length := List.length_filter_le _ _
      have hf2 : ((es.filter (live now)).filter (notQ [q0, q1])).length ≤ (es.filter (live now)).length := List.length_filter_le _ _
      have hr2 : roomOk rs.length 80 = true := roomOk_of (by omega) (by omega)
      rw [bcond_f, if_neg (by simp), bcond_of (by rw [Nat.ble_eq]; exact he), f11_L5 n _ now oc ttl size rs _ _ q0 q1 (by omega) n (by omega), f11_a5_0]
      obtain ⟨rest, hrest⟩ : ∃ r, r = (es.filter (live now)).filter (notQ [q0, q1]) := ⟨_, rfl⟩
      simp only [restOf]
      rw [← hrest] at hf2 ⊢
      cases hq : ((rest.length : Int) == size) with
      | false =>
        rw [bcond_f, hr2, bcond_t, bcond_of (roomOk_of (by simp; omega) (by simp; omega)), if_neg Bool.false_ne_true]
        rfl
      | true =>
        have h0 : 0 < rest.length := by
          simp only [beq_iff_eq, beq_eq_false_iff_ne, ne_eq] at hq hs
          omega
        have hlt := minIx_lt rest h0
        rw [bcond_t, f11_L13 n _ now oc ttl size rs rest _ q0 q1 (by omega) h0 n (by omega), f11_a13_2, if_pos (rfl : true = true)]
        have e1 : lstCut rest 0 (minIx rest : Int).toNat = rest.take (minIx rest) := by simp [lstCut]
        have e2 : lstCut rest (IntKind.i64.wrap ((minIx rest : Int) + 1)).toNat (rest.length : Int).toNat = rest.drop (minIx rest + 1) := by
          rw [wrap_succ (by omega)]
          simp [lstCut]
        rw [e1, e2, wrap_succ (by omega)]
        simp only [inE_nat, Int.toNat_natCast, hr2]
        rw [bcond_of (by simp; omega), bcond_of (by simp), bcond_of (by simp), bcond_of (by simp; omega), bcond_of (roomOk_of (by simp; omega) (by simp; omega)), bcond_t, bcond_of (roomOk_of (by simp; omega) (by simp; omega))]
        rfl

theorem f11n_eq (n : Nat) (now : Int) (oc : Int) (ttl : Int) (q0 : C) (q1 : C) (rs : List (List C)) : evFn tab FA nO false lv11 false n Try.f11 [.one .nilp, .one (.c (.int .i64 now)), .agg 26 [q0, q1] [], .one (.c (.int .i64 oc)), .one (.c (.sl 32 rs)), .one (.c (.int .i64 ttl))] [] = some (V.tup [], []) := by kernel_rfl


def e11 : En
  | [.one (.ptr (.ext 0) 0 0), .one (.c (.int .i64 now)), .agg 26 [q0, q1] [], .one (.c (.int .i64 oc)), .one (.c (.sl 32 rs)), .one (.c (.int .i64 ttl))], [(.ext 0, (0, .box 55 [.int .i64 size, .sl 57 es] []))], k =>
    bcond (Nat.ble es.length 1000000 && Nat.ble rs.length 1000000) (k (.tup []) [(.ext 0, (0, .box 55 [.int .i64 size, .sl 57 (putR now size es q0 q1 oc rs ttl)] []))]) none
  | [.one .nilp, .one (.c (.int .i64 _)), .agg 26 [_, _] [], .one (.c (.int .i64 _)), .one (.c (.sl 32 _)), .one (.c (.int .i64 _))], [], k => k (.tup []) []
  | _, _, _ => none
theorem es11 : ES Try.prog tab 11 e11 := by
  intro args h k x hh
  unfold e11 at hh
  split at hh
  · rename_i now q0 q1 oc rs ttl size es
    cases hb : (Nat.ble es.length 1000000 && Nat.ble rs.length 1000000) with
    | false => rw [hb, bcond_f] at hh; cases hh
    | true =>
      rw [hb, bcond_t] at hh
      rw [Bool.and_eq_true, Nat.ble_eq, Nat.ble_eq] at hb
      exact ⟨_, _, hh, fn11 sFA rfl (f11_out now size oc ttl es q0 q1 rs hb.1 hb.2 1000001 (by omega))⟩
  · exact ⟨_, _, hh, fn11 sFA rfl (f11n_eq 0 _ _ _ _ _ _)⟩
  · cases hh

end Go.Proofs.Ytacklcdhfoedlaa
