/- Turns -/
import Derived.Test.YtdcdccdhdingbaaWa
import Derived.KernelRfl
namespace Go.Proofs.Ytdcdccdhdingbaa
open Go Go.Eng
set_option maxRecDepth 100000
noncomputable abbrev f8_c8 : Code := (loops (body Try.f8)).getD 0 .skip
noncomputable abbrev f8_s8 (n : Nat) : St → (X → St → Option R) → Option R := fun st k => evCode tab FP nO lv8 false n f8_c8 st k
noncomputable abbrev f8_k8 (n : Nat) : X → St → Option R := after tab FP nO lv8 false n (body Try.f8) 0 (endK tab false Try.f8)
abbrev f8_h8 (s0 : List (List C)) (s1 : List (List C)) (s2 : Int) (s37 : Int) (s38 : Int) (b7 : List (List C)) (b8 : List (List C)) : St := { t := [((0 : Nat), V.one (A.c (C.sl (27 : Nat) s0))), ((1 : Nat), V.one (A.c (C.sl (24 : Nat) s1))), ((2 : Nat), V.one (A.c (C.int IntKind.i64 s2))), ((7 : Nat), V.one (A.own (Key.loc (7 : Nat) (0 : Nat)) (0 : Nat) (39 : Nat))), ((8 : Nat), V.one (A.own (Key.loc (8 : Nat) (0 : Nat)) (0 : Nat) (39 : Nat))), ((37 : Nat), V.one (A.c (C.int IntKind.i64 s37))), ((38 : Nat), V.one (A.c (C.int IntKind.i64 s38)))], h := [(Key.loc (7 : Nat) (0 : Nat), (0 : Nat), B.arr (39 : Nat) true b7), (Key.loc (8 : Nat) (0 : Nat), (0 : Nat), B.arr (39 : Nat) true b8)] }
abbrev f8_x8_0 (s0 : List (List C)) (b7 : List (List C)) (b8 : List (List C)) : St := { t := [((0 : Nat), V.one (A.c (C.sl (27 : Nat) s0))), ((7 : Nat), V.one (A.own (Key.loc (7 : Nat) (0 : Nat)) (0 : Nat) (39 : Nat))), ((8 : Nat), V.one (A.own (Key.loc (8 : Nat) (0 : Nat)) (0 : Nat) (39 : Nat)))], h := [(Key.loc (7 : Nat) (0 : Nat), (0 : Nat), B.arr (39 : Nat) true b7), (Key.loc (8 : Nat) (0 : Nat), (0 : Nat), B.arr (39 : Nat) true b8)] }
noncomputable abbrev f8_c17 : Code := (loops (body Try.f8)).getD 1 .skip
noncomputable abbrev f8_s17 (n : Nat) : St → (X → St → Option R) → Option R := fun st k => evCode tab FP nO lv8 false n f8_c17 st k
noncomputable abbrev f8_k17 (n : Nat) : X → St → Option R := after tab FP nO lv8 false n (body Try.f8) 1 (endK tab false Try.f8)
abbrev f8_h17 (s0 : List (List C)) (s7 : List (List C)) (s8 : List (List C)) (s75 : Int) (s76 : Int) : St := { t := [((0 : Nat), V.one (A.c (C.sl (27 : Nat) s0))), ((7 : Nat), V.one (A.c (C.sl (39 : Nat) s7))), ((8 : Nat), V.one (A.c (C.sl (39 : Nat) s8))), ((75 : Nat), V.one (A.c (C.int IntKind.i64 s75))), ((76 : Nat), V.one (A.c (C.int IntKind.i64 s76)))], h := [] }
abbrev f8_x17_r (s6 : Bool) : St := { t := [((6 : Nat), V.one (A.c (C.bool s6)))], h := [] }
abbrev f8_x17_2 : St := { t := [], h := [] }
theorem f8_t8 (n m : Nat) (k : X → St → Option R) (s0 : List (List C)) (s1 : List (List C)) (s2 : Int) (s37 : Int) (s38 : Int) (b7 : List (List C)) (b8 : List (List C)) : evLoop false (f8_s8 n) (m + 1) (f8_h8 s0 s1 s2 s37 s38 b7 b8) k = bcond (decide (s38 < s37)) (bcond (inB s38 s1.length) (bcond (roomOk (b7.length + [splice [C.str (ByteArray.mk #[]), C.int IntKind.i64 (0 : Int), C.int IntKind.i64 (0 : Int), C.int IntKind.u8 (0 : Int), C.int IntKind.u8 (0 : Int), C.int IntKind.u8 (0 : Int), C.int IntKind.u8 (0 : Int), C.int IntKind.u8 (0 : Int), C.int IntKind.u8 (0 : Int), C.int IntKind.u8 (0 : Int), C.int IntKind.u8 (0 : Int), C.int IntKind.u8 (0 : Int), C.int IntKind.u8 (0 : Int), C.int IntKind.u8 (0 : Int), C.int IntKind.u8 (0 : Int), C.int IntKind.u8 (0 : Int), C.int IntKind.u8 (0 : Int), C.int IntKind.u8 (0 : Int), C.int IntKind.u8 (0 : Int), C.str (ByteArray.mk #[]), C.str (ByteArray.mk #[])] (3 : Nat) (el s1 s38.toNat)].length) (80 : Nat)) (bcond ((↑s1.length : Int) == (0 : Int)) (none) (bcond (inB ((IntKind.i64.wrap (s38 + s2)).tmod (↑s1.length : Int)) s1.length) (bcond (roomOk (b8.length + [splice [C.str (ByteArray.mk #[]), C.int IntKind.i64 (0 : Int), C.int IntKind.i64 (0 : Int), C.int IntKind.u8 (0 : Int), C.int IntKind.u8 (0 : Int), C.int IntKind.u8 (0 : Int), C.int IntKind.u8 (0 : Int), C.int IntKind.u8 (0 : Int), C.int IntKind.u8 (0 : Int), C.int IntKind.u8 (0 : Int), C.int IntKind.u8 (0 : Int), C.int IntKind.u8 (0 : Int), C.int IntKind.u8 (0 : Int), C.int IntKind.u8 (0 : Int), C.int IntKind.u8 (0 : Int), C.int IntKind.u8 (0 : Int), C.int IntKind.u8 (0 : Int), C.int IntKind.u8 (0 : Int), C.int IntKind.u8 (0 : Int), C.str (ByteArray.mk #[]), C.str (ByteArray.mk #[])] (3 : Nat) (el s1 ((IntKind.i64.wrap (s38 + s2)).tmod (↑s1.length : Int)).toNat)].length) (80 : Nat)) (evLoop false (f8_s8 n) m (f8_h8 (s0) (s1) (s2) (s37) (IntKind.i64.wrap (s38 + (1 : Int))) (b7 ++ [splice [C.str (ByteArray.mk #[]), C.int IntKind.i64 (0 : Int), C.int IntKind.i64 (0 : Int), C.int IntKind.u8 (0 : Int), C.int IntKind.u8 (0 : Int), C.int IntKind.u8 (0 : Int), C.int IntKind.u8 (0 : Int), C.int IntKind.u8 (0 : Int), C.int IntKind.u8 (0 : Int), C.int IntKind.u8 (0 : Int), C.int IntKind.u8 (0 : Int), C.int IntKind.u8 (0 : Int), C.int IntKind.u8 (0 : Int), C.int IntKind.u8 (0 : Int), C.int IntKind.u8 (0 : Int), C.int IntKind.u8 (0 : Int), C.int IntKind.u8 (0 : Int), C.int IntKind.u8 (0 : Int), C.int IntKind.u8 (0 : Int), C.str (ByteArray.mk #[]), C.str (ByteArray.mk #[])] (3 : Nat) (el s1 s38.toNat)]) (b8 ++ [splice [C.str (ByteArray.mk #[]), C.int IntKind.i64 (0 : Int), C.int IntKind.i64 (0 : Int), C.int IntKind.u8 (0 : Int), C.int IntKind.u8 (0 : Int), C.int IntKind.u8 (0 : Int), C.int IntKind.u8 (0 : Int), C.int IntKind.u8 (0 : Int), C.int IntKind.u8 (0 : Int), C.int IntKind.u8 (0 : Int), C.int IntKind.u8 (0 : Int), C.int IntKind.u8 (0 : Int), C.int IntKind.u8 (0 : Int), C.int IntKind.u8 (0 : Int), C.int IntKind.u8 (0 : Int), C.int IntKind.u8 (0 : Int), C.int IntKind.u8 (0 : Int), C.int IntKind.u8 (0 : Int), C.int IntKind.u8 (0 : Int), C.str (ByteArray.mk #[]), C.str (ByteArray.mk #[])] (3 : Nat) (el s1 ((IntKind.i64.wrap (s38 + s2)).tmod (↑s1.length : Int)).toNat)])) k) (none)) (none))) (none)) (none)) (k (X.exit 0) (f8_x8_0 (s0) (b7) (b8))) := by kernel_rfl
theorem f8_a8_0 (n : Nat) (s0 : List (List C)) (b7 : List (List C)) (b8 : List (List C)) : f8_k8 n (X.exit 0) (f8_x8_0 s0 b7 b8) = bcond (b7.length.ble (40 : Nat) && s0.length.ble (1000000 : Nat)) (bcond (b8.length.ble (40 : Nat) && s0.length.ble (1000000 : Nat)) (bcond ((↑(y30 b7 s0).length : Int) != (↑(y30 b8 s0).length : Int)) (some ((V.one (A.c (C.bool false)), []))) (evLoop false (f8_s17 n) n (f8_h17 (s0) (y30 b7 s0) (y30 b8 s0) ((↑(y30 b7 s0).length : Int)) ((0 : Int))) (f8_k17 n))) (none)) (none) := by kernel_rfl
theorem f8_t17 (n m : Nat) (k : X → St → Option R) (s0 : List (List C)) (s7 : List (List C)) (s8 : List (List C)) (s75 : Int) (s76 : Int) : evLoop false (f8_s17 n) (m + 1) (f8_h17 s0 s7 s8 s75 s76) k = bcond (decide (s76 < s75)) (bcond (inB s76 s7.length) (bcond (s0.length.ble (1000000 : Nat)) (bcond (inB s76 s8.length) (bcond (s0.length.ble (1000000 : Nat)) (bcond (!eqL [C.int IntKind.i64 (keyN s0 (sub (el s7 s76.toNat) (3 : Nat) (16 : Nat)) (0 : Nat)), C.int IntKind.i64 (keyN s0 (sub (el s7 s76.toNat) (3 : Nat) (16 : Nat)) (1 : Nat)), C.int IntKind.i64 (keyN s0 (sub (el s7 s76.toNat) (3 : Nat) (16 : Nat)) (2 : Nat)), C.int IntKind.i64 (keyN s0 (sub (el s7 s76.toNat) (3 : Nat) (16 : Nat)) (3 : Nat)), C.int IntKind.i64 (keyN s0 (sub (el s7 s76.toNat) (3 : Nat) (16 : Nat)) (4 : Nat)), C.int IntKind.i64 (keyN s0 (sub (el s7 s76.toNat) (3 : Nat) (16 : Nat)) (5 : Nat)), C.int IntKind.i64 (keyN s0 (sub (el s7 s76.toNat) (3 : Nat) (16 : Nat)) (6 : Nat)), C.int IntKind.i64 (keyN s0 (sub (el s7 s76.toNat) (3 : Nat) (16 : Nat)) (7 : Nat))] [C.int IntKind.i64 (keyN s0 (sub (el s8 s76.toNat) (3 : Nat) (16 : Nat)) (0 : Nat)), C.int IntKind.i64 (keyN s0 (sub (el s8 s76.toNat) (3 : Nat) (16 : Nat)) (1 : Nat)), C.int IntKind.i64 (keyN s0 (sub (el s8 s76.toNat) (3 : Nat) (16 : Nat)) (2 : Nat)), C.int IntKind.i64 (keyN s0 (sub (el s8 s76.toNat) (3 : Nat) (16 : Nat)) (3 : Nat)), C.int IntKind.i64 (keyN s0 (sub (el s8 s76.toNat) (3 : Nat) (16 : Nat)) (4 : Nat)), C.int IntKind.i64 (keyN s0 (sub (el s8 s76.toNat) (3 : Nat) (16 : Nat)) (5 : Nat)), C.int IntKind.i64 (keyN s0 (sub (el s8 s76.toNat) (3 : Nat) (16 : Nat)) (6 : Nat)), C.int IntKind.i64 (keyN s0 (sub (el s8 s76.toNat) (3 : Nat) (16 : Nat)) (7 : Nat))]) (k X.ret (f8_x17_r (false))) (evLoop false (f8_s17 n) m (f8_h17 (s0) (s7) (s8) (s75) (IntKind.i64.wrap (s76 + (1 : Int)))) k)) (none)) (none)) (none)) (none)) (k (X.exit 2) (f8_x17_2)) := by kernel_rfl
theorem f8_a17_r (n : Nat) (s6 : Bool) : f8_k17 n X.ret (f8_x17_r s6) = some ((V.one (A.c (C.bool s6)), [])) := by kernel_rfl
theorem f8_a17_2 (n : Nat) : f8_k17 n (X.exit 2) (f8_x17_2) = some ((V.one (A.c (C.bool true)), [])) := by kernel_rfl
theorem f8_eq (n : Nat) (l : List (List C)) (r : List (List C)) (t : Int) : evFn tab FP nO false lv8 false n Try.f8 [.one (.c (.sl 27 l)), .one (.c (.sl 24 r)), .one (.c (.int .i64 t))] [] = bcond (decide ((↑l.length : Int) > (20 : Int))) (some ((V.one (A.c (C.bool true)), []))) (bcond ((↑r.length : Int) == (0 : Int)) (some ((V.one (A.c (C.bool true)), []))) (bcond (decide ((↑r.length : Int) > (30 : Int))) (some ((V.one (A.c (C.bool true)), []))) (bcond ((↑r.length : Int) == (0 : Int)) (none) (bcond ((↑r.length : Int) == (0 : Int)) (none) (evLoop false (f8_s8 n) n (f8_h8 (l) (r) ((IntKind.i64.wrap (t.tmod (↑r.length : Int) + (↑r.length : Int))).tmod (↑r.length : Int)) ((↑r.length : Int)) ((0 : Int)) ([]) ([])) (f8_k8 n)))))) := by kernel_rfl

/-- A record of an address. -/
def rec0 (a : List C) : List C := splice [C.str (ByteArray.mk #[]), C.int IntKind.i64 (0 : Int), C.int IntKind.i64 (0 : Int), C.int IntKind.u8 (0 : Int), C.int IntKind.u8 (0 : Int), C.int IntKind.u8 (0 : Int), C.int IntKind.u8 (0 : Int), C.int IntKind.u8 (0 : Int), C.int IntKind.u8 (0 : Int), C.int IntKind.u8 (0 : Int), C.int IntKind.u8 (0 : Int), C.int IntKind.u8 (0 : Int), C.int IntKind.u8 (0 : Int), C.int IntKind.u8 (0 : Int), C.int IntKind.u8 (0 : Int), C.int IntKind.u8 (0 : Int), C.int IntKind.u8 (0 : Int), C.int IntKind.u8 (0 : Int), C.int IntKind.u8 (0 : Int), C.str (ByteArray.mk #[]), C.str (ByteArray.mk #[])] 3 a
/-- So many from behind to the front. -/
def rot (a : List (List C)) (t : Nat) : List (List C) := a.drop t ++ a.take t
theorem rot_len {a : List (List C)} {t : Nat} (ht : t < a.length) : (rot a t).length = a.length := by unfold rot; simp; omega
theorem rot_get {a : List (List C)} {t i : Nat} (ht : t < a.length) (hi : i < a.length) : (rot a t)[i]? = a[(i + t) % a.length]? := by
  unfold rot
  rw [List.getElem?_append, List.length_drop]
  split
  · rw [List.getElem?_drop, Nat.mod_eq_of_lt (by omega), Nat.add_comm]
  · rw [List.getElem?_take, if_pos (by omega), Nat.mod_eq_sub_mod (by omega), Nat.mod_eq_of_lt (by omega)]
    congr 1
    omega
theorem rot_perm (a : List (List C)) (t : Nat) : (rot a t).Perm a := by
  unfold rot
  refine List.perm_append_comm.trans ?_
  rw [List.take_append_drop]
theorem take_map_succ {xs : List (List C)} {f : List C → List C} {i : Nat} {x : List C} (h : xs[i]? = some x) : (xs.map f).take (i + 1) = (xs.map f).take i ++ [f x] := by
  have hlt := (List.getElem?_eq_some_iff.1 h).1
  have hx := (List.getElem?_eq_some_iff.1 h).2
  rw [List.take_succ_eq_append_getElem (by rw [List.length_map]; exact hlt), List.getElem_map, hx]
theorem f8_L8 (n : Nat) (l a : List (List C)) (ha : a.length ≤ 30) (t : Nat) (ht : t < a.length) (kk : X → St → Option R) (m : Nat) (hm : a.length < m) :
    evLoop false (f8_s8 n) m (f8_h8 l a t (a.length : Int) 0 [] []) kk = kk (.exit 0) (f8_x8_0 l (a.map rec0) ((rot a t).map rec0)) := by
  have h := fold_loop (xs := a) (L := fun m i (_ : Unit) => evLoop false (f8_s8 n) m (f8_h8 l a t (a.length : Int) i ((a.map rec0).take i) (((rot a t).map rec0).take i)) kk) (f := fun _ _ => ()) (E := fun _ => kk (.exit 0) (f8_x8_0 l (a.map rec0) ((rot a t).map rec0))) (fun _ _ => True)
    (fun m i _ x hx hlt _ => by
      show evLoop false (f8_s8 n) (m + 1) _ _ = evLoop false (f8_s8 n) m _ _
      have hmod : (i + t) % a.length < a.length := Nat.mod_lt _ (by omega)
      have hy : a[(i + t) % a.length]? = some a[(i + t) % a.length] := List.getElem?_eq_getElem hmod
      have hr : (rot a t)[i]? = some a[(i + t) % a.length] := by rw [rot_get ht hlt, hy]
      have hix : (IntKind.i64.wrap ((i : Int) + (t : Int))).tmod (a.length : Int) = (((i + t) % a.length : Nat) : Int) := by
        rw [wrap_ok (by omega) (by omega), Int.tmod_eq_emod_of_nonneg (by omega)]
        simp
      rw [f8_t8, hix]
      simp only [lt_nat, inB_nat, Int.toNat_natCast, el_get hx, el_get hy, wrap_succ (i := i) (by omega), hlt, hmod, decide_true, bcond_t]
      rw [bcond_of (roomOk_of (by simp; omega) (by simp; omega)), bcond_no (by rw [beq_eq_false_iff_ne]; omega), bcond_of (roomOk_of (by simp; omega) (by simp; omega)), take_map_succ hx, take_map_succ hr]
      rfl)
    (fun _ _ _ _ _ _ => trivial)
    (fun m _ _ => by
      show evLoop false (f8_s8 n) (m + 1) _ _ = _
      rw [f8_t8, lt_nat, bcond_no (by simp), List.take_of_length_le (by simp), List.take_of_length_le (by rw [List.length_map, rot_len ht]; exact Nat.le_refl _)])
    a.length 0 () m (by omega) hm trivial
  exact h
theorem lexI_anti : ∀ (x y : List Int), x.length = y.length → ¬ lexI x y → ¬ lexI y x → x = y
  | [], [], _, _, _ => rfl
  | [], _ :: _, h, _, _ => by cases h
  | _ :: _, [], h, _, _ => by cases h
  | a :: x, b :: y, h, h1, h2 => by
    have h3 : ¬ a < b := fun h => h1 (.inl h)
    have h4 : ¬ b < a := fun h => h2 (.inl h)
    have : a = b := by omega
    subst this
    rw [lexI_anti x y (by simpa using h) (fun h => h1 (.inr ⟨rfl, h⟩)) (fun h => h2 (.inr ⟨rfl, h⟩))]
/-- Two orderings of the same records have the same keys, place by place. -/
theorem keys_same {l xs ys X Y : List (List C)} (hp : xs.Perm ys) (hX : Srt l xs X) (hY : Srt l ys Y) : X.map (fun r => keyI l (sub r 3 16)) = Y.map (fun r => keyI l (sub r 3 16)) := by
  have key : ∀ {xs X}, Srt l xs X → (X.map fun r => keyI l (sub r 3 16)).Pairwise fun a b => a.length = 8 ∧ b.length = 8 ∧ ¬ lexI a b := by
    intro xs X h
    have h2 := h.2 (fun _ _ => True) (fun _ _ _ _ _ => trivial) (List.pairwise_of_forall fun _ _ => trivial)
    rw [List.pairwise_map]
    refine h2.imp fun {a b} hab => ⟨rfl, rfl, fun hc => Rr.le (swN l) hab ?_⟩
    rw [ltN_iff]
    exact hc
  refine List.Perm.eq_of_pairwise (le := fun a b => a.length = 8 ∧ b.length = 8 ∧ ¬ lexI a b) (fun a b _ _ h1 h2 => ?_) (key hX) (key hY) ?_
  · exact lexI_anti a b (by rw [h1.1, h1.2.1]) h1.2.2 h2.2.2
  · exact ((hX.1.trans hp).trans hY.1.symm).map _
theorem eqL_ints : ∀ z : List Int, eqL (z.map (C.int .i64)) (z.map (C.int .i64)) = true
  | [] => rfl
  | a :: z => by
    show ((a == a) && eqL (z.map (C.int .i64)) (z.map (C.int .i64))) = true
    rw [eqL_ints z]; simp
theorem keyC_map (l : List (List C)) (z : List C) : keyC l z = (keyI l z).map (C.int .i64) := rfl
theorem f8_L17 (n : Nat) (l X Y : List (List C)) (hl : l.length ≤ 1000) (hX : X.length ≤ 1000) (hlen : X.length = Y.length) (hk : X.map (fun r => keyI l (sub r 3 16)) = Y.map (fun r => keyI l (sub r 3 16))) (m : Nat) (hm : X.length < m) :
    evLoop false (f8_s17 n) m (f8_h17 l X Y (X.length : Int) 0) (f8_k17 n) = some (.one (.c (.bool true)), []) := by
  have h := fold_loop (xs := X) (L := fun m i (_ : Unit) => evLoop false (f8_s17 n) m (f8_h17 l X Y (X.length : Int) i) (f8_k17 n)) (f := fun _ _ => ()) (E := fun _ => some (.one (.c (.bool true)), [])) (fun _ _ => True)
    (fun m i _ x hx hlt _ => by
      show evLoop false (f8_s17 n) (m + 1) _ _ = evLoop false (f8_s17 n) m _ _
      have hlt2 : i < Y.length := by omega
      have hy : Y[i]? = some Y[i] := List.getElem?_eq_getElem hlt2
      have hki : keyI l (sub x 3 16) = keyI l (sub Y[i] 3 16) := by
        have := congrArg (fun z => z[i]?) hk
        simp only [List.getElem?_map, hx, hy, Option.map_some, Option.some.injEq] at this
        exact this
      have he : eqL (keyC l (sub x 3 16)) (keyC l (sub Y[i] 3 16)) = true := by rw [keyC_map, keyC_map, hki]; exact eqL_ints _
      rw [f8_t17]
      simp only [lt_nat, inB_nat, Int.toNat_natCast, el_get hx, el_get hy, wrap_succ (i := i) (by omega), hlt, hlt2, decide_true, bcond_t]
      rw [bcond_of (by rw [Nat.ble_eq]; omega), bcond_of (by rw [Nat.ble_eq]; omega), bcond_no (by show (!eqL (keyC l (sub x 3 16)) (keyC l (sub Y[i] 3 16))) = false; rw [he]; rfl)])
    (fun _ _ _ _ _ _ => trivial)
    (fun m _ _ => by
      show evLoop false (f8_s17 n) (m + 1) _ _ = _
      rw [f8_t17, lt_nat, bcond_no (by simp), f8_a17_2])
    X.length 0 () m (by omega) hm trivial
  exact h
theorem turn_ok (t : Int) {len : Nat} (h : 0 < len) (h30 : len ≤ 30) : ∃ tn : Nat, tn < len ∧ (IntKind.i64.wrap (t.tmod (len : Int) + (len : Int))).tmod (len : Int) = (tn : Int) := by
  have h1 := Int.tmod_lt_of_pos t (b := (len : Int)) (by omega)
  have h2 := Int.lt_tmod_of_pos t (b := (len : Int)) (by omega)
  refine ⟨((t.tmod (len : Int) + (len : Int)) % (len : Int)).toNat, ?_, ?_⟩
  · have := Int.emod_lt_of_pos (t.tmod (len : Int) + (len : Int)) (b := (len : Int)) (by omega)
    omega
  · have := Int.emod_nonneg (t.tmod (len : Int) + (len : Int)) (b := (len : Int)) (by omega)
    rw [wrap_ok (by omega) (by omega), Int.tmod_eq_emod_of_nonneg (by omega)]
    omega
theorem f8_out (n : Nat) (hn : 1000 < n) (l r : List (List C)) (t : Int) : evFn tab FP nO false lv8 false n Try.f8 [.one (.c (.sl 27 l)), .one (.c (.sl 24 r)), .one (.c (.int .i64 t))] [] = some (.one (.c (.bool true)), []) := by
  rw [f8_eq]
  cases h1 : decide ((l.length : Int) > 20) with
  | true => rfl
  | false =>
    rw [bcond_f]
    cases h2 : ((r.length : Int) == 0) with
    | true => rfl
    | false =>
      rw [bcond_f]
      cases h3 : decide ((r.length : Int) > 30) with
      | true => rfl
      | false =>
        rw [decide_eq_false_iff_not] at h1 h3
        rw [beq_eq_false_iff_ne] at h2
        have hl1 : l.length ≤ 20 := by omega
        have hr1 : r.length ≤ 30 := by omega
        obtain ⟨tn, ht, htt⟩ := turn_ok t (len := r.length) (by omega) hr1
        rw [bcond_f, bcond_f, bcond_f, htt, f8_L8 n l r hr1 tn ht _ n (by omega), f8_a8_0]
        have hlx : (r.map rec0).length = r.length := by simp
        have hly : ((rot r tn).map rec0).length = r.length := by rw [List.length_map, rot_len ht]
        have sX := (g30_ok (l := l) (xs := r.map rec0) (by omega) (by omega)).2
        have sY := (g30_ok (l := l) (xs := (rot r tn).map rec0) (by omega) (by omega)).2
        have lX := sX.1.length_eq
        have lY := sY.1.length_eq
        rw [bcond_of (by rw [Bool.and_eq_true, Nat.ble_eq, Nat.ble_eq]; omega), bcond_of (by rw [Bool.and_eq_true, Nat.ble_eq, Nat.ble_eq]; omega), bcond_no (by rw [lX, lY, hlx, hly]; simp)]
        exact f8_L17 n l _ _ (by omega) (by omega) (by omega) (keys_same ((rot_perm r tn).map rec0).symm sX sY) n (by omega)
theorem law_RankTurns : ∀ xs, All2 (ArgOk tab) [22, 42, 3] xs → FnAt Try.prog tab 8 (List.zipWith (argV tab) [22, 42, 3] xs) [] (.one (.c (.bool true))) [] := by
  intro xs h
  match xs, h with
  | [x, y, z], h =>
    obtain ⟨l, rfl⟩ := wk_sl h.1.1
    obtain ⟨r, rfl⟩ := wk_sl h.2.1.1
    obtain ⟨t, rfl⟩ := wk_int h.2.2.1.1
    exact fn8 sFP rfl (f8_out 1001 (by omega) l r t)

end Go.Proofs.Ytdcdccdhdingbaa
