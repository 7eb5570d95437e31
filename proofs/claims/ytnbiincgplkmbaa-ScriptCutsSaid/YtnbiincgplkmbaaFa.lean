/- Fa -/
import Derived.Test.YtnbiincgplkmbaaTab
import Derived.KernelRfl
namespace Go.Proofs.Ytnbiincgplkmbaa
open Go Go.Eng
set_option maxRecDepth 100000
theorem f20_eq (n : Nat) (xs : List (List C)) (a : Int) : evFn tab nF nO false lv20 false n Try.f20 [.one (.ptr (.ext 0) 0 0), .one (.c (.int .i64 a))] [(.ext 0, (0, .box 52 [.sl 5 xs] []))] = bcond (inE (if (↑xs.length : Int) < a then (↑xs.length : Int) else a) (0 : Nat) xs.length) (bcond (roomOk (lstCut xs (0 : Nat) (if (↑xs.length : Int) < a then (↑xs.length : Int) else a).toNat).length (1 : Nat)) (bcond (inE (↑xs.length : Int) (0 : Nat) xs.length) (bcond (inE (if (↑xs.length : Int) < a then (↑xs.length : Int) else a) (0 : Nat) (↑xs.length : Int).toNat) (some ((V.one (A.c (C.sl (5 : Nat) (lstCut xs (0 : Nat) (if (↑xs.length : Int) < a then (↑xs.length : Int) else a).toNat))), [(Key.ext (0 : Nat), (0 : Nat), B.box (52 : Nat) [C.sl (5 : Nat) (lstCut xs (if (↑xs.length : Int) < a then (↑xs.length : Int) else a).toNat (↑xs.length : Int).toNat)] [])]))) (none)) (none)) (none)) (none) := by kernel_rfl


def lim40 : Nat := 1099511627776
theorem min_take (xs : List (List C)) {a : Int} (h : 0 ≤ a) : lstCut xs 0 (if (xs.length : Int) < a then (xs.length : Int) else a).toNat = xs.take a.toNat ∧ lstCut xs (if (xs.length : Int) < a then (xs.length : Int) else a).toNat (xs.length : Int).toNat = xs.drop a.toNat := by
  unfold lstCut
  rw [Int.toNat_natCast, List.take_length, List.drop_zero]
  split
  · rw [Int.toNat_natCast, List.take_of_length_le (by omega), List.take_of_length_le (by omega), List.drop_of_length_le (by omega), List.drop_of_length_le (by omega)]
    exact ⟨rfl, rfl⟩
  · exact ⟨rfl, rfl⟩
theorem f20_out (n : Nat) (xs : List (List C)) (a : Int) (h : 0 ≤ a) (hl : xs.length ≤ lim40) :
    evFn tab nF nO false lv20 false n Try.f20 [.one (.ptr (.ext 0) 0 0), .one (.c (.int .i64 a))] [(.ext 0, (0, .box 52 [.sl 5 xs] []))] = some (.one (.c (.sl 5 (xs.take a.toNat))), [(.ext 0, (0, .box 52 [.sl 5 (xs.drop a.toNat)] []))]) := by
  unfold lim40 at hl
  obtain ⟨h1, h2⟩ := min_take xs h
  have hlen : (xs.take a.toNat).length ≤ xs.length := by rw [List.length_take]; omega
  rw [f20_eq, h1, h2]
  have e1 : inE (if (xs.length : Int) < a then (xs.length : Int) else a) 0 xs.length = true := by rw [inE, Bool.and_eq_true, decide_eq_true_eq, decide_eq_true_eq]; split <;> omega
  rw [bcond_of e1, bcond_of (roomOk_of (by omega) (by omega)), bcond_of (by rw [inE_nat]; simp), bcond_of (by rw [Int.toNat_natCast]; exact e1)]
def e20 : En
  | [.one (.ptr (.ext 0) 0 0), .one (.c (.int .i64 a))], [(.ext 0, (0, .box 52 [.sl 5 xs] []))], k =>
    bcond (decide (0 ≤ a) && Nat.ble xs.length lim40) (k (.one (.c (.sl 5 (xs.take a.toNat)))) [(.ext 0, (0, .box 52 [.sl 5 (xs.drop a.toNat)] []))]) none
  | _, _, _ => none
theorem es20 : ES Try.prog tab 20 e20 := by
  intro args h k x hh
  unfold e20 at hh
  split at hh
  · rename_i a xs
    cases hb : (decide (0 ≤ a) && Nat.ble xs.length lim40) with
    | false => rw [hb, bcond_f] at hh; cases hh
    | true =>
      rw [hb, bcond_t] at hh
      rw [Bool.and_eq_true, decide_eq_true_eq, Nat.ble_eq] at hb
      exact ⟨_, _, hh, fn20 (nF_sound _ _) rfl (f20_out 0 xs a hb.1 hb.2)⟩
  · cases hh
def FA : Fun := mkF [(20, e20)]
theorem sFA : FSound Try.prog tab FA := mkF_sound (fun p hp => by
  simp only [List.mem_cons, List.not_mem_nil, or_false] at hp
  subst hp
  exact es20)

noncomputable abbrev f17_c3 : Code := (loops (body Try.f17)).getD 0 .skip
noncomputable abbrev f17_s3 (n : Nat) : St → (X → St → Option R) → Option R := fun st k => evCode tab FA nO lv17 false n f17_c3 st k
noncomputable abbrev f17_k3 (n : Nat) : X → St → Option R := after tab FA nO lv17 false n (body Try.f17) 0 (endK tab false Try.f17)
abbrev f17_h3 (s5 : Int) (s10 : List (List C)) (s11 : Int) (s12 : Int) (e0_0 : List (List C)) : St := { t := [((5 : Nat), V.one (A.c (C.int IntKind.i64 s5))), ((10 : Nat), V.one (A.c (C.sl (5 : Nat) s10))), ((11 : Nat), V.one (A.c (C.int IntKind.i64 s11))), ((12 : Nat), V.one (A.c (C.int IntKind.i64 s12)))], h := [(Key.ext (0 : Nat), (0 : Nat), B.box (52 : Nat) [C.sl (5 : Nat) e0_0] [])] }
abbrev f17_x3_0 (s5 : Int) (e0_0 : List (List C)) : St := { t := [((5 : Nat), V.one (A.c (C.int IntKind.i64 s5)))], h := [(Key.ext (0 : Nat), (0 : Nat), B.box (52 : Nat) [C.sl (5 : Nat) e0_0] [])] }
theorem f17_t3 (n m : Nat) (k : X → St → Option R) (s5 : Int) (s10 : List (List C)) (s11 : Int) (s12 : Int) (e0_0 : List (List C)) : evLoop false (f17_s3 n) (m + 1) (f17_h3 s5 s10 s11 s12 e0_0) k = bcond (decide (s12 < s11)) (bcond (inB s12 s10.length) (evLoop false (f17_s3 n) m (f17_h3 (ior IntKind.i64 (ishl IntKind.i64 s5 (8 : Int)) (IntKind.i64.wrap (cl (el s10 s12.toNat) (0 : Nat)).toI)) (s10) (s11) (IntKind.i64.wrap (s12 + (1 : Int))) (e0_0)) k) (none)) (k (X.exit 0) (f17_x3_0 (s5) (e0_0))) := by kernel_rfl
theorem f17_a3_0 (n : Nat) (s5 : Int) (e0_0 : List (List C)) : f17_k3 n (X.exit 0) (f17_x3_0 s5 e0_0) = some ((V.one (A.c (C.int IntKind.i64 s5)), [(Key.ext (0 : Nat), (0 : Nat), B.box (52 : Nat) [C.sl (5 : Nat) e0_0] [])])) := by kernel_rfl
theorem f17_eq (n : Nat) (xs : List (List C)) (a : Int) : evFn tab FA nO false lv17 false n Try.f17 [.one (.ptr (.ext 0) 0 0), .one (.c (.int .i64 a))] [(.ext 0, (0, .box 52 [.sl 5 xs] []))] = bcond (decide ((0 : Int) ≤ a) && xs.length.ble lim40) (evLoop false (f17_s3 n) n (f17_h3 ((0 : Int)) (List.take a.toNat xs) ((↑(List.take a.toNat xs).length : Int)) ((0 : Int)) (List.drop a.toNat xs)) (f17_k3 n)) (none) := by kernel_rfl



end Go.Proofs.Ytnbiincgplkmbaa
