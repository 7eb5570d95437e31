/- Lem -/
import Derived.Test.YtacklcdhfoedlaaFe
import Derived.KernelRfl
namespace Go.Proofs.Ytacklcdhfoedlaa
open Go Go.Eng
set_option maxRecDepth 100000
/-! What a small cache does. -/
theorem putR_nil {now size : Int} (h : size ≠ 0) {q0 q1 : C} {oc : Int} {rs : List (List C)} {ttl : Int} (ht : 1 ≤ ttl) : putR now size [] q0 q1 oc rs ttl = [mkE now q0 q1 oc rs ttl] := by
  unfold putR
  rw [if_neg (by simpa using h), if_neg (by simp; omega)]
  have : ¬ ((([] : List (List C)).length : Int) == size) = true := by
    simp only [List.length_nil, beq_iff_eq]
    exact fun hc => h hc.symm
  have hr : restOf now size [] [q0, q1] = [] := if_neg this
  rw [hr]
  rfl
theorem filter_all {α : Type} {p : α → Bool} {l : List α} (h : ∀ x ∈ l, p x = true) : l.filter p = l := List.filter_eq_self.2 h
theorem putR_full {now size : Int} {es : List (List C)} {q0 q1 : C} {oc : Int} {rs : List (List C)} {ttl : Int} (h : size ≠ 0) (ht : 1 ≤ ttl) (hl : ∀ e ∈ es, live now e = true) (hq : ∀ e ∈ es, notQ [q0, q1] e = true) :
    putR now size es q0 q1 oc rs ttl = (if ((es.length : Int) == size) = true then es.take (minIx es) ++ es.drop (minIx es + 1) else es) ++ [mkE now q0 q1 oc rs ttl] := by
  unfold putR
  rw [if_neg (by simpa using h), if_neg (by simp; omega)]
  have hr : restOf now size es [q0, q1] = if ((es.length : Int) == size) = true then es.take (minIx es) ++ es.drop (minIx es + 1) else es := by
    unfold restOf
    rw [filter_all hl, filter_all hq]
  rw [hr]
theorem mem_cut {α : Type} {l : List α} {k : Nat} {x : α} (h : x ∈ l.take k ++ l.drop (k + 1)) : x ∈ l :=
  (List.mem_append.1 h).elim List.mem_of_mem_take List.mem_of_mem_drop

end Go.Proofs.Ytacklcdhfoedlaa
