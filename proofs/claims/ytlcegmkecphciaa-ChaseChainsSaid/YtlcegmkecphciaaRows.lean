/-
  No cell of these rows narrows 'for every input' (looked for: loops, veiled, ifaces, maps, wideKeys, modest, calm, conditions, laid).
  DERIVED. THE GIVEN ROWS OF THIS SEAT. 4 by the template 'for every input the law returns true; each argument reads behind the call as it read before'; 0 by the template 'total and deterministic' (their statements: YtlcegmkecphciaaTotals.lean).
  GIVEN WITH THE SEED: the statements are not yours to turn. If you find one false, say at which input.
  Laid BY PROGRAM, IN A SANDBOX (cutbox-rows.mjs): the forced cells as the released guide's own fill.sh prints them over the translation eaba87f8e915660d… (all of the seat's roots in one cut). By AI agents, Wed Nov 11 2026. No macro, syntax, notation, axiom, sorry.
-/
import Derived.Test.YtlcegmkecphciaaChecked
import GoSem.Claim
import GoSem.ClaimJoined
import GoSem.ClaimMapViews
import Derived.JoinedTies
import Derived.KernelRfl
namespace Go.Proofs.Ytlcegmkecphciaa
/- THE CELL 'sum', in the pinned program and in every row, IS THE sha256 OF THE DUMP (.gsa) THAT YtlcegmkecphciaaProg.lean LOADS. Nothing in Lean hashes anything: it is a label: what it is worth is what the hold of that sum in a sandbox is worth. -/
noncomputable def Try.pinned : Pinned := { name := "ytlcegmkecphciaa", sum := "eaba87f8e915660ddfa8d305246031209b9ec8d06221e59bb58e7587eb7268f9", checked := Try.checked }
namespace Rows
def none {H : Type} : Left H := { results := [], args := [] }

/-- 'nomenclatorlaw15.ChaseRings': WHATEVER THE INPUT: true; the input reads as it did. -/
def chaseRingsSpec : ChangeSpec := { name := "chaseRings", fn := fun _ => fun
  | [d] => { results := [.lit (.bool true)], args := [d] }
  | _ => none }
def chaseRingsRow : OpenClaim := { program := "ytlcegmkecphciaa", sum := "eaba87f8e915660ddfa8d305246031209b9ec8d06221e59bb58e7587eb7268f9", func := "nomenclator/nomenclatorlaw15.ChaseRings", spec := "chaseRings", unfollowed := true, recurses := true, apart := false }
def ChaseRingsSaid : Prop := chaseRingsRow.holds Try.pinned (OpenSpec.ofChange chaseRingsSpec)

/-- ITS FALSE NEIGHBOUR: 'it returns false'. Refute it at one input. -/
def chaseRingsWrong : ChangeSpec := { name := "chaseRings", fn := fun _ => fun
  | [d] => { results := [.lit (.bool false)], args := [d] }
  | _ => none }
def ChaseRingsWrongFalsely : Prop := chaseRingsRow.holds Try.pinned (OpenSpec.ofChange chaseRingsWrong)

/-- 'nomenclatorlaw15.ChaseChains': WHATEVER THE INPUT: true; the input reads as it did. -/
def chaseChainsSpec : ChangeSpec := { name := "chaseChains", fn := fun _ => fun
  | [d1, d2] => { results := [.lit (.bool true)], args := [d1, d2] }
  | _ => none }
def chaseChainsRow : OpenClaim := { program := "ytlcegmkecphciaa", sum := "eaba87f8e915660ddfa8d305246031209b9ec8d06221e59bb58e7587eb7268f9", func := "nomenclator/nomenclatorlaw15.ChaseChains", spec := "chaseChains", unfollowed := true, recurses := true, apart := false }
def ChaseChainsSaid : Prop := chaseChainsRow.holds Try.pinned (OpenSpec.ofChange chaseChainsSpec)

/-- ITS FALSE NEIGHBOUR: 'it returns false'. Refute it at one input. -/
def chaseChainsWrong : ChangeSpec := { name := "chaseChains", fn := fun _ => fun
  | [d1, d2] => { results := [.lit (.bool false)], args := [d1, d2] }
  | _ => none }
def ChaseChainsWrongFalsely : Prop := chaseChainsRow.holds Try.pinned (OpenSpec.ofChange chaseChainsWrong)

/-- 'nomenclatorlaw15.ChaseParts': WHATEVER THE INPUT: true; the input reads as it did. -/
def chasePartsSpec : ChangeSpec := { name := "chaseParts", fn := fun _ => fun
  | [d1, d2, d3] => { results := [.lit (.bool true)], args := [d1, d2, d3] }
  | _ => none }
def chasePartsRow : OpenClaim := { program := "ytlcegmkecphciaa", sum := "eaba87f8e915660ddfa8d305246031209b9ec8d06221e59bb58e7587eb7268f9", func := "nomenclator/nomenclatorlaw15.ChaseParts", spec := "chaseParts", apart := false }
def ChasePartsSaid : Prop := chasePartsRow.holds Try.pinned (OpenSpec.ofChange chasePartsSpec)

/-- ITS FALSE NEIGHBOUR: 'it returns false'. Refute it at one input. -/
def chasePartsWrong : ChangeSpec := { name := "chaseParts", fn := fun _ => fun
  | [d1, d2, d3] => { results := [.lit (.bool false)], args := [d1, d2, d3] }
  | _ => none }
def ChasePartsWrongFalsely : Prop := chasePartsRow.holds Try.pinned (OpenSpec.ofChange chasePartsWrong)

/-- 'nomenclatorlaw15.ChaseNegatives': WHATEVER THE INPUT: true; the input reads as it did. -/
def chaseNegativesSpec : ChangeSpec := { name := "chaseNegatives", fn := fun _ => fun
  | [d1, d2] => { results := [.lit (.bool true)], args := [d1, d2] }
  | _ => none }
def chaseNegativesRow : OpenClaim := { program := "ytlcegmkecphciaa", sum := "eaba87f8e915660ddfa8d305246031209b9ec8d06221e59bb58e7587eb7268f9", func := "nomenclator/nomenclatorlaw15.ChaseNegatives", spec := "chaseNegatives", apart := false }
def ChaseNegativesSaid : Prop := chaseNegativesRow.holds Try.pinned (OpenSpec.ofChange chaseNegativesSpec)

/-- ITS FALSE NEIGHBOUR: 'it returns false'. Refute it at one input. -/
def chaseNegativesWrong : ChangeSpec := { name := "chaseNegatives", fn := fun _ => fun
  | [d1, d2] => { results := [.lit (.bool false)], args := [d1, d2] }
  | _ => none }
def ChaseNegativesWrongFalsely : Prop := chaseNegativesRow.holds Try.pinned (OpenSpec.ofChange chaseNegativesWrong)

/- THE SECOND FORM. 'bulk': how many values and letters a reading holds, each counted each time it is reached (what is shared counts as often as it is met; a slice's spare places count too). A statement '..UptoSaid' is the law's where the arguments, and the package variables that the reading takes, are together of bulk at most 1048576: NARROWER than '..Said'. Prove '..Said' where nothing that the law and all that it calls make is longer than what came in: it says more and counts as full. Else prove '..UptoSaid'. A law counts once. -/
mutual
def uptoBulk {H : Type} : DataW H → Nat
  | .lit (.string bytes) => bytes.length + 1
  | .lit _ => 1
  | .nil => 1
  | .ptr d => uptoBulk d + 1
  | .slice elems spare => uptoBulkAll elems + uptoBulkAll spare + 1
  | .agg parts => uptoBulkAll parts + 1
  | .iface _ d => uptoBulk d + 1
  | .map entries => uptoBulkEntries entries + 1
  | .held _ => 1
def uptoBulkAll {H : Type} : List (DataW H) → Nat
  | [] => 0
  | d :: r => uptoBulk d + uptoBulkAll r
def uptoBulkEntries {H : Type} : List (Lit × DataW H) → Nat
  | [] => 0
  | x :: r => uptoBulkEntry x + uptoBulkEntries r
def uptoBulkEntry {H : Type} : Lit × DataW H → Nat
  | (.string bytes, d) => bytes.length + uptoBulk d + 1
  | (_, d) => uptoBulk d + 1
 end
def uptoSmall : (H : Type) → List (DataW H) → Bool := fun _ ds => decide (uptoBulkAll ds ≤ 1048576)
def OpenSpec.upto (s : _root_.Go.ChangeSpec) : _root_.Go.OpenSpec := { _root_.Go.OpenSpec.ofChange s with cond := some uptoSmall }

/-- 'nomenclatorlaw15.ChaseRings', WHERE WHAT IT READS IS OF BULK AT MOST 1048576: true; the input reads as it did. -/
def chaseRingsUptoRow : OpenClaim := { program := "ytlcegmkecphciaa", sum := "eaba87f8e915660ddfa8d305246031209b9ec8d06221e59bb58e7587eb7268f9", func := "nomenclator/nomenclatorlaw15.ChaseRings", spec := "chaseRings", unfollowed := true, recurses := true, apart := false, narrowed := true }
def ChaseRingsUptoSaid : Prop := chaseRingsUptoRow.holds Try.pinned (OpenSpec.upto chaseRingsSpec)

/-- 'nomenclatorlaw15.ChaseChains', WHERE WHAT IT READS IS OF BULK AT MOST 1048576: true; the input reads as it did. -/
def chaseChainsUptoRow : OpenClaim := { program := "ytlcegmkecphciaa", sum := "eaba87f8e915660ddfa8d305246031209b9ec8d06221e59bb58e7587eb7268f9", func := "nomenclator/nomenclatorlaw15.ChaseChains", spec := "chaseChains", unfollowed := true, recurses := true, apart := false, narrowed := true }
def ChaseChainsUptoSaid : Prop := chaseChainsUptoRow.holds Try.pinned (OpenSpec.upto chaseChainsSpec)

/-- 'nomenclatorlaw15.ChaseParts', WHERE WHAT IT READS IS OF BULK AT MOST 1048576: true; the input reads as it did. -/
def chasePartsUptoRow : OpenClaim := { program := "ytlcegmkecphciaa", sum := "eaba87f8e915660ddfa8d305246031209b9ec8d06221e59bb58e7587eb7268f9", func := "nomenclator/nomenclatorlaw15.ChaseParts", spec := "chaseParts", apart := false, narrowed := true }
def ChasePartsUptoSaid : Prop := chasePartsUptoRow.holds Try.pinned (OpenSpec.upto chasePartsSpec)

/-- 'nomenclatorlaw15.ChaseNegatives', WHERE WHAT IT READS IS OF BULK AT MOST 1048576: true; the input reads as it did. -/
def chaseNegativesUptoRow : OpenClaim := { program := "ytlcegmkecphciaa", sum := "eaba87f8e915660ddfa8d305246031209b9ec8d06221e59bb58e7587eb7268f9", func := "nomenclator/nomenclatorlaw15.ChaseNegatives", spec := "chaseNegatives", apart := false, narrowed := true }
def ChaseNegativesUptoSaid : Prop := chaseNegativesUptoRow.holds Try.pinned (OpenSpec.upto chaseNegativesSpec)

end Rows
end Go.Proofs.Ytlcegmkecphciaa
