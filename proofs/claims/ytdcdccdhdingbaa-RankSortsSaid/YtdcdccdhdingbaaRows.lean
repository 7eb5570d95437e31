/-
  No cell of these rows narrows 'for every input' (looked for: loops, veiled, ifaces, maps, wideKeys, modest, calm, conditions, laid).
  DERIVED. THE GIVEN ROWS OF THIS SEAT. 6 by the template 'for every input the law returns true; each argument reads behind the call as it read before'; 0 by the template 'total and deterministic' (their statements: YtdcdccdhdingbaaTotals.lean).
  GIVEN WITH THE SEED: the statements are not yours to turn. If you find one false, say at which input.
  Laid BY PROGRAM, IN A SANDBOX (cutbox-rows.mjs): the forced cells as the released guide's own fill.sh prints them over the translation 4315a12742625310… (all of the seat's roots in one cut). By AI agents, Wed Nov 11 2026. No macro, syntax, notation, axiom, sorry.
-/
import Derived.Test.YtdcdccdhdingbaaChecked
import GoSem.Claim
import GoSem.ClaimJoined
import GoSem.ClaimMapViews
import Derived.JoinedTies
import Derived.KernelRfl
namespace Go.Proofs.Ytdcdccdhdingbaa
/- THE CELL 'sum', in the pinned program and in every row, IS THE sha256 OF THE DUMP (.gsa) THAT YtdcdccdhdingbaaProg.lean LOADS. Nothing in Lean hashes anything: it is a label: what it is worth is what the hold of that sum in a sandbox is worth. -/
noncomputable def Try.pinned : Pinned := { name := "ytdcdccdhdingbaa", sum := "4315a127426253100f6cd0ea0bc245b2acc87d9bd55e775b77488cebd993ac11", checked := Try.checked }
namespace Rows
def none {H : Type} : Left H := { results := [], args := [] }

/-- 'nomenclatorlaw10.RankSelf': WHATEVER THE INPUT: true; the input reads as it did. -/
def rankSelfSpec : ChangeSpec := { name := "rankSelf", fn := fun _ => fun
  | [d1, d2, d3] => { results := [.lit (.bool true)], args := [d1, d2, d3] }
  | _ => none }
def rankSelfRow : OpenClaim := { program := "ytdcdccdhdingbaa", sum := "4315a127426253100f6cd0ea0bc245b2acc87d9bd55e775b77488cebd993ac11", func := "nomenclator/nomenclatorlaw10.RankSelf", spec := "rankSelf", unfollowed := true, recurses := true, apart := false }
def RankSelfSaid : Prop := rankSelfRow.holds Try.pinned (OpenSpec.ofChange rankSelfSpec)

/-- ITS FALSE NEIGHBOUR: 'it returns false'. Refute it at one input. -/
def rankSelfWrong : ChangeSpec := { name := "rankSelf", fn := fun _ => fun
  | [d1, d2, d3] => { results := [.lit (.bool false)], args := [d1, d2, d3] }
  | _ => none }
def RankSelfWrongFalsely : Prop := rankSelfRow.holds Try.pinned (OpenSpec.ofChange rankSelfWrong)

/-- 'nomenclatorlaw10.RankFamilies': WHATEVER THE INPUT: true; the input reads as it did. -/
def rankFamiliesSpec : ChangeSpec := { name := "rankFamilies", fn := fun _ => fun
  | [d1, d2] => { results := [.lit (.bool true)], args := [d1, d2] }
  | _ => none }
def rankFamiliesRow : OpenClaim := { program := "ytdcdccdhdingbaa", sum := "4315a127426253100f6cd0ea0bc245b2acc87d9bd55e775b77488cebd993ac11", func := "nomenclator/nomenclatorlaw10.RankFamilies", spec := "rankFamilies", unfollowed := true, recurses := true, apart := false }
def RankFamiliesSaid : Prop := rankFamiliesRow.holds Try.pinned (OpenSpec.ofChange rankFamiliesSpec)

/-- ITS FALSE NEIGHBOUR: 'it returns false'. Refute it at one input. -/
def rankFamiliesWrong : ChangeSpec := { name := "rankFamilies", fn := fun _ => fun
  | [d1, d2] => { results := [.lit (.bool false)], args := [d1, d2] }
  | _ => none }
def RankFamiliesWrongFalsely : Prop := rankFamiliesRow.holds Try.pinned (OpenSpec.ofChange rankFamiliesWrong)

/-- 'nomenclatorlaw10.RankSorts': WHATEVER THE INPUT: true; the input reads as it did. -/
def rankSortsSpec : ChangeSpec := { name := "rankSorts", fn := fun _ => fun
  | [d1, d2] => { results := [.lit (.bool true)], args := [d1, d2] }
  | _ => none }
def rankSortsRow : OpenClaim := { program := "ytdcdccdhdingbaa", sum := "4315a127426253100f6cd0ea0bc245b2acc87d9bd55e775b77488cebd993ac11", func := "nomenclator/nomenclatorlaw10.RankSorts", spec := "rankSorts", unfollowed := true, recurses := true, apart := false }
def RankSortsSaid : Prop := rankSortsRow.holds Try.pinned (OpenSpec.ofChange rankSortsSpec)

/-- ITS FALSE NEIGHBOUR: 'it returns false'. Refute it at one input. -/
def rankSortsWrong : ChangeSpec := { name := "rankSorts", fn := fun _ => fun
  | [d1, d2] => { results := [.lit (.bool false)], args := [d1, d2] }
  | _ => none }
def RankSortsWrongFalsely : Prop := rankSortsRow.holds Try.pinned (OpenSpec.ofChange rankSortsWrong)

/-- 'nomenclatorlaw10.RankPolicies': WHATEVER THE INPUT: true; the input reads as it did. -/
def rankPoliciesSpec : ChangeSpec := { name := "rankPolicies", fn := fun _ => fun
  | [d] => { results := [.lit (.bool true)], args := [d] }
  | _ => none }
def rankPoliciesRow : OpenClaim := { program := "ytdcdccdhdingbaa", sum := "4315a127426253100f6cd0ea0bc245b2acc87d9bd55e775b77488cebd993ac11", func := "nomenclator/nomenclatorlaw10.RankPolicies", spec := "rankPolicies", unfollowed := true, recurses := true, apart := false }
def RankPoliciesSaid : Prop := rankPoliciesRow.holds Try.pinned (OpenSpec.ofChange rankPoliciesSpec)

/-- ITS FALSE NEIGHBOUR: 'it returns false'. Refute it at one input. -/
def rankPoliciesWrong : ChangeSpec := { name := "rankPolicies", fn := fun _ => fun
  | [d] => { results := [.lit (.bool false)], args := [d] }
  | _ => none }
def RankPoliciesWrongFalsely : Prop := rankPoliciesRow.holds Try.pinned (OpenSpec.ofChange rankPoliciesWrong)

/-- 'nomenclatorlaw10.RankKeys': WHATEVER THE INPUT: true; the input reads as it did. -/
def rankKeysSpec : ChangeSpec := { name := "rankKeys", fn := fun _ => fun
  | [d1, d2, d3] => { results := [.lit (.bool true)], args := [d1, d2, d3] }
  | _ => none }
def rankKeysRow : OpenClaim := { program := "ytdcdccdhdingbaa", sum := "4315a127426253100f6cd0ea0bc245b2acc87d9bd55e775b77488cebd993ac11", func := "nomenclator/nomenclatorlaw10.RankKeys", spec := "rankKeys", unfollowed := true, recurses := true, apart := false }
def RankKeysSaid : Prop := rankKeysRow.holds Try.pinned (OpenSpec.ofChange rankKeysSpec)

/-- ITS FALSE NEIGHBOUR: 'it returns false'. Refute it at one input. -/
def rankKeysWrong : ChangeSpec := { name := "rankKeys", fn := fun _ => fun
  | [d1, d2, d3] => { results := [.lit (.bool false)], args := [d1, d2, d3] }
  | _ => none }
def RankKeysWrongFalsely : Prop := rankKeysRow.holds Try.pinned (OpenSpec.ofChange rankKeysWrong)

/-- 'nomenclatorlaw10.RankTurns': WHATEVER THE INPUT: true; the input reads as it did. -/
def rankTurnsSpec : ChangeSpec := { name := "rankTurns", fn := fun _ => fun
  | [d1, d2, d3] => { results := [.lit (.bool true)], args := [d1, d2, d3] }
  | _ => none }
def rankTurnsRow : OpenClaim := { program := "ytdcdccdhdingbaa", sum := "4315a127426253100f6cd0ea0bc245b2acc87d9bd55e775b77488cebd993ac11", func := "nomenclator/nomenclatorlaw10.RankTurns", spec := "rankTurns", unfollowed := true, recurses := true, apart := false }
def RankTurnsSaid : Prop := rankTurnsRow.holds Try.pinned (OpenSpec.ofChange rankTurnsSpec)

/-- ITS FALSE NEIGHBOUR: 'it returns false'. Refute it at one input. -/
def rankTurnsWrong : ChangeSpec := { name := "rankTurns", fn := fun _ => fun
  | [d1, d2, d3] => { results := [.lit (.bool false)], args := [d1, d2, d3] }
  | _ => none }
def RankTurnsWrongFalsely : Prop := rankTurnsRow.holds Try.pinned (OpenSpec.ofChange rankTurnsWrong)

/- THE SECOND FORM. 'bulk': how many values and letters a reading holds, each counted each time it is reached (what is shared counts as often as it is met; a slice's spare places count too). A statement '..UptoSaid' is the law's where the arguments, and the package variables that the reading takes, are together of bulk at most 1048576: NARROWER than '..Said'. Prove '..Said' where nothing that the law and all that it calls make is longer than what came in: it says more and counts as full. Else prove '..UptoSaid'. A law counts once. -/
mutual
def uptoBulk {H : Type} : DataW H → Nat
  | .lit (.string bytes) => bytes.length + 1
  | .lit _ => 1
  | .nil => 1
  | .ptr d => uptoBulk d + 1
  | .slice elems spare => uptoBulkAll elems + uptoBulkAll spare + 1
  | .agg parts => uptoBulkAll parts + 1
  | .iface _ d => uptoBulk d + 1
  | .map entries => uptoBulkEntries entries + 1
  | .held _ => 1
def uptoBulkAll {H : Type} : List (DataW H) → Nat
  | [] => 0
  | d :: r => uptoBulk d + uptoBulkAll r
def uptoBulkEntries {H : Type} : List (Lit × DataW H) → Nat
  | [] => 0
  | x :: r => uptoBulkEntry x + uptoBulkEntries r
def uptoBulkEntry {H : Type} : Lit × DataW H → Nat
  | (.string bytes, d) => bytes.length + uptoBulk d + 1
  | (_, d) => uptoBulk d + 1
 end
def uptoSmall : (H : Type) → List (DataW H) → Bool := fun _ ds => decide (uptoBulkAll ds ≤ 1048576)
def OpenSpec.upto (s : _root_.Go.ChangeSpec) : _root_.Go.OpenSpec := { _root_.Go.OpenSpec.ofChange s with cond := some uptoSmall }

/-- 'nomenclatorlaw10.RankSelf', WHERE WHAT IT READS IS OF BULK AT MOST 1048576: true; the input reads as it did. -/
def rankSelfUptoRow : OpenClaim := { program := "ytdcdccdhdingbaa", sum := "4315a127426253100f6cd0ea0bc245b2acc87d9bd55e775b77488cebd993ac11", func := "nomenclator/nomenclatorlaw10.RankSelf", spec := "rankSelf", unfollowed := true, recurses := true, apart := false, narrowed := true }
def RankSelfUptoSaid : Prop := rankSelfUptoRow.holds Try.pinned (OpenSpec.upto rankSelfSpec)

/-- 'nomenclatorlaw10.RankFamilies', WHERE WHAT IT READS IS OF BULK AT MOST 1048576: true; the input reads as it did. -/
def rankFamiliesUptoRow : OpenClaim := { program := "ytdcdccdhdingbaa", sum := "4315a127426253100f6cd0ea0bc245b2acc87d9bd55e775b77488cebd993ac11", func := "nomenclator/nomenclatorlaw10.RankFamilies", spec := "rankFamilies", unfollowed := true, recurses := true, apart := false, narrowed := true }
def RankFamiliesUptoSaid : Prop := rankFamiliesUptoRow.holds Try.pinned (OpenSpec.upto rankFamiliesSpec)

/-- 'nomenclatorlaw10.RankSorts', WHERE WHAT IT READS IS OF BULK AT MOST 1048576: true; the input reads as it did. -/
def rankSortsUptoRow : OpenClaim := { program := "ytdcdccdhdingbaa", sum := "4315a127426253100f6cd0ea0bc245b2acc87d9bd55e775b77488cebd993ac11", func := "nomenclator/nomenclatorlaw10.RankSorts", spec := "rankSorts", unfollowed := true, recurses := true, apart := false, narrowed := true }
def RankSortsUptoSaid : Prop := rankSortsUptoRow.holds Try.pinned (OpenSpec.upto rankSortsSpec)

/-- 'nomenclatorlaw10.RankPolicies', WHERE WHAT IT READS IS OF BULK AT MOST 1048576: true; the input reads as it did. -/
def rankPoliciesUptoRow : OpenClaim := { program := "ytdcdccdhdingbaa", sum := "4315a127426253100f6cd0ea0bc245b2acc87d9bd55e775b77488cebd993ac11", func := "nomenclator/nomenclatorlaw10.RankPolicies", spec := "rankPolicies", unfollowed := true, recurses := true, apart := false, narrowed := true }
def RankPoliciesUptoSaid : Prop := rankPoliciesUptoRow.holds Try.pinned (OpenSpec.upto rankPoliciesSpec)

/-- 'nomenclatorlaw10.RankKeys', WHERE WHAT IT READS IS OF BULK AT MOST 1048576: true; the input reads as it did. -/
def rankKeysUptoRow : OpenClaim := { program := "ytdcdccdhdingbaa", sum := "4315a127426253100f6cd0ea0bc245b2acc87d9bd55e775b77488cebd993ac11", func := "nomenclator/nomenclatorlaw10.RankKeys", spec := "rankKeys", unfollowed := true, recurses := true, apart := false, narrowed := true }
def RankKeysUptoSaid : Prop := rankKeysUptoRow.holds Try.pinned (OpenSpec.upto rankKeysSpec)

/-- 'nomenclatorlaw10.RankTurns', WHERE WHAT IT READS IS OF BULK AT MOST 1048576: true; the input reads as it did. -/
def rankTurnsUptoRow : OpenClaim := { program := "ytdcdccdhdingbaa", sum := "4315a127426253100f6cd0ea0bc245b2acc87d9bd55e775b77488cebd993ac11", func := "nomenclator/nomenclatorlaw10.RankTurns", spec := "rankTurns", unfollowed := true, recurses := true, apart := false, narrowed := true }
def RankTurnsUptoSaid : Prop := rankTurnsUptoRow.holds Try.pinned (OpenSpec.upto rankTurnsSpec)

end Rows
end Go.Proofs.Ytdcdccdhdingbaa
