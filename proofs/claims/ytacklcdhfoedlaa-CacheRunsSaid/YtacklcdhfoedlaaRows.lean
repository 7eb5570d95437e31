/-
  No cell of these rows narrows 'for every input' (looked for: loops, veiled, ifaces, maps, wideKeys, modest, calm, conditions, laid).
  DERIVED. THE GIVEN ROWS OF THIS SEAT. 6 by the template 'for every input the law returns true; each argument reads behind the call as it read before'; 0 by the template 'total and deterministic' (their statements: YtacklcdhfoedlaaTotals.lean).
  GIVEN WITH THE SEED: the statements are not yours to turn. If you find one false, say at which input.
  Laid BY PROGRAM, IN A SANDBOX (cutbox-rows.mjs): the forced cells as the released guide's own fill.sh prints them over the translation 52fb88f5a1d3ca27… (all of the seat's roots in one cut). By AI agents, Wed Nov 11 2026. No macro, syntax, notation, axiom, sorry.
-/
import Derived.Test.YtacklcdhfoedlaaChecked
import GoSem.Claim
import GoSem.ClaimJoined
import GoSem.ClaimMapViews
import Derived.JoinedTies
import Derived.KernelRfl
namespace Go.Proofs.Ytacklcdhfoedlaa
/- THE CELL 'sum', in the pinned program and in every row, IS THE sha256 OF THE DUMP (.gsa) THAT YtacklcdhfoedlaaProg.lean LOADS. Nothing in Lean hashes anything: it is a label: what it is worth is what the hold of that sum in a sandbox is worth. -/
noncomputable def Try.pinned : Pinned := { name := "ytacklcdhfoedlaa", sum := "52fb88f5a1d3ca2769c542572df8cbba8c56af6bc9644263ddbc702b8fe9e9a7", checked := Try.checked }
namespace Rows
def none {H : Type} : Left H := { results := [], args := [] }

/-- 'nomenclatorlaw09.CacheTwo': WHATEVER THE INPUT: true; the input reads as it did. -/
def cacheTwoSpec : ChangeSpec := { name := "cacheTwo", fn := fun _ => fun
  | [d1, d2, d3] => { results := [.lit (.bool true)], args := [d1, d2, d3] }
  | _ => none }
def cacheTwoRow : OpenClaim := { program := "ytacklcdhfoedlaa", sum := "52fb88f5a1d3ca2769c542572df8cbba8c56af6bc9644263ddbc702b8fe9e9a7", func := "nomenclator/nomenclatorlaw09.CacheTwo", spec := "cacheTwo", apart := false }
def CacheTwoSaid : Prop := cacheTwoRow.holds Try.pinned (OpenSpec.ofChange cacheTwoSpec)

/-- ITS FALSE NEIGHBOUR: 'it returns false'. Refute it at one input. -/
def cacheTwoWrong : ChangeSpec := { name := "cacheTwo", fn := fun _ => fun
  | [d1, d2, d3] => { results := [.lit (.bool false)], args := [d1, d2, d3] }
  | _ => none }
def CacheTwoWrongFalsely : Prop := cacheTwoRow.holds Try.pinned (OpenSpec.ofChange cacheTwoWrong)

/-- 'nomenclatorlaw09.CacheTimes': WHATEVER THE INPUT: true; the input reads as it did. -/
def cacheTimesSpec : ChangeSpec := { name := "cacheTimes", fn := fun _ => fun
  | [d1, d2] => { results := [.lit (.bool true)], args := [d1, d2] }
  | _ => none }
def cacheTimesRow : OpenClaim := { program := "ytacklcdhfoedlaa", sum := "52fb88f5a1d3ca2769c542572df8cbba8c56af6bc9644263ddbc702b8fe9e9a7", func := "nomenclator/nomenclatorlaw09.CacheTimes", spec := "cacheTimes", apart := false }
def CacheTimesSaid : Prop := cacheTimesRow.holds Try.pinned (OpenSpec.ofChange cacheTimesSpec)

/-- ITS FALSE NEIGHBOUR: 'it returns false'. Refute it at one input. -/
def cacheTimesWrong : ChangeSpec := { name := "cacheTimes", fn := fun _ => fun
  | [d1, d2] => { results := [.lit (.bool false)], args := [d1, d2] }
  | _ => none }
def CacheTimesWrongFalsely : Prop := cacheTimesRow.holds Try.pinned (OpenSpec.ofChange cacheTimesWrong)

/-- 'nomenclatorlaw09.CacheShort': WHATEVER THE INPUT: true; the input reads as it did. -/
def cacheShortSpec : ChangeSpec := { name := "cacheShort", fn := fun _ => fun
  | [d] => { results := [.lit (.bool true)], args := [d] }
  | _ => none }
def cacheShortRow : OpenClaim := { program := "ytacklcdhfoedlaa", sum := "52fb88f5a1d3ca2769c542572df8cbba8c56af6bc9644263ddbc702b8fe9e9a7", func := "nomenclator/nomenclatorlaw09.CacheShort", spec := "cacheShort", unfollowed := true, recurses := true, apart := false }
def CacheShortSaid : Prop := cacheShortRow.holds Try.pinned (OpenSpec.ofChange cacheShortSpec)

/-- ITS FALSE NEIGHBOUR: 'it returns false'. Refute it at one input. -/
def cacheShortWrong : ChangeSpec := { name := "cacheShort", fn := fun _ => fun
  | [d] => { results := [.lit (.bool false)], args := [d] }
  | _ => none }
def CacheShortWrongFalsely : Prop := cacheShortRow.holds Try.pinned (OpenSpec.ofChange cacheShortWrong)

/-- 'nomenclatorlaw09.CacheCopies': WHATEVER THE INPUT: true; the input reads as it did. -/
def cacheCopiesSpec : ChangeSpec := { name := "cacheCopies", fn := fun _ => fun
  | [d1, d2] => { results := [.lit (.bool true)], args := [d1, d2] }
  | _ => none }
def cacheCopiesRow : OpenClaim := { program := "ytacklcdhfoedlaa", sum := "52fb88f5a1d3ca2769c542572df8cbba8c56af6bc9644263ddbc702b8fe9e9a7", func := "nomenclator/nomenclatorlaw09.CacheCopies", spec := "cacheCopies", apart := false }
def CacheCopiesSaid : Prop := cacheCopiesRow.holds Try.pinned (OpenSpec.ofChange cacheCopiesSpec)

/-- ITS FALSE NEIGHBOUR: 'it returns false'. Refute it at one input. -/
def cacheCopiesWrong : ChangeSpec := { name := "cacheCopies", fn := fun _ => fun
  | [d1, d2] => { results := [.lit (.bool false)], args := [d1, d2] }
  | _ => none }
def CacheCopiesWrongFalsely : Prop := cacheCopiesRow.holds Try.pinned (OpenSpec.ofChange cacheCopiesWrong)

/-- 'nomenclatorlaw09.CacheRuns': WHATEVER THE INPUT: true; the input reads as it did. -/
def cacheRunsSpec : ChangeSpec := { name := "cacheRuns", fn := fun _ => fun
  | [d1, d2] => { results := [.lit (.bool true)], args := [d1, d2] }
  | _ => none }
def cacheRunsRow : OpenClaim := { program := "ytacklcdhfoedlaa", sum := "52fb88f5a1d3ca2769c542572df8cbba8c56af6bc9644263ddbc702b8fe9e9a7", func := "nomenclator/nomenclatorlaw09.CacheRuns", spec := "cacheRuns", unfollowed := true, recurses := true, apart := false }
def CacheRunsSaid : Prop := cacheRunsRow.holds Try.pinned (OpenSpec.ofChange cacheRunsSpec)

/-- ITS FALSE NEIGHBOUR: 'it returns false'. Refute it at one input. -/
def cacheRunsWrong : ChangeSpec := { name := "cacheRuns", fn := fun _ => fun
  | [d1, d2] => { results := [.lit (.bool false)], args := [d1, d2] }
  | _ => none }
def CacheRunsWrongFalsely : Prop := cacheRunsRow.holds Try.pinned (OpenSpec.ofChange cacheRunsWrong)

/-- 'nomenclatorlaw09.CacheSizes': WHATEVER THE INPUT: true; the input reads as it did. -/
def cacheSizesSpec : ChangeSpec := { name := "cacheSizes", fn := fun _ => fun
  | [d1, d2] => { results := [.lit (.bool true)], args := [d1, d2] }
  | _ => none }
def cacheSizesRow : OpenClaim := { program := "ytacklcdhfoedlaa", sum := "52fb88f5a1d3ca2769c542572df8cbba8c56af6bc9644263ddbc702b8fe9e9a7", func := "nomenclator/nomenclatorlaw09.CacheSizes", spec := "cacheSizes", apart := false }
def CacheSizesSaid : Prop := cacheSizesRow.holds Try.pinned (OpenSpec.ofChange cacheSizesSpec)

/-- ITS FALSE NEIGHBOUR: 'it returns false'. Refute it at one input. -/
def cacheSizesWrong : ChangeSpec := { name := "cacheSizes", fn := fun _ => fun
  | [d1, d2] => { results := [.lit (.bool false)], args := [d1, d2] }
  | _ => none }
def CacheSizesWrongFalsely : Prop := cacheSizesRow.holds Try.pinned (OpenSpec.ofChange cacheSizesWrong)

/- THE SECOND FORM. 'bulk': how many values and letters a reading holds, each counted each time it is reached (what is shared counts as often as it is met; a slice's spare places count too). A statement '..UptoSaid' is the law's where the arguments, and the package variables that the reading takes, are together of bulk at most 1048576: NARROWER than '..Said'. Prove '..Said' where nothing that the law and all that it calls make is longer than what came in: it says more and counts as full. Else prove '..UptoSaid'. A law counts once. -/
mutual
def uptoBulk {H : Type} : DataW H → Nat
  | .lit (.string bytes) => bytes.length + 1
  | .lit _ => 1
  | .nil => 1
  | .ptr d => uptoBulk d + 1
  | .slice elems spare => uptoBulkAll elems + uptoBulkAll spare + 1
  | .agg parts => uptoBulkAll parts + 1
  | .iface _ d => uptoBulk d + 1
  | .map entries => uptoBulkEntries entries + 1
  | .held _ => 1
def uptoBulkAll {H : Type} : List (DataW H) → Nat
  | [] => 0
  | d :: r => uptoBulk d + uptoBulkAll r
def uptoBulkEntries {H : Type} : List (Lit × DataW H) → Nat
  | [] => 0
  | x :: r => uptoBulkEntry x + uptoBulkEntries r
def uptoBulkEntry {H : Type} : Lit × DataW H → Nat
  | (.string bytes, d) => bytes.length + uptoBulk d + 1
  | (_, d) => uptoBulk d + 1
 end
def uptoSmall : (H : Type) → List (DataW H) → Bool := fun _ ds => decide (uptoBulkAll ds ≤ 1048576)
def OpenSpec.upto (s : _root_.Go.ChangeSpec) : _root_.Go.OpenSpec := { _root_.Go.OpenSpec.ofChange s with cond := some uptoSmall }

/-- 'nomenclatorlaw09.CacheTwo', WHERE WHAT IT READS IS OF BULK AT MOST 1048576: true; the input reads as it did. -/
def cacheTwoUptoRow : OpenClaim := { program := "ytacklcdhfoedlaa", sum := "52fb88f5a1d3ca2769c542572df8cbba8c56af6bc9644263ddbc702b8fe9e9a7", func := "nomenclator/nomenclatorlaw09.CacheTwo", spec := "cacheTwo", apart := false, narrowed := true }
def CacheTwoUptoSaid : Prop := cacheTwoUptoRow.holds Try.pinned (OpenSpec.upto cacheTwoSpec)

/-- 'nomenclatorlaw09.CacheTimes', WHERE WHAT IT READS IS OF BULK AT MOST 1048576: true; the input reads as it did. -/
def cacheTimesUptoRow : OpenClaim := { program := "ytacklcdhfoedlaa", sum := "52fb88f5a1d3ca2769c542572df8cbba8c56af6bc9644263ddbc702b8fe9e9a7", func := "nomenclator/nomenclatorlaw09.CacheTimes", spec := "cacheTimes", apart := false, narrowed := true }
def CacheTimesUptoSaid : Prop := cacheTimesUptoRow.holds Try.pinned (OpenSpec.upto cacheTimesSpec)

/-- 'nomenclatorlaw09.CacheShort', WHERE WHAT IT READS IS OF BULK AT MOST 1048576: true; the input reads as it did. -/
def cacheShortUptoRow : OpenClaim := { program := "ytacklcdhfoedlaa", sum := "52fb88f5a1d3ca2769c542572df8cbba8c56af6bc9644263ddbc702b8fe9e9a7", func := "nomenclator/nomenclatorlaw09.CacheShort", spec := "cacheShort", unfollowed := true, recurses := true, apart := false, narrowed := true }
def CacheShortUptoSaid : Prop := cacheShortUptoRow.holds Try.pinned (OpenSpec.upto cacheShortSpec)

/-- 'nomenclatorlaw09.CacheCopies', WHERE WHAT IT READS IS OF BULK AT MOST 1048576: true; the input reads as it did. -/
def cacheCopiesUptoRow : OpenClaim := { program := "ytacklcdhfoedlaa", sum := "52fb88f5a1d3ca2769c542572df8cbba8c56af6bc9644263ddbc702b8fe9e9a7", func := "nomenclator/nomenclatorlaw09.CacheCopies", spec := "cacheCopies", apart := false, narrowed := true }
def CacheCopiesUptoSaid : Prop := cacheCopiesUptoRow.holds Try.pinned (OpenSpec.upto cacheCopiesSpec)

/-- 'nomenclatorlaw09.CacheRuns', WHERE WHAT IT READS IS OF BULK AT MOST 1048576: true; the input reads as it did. -/
def cacheRunsUptoRow : OpenClaim := { program := "ytacklcdhfoedlaa", sum := "52fb88f5a1d3ca2769c542572df8cbba8c56af6bc9644263ddbc702b8fe9e9a7", func := "nomenclator/nomenclatorlaw09.CacheRuns", spec := "cacheRuns", unfollowed := true, recurses := true, apart := false, narrowed := true }
def CacheRunsUptoSaid : Prop := cacheRunsUptoRow.holds Try.pinned (OpenSpec.upto cacheRunsSpec)

/-- 'nomenclatorlaw09.CacheSizes', WHERE WHAT IT READS IS OF BULK AT MOST 1048576: true; the input reads as it did. -/
def cacheSizesUptoRow : OpenClaim := { program := "ytacklcdhfoedlaa", sum := "52fb88f5a1d3ca2769c542572df8cbba8c56af6bc9644263ddbc702b8fe9e9a7", func := "nomenclator/nomenclatorlaw09.CacheSizes", spec := "cacheSizes", apart := false, narrowed := true }
def CacheSizesUptoSaid : Prop := cacheSizesUptoRow.holds Try.pinned (OpenSpec.upto cacheSizesSpec)

end Rows
end Go.Proofs.Ytacklcdhfoedlaa
