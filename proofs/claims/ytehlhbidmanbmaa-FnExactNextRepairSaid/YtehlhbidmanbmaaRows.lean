/-
  No cell of these rows narrows 'for every input' (looked for: loops, veiled, ifaces, maps, wideKeys, modest, calm, conditions, laid).
  DERIVED. THE GIVEN ROWS OF THIS SEAT. 12 by the template 'for every input the law returns true; each argument reads behind the call as it read before'; 0 by the template 'total and deterministic' (their statements: YtehlhbidmanbmaaTotals.lean).
  GIVEN WITH THE SEED: the statements are not yours to turn. If you find one false, say at which input.
  Laid BY PROGRAM, IN A SANDBOX (cutbox-rows.mjs): the forced cells as the released guide's own fill.sh prints them over the translation fc1859e4a5c2e643… (all of the seat's roots in one cut). By AI agents, Wed Nov 11 2026. No macro, syntax, notation, axiom, sorry.
-/
import Derived.Test.YtehlhbidmanbmaaChecked
import GoSem.Claim
import GoSem.ClaimJoined
import GoSem.ClaimMapViews
import Derived.JoinedTies
import Derived.KernelRfl
namespace Go.Proofs.Ytehlhbidmanbmaa
/- THE CELL 'sum', in the pinned program and in every row, IS THE sha256 OF THE DUMP (.gsa) THAT YtehlhbidmanbmaaProg.lean LOADS. Nothing in Lean hashes anything: it is a label: what it is worth is what the hold of that sum in a sandbox is worth. -/
noncomputable def Try.pinned : Pinned := { name := "ytehlhbidmanbmaa", sum := "fc1859e4a5c2e643868c277f33fdd69d53217ffb671f602710319f9d19d870d4", checked := Try.checked }
namespace Rows
def none {H : Type} : Left H := { results := [], args := [] }

/-- 'laws.FnExactIsPartialRepair': WHATEVER THE INPUT: true; the input reads as it did. -/
def fnExactIsPartialRepairSpec : ChangeSpec := { name := "fnExactIsPartialRepair", fn := fun _ => fun
  | [d1, d2] => { results := [.lit (.bool true)], args := [d1, d2] }
  | _ => none }
def fnExactIsPartialRepairRow : OpenClaim := { program := "ytehlhbidmanbmaa", sum := "fc1859e4a5c2e643868c277f33fdd69d53217ffb671f602710319f9d19d870d4", func := "loop.example/g01918/laws.FnExactIsPartialRepair", spec := "fnExactIsPartialRepair", unfollowed := true, recurses := true, apart := false }
def FnExactIsPartialRepairSaid : Prop := fnExactIsPartialRepairRow.holds Try.pinned (OpenSpec.ofChange fnExactIsPartialRepairSpec)

/-- ITS FALSE NEIGHBOUR: 'it returns false'. Refute it at one input. -/
def fnExactIsPartialRepairWrong : ChangeSpec := { name := "fnExactIsPartialRepair", fn := fun _ => fun
  | [d1, d2] => { results := [.lit (.bool false)], args := [d1, d2] }
  | _ => none }
def FnExactIsPartialRepairWrongFalsely : Prop := fnExactIsPartialRepairRow.holds Try.pinned (OpenSpec.ofChange fnExactIsPartialRepairWrong)

/-- 'laws.FnExactConflictingFacts': WHATEVER THE INPUT: true; the input reads as it did. -/
def fnExactConflictingFactsSpec : ChangeSpec := { name := "fnExactConflictingFacts", fn := fun _ => fun
  | [d] => { results := [.lit (.bool true)], args := [d] }
  | _ => none }
def fnExactConflictingFactsRow : OpenClaim := { program := "ytehlhbidmanbmaa", sum := "fc1859e4a5c2e643868c277f33fdd69d53217ffb671f602710319f9d19d870d4", func := "loop.example/g01918/laws.FnExactConflictingFacts", spec := "fnExactConflictingFacts", unfollowed := true, recurses := true, apart := false }
def FnExactConflictingFactsSaid : Prop := fnExactConflictingFactsRow.holds Try.pinned (OpenSpec.ofChange fnExactConflictingFactsSpec)

/-- ITS FALSE NEIGHBOUR: 'it returns false'. Refute it at one input. -/
def fnExactConflictingFactsWrong : ChangeSpec := { name := "fnExactConflictingFacts", fn := fun _ => fun
  | [d] => { results := [.lit (.bool false)], args := [d] }
  | _ => none }
def FnExactConflictingFactsWrongFalsely : Prop := fnExactConflictingFactsRow.holds Try.pinned (OpenSpec.ofChange fnExactConflictingFactsWrong)

/-- 'laws.FnExactBlockOf': WHATEVER THE INPUT: true; the input reads as it did. -/
def fnExactBlockOfSpec : ChangeSpec := { name := "fnExactBlockOf", fn := fun _ => fun
  | [d1, d2] => { results := [.lit (.bool true)], args := [d1, d2] }
  | _ => none }
def fnExactBlockOfRow : OpenClaim := { program := "ytehlhbidmanbmaa", sum := "fc1859e4a5c2e643868c277f33fdd69d53217ffb671f602710319f9d19d870d4", func := "loop.example/g01918/laws.FnExactBlockOf", spec := "fnExactBlockOf", unfollowed := true, recurses := true, apart := false }
def FnExactBlockOfSaid : Prop := fnExactBlockOfRow.holds Try.pinned (OpenSpec.ofChange fnExactBlockOfSpec)

/-- ITS FALSE NEIGHBOUR: 'it returns false'. Refute it at one input. -/
def fnExactBlockOfWrong : ChangeSpec := { name := "fnExactBlockOf", fn := fun _ => fun
  | [d1, d2] => { results := [.lit (.bool false)], args := [d1, d2] }
  | _ => none }
def FnExactBlockOfWrongFalsely : Prop := fnExactBlockOfRow.holds Try.pinned (OpenSpec.ofChange fnExactBlockOfWrong)

/-- 'laws.FnExactIsRepair': WHATEVER THE INPUT: true; the input reads as it did. -/
def fnExactIsRepairSpec : ChangeSpec := { name := "fnExactIsRepair", fn := fun _ => fun
  | [d1, d2] => { results := [.lit (.bool true)], args := [d1, d2] }
  | _ => none }
def fnExactIsRepairRow : OpenClaim := { program := "ytehlhbidmanbmaa", sum := "fc1859e4a5c2e643868c277f33fdd69d53217ffb671f602710319f9d19d870d4", func := "loop.example/g01918/laws.FnExactIsRepair", spec := "fnExactIsRepair", unfollowed := true, recurses := true, apart := false }
def FnExactIsRepairSaid : Prop := fnExactIsRepairRow.holds Try.pinned (OpenSpec.ofChange fnExactIsRepairSpec)

/-- ITS FALSE NEIGHBOUR: 'it returns false'. Refute it at one input. -/
def fnExactIsRepairWrong : ChangeSpec := { name := "fnExactIsRepair", fn := fun _ => fun
  | [d1, d2] => { results := [.lit (.bool false)], args := [d1, d2] }
  | _ => none }
def FnExactIsRepairWrongFalsely : Prop := fnExactIsRepairRow.holds Try.pinned (OpenSpec.ofChange fnExactIsRepairWrong)

/-- 'laws.FnExactBlockSizes': WHATEVER THE INPUT: true; the input reads as it did. -/
def fnExactBlockSizesSpec : ChangeSpec := { name := "fnExactBlockSizes", fn := fun _ => fun
  | [d] => { results := [.lit (.bool true)], args := [d] }
  | _ => none }
def fnExactBlockSizesRow : OpenClaim := { program := "ytehlhbidmanbmaa", sum := "fc1859e4a5c2e643868c277f33fdd69d53217ffb671f602710319f9d19d870d4", func := "loop.example/g01918/laws.FnExactBlockSizes", spec := "fnExactBlockSizes", unfollowed := true, recurses := true, apart := false }
def FnExactBlockSizesSaid : Prop := fnExactBlockSizesRow.holds Try.pinned (OpenSpec.ofChange fnExactBlockSizesSpec)

/-- ITS FALSE NEIGHBOUR: 'it returns false'. Refute it at one input. -/
def fnExactBlockSizesWrong : ChangeSpec := { name := "fnExactBlockSizes", fn := fun _ => fun
  | [d] => { results := [.lit (.bool false)], args := [d] }
  | _ => none }
def FnExactBlockSizesWrongFalsely : Prop := fnExactBlockSizesRow.holds Try.pinned (OpenSpec.ofChange fnExactBlockSizesWrong)

/-- 'laws.FnExactSelectFacts': WHATEVER THE INPUT: true; the input reads as it did. -/
def fnExactSelectFactsSpec : ChangeSpec := { name := "fnExactSelectFacts", fn := fun _ => fun
  | [d1, d2] => { results := [.lit (.bool true)], args := [d1, d2] }
  | _ => none }
def fnExactSelectFactsRow : OpenClaim := { program := "ytehlhbidmanbmaa", sum := "fc1859e4a5c2e643868c277f33fdd69d53217ffb671f602710319f9d19d870d4", func := "loop.example/g01918/laws.FnExactSelectFacts", spec := "fnExactSelectFacts", unfollowed := true, recurses := true, apart := false }
def FnExactSelectFactsSaid : Prop := fnExactSelectFactsRow.holds Try.pinned (OpenSpec.ofChange fnExactSelectFactsSpec)

/-- ITS FALSE NEIGHBOUR: 'it returns false'. Refute it at one input. -/
def fnExactSelectFactsWrong : ChangeSpec := { name := "fnExactSelectFacts", fn := fun _ => fun
  | [d1, d2] => { results := [.lit (.bool false)], args := [d1, d2] }
  | _ => none }
def FnExactSelectFactsWrongFalsely : Prop := fnExactSelectFactsRow.holds Try.pinned (OpenSpec.ofChange fnExactSelectFactsWrong)

/-- 'laws.FnExactDeleteFact': WHATEVER THE INPUT: true; the input reads as it did. -/
def fnExactDeleteFactSpec : ChangeSpec := { name := "fnExactDeleteFact", fn := fun _ => fun
  | [d1, d2] => { results := [.lit (.bool true)], args := [d1, d2] }
  | _ => none }
def fnExactDeleteFactRow : OpenClaim := { program := "ytehlhbidmanbmaa", sum := "fc1859e4a5c2e643868c277f33fdd69d53217ffb671f602710319f9d19d870d4", func := "loop.example/g01918/laws.FnExactDeleteFact", spec := "fnExactDeleteFact", unfollowed := true, recurses := true, apart := false }
def FnExactDeleteFactSaid : Prop := fnExactDeleteFactRow.holds Try.pinned (OpenSpec.ofChange fnExactDeleteFactSpec)

/-- ITS FALSE NEIGHBOUR: 'it returns false'. Refute it at one input. -/
def fnExactDeleteFactWrong : ChangeSpec := { name := "fnExactDeleteFact", fn := fun _ => fun
  | [d1, d2] => { results := [.lit (.bool false)], args := [d1, d2] }
  | _ => none }
def FnExactDeleteFactWrongFalsely : Prop := fnExactDeleteFactRow.holds Try.pinned (OpenSpec.ofChange fnExactDeleteFactWrong)

/-- 'laws.FnExactRepairRank': WHATEVER THE INPUT: true; the input reads as it did. -/
def fnExactRepairRankSpec : ChangeSpec := { name := "fnExactRepairRank", fn := fun _ => fun
  | [d1, d2] => { results := [.lit (.bool true)], args := [d1, d2] }
  | _ => none }
def fnExactRepairRankRow : OpenClaim := { program := "ytehlhbidmanbmaa", sum := "fc1859e4a5c2e643868c277f33fdd69d53217ffb671f602710319f9d19d870d4", func := "loop.example/g01918/laws.FnExactRepairRank", spec := "fnExactRepairRank", unfollowed := true, recurses := true, apart := false }
def FnExactRepairRankSaid : Prop := fnExactRepairRankRow.holds Try.pinned (OpenSpec.ofChange fnExactRepairRankSpec)

/-- ITS FALSE NEIGHBOUR: 'it returns false'. Refute it at one input. -/
def fnExactRepairRankWrong : ChangeSpec := { name := "fnExactRepairRank", fn := fun _ => fun
  | [d1, d2] => { results := [.lit (.bool false)], args := [d1, d2] }
  | _ => none }
def FnExactRepairRankWrongFalsely : Prop := fnExactRepairRankRow.holds Try.pinned (OpenSpec.ofChange fnExactRepairRankWrong)

/-- 'laws.FnExactNthRepair': WHATEVER THE INPUT: true; the input reads as it did. -/
def fnExactNthRepairSpec : ChangeSpec := { name := "fnExactNthRepair", fn := fun _ => fun
  | [d1, d2] => { results := [.lit (.bool true)], args := [d1, d2] }
  | _ => none }
def fnExactNthRepairRow : OpenClaim := { program := "ytehlhbidmanbmaa", sum := "fc1859e4a5c2e643868c277f33fdd69d53217ffb671f602710319f9d19d870d4", func := "loop.example/g01918/laws.FnExactNthRepair", spec := "fnExactNthRepair", unfollowed := true, recurses := true, apart := false }
def FnExactNthRepairSaid : Prop := fnExactNthRepairRow.holds Try.pinned (OpenSpec.ofChange fnExactNthRepairSpec)

/-- ITS FALSE NEIGHBOUR: 'it returns false'. Refute it at one input. -/
def fnExactNthRepairWrong : ChangeSpec := { name := "fnExactNthRepair", fn := fun _ => fun
  | [d1, d2] => { results := [.lit (.bool false)], args := [d1, d2] }
  | _ => none }
def FnExactNthRepairWrongFalsely : Prop := fnExactNthRepairRow.holds Try.pinned (OpenSpec.ofChange fnExactNthRepairWrong)

/-- 'laws.FnExactExtendToRepair': WHATEVER THE INPUT: true; the input reads as it did. -/
def fnExactExtendToRepairSpec : ChangeSpec := { name := "fnExactExtendToRepair", fn := fun _ => fun
  | [d1, d2] => { results := [.lit (.bool true)], args := [d1, d2] }
  | _ => none }
def fnExactExtendToRepairRow : OpenClaim := { program := "ytehlhbidmanbmaa", sum := "fc1859e4a5c2e643868c277f33fdd69d53217ffb671f602710319f9d19d870d4", func := "loop.example/g01918/laws.FnExactExtendToRepair", spec := "fnExactExtendToRepair", unfollowed := true, recurses := true, apart := false }
def FnExactExtendToRepairSaid : Prop := fnExactExtendToRepairRow.holds Try.pinned (OpenSpec.ofChange fnExactExtendToRepairSpec)

/-- ITS FALSE NEIGHBOUR: 'it returns false'. Refute it at one input. -/
def fnExactExtendToRepairWrong : ChangeSpec := { name := "fnExactExtendToRepair", fn := fun _ => fun
  | [d1, d2] => { results := [.lit (.bool false)], args := [d1, d2] }
  | _ => none }
def FnExactExtendToRepairWrongFalsely : Prop := fnExactExtendToRepairRow.holds Try.pinned (OpenSpec.ofChange fnExactExtendToRepairWrong)

/-- 'laws.FnExactInsertFact': WHATEVER THE INPUT: true; the input reads as it did. -/
def fnExactInsertFactSpec : ChangeSpec := { name := "fnExactInsertFact", fn := fun _ => fun
  | [d1, d2] => { results := [.lit (.bool true)], args := [d1, d2] }
  | _ => none }
def fnExactInsertFactRow : OpenClaim := { program := "ytehlhbidmanbmaa", sum := "fc1859e4a5c2e643868c277f33fdd69d53217ffb671f602710319f9d19d870d4", func := "loop.example/g01918/laws.FnExactInsertFact", spec := "fnExactInsertFact", inPlace := ["slices.overlaps[loop.example/g01918/impl.Fact]"], unfollowed := true, recurses := true, apart := false }
def FnExactInsertFactSaid : Prop := fnExactInsertFactRow.holds Try.pinned (OpenSpec.ofChange fnExactInsertFactSpec)

/-- ITS FALSE NEIGHBOUR: 'it returns false'. Refute it at one input. -/
def fnExactInsertFactWrong : ChangeSpec := { name := "fnExactInsertFact", fn := fun _ => fun
  | [d1, d2] => { results := [.lit (.bool false)], args := [d1, d2] }
  | _ => none }
def FnExactInsertFactWrongFalsely : Prop := fnExactInsertFactRow.holds Try.pinned (OpenSpec.ofChange fnExactInsertFactWrong)

/-- 'laws.FnExactNextRepair': WHATEVER THE INPUT: true; the input reads as it did. -/
def fnExactNextRepairSpec : ChangeSpec := { name := "fnExactNextRepair", fn := fun _ => fun
  | [d1, d2] => { results := [.lit (.bool true)], args := [d1, d2] }
  | _ => none }
def fnExactNextRepairRow : OpenClaim := { program := "ytehlhbidmanbmaa", sum := "fc1859e4a5c2e643868c277f33fdd69d53217ffb671f602710319f9d19d870d4", func := "loop.example/g01918/laws.FnExactNextRepair", spec := "fnExactNextRepair", unfollowed := true, recurses := true, apart := false }
def FnExactNextRepairSaid : Prop := fnExactNextRepairRow.holds Try.pinned (OpenSpec.ofChange fnExactNextRepairSpec)

/-- ITS FALSE NEIGHBOUR: 'it returns false'. Refute it at one input. -/
def fnExactNextRepairWrong : ChangeSpec := { name := "fnExactNextRepair", fn := fun _ => fun
  | [d1, d2] => { results := [.lit (.bool false)], args := [d1, d2] }
  | _ => none }
def FnExactNextRepairWrongFalsely : Prop := fnExactNextRepairRow.holds Try.pinned (OpenSpec.ofChange fnExactNextRepairWrong)

/- THE SECOND FORM. 'bulk': how many values and letters a reading holds, each counted each time it is reached (what is shared counts as often as it is met; a slice's spare places count too). A statement '..UptoSaid' is the law's where the arguments, and the package variables that the reading takes, are together of bulk at most 1048576: NARROWER than '..Said'. Prove '..Said' where nothing that the law and all that it calls make is longer than what came in: it says more and counts as full. Else prove '..UptoSaid'. A law counts once. -/
mutual
def uptoBulk {H : Type} : DataW H → Nat
  | .lit (.string bytes) => bytes.length + 1
  | .lit _ => 1
  | .nil => 1
  | .ptr d => uptoBulk d + 1
  | .slice elems spare => uptoBulkAll elems + uptoBulkAll spare + 1
  | .agg parts => uptoBulkAll parts + 1
  | .iface _ d => uptoBulk d + 1
  | .map entries => uptoBulkEntries entries + 1
  | .held _ => 1
def uptoBulkAll {H : Type} : List (DataW H) → Nat
  | [] => 0
  | d :: r => uptoBulk d + uptoBulkAll r
def uptoBulkEntries {H : Type} : List (Lit × DataW H) → Nat
  | [] => 0
  | x :: r => uptoBulkEntry x + uptoBulkEntries r
def uptoBulkEntry {H : Type} : Lit × DataW H → Nat
  | (.string bytes, d) => bytes.length + uptoBulk d + 1
  | (_, d) => uptoBulk d + 1
 end
def uptoSmall : (H : Type) → List (DataW H) → Bool := fun _ ds => decide (uptoBulkAll ds ≤ 1048576)
def OpenSpec.upto (s : _root_.Go.ChangeSpec) : _root_.Go.OpenSpec := { _root_.Go.OpenSpec.ofChange s with cond := some uptoSmall }

/-- 'laws.FnExactIsPartialRepair', WHERE WHAT IT READS IS OF BULK AT MOST 1048576: true; the input reads as it did. -/
def fnExactIsPartialRepairUptoRow : OpenClaim := { program := "ytehlhbidmanbmaa", sum := "fc1859e4a5c2e643868c277f33fdd69d53217ffb671f602710319f9d19d870d4", func := "loop.example/g01918/laws.FnExactIsPartialRepair", spec := "fnExactIsPartialRepair", unfollowed := true, recurses := true, apart := false, narrowed := true }
def FnExactIsPartialRepairUptoSaid : Prop := fnExactIsPartialRepairUptoRow.holds Try.pinned (OpenSpec.upto fnExactIsPartialRepairSpec)

/-- 'laws.FnExactConflictingFacts', WHERE WHAT IT READS IS OF BULK AT MOST 1048576: true; the input reads as it did. -/
def fnExactConflictingFactsUptoRow : OpenClaim := { program := "ytehlhbidmanbmaa", sum := "fc1859e4a5c2e643868c277f33fdd69d53217ffb671f602710319f9d19d870d4", func := "loop.example/g01918/laws.FnExactConflictingFacts", spec := "fnExactConflictingFacts", unfollowed := true, recurses := true, apart := false, narrowed := true }
def FnExactConflictingFactsUptoSaid : Prop := fnExactConflictingFactsUptoRow.holds Try.pinned (OpenSpec.upto fnExactConflictingFactsSpec)

/-- 'laws.FnExactBlockOf', WHERE WHAT IT READS IS OF BULK AT MOST 1048576: true; the input reads as it did. -/
def fnExactBlockOfUptoRow : OpenClaim := { program := "ytehlhbidmanbmaa", sum := "fc1859e4a5c2e643868c277f33fdd69d53217ffb671f602710319f9d19d870d4", func := "loop.example/g01918/laws.FnExactBlockOf", spec := "fnExactBlockOf", unfollowed := true, recurses := true, apart := false, narrowed := true }
def FnExactBlockOfUptoSaid : Prop := fnExactBlockOfUptoRow.holds Try.pinned (OpenSpec.upto fnExactBlockOfSpec)

/-- 'laws.FnExactIsRepair', WHERE WHAT IT READS IS OF BULK AT MOST 1048576: true; the input reads as it did. -/
def fnExactIsRepairUptoRow : OpenClaim := { program := "ytehlhbidmanbmaa", sum := "fc1859e4a5c2e643868c277f33fdd69d53217ffb671f602710319f9d19d870d4", func := "loop.example/g01918/laws.FnExactIsRepair", spec := "fnExactIsRepair", unfollowed := true, recurses := true, apart := false, narrowed := true }
def FnExactIsRepairUptoSaid : Prop := fnExactIsRepairUptoRow.holds Try.pinned (OpenSpec.upto fnExactIsRepairSpec)

/-- 'laws.FnExactBlockSizes', WHERE WHAT IT READS IS OF BULK AT MOST 1048576: true; the input reads as it did. -/
def fnExactBlockSizesUptoRow : OpenClaim := { program := "ytehlhbidmanbmaa", sum := "fc1859e4a5c2e643868c277f33fdd69d53217ffb671f602710319f9d19d870d4", func := "loop.example/g01918/laws.FnExactBlockSizes", spec := "fnExactBlockSizes", unfollowed := true, recurses := true, apart := false, narrowed := true }
def FnExactBlockSizesUptoSaid : Prop := fnExactBlockSizesUptoRow.holds Try.pinned (OpenSpec.upto fnExactBlockSizesSpec)

/-- 'laws.FnExactSelectFacts', WHERE WHAT IT READS IS OF BULK AT MOST 1048576: true; the input reads as it did. -/
def fnExactSelectFactsUptoRow : OpenClaim := { program := "ytehlhbidmanbmaa", sum := "fc1859e4a5c2e643868c277f33fdd69d53217ffb671f602710319f9d19d870d4", func := "loop.example/g01918/laws.FnExactSelectFacts", spec := "fnExactSelectFacts", unfollowed := true, recurses := true, apart := false, narrowed := true }
def FnExactSelectFactsUptoSaid : Prop := fnExactSelectFactsUptoRow.holds Try.pinned (OpenSpec.upto fnExactSelectFactsSpec)

/-- 'laws.FnExactDeleteFact', WHERE WHAT IT READS IS OF BULK AT MOST 1048576: true; the input reads as it did. -/
def fnExactDeleteFactUptoRow : OpenClaim := { program := "ytehlhbidmanbmaa", sum := "fc1859e4a5c2e643868c277f33fdd69d53217ffb671f602710319f9d19d870d4", func := "loop.example/g01918/laws.FnExactDeleteFact", spec := "fnExactDeleteFact", unfollowed := true, recurses := true, apart := false, narrowed := true }
def FnExactDeleteFactUptoSaid : Prop := fnExactDeleteFactUptoRow.holds Try.pinned (OpenSpec.upto fnExactDeleteFactSpec)

/-- 'laws.FnExactRepairRank', WHERE WHAT IT READS IS OF BULK AT MOST 1048576: true; the input reads as it did. -/
def fnExactRepairRankUptoRow : OpenClaim := { program := "ytehlhbidmanbmaa", sum := "fc1859e4a5c2e643868c277f33fdd69d53217ffb671f602710319f9d19d870d4", func := "loop.example/g01918/laws.FnExactRepairRank", spec := "fnExactRepairRank", unfollowed := true, recurses := true, apart := false, narrowed := true }
def FnExactRepairRankUptoSaid : Prop := fnExactRepairRankUptoRow.holds Try.pinned (OpenSpec.upto fnExactRepairRankSpec)

/-- 'laws.FnExactNthRepair', WHERE WHAT IT READS IS OF BULK AT MOST 1048576: true; the input reads as it did. -/
def fnExactNthRepairUptoRow : OpenClaim := { program := "ytehlhbidmanbmaa", sum := "fc1859e4a5c2e643868c277f33fdd69d53217ffb671f602710319f9d19d870d4", func := "loop.example/g01918/laws.FnExactNthRepair", spec := "fnExactNthRepair", unfollowed := true, recurses := true, apart := false, narrowed := true }
def FnExactNthRepairUptoSaid : Prop := fnExactNthRepairUptoRow.holds Try.pinned (OpenSpec.upto fnExactNthRepairSpec)

/-- 'laws.FnExactExtendToRepair', WHERE WHAT IT READS IS OF BULK AT MOST 1048576: true; the input reads as it did. -/
def fnExactExtendToRepairUptoRow : OpenClaim := { program := "ytehlhbidmanbmaa", sum := "fc1859e4a5c2e643868c277f33fdd69d53217ffb671f602710319f9d19d870d4", func := "loop.example/g01918/laws.FnExactExtendToRepair", spec := "fnExactExtendToRepair", unfollowed := true, recurses := true, apart := false, narrowed := true }
def FnExactExtendToRepairUptoSaid : Prop := fnExactExtendToRepairUptoRow.holds Try.pinned (OpenSpec.upto fnExactExtendToRepairSpec)

/-- 'laws.FnExactInsertFact', WHERE WHAT IT READS IS OF BULK AT MOST 1048576: true; the input reads as it did. -/
def fnExactInsertFactUptoRow : OpenClaim := { program := "ytehlhbidmanbmaa", sum := "fc1859e4a5c2e643868c277f33fdd69d53217ffb671f602710319f9d19d870d4", func := "loop.example/g01918/laws.FnExactInsertFact", spec := "fnExactInsertFact", inPlace := ["slices.overlaps[loop.example/g01918/impl.Fact]"], unfollowed := true, recurses := true, apart := false, narrowed := true }
def FnExactInsertFactUptoSaid : Prop := fnExactInsertFactUptoRow.holds Try.pinned (OpenSpec.upto fnExactInsertFactSpec)

/-- 'laws.FnExactNextRepair', WHERE WHAT IT READS IS OF BULK AT MOST 1048576: true; the input reads as it did. -/
def fnExactNextRepairUptoRow : OpenClaim := { program := "ytehlhbidmanbmaa", sum := "fc1859e4a5c2e643868c277f33fdd69d53217ffb671f602710319f9d19d870d4", func := "loop.example/g01918/laws.FnExactNextRepair", spec := "fnExactNextRepair", unfollowed := true, recurses := true, apart := false, narrowed := true }
def FnExactNextRepairUptoSaid : Prop := fnExactNextRepairUptoRow.holds Try.pinned (OpenSpec.upto fnExactNextRepairSpec)

end Rows
end Go.Proofs.Ytehlhbidmanbmaa
