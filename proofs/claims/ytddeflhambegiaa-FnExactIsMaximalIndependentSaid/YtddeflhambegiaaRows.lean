/-
  No cell of these rows narrows 'for every input' (looked for: loops, veiled, ifaces, maps, wideKeys, modest, calm, conditions, laid).
  DERIVED. THE GIVEN ROWS OF THIS SEAT. 12 by the template 'for every input the law returns true; each argument reads behind the call as it read before'; 0 by the template 'total and deterministic' (their statements: YtddeflhambegiaaTotals.lean).
  GIVEN WITH THE SEED: the statements are not yours to turn. If you find one false, say at which input.
  Laid BY PROGRAM, IN A SANDBOX (cutbox-rows.mjs): the forced cells as the released guide's own fill.sh prints them over the translation d753587ac5fed7da… (all of the seat's roots in one cut). By AI agents, Wed Nov 11 2026. No macro, syntax, notation, axiom, sorry.
-/
import Derived.Test.YtddeflhambegiaaChecked
import GoSem.Claim
import GoSem.ClaimJoined
import GoSem.ClaimMapViews
import Derived.JoinedTies
import Derived.KernelRfl
namespace Go.Proofs.Ytddeflhambegiaa
/- THE CELL 'sum', in the pinned program and in every row, IS THE sha256 OF THE DUMP (.gsa) THAT YtddeflhambegiaaProg.lean LOADS. Nothing in Lean hashes anything: it is a label: what it is worth is what the hold of that sum in a sandbox is worth. -/
noncomputable def Try.pinned : Pinned := { name := "ytddeflhambegiaa", sum := "d753587ac5fed7daa6eb9276d71d8b1e50025494063ce1903f3ebb710f0203a4", checked := Try.checked }
namespace Rows
def none {H : Type} : Left H := { results := [], args := [] }

/-- 'laws.FnExactCompareFacts': WHATEVER THE INPUT: true; the input reads as it did. -/
def fnExactCompareFactsSpec : ChangeSpec := { name := "fnExactCompareFacts", fn := fun _ => fun
  | [d1, d2] => { results := [.lit (.bool true)], args := [d1, d2] }
  | _ => none }
def fnExactCompareFactsRow : OpenClaim := { program := "ytddeflhambegiaa", sum := "d753587ac5fed7daa6eb9276d71d8b1e50025494063ce1903f3ebb710f0203a4", func := "loop.example/g01918/laws.FnExactCompareFacts", spec := "fnExactCompareFacts", apart := false }
def FnExactCompareFactsSaid : Prop := fnExactCompareFactsRow.holds Try.pinned (OpenSpec.ofChange fnExactCompareFactsSpec)

/-- ITS FALSE NEIGHBOUR: 'it returns false'. Refute it at one input. -/
def fnExactCompareFactsWrong : ChangeSpec := { name := "fnExactCompareFacts", fn := fun _ => fun
  | [d1, d2] => { results := [.lit (.bool false)], args := [d1, d2] }
  | _ => none }
def FnExactCompareFactsWrongFalsely : Prop := fnExactCompareFactsRow.holds Try.pinned (OpenSpec.ofChange fnExactCompareFactsWrong)

/-- 'laws.FnExactIsValidFact': WHATEVER THE INPUT: true; the input reads as it did. -/
def fnExactIsValidFactSpec : ChangeSpec := { name := "fnExactIsValidFact", fn := fun _ => fun
  | [d1, d2] => { results := [.lit (.bool true)], args := [d1, d2] }
  | _ => none }
def fnExactIsValidFactRow : OpenClaim := { program := "ytddeflhambegiaa", sum := "d753587ac5fed7daa6eb9276d71d8b1e50025494063ce1903f3ebb710f0203a4", func := "loop.example/g01918/laws.FnExactIsValidFact", spec := "fnExactIsValidFact", unfollowed := true, recurses := true, apart := false }
def FnExactIsValidFactSaid : Prop := fnExactIsValidFactRow.holds Try.pinned (OpenSpec.ofChange fnExactIsValidFactSpec)

/-- ITS FALSE NEIGHBOUR: 'it returns false'. Refute it at one input. -/
def fnExactIsValidFactWrong : ChangeSpec := { name := "fnExactIsValidFact", fn := fun _ => fun
  | [d1, d2] => { results := [.lit (.bool false)], args := [d1, d2] }
  | _ => none }
def FnExactIsValidFactWrongFalsely : Prop := fnExactIsValidFactRow.holds Try.pinned (OpenSpec.ofChange fnExactIsValidFactWrong)

/-- 'laws.FnExactIsMaximalIndependent': WHATEVER THE INPUT: true; the input reads as it did. -/
def fnExactIsMaximalIndependentSpec : ChangeSpec := { name := "fnExactIsMaximalIndependent", fn := fun _ => fun
  | [d1, d2, d3] => { results := [.lit (.bool true)], args := [d1, d2, d3] }
  | _ => none }
def fnExactIsMaximalIndependentRow : OpenClaim := { program := "ytddeflhambegiaa", sum := "d753587ac5fed7daa6eb9276d71d8b1e50025494063ce1903f3ebb710f0203a4", func := "loop.example/g01918/laws.FnExactIsMaximalIndependent", spec := "fnExactIsMaximalIndependent", unfollowed := true, recurses := true, apart := false }
def FnExactIsMaximalIndependentSaid : Prop := fnExactIsMaximalIndependentRow.holds Try.pinned (OpenSpec.ofChange fnExactIsMaximalIndependentSpec)

/-- ITS FALSE NEIGHBOUR: 'it returns false'. Refute it at one input. -/
def fnExactIsMaximalIndependentWrong : ChangeSpec := { name := "fnExactIsMaximalIndependent", fn := fun _ => fun
  | [d1, d2, d3] => { results := [.lit (.bool false)], args := [d1, d2, d3] }
  | _ => none }
def FnExactIsMaximalIndependentWrongFalsely : Prop := fnExactIsMaximalIndependentRow.holds Try.pinned (OpenSpec.ofChange fnExactIsMaximalIndependentWrong)

/-- 'laws.FnExactHaveSameKey': WHATEVER THE INPUT: true; the input reads as it did. -/
def fnExactHaveSameKeySpec : ChangeSpec := { name := "fnExactHaveSameKey", fn := fun _ => fun
  | [d1, d2, d3] => { results := [.lit (.bool true)], args := [d1, d2, d3] }
  | _ => none }
def fnExactHaveSameKeyRow : OpenClaim := { program := "ytddeflhambegiaa", sum := "d753587ac5fed7daa6eb9276d71d8b1e50025494063ce1903f3ebb710f0203a4", func := "loop.example/g01918/laws.FnExactHaveSameKey", spec := "fnExactHaveSameKey", unfollowed := true, recurses := true, apart := false }
def FnExactHaveSameKeySaid : Prop := fnExactHaveSameKeyRow.holds Try.pinned (OpenSpec.ofChange fnExactHaveSameKeySpec)

/-- ITS FALSE NEIGHBOUR: 'it returns false'. Refute it at one input. -/
def fnExactHaveSameKeyWrong : ChangeSpec := { name := "fnExactHaveSameKey", fn := fun _ => fun
  | [d1, d2, d3] => { results := [.lit (.bool false)], args := [d1, d2, d3] }
  | _ => none }
def FnExactHaveSameKeyWrongFalsely : Prop := fnExactHaveSameKeyRow.holds Try.pinned (OpenSpec.ofChange fnExactHaveSameKeyWrong)

/-- 'laws.FnExactKeyOf': WHATEVER THE INPUT: true; the input reads as it did. -/
def fnExactKeyOfSpec : ChangeSpec := { name := "fnExactKeyOf", fn := fun _ => fun
  | [d1, d2] => { results := [.lit (.bool true)], args := [d1, d2] }
  | _ => none }
def fnExactKeyOfRow : OpenClaim := { program := "ytddeflhambegiaa", sum := "d753587ac5fed7daa6eb9276d71d8b1e50025494063ce1903f3ebb710f0203a4", func := "loop.example/g01918/laws.FnExactKeyOf", spec := "fnExactKeyOf", unfollowed := true, recurses := true, apart := false }
def FnExactKeyOfSaid : Prop := fnExactKeyOfRow.holds Try.pinned (OpenSpec.ofChange fnExactKeyOfSpec)

/-- ITS FALSE NEIGHBOUR: 'it returns false'. Refute it at one input. -/
def fnExactKeyOfWrong : ChangeSpec := { name := "fnExactKeyOf", fn := fun _ => fun
  | [d1, d2] => { results := [.lit (.bool false)], args := [d1, d2] }
  | _ => none }
def FnExactKeyOfWrongFalsely : Prop := fnExactKeyOfRow.holds Try.pinned (OpenSpec.ofChange fnExactKeyOfWrong)

/-- 'laws.FnExactFactIndex': WHATEVER THE INPUT: true; the input reads as it did. -/
def fnExactFactIndexSpec : ChangeSpec := { name := "fnExactFactIndex", fn := fun _ => fun
  | [d1, d2] => { results := [.lit (.bool true)], args := [d1, d2] }
  | _ => none }
def fnExactFactIndexRow : OpenClaim := { program := "ytddeflhambegiaa", sum := "d753587ac5fed7daa6eb9276d71d8b1e50025494063ce1903f3ebb710f0203a4", func := "loop.example/g01918/laws.FnExactFactIndex", spec := "fnExactFactIndex", unfollowed := true, recurses := true, apart := false }
def FnExactFactIndexSaid : Prop := fnExactFactIndexRow.holds Try.pinned (OpenSpec.ofChange fnExactFactIndexSpec)

/-- ITS FALSE NEIGHBOUR: 'it returns false'. Refute it at one input. -/
def fnExactFactIndexWrong : ChangeSpec := { name := "fnExactFactIndex", fn := fun _ => fun
  | [d1, d2] => { results := [.lit (.bool false)], args := [d1, d2] }
  | _ => none }
def FnExactFactIndexWrongFalsely : Prop := fnExactFactIndexRow.holds Try.pinned (OpenSpec.ofChange fnExactFactIndexWrong)

/-- 'laws.FnExactEqualDatabases': WHATEVER THE INPUT: true; the input reads as it did. -/
def fnExactEqualDatabasesSpec : ChangeSpec := { name := "fnExactEqualDatabases", fn := fun _ => fun
  | [d1, d2] => { results := [.lit (.bool true)], args := [d1, d2] }
  | _ => none }
def fnExactEqualDatabasesRow : OpenClaim := { program := "ytddeflhambegiaa", sum := "d753587ac5fed7daa6eb9276d71d8b1e50025494063ce1903f3ebb710f0203a4", func := "loop.example/g01918/laws.FnExactEqualDatabases", spec := "fnExactEqualDatabases", unfollowed := true, recurses := true, apart := false }
def FnExactEqualDatabasesSaid : Prop := fnExactEqualDatabasesRow.holds Try.pinned (OpenSpec.ofChange fnExactEqualDatabasesSpec)

/-- ITS FALSE NEIGHBOUR: 'it returns false'. Refute it at one input. -/
def fnExactEqualDatabasesWrong : ChangeSpec := { name := "fnExactEqualDatabases", fn := fun _ => fun
  | [d1, d2] => { results := [.lit (.bool false)], args := [d1, d2] }
  | _ => none }
def FnExactEqualDatabasesWrongFalsely : Prop := fnExactEqualDatabasesRow.holds Try.pinned (OpenSpec.ofChange fnExactEqualDatabasesWrong)

/-- 'laws.FnExactIsValidDatabase': WHATEVER THE INPUT: true; the input reads as it did. -/
def fnExactIsValidDatabaseSpec : ChangeSpec := { name := "fnExactIsValidDatabase", fn := fun _ => fun
  | [d] => { results := [.lit (.bool true)], args := [d] }
  | _ => none }
def fnExactIsValidDatabaseRow : OpenClaim := { program := "ytddeflhambegiaa", sum := "d753587ac5fed7daa6eb9276d71d8b1e50025494063ce1903f3ebb710f0203a4", func := "loop.example/g01918/laws.FnExactIsValidDatabase", spec := "fnExactIsValidDatabase", unfollowed := true, recurses := true, apart := false }
def FnExactIsValidDatabaseSaid : Prop := fnExactIsValidDatabaseRow.holds Try.pinned (OpenSpec.ofChange fnExactIsValidDatabaseSpec)

/-- ITS FALSE NEIGHBOUR: 'it returns false'. Refute it at one input. -/
def fnExactIsValidDatabaseWrong : ChangeSpec := { name := "fnExactIsValidDatabase", fn := fun _ => fun
  | [d] => { results := [.lit (.bool false)], args := [d] }
  | _ => none }
def FnExactIsValidDatabaseWrongFalsely : Prop := fnExactIsValidDatabaseRow.holds Try.pinned (OpenSpec.ofChange fnExactIsValidDatabaseWrong)

/-- 'laws.FnExactContainsFact': WHATEVER THE INPUT: true; the input reads as it did. -/
def fnExactContainsFactSpec : ChangeSpec := { name := "fnExactContainsFact", fn := fun _ => fun
  | [d1, d2] => { results := [.lit (.bool true)], args := [d1, d2] }
  | _ => none }
def fnExactContainsFactRow : OpenClaim := { program := "ytddeflhambegiaa", sum := "d753587ac5fed7daa6eb9276d71d8b1e50025494063ce1903f3ebb710f0203a4", func := "loop.example/g01918/laws.FnExactContainsFact", spec := "fnExactContainsFact", unfollowed := true, recurses := true, apart := false }
def FnExactContainsFactSaid : Prop := fnExactContainsFactRow.holds Try.pinned (OpenSpec.ofChange fnExactContainsFactSpec)

/-- ITS FALSE NEIGHBOUR: 'it returns false'. Refute it at one input. -/
def fnExactContainsFactWrong : ChangeSpec := { name := "fnExactContainsFact", fn := fun _ => fun
  | [d1, d2] => { results := [.lit (.bool false)], args := [d1, d2] }
  | _ => none }
def FnExactContainsFactWrongFalsely : Prop := fnExactContainsFactRow.holds Try.pinned (OpenSpec.ofChange fnExactContainsFactWrong)

/-- 'laws.FnExactIsConsistent': WHATEVER THE INPUT: true; the input reads as it did. -/
def fnExactIsConsistentSpec : ChangeSpec := { name := "fnExactIsConsistent", fn := fun _ => fun
  | [d] => { results := [.lit (.bool true)], args := [d] }
  | _ => none }
def fnExactIsConsistentRow : OpenClaim := { program := "ytddeflhambegiaa", sum := "d753587ac5fed7daa6eb9276d71d8b1e50025494063ce1903f3ebb710f0203a4", func := "loop.example/g01918/laws.FnExactIsConsistent", spec := "fnExactIsConsistent", unfollowed := true, recurses := true, apart := false }
def FnExactIsConsistentSaid : Prop := fnExactIsConsistentRow.holds Try.pinned (OpenSpec.ofChange fnExactIsConsistentSpec)

/-- ITS FALSE NEIGHBOUR: 'it returns false'. Refute it at one input. -/
def fnExactIsConsistentWrong : ChangeSpec := { name := "fnExactIsConsistent", fn := fun _ => fun
  | [d] => { results := [.lit (.bool false)], args := [d] }
  | _ => none }
def FnExactIsConsistentWrongFalsely : Prop := fnExactIsConsistentRow.holds Try.pinned (OpenSpec.ofChange fnExactIsConsistentWrong)

/-- 'laws.FnExactCountRepairs': WHATEVER THE INPUT: true; the input reads as it did. -/
def fnExactCountRepairsSpec : ChangeSpec := { name := "fnExactCountRepairs", fn := fun _ => fun
  | [d] => { results := [.lit (.bool true)], args := [d] }
  | _ => none }
def fnExactCountRepairsRow : OpenClaim := { program := "ytddeflhambegiaa", sum := "d753587ac5fed7daa6eb9276d71d8b1e50025494063ce1903f3ebb710f0203a4", func := "loop.example/g01918/laws.FnExactCountRepairs", spec := "fnExactCountRepairs", unfollowed := true, recurses := true, apart := false }
def FnExactCountRepairsSaid : Prop := fnExactCountRepairsRow.holds Try.pinned (OpenSpec.ofChange fnExactCountRepairsSpec)

/-- ITS FALSE NEIGHBOUR: 'it returns false'. Refute it at one input. -/
def fnExactCountRepairsWrong : ChangeSpec := { name := "fnExactCountRepairs", fn := fun _ => fun
  | [d] => { results := [.lit (.bool false)], args := [d] }
  | _ => none }
def FnExactCountRepairsWrongFalsely : Prop := fnExactCountRepairsRow.holds Try.pinned (OpenSpec.ofChange fnExactCountRepairsWrong)

/-- 'laws.FnExactBlocks': WHATEVER THE INPUT: true; the input reads as it did. -/
def fnExactBlocksSpec : ChangeSpec := { name := "fnExactBlocks", fn := fun _ => fun
  | [d] => { results := [.lit (.bool true)], args := [d] }
  | _ => none }
def fnExactBlocksRow : OpenClaim := { program := "ytddeflhambegiaa", sum := "d753587ac5fed7daa6eb9276d71d8b1e50025494063ce1903f3ebb710f0203a4", func := "loop.example/g01918/laws.FnExactBlocks", spec := "fnExactBlocks", unfollowed := true, recurses := true, apart := false }
def FnExactBlocksSaid : Prop := fnExactBlocksRow.holds Try.pinned (OpenSpec.ofChange fnExactBlocksSpec)

/-- ITS FALSE NEIGHBOUR: 'it returns false'. Refute it at one input. -/
def fnExactBlocksWrong : ChangeSpec := { name := "fnExactBlocks", fn := fun _ => fun
  | [d] => { results := [.lit (.bool false)], args := [d] }
  | _ => none }
def FnExactBlocksWrongFalsely : Prop := fnExactBlocksRow.holds Try.pinned (OpenSpec.ofChange fnExactBlocksWrong)

/- THE SECOND FORM. 'bulk': how many values and letters a reading holds, each counted each time it is reached (what is shared counts as often as it is met; a slice's spare places count too). A statement '..UptoSaid' is the law's where the arguments, and the package variables that the reading takes, are together of bulk at most 1048576: NARROWER than '..Said'. Prove '..Said' where nothing that the law and all that it calls make is longer than what came in: it says more and counts as full. Else prove '..UptoSaid'. A law counts once. -/
mutual
def uptoBulk {H : Type} : DataW H → Nat
  | .lit (.string bytes) => bytes.length + 1
  | .lit _ => 1
  | .nil => 1
  | .ptr d => uptoBulk d + 1
  | .slice elems spare => uptoBulkAll elems + uptoBulkAll spare + 1
  | .agg parts => uptoBulkAll parts + 1
  | .iface _ d => uptoBulk d + 1
  | .map entries => uptoBulkEntries entries + 1
  | .held _ => 1
def uptoBulkAll {H : Type} : List (DataW H) → Nat
  | [] => 0
  | d :: r => uptoBulk d + uptoBulkAll r
def uptoBulkEntries {H : Type} : List (Lit × DataW H) → Nat
  | [] => 0
  | x :: r => uptoBulkEntry x + uptoBulkEntries r
def uptoBulkEntry {H : Type} : Lit × DataW H → Nat
  | (.string bytes, d) => bytes.length + uptoBulk d + 1
  | (_, d) => uptoBulk d + 1
 end
def uptoSmall : (H : Type) → List (DataW H) → Bool := fun _ ds => decide (uptoBulkAll ds ≤ 1048576)
def OpenSpec.upto (s : _root_.Go.ChangeSpec) : _root_.Go.OpenSpec := { _root_.Go.OpenSpec.ofChange s with cond := some uptoSmall }

/-- 'laws.FnExactCompareFacts', WHERE WHAT IT READS IS OF BULK AT MOST 1048576: true; the input reads as it did. -/
def fnExactCompareFactsUptoRow : OpenClaim := { program := "ytddeflhambegiaa", sum := "d753587ac5fed7daa6eb9276d71d8b1e50025494063ce1903f3ebb710f0203a4", func := "loop.example/g01918/laws.FnExactCompareFacts", spec := "fnExactCompareFacts", apart := false, narrowed := true }
def FnExactCompareFactsUptoSaid : Prop := fnExactCompareFactsUptoRow.holds Try.pinned (OpenSpec.upto fnExactCompareFactsSpec)

/-- 'laws.FnExactIsValidFact', WHERE WHAT IT READS IS OF BULK AT MOST 1048576: true; the input reads as it did. -/
def fnExactIsValidFactUptoRow : OpenClaim := { program := "ytddeflhambegiaa", sum := "d753587ac5fed7daa6eb9276d71d8b1e50025494063ce1903f3ebb710f0203a4", func := "loop.example/g01918/laws.FnExactIsValidFact", spec := "fnExactIsValidFact", unfollowed := true, recurses := true, apart := false, narrowed := true }
def FnExactIsValidFactUptoSaid : Prop := fnExactIsValidFactUptoRow.holds Try.pinned (OpenSpec.upto fnExactIsValidFactSpec)

/-- 'laws.FnExactIsMaximalIndependent', WHERE WHAT IT READS IS OF BULK AT MOST 1048576: true; the input reads as it did. -/
def fnExactIsMaximalIndependentUptoRow : OpenClaim := { program := "ytddeflhambegiaa", sum := "d753587ac5fed7daa6eb9276d71d8b1e50025494063ce1903f3ebb710f0203a4", func := "loop.example/g01918/laws.FnExactIsMaximalIndependent", spec := "fnExactIsMaximalIndependent", unfollowed := true, recurses := true, apart := false, narrowed := true }
def FnExactIsMaximalIndependentUptoSaid : Prop := fnExactIsMaximalIndependentUptoRow.holds Try.pinned (OpenSpec.upto fnExactIsMaximalIndependentSpec)

/-- 'laws.FnExactHaveSameKey', WHERE WHAT IT READS IS OF BULK AT MOST 1048576: true; the input reads as it did. -/
def fnExactHaveSameKeyUptoRow : OpenClaim := { program := "ytddeflhambegiaa", sum := "d753587ac5fed7daa6eb9276d71d8b1e50025494063ce1903f3ebb710f0203a4", func := "loop.example/g01918/laws.FnExactHaveSameKey", spec := "fnExactHaveSameKey", unfollowed := true, recurses := true, apart := false, narrowed := true }
def FnExactHaveSameKeyUptoSaid : Prop := fnExactHaveSameKeyUptoRow.holds Try.pinned (OpenSpec.upto fnExactHaveSameKeySpec)

/-- 'laws.FnExactKeyOf', WHERE WHAT IT READS IS OF BULK AT MOST 1048576: true; the input reads as it did. -/
def fnExactKeyOfUptoRow : OpenClaim := { program := "ytddeflhambegiaa", sum := "d753587ac5fed7daa6eb9276d71d8b1e50025494063ce1903f3ebb710f0203a4", func := "loop.example/g01918/laws.FnExactKeyOf", spec := "fnExactKeyOf", unfollowed := true, recurses := true, apart := false, narrowed := true }
def FnExactKeyOfUptoSaid : Prop := fnExactKeyOfUptoRow.holds Try.pinned (OpenSpec.upto fnExactKeyOfSpec)

/-- 'laws.FnExactFactIndex', WHERE WHAT IT READS IS OF BULK AT MOST 1048576: true; the input reads as it did. -/
def fnExactFactIndexUptoRow : OpenClaim := { program := "ytddeflhambegiaa", sum := "d753587ac5fed7daa6eb9276d71d8b1e50025494063ce1903f3ebb710f0203a4", func := "loop.example/g01918/laws.FnExactFactIndex", spec := "fnExactFactIndex", unfollowed := true, recurses := true, apart := false, narrowed := true }
def FnExactFactIndexUptoSaid : Prop := fnExactFactIndexUptoRow.holds Try.pinned (OpenSpec.upto fnExactFactIndexSpec)

/-- 'laws.FnExactEqualDatabases', WHERE WHAT IT READS IS OF BULK AT MOST 1048576: true; the input reads as it did. -/
def fnExactEqualDatabasesUptoRow : OpenClaim := { program := "ytddeflhambegiaa", sum := "d753587ac5fed7daa6eb9276d71d8b1e50025494063ce1903f3ebb710f0203a4", func := "loop.example/g01918/laws.FnExactEqualDatabases", spec := "fnExactEqualDatabases", unfollowed := true, recurses := true, apart := false, narrowed := true }
def FnExactEqualDatabasesUptoSaid : Prop := fnExactEqualDatabasesUptoRow.holds Try.pinned (OpenSpec.upto fnExactEqualDatabasesSpec)

/-- 'laws.FnExactIsValidDatabase', WHERE WHAT IT READS IS OF BULK AT MOST 1048576: true; the input reads as it did. -/
def fnExactIsValidDatabaseUptoRow : OpenClaim := { program := "ytddeflhambegiaa", sum := "d753587ac5fed7daa6eb9276d71d8b1e50025494063ce1903f3ebb710f0203a4", func := "loop.example/g01918/laws.FnExactIsValidDatabase", spec := "fnExactIsValidDatabase", unfollowed := true, recurses := true, apart := false, narrowed := true }
def FnExactIsValidDatabaseUptoSaid : Prop := fnExactIsValidDatabaseUptoRow.holds Try.pinned (OpenSpec.upto fnExactIsValidDatabaseSpec)

/-- 'laws.FnExactContainsFact', WHERE WHAT IT READS IS OF BULK AT MOST 1048576: true; the input reads as it did. -/
def fnExactContainsFactUptoRow : OpenClaim := { program := "ytddeflhambegiaa", sum := "d753587ac5fed7daa6eb9276d71d8b1e50025494063ce1903f3ebb710f0203a4", func := "loop.example/g01918/laws.FnExactContainsFact", spec := "fnExactContainsFact", unfollowed := true, recurses := true, apart := false, narrowed := true }
def FnExactContainsFactUptoSaid : Prop := fnExactContainsFactUptoRow.holds Try.pinned (OpenSpec.upto fnExactContainsFactSpec)

/-- 'laws.FnExactIsConsistent', WHERE WHAT IT READS IS OF BULK AT MOST 1048576: true; the input reads as it did. -/
def fnExactIsConsistentUptoRow : OpenClaim := { program := "ytddeflhambegiaa", sum := "d753587ac5fed7daa6eb9276d71d8b1e50025494063ce1903f3ebb710f0203a4", func := "loop.example/g01918/laws.FnExactIsConsistent", spec := "fnExactIsConsistent", unfollowed := true, recurses := true, apart := false, narrowed := true }
def FnExactIsConsistentUptoSaid : Prop := fnExactIsConsistentUptoRow.holds Try.pinned (OpenSpec.upto fnExactIsConsistentSpec)

/-- 'laws.FnExactCountRepairs', WHERE WHAT IT READS IS OF BULK AT MOST 1048576: true; the input reads as it did. -/
def fnExactCountRepairsUptoRow : OpenClaim := { program := "ytddeflhambegiaa", sum := "d753587ac5fed7daa6eb9276d71d8b1e50025494063ce1903f3ebb710f0203a4", func := "loop.example/g01918/laws.FnExactCountRepairs", spec := "fnExactCountRepairs", unfollowed := true, recurses := true, apart := false, narrowed := true }
def FnExactCountRepairsUptoSaid : Prop := fnExactCountRepairsUptoRow.holds Try.pinned (OpenSpec.upto fnExactCountRepairsSpec)

/-- 'laws.FnExactBlocks', WHERE WHAT IT READS IS OF BULK AT MOST 1048576: true; the input reads as it did. -/
def fnExactBlocksUptoRow : OpenClaim := { program := "ytddeflhambegiaa", sum := "d753587ac5fed7daa6eb9276d71d8b1e50025494063ce1903f3ebb710f0203a4", func := "loop.example/g01918/laws.FnExactBlocks", spec := "fnExactBlocks", unfollowed := true, recurses := true, apart := false, narrowed := true }
def FnExactBlocksUptoSaid : Prop := fnExactBlocksUptoRow.holds Try.pinned (OpenSpec.upto fnExactBlocksSpec)

end Rows
end Go.Proofs.Ytddeflhambegiaa
