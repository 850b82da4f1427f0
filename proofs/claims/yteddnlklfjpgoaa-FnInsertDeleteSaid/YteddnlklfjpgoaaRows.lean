/-
  No cell of these rows narrows 'for every input' (looked for: loops, veiled, ifaces, maps, wideKeys, modest, calm, conditions, laid).
  DERIVED. THE GIVEN ROWS OF THIS SEAT. 4 by the template 'for every input the law returns true; each argument reads behind the call as it read before'; 0 by the template 'total and deterministic' (their statements: YteddnlklfjpgoaaTotals.lean).
  GIVEN WITH THE SEED: the statements are not yours to turn. If you find one false, say at which input.
  Laid BY PROGRAM, IN A SANDBOX (cutbox-rows.mjs): the forced cells as the released guide's own fill.sh prints them over the translation f727c0b2587188c3… (all of the seat's roots in one cut). By AI agents, Wed Nov 11 2026. No macro, syntax, notation, axiom, sorry.
-/
import Derived.Test.YteddnlklfjpgoaaChecked
import GoSem.Claim
import GoSem.ClaimJoined
import GoSem.ClaimMapViews
import Derived.JoinedTies
import Derived.KernelRfl
namespace Go.Proofs.Yteddnlklfjpgoaa
/- THE CELL 'sum', in the pinned program and in every row, IS THE sha256 OF THE DUMP (.gsa) THAT YteddnlklfjpgoaaProg.lean LOADS. Nothing in Lean hashes anything: it is a label: what it is worth is what the hold of that sum in a sandbox is worth. -/
noncomputable def Try.pinned : Pinned := { name := "yteddnlklfjpgoaa", sum := "f727c0b2587188c3ad9f584dd24085be652c4cd50bd950d21cd2bbc0d9761cc6", checked := Try.checked }
namespace Rows
def none {H : Type} : Left H := { results := [], args := [] }

/-- 'laws.FnExactSelectFacts': WHATEVER THE INPUT: true; the input reads as it did. -/
def fnExactSelectFactsSpec : ChangeSpec := { name := "fnExactSelectFacts", fn := fun _ => fun
  | [d1, d2] => { results := [.lit (.bool true)], args := [d1, d2] }
  | _ => none }
def fnExactSelectFactsRow : OpenClaim := { program := "yteddnlklfjpgoaa", sum := "f727c0b2587188c3ad9f584dd24085be652c4cd50bd950d21cd2bbc0d9761cc6", func := "loop.example/g01918/laws.FnExactSelectFacts", spec := "fnExactSelectFacts", unfollowed := true, recurses := true, apart := false }
def FnExactSelectFactsSaid : Prop := fnExactSelectFactsRow.holds Try.pinned (OpenSpec.ofChange fnExactSelectFactsSpec)

/-- ITS FALSE NEIGHBOUR: 'it returns false'. Refute it at one input. -/
def fnExactSelectFactsWrong : ChangeSpec := { name := "fnExactSelectFacts", fn := fun _ => fun
  | [d1, d2] => { results := [.lit (.bool false)], args := [d1, d2] }
  | _ => none }
def FnExactSelectFactsWrongFalsely : Prop := fnExactSelectFactsRow.holds Try.pinned (OpenSpec.ofChange fnExactSelectFactsWrong)

/-- 'laws.FnExactInsertFact': WHATEVER THE INPUT: true; the input reads as it did. -/
def fnExactInsertFactSpec : ChangeSpec := { name := "fnExactInsertFact", fn := fun _ => fun
  | [d1, d2] => { results := [.lit (.bool true)], args := [d1, d2] }
  | _ => none }
def fnExactInsertFactRow : OpenClaim := { program := "yteddnlklfjpgoaa", sum := "f727c0b2587188c3ad9f584dd24085be652c4cd50bd950d21cd2bbc0d9761cc6", func := "loop.example/g01918/laws.FnExactInsertFact", spec := "fnExactInsertFact", inPlace := ["slices.overlaps[loop.example/g01918/impl.Fact]"], unfollowed := true, recurses := true, apart := false }
def FnExactInsertFactSaid : Prop := fnExactInsertFactRow.holds Try.pinned (OpenSpec.ofChange fnExactInsertFactSpec)

/-- ITS FALSE NEIGHBOUR: 'it returns false'. Refute it at one input. -/
def fnExactInsertFactWrong : ChangeSpec := { name := "fnExactInsertFact", fn := fun _ => fun
  | [d1, d2] => { results := [.lit (.bool false)], args := [d1, d2] }
  | _ => none }
def FnExactInsertFactWrongFalsely : Prop := fnExactInsertFactRow.holds Try.pinned (OpenSpec.ofChange fnExactInsertFactWrong)

/-- 'laws.FnExactDeleteFact': WHATEVER THE INPUT: true; the input reads as it did. -/
def fnExactDeleteFactSpec : ChangeSpec := { name := "fnExactDeleteFact", fn := fun _ => fun
  | [d1, d2] => { results := [.lit (.bool true)], args := [d1, d2] }
  | _ => none }
def fnExactDeleteFactRow : OpenClaim := { program := "yteddnlklfjpgoaa", sum := "f727c0b2587188c3ad9f584dd24085be652c4cd50bd950d21cd2bbc0d9761cc6", func := "loop.example/g01918/laws.FnExactDeleteFact", spec := "fnExactDeleteFact", unfollowed := true, recurses := true, apart := false }
def FnExactDeleteFactSaid : Prop := fnExactDeleteFactRow.holds Try.pinned (OpenSpec.ofChange fnExactDeleteFactSpec)

/-- ITS FALSE NEIGHBOUR: 'it returns false'. Refute it at one input. -/
def fnExactDeleteFactWrong : ChangeSpec := { name := "fnExactDeleteFact", fn := fun _ => fun
  | [d1, d2] => { results := [.lit (.bool false)], args := [d1, d2] }
  | _ => none }
def FnExactDeleteFactWrongFalsely : Prop := fnExactDeleteFactRow.holds Try.pinned (OpenSpec.ofChange fnExactDeleteFactWrong)

/-- 'laws.FnInsertDelete': WHATEVER THE INPUT: true; the input reads as it did. -/
def fnInsertDeleteSpec : ChangeSpec := { name := "fnInsertDelete", fn := fun _ => fun
  | [d] => { results := [.lit (.bool true)], args := [d] }
  | _ => none }
def fnInsertDeleteRow : OpenClaim := { program := "yteddnlklfjpgoaa", sum := "f727c0b2587188c3ad9f584dd24085be652c4cd50bd950d21cd2bbc0d9761cc6", func := "loop.example/g01918/laws.FnInsertDelete", spec := "fnInsertDelete", inPlace := ["slices.overlaps[loop.example/g01918/impl.Fact]"], unfollowed := true, recurses := true, apart := false }
def FnInsertDeleteSaid : Prop := fnInsertDeleteRow.holds Try.pinned (OpenSpec.ofChange fnInsertDeleteSpec)

/-- ITS FALSE NEIGHBOUR: 'it returns false'. Refute it at one input. -/
def fnInsertDeleteWrong : ChangeSpec := { name := "fnInsertDelete", fn := fun _ => fun
  | [d] => { results := [.lit (.bool false)], args := [d] }
  | _ => none }
def FnInsertDeleteWrongFalsely : Prop := fnInsertDeleteRow.holds Try.pinned (OpenSpec.ofChange fnInsertDeleteWrong)

/- THE SECOND FORM. 'bulk': how many values and letters a reading holds, each counted each time it is reached (what is shared counts as often as it is met; a slice's spare places count too). A statement '..UptoSaid' is the law's where the arguments, and the package variables that the reading takes, are together of bulk at most 1048576: NARROWER than '..Said'. Prove '..Said' where nothing that the law and all that it calls make is longer than what came in: it says more and counts as full. Else prove '..UptoSaid'. A law counts once. -/
mutual
def uptoBulk {H : Type} : DataW H → Nat
  | .lit (.string bytes) => bytes.length + 1
  | .lit _ => 1
  | .nil => 1
  | .ptr d => uptoBulk d + 1
  | .slice elems spare => uptoBulkAll elems + uptoBulkAll spare + 1
  | .agg parts => uptoBulkAll parts + 1
  | .iface _ d => uptoBulk d + 1
  | .map entries => uptoBulkEntries entries + 1
  | .held _ => 1
def uptoBulkAll {H : Type} : List (DataW H) → Nat
  | [] => 0
  | d :: r => uptoBulk d + uptoBulkAll r
def uptoBulkEntries {H : Type} : List (Lit × DataW H) → Nat
  | [] => 0
  | x :: r => uptoBulkEntry x + uptoBulkEntries r
def uptoBulkEntry {H : Type} : Lit × DataW H → Nat
  | (.string bytes, d) => bytes.length + uptoBulk d + 1
  | (_, d) => uptoBulk d + 1
 end
def uptoSmall : (H : Type) → List (DataW H) → Bool := fun _ ds => decide (uptoBulkAll ds ≤ 1048576)
def OpenSpec.upto (s : _root_.Go.ChangeSpec) : _root_.Go.OpenSpec := { _root_.Go.OpenSpec.ofChange s with cond := some uptoSmall }

/-- 'laws.FnExactSelectFacts', WHERE WHAT IT READS IS OF BULK AT MOST 1048576: true; the input reads as it did. -/
def fnExactSelectFactsUptoRow : OpenClaim := { program := "yteddnlklfjpgoaa", sum := "f727c0b2587188c3ad9f584dd24085be652c4cd50bd950d21cd2bbc0d9761cc6", func := "loop.example/g01918/laws.FnExactSelectFacts", spec := "fnExactSelectFacts", unfollowed := true, recurses := true, apart := false, narrowed := true }
def FnExactSelectFactsUptoSaid : Prop := fnExactSelectFactsUptoRow.holds Try.pinned (OpenSpec.upto fnExactSelectFactsSpec)

/-- 'laws.FnExactInsertFact', WHERE WHAT IT READS IS OF BULK AT MOST 1048576: true; the input reads as it did. -/
def fnExactInsertFactUptoRow : OpenClaim := { program := "yteddnlklfjpgoaa", sum := "f727c0b2587188c3ad9f584dd24085be652c4cd50bd950d21cd2bbc0d9761cc6", func := "loop.example/g01918/laws.FnExactInsertFact", spec := "fnExactInsertFact", inPlace := ["slices.overlaps[loop.example/g01918/impl.Fact]"], unfollowed := true, recurses := true, apart := false, narrowed := true }
def FnExactInsertFactUptoSaid : Prop := fnExactInsertFactUptoRow.holds Try.pinned (OpenSpec.upto fnExactInsertFactSpec)

/-- 'laws.FnExactDeleteFact', WHERE WHAT IT READS IS OF BULK AT MOST 1048576: true; the input reads as it did. -/
def fnExactDeleteFactUptoRow : OpenClaim := { program := "yteddnlklfjpgoaa", sum := "f727c0b2587188c3ad9f584dd24085be652c4cd50bd950d21cd2bbc0d9761cc6", func := "loop.example/g01918/laws.FnExactDeleteFact", spec := "fnExactDeleteFact", unfollowed := true, recurses := true, apart := false, narrowed := true }
def FnExactDeleteFactUptoSaid : Prop := fnExactDeleteFactUptoRow.holds Try.pinned (OpenSpec.upto fnExactDeleteFactSpec)

/-- 'laws.FnInsertDelete', WHERE WHAT IT READS IS OF BULK AT MOST 1048576: true; the input reads as it did. -/
def fnInsertDeleteUptoRow : OpenClaim := { program := "yteddnlklfjpgoaa", sum := "f727c0b2587188c3ad9f584dd24085be652c4cd50bd950d21cd2bbc0d9761cc6", func := "loop.example/g01918/laws.FnInsertDelete", spec := "fnInsertDelete", inPlace := ["slices.overlaps[loop.example/g01918/impl.Fact]"], unfollowed := true, recurses := true, apart := false, narrowed := true }
def FnInsertDeleteUptoSaid : Prop := fnInsertDeleteUptoRow.holds Try.pinned (OpenSpec.upto fnInsertDeleteSpec)

end Rows
end Go.Proofs.Yteddnlklfjpgoaa
