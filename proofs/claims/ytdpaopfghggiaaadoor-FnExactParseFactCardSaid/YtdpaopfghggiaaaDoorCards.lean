/-
  DERIVED. GIVEN WITH THE SEED: THE CARDS: each row of YtdpaopfghggiaaaDoorRows.lean that lists a variable, with what it lists TIED to the program's text (the seventh form; the later family's looks); each row that meets fmt, with fmt's text TOLD by the authors' own Lean function (tested against real Go, not proved from fmt's source: count such statements apart). THE CARD IS WHAT COUNTS. Prove the row's statement (the work); the ties are given (YtdpaopfghggiaaaDoorTie.lean); close each card by the builder's one call (the guide's Derived/Test/ToyasCard.lean, 'card_holds'). Laid BY PROGRAM, IN A SANDBOX (cutbox-door.mjs). By AI agents, Wed Nov 11 2026. No macro, syntax, notation, axiom, sorry.
-/
import Derived.Test.YtdpaopfghggiaaaDoorRows
import GoSem.ClaimSeven
namespace Go.Proofs.YtdpaopfghggiaaaDoor
namespace Rows

/-- THE TIED CARD OF 'laws.FnExactFormatInt'. -/
def fnExactFormatIntCard : Claim7 := { stood := { row := fnExactFormatIntRow, standIns := [], harness := (true, "6520480f530f8749bc836daac306fb43abb77077d4636b6f61853c38a45f309a"), looks := true }, kinds := [], alts := [], laidByText := true, laidKinds := [.data, .data, .data], laidTests := true, laidLooks := .later }
def FnExactFormatIntCardSaid : Prop := Claim7.holds Tryd.pinned (.plain (OpenSpec.ofChange fnExactFormatIntSpec)) fnExactFormatIntCard

/-- THE TIED CARD OF 'laws.FnExactFormatRelation'. -/
def fnExactFormatRelationCard : Claim7 := { stood := { row := fnExactFormatRelationRow, standIns := [], harness := (true, "6520480f530f8749bc836daac306fb43abb77077d4636b6f61853c38a45f309a"), looks := true }, kinds := [], alts := [], laidByText := true, laidKinds := [.data, .data, .data], laidTests := true, laidLooks := .later }
def FnExactFormatRelationCardSaid : Prop := Claim7.holds Tryd.pinned (.plain (OpenSpec.ofChange fnExactFormatRelationSpec)) fnExactFormatRelationCard

/-- THE TIED CARD OF 'laws.FnExactParseRelation'. -/
def fnExactParseRelationCard : Claim7 := { stood := { row := fnExactParseRelationRow, standIns := [], harness := (true, "6520480f530f8749bc836daac306fb43abb77077d4636b6f61853c38a45f309a"), looks := true }, kinds := [], alts := [], laidByText := true, laidKinds := [.data, .data, .data], laidTests := true, laidLooks := .later }
def FnExactParseRelationCardSaid : Prop := Claim7.holds Tryd.pinned (.plain (OpenSpec.ofChange fnExactParseRelationSpec)) fnExactParseRelationCard

/-- THE TIED CARD OF 'laws.FnRelationFormat'. -/
def fnRelationFormatCard : Claim7 := { stood := { row := fnRelationFormatRow, standIns := [], harness := (true, "6520480f530f8749bc836daac306fb43abb77077d4636b6f61853c38a45f309a"), looks := true }, kinds := [], alts := [], laidByText := true, laidKinds := [.data, .data, .data], laidTests := true, laidLooks := .later }
def FnRelationFormatCardSaid : Prop := Claim7.holds Tryd.pinned (.plain (OpenSpec.ofChange fnRelationFormatSpec)) fnRelationFormatCard

/-- THE TIED CARD OF 'laws.FnExactFormatFact'. -/
def fnExactFormatFactCard : Claim7 := { stood := { row := fnExactFormatFactRow, standIns := [], harness := (true, "6520480f530f8749bc836daac306fb43abb77077d4636b6f61853c38a45f309a"), looks := true }, kinds := [], alts := [], laidByText := true, laidKinds := [.data, .data, .data], laidTests := true, laidLooks := .later }
def FnExactFormatFactCardSaid : Prop := Claim7.holds Tryd.pinned (.plain (OpenSpec.ofChange fnExactFormatFactSpec)) fnExactFormatFactCard

/-- THE TIED CARD OF 'laws.FnExactParseInt'. -/
def fnExactParseIntCard : Claim7 := { stood := { row := fnExactParseIntRow, standIns := [], harness := (true, "6520480f530f8749bc836daac306fb43abb77077d4636b6f61853c38a45f309a"), looks := true }, kinds := [], alts := [], laidByText := true, laidKinds := [.data, .data, .data, .sentinel, .sentinel], laidTests := true, laidLooks := .later }
def FnExactParseIntCardSaid : Prop := Claim7.holds Tryd.pinned (.plain (OpenSpec.ofChange fnExactParseIntSpec)) fnExactParseIntCard

/-- THE TIED CARD OF 'laws.FnExactParseFact'. -/
def fnExactParseFactCard : Claim7 := { stood := { row := fnExactParseFactRow, standIns := [], harness := (true, "6520480f530f8749bc836daac306fb43abb77077d4636b6f61853c38a45f309a"), looks := true }, kinds := [], alts := [], laidByText := true, laidKinds := [.data, .data, .data], laidTests := true, laidLooks := .later }
def FnExactParseFactCardSaid : Prop := Claim7.holds Tryd.pinned (.plain (OpenSpec.ofChange fnExactParseFactSpec)) fnExactParseFactCard

/-- THE TIED CARD OF 'laws.FnEncodings'. -/
def fnEncodingsCard : Claim7 := { stood := { row := fnEncodingsRow, standIns := [], harness := (true, "6520480f530f8749bc836daac306fb43abb77077d4636b6f61853c38a45f309a"), looks := true }, kinds := [], alts := [], laidByText := true, laidKinds := [.data, .data, .data, .sentinel, .sentinel], laidTests := true, laidLooks := .later }
def FnEncodingsCardSaid : Prop := Claim7.holds Tryd.pinned (.plain (OpenSpec.ofChange fnEncodingsSpec)) fnEncodingsCard

/-- THE SECOND FORM's CARD OF 'laws.FnExactFormatInt'. -/
def fnExactFormatIntUptoCard : Claim7 := { stood := { row := fnExactFormatIntUptoRow, standIns := [], harness := (true, "6520480f530f8749bc836daac306fb43abb77077d4636b6f61853c38a45f309a"), looks := true }, kinds := [], alts := [], laidByText := true, laidKinds := [.data, .data, .data], laidTests := true, laidLooks := .later }
def FnExactFormatIntUptoCardSaid : Prop := Claim7.holds Tryd.pinned (.plain (OpenSpec.upto fnExactFormatIntSpec)) fnExactFormatIntUptoCard

/-- THE SECOND FORM's CARD OF 'laws.FnExactFormatRelation'. -/
def fnExactFormatRelationUptoCard : Claim7 := { stood := { row := fnExactFormatRelationUptoRow, standIns := [], harness := (true, "6520480f530f8749bc836daac306fb43abb77077d4636b6f61853c38a45f309a"), looks := true }, kinds := [], alts := [], laidByText := true, laidKinds := [.data, .data, .data], laidTests := true, laidLooks := .later }
def FnExactFormatRelationUptoCardSaid : Prop := Claim7.holds Tryd.pinned (.plain (OpenSpec.upto fnExactFormatRelationSpec)) fnExactFormatRelationUptoCard

/-- THE SECOND FORM's CARD OF 'laws.FnExactParseRelation'. -/
def fnExactParseRelationUptoCard : Claim7 := { stood := { row := fnExactParseRelationUptoRow, standIns := [], harness := (true, "6520480f530f8749bc836daac306fb43abb77077d4636b6f61853c38a45f309a"), looks := true }, kinds := [], alts := [], laidByText := true, laidKinds := [.data, .data, .data], laidTests := true, laidLooks := .later }
def FnExactParseRelationUptoCardSaid : Prop := Claim7.holds Tryd.pinned (.plain (OpenSpec.upto fnExactParseRelationSpec)) fnExactParseRelationUptoCard

/-- THE SECOND FORM's CARD OF 'laws.FnRelationFormat'. -/
def fnRelationFormatUptoCard : Claim7 := { stood := { row := fnRelationFormatUptoRow, standIns := [], harness := (true, "6520480f530f8749bc836daac306fb43abb77077d4636b6f61853c38a45f309a"), looks := true }, kinds := [], alts := [], laidByText := true, laidKinds := [.data, .data, .data], laidTests := true, laidLooks := .later }
def FnRelationFormatUptoCardSaid : Prop := Claim7.holds Tryd.pinned (.plain (OpenSpec.upto fnRelationFormatSpec)) fnRelationFormatUptoCard

/-- THE SECOND FORM's CARD OF 'laws.FnExactFormatFact'. -/
def fnExactFormatFactUptoCard : Claim7 := { stood := { row := fnExactFormatFactUptoRow, standIns := [], harness := (true, "6520480f530f8749bc836daac306fb43abb77077d4636b6f61853c38a45f309a"), looks := true }, kinds := [], alts := [], laidByText := true, laidKinds := [.data, .data, .data], laidTests := true, laidLooks := .later }
def FnExactFormatFactUptoCardSaid : Prop := Claim7.holds Tryd.pinned (.plain (OpenSpec.upto fnExactFormatFactSpec)) fnExactFormatFactUptoCard

/-- THE SECOND FORM's CARD OF 'laws.FnExactParseInt'. -/
def fnExactParseIntUptoCard : Claim7 := { stood := { row := fnExactParseIntUptoRow, standIns := [], harness := (true, "6520480f530f8749bc836daac306fb43abb77077d4636b6f61853c38a45f309a"), looks := true }, kinds := [], alts := [], laidByText := true, laidKinds := [.data, .data, .data, .sentinel, .sentinel], laidTests := true, laidLooks := .later }
def FnExactParseIntUptoCardSaid : Prop := Claim7.holds Tryd.pinned (.plain (OpenSpec.upto fnExactParseIntSpec)) fnExactParseIntUptoCard

/-- THE SECOND FORM's CARD OF 'laws.FnExactParseFact'. -/
def fnExactParseFactUptoCard : Claim7 := { stood := { row := fnExactParseFactUptoRow, standIns := [], harness := (true, "6520480f530f8749bc836daac306fb43abb77077d4636b6f61853c38a45f309a"), looks := true }, kinds := [], alts := [], laidByText := true, laidKinds := [.data, .data, .data], laidTests := true, laidLooks := .later }
def FnExactParseFactUptoCardSaid : Prop := Claim7.holds Tryd.pinned (.plain (OpenSpec.upto fnExactParseFactSpec)) fnExactParseFactUptoCard

/-- THE SECOND FORM's CARD OF 'laws.FnEncodings'. -/
def fnEncodingsUptoCard : Claim7 := { stood := { row := fnEncodingsUptoRow, standIns := [], harness := (true, "6520480f530f8749bc836daac306fb43abb77077d4636b6f61853c38a45f309a"), looks := true }, kinds := [], alts := [], laidByText := true, laidKinds := [.data, .data, .data, .sentinel, .sentinel], laidTests := true, laidLooks := .later }
def FnEncodingsUptoCardSaid : Prop := Claim7.holds Tryd.pinned (.plain (OpenSpec.upto fnEncodingsSpec)) fnEncodingsUptoCard
end Rows
end Go.Proofs.YtdpaopfghggiaaaDoor
