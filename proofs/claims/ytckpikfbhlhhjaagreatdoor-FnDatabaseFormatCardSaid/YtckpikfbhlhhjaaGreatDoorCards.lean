/-
  DERIVED. GIVEN WITH THE SEED: THE CARDS: each row of YtckpikfbhlhhjaaGreatDoorRows.lean that lists a variable, with what it lists TIED to the program's text (the seventh form; the later family's looks); each row that meets fmt, with fmt's text TOLD by the authors' own Lean function (tested against real Go, not proved from fmt's source: count such statements apart). THE CARD IS WHAT COUNTS. Prove the row's statement (the work); the ties are given (YtckpikfbhlhhjaaGreatDoorTie.lean); close each card by the builder's one call (the guide's Derived/Test/ToyasCard.lean, 'card_holds'). Laid BY PROGRAM, IN A SANDBOX (cutbox-door.mjs). By AI agents, Wed Nov 11 2026. No macro, syntax, notation, axiom, sorry.
-/
import Derived.Test.YtckpikfbhlhhjaaGreatDoorRows
import GoSem.ClaimSeven
namespace Go.Proofs.YtckpikfbhlhhjaaGreatDoor
namespace Rows

/-- THE TIED CARD OF 'laws.FnExactParseDatabase'. -/
def fnExactParseDatabaseCard : Claim7 := { stood := { row := fnExactParseDatabaseRow, standIns := [], harness := (true, "83345acfbac6bcd6080c52845d4ffbe92a4ed9909a2923e734b9f5734706ef30"), looks := false }, kinds := [], alts := [], laidByText := true, laidKinds := [.data, .data, .data, .data, .pinned], laidTests := true, laidLooks := .later }
def FnExactParseDatabaseCardSaid : Prop := Claim7.holds Tryz.pinned (.plain (OpenSpec.ofChange fnExactParseDatabaseSpec)) fnExactParseDatabaseCard

/-- THE TIED CARD OF 'laws.FnDatabaseFormat'. -/
def fnDatabaseFormatCard : Claim7 := { stood := { row := fnDatabaseFormatRow, standIns := [], harness := (true, "83345acfbac6bcd6080c52845d4ffbe92a4ed9909a2923e734b9f5734706ef30"), looks := false }, kinds := [], alts := [], laidByText := true, laidKinds := [.data, .data, .data, .data, .pinned], laidTests := true, laidLooks := .later }
def FnDatabaseFormatCardSaid : Prop := Claim7.holds Tryz.pinned (.plain (OpenSpec.ofChange fnDatabaseFormatSpec)) fnDatabaseFormatCard

/-- THE SECOND FORM's CARD OF 'laws.FnExactParseDatabase'. -/
def fnExactParseDatabaseUptoCard : Claim7 := { stood := { row := fnExactParseDatabaseUptoRow, standIns := [], harness := (true, "83345acfbac6bcd6080c52845d4ffbe92a4ed9909a2923e734b9f5734706ef30"), looks := false }, kinds := [], alts := [], laidByText := true, laidKinds := [.data, .data, .data, .data, .pinned], laidTests := true, laidLooks := .later }
def FnExactParseDatabaseUptoCardSaid : Prop := Claim7.holds Tryz.pinned (.plain (OpenSpec.upto fnExactParseDatabaseSpec)) fnExactParseDatabaseUptoCard

/-- THE SECOND FORM's CARD OF 'laws.FnDatabaseFormat'. -/
def fnDatabaseFormatUptoCard : Claim7 := { stood := { row := fnDatabaseFormatUptoRow, standIns := [], harness := (true, "83345acfbac6bcd6080c52845d4ffbe92a4ed9909a2923e734b9f5734706ef30"), looks := false }, kinds := [], alts := [], laidByText := true, laidKinds := [.data, .data, .data, .data, .pinned], laidTests := true, laidLooks := .later }
def FnDatabaseFormatUptoCardSaid : Prop := Claim7.holds Tryz.pinned (.plain (OpenSpec.upto fnDatabaseFormatSpec)) fnDatabaseFormatUptoCard
end Rows
end Go.Proofs.YtckpikfbhlhhjaaGreatDoor
