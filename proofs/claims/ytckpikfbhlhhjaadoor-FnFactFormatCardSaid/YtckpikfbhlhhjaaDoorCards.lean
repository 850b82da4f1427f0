/-
  DERIVED. GIVEN WITH THE SEED: THE CARDS: each row of YtckpikfbhlhhjaaDoorRows.lean that lists a variable, with what it lists TIED to the program's text (the seventh form; the later family's looks); each row that meets fmt, with fmt's text TOLD by the authors' own Lean function (tested against real Go, not proved from fmt's source: count such statements apart). THE CARD IS WHAT COUNTS. Prove the row's statement (the work); the ties are given (YtckpikfbhlhhjaaDoorTie.lean); close each card by the builder's one call (the guide's Derived/Test/ToyasCard.lean, 'card_holds'). Laid BY PROGRAM, IN A SANDBOX (cutbox-door.mjs). By AI agents, Wed Nov 11 2026. No macro, syntax, notation, axiom, sorry.
-/
import Derived.Test.YtckpikfbhlhhjaaDoorRows
import GoSem.ClaimSeven
namespace Go.Proofs.YtckpikfbhlhhjaaDoor
namespace Rows

/-- THE TIED CARD OF 'laws.FnExactFormatDatabase'. -/
def fnExactFormatDatabaseCard : Claim7 := { stood := { row := fnExactFormatDatabaseRow, standIns := [], harness := (true, "e9fdb9768e6c261ba58995500b9db111e2532688969821d3d0ab3e988220d264"), looks := false }, kinds := [], alts := [], laidByText := true, laidKinds := [.data, .data, .data], laidTests := true, laidLooks := .later }
def FnExactFormatDatabaseCardSaid : Prop := Claim7.holds Tryd.pinned (.plain (OpenSpec.ofChange fnExactFormatDatabaseSpec)) fnExactFormatDatabaseCard

/-- THE TIED CARD OF 'laws.FnFactFormat'. -/
def fnFactFormatCard : Claim7 := { stood := { row := fnFactFormatRow, standIns := [], harness := (true, "e9fdb9768e6c261ba58995500b9db111e2532688969821d3d0ab3e988220d264"), looks := false }, kinds := [], alts := [], laidByText := true, laidKinds := [.data, .data, .data], laidTests := true, laidLooks := .later }
def FnFactFormatCardSaid : Prop := Claim7.holds Tryd.pinned (.plain (OpenSpec.ofChange fnFactFormatSpec)) fnFactFormatCard

/-- THE TIED CARD OF 'laws.FnSelectFacts'. -/
def fnSelectFactsCard : Claim7 := { stood := { row := fnSelectFactsRow, standIns := [], harness := (true, "e9fdb9768e6c261ba58995500b9db111e2532688969821d3d0ab3e988220d264"), looks := false }, kinds := [], alts := [], laidByText := true, laidKinds := [.data, .data, .data], laidTests := true, laidLooks := .later }
def FnSelectFactsCardSaid : Prop := Claim7.holds Tryd.pinned (.plain (OpenSpec.ofChange fnSelectFactsSpec)) fnSelectFactsCard

/-- THE TIED CARD OF 'laws.FnExactFormatFacts'. -/
def fnExactFormatFactsCard : Claim7 := { stood := { row := fnExactFormatFactsRow, standIns := [], harness := (true, "e9fdb9768e6c261ba58995500b9db111e2532688969821d3d0ab3e988220d264"), looks := false }, kinds := [], alts := [], laidByText := true, laidKinds := [.data, .data, .data], laidTests := true, laidLooks := .later }
def FnExactFormatFactsCardSaid : Prop := Claim7.holds Tryd.pinned (.plain (OpenSpec.ofChange fnExactFormatFactsSpec)) fnExactFormatFactsCard

/-- THE SECOND FORM's CARD OF 'laws.FnExactFormatDatabase'. -/
def fnExactFormatDatabaseUptoCard : Claim7 := { stood := { row := fnExactFormatDatabaseUptoRow, standIns := [], harness := (true, "e9fdb9768e6c261ba58995500b9db111e2532688969821d3d0ab3e988220d264"), looks := false }, kinds := [], alts := [], laidByText := true, laidKinds := [.data, .data, .data], laidTests := true, laidLooks := .later }
def FnExactFormatDatabaseUptoCardSaid : Prop := Claim7.holds Tryd.pinned (.plain (OpenSpec.upto fnExactFormatDatabaseSpec)) fnExactFormatDatabaseUptoCard

/-- THE SECOND FORM's CARD OF 'laws.FnFactFormat'. -/
def fnFactFormatUptoCard : Claim7 := { stood := { row := fnFactFormatUptoRow, standIns := [], harness := (true, "e9fdb9768e6c261ba58995500b9db111e2532688969821d3d0ab3e988220d264"), looks := false }, kinds := [], alts := [], laidByText := true, laidKinds := [.data, .data, .data], laidTests := true, laidLooks := .later }
def FnFactFormatUptoCardSaid : Prop := Claim7.holds Tryd.pinned (.plain (OpenSpec.upto fnFactFormatSpec)) fnFactFormatUptoCard

/-- THE SECOND FORM's CARD OF 'laws.FnSelectFacts'. -/
def fnSelectFactsUptoCard : Claim7 := { stood := { row := fnSelectFactsUptoRow, standIns := [], harness := (true, "e9fdb9768e6c261ba58995500b9db111e2532688969821d3d0ab3e988220d264"), looks := false }, kinds := [], alts := [], laidByText := true, laidKinds := [.data, .data, .data], laidTests := true, laidLooks := .later }
def FnSelectFactsUptoCardSaid : Prop := Claim7.holds Tryd.pinned (.plain (OpenSpec.upto fnSelectFactsSpec)) fnSelectFactsUptoCard

/-- THE SECOND FORM's CARD OF 'laws.FnExactFormatFacts'. -/
def fnExactFormatFactsUptoCard : Claim7 := { stood := { row := fnExactFormatFactsUptoRow, standIns := [], harness := (true, "e9fdb9768e6c261ba58995500b9db111e2532688969821d3d0ab3e988220d264"), looks := false }, kinds := [], alts := [], laidByText := true, laidKinds := [.data, .data, .data], laidTests := true, laidLooks := .later }
def FnExactFormatFactsUptoCardSaid : Prop := Claim7.holds Tryd.pinned (.plain (OpenSpec.upto fnExactFormatFactsSpec)) fnExactFormatFactsUptoCard
end Rows
end Go.Proofs.YtckpikfbhlhhjaaDoor
