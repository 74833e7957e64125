/-
  DERIVED. GIVEN WITH THE SEED: THE CARDS: each row of YtogejeniggngjaaDoorRows.lean that lists a variable, with what it lists TIED to the program's text (the seventh form; the later family's looks); each row that meets fmt, with fmt's text TOLD by the authors' own Lean function (tested against real Go, not proved from fmt's source: count such statements apart). THE CARD IS WHAT COUNTS. Prove the row's statement (the work); the ties are given (YtogejeniggngjaaDoorTie.lean); close each card by the builder's one call (the guide's Derived/Test/ToyasCard.lean, 'card_holds'). Laid BY PROGRAM, IN A SANDBOX (cutbox-door.mjs). By AI agents, Wed Nov 11 2026. No macro, syntax, notation, axiom, sorry.
-/
import Derived.Test.YtogejeniggngjaaDoorRows
import GoSem.ClaimSeven
namespace Go.Proofs.YtogejeniggngjaaDoor
namespace Rows

/-- THE TIED CARD OF 'laws.FnAllow'. -/
def fnAllowCard : Claim7 := { stood := { row := fnAllowRow, standIns := [], harness := (true, "a1f75053c27f0ef94f1886d067ceecf178f6ee255734b19e4a314f63375ac27a"), looks := false }, kinds := [], alts := [], laidByText := true, laidKinds := [.data, .data, .data, .data, .pinned], laidTests := true, laidLooks := .later }
def FnAllowCardSaid : Prop := Claim7.holds Tryd.pinned (.plain (OpenSpec.ofChange fnAllowSpec)) fnAllowCard

/-- THE TIED CARD OF 'laws.FnAllowNone'. -/
def fnAllowNoneCard : Claim7 := { stood := { row := fnAllowNoneRow, standIns := [], harness := (true, "a1f75053c27f0ef94f1886d067ceecf178f6ee255734b19e4a314f63375ac27a"), looks := false }, kinds := [], alts := [], laidByText := true, laidKinds := [.data, .data, .data, .data, .pinned], laidTests := true, laidLooks := .later }
def FnAllowNoneCardSaid : Prop := Claim7.holds Tryd.pinned (.plain (OpenSpec.ofChange fnAllowNoneSpec)) fnAllowNoneCard

/-- THE TIED CARD OF 'laws.FnAllowPort'. -/
def fnAllowPortCard : Claim7 := { stood := { row := fnAllowPortRow, standIns := [], harness := (true, "a1f75053c27f0ef94f1886d067ceecf178f6ee255734b19e4a314f63375ac27a"), looks := false }, kinds := [], alts := [], laidByText := true, laidKinds := [.data, .data, .data, .data, .pinned], laidTests := true, laidLooks := .later }
def FnAllowPortCardSaid : Prop := Claim7.holds Tryd.pinned (.plain (OpenSpec.ofChange fnAllowPortSpec)) fnAllowPortCard

/-- THE TIED CARD OF 'laws.FnAllowRest'. -/
def fnAllowRestCard : Claim7 := { stood := { row := fnAllowRestRow, standIns := [], harness := (true, "a1f75053c27f0ef94f1886d067ceecf178f6ee255734b19e4a314f63375ac27a"), looks := false }, kinds := [], alts := [], laidByText := true, laidKinds := [.data, .data, .data, .data, .pinned], laidTests := true, laidLooks := .later }
def FnAllowRestCardSaid : Prop := Claim7.holds Tryd.pinned (.plain (OpenSpec.ofChange fnAllowRestSpec)) fnAllowRestCard

/-- THE TIED CARD OF 'laws.FnAllowTwice'. -/
def fnAllowTwiceCard : Claim7 := { stood := { row := fnAllowTwiceRow, standIns := [], harness := (true, "a1f75053c27f0ef94f1886d067ceecf178f6ee255734b19e4a314f63375ac27a"), looks := false }, kinds := [], alts := [], laidByText := true, laidKinds := [.data, .data, .data, .data, .pinned], laidTests := true, laidLooks := .later }
def FnAllowTwiceCardSaid : Prop := Claim7.holds Tryd.pinned (.plain (OpenSpec.ofChange fnAllowTwiceSpec)) fnAllowTwiceCard

/-- THE TIED CARD OF 'laws.FnAllowEnd'. -/
def fnAllowEndCard : Claim7 := { stood := { row := fnAllowEndRow, standIns := [], harness := (true, "a1f75053c27f0ef94f1886d067ceecf178f6ee255734b19e4a314f63375ac27a"), looks := false }, kinds := [], alts := [], laidByText := true, laidKinds := [.data, .data, .data, .data, .pinned], laidTests := true, laidLooks := .later }
def FnAllowEndCardSaid : Prop := Claim7.holds Tryd.pinned (.plain (OpenSpec.ofChange fnAllowEndSpec)) fnAllowEndCard

/-- THE TIED CARD OF 'laws.FnExactRulesAllow'. -/
def fnExactRulesAllowCard : Claim7 := { stood := { row := fnExactRulesAllowRow, standIns := [], harness := (true, "a1f75053c27f0ef94f1886d067ceecf178f6ee255734b19e4a314f63375ac27a"), looks := false }, kinds := [], alts := [], laidByText := true, laidKinds := [.data, .data, .data, .data, .pinned], laidTests := true, laidLooks := .later }
def FnExactRulesAllowCardSaid : Prop := Claim7.holds Tryd.pinned (.plain (OpenSpec.ofChange fnExactRulesAllowSpec)) fnExactRulesAllowCard

/-- THE SECOND FORM's CARD OF 'laws.FnAllow'. -/
def fnAllowUptoCard : Claim7 := { stood := { row := fnAllowUptoRow, standIns := [], harness := (true, "a1f75053c27f0ef94f1886d067ceecf178f6ee255734b19e4a314f63375ac27a"), looks := false }, kinds := [], alts := [], laidByText := true, laidKinds := [.data, .data, .data, .data, .pinned], laidTests := true, laidLooks := .later }
def FnAllowUptoCardSaid : Prop := Claim7.holds Tryd.pinned (.plain (OpenSpec.upto fnAllowSpec)) fnAllowUptoCard

/-- THE SECOND FORM's CARD OF 'laws.FnAllowNone'. -/
def fnAllowNoneUptoCard : Claim7 := { stood := { row := fnAllowNoneUptoRow, standIns := [], harness := (true, "a1f75053c27f0ef94f1886d067ceecf178f6ee255734b19e4a314f63375ac27a"), looks := false }, kinds := [], alts := [], laidByText := true, laidKinds := [.data, .data, .data, .data, .pinned], laidTests := true, laidLooks := .later }
def FnAllowNoneUptoCardSaid : Prop := Claim7.holds Tryd.pinned (.plain (OpenSpec.upto fnAllowNoneSpec)) fnAllowNoneUptoCard

/-- THE SECOND FORM's CARD OF 'laws.FnAllowPort'. -/
def fnAllowPortUptoCard : Claim7 := { stood := { row := fnAllowPortUptoRow, standIns := [], harness := (true, "a1f75053c27f0ef94f1886d067ceecf178f6ee255734b19e4a314f63375ac27a"), looks := false }, kinds := [], alts := [], laidByText := true, laidKinds := [.data, .data, .data, .data, .pinned], laidTests := true, laidLooks := .later }
def FnAllowPortUptoCardSaid : Prop := Claim7.holds Tryd.pinned (.plain (OpenSpec.upto fnAllowPortSpec)) fnAllowPortUptoCard

/-- THE SECOND FORM's CARD OF 'laws.FnAllowRest'. -/
def fnAllowRestUptoCard : Claim7 := { stood := { row := fnAllowRestUptoRow, standIns := [], harness := (true, "a1f75053c27f0ef94f1886d067ceecf178f6ee255734b19e4a314f63375ac27a"), looks := false }, kinds := [], alts := [], laidByText := true, laidKinds := [.data, .data, .data, .data, .pinned], laidTests := true, laidLooks := .later }
def FnAllowRestUptoCardSaid : Prop := Claim7.holds Tryd.pinned (.plain (OpenSpec.upto fnAllowRestSpec)) fnAllowRestUptoCard

/-- THE SECOND FORM's CARD OF 'laws.FnAllowTwice'. -/
def fnAllowTwiceUptoCard : Claim7 := { stood := { row := fnAllowTwiceUptoRow, standIns := [], harness := (true, "a1f75053c27f0ef94f1886d067ceecf178f6ee255734b19e4a314f63375ac27a"), looks := false }, kinds := [], alts := [], laidByText := true, laidKinds := [.data, .data, .data, .data, .pinned], laidTests := true, laidLooks := .later }
def FnAllowTwiceUptoCardSaid : Prop := Claim7.holds Tryd.pinned (.plain (OpenSpec.upto fnAllowTwiceSpec)) fnAllowTwiceUptoCard

/-- THE SECOND FORM's CARD OF 'laws.FnAllowEnd'. -/
def fnAllowEndUptoCard : Claim7 := { stood := { row := fnAllowEndUptoRow, standIns := [], harness := (true, "a1f75053c27f0ef94f1886d067ceecf178f6ee255734b19e4a314f63375ac27a"), looks := false }, kinds := [], alts := [], laidByText := true, laidKinds := [.data, .data, .data, .data, .pinned], laidTests := true, laidLooks := .later }
def FnAllowEndUptoCardSaid : Prop := Claim7.holds Tryd.pinned (.plain (OpenSpec.upto fnAllowEndSpec)) fnAllowEndUptoCard

/-- THE SECOND FORM's CARD OF 'laws.FnExactRulesAllow'. -/
def fnExactRulesAllowUptoCard : Claim7 := { stood := { row := fnExactRulesAllowUptoRow, standIns := [], harness := (true, "a1f75053c27f0ef94f1886d067ceecf178f6ee255734b19e4a314f63375ac27a"), looks := false }, kinds := [], alts := [], laidByText := true, laidKinds := [.data, .data, .data, .data, .pinned], laidTests := true, laidLooks := .later }
def FnExactRulesAllowUptoCardSaid : Prop := Claim7.holds Tryd.pinned (.plain (OpenSpec.upto fnExactRulesAllowSpec)) fnExactRulesAllowUptoCard
end Rows
end Go.Proofs.YtogejeniggngjaaDoor
