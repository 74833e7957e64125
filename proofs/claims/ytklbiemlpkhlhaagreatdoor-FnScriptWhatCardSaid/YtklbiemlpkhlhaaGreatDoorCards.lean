/-
  DERIVED. GIVEN WITH THE SEED: THE CARDS: each row of YtklbiemlpkhlhaaGreatDoorRows.lean that lists a variable, with what it lists TIED to the program's text (the seventh form; the later family's looks); each row that meets fmt, with fmt's text TOLD by the authors' own Lean function (tested against real Go, not proved from fmt's source: count such statements apart). THE CARD IS WHAT COUNTS. Prove the row's statement (the work); the ties are given (YtklbiemlpkhlhaaGreatDoorTie.lean); close each card by the builder's one call (the guide's Derived/Test/ToyasCard.lean, 'card_holds'). Laid BY PROGRAM, IN A SANDBOX (cutbox-door.mjs). By AI agents, Wed Nov 11 2026. No macro, syntax, notation, axiom, sorry.
-/
import Derived.Test.YtklbiemlpkhlhaaGreatDoorRows
import GoSem.ClaimSeven
namespace Go.Proofs.YtklbiemlpkhlhaaGreatDoor
namespace Rows

/-- THE TIED CARD OF 'laws.FnScriptTalk'. -/
def fnScriptTalkCard : Claim7 := { stood := { row := fnScriptTalkRow, standIns := [], harness := (true, "55d55c44daf498e7c60c9d13b3fa4d0466899b264a381e8ab6e13b566704e61e"), looks := true }, kinds := [], alts := [], laidByText := true, laidKinds := [.data, .data, .data, .data, .sentinel, .sentinel, .data, .data, .pinned], laidTests := true, laidLooks := .later }
def FnScriptTalkCardSaid : Prop := Claim7.holds Tryz.pinned (.plain (OpenSpec.ofChange fnScriptTalkSpec)) fnScriptTalkCard

/-- THE TIED CARD OF 'laws.FnScriptCut'. -/
def fnScriptCutCard : Claim7 := { stood := { row := fnScriptCutRow, standIns := [], harness := (true, "55d55c44daf498e7c60c9d13b3fa4d0466899b264a381e8ab6e13b566704e61e"), looks := true }, kinds := [], alts := [], laidByText := true, laidKinds := [.data, .data, .data, .data, .sentinel, .sentinel, .data, .data, .pinned], laidTests := true, laidLooks := .later }
def FnScriptCutCardSaid : Prop := Claim7.holds Tryz.pinned (.plain (OpenSpec.ofChange fnScriptCutSpec)) fnScriptCutCard

/-- THE TIED CARD OF 'laws.FnScriptWhat'. -/
def fnScriptWhatCard : Claim7 := { stood := { row := fnScriptWhatRow, standIns := [], harness := (true, "55d55c44daf498e7c60c9d13b3fa4d0466899b264a381e8ab6e13b566704e61e"), looks := true }, kinds := [], alts := [], laidByText := true, laidKinds := [.data, .data, .data, .data, .sentinel, .sentinel, .data, .data, .pinned], laidTests := true, laidLooks := .later }
def FnScriptWhatCardSaid : Prop := Claim7.holds Tryz.pinned (.plain (OpenSpec.ofChange fnScriptWhatSpec)) fnScriptWhatCard

/-- THE TIED CARD OF 'laws.FnScript'. -/
def fnScriptCard : Claim7 := { stood := { row := fnScriptRow, standIns := [], harness := (true, "55d55c44daf498e7c60c9d13b3fa4d0466899b264a381e8ab6e13b566704e61e"), looks := true }, kinds := [], alts := [], laidByText := true, laidKinds := [.data, .data, .data, .data, .sentinel, .sentinel, .data, .data, .pinned], laidTests := true, laidLooks := .later }
def FnScriptCardSaid : Prop := Claim7.holds Tryz.pinned (.plain (OpenSpec.ofChange fnScriptSpec)) fnScriptCard

/-- THE TIED CARD OF 'laws.FnScriptBad'. -/
def fnScriptBadCard : Claim7 := { stood := { row := fnScriptBadRow, standIns := [], harness := (true, "55d55c44daf498e7c60c9d13b3fa4d0466899b264a381e8ab6e13b566704e61e"), looks := true }, kinds := [], alts := [], laidByText := true, laidKinds := [.data, .data, .data, .data, .sentinel, .sentinel, .data, .data, .pinned], laidTests := true, laidLooks := .later }
def FnScriptBadCardSaid : Prop := Claim7.holds Tryz.pinned (.plain (OpenSpec.ofChange fnScriptBadSpec)) fnScriptBadCard

/-- THE TIED CARD OF 'laws.FnScriptBytes'. -/
def fnScriptBytesCard : Claim7 := { stood := { row := fnScriptBytesRow, standIns := [], harness := (true, "55d55c44daf498e7c60c9d13b3fa4d0466899b264a381e8ab6e13b566704e61e"), looks := true }, kinds := [], alts := [], laidByText := true, laidKinds := [.data, .data, .data, .data, .sentinel, .sentinel, .data, .data, .pinned], laidTests := true, laidLooks := .later }
def FnScriptBytesCardSaid : Prop := Claim7.holds Tryz.pinned (.plain (OpenSpec.ofChange fnScriptBytesSpec)) fnScriptBytesCard

/-- THE TIED CARD OF 'laws.FnScriptNone'. -/
def fnScriptNoneCard : Claim7 := { stood := { row := fnScriptNoneRow, standIns := [], harness := (true, "55d55c44daf498e7c60c9d13b3fa4d0466899b264a381e8ab6e13b566704e61e"), looks := true }, kinds := [], alts := [], laidByText := true, laidKinds := [.data, .data, .data, .data, .sentinel, .sentinel, .data, .data, .pinned], laidTests := true, laidLooks := .later }
def FnScriptNoneCardSaid : Prop := Claim7.holds Tryz.pinned (.plain (OpenSpec.ofChange fnScriptNoneSpec)) fnScriptNoneCard

/-- THE TIED CARD OF 'laws.FnScriptSniff'. -/
def fnScriptSniffCard : Claim7 := { stood := { row := fnScriptSniffRow, standIns := [], harness := (true, "55d55c44daf498e7c60c9d13b3fa4d0466899b264a381e8ab6e13b566704e61e"), looks := true }, kinds := [], alts := [], laidByText := true, laidKinds := [.data, .data, .data, .data, .sentinel, .sentinel, .data, .data, .pinned], laidTests := true, laidLooks := .later }
def FnScriptSniffCardSaid : Prop := Claim7.holds Tryz.pinned (.plain (OpenSpec.ofChange fnScriptSniffSpec)) fnScriptSniffCard

/-- THE SECOND FORM's CARD OF 'laws.FnScriptTalk'. -/
def fnScriptTalkUptoCard : Claim7 := { stood := { row := fnScriptTalkUptoRow, standIns := [], harness := (true, "55d55c44daf498e7c60c9d13b3fa4d0466899b264a381e8ab6e13b566704e61e"), looks := true }, kinds := [], alts := [], laidByText := true, laidKinds := [.data, .data, .data, .data, .sentinel, .sentinel, .data, .data, .pinned], laidTests := true, laidLooks := .later }
def FnScriptTalkUptoCardSaid : Prop := Claim7.holds Tryz.pinned (.plain (OpenSpec.upto fnScriptTalkSpec)) fnScriptTalkUptoCard

/-- THE SECOND FORM's CARD OF 'laws.FnScriptCut'. -/
def fnScriptCutUptoCard : Claim7 := { stood := { row := fnScriptCutUptoRow, standIns := [], harness := (true, "55d55c44daf498e7c60c9d13b3fa4d0466899b264a381e8ab6e13b566704e61e"), looks := true }, kinds := [], alts := [], laidByText := true, laidKinds := [.data, .data, .data, .data, .sentinel, .sentinel, .data, .data, .pinned], laidTests := true, laidLooks := .later }
def FnScriptCutUptoCardSaid : Prop := Claim7.holds Tryz.pinned (.plain (OpenSpec.upto fnScriptCutSpec)) fnScriptCutUptoCard

/-- THE SECOND FORM's CARD OF 'laws.FnScriptWhat'. -/
def fnScriptWhatUptoCard : Claim7 := { stood := { row := fnScriptWhatUptoRow, standIns := [], harness := (true, "55d55c44daf498e7c60c9d13b3fa4d0466899b264a381e8ab6e13b566704e61e"), looks := true }, kinds := [], alts := [], laidByText := true, laidKinds := [.data, .data, .data, .data, .sentinel, .sentinel, .data, .data, .pinned], laidTests := true, laidLooks := .later }
def FnScriptWhatUptoCardSaid : Prop := Claim7.holds Tryz.pinned (.plain (OpenSpec.upto fnScriptWhatSpec)) fnScriptWhatUptoCard

/-- THE SECOND FORM's CARD OF 'laws.FnScript'. -/
def fnScriptUptoCard : Claim7 := { stood := { row := fnScriptUptoRow, standIns := [], harness := (true, "55d55c44daf498e7c60c9d13b3fa4d0466899b264a381e8ab6e13b566704e61e"), looks := true }, kinds := [], alts := [], laidByText := true, laidKinds := [.data, .data, .data, .data, .sentinel, .sentinel, .data, .data, .pinned], laidTests := true, laidLooks := .later }
def FnScriptUptoCardSaid : Prop := Claim7.holds Tryz.pinned (.plain (OpenSpec.upto fnScriptSpec)) fnScriptUptoCard

/-- THE SECOND FORM's CARD OF 'laws.FnScriptBad'. -/
def fnScriptBadUptoCard : Claim7 := { stood := { row := fnScriptBadUptoRow, standIns := [], harness := (true, "55d55c44daf498e7c60c9d13b3fa4d0466899b264a381e8ab6e13b566704e61e"), looks := true }, kinds := [], alts := [], laidByText := true, laidKinds := [.data, .data, .data, .data, .sentinel, .sentinel, .data, .data, .pinned], laidTests := true, laidLooks := .later }
def FnScriptBadUptoCardSaid : Prop := Claim7.holds Tryz.pinned (.plain (OpenSpec.upto fnScriptBadSpec)) fnScriptBadUptoCard

/-- THE SECOND FORM's CARD OF 'laws.FnScriptBytes'. -/
def fnScriptBytesUptoCard : Claim7 := { stood := { row := fnScriptBytesUptoRow, standIns := [], harness := (true, "55d55c44daf498e7c60c9d13b3fa4d0466899b264a381e8ab6e13b566704e61e"), looks := true }, kinds := [], alts := [], laidByText := true, laidKinds := [.data, .data, .data, .data, .sentinel, .sentinel, .data, .data, .pinned], laidTests := true, laidLooks := .later }
def FnScriptBytesUptoCardSaid : Prop := Claim7.holds Tryz.pinned (.plain (OpenSpec.upto fnScriptBytesSpec)) fnScriptBytesUptoCard

/-- THE SECOND FORM's CARD OF 'laws.FnScriptNone'. -/
def fnScriptNoneUptoCard : Claim7 := { stood := { row := fnScriptNoneUptoRow, standIns := [], harness := (true, "55d55c44daf498e7c60c9d13b3fa4d0466899b264a381e8ab6e13b566704e61e"), looks := true }, kinds := [], alts := [], laidByText := true, laidKinds := [.data, .data, .data, .data, .sentinel, .sentinel, .data, .data, .pinned], laidTests := true, laidLooks := .later }
def FnScriptNoneUptoCardSaid : Prop := Claim7.holds Tryz.pinned (.plain (OpenSpec.upto fnScriptNoneSpec)) fnScriptNoneUptoCard

/-- THE SECOND FORM's CARD OF 'laws.FnScriptSniff'. -/
def fnScriptSniffUptoCard : Claim7 := { stood := { row := fnScriptSniffUptoRow, standIns := [], harness := (true, "55d55c44daf498e7c60c9d13b3fa4d0466899b264a381e8ab6e13b566704e61e"), looks := true }, kinds := [], alts := [], laidByText := true, laidKinds := [.data, .data, .data, .data, .sentinel, .sentinel, .data, .data, .pinned], laidTests := true, laidLooks := .later }
def FnScriptSniffUptoCardSaid : Prop := Claim7.holds Tryz.pinned (.plain (OpenSpec.upto fnScriptSniffSpec)) fnScriptSniffUptoCard
end Rows
end Go.Proofs.YtklbiemlpkhlhaaGreatDoor
