/-
  DERIVED. GIVEN WITH THE SEED: THE CARDS: each row of YtcgdccfofinheaaGreatDoorRows.lean that lists a variable, with what it lists TIED to the program's text (the seventh form; the later family's looks); each row that meets fmt, with fmt's text TOLD by the authors' own Lean function (tested against real Go, not proved from fmt's source: count such statements apart). THE CARD IS WHAT COUNTS. Prove the row's statement (the work); the ties are given (YtcgdccfofinheaaGreatDoorTie.lean); close each card by the builder's one call (the guide's Derived/Test/ToyasCard.lean, 'card_holds'). Laid BY PROGRAM, IN A SANDBOX (cutbox-door.mjs). By AI agents, Wed Nov 11 2026. No macro, syntax, notation, axiom, sorry.
-/
import Derived.Test.YtcgdccfofinheaaGreatDoorRows
import GoSem.ClaimSeven
namespace Go.Proofs.YtcgdccfofinheaaGreatDoor
namespace Rows

/-- THE TIED CARD OF 'laws.FnExactRulesReply'. -/
def fnExactRulesReplyCard : Claim7 := { stood := { row := fnExactRulesReplyRow, standIns := [], harness := (true, "28820463e29cd4bd11cf5fa1923750625aa9f70f840d902bba6a68eb6c70f828"), looks := false }, kinds := [], alts := [], laidByText := true, laidKinds := [.data, .data, .data, .data, .pinned], laidTests := true, laidLooks := .later }
def FnExactRulesReplyCardSaid : Prop := Claim7.holds Tryz.pinned (.plain (OpenSpec.ofChange fnExactRulesReplySpec)) fnExactRulesReplyCard

/-- THE SECOND FORM's CARD OF 'laws.FnExactRulesReply'. -/
def fnExactRulesReplyUptoCard : Claim7 := { stood := { row := fnExactRulesReplyUptoRow, standIns := [], harness := (true, "28820463e29cd4bd11cf5fa1923750625aa9f70f840d902bba6a68eb6c70f828"), looks := false }, kinds := [], alts := [], laidByText := true, laidKinds := [.data, .data, .data, .data, .pinned], laidTests := true, laidLooks := .later }
def FnExactRulesReplyUptoCardSaid : Prop := Claim7.holds Tryz.pinned (.plain (OpenSpec.upto fnExactRulesReplySpec)) fnExactRulesReplyUptoCard
end Rows
end Go.Proofs.YtcgdccfofinheaaGreatDoor
