/-
  DERIVED. GIVEN WITH THE SEED: THE CARDS: each row of YtcgdccfofinheaaDoorRows.lean that lists a variable, with what it lists TIED to the program's text (the seventh form; the later family's looks); each row that meets fmt, with fmt's text TOLD by the authors' own Lean function (tested against real Go, not proved from fmt's source: count such statements apart). THE CARD IS WHAT COUNTS. Prove the row's statement (the work); the ties are given (YtcgdccfofinheaaDoorTie.lean); close each card by the builder's one call (the guide's Derived/Test/ToyasCard.lean, 'card_holds'). Laid BY PROGRAM, IN A SANDBOX (cutbox-door.mjs). By AI agents, Wed Nov 11 2026. No macro, syntax, notation, axiom, sorry.
-/
import Derived.Test.YtcgdccfofinheaaDoorRows
import GoSem.ClaimSeven
namespace Go.Proofs.YtcgdccfofinheaaDoor
namespace Rows

/-- THE TIED CARD OF 'laws.FnSizeBoth'. -/
def fnSizeBothCard : Claim7 := { stood := { row := fnSizeBothRow, standIns := [], harness := (true, "67f0e515a361298f7bc87d35f4c275aacd1ce9eb2188afafebb5c0a3ab5ef75e"), looks := false }, kinds := [], alts := [], laidByText := true, laidKinds := [.data, .data, .data, .data, .pinned], laidTests := true, laidLooks := .later }
def FnSizeBothCardSaid : Prop := Claim7.holds Tryd.pinned (.plain (OpenSpec.ofChange fnSizeBothSpec)) fnSizeBothCard

/-- THE TIED CARD OF 'laws.FnSizeOld'. -/
def fnSizeOldCard : Claim7 := { stood := { row := fnSizeOldRow, standIns := [], harness := (true, "67f0e515a361298f7bc87d35f4c275aacd1ce9eb2188afafebb5c0a3ab5ef75e"), looks := false }, kinds := [], alts := [], laidByText := true, laidKinds := [.data, .data, .data, .data, .pinned], laidTests := true, laidLooks := .later }
def FnSizeOldCardSaid : Prop := Claim7.holds Tryd.pinned (.plain (OpenSpec.ofChange fnSizeOldSpec)) fnSizeOldCard

/-- THE TIED CARD OF 'laws.FnExactCountSize'. -/
def fnExactCountSizeCard : Claim7 := { stood := { row := fnExactCountSizeRow, standIns := [], harness := (true, "67f0e515a361298f7bc87d35f4c275aacd1ce9eb2188afafebb5c0a3ab5ef75e"), looks := false }, kinds := [], alts := [], laidByText := true, laidKinds := [.data, .data, .data, .data, .pinned], laidTests := true, laidLooks := .later }
def FnExactCountSizeCardSaid : Prop := Claim7.holds Tryd.pinned (.plain (OpenSpec.ofChange fnExactCountSizeSpec)) fnExactCountSizeCard

/-- THE TIED CARD OF 'laws.FnSize'. -/
def fnSizeCard : Claim7 := { stood := { row := fnSizeRow, standIns := [], harness := (true, "67f0e515a361298f7bc87d35f4c275aacd1ce9eb2188afafebb5c0a3ab5ef75e"), looks := false }, kinds := [], alts := [], laidByText := true, laidKinds := [.data, .data, .data, .data, .pinned], laidTests := true, laidLooks := .later }
def FnSizeCardSaid : Prop := Claim7.holds Tryd.pinned (.plain (OpenSpec.ofChange fnSizeSpec)) fnSizeCard

/-- THE TIED CARD OF 'laws.FnRulesReplyCommand'. -/
def fnRulesReplyCommandCard : Claim7 := { stood := { row := fnRulesReplyCommandRow, standIns := [], harness := (true, "67f0e515a361298f7bc87d35f4c275aacd1ce9eb2188afafebb5c0a3ab5ef75e"), looks := false }, kinds := [], alts := [], laidByText := true, laidKinds := [.data, .data, .data, .data, .pinned], laidTests := true, laidLooks := .later }
def FnRulesReplyCommandCardSaid : Prop := Claim7.holds Tryd.pinned (.plain (OpenSpec.ofChange fnRulesReplyCommandSpec)) fnRulesReplyCommandCard

/-- THE TIED CARD OF 'laws.FnRulesReply'. -/
def fnRulesReplyCard : Claim7 := { stood := { row := fnRulesReplyRow, standIns := [], harness := (true, "67f0e515a361298f7bc87d35f4c275aacd1ce9eb2188afafebb5c0a3ab5ef75e"), looks := false }, kinds := [], alts := [], laidByText := true, laidKinds := [.data, .data, .data, .data, .pinned], laidTests := true, laidLooks := .later }
def FnRulesReplyCardSaid : Prop := Claim7.holds Tryd.pinned (.plain (OpenSpec.ofChange fnRulesReplySpec)) fnRulesReplyCard

/-- THE SECOND FORM's CARD OF 'laws.FnSizeBoth'. -/
def fnSizeBothUptoCard : Claim7 := { stood := { row := fnSizeBothUptoRow, standIns := [], harness := (true, "67f0e515a361298f7bc87d35f4c275aacd1ce9eb2188afafebb5c0a3ab5ef75e"), looks := false }, kinds := [], alts := [], laidByText := true, laidKinds := [.data, .data, .data, .data, .pinned], laidTests := true, laidLooks := .later }
def FnSizeBothUptoCardSaid : Prop := Claim7.holds Tryd.pinned (.plain (OpenSpec.upto fnSizeBothSpec)) fnSizeBothUptoCard

/-- THE SECOND FORM's CARD OF 'laws.FnSizeOld'. -/
def fnSizeOldUptoCard : Claim7 := { stood := { row := fnSizeOldUptoRow, standIns := [], harness := (true, "67f0e515a361298f7bc87d35f4c275aacd1ce9eb2188afafebb5c0a3ab5ef75e"), looks := false }, kinds := [], alts := [], laidByText := true, laidKinds := [.data, .data, .data, .data, .pinned], laidTests := true, laidLooks := .later }
def FnSizeOldUptoCardSaid : Prop := Claim7.holds Tryd.pinned (.plain (OpenSpec.upto fnSizeOldSpec)) fnSizeOldUptoCard

/-- THE SECOND FORM's CARD OF 'laws.FnExactCountSize'. -/
def fnExactCountSizeUptoCard : Claim7 := { stood := { row := fnExactCountSizeUptoRow, standIns := [], harness := (true, "67f0e515a361298f7bc87d35f4c275aacd1ce9eb2188afafebb5c0a3ab5ef75e"), looks := false }, kinds := [], alts := [], laidByText := true, laidKinds := [.data, .data, .data, .data, .pinned], laidTests := true, laidLooks := .later }
def FnExactCountSizeUptoCardSaid : Prop := Claim7.holds Tryd.pinned (.plain (OpenSpec.upto fnExactCountSizeSpec)) fnExactCountSizeUptoCard

/-- THE SECOND FORM's CARD OF 'laws.FnSize'. -/
def fnSizeUptoCard : Claim7 := { stood := { row := fnSizeUptoRow, standIns := [], harness := (true, "67f0e515a361298f7bc87d35f4c275aacd1ce9eb2188afafebb5c0a3ab5ef75e"), looks := false }, kinds := [], alts := [], laidByText := true, laidKinds := [.data, .data, .data, .data, .pinned], laidTests := true, laidLooks := .later }
def FnSizeUptoCardSaid : Prop := Claim7.holds Tryd.pinned (.plain (OpenSpec.upto fnSizeSpec)) fnSizeUptoCard

/-- THE SECOND FORM's CARD OF 'laws.FnRulesReplyCommand'. -/
def fnRulesReplyCommandUptoCard : Claim7 := { stood := { row := fnRulesReplyCommandUptoRow, standIns := [], harness := (true, "67f0e515a361298f7bc87d35f4c275aacd1ce9eb2188afafebb5c0a3ab5ef75e"), looks := false }, kinds := [], alts := [], laidByText := true, laidKinds := [.data, .data, .data, .data, .pinned], laidTests := true, laidLooks := .later }
def FnRulesReplyCommandUptoCardSaid : Prop := Claim7.holds Tryd.pinned (.plain (OpenSpec.upto fnRulesReplyCommandSpec)) fnRulesReplyCommandUptoCard

/-- THE SECOND FORM's CARD OF 'laws.FnRulesReply'. -/
def fnRulesReplyUptoCard : Claim7 := { stood := { row := fnRulesReplyUptoRow, standIns := [], harness := (true, "67f0e515a361298f7bc87d35f4c275aacd1ce9eb2188afafebb5c0a3ab5ef75e"), looks := false }, kinds := [], alts := [], laidByText := true, laidKinds := [.data, .data, .data, .data, .pinned], laidTests := true, laidLooks := .later }
def FnRulesReplyUptoCardSaid : Prop := Claim7.holds Tryd.pinned (.plain (OpenSpec.upto fnRulesReplySpec)) fnRulesReplyUptoCard
end Rows
end Go.Proofs.YtcgdccfofinheaaDoor
