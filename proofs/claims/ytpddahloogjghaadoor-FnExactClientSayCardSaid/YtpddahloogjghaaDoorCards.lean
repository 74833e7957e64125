/-
  DERIVED. GIVEN WITH THE SEED: THE CARDS: each row of YtpddahloogjghaaDoorRows.lean that lists a variable, with what it lists TIED to the program's text (the seventh form; the later family's looks); each row that meets fmt, with fmt's text TOLD by the authors' own Lean function (tested against real Go, not proved from fmt's source: count such statements apart). THE CARD IS WHAT COUNTS. Prove the row's statement (the work); the ties are given (YtpddahloogjghaaDoorTie.lean); close each card by the builder's one call (the guide's Derived/Test/ToyasCard.lean, 'card_holds'). Laid BY PROGRAM, IN A SANDBOX (cutbox-door.mjs). By AI agents, Wed Nov 11 2026. No macro, syntax, notation, axiom, sorry.
-/
import Derived.Test.YtpddahloogjghaaDoorRows
import GoSem.ClaimSeven
namespace Go.Proofs.YtpddahloogjghaaDoor
namespace Rows

/-- THE TIED CARD OF 'laws.FnClient'. -/
def fnClientCard : Claim7 := { stood := { row := fnClientRow, standIns := [], harness := (true, "bea70416f31bae5447be0afd197fef78122f447bbac83ca645e772ebf64bd37b"), looks := false }, kinds := [], alts := [], laidByText := true, laidKinds := [.data, .pinned], laidTests := true, laidLooks := .later }
def FnClientCardSaid : Prop := Claim7.holds Tryd.pinned (.plain (OpenSpec.ofChange fnClientSpec)) fnClientCard

/-- THE TIED CARD OF 'laws.FnExactClientValid'. -/
def fnExactClientValidCard : Claim7 := { stood := { row := fnExactClientValidRow, standIns := [], harness := (true, "bea70416f31bae5447be0afd197fef78122f447bbac83ca645e772ebf64bd37b"), looks := false }, kinds := [], alts := [], laidByText := true, laidKinds := [.data, .pinned], laidTests := true, laidLooks := .later }
def FnExactClientValidCardSaid : Prop := Claim7.holds Tryd.pinned (.plain (OpenSpec.ofChange fnExactClientValidSpec)) fnExactClientValidCard

/-- THE TIED CARD OF 'laws.FnClientSay'. -/
def fnClientSayCard : Claim7 := { stood := { row := fnClientSayRow, standIns := [], harness := (true, "bea70416f31bae5447be0afd197fef78122f447bbac83ca645e772ebf64bd37b"), looks := false }, kinds := [], alts := [], laidByText := true, laidKinds := [.data, .pinned], laidTests := true, laidLooks := .later }
def FnClientSayCardSaid : Prop := Claim7.holds Tryd.pinned (.plain (OpenSpec.ofChange fnClientSaySpec)) fnClientSayCard

/-- THE TIED CARD OF 'laws.FnClientSayStates'. -/
def fnClientSayStatesCard : Claim7 := { stood := { row := fnClientSayStatesRow, standIns := [], harness := (true, "bea70416f31bae5447be0afd197fef78122f447bbac83ca645e772ebf64bd37b"), looks := false }, kinds := [], alts := [], laidByText := true, laidKinds := [.data, .pinned], laidTests := true, laidLooks := .later }
def FnClientSayStatesCardSaid : Prop := Claim7.holds Tryd.pinned (.plain (OpenSpec.ofChange fnClientSayStatesSpec)) fnClientSayStatesCard

/-- THE TIED CARD OF 'laws.FnExactClientSay'. -/
def fnExactClientSayCard : Claim7 := { stood := { row := fnExactClientSayRow, standIns := [], harness := (true, "bea70416f31bae5447be0afd197fef78122f447bbac83ca645e772ebf64bd37b"), looks := false }, kinds := [], alts := [], laidByText := true, laidKinds := [.data, .pinned], laidTests := true, laidLooks := .later }
def FnExactClientSayCardSaid : Prop := Claim7.holds Tryd.pinned (.plain (OpenSpec.ofChange fnExactClientSaySpec)) fnExactClientSayCard

/-- THE SECOND FORM's CARD OF 'laws.FnClient'. -/
def fnClientUptoCard : Claim7 := { stood := { row := fnClientUptoRow, standIns := [], harness := (true, "bea70416f31bae5447be0afd197fef78122f447bbac83ca645e772ebf64bd37b"), looks := false }, kinds := [], alts := [], laidByText := true, laidKinds := [.data, .pinned], laidTests := true, laidLooks := .later }
def FnClientUptoCardSaid : Prop := Claim7.holds Tryd.pinned (.plain (OpenSpec.upto fnClientSpec)) fnClientUptoCard

/-- THE SECOND FORM's CARD OF 'laws.FnExactClientValid'. -/
def fnExactClientValidUptoCard : Claim7 := { stood := { row := fnExactClientValidUptoRow, standIns := [], harness := (true, "bea70416f31bae5447be0afd197fef78122f447bbac83ca645e772ebf64bd37b"), looks := false }, kinds := [], alts := [], laidByText := true, laidKinds := [.data, .pinned], laidTests := true, laidLooks := .later }
def FnExactClientValidUptoCardSaid : Prop := Claim7.holds Tryd.pinned (.plain (OpenSpec.upto fnExactClientValidSpec)) fnExactClientValidUptoCard

/-- THE SECOND FORM's CARD OF 'laws.FnClientSay'. -/
def fnClientSayUptoCard : Claim7 := { stood := { row := fnClientSayUptoRow, standIns := [], harness := (true, "bea70416f31bae5447be0afd197fef78122f447bbac83ca645e772ebf64bd37b"), looks := false }, kinds := [], alts := [], laidByText := true, laidKinds := [.data, .pinned], laidTests := true, laidLooks := .later }
def FnClientSayUptoCardSaid : Prop := Claim7.holds Tryd.pinned (.plain (OpenSpec.upto fnClientSaySpec)) fnClientSayUptoCard

/-- THE SECOND FORM's CARD OF 'laws.FnClientSayStates'. -/
def fnClientSayStatesUptoCard : Claim7 := { stood := { row := fnClientSayStatesUptoRow, standIns := [], harness := (true, "bea70416f31bae5447be0afd197fef78122f447bbac83ca645e772ebf64bd37b"), looks := false }, kinds := [], alts := [], laidByText := true, laidKinds := [.data, .pinned], laidTests := true, laidLooks := .later }
def FnClientSayStatesUptoCardSaid : Prop := Claim7.holds Tryd.pinned (.plain (OpenSpec.upto fnClientSayStatesSpec)) fnClientSayStatesUptoCard

/-- THE SECOND FORM's CARD OF 'laws.FnExactClientSay'. -/
def fnExactClientSayUptoCard : Claim7 := { stood := { row := fnExactClientSayUptoRow, standIns := [], harness := (true, "bea70416f31bae5447be0afd197fef78122f447bbac83ca645e772ebf64bd37b"), looks := false }, kinds := [], alts := [], laidByText := true, laidKinds := [.data, .pinned], laidTests := true, laidLooks := .later }
def FnExactClientSayUptoCardSaid : Prop := Claim7.holds Tryd.pinned (.plain (OpenSpec.upto fnExactClientSaySpec)) fnExactClientSayUptoCard
end Rows
end Go.Proofs.YtpddahloogjghaaDoor
