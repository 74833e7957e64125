/-
  DERIVED. GIVEN WITH THE SEED: THE CARDS: each row of YtjehmnojfpedjaaGreatDoorRows.lean that lists a variable, with what it lists TIED to the program's text (the seventh form; the later family's looks); each row that meets fmt, with fmt's text TOLD by the authors' own Lean function (tested against real Go, not proved from fmt's source: count such statements apart). THE CARD IS WHAT COUNTS. Prove the row's statement (the work); the ties are given (YtjehmnojfpedjaaGreatDoorTie.lean); close each card by the builder's one call (the guide's Derived/Test/ToyasCard.lean, 'card_holds'). Laid BY PROGRAM, IN A SANDBOX (cutbox-door.mjs). By AI agents, Wed Nov 11 2026. No macro, syntax, notation, axiom, sorry.
-/
import Derived.Test.YtjehmnojfpedjaaGreatDoorRows
import GoSem.ClaimSeven
namespace Go.Proofs.YtjehmnojfpedjaaGreatDoor
namespace Rows

/-- THE TIED CARD OF 'laws.FnExactTalkSay'. -/
def fnExactTalkSayCard : Claim7 := { stood := { row := fnExactTalkSayRow, standIns := [], harness := (true, "390495ab5bd0cd9bbe104b8d726f6979fc8121b75cf440ebbb34cd7ecab38c98"), looks := true }, kinds := [], alts := [], laidByText := true, laidKinds := [.data, .data, .data, .data, .sentinel, .sentinel, .pinned], laidTests := true, laidLooks := .later }
def FnExactTalkSayCardSaid : Prop := Claim7.holds Tryz.pinned (.plain (OpenSpec.ofChange fnExactTalkSaySpec)) fnExactTalkSayCard

/-- THE TIED CARD OF 'laws.FnSayRequest'. -/
def fnSayRequestCard : Claim7 := { stood := { row := fnSayRequestRow, standIns := [], harness := (true, "390495ab5bd0cd9bbe104b8d726f6979fc8121b75cf440ebbb34cd7ecab38c98"), looks := true }, kinds := [], alts := [], laidByText := true, laidKinds := [.data, .data, .data, .data, .sentinel, .sentinel, .pinned], laidTests := true, laidLooks := .later }
def FnSayRequestCardSaid : Prop := Claim7.holds Tryz.pinned (.plain (OpenSpec.ofChange fnSayRequestSpec)) fnSayRequestCard

/-- THE TIED CARD OF 'laws.FnClientRun'. -/
def fnClientRunCard : Claim7 := { stood := { row := fnClientRunRow, standIns := [], harness := (true, "390495ab5bd0cd9bbe104b8d726f6979fc8121b75cf440ebbb34cd7ecab38c98"), looks := true }, kinds := [], alts := [], laidByText := true, laidKinds := [.data, .data, .data, .data, .sentinel, .sentinel, .pinned], laidTests := true, laidLooks := .later }
def FnClientRunCardSaid : Prop := Claim7.holds Tryz.pinned (.plain (OpenSpec.ofChange fnClientRunSpec)) fnClientRunCard

/-- THE TIED CARD OF 'laws.FnClientRunLogin'. -/
def fnClientRunLoginCard : Claim7 := { stood := { row := fnClientRunLoginRow, standIns := [], harness := (true, "390495ab5bd0cd9bbe104b8d726f6979fc8121b75cf440ebbb34cd7ecab38c98"), looks := true }, kinds := [], alts := [], laidByText := true, laidKinds := [.data, .data, .data, .data, .sentinel, .sentinel, .pinned], laidTests := true, laidLooks := .later }
def FnClientRunLoginCardSaid : Prop := Claim7.holds Tryz.pinned (.plain (OpenSpec.ofChange fnClientRunLoginSpec)) fnClientRunLoginCard

/-- THE TIED CARD OF 'laws.FnClientRunNew'. -/
def fnClientRunNewCard : Claim7 := { stood := { row := fnClientRunNewRow, standIns := [], harness := (true, "390495ab5bd0cd9bbe104b8d726f6979fc8121b75cf440ebbb34cd7ecab38c98"), looks := true }, kinds := [], alts := [], laidByText := true, laidKinds := [.data, .data, .data, .data, .sentinel, .sentinel, .pinned], laidTests := true, laidLooks := .later }
def FnClientRunNewCardSaid : Prop := Claim7.holds Tryz.pinned (.plain (OpenSpec.ofChange fnClientRunNewSpec)) fnClientRunNewCard

/-- THE TIED CARD OF 'laws.FnClientRunTwice'. -/
def fnClientRunTwiceCard : Claim7 := { stood := { row := fnClientRunTwiceRow, standIns := [], harness := (true, "390495ab5bd0cd9bbe104b8d726f6979fc8121b75cf440ebbb34cd7ecab38c98"), looks := true }, kinds := [], alts := [], laidByText := true, laidKinds := [.data, .data, .data, .data, .sentinel, .sentinel, .pinned], laidTests := true, laidLooks := .later }
def FnClientRunTwiceCardSaid : Prop := Claim7.holds Tryz.pinned (.plain (OpenSpec.ofChange fnClientRunTwiceSpec)) fnClientRunTwiceCard

/-- THE TIED CARD OF 'laws.FnClientRunTo'. -/
def fnClientRunToCard : Claim7 := { stood := { row := fnClientRunToRow, standIns := [], harness := (true, "390495ab5bd0cd9bbe104b8d726f6979fc8121b75cf440ebbb34cd7ecab38c98"), looks := true }, kinds := [], alts := [], laidByText := true, laidKinds := [.data, .data, .data, .data, .sentinel, .sentinel, .pinned], laidTests := true, laidLooks := .later }
def FnClientRunToCardSaid : Prop := Claim7.holds Tryz.pinned (.plain (OpenSpec.ofChange fnClientRunToSpec)) fnClientRunToCard

/-- THE TIED CARD OF 'laws.FnExactClientRun'. -/
def fnExactClientRunCard : Claim7 := { stood := { row := fnExactClientRunRow, standIns := [], harness := (true, "390495ab5bd0cd9bbe104b8d726f6979fc8121b75cf440ebbb34cd7ecab38c98"), looks := true }, kinds := [], alts := [], laidByText := true, laidKinds := [.data, .data, .data, .data, .sentinel, .sentinel, .pinned], laidTests := true, laidLooks := .later }
def FnExactClientRunCardSaid : Prop := Claim7.holds Tryz.pinned (.plain (OpenSpec.ofChange fnExactClientRunSpec)) fnExactClientRunCard

/-- THE SECOND FORM's CARD OF 'laws.FnExactTalkSay'. -/
def fnExactTalkSayUptoCard : Claim7 := { stood := { row := fnExactTalkSayUptoRow, standIns := [], harness := (true, "390495ab5bd0cd9bbe104b8d726f6979fc8121b75cf440ebbb34cd7ecab38c98"), looks := true }, kinds := [], alts := [], laidByText := true, laidKinds := [.data, .data, .data, .data, .sentinel, .sentinel, .pinned], laidTests := true, laidLooks := .later }
def FnExactTalkSayUptoCardSaid : Prop := Claim7.holds Tryz.pinned (.plain (OpenSpec.upto fnExactTalkSaySpec)) fnExactTalkSayUptoCard

/-- THE SECOND FORM's CARD OF 'laws.FnSayRequest'. -/
def fnSayRequestUptoCard : Claim7 := { stood := { row := fnSayRequestUptoRow, standIns := [], harness := (true, "390495ab5bd0cd9bbe104b8d726f6979fc8121b75cf440ebbb34cd7ecab38c98"), looks := true }, kinds := [], alts := [], laidByText := true, laidKinds := [.data, .data, .data, .data, .sentinel, .sentinel, .pinned], laidTests := true, laidLooks := .later }
def FnSayRequestUptoCardSaid : Prop := Claim7.holds Tryz.pinned (.plain (OpenSpec.upto fnSayRequestSpec)) fnSayRequestUptoCard

/-- THE SECOND FORM's CARD OF 'laws.FnClientRun'. -/
def fnClientRunUptoCard : Claim7 := { stood := { row := fnClientRunUptoRow, standIns := [], harness := (true, "390495ab5bd0cd9bbe104b8d726f6979fc8121b75cf440ebbb34cd7ecab38c98"), looks := true }, kinds := [], alts := [], laidByText := true, laidKinds := [.data, .data, .data, .data, .sentinel, .sentinel, .pinned], laidTests := true, laidLooks := .later }
def FnClientRunUptoCardSaid : Prop := Claim7.holds Tryz.pinned (.plain (OpenSpec.upto fnClientRunSpec)) fnClientRunUptoCard

/-- THE SECOND FORM's CARD OF 'laws.FnClientRunLogin'. -/
def fnClientRunLoginUptoCard : Claim7 := { stood := { row := fnClientRunLoginUptoRow, standIns := [], harness := (true, "390495ab5bd0cd9bbe104b8d726f6979fc8121b75cf440ebbb34cd7ecab38c98"), looks := true }, kinds := [], alts := [], laidByText := true, laidKinds := [.data, .data, .data, .data, .sentinel, .sentinel, .pinned], laidTests := true, laidLooks := .later }
def FnClientRunLoginUptoCardSaid : Prop := Claim7.holds Tryz.pinned (.plain (OpenSpec.upto fnClientRunLoginSpec)) fnClientRunLoginUptoCard

/-- THE SECOND FORM's CARD OF 'laws.FnClientRunNew'. -/
def fnClientRunNewUptoCard : Claim7 := { stood := { row := fnClientRunNewUptoRow, standIns := [], harness := (true, "390495ab5bd0cd9bbe104b8d726f6979fc8121b75cf440ebbb34cd7ecab38c98"), looks := true }, kinds := [], alts := [], laidByText := true, laidKinds := [.data, .data, .data, .data, .sentinel, .sentinel, .pinned], laidTests := true, laidLooks := .later }
def FnClientRunNewUptoCardSaid : Prop := Claim7.holds Tryz.pinned (.plain (OpenSpec.upto fnClientRunNewSpec)) fnClientRunNewUptoCard

/-- THE SECOND FORM's CARD OF 'laws.FnClientRunTwice'. -/
def fnClientRunTwiceUptoCard : Claim7 := { stood := { row := fnClientRunTwiceUptoRow, standIns := [], harness := (true, "390495ab5bd0cd9bbe104b8d726f6979fc8121b75cf440ebbb34cd7ecab38c98"), looks := true }, kinds := [], alts := [], laidByText := true, laidKinds := [.data, .data, .data, .data, .sentinel, .sentinel, .pinned], laidTests := true, laidLooks := .later }
def FnClientRunTwiceUptoCardSaid : Prop := Claim7.holds Tryz.pinned (.plain (OpenSpec.upto fnClientRunTwiceSpec)) fnClientRunTwiceUptoCard

/-- THE SECOND FORM's CARD OF 'laws.FnClientRunTo'. -/
def fnClientRunToUptoCard : Claim7 := { stood := { row := fnClientRunToUptoRow, standIns := [], harness := (true, "390495ab5bd0cd9bbe104b8d726f6979fc8121b75cf440ebbb34cd7ecab38c98"), looks := true }, kinds := [], alts := [], laidByText := true, laidKinds := [.data, .data, .data, .data, .sentinel, .sentinel, .pinned], laidTests := true, laidLooks := .later }
def FnClientRunToUptoCardSaid : Prop := Claim7.holds Tryz.pinned (.plain (OpenSpec.upto fnClientRunToSpec)) fnClientRunToUptoCard

/-- THE SECOND FORM's CARD OF 'laws.FnExactClientRun'. -/
def fnExactClientRunUptoCard : Claim7 := { stood := { row := fnExactClientRunUptoRow, standIns := [], harness := (true, "390495ab5bd0cd9bbe104b8d726f6979fc8121b75cf440ebbb34cd7ecab38c98"), looks := true }, kinds := [], alts := [], laidByText := true, laidKinds := [.data, .data, .data, .data, .sentinel, .sentinel, .pinned], laidTests := true, laidLooks := .later }
def FnExactClientRunUptoCardSaid : Prop := Claim7.holds Tryz.pinned (.plain (OpenSpec.upto fnExactClientRunSpec)) fnExactClientRunUptoCard
end Rows
end Go.Proofs.YtjehmnojfpedjaaGreatDoor
