/-
  DERIVED. GIVEN WITH THE SEED: THE CARDS: each row of YthpdfolobbacpaaDoorRows.lean that lists a variable, with what it lists TIED to the program's text (the seventh form; the later family's looks); each row that meets fmt, with fmt's text TOLD by the authors' own Lean function (tested against real Go, not proved from fmt's source: count such statements apart). THE CARD IS WHAT COUNTS. Prove the row's statement (the work); the ties are given (YthpdfolobbacpaaDoorTie.lean); close each card by the builder's one call (the guide's Derived/Test/ToyasCard.lean, 'card_holds'). Laid BY PROGRAM, IN A SANDBOX (cutbox-door.mjs). By AI agents, Wed Nov 11 2026. No macro, syntax, notation, axiom, sorry.
-/
import Derived.Test.YthpdfolobbacpaaDoorRows
import GoSem.ClaimSeven
namespace Go.Proofs.YthpdfolobbacpaaDoor
namespace Rows

/-- THE TIED CARD OF 'laws.FnExactKindText'. -/
def fnExactKindTextCard : Claim7 := { stood := { row := fnExactKindTextRow, standIns := [], harness := (true, "66798d8756310f6099b57a4dd5b45172d831d265fb240e7c8046e7ced7b275c4"), looks := false }, kinds := [], alts := [], laidByText := true, laidKinds := [.data], laidTests := true, laidLooks := .later }
def FnExactKindTextCardSaid : Prop := Claim7.holds Tryd.pinned (.plain (OpenSpec.ofChange fnExactKindTextSpec)) fnExactKindTextCard

/-- THE TIED CARD OF 'laws.FnKindNone'. -/
def fnKindNoneCard : Claim7 := { stood := { row := fnKindNoneRow, standIns := [], harness := (true, "66798d8756310f6099b57a4dd5b45172d831d265fb240e7c8046e7ced7b275c4"), looks := false }, kinds := [], alts := [], laidByText := true, laidKinds := [.data], laidTests := true, laidLooks := .later }
def FnKindNoneCardSaid : Prop := Claim7.holds Tryd.pinned (.plain (OpenSpec.ofChange fnKindNoneSpec)) fnKindNoneCard

/-- THE TIED CARD OF 'laws.FnKindText'. -/
def fnKindTextCard : Claim7 := { stood := { row := fnKindTextRow, standIns := [], harness := (true, "66798d8756310f6099b57a4dd5b45172d831d265fb240e7c8046e7ced7b275c4"), looks := false }, kinds := [], alts := [], laidByText := true, laidKinds := [.data], laidTests := true, laidLooks := .later }
def FnKindTextCardSaid : Prop := Claim7.holds Tryd.pinned (.plain (OpenSpec.ofChange fnKindTextSpec)) fnKindTextCard

/-- THE SECOND FORM's CARD OF 'laws.FnExactKindText'. -/
def fnExactKindTextUptoCard : Claim7 := { stood := { row := fnExactKindTextUptoRow, standIns := [], harness := (true, "66798d8756310f6099b57a4dd5b45172d831d265fb240e7c8046e7ced7b275c4"), looks := false }, kinds := [], alts := [], laidByText := true, laidKinds := [.data], laidTests := true, laidLooks := .later }
def FnExactKindTextUptoCardSaid : Prop := Claim7.holds Tryd.pinned (.plain (OpenSpec.upto fnExactKindTextSpec)) fnExactKindTextUptoCard

/-- THE SECOND FORM's CARD OF 'laws.FnKindNone'. -/
def fnKindNoneUptoCard : Claim7 := { stood := { row := fnKindNoneUptoRow, standIns := [], harness := (true, "66798d8756310f6099b57a4dd5b45172d831d265fb240e7c8046e7ced7b275c4"), looks := false }, kinds := [], alts := [], laidByText := true, laidKinds := [.data], laidTests := true, laidLooks := .later }
def FnKindNoneUptoCardSaid : Prop := Claim7.holds Tryd.pinned (.plain (OpenSpec.upto fnKindNoneSpec)) fnKindNoneUptoCard

/-- THE SECOND FORM's CARD OF 'laws.FnKindText'. -/
def fnKindTextUptoCard : Claim7 := { stood := { row := fnKindTextUptoRow, standIns := [], harness := (true, "66798d8756310f6099b57a4dd5b45172d831d265fb240e7c8046e7ced7b275c4"), looks := false }, kinds := [], alts := [], laidByText := true, laidKinds := [.data], laidTests := true, laidLooks := .later }
def FnKindTextUptoCardSaid : Prop := Claim7.holds Tryd.pinned (.plain (OpenSpec.upto fnKindTextSpec)) fnKindTextUptoCard
end Rows
end Go.Proofs.YthpdfolobbacpaaDoor
