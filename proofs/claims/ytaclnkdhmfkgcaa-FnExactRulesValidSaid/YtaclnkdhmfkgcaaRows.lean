/-
  No cell of these rows narrows 'for every input' (looked for: loops, veiled, ifaces, maps, wideKeys, modest, calm, conditions, laid).
  DERIVED. THE GIVEN ROWS OF THIS SEAT. 2 by the template 'for every input the law returns true; each argument reads behind the call as it read before'; 0 by the template 'total and deterministic' (their statements: YtaclnkdhmfkgcaaTotals.lean).
  GIVEN WITH THE SEED: the statements are not yours to turn. If you find one false, say at which input.
  Laid BY PROGRAM, IN A SANDBOX (cutbox-rows.mjs): the forced cells as the released guide's own fill.sh prints them over the translation 0a565bdaa661ba0b… (all of the seat's roots in one cut). By AI agents, Wed Nov 11 2026. No macro, syntax, notation, axiom, sorry.
-/
import Derived.Test.YtaclnkdhmfkgcaaChecked
import GoSem.Claim
import GoSem.ClaimJoined
import GoSem.ClaimMapViews
import Derived.JoinedTies
import Derived.KernelRfl
namespace Go.Proofs.Ytaclnkdhmfkgcaa
/- THE CELL 'sum', in the pinned program and in every row, IS THE sha256 OF THE DUMP (.gsa) THAT YtaclnkdhmfkgcaaProg.lean LOADS. Nothing in Lean hashes anything: it is a label: what it is worth is what the hold of that sum in a sandbox is worth. -/
noncomputable def Try.pinned : Pinned := { name := "ytaclnkdhmfkgcaa", sum := "0a565bdaa661ba0b9a62da2f1a196e53dc601b13b5f24517a04029a1cf4ca869", checked := Try.checked }
namespace Rows
def none {H : Type} : Left H := { results := [], args := [] }

/-- 'laws.FnRulesPart': WHATEVER THE INPUT: true; the input reads as it did. -/
def fnRulesPartSpec : ChangeSpec := { name := "fnRulesPart", fn := fun _ => fun
  | [d1, d2] => { results := [.lit (.bool true)], args := [d1, d2] }
  | _ => none }
def fnRulesPartRow : OpenClaim := { program := "ytaclnkdhmfkgcaa", sum := "0a565bdaa661ba0b9a62da2f1a196e53dc601b13b5f24517a04029a1cf4ca869", func := "loop.example/proxyframes/laws.FnRulesPart", spec := "fnRulesPart", inPlace := ["internal/bytealg.IndexByteString"], unfollowed := true, recurses := true, apart := false }
def FnRulesPartSaid : Prop := fnRulesPartRow.holds Try.pinned (OpenSpec.ofChange fnRulesPartSpec)

/-- ITS FALSE NEIGHBOUR: 'it returns false'. Refute it at one input. -/
def fnRulesPartWrong : ChangeSpec := { name := "fnRulesPart", fn := fun _ => fun
  | [d1, d2] => { results := [.lit (.bool false)], args := [d1, d2] }
  | _ => none }
def FnRulesPartWrongFalsely : Prop := fnRulesPartRow.holds Try.pinned (OpenSpec.ofChange fnRulesPartWrong)

/-- 'laws.FnExactRulesValid': WHATEVER THE INPUT: true; the input reads as it did. -/
def fnExactRulesValidSpec : ChangeSpec := { name := "fnExactRulesValid", fn := fun _ => fun
  | [d] => { results := [.lit (.bool true)], args := [d] }
  | _ => none }
def fnExactRulesValidRow : OpenClaim := { program := "ytaclnkdhmfkgcaa", sum := "0a565bdaa661ba0b9a62da2f1a196e53dc601b13b5f24517a04029a1cf4ca869", func := "loop.example/proxyframes/laws.FnExactRulesValid", spec := "fnExactRulesValid", inPlace := ["internal/bytealg.IndexByteString"], unfollowed := true, recurses := true, apart := false }
def FnExactRulesValidSaid : Prop := fnExactRulesValidRow.holds Try.pinned (OpenSpec.ofChange fnExactRulesValidSpec)

/-- ITS FALSE NEIGHBOUR: 'it returns false'. Refute it at one input. -/
def fnExactRulesValidWrong : ChangeSpec := { name := "fnExactRulesValid", fn := fun _ => fun
  | [d] => { results := [.lit (.bool false)], args := [d] }
  | _ => none }
def FnExactRulesValidWrongFalsely : Prop := fnExactRulesValidRow.holds Try.pinned (OpenSpec.ofChange fnExactRulesValidWrong)

/- THE SECOND FORM. 'bulk': how many values and letters a reading holds, each counted each time it is reached (what is shared counts as often as it is met; a slice's spare places count too). A statement '..UptoSaid' is the law's where the arguments, and the package variables that the reading takes, are together of bulk at most 1048576: NARROWER than '..Said'. Prove '..Said' where nothing that the law and all that it calls make is longer than what came in: it says more and counts as full. Else prove '..UptoSaid'. A law counts once. -/
mutual
def uptoBulk {H : Type} : DataW H → Nat
  | .lit (.string bytes) => bytes.length + 1
  | .lit _ => 1
  | .nil => 1
  | .ptr d => uptoBulk d + 1
  | .slice elems spare => uptoBulkAll elems + uptoBulkAll spare + 1
  | .agg parts => uptoBulkAll parts + 1
  | .iface _ d => uptoBulk d + 1
  | .map entries => uptoBulkEntries entries + 1
  | .held _ => 1
def uptoBulkAll {H : Type} : List (DataW H) → Nat
  | [] => 0
  | d :: r => uptoBulk d + uptoBulkAll r
def uptoBulkEntries {H : Type} : List (Lit × DataW H) → Nat
  | [] => 0
  | x :: r => uptoBulkEntry x + uptoBulkEntries r
def uptoBulkEntry {H : Type} : Lit × DataW H → Nat
  | (.string bytes, d) => bytes.length + uptoBulk d + 1
  | (_, d) => uptoBulk d + 1
 end
def uptoSmall : (H : Type) → List (DataW H) → Bool := fun _ ds => decide (uptoBulkAll ds ≤ 1048576)
def OpenSpec.upto (s : _root_.Go.ChangeSpec) : _root_.Go.OpenSpec := { _root_.Go.OpenSpec.ofChange s with cond := some uptoSmall }

/-- 'laws.FnRulesPart', WHERE WHAT IT READS IS OF BULK AT MOST 1048576: true; the input reads as it did. -/
def fnRulesPartUptoRow : OpenClaim := { program := "ytaclnkdhmfkgcaa", sum := "0a565bdaa661ba0b9a62da2f1a196e53dc601b13b5f24517a04029a1cf4ca869", func := "loop.example/proxyframes/laws.FnRulesPart", spec := "fnRulesPart", inPlace := ["internal/bytealg.IndexByteString"], unfollowed := true, recurses := true, apart := false, narrowed := true }
def FnRulesPartUptoSaid : Prop := fnRulesPartUptoRow.holds Try.pinned (OpenSpec.upto fnRulesPartSpec)

/-- 'laws.FnExactRulesValid', WHERE WHAT IT READS IS OF BULK AT MOST 1048576: true; the input reads as it did. -/
def fnExactRulesValidUptoRow : OpenClaim := { program := "ytaclnkdhmfkgcaa", sum := "0a565bdaa661ba0b9a62da2f1a196e53dc601b13b5f24517a04029a1cf4ca869", func := "loop.example/proxyframes/laws.FnExactRulesValid", spec := "fnExactRulesValid", inPlace := ["internal/bytealg.IndexByteString"], unfollowed := true, recurses := true, apart := false, narrowed := true }
def FnExactRulesValidUptoSaid : Prop := fnExactRulesValidUptoRow.holds Try.pinned (OpenSpec.upto fnExactRulesValidSpec)

end Rows
end Go.Proofs.Ytaclnkdhmfkgcaa
