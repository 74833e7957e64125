/-
  NARROWER THAN 'FOR EVERY INPUT', by the rows' own cells (each row's printed sentence says how): FnClient: laid · FnExactClientValid: laid · FnClientSay: laid · FnClientSayStates: laid · FnExactClientSay: laid.
  DERIVED. THE GIVEN ROWS OF THIS SEAT. 5 by the template 'for every input the law returns true; each argument reads behind the call as it read before'; 0 by the template 'total and deterministic' (their statements: YtpddahloogjghaaDoorTotals.lean).
  GIVEN WITH THE SEED: the statements are not yours to turn. If you find one false, say at which input.
  Laid BY PROGRAM, IN A SANDBOX (cutbox-rows.mjs): the forced cells as the released guide's own fill.sh prints them over the translation 44a9899a861cedd4… (all of the seat's roots in one cut). By AI agents, Wed Nov 11 2026. No macro, syntax, notation, axiom, sorry.
-/
import Derived.Test.YtpddahloogjghaaDoorChecked
import GoSem.PinnedTables
import GoSem.Claim
import GoSem.ClaimJoined
import GoSem.ClaimMapViews
import Derived.JoinedTies
import Derived.KernelRfl
namespace Go.Proofs.YtpddahloogjghaaDoor
/- THE CELL 'sum', in the pinned program and in every row, IS THE sha256 OF THE DUMP (.gsa) THAT YtpddahloogjghaaDoorProg.lean LOADS. Nothing in Lean hashes anything: it is a label: what it is worth is what the hold of that sum in a sandbox is worth. -/
noncomputable def Tryd.pinned : Pinned := { name := "ytpddahloogjghaadoor", sum := "44a9899a861cedd428fa33e21e772543ec883b672c8c32793deeb29e68c79fd5", checked := Tryd.checked }
namespace Rows
def none {H : Type} : Left H := { results := [], args := [] }

/- WHAT THE LISTED PACKAGE-LEVEL VARIABLES READ AS WHEN THE CALL BEGINS. Each datum BY PROGRAM (the guide's laid-datum.mjs) off the statement by which the dump's own 'gosem.cut.vars' lays the variable. In a bare row this is a premise. The card (YtpddahloogjghaaDoorCards.lean) ties it to the program's text. -/
def laid_unicode_utf8_acceptRanges {H : Type} : DataW H := .agg [.agg [.lit (.int .u8 128), .lit (.int .u8 191)], .agg [.lit (.int .u8 160), .lit (.int .u8 191)], .agg [.lit (.int .u8 128), .lit (.int .u8 159)], .agg [.lit (.int .u8 144), .lit (.int .u8 191)], .agg [.lit (.int .u8 128), .lit (.int .u8 143)], .agg [.lit (.int .u8 0), .lit (.int .u8 0)], .agg [.lit (.int .u8 0), .lit (.int .u8 0)], .agg [.lit (.int .u8 0), .lit (.int .u8 0)], .agg [.lit (.int .u8 0), .lit (.int .u8 0)], .agg [.lit (.int .u8 0), .lit (.int .u8 0)], .agg [.lit (.int .u8 0), .lit (.int .u8 0)], .agg [.lit (.int .u8 0), .lit (.int .u8 0)], .agg [.lit (.int .u8 0), .lit (.int .u8 0)], .agg [.lit (.int .u8 0), .lit (.int .u8 0)], .agg [.lit (.int .u8 0), .lit (.int .u8 0)], .agg [.lit (.int .u8 0), .lit (.int .u8 0)]]
/-- One of Go's own tables, pinned by name: the form's constant. -/
def laid_unicode_utf8_first : DataW Unit := Go.Pinned.utf8First

/-- 'laws.FnClient': WHATEVER THE INPUT: true; the input reads as it did. -/
def fnClientSpec : ChangeSpec := { name := "fnClient", fn := fun _ => fun
  | [d] => { results := [.lit (.bool true)], args := [d] }
  | _ => none }
def fnClientRow : OpenClaim := { program := "ytpddahloogjghaadoor", sum := "44a9899a861cedd428fa33e21e772543ec883b672c8c32793deeb29e68c79fd5", func := "loop.example/proxyframes/laws.FnClient", spec := "fnClient", inPlace := ["internal/bytealg.CountString", "internal/bytealg.IndexByteString", "internal/bytealg.IndexString"], unfollowed := true, recurses := true, named := ["unicode/utf8.first", "unicode/utf8.acceptRanges", "internal/bytealg.MaxLen"], apart := false, laid := [("unicode/utf8.acceptRanges", laid_unicode_utf8_acceptRanges), ("unicode/utf8.first", laid_unicode_utf8_first)] }
def FnClientSaid : Prop := fnClientRow.holds Tryd.pinned (OpenSpec.ofChange fnClientSpec)

/-- ITS FALSE NEIGHBOUR: 'it returns false'. Refute it at one input. -/
def fnClientWrong : ChangeSpec := { name := "fnClient", fn := fun _ => fun
  | [d] => { results := [.lit (.bool false)], args := [d] }
  | _ => none }
def FnClientWrongFalsely : Prop := fnClientRow.holds Tryd.pinned (OpenSpec.ofChange fnClientWrong)

/-- 'laws.FnExactClientValid': WHATEVER THE INPUT: true; the input reads as it did. -/
def fnExactClientValidSpec : ChangeSpec := { name := "fnExactClientValid", fn := fun _ => fun
  | [d] => { results := [.lit (.bool true)], args := [d] }
  | _ => none }
def fnExactClientValidRow : OpenClaim := { program := "ytpddahloogjghaadoor", sum := "44a9899a861cedd428fa33e21e772543ec883b672c8c32793deeb29e68c79fd5", func := "loop.example/proxyframes/laws.FnExactClientValid", spec := "fnExactClientValid", inPlace := ["internal/bytealg.CountString", "internal/bytealg.IndexByteString", "internal/bytealg.IndexString"], unfollowed := true, recurses := true, named := ["unicode/utf8.first", "unicode/utf8.acceptRanges", "internal/bytealg.MaxLen"], apart := false, laid := [("unicode/utf8.acceptRanges", laid_unicode_utf8_acceptRanges), ("unicode/utf8.first", laid_unicode_utf8_first)] }
def FnExactClientValidSaid : Prop := fnExactClientValidRow.holds Tryd.pinned (OpenSpec.ofChange fnExactClientValidSpec)

/-- ITS FALSE NEIGHBOUR: 'it returns false'. Refute it at one input. -/
def fnExactClientValidWrong : ChangeSpec := { name := "fnExactClientValid", fn := fun _ => fun
  | [d] => { results := [.lit (.bool false)], args := [d] }
  | _ => none }
def FnExactClientValidWrongFalsely : Prop := fnExactClientValidRow.holds Tryd.pinned (OpenSpec.ofChange fnExactClientValidWrong)

/-- 'laws.FnClientSay': WHATEVER THE INPUT: true; the input reads as it did. -/
def fnClientSaySpec : ChangeSpec := { name := "fnClientSay", fn := fun _ => fun
  | [d] => { results := [.lit (.bool true)], args := [d] }
  | _ => none }
def fnClientSayRow : OpenClaim := { program := "ytpddahloogjghaadoor", sum := "44a9899a861cedd428fa33e21e772543ec883b672c8c32793deeb29e68c79fd5", func := "loop.example/proxyframes/laws.FnClientSay", spec := "fnClientSay", inPlace := ["internal/bytealg.CountString", "internal/bytealg.IndexByteString", "internal/bytealg.IndexString"], unfollowed := true, recurses := true, named := ["unicode/utf8.first", "unicode/utf8.acceptRanges", "internal/bytealg.MaxLen"], apart := false, laid := [("unicode/utf8.acceptRanges", laid_unicode_utf8_acceptRanges), ("unicode/utf8.first", laid_unicode_utf8_first)] }
def FnClientSaySaid : Prop := fnClientSayRow.holds Tryd.pinned (OpenSpec.ofChange fnClientSaySpec)

/-- ITS FALSE NEIGHBOUR: 'it returns false'. Refute it at one input. -/
def fnClientSayWrong : ChangeSpec := { name := "fnClientSay", fn := fun _ => fun
  | [d] => { results := [.lit (.bool false)], args := [d] }
  | _ => none }
def FnClientSayWrongFalsely : Prop := fnClientSayRow.holds Tryd.pinned (OpenSpec.ofChange fnClientSayWrong)

/-- 'laws.FnClientSayStates': WHATEVER THE INPUT: true; the input reads as it did. -/
def fnClientSayStatesSpec : ChangeSpec := { name := "fnClientSayStates", fn := fun _ => fun
  | [d] => { results := [.lit (.bool true)], args := [d] }
  | _ => none }
def fnClientSayStatesRow : OpenClaim := { program := "ytpddahloogjghaadoor", sum := "44a9899a861cedd428fa33e21e772543ec883b672c8c32793deeb29e68c79fd5", func := "loop.example/proxyframes/laws.FnClientSayStates", spec := "fnClientSayStates", inPlace := ["internal/bytealg.CountString", "internal/bytealg.IndexByteString", "internal/bytealg.IndexString"], unfollowed := true, recurses := true, named := ["unicode/utf8.first", "unicode/utf8.acceptRanges", "internal/bytealg.MaxLen"], apart := false, laid := [("unicode/utf8.acceptRanges", laid_unicode_utf8_acceptRanges), ("unicode/utf8.first", laid_unicode_utf8_first)] }
def FnClientSayStatesSaid : Prop := fnClientSayStatesRow.holds Tryd.pinned (OpenSpec.ofChange fnClientSayStatesSpec)

/-- ITS FALSE NEIGHBOUR: 'it returns false'. Refute it at one input. -/
def fnClientSayStatesWrong : ChangeSpec := { name := "fnClientSayStates", fn := fun _ => fun
  | [d] => { results := [.lit (.bool false)], args := [d] }
  | _ => none }
def FnClientSayStatesWrongFalsely : Prop := fnClientSayStatesRow.holds Tryd.pinned (OpenSpec.ofChange fnClientSayStatesWrong)

/-- 'laws.FnExactClientSay': WHATEVER THE INPUT: true; the input reads as it did. -/
def fnExactClientSaySpec : ChangeSpec := { name := "fnExactClientSay", fn := fun _ => fun
  | [d1, d2] => { results := [.lit (.bool true)], args := [d1, d2] }
  | _ => none }
def fnExactClientSayRow : OpenClaim := { program := "ytpddahloogjghaadoor", sum := "44a9899a861cedd428fa33e21e772543ec883b672c8c32793deeb29e68c79fd5", func := "loop.example/proxyframes/laws.FnExactClientSay", spec := "fnExactClientSay", inPlace := ["internal/bytealg.CountString", "internal/bytealg.IndexByteString", "internal/bytealg.IndexString"], unfollowed := true, recurses := true, named := ["unicode/utf8.first", "unicode/utf8.acceptRanges", "internal/bytealg.MaxLen"], apart := false, laid := [("unicode/utf8.acceptRanges", laid_unicode_utf8_acceptRanges), ("unicode/utf8.first", laid_unicode_utf8_first)] }
def FnExactClientSaySaid : Prop := fnExactClientSayRow.holds Tryd.pinned (OpenSpec.ofChange fnExactClientSaySpec)

/-- ITS FALSE NEIGHBOUR: 'it returns false'. Refute it at one input. -/
def fnExactClientSayWrong : ChangeSpec := { name := "fnExactClientSay", fn := fun _ => fun
  | [d1, d2] => { results := [.lit (.bool false)], args := [d1, d2] }
  | _ => none }
def FnExactClientSayWrongFalsely : Prop := fnExactClientSayRow.holds Tryd.pinned (OpenSpec.ofChange fnExactClientSayWrong)

/- THE SECOND FORM. 'bulk': how many values and letters a reading holds, each counted each time it is reached (what is shared counts as often as it is met; a slice's spare places count too). A statement '..UptoSaid' is the law's where the arguments, and the package variables that the reading takes, are together of bulk at most 1048576: NARROWER than '..Said'. Prove '..Said' where nothing that the law and all that it calls make is longer than what came in: it says more and counts as full. Else prove '..UptoSaid'. A law counts once. -/
mutual
def uptoBulk {H : Type} : DataW H → Nat
  | .lit (.string bytes) => bytes.length + 1
  | .lit _ => 1
  | .nil => 1
  | .ptr d => uptoBulk d + 1
  | .slice elems spare => uptoBulkAll elems + uptoBulkAll spare + 1
  | .agg parts => uptoBulkAll parts + 1
  | .iface _ d => uptoBulk d + 1
  | .map entries => uptoBulkEntries entries + 1
  | .held _ => 1
def uptoBulkAll {H : Type} : List (DataW H) → Nat
  | [] => 0
  | d :: r => uptoBulk d + uptoBulkAll r
def uptoBulkEntries {H : Type} : List (Lit × DataW H) → Nat
  | [] => 0
  | x :: r => uptoBulkEntry x + uptoBulkEntries r
def uptoBulkEntry {H : Type} : Lit × DataW H → Nat
  | (.string bytes, d) => bytes.length + uptoBulk d + 1
  | (_, d) => uptoBulk d + 1
 end
def uptoSmall : (H : Type) → List (DataW H) → Bool := fun _ ds => decide (uptoBulkAll ds ≤ 1048576)
def OpenSpec.upto (s : _root_.Go.ChangeSpec) : _root_.Go.OpenSpec := { _root_.Go.OpenSpec.ofChange s with cond := some uptoSmall }

/-- 'laws.FnClient', WHERE WHAT IT READS IS OF BULK AT MOST 1048576: true; the input reads as it did. -/
def fnClientUptoRow : OpenClaim := { program := "ytpddahloogjghaadoor", sum := "44a9899a861cedd428fa33e21e772543ec883b672c8c32793deeb29e68c79fd5", func := "loop.example/proxyframes/laws.FnClient", spec := "fnClient", inPlace := ["internal/bytealg.CountString", "internal/bytealg.IndexByteString", "internal/bytealg.IndexString"], unfollowed := true, recurses := true, named := ["unicode/utf8.first", "unicode/utf8.acceptRanges", "internal/bytealg.MaxLen"], apart := false, laid := [("unicode/utf8.acceptRanges", laid_unicode_utf8_acceptRanges), ("unicode/utf8.first", laid_unicode_utf8_first)], narrowed := true }
def FnClientUptoSaid : Prop := fnClientUptoRow.holds Tryd.pinned (OpenSpec.upto fnClientSpec)

/-- 'laws.FnExactClientValid', WHERE WHAT IT READS IS OF BULK AT MOST 1048576: true; the input reads as it did. -/
def fnExactClientValidUptoRow : OpenClaim := { program := "ytpddahloogjghaadoor", sum := "44a9899a861cedd428fa33e21e772543ec883b672c8c32793deeb29e68c79fd5", func := "loop.example/proxyframes/laws.FnExactClientValid", spec := "fnExactClientValid", inPlace := ["internal/bytealg.CountString", "internal/bytealg.IndexByteString", "internal/bytealg.IndexString"], unfollowed := true, recurses := true, named := ["unicode/utf8.first", "unicode/utf8.acceptRanges", "internal/bytealg.MaxLen"], apart := false, laid := [("unicode/utf8.acceptRanges", laid_unicode_utf8_acceptRanges), ("unicode/utf8.first", laid_unicode_utf8_first)], narrowed := true }
def FnExactClientValidUptoSaid : Prop := fnExactClientValidUptoRow.holds Tryd.pinned (OpenSpec.upto fnExactClientValidSpec)

/-- 'laws.FnClientSay', WHERE WHAT IT READS IS OF BULK AT MOST 1048576: true; the input reads as it did. -/
def fnClientSayUptoRow : OpenClaim := { program := "ytpddahloogjghaadoor", sum := "44a9899a861cedd428fa33e21e772543ec883b672c8c32793deeb29e68c79fd5", func := "loop.example/proxyframes/laws.FnClientSay", spec := "fnClientSay", inPlace := ["internal/bytealg.CountString", "internal/bytealg.IndexByteString", "internal/bytealg.IndexString"], unfollowed := true, recurses := true, named := ["unicode/utf8.first", "unicode/utf8.acceptRanges", "internal/bytealg.MaxLen"], apart := false, laid := [("unicode/utf8.acceptRanges", laid_unicode_utf8_acceptRanges), ("unicode/utf8.first", laid_unicode_utf8_first)], narrowed := true }
def FnClientSayUptoSaid : Prop := fnClientSayUptoRow.holds Tryd.pinned (OpenSpec.upto fnClientSaySpec)

/-- 'laws.FnClientSayStates', WHERE WHAT IT READS IS OF BULK AT MOST 1048576: true; the input reads as it did. -/
def fnClientSayStatesUptoRow : OpenClaim := { program := "ytpddahloogjghaadoor", sum := "44a9899a861cedd428fa33e21e772543ec883b672c8c32793deeb29e68c79fd5", func := "loop.example/proxyframes/laws.FnClientSayStates", spec := "fnClientSayStates", inPlace := ["internal/bytealg.CountString", "internal/bytealg.IndexByteString", "internal/bytealg.IndexString"], unfollowed := true, recurses := true, named := ["unicode/utf8.first", "unicode/utf8.acceptRanges", "internal/bytealg.MaxLen"], apart := false, laid := [("unicode/utf8.acceptRanges", laid_unicode_utf8_acceptRanges), ("unicode/utf8.first", laid_unicode_utf8_first)], narrowed := true }
def FnClientSayStatesUptoSaid : Prop := fnClientSayStatesUptoRow.holds Tryd.pinned (OpenSpec.upto fnClientSayStatesSpec)

/-- 'laws.FnExactClientSay', WHERE WHAT IT READS IS OF BULK AT MOST 1048576: true; the input reads as it did. -/
def fnExactClientSayUptoRow : OpenClaim := { program := "ytpddahloogjghaadoor", sum := "44a9899a861cedd428fa33e21e772543ec883b672c8c32793deeb29e68c79fd5", func := "loop.example/proxyframes/laws.FnExactClientSay", spec := "fnExactClientSay", inPlace := ["internal/bytealg.CountString", "internal/bytealg.IndexByteString", "internal/bytealg.IndexString"], unfollowed := true, recurses := true, named := ["unicode/utf8.first", "unicode/utf8.acceptRanges", "internal/bytealg.MaxLen"], apart := false, laid := [("unicode/utf8.acceptRanges", laid_unicode_utf8_acceptRanges), ("unicode/utf8.first", laid_unicode_utf8_first)], narrowed := true }
def FnExactClientSayUptoSaid : Prop := fnExactClientSayUptoRow.holds Tryd.pinned (OpenSpec.upto fnExactClientSaySpec)

end Rows
end Go.Proofs.YtpddahloogjghaaDoor
