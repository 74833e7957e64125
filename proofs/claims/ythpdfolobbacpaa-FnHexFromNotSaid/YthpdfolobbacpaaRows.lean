/-
  No cell of these rows narrows 'for every input' (looked for: loops, veiled, ifaces, maps, wideKeys, modest, calm, conditions, laid).
  DERIVED. THE GIVEN ROWS OF THIS SEAT. 6 by the template 'for every input the law returns true; each argument reads behind the call as it read before'; 0 by the template 'total and deterministic' (their statements: YthpdfolobbacpaaTotals.lean).
  GIVEN WITH THE SEED: the statements are not yours to turn. If you find one false, say at which input.
  Laid BY PROGRAM, IN A SANDBOX (cutbox-rows.mjs): the forced cells as the released guide's own fill.sh prints them over the translation 2ce5db5ddc34dc41… (all of the seat's roots in one cut). By AI agents, Wed Nov 11 2026. No macro, syntax, notation, axiom, sorry.
-/
import Derived.Test.YthpdfolobbacpaaChecked
import GoSem.Claim
import GoSem.ClaimJoined
import GoSem.ClaimMapViews
import Derived.JoinedTies
import Derived.KernelRfl
namespace Go.Proofs.Ythpdfolobbacpaa
/- THE CELL 'sum', in the pinned program and in every row, IS THE sha256 OF THE DUMP (.gsa) THAT YthpdfolobbacpaaProg.lean LOADS. Nothing in Lean hashes anything: it is a label: what it is worth is what the hold of that sum in a sandbox is worth. -/
noncomputable def Try.pinned : Pinned := { name := "ythpdfolobbacpaa", sum := "2ce5db5ddc34dc41028685ffe588eef68879d9774ed63bc69cf714f1eed47abd", checked := Try.checked }
namespace Rows
def none {H : Type} : Left H := { results := [], args := [] }

/-- 'laws.FnExactHexFrom': WHATEVER THE INPUT: true; the input reads as it did. -/
def fnExactHexFromSpec : ChangeSpec := { name := "fnExactHexFrom", fn := fun _ => fun
  | [d] => { results := [.lit (.bool true)], args := [d] }
  | _ => none }
def fnExactHexFromRow : OpenClaim := { program := "ythpdfolobbacpaa", sum := "2ce5db5ddc34dc41028685ffe588eef68879d9774ed63bc69cf714f1eed47abd", func := "loop.example/proxyframes/laws.FnExactHexFrom", spec := "fnExactHexFrom", inPlace := ["internal/bytealg.IndexByteString"], apart := false }
def FnExactHexFromSaid : Prop := fnExactHexFromRow.holds Try.pinned (OpenSpec.ofChange fnExactHexFromSpec)

/-- ITS FALSE NEIGHBOUR: 'it returns false'. Refute it at one input. -/
def fnExactHexFromWrong : ChangeSpec := { name := "fnExactHexFrom", fn := fun _ => fun
  | [d] => { results := [.lit (.bool false)], args := [d] }
  | _ => none }
def FnExactHexFromWrongFalsely : Prop := fnExactHexFromRow.holds Try.pinned (OpenSpec.ofChange fnExactHexFromWrong)

/-- 'laws.FnExactHexText': WHATEVER THE INPUT: true; the input reads as it did. -/
def fnExactHexTextSpec : ChangeSpec := { name := "fnExactHexText", fn := fun _ => fun
  | [d] => { results := [.lit (.bool true)], args := [d] }
  | _ => none }
def fnExactHexTextRow : OpenClaim := { program := "ythpdfolobbacpaa", sum := "2ce5db5ddc34dc41028685ffe588eef68879d9774ed63bc69cf714f1eed47abd", func := "loop.example/proxyframes/laws.FnExactHexText", spec := "fnExactHexText", inPlace := ["internal/abi.NoEscape"], unfollowed := true, recurses := true, apart := false }
def FnExactHexTextSaid : Prop := fnExactHexTextRow.holds Try.pinned (OpenSpec.ofChange fnExactHexTextSpec)

/-- ITS FALSE NEIGHBOUR: 'it returns false'. Refute it at one input. -/
def fnExactHexTextWrong : ChangeSpec := { name := "fnExactHexText", fn := fun _ => fun
  | [d] => { results := [.lit (.bool false)], args := [d] }
  | _ => none }
def FnExactHexTextWrongFalsely : Prop := fnExactHexTextRow.holds Try.pinned (OpenSpec.ofChange fnExactHexTextWrong)

/-- 'laws.FnHexFromNot': WHATEVER THE INPUT: true; the input reads as it did. -/
def fnHexFromNotSpec : ChangeSpec := { name := "fnHexFromNot", fn := fun _ => fun
  | [d] => { results := [.lit (.bool true)], args := [d] }
  | _ => none }
def fnHexFromNotRow : OpenClaim := { program := "ythpdfolobbacpaa", sum := "2ce5db5ddc34dc41028685ffe588eef68879d9774ed63bc69cf714f1eed47abd", func := "loop.example/proxyframes/laws.FnHexFromNot", spec := "fnHexFromNot", inPlace := ["internal/bytealg.IndexByteString"], apart := false }
def FnHexFromNotSaid : Prop := fnHexFromNotRow.holds Try.pinned (OpenSpec.ofChange fnHexFromNotSpec)

/-- ITS FALSE NEIGHBOUR: 'it returns false'. Refute it at one input. -/
def fnHexFromNotWrong : ChangeSpec := { name := "fnHexFromNot", fn := fun _ => fun
  | [d] => { results := [.lit (.bool false)], args := [d] }
  | _ => none }
def FnHexFromNotWrongFalsely : Prop := fnHexFromNotRow.holds Try.pinned (OpenSpec.ofChange fnHexFromNotWrong)

/-- 'laws.FnHexJoin': WHATEVER THE INPUT: true; the input reads as it did. -/
def fnHexJoinSpec : ChangeSpec := { name := "fnHexJoin", fn := fun _ => fun
  | [d1, d2] => { results := [.lit (.bool true)], args := [d1, d2] }
  | _ => none }
def fnHexJoinRow : OpenClaim := { program := "ythpdfolobbacpaa", sum := "2ce5db5ddc34dc41028685ffe588eef68879d9774ed63bc69cf714f1eed47abd", func := "loop.example/proxyframes/laws.FnHexJoin", spec := "fnHexJoin", inPlace := ["internal/bytealg.IndexByteString"], apart := false }
def FnHexJoinSaid : Prop := fnHexJoinRow.holds Try.pinned (OpenSpec.ofChange fnHexJoinSpec)

/-- ITS FALSE NEIGHBOUR: 'it returns false'. Refute it at one input. -/
def fnHexJoinWrong : ChangeSpec := { name := "fnHexJoin", fn := fun _ => fun
  | [d1, d2] => { results := [.lit (.bool false)], args := [d1, d2] }
  | _ => none }
def FnHexJoinWrongFalsely : Prop := fnHexJoinRow.holds Try.pinned (OpenSpec.ofChange fnHexJoinWrong)

/-- 'laws.FnHex': WHATEVER THE INPUT: true; the input reads as it did. -/
def fnHexSpec : ChangeSpec := { name := "fnHex", fn := fun _ => fun
  | [d] => { results := [.lit (.bool true)], args := [d] }
  | _ => none }
def fnHexRow : OpenClaim := { program := "ythpdfolobbacpaa", sum := "2ce5db5ddc34dc41028685ffe588eef68879d9774ed63bc69cf714f1eed47abd", func := "loop.example/proxyframes/laws.FnHex", spec := "fnHex", inPlace := ["internal/abi.NoEscape", "internal/bytealg.IndexByteString"], unfollowed := true, recurses := true, apart := false }
def FnHexSaid : Prop := fnHexRow.holds Try.pinned (OpenSpec.ofChange fnHexSpec)

/-- ITS FALSE NEIGHBOUR: 'it returns false'. Refute it at one input. -/
def fnHexWrong : ChangeSpec := { name := "fnHex", fn := fun _ => fun
  | [d] => { results := [.lit (.bool false)], args := [d] }
  | _ => none }
def FnHexWrongFalsely : Prop := fnHexRow.holds Try.pinned (OpenSpec.ofChange fnHexWrong)

/-- 'laws.FnHexFrom': WHATEVER THE INPUT: true; the input reads as it did. -/
def fnHexFromSpec : ChangeSpec := { name := "fnHexFrom", fn := fun _ => fun
  | [d] => { results := [.lit (.bool true)], args := [d] }
  | _ => none }
def fnHexFromRow : OpenClaim := { program := "ythpdfolobbacpaa", sum := "2ce5db5ddc34dc41028685ffe588eef68879d9774ed63bc69cf714f1eed47abd", func := "loop.example/proxyframes/laws.FnHexFrom", spec := "fnHexFrom", inPlace := ["internal/bytealg.IndexByteString", "internal/abi.NoEscape"], unfollowed := true, recurses := true, apart := false }
def FnHexFromSaid : Prop := fnHexFromRow.holds Try.pinned (OpenSpec.ofChange fnHexFromSpec)

/-- ITS FALSE NEIGHBOUR: 'it returns false'. Refute it at one input. -/
def fnHexFromWrong : ChangeSpec := { name := "fnHexFrom", fn := fun _ => fun
  | [d] => { results := [.lit (.bool false)], args := [d] }
  | _ => none }
def FnHexFromWrongFalsely : Prop := fnHexFromRow.holds Try.pinned (OpenSpec.ofChange fnHexFromWrong)

/- THE SECOND FORM. 'bulk': how many values and letters a reading holds, each counted each time it is reached (what is shared counts as often as it is met; a slice's spare places count too). A statement '..UptoSaid' is the law's where the arguments, and the package variables that the reading takes, are together of bulk at most 1048576: NARROWER than '..Said'. Prove '..Said' where nothing that the law and all that it calls make is longer than what came in: it says more and counts as full. Else prove '..UptoSaid'. A law counts once. -/
mutual
def uptoBulk {H : Type} : DataW H → Nat
  | .lit (.string bytes) => bytes.length + 1
  | .lit _ => 1
  | .nil => 1
  | .ptr d => uptoBulk d + 1
  | .slice elems spare => uptoBulkAll elems + uptoBulkAll spare + 1
  | .agg parts => uptoBulkAll parts + 1
  | .iface _ d => uptoBulk d + 1
  | .map entries => uptoBulkEntries entries + 1
  | .held _ => 1
def uptoBulkAll {H : Type} : List (DataW H) → Nat
  | [] => 0
  | d :: r => uptoBulk d + uptoBulkAll r
def uptoBulkEntries {H : Type} : List (Lit × DataW H) → Nat
  | [] => 0
  | x :: r => uptoBulkEntry x + uptoBulkEntries r
def uptoBulkEntry {H : Type} : Lit × DataW H → Nat
  | (.string bytes, d) => bytes.length + uptoBulk d + 1
  | (_, d) => uptoBulk d + 1
 end
def uptoSmall : (H : Type) → List (DataW H) → Bool := fun _ ds => decide (uptoBulkAll ds ≤ 1048576)
def OpenSpec.upto (s : _root_.Go.ChangeSpec) : _root_.Go.OpenSpec := { _root_.Go.OpenSpec.ofChange s with cond := some uptoSmall }

/-- 'laws.FnExactHexFrom', WHERE WHAT IT READS IS OF BULK AT MOST 1048576: true; the input reads as it did. -/
def fnExactHexFromUptoRow : OpenClaim := { program := "ythpdfolobbacpaa", sum := "2ce5db5ddc34dc41028685ffe588eef68879d9774ed63bc69cf714f1eed47abd", func := "loop.example/proxyframes/laws.FnExactHexFrom", spec := "fnExactHexFrom", inPlace := ["internal/bytealg.IndexByteString"], apart := false, narrowed := true }
def FnExactHexFromUptoSaid : Prop := fnExactHexFromUptoRow.holds Try.pinned (OpenSpec.upto fnExactHexFromSpec)

/-- 'laws.FnExactHexText', WHERE WHAT IT READS IS OF BULK AT MOST 1048576: true; the input reads as it did. -/
def fnExactHexTextUptoRow : OpenClaim := { program := "ythpdfolobbacpaa", sum := "2ce5db5ddc34dc41028685ffe588eef68879d9774ed63bc69cf714f1eed47abd", func := "loop.example/proxyframes/laws.FnExactHexText", spec := "fnExactHexText", inPlace := ["internal/abi.NoEscape"], unfollowed := true, recurses := true, apart := false, narrowed := true }
def FnExactHexTextUptoSaid : Prop := fnExactHexTextUptoRow.holds Try.pinned (OpenSpec.upto fnExactHexTextSpec)

/-- 'laws.FnHexFromNot', WHERE WHAT IT READS IS OF BULK AT MOST 1048576: true; the input reads as it did. -/
def fnHexFromNotUptoRow : OpenClaim := { program := "ythpdfolobbacpaa", sum := "2ce5db5ddc34dc41028685ffe588eef68879d9774ed63bc69cf714f1eed47abd", func := "loop.example/proxyframes/laws.FnHexFromNot", spec := "fnHexFromNot", inPlace := ["internal/bytealg.IndexByteString"], apart := false, narrowed := true }
def FnHexFromNotUptoSaid : Prop := fnHexFromNotUptoRow.holds Try.pinned (OpenSpec.upto fnHexFromNotSpec)

/-- 'laws.FnHexJoin', WHERE WHAT IT READS IS OF BULK AT MOST 1048576: true; the input reads as it did. -/
def fnHexJoinUptoRow : OpenClaim := { program := "ythpdfolobbacpaa", sum := "2ce5db5ddc34dc41028685ffe588eef68879d9774ed63bc69cf714f1eed47abd", func := "loop.example/proxyframes/laws.FnHexJoin", spec := "fnHexJoin", inPlace := ["internal/bytealg.IndexByteString"], apart := false, narrowed := true }
def FnHexJoinUptoSaid : Prop := fnHexJoinUptoRow.holds Try.pinned (OpenSpec.upto fnHexJoinSpec)

/-- 'laws.FnHex', WHERE WHAT IT READS IS OF BULK AT MOST 1048576: true; the input reads as it did. -/
def fnHexUptoRow : OpenClaim := { program := "ythpdfolobbacpaa", sum := "2ce5db5ddc34dc41028685ffe588eef68879d9774ed63bc69cf714f1eed47abd", func := "loop.example/proxyframes/laws.FnHex", spec := "fnHex", inPlace := ["internal/abi.NoEscape", "internal/bytealg.IndexByteString"], unfollowed := true, recurses := true, apart := false, narrowed := true }
def FnHexUptoSaid : Prop := fnHexUptoRow.holds Try.pinned (OpenSpec.upto fnHexSpec)

/-- 'laws.FnHexFrom', WHERE WHAT IT READS IS OF BULK AT MOST 1048576: true; the input reads as it did. -/
def fnHexFromUptoRow : OpenClaim := { program := "ythpdfolobbacpaa", sum := "2ce5db5ddc34dc41028685ffe588eef68879d9774ed63bc69cf714f1eed47abd", func := "loop.example/proxyframes/laws.FnHexFrom", spec := "fnHexFrom", inPlace := ["internal/bytealg.IndexByteString", "internal/abi.NoEscape"], unfollowed := true, recurses := true, apart := false, narrowed := true }
def FnHexFromUptoSaid : Prop := fnHexFromUptoRow.holds Try.pinned (OpenSpec.upto fnHexFromSpec)

end Rows
end Go.Proofs.Ythpdfolobbacpaa
