/-
  NARROWER THAN 'FOR EVERY INPUT', by the rows' own cells (each row's printed sentence says how): FnExactKindText: laid · FnKindNone: laid · FnKindText: laid.
  DERIVED. THE GIVEN ROWS OF THIS SEAT. 3 by the template 'for every input the law returns true; each argument reads behind the call as it read before'; 0 by the template 'total and deterministic' (their statements: YthpdfolobbacpaaDoorTotals.lean).
  GIVEN WITH THE SEED: the statements are not yours to turn. If you find one false, say at which input.
  Laid BY PROGRAM, IN A SANDBOX (cutbox-rows.mjs): the forced cells as the released guide's own fill.sh prints them over the translation e36c2dd971ea5b31… (all of the seat's roots in one cut). By AI agents, Wed Nov 11 2026. No macro, syntax, notation, axiom, sorry.
-/
import Derived.Test.YthpdfolobbacpaaDoorChecked
import GoSem.Claim
import GoSem.ClaimJoined
import GoSem.ClaimMapViews
import Derived.JoinedTies
import Derived.KernelRfl
namespace Go.Proofs.YthpdfolobbacpaaDoor
/- THE CELL 'sum', in the pinned program and in every row, IS THE sha256 OF THE DUMP (.gsa) THAT YthpdfolobbacpaaDoorProg.lean LOADS. Nothing in Lean hashes anything: it is a label: what it is worth is what the hold of that sum in a sandbox is worth. -/
noncomputable def Tryd.pinned : Pinned := { name := "ythpdfolobbacpaadoor", sum := "e36c2dd971ea5b31b99f64d06874cdf8becbe6083367a66c21ecaaea03ff3070", checked := Tryd.checked }
namespace Rows
def none {H : Type} : Left H := { results := [], args := [] }

/- WHAT THE LISTED PACKAGE-LEVEL VARIABLES READ AS WHEN THE CALL BEGINS. Each datum BY PROGRAM (the guide's laid-datum.mjs) off the statement by which the dump's own 'gosem.cut.vars' lays the variable. In a bare row this is a premise. The card (YthpdfolobbacpaaDoorCards.lean) ties it to the program's text. -/
def laid_loop_example_proxyframes_impl_kindTexts {H : Type} : DataW H := .agg [.lit (.string [109, 111, 114, 101]), .lit (.string [111, 108, 100]), .lit (.string [104, 101, 108, 108, 111]), .lit (.string [116, 117, 110, 110, 101, 108]), .lit (.string [108, 105, 110, 101]), .lit (.string [104, 101, 97, 100]), .lit (.string [111, 116, 104, 101, 114])]

/-- 'laws.FnExactKindText': WHATEVER THE INPUT: true; the input reads as it did. -/
def fnExactKindTextSpec : ChangeSpec := { name := "fnExactKindText", vars := ["loop.example/proxyframes/impl.kindTexts"], fn := fun _ => fun
  | [d, g1] => { results := [.lit (.bool true)], args := [d], vars := [g1] }
  | _ => none }
def fnExactKindTextRow : OpenClaim := { program := "ythpdfolobbacpaadoor", sum := "e36c2dd971ea5b31b99f64d06874cdf8becbe6083367a66c21ecaaea03ff3070", func := "loop.example/proxyframes/laws.FnExactKindText", spec := "fnExactKindText", named := ["loop.example/proxyframes/impl.kindTexts"], apart := false, laid := [("loop.example/proxyframes/impl.kindTexts", laid_loop_example_proxyframes_impl_kindTexts)] }
def FnExactKindTextSaid : Prop := fnExactKindTextRow.holds Tryd.pinned (OpenSpec.ofChange fnExactKindTextSpec)

/-- ITS FALSE NEIGHBOUR: 'it returns false'. Refute it at one input. -/
def fnExactKindTextWrong : ChangeSpec := { name := "fnExactKindText", vars := ["loop.example/proxyframes/impl.kindTexts"], fn := fun _ => fun
  | [d, g1] => { results := [.lit (.bool false)], args := [d], vars := [g1] }
  | _ => none }
def FnExactKindTextWrongFalsely : Prop := fnExactKindTextRow.holds Tryd.pinned (OpenSpec.ofChange fnExactKindTextWrong)

/-- 'laws.FnKindNone': WHATEVER THE INPUT: true; the input reads as it did. -/
def fnKindNoneSpec : ChangeSpec := { name := "fnKindNone", vars := ["loop.example/proxyframes/impl.kindTexts"], fn := fun _ => fun
  | [d, g1] => { results := [.lit (.bool true)], args := [d], vars := [g1] }
  | _ => none }
def fnKindNoneRow : OpenClaim := { program := "ythpdfolobbacpaadoor", sum := "e36c2dd971ea5b31b99f64d06874cdf8becbe6083367a66c21ecaaea03ff3070", func := "loop.example/proxyframes/laws.FnKindNone", spec := "fnKindNone", named := ["loop.example/proxyframes/impl.kindTexts"], apart := false, laid := [("loop.example/proxyframes/impl.kindTexts", laid_loop_example_proxyframes_impl_kindTexts)] }
def FnKindNoneSaid : Prop := fnKindNoneRow.holds Tryd.pinned (OpenSpec.ofChange fnKindNoneSpec)

/-- ITS FALSE NEIGHBOUR: 'it returns false'. Refute it at one input. -/
def fnKindNoneWrong : ChangeSpec := { name := "fnKindNone", vars := ["loop.example/proxyframes/impl.kindTexts"], fn := fun _ => fun
  | [d, g1] => { results := [.lit (.bool false)], args := [d], vars := [g1] }
  | _ => none }
def FnKindNoneWrongFalsely : Prop := fnKindNoneRow.holds Tryd.pinned (OpenSpec.ofChange fnKindNoneWrong)

/-- 'laws.FnKindText': WHATEVER THE INPUT: true; the input reads as it did. -/
def fnKindTextSpec : ChangeSpec := { name := "fnKindText", vars := ["loop.example/proxyframes/impl.kindTexts"], fn := fun _ => fun
  | [d, g1] => { results := [.lit (.bool true)], args := [d], vars := [g1] }
  | _ => none }
def fnKindTextRow : OpenClaim := { program := "ythpdfolobbacpaadoor", sum := "e36c2dd971ea5b31b99f64d06874cdf8becbe6083367a66c21ecaaea03ff3070", func := "loop.example/proxyframes/laws.FnKindText", spec := "fnKindText", named := ["loop.example/proxyframes/impl.kindTexts"], apart := false, laid := [("loop.example/proxyframes/impl.kindTexts", laid_loop_example_proxyframes_impl_kindTexts)] }
def FnKindTextSaid : Prop := fnKindTextRow.holds Tryd.pinned (OpenSpec.ofChange fnKindTextSpec)

/-- ITS FALSE NEIGHBOUR: 'it returns false'. Refute it at one input. -/
def fnKindTextWrong : ChangeSpec := { name := "fnKindText", vars := ["loop.example/proxyframes/impl.kindTexts"], fn := fun _ => fun
  | [d, g1] => { results := [.lit (.bool false)], args := [d], vars := [g1] }
  | _ => none }
def FnKindTextWrongFalsely : Prop := fnKindTextRow.holds Tryd.pinned (OpenSpec.ofChange fnKindTextWrong)

/- THE SECOND FORM. 'bulk': how many values and letters a reading holds, each counted each time it is reached (what is shared counts as often as it is met; a slice's spare places count too). A statement '..UptoSaid' is the law's where the arguments, and the package variables that the reading takes, are together of bulk at most 1048576: NARROWER than '..Said'. Prove '..Said' where nothing that the law and all that it calls make is longer than what came in: it says more and counts as full. Else prove '..UptoSaid'. A law counts once. -/
mutual
def uptoBulk {H : Type} : DataW H → Nat
  | .lit (.string bytes) => bytes.length + 1
  | .lit _ => 1
  | .nil => 1
  | .ptr d => uptoBulk d + 1
  | .slice elems spare => uptoBulkAll elems + uptoBulkAll spare + 1
  | .agg parts => uptoBulkAll parts + 1
  | .iface _ d => uptoBulk d + 1
  | .map entries => uptoBulkEntries entries + 1
  | .held _ => 1
def uptoBulkAll {H : Type} : List (DataW H) → Nat
  | [] => 0
  | d :: r => uptoBulk d + uptoBulkAll r
def uptoBulkEntries {H : Type} : List (Lit × DataW H) → Nat
  | [] => 0
  | x :: r => uptoBulkEntry x + uptoBulkEntries r
def uptoBulkEntry {H : Type} : Lit × DataW H → Nat
  | (.string bytes, d) => bytes.length + uptoBulk d + 1
  | (_, d) => uptoBulk d + 1
 end
def uptoSmall : (H : Type) → List (DataW H) → Bool := fun _ ds => decide (uptoBulkAll ds ≤ 1048576)
def OpenSpec.upto (s : _root_.Go.ChangeSpec) : _root_.Go.OpenSpec := { _root_.Go.OpenSpec.ofChange s with cond := some uptoSmall }

/-- 'laws.FnExactKindText', WHERE WHAT IT READS IS OF BULK AT MOST 1048576: true; the input reads as it did. -/
def fnExactKindTextUptoRow : OpenClaim := { program := "ythpdfolobbacpaadoor", sum := "e36c2dd971ea5b31b99f64d06874cdf8becbe6083367a66c21ecaaea03ff3070", func := "loop.example/proxyframes/laws.FnExactKindText", spec := "fnExactKindText", named := ["loop.example/proxyframes/impl.kindTexts"], apart := false, laid := [("loop.example/proxyframes/impl.kindTexts", laid_loop_example_proxyframes_impl_kindTexts)], narrowed := true }
def FnExactKindTextUptoSaid : Prop := fnExactKindTextUptoRow.holds Tryd.pinned (OpenSpec.upto fnExactKindTextSpec)

/-- 'laws.FnKindNone', WHERE WHAT IT READS IS OF BULK AT MOST 1048576: true; the input reads as it did. -/
def fnKindNoneUptoRow : OpenClaim := { program := "ythpdfolobbacpaadoor", sum := "e36c2dd971ea5b31b99f64d06874cdf8becbe6083367a66c21ecaaea03ff3070", func := "loop.example/proxyframes/laws.FnKindNone", spec := "fnKindNone", named := ["loop.example/proxyframes/impl.kindTexts"], apart := false, laid := [("loop.example/proxyframes/impl.kindTexts", laid_loop_example_proxyframes_impl_kindTexts)], narrowed := true }
def FnKindNoneUptoSaid : Prop := fnKindNoneUptoRow.holds Tryd.pinned (OpenSpec.upto fnKindNoneSpec)

/-- 'laws.FnKindText', WHERE WHAT IT READS IS OF BULK AT MOST 1048576: true; the input reads as it did. -/
def fnKindTextUptoRow : OpenClaim := { program := "ythpdfolobbacpaadoor", sum := "e36c2dd971ea5b31b99f64d06874cdf8becbe6083367a66c21ecaaea03ff3070", func := "loop.example/proxyframes/laws.FnKindText", spec := "fnKindText", named := ["loop.example/proxyframes/impl.kindTexts"], apart := false, laid := [("loop.example/proxyframes/impl.kindTexts", laid_loop_example_proxyframes_impl_kindTexts)], narrowed := true }
def FnKindTextUptoSaid : Prop := fnKindTextUptoRow.holds Tryd.pinned (OpenSpec.upto fnKindTextSpec)

end Rows
end Go.Proofs.YthpdfolobbacpaaDoor
