/-
  No cell of these rows narrows 'for every input' (looked for: loops, veiled, ifaces, maps, wideKeys, modest, calm, conditions, laid).
  DERIVED. THE GIVEN ROWS OF THIS SEAT. 13 by the template 'for every input the law returns true; each argument reads behind the call as it read before'; 0 by the template 'total and deterministic' (their statements: YtgefaejgkcbkpaaTotals.lean).
  GIVEN WITH THE SEED: the statements are not yours to turn. If you find one false, say at which input.
  Laid BY PROGRAM, IN A SANDBOX (cutbox-rows.mjs): the forced cells as the released guide's own fill.sh prints them over the translation e1d39f49f5e3f94a… (all of the seat's roots in one cut). By AI agents, Wed Nov 11 2026. No macro, syntax, notation, axiom, sorry.
-/
import Derived.Test.YtgefaejgkcbkpaaChecked
import GoSem.Claim
import GoSem.ClaimJoined
import GoSem.ClaimMapViews
import Derived.JoinedTies
import Derived.KernelRfl
namespace Go.Proofs.Ytgefaejgkcbkpaa
/- THE CELL 'sum', in the pinned program and in every row, IS THE sha256 OF THE DUMP (.gsa) THAT YtgefaejgkcbkpaaProg.lean LOADS. Nothing in Lean hashes anything: it is a label: what it is worth is what the hold of that sum in a sandbox is worth. -/
noncomputable def Try.pinned : Pinned := { name := "ytgefaejgkcbkpaa", sum := "e1d39f49f5e3f94af548d385e260f13db256ba35f90869c9894e279fcb44fce6", checked := Try.checked }
namespace Rows
def none {H : Type} : Left H := { results := [], args := [] }

/-- 'laws.FnPipePart': WHATEVER THE INPUT: true; the input reads as it did. -/
def fnPipePartSpec : ChangeSpec := { name := "fnPipePart", fn := fun _ => fun
  | [d] => { results := [.lit (.bool true)], args := [d] }
  | _ => none }
def fnPipePartRow : OpenClaim := { program := "ytgefaejgkcbkpaa", sum := "e1d39f49f5e3f94af548d385e260f13db256ba35f90869c9894e279fcb44fce6", func := "loop.example/proxyframes/laws.FnPipePart", spec := "fnPipePart", unfollowed := true, recurses := true, apart := false }
def FnPipePartSaid : Prop := fnPipePartRow.holds Try.pinned (OpenSpec.ofChange fnPipePartSpec)

/-- ITS FALSE NEIGHBOUR: 'it returns false'. Refute it at one input. -/
def fnPipePartWrong : ChangeSpec := { name := "fnPipePart", fn := fun _ => fun
  | [d] => { results := [.lit (.bool false)], args := [d] }
  | _ => none }
def FnPipePartWrongFalsely : Prop := fnPipePartRow.holds Try.pinned (OpenSpec.ofChange fnPipePartWrong)

/-- 'laws.FnExactPipeValid': WHATEVER THE INPUT: true; the input reads as it did. -/
def fnExactPipeValidSpec : ChangeSpec := { name := "fnExactPipeValid", fn := fun _ => fun
  | [d] => { results := [.lit (.bool true)], args := [d] }
  | _ => none }
def fnExactPipeValidRow : OpenClaim := { program := "ytgefaejgkcbkpaa", sum := "e1d39f49f5e3f94af548d385e260f13db256ba35f90869c9894e279fcb44fce6", func := "loop.example/proxyframes/laws.FnExactPipeValid", spec := "fnExactPipeValid", unfollowed := true, recurses := true, apart := false }
def FnExactPipeValidSaid : Prop := fnExactPipeValidRow.holds Try.pinned (OpenSpec.ofChange fnExactPipeValidSpec)

/-- ITS FALSE NEIGHBOUR: 'it returns false'. Refute it at one input. -/
def fnExactPipeValidWrong : ChangeSpec := { name := "fnExactPipeValid", fn := fun _ => fun
  | [d] => { results := [.lit (.bool false)], args := [d] }
  | _ => none }
def FnExactPipeValidWrongFalsely : Prop := fnExactPipeValidRow.holds Try.pinned (OpenSpec.ofChange fnExactPipeValidWrong)

/-- 'laws.FnPipeGet': WHATEVER THE INPUT: true; the input reads as it did. -/
def fnPipeGetSpec : ChangeSpec := { name := "fnPipeGet", fn := fun _ => fun
  | [d] => { results := [.lit (.bool true)], args := [d] }
  | _ => none }
def fnPipeGetRow : OpenClaim := { program := "ytgefaejgkcbkpaa", sum := "e1d39f49f5e3f94af548d385e260f13db256ba35f90869c9894e279fcb44fce6", func := "loop.example/proxyframes/laws.FnPipeGet", spec := "fnPipeGet", unfollowed := true, recurses := true, apart := false }
def FnPipeGetSaid : Prop := fnPipeGetRow.holds Try.pinned (OpenSpec.ofChange fnPipeGetSpec)

/-- ITS FALSE NEIGHBOUR: 'it returns false'. Refute it at one input. -/
def fnPipeGetWrong : ChangeSpec := { name := "fnPipeGet", fn := fun _ => fun
  | [d] => { results := [.lit (.bool false)], args := [d] }
  | _ => none }
def FnPipeGetWrongFalsely : Prop := fnPipeGetRow.holds Try.pinned (OpenSpec.ofChange fnPipeGetWrong)

/-- 'laws.FnPipeGetMost': WHATEVER THE INPUT: true; the input reads as it did. -/
def fnPipeGetMostSpec : ChangeSpec := { name := "fnPipeGetMost", fn := fun _ => fun
  | [d] => { results := [.lit (.bool true)], args := [d] }
  | _ => none }
def fnPipeGetMostRow : OpenClaim := { program := "ytgefaejgkcbkpaa", sum := "e1d39f49f5e3f94af548d385e260f13db256ba35f90869c9894e279fcb44fce6", func := "loop.example/proxyframes/laws.FnPipeGetMost", spec := "fnPipeGetMost", unfollowed := true, recurses := true, apart := false }
def FnPipeGetMostSaid : Prop := fnPipeGetMostRow.holds Try.pinned (OpenSpec.ofChange fnPipeGetMostSpec)

/-- ITS FALSE NEIGHBOUR: 'it returns false'. Refute it at one input. -/
def fnPipeGetMostWrong : ChangeSpec := { name := "fnPipeGetMost", fn := fun _ => fun
  | [d] => { results := [.lit (.bool false)], args := [d] }
  | _ => none }
def FnPipeGetMostWrongFalsely : Prop := fnPipeGetMostRow.holds Try.pinned (OpenSpec.ofChange fnPipeGetMostWrong)

/-- 'laws.FnPipeGetOn': WHATEVER THE INPUT: true; the input reads as it did. -/
def fnPipeGetOnSpec : ChangeSpec := { name := "fnPipeGetOn", fn := fun _ => fun
  | [d1, d2] => { results := [.lit (.bool true)], args := [d1, d2] }
  | _ => none }
def fnPipeGetOnRow : OpenClaim := { program := "ytgefaejgkcbkpaa", sum := "e1d39f49f5e3f94af548d385e260f13db256ba35f90869c9894e279fcb44fce6", func := "loop.example/proxyframes/laws.FnPipeGetOn", spec := "fnPipeGetOn", unfollowed := true, recurses := true, apart := false }
def FnPipeGetOnSaid : Prop := fnPipeGetOnRow.holds Try.pinned (OpenSpec.ofChange fnPipeGetOnSpec)

/-- ITS FALSE NEIGHBOUR: 'it returns false'. Refute it at one input. -/
def fnPipeGetOnWrong : ChangeSpec := { name := "fnPipeGetOn", fn := fun _ => fun
  | [d1, d2] => { results := [.lit (.bool false)], args := [d1, d2] }
  | _ => none }
def FnPipeGetOnWrongFalsely : Prop := fnPipeGetOnRow.holds Try.pinned (OpenSpec.ofChange fnPipeGetOnWrong)

/-- 'laws.FnExactPipeEnd': WHATEVER THE INPUT: true; the input reads as it did. -/
def fnExactPipeEndSpec : ChangeSpec := { name := "fnExactPipeEnd", fn := fun _ => fun
  | [d] => { results := [.lit (.bool true)], args := [d] }
  | _ => none }
def fnExactPipeEndRow : OpenClaim := { program := "ytgefaejgkcbkpaa", sum := "e1d39f49f5e3f94af548d385e260f13db256ba35f90869c9894e279fcb44fce6", func := "loop.example/proxyframes/laws.FnExactPipeEnd", spec := "fnExactPipeEnd", unfollowed := true, recurses := true, apart := false }
def FnExactPipeEndSaid : Prop := fnExactPipeEndRow.holds Try.pinned (OpenSpec.ofChange fnExactPipeEndSpec)

/-- ITS FALSE NEIGHBOUR: 'it returns false'. Refute it at one input. -/
def fnExactPipeEndWrong : ChangeSpec := { name := "fnExactPipeEnd", fn := fun _ => fun
  | [d] => { results := [.lit (.bool false)], args := [d] }
  | _ => none }
def FnExactPipeEndWrongFalsely : Prop := fnExactPipeEndRow.holds Try.pinned (OpenSpec.ofChange fnExactPipeEndWrong)

/-- 'laws.FnExactPipeGet': WHATEVER THE INPUT: true; the input reads as it did. -/
def fnExactPipeGetSpec : ChangeSpec := { name := "fnExactPipeGet", fn := fun _ => fun
  | [d1, d2] => { results := [.lit (.bool true)], args := [d1, d2] }
  | _ => none }
def fnExactPipeGetRow : OpenClaim := { program := "ytgefaejgkcbkpaa", sum := "e1d39f49f5e3f94af548d385e260f13db256ba35f90869c9894e279fcb44fce6", func := "loop.example/proxyframes/laws.FnExactPipeGet", spec := "fnExactPipeGet", unfollowed := true, recurses := true, apart := false }
def FnExactPipeGetSaid : Prop := fnExactPipeGetRow.holds Try.pinned (OpenSpec.ofChange fnExactPipeGetSpec)

/-- ITS FALSE NEIGHBOUR: 'it returns false'. Refute it at one input. -/
def fnExactPipeGetWrong : ChangeSpec := { name := "fnExactPipeGet", fn := fun _ => fun
  | [d1, d2] => { results := [.lit (.bool false)], args := [d1, d2] }
  | _ => none }
def FnExactPipeGetWrongFalsely : Prop := fnExactPipeGetRow.holds Try.pinned (OpenSpec.ofChange fnExactPipeGetWrong)

/-- 'laws.FnPipePutEmpty': WHATEVER THE INPUT: true; the input reads as it did. -/
def fnPipePutEmptySpec : ChangeSpec := { name := "fnPipePutEmpty", fn := fun _ => fun
  | [d] => { results := [.lit (.bool true)], args := [d] }
  | _ => none }
def fnPipePutEmptyRow : OpenClaim := { program := "ytgefaejgkcbkpaa", sum := "e1d39f49f5e3f94af548d385e260f13db256ba35f90869c9894e279fcb44fce6", func := "loop.example/proxyframes/laws.FnPipePutEmpty", spec := "fnPipePutEmpty", unfollowed := true, recurses := true, apart := false }
def FnPipePutEmptySaid : Prop := fnPipePutEmptyRow.holds Try.pinned (OpenSpec.ofChange fnPipePutEmptySpec)

/-- ITS FALSE NEIGHBOUR: 'it returns false'. Refute it at one input. -/
def fnPipePutEmptyWrong : ChangeSpec := { name := "fnPipePutEmpty", fn := fun _ => fun
  | [d] => { results := [.lit (.bool false)], args := [d] }
  | _ => none }
def FnPipePutEmptyWrongFalsely : Prop := fnPipePutEmptyRow.holds Try.pinned (OpenSpec.ofChange fnPipePutEmptyWrong)

/-- 'laws.FnPipePutRoom': WHATEVER THE INPUT: true; the input reads as it did. -/
def fnPipePutRoomSpec : ChangeSpec := { name := "fnPipePutRoom", fn := fun _ => fun
  | [d] => { results := [.lit (.bool true)], args := [d] }
  | _ => none }
def fnPipePutRoomRow : OpenClaim := { program := "ytgefaejgkcbkpaa", sum := "e1d39f49f5e3f94af548d385e260f13db256ba35f90869c9894e279fcb44fce6", func := "loop.example/proxyframes/laws.FnPipePutRoom", spec := "fnPipePutRoom", unfollowed := true, recurses := true, apart := false }
def FnPipePutRoomSaid : Prop := fnPipePutRoomRow.holds Try.pinned (OpenSpec.ofChange fnPipePutRoomSpec)

/-- ITS FALSE NEIGHBOUR: 'it returns false'. Refute it at one input. -/
def fnPipePutRoomWrong : ChangeSpec := { name := "fnPipePutRoom", fn := fun _ => fun
  | [d] => { results := [.lit (.bool false)], args := [d] }
  | _ => none }
def FnPipePutRoomWrongFalsely : Prop := fnPipePutRoomRow.holds Try.pinned (OpenSpec.ofChange fnPipePutRoomWrong)

/-- 'laws.FnPipePut': WHATEVER THE INPUT: true; the input reads as it did. -/
def fnPipePutSpec : ChangeSpec := { name := "fnPipePut", fn := fun _ => fun
  | [d] => { results := [.lit (.bool true)], args := [d] }
  | _ => none }
def fnPipePutRow : OpenClaim := { program := "ytgefaejgkcbkpaa", sum := "e1d39f49f5e3f94af548d385e260f13db256ba35f90869c9894e279fcb44fce6", func := "loop.example/proxyframes/laws.FnPipePut", spec := "fnPipePut", unfollowed := true, recurses := true, apart := false }
def FnPipePutSaid : Prop := fnPipePutRow.holds Try.pinned (OpenSpec.ofChange fnPipePutSpec)

/-- ITS FALSE NEIGHBOUR: 'it returns false'. Refute it at one input. -/
def fnPipePutWrong : ChangeSpec := { name := "fnPipePut", fn := fun _ => fun
  | [d] => { results := [.lit (.bool false)], args := [d] }
  | _ => none }
def FnPipePutWrongFalsely : Prop := fnPipePutRow.holds Try.pinned (OpenSpec.ofChange fnPipePutWrong)

/-- 'laws.FnPipeEnd': WHATEVER THE INPUT: true; the input reads as it did. -/
def fnPipeEndSpec : ChangeSpec := { name := "fnPipeEnd", fn := fun _ => fun
  | [d] => { results := [.lit (.bool true)], args := [d] }
  | _ => none }
def fnPipeEndRow : OpenClaim := { program := "ytgefaejgkcbkpaa", sum := "e1d39f49f5e3f94af548d385e260f13db256ba35f90869c9894e279fcb44fce6", func := "loop.example/proxyframes/laws.FnPipeEnd", spec := "fnPipeEnd", unfollowed := true, recurses := true, apart := false }
def FnPipeEndSaid : Prop := fnPipeEndRow.holds Try.pinned (OpenSpec.ofChange fnPipeEndSpec)

/-- ITS FALSE NEIGHBOUR: 'it returns false'. Refute it at one input. -/
def fnPipeEndWrong : ChangeSpec := { name := "fnPipeEnd", fn := fun _ => fun
  | [d] => { results := [.lit (.bool false)], args := [d] }
  | _ => none }
def FnPipeEndWrongFalsely : Prop := fnPipeEndRow.holds Try.pinned (OpenSpec.ofChange fnPipeEndWrong)

/-- 'laws.FnPipePutGet': WHATEVER THE INPUT: true; the input reads as it did. -/
def fnPipePutGetSpec : ChangeSpec := { name := "fnPipePutGet", fn := fun _ => fun
  | [d] => { results := [.lit (.bool true)], args := [d] }
  | _ => none }
def fnPipePutGetRow : OpenClaim := { program := "ytgefaejgkcbkpaa", sum := "e1d39f49f5e3f94af548d385e260f13db256ba35f90869c9894e279fcb44fce6", func := "loop.example/proxyframes/laws.FnPipePutGet", spec := "fnPipePutGet", unfollowed := true, recurses := true, apart := false }
def FnPipePutGetSaid : Prop := fnPipePutGetRow.holds Try.pinned (OpenSpec.ofChange fnPipePutGetSpec)

/-- ITS FALSE NEIGHBOUR: 'it returns false'. Refute it at one input. -/
def fnPipePutGetWrong : ChangeSpec := { name := "fnPipePutGet", fn := fun _ => fun
  | [d] => { results := [.lit (.bool false)], args := [d] }
  | _ => none }
def FnPipePutGetWrongFalsely : Prop := fnPipePutGetRow.holds Try.pinned (OpenSpec.ofChange fnPipePutGetWrong)

/-- 'laws.FnExactPipePut': WHATEVER THE INPUT: true; the input reads as it did. -/
def fnExactPipePutSpec : ChangeSpec := { name := "fnExactPipePut", fn := fun _ => fun
  | [d1, d2] => { results := [.lit (.bool true)], args := [d1, d2] }
  | _ => none }
def fnExactPipePutRow : OpenClaim := { program := "ytgefaejgkcbkpaa", sum := "e1d39f49f5e3f94af548d385e260f13db256ba35f90869c9894e279fcb44fce6", func := "loop.example/proxyframes/laws.FnExactPipePut", spec := "fnExactPipePut", unfollowed := true, recurses := true, apart := false }
def FnExactPipePutSaid : Prop := fnExactPipePutRow.holds Try.pinned (OpenSpec.ofChange fnExactPipePutSpec)

/-- ITS FALSE NEIGHBOUR: 'it returns false'. Refute it at one input. -/
def fnExactPipePutWrong : ChangeSpec := { name := "fnExactPipePut", fn := fun _ => fun
  | [d1, d2] => { results := [.lit (.bool false)], args := [d1, d2] }
  | _ => none }
def FnExactPipePutWrongFalsely : Prop := fnExactPipePutRow.holds Try.pinned (OpenSpec.ofChange fnExactPipePutWrong)

/- THE SECOND FORM. 'bulk': how many values and letters a reading holds, each counted each time it is reached (what is shared counts as often as it is met; a slice's spare places count too). A statement '..UptoSaid' is the law's where the arguments, and the package variables that the reading takes, are together of bulk at most 1048576: NARROWER than '..Said'. Prove '..Said' where nothing that the law and all that it calls make is longer than what came in: it says more and counts as full. Else prove '..UptoSaid'. A law counts once. -/
mutual
def uptoBulk {H : Type} : DataW H → Nat
  | .lit (.string bytes) => bytes.length + 1
  | .lit _ => 1
  | .nil => 1
  | .ptr d => uptoBulk d + 1
  | .slice elems spare => uptoBulkAll elems + uptoBulkAll spare + 1
  | .agg parts => uptoBulkAll parts + 1
  | .iface _ d => uptoBulk d + 1
  | .map entries => uptoBulkEntries entries + 1
  | .held _ => 1
def uptoBulkAll {H : Type} : List (DataW H) → Nat
  | [] => 0
  | d :: r => uptoBulk d + uptoBulkAll r
def uptoBulkEntries {H : Type} : List (Lit × DataW H) → Nat
  | [] => 0
  | x :: r => uptoBulkEntry x + uptoBulkEntries r
def uptoBulkEntry {H : Type} : Lit × DataW H → Nat
  | (.string bytes, d) => bytes.length + uptoBulk d + 1
  | (_, d) => uptoBulk d + 1
 end
def uptoSmall : (H : Type) → List (DataW H) → Bool := fun _ ds => decide (uptoBulkAll ds ≤ 1048576)
def OpenSpec.upto (s : _root_.Go.ChangeSpec) : _root_.Go.OpenSpec := { _root_.Go.OpenSpec.ofChange s with cond := some uptoSmall }

/-- 'laws.FnPipePart', WHERE WHAT IT READS IS OF BULK AT MOST 1048576: true; the input reads as it did. -/
def fnPipePartUptoRow : OpenClaim := { program := "ytgefaejgkcbkpaa", sum := "e1d39f49f5e3f94af548d385e260f13db256ba35f90869c9894e279fcb44fce6", func := "loop.example/proxyframes/laws.FnPipePart", spec := "fnPipePart", unfollowed := true, recurses := true, apart := false, narrowed := true }
def FnPipePartUptoSaid : Prop := fnPipePartUptoRow.holds Try.pinned (OpenSpec.upto fnPipePartSpec)

/-- 'laws.FnExactPipeValid', WHERE WHAT IT READS IS OF BULK AT MOST 1048576: true; the input reads as it did. -/
def fnExactPipeValidUptoRow : OpenClaim := { program := "ytgefaejgkcbkpaa", sum := "e1d39f49f5e3f94af548d385e260f13db256ba35f90869c9894e279fcb44fce6", func := "loop.example/proxyframes/laws.FnExactPipeValid", spec := "fnExactPipeValid", unfollowed := true, recurses := true, apart := false, narrowed := true }
def FnExactPipeValidUptoSaid : Prop := fnExactPipeValidUptoRow.holds Try.pinned (OpenSpec.upto fnExactPipeValidSpec)

/-- 'laws.FnPipeGet', WHERE WHAT IT READS IS OF BULK AT MOST 1048576: true; the input reads as it did. -/
def fnPipeGetUptoRow : OpenClaim := { program := "ytgefaejgkcbkpaa", sum := "e1d39f49f5e3f94af548d385e260f13db256ba35f90869c9894e279fcb44fce6", func := "loop.example/proxyframes/laws.FnPipeGet", spec := "fnPipeGet", unfollowed := true, recurses := true, apart := false, narrowed := true }
def FnPipeGetUptoSaid : Prop := fnPipeGetUptoRow.holds Try.pinned (OpenSpec.upto fnPipeGetSpec)

/-- 'laws.FnPipeGetMost', WHERE WHAT IT READS IS OF BULK AT MOST 1048576: true; the input reads as it did. -/
def fnPipeGetMostUptoRow : OpenClaim := { program := "ytgefaejgkcbkpaa", sum := "e1d39f49f5e3f94af548d385e260f13db256ba35f90869c9894e279fcb44fce6", func := "loop.example/proxyframes/laws.FnPipeGetMost", spec := "fnPipeGetMost", unfollowed := true, recurses := true, apart := false, narrowed := true }
def FnPipeGetMostUptoSaid : Prop := fnPipeGetMostUptoRow.holds Try.pinned (OpenSpec.upto fnPipeGetMostSpec)

/-- 'laws.FnPipeGetOn', WHERE WHAT IT READS IS OF BULK AT MOST 1048576: true; the input reads as it did. -/
def fnPipeGetOnUptoRow : OpenClaim := { program := "ytgefaejgkcbkpaa", sum := "e1d39f49f5e3f94af548d385e260f13db256ba35f90869c9894e279fcb44fce6", func := "loop.example/proxyframes/laws.FnPipeGetOn", spec := "fnPipeGetOn", unfollowed := true, recurses := true, apart := false, narrowed := true }
def FnPipeGetOnUptoSaid : Prop := fnPipeGetOnUptoRow.holds Try.pinned (OpenSpec.upto fnPipeGetOnSpec)

/-- 'laws.FnExactPipeEnd', WHERE WHAT IT READS IS OF BULK AT MOST 1048576: true; the input reads as it did. -/
def fnExactPipeEndUptoRow : OpenClaim := { program := "ytgefaejgkcbkpaa", sum := "e1d39f49f5e3f94af548d385e260f13db256ba35f90869c9894e279fcb44fce6", func := "loop.example/proxyframes/laws.FnExactPipeEnd", spec := "fnExactPipeEnd", unfollowed := true, recurses := true, apart := false, narrowed := true }
def FnExactPipeEndUptoSaid : Prop := fnExactPipeEndUptoRow.holds Try.pinned (OpenSpec.upto fnExactPipeEndSpec)

/-- 'laws.FnExactPipeGet', WHERE WHAT IT READS IS OF BULK AT MOST 1048576: true; the input reads as it did. -/
def fnExactPipeGetUptoRow : OpenClaim := { program := "ytgefaejgkcbkpaa", sum := "e1d39f49f5e3f94af548d385e260f13db256ba35f90869c9894e279fcb44fce6", func := "loop.example/proxyframes/laws.FnExactPipeGet", spec := "fnExactPipeGet", unfollowed := true, recurses := true, apart := false, narrowed := true }
def FnExactPipeGetUptoSaid : Prop := fnExactPipeGetUptoRow.holds Try.pinned (OpenSpec.upto fnExactPipeGetSpec)

/-- 'laws.FnPipePutEmpty', WHERE WHAT IT READS IS OF BULK AT MOST 1048576: true; the input reads as it did. -/
def fnPipePutEmptyUptoRow : OpenClaim := { program := "ytgefaejgkcbkpaa", sum := "e1d39f49f5e3f94af548d385e260f13db256ba35f90869c9894e279fcb44fce6", func := "loop.example/proxyframes/laws.FnPipePutEmpty", spec := "fnPipePutEmpty", unfollowed := true, recurses := true, apart := false, narrowed := true }
def FnPipePutEmptyUptoSaid : Prop := fnPipePutEmptyUptoRow.holds Try.pinned (OpenSpec.upto fnPipePutEmptySpec)

/-- 'laws.FnPipePutRoom', WHERE WHAT IT READS IS OF BULK AT MOST 1048576: true; the input reads as it did. -/
def fnPipePutRoomUptoRow : OpenClaim := { program := "ytgefaejgkcbkpaa", sum := "e1d39f49f5e3f94af548d385e260f13db256ba35f90869c9894e279fcb44fce6", func := "loop.example/proxyframes/laws.FnPipePutRoom", spec := "fnPipePutRoom", unfollowed := true, recurses := true, apart := false, narrowed := true }
def FnPipePutRoomUptoSaid : Prop := fnPipePutRoomUptoRow.holds Try.pinned (OpenSpec.upto fnPipePutRoomSpec)

/-- 'laws.FnPipePut', WHERE WHAT IT READS IS OF BULK AT MOST 1048576: true; the input reads as it did. -/
def fnPipePutUptoRow : OpenClaim := { program := "ytgefaejgkcbkpaa", sum := "e1d39f49f5e3f94af548d385e260f13db256ba35f90869c9894e279fcb44fce6", func := "loop.example/proxyframes/laws.FnPipePut", spec := "fnPipePut", unfollowed := true, recurses := true, apart := false, narrowed := true }
def FnPipePutUptoSaid : Prop := fnPipePutUptoRow.holds Try.pinned (OpenSpec.upto fnPipePutSpec)

/-- 'laws.FnPipeEnd', WHERE WHAT IT READS IS OF BULK AT MOST 1048576: true; the input reads as it did. -/
def fnPipeEndUptoRow : OpenClaim := { program := "ytgefaejgkcbkpaa", sum := "e1d39f49f5e3f94af548d385e260f13db256ba35f90869c9894e279fcb44fce6", func := "loop.example/proxyframes/laws.FnPipeEnd", spec := "fnPipeEnd", unfollowed := true, recurses := true, apart := false, narrowed := true }
def FnPipeEndUptoSaid : Prop := fnPipeEndUptoRow.holds Try.pinned (OpenSpec.upto fnPipeEndSpec)

/-- 'laws.FnPipePutGet', WHERE WHAT IT READS IS OF BULK AT MOST 1048576: true; the input reads as it did. -/
def fnPipePutGetUptoRow : OpenClaim := { program := "ytgefaejgkcbkpaa", sum := "e1d39f49f5e3f94af548d385e260f13db256ba35f90869c9894e279fcb44fce6", func := "loop.example/proxyframes/laws.FnPipePutGet", spec := "fnPipePutGet", unfollowed := true, recurses := true, apart := false, narrowed := true }
def FnPipePutGetUptoSaid : Prop := fnPipePutGetUptoRow.holds Try.pinned (OpenSpec.upto fnPipePutGetSpec)

/-- 'laws.FnExactPipePut', WHERE WHAT IT READS IS OF BULK AT MOST 1048576: true; the input reads as it did. -/
def fnExactPipePutUptoRow : OpenClaim := { program := "ytgefaejgkcbkpaa", sum := "e1d39f49f5e3f94af548d385e260f13db256ba35f90869c9894e279fcb44fce6", func := "loop.example/proxyframes/laws.FnExactPipePut", spec := "fnExactPipePut", unfollowed := true, recurses := true, apart := false, narrowed := true }
def FnExactPipePutUptoSaid : Prop := fnExactPipePutUptoRow.holds Try.pinned (OpenSpec.upto fnExactPipePutSpec)

end Rows
end Go.Proofs.Ytgefaejgkcbkpaa
