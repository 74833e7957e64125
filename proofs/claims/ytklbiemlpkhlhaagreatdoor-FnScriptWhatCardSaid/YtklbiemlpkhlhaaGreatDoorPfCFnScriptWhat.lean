/-
  Part of the proof of the statement Rows.FnScriptWhatCardSaid of this seat: what the row says of the program text itself (calls, variables, types), by the kernel.
  Conditions: none.
-/
import Derived.Test.YtklbiemlpkhlhaaGreatDoorRows
import Derived.Test.YtklbiemlpkhlhaaGreatDoorTie
import Derived.Test.YtklbiemlpkhlhaaGreatDoorCards
import Derived.SevenTiedAt
import Derived.KernelRfl
import Derived.WalkKit
import Derived.ProofKit
import Derived.OpenShut
import Derived.ShutString
import Derived.ChangeOld
import Derived.Below
import Derived.OpenVars
import Derived.LaidLaws
import Derived.LaidMore
import Derived.LaidHandle
import Derived.Lay
import Derived.Shelf.Vars
namespace Go.Proofs.YtklbiemlpkhlhaaGreatDoor.fnScriptWhat
open Go.ChangeShapes Go.WideShapes Go.ChangeAt Go.RowKit
set_option linter.unusedVariables false

set_option maxHeartbeats 1000000000
theorem jU:Tryz.prog.unfollowed 5=true:=by kernel_rfl
theorem jV:(Rows.fnScriptWhatRow.unfollowed == Tryz.prog.unfollowed 5)=true:=by rw[jU]; rfl
theorem jR:(Rows.fnScriptWhatRow.recurses == Tryz.prog.recurses 5)=true:=by unfold Program.recurses; rw[jU,Bool.true_or]; rfl
theorem closed:joinedFacts Tryz.prog 5 Tryz.f5 Rows.fnScriptWhatSpec Rows.fnScriptWhatRow=true:=by
  simp only[joinedFacts,Bool.and_eq_true]
  repeat' apply And.intro
  all_goals first | (with_reducible exact jV) | (with_reducible exact jR) | (as_aux_lemma=>kernel_rfl)
end Go.Proofs.YtklbiemlpkhlhaaGreatDoor.fnScriptWhat
