/-
  Proved: the statement Rows.FnExactCountKindsSaid of this seat: for every input the call of laws.FnExactCountKinds returns true, and the arguments read behind it as before.
  Conditions: none.
-/
import Derived.Test.YtjehmnojfpedjaaRows
import Derived.Test.YtjehmnojfpedjaaPfLFnExactCountKinds
import Derived.WalkKit
import Derived.ProofKit
import Derived.OpenShut
import Derived.ShutString
import Derived.ChangeOld
import Derived.Below
import Derived.OpenVars
import Derived.LaidLaws
import Derived.LaidMore
import Derived.LaidHandle
import Derived.Lay
namespace Go.Proofs.Ytjehmnojfpedjaa.fnExactCountKinds
open Go.ChangeShapes Go.WideShapes Go.ChangeAt Go.RowKit Go.PF
set_option linter.unusedVariables false

theorem own : ownKnob Try.prog.godebug = none := by kernel_rfl
theorem laidOut : laidOutB Try.prog = true := by kernel_rfl
set_option maxRecDepth 100000 in
theorem rd24 {H : Type} {enc : TypeId × Value → H} {w : World} {sp : Nat → Bool} {held : Bool} {fuel : Nat} {cs : List Value} {x : DataW H × List MemPlace} (h : DataW.trod enc Try.prog w 0 sp held fuel 24 cs = some x) : ∃ A : Option Addr, ∃ c : Nat, ∃ xs : List Int, cs = [.slice A xs.length c] ∧ Sl w [] 1 A xs.length c (xs.map I) := by obtain ⟨A, c, us, h1, h2, _⟩ := rd_is (e := 3) (by kernel_rfl) (by kernel_rfl) (by kernel_rfl) h; exact ⟨A, c, us, h1, h2⟩
set_option maxRecDepth 100000 in
theorem rd22 {H : Type} {enc : TypeId × Value → H} {w : World} {sp : Nat → Bool} {held : Bool} {fuel : Nat} {cs : List Value} {x : DataW H × List MemPlace} (h : DataW.trod enc Try.prog w 0 sp held fuel 22 cs = some x) : ∃ A : Option Addr, ∃ c : Nat, ∃ xs : List Hd, cs = [.slice A xs.length c] ∧ Sl w [] 1 A xs.length c (xs.map hv) ∧ (∀ u ∈ xs, HdOk w [] u) := by obtain ⟨A, c, us, h1, h2, h3⟩ := rd_slm (α := Hd) (R := fun u => HdOk w [] u) hv (by kernel_rfl) (by kernel_rfl) (fun n cs' y hy => by obtain ⟨A, c, xs, h0, hq0⟩ := rd24 hy; exact ⟨⟨A, c, xs⟩, h0, hq0⟩) h; exact ⟨A, c, us, h1, h2, h3⟩
set_option maxRecDepth 100000 in
theorem lifted (os : Os) (started : os.Started) (H : Type) (enc : TypeId × Value → H) :
    ReturnsInHanded {} Try.checked os 3 .any (Rows.fnExactCountKindsSpec.pre6 enc Try.prog Try.f3 Rows.fnExactCountKindsRow.domain false) (Rows.fnExactCountKindsSpec.post enc Try.prog Try.f3 false true false false) := by
  refine returnsInHanded_of_change (C := Try.checked) own started (by kernel_rfl) Try.func3
    (ChangeSpec.witness6 (enc := enc) (C := Try.checked) false ⟨#[], #[.slice none 0 0], []⟩ 8 (by kernel_rfl) (by kernel_rfl) (by kernel_rfl) (by kernel_rfl)) ?_
  intro W base args ds gs before hval0 hW hcnd _
  have hval : ∀ (j : Nat) t v, Try.f3.params[j]? = some t → args[j]? = some v → Value.okWide Try.prog W .any base t v := hval0
  have hW' := hW
  obtain ⟨p, q, hA0, hV, rfl, hfz, hnd⟩ := hW
  have hA : DataW.TrodAll enc Try.prog W 0 (fun _ => true) true Try.f3.params.toList args.toList ds p := hA0
  rw [Try.params3] at hA hval
  obtain ⟨v0, vs0, d0, ds0, p0, q0, hargs, rfl, rfl, h0, r0⟩ := trodAll_cons hA
  obtain ⟨rfl, rfl, rfl⟩ := trodAll_nil r0
  obtain rfl : args = #[v0] := by cases args; simp_all
  obtain ⟨rfl, rfl⟩ := trodVars_none hV
  have k0 := h0
  have lt0 : ∀ x ∈ p0, x.block < W.heap.size := by obtain ⟨m, hm⟩ := k0; exact DataW.trod_lt m _ _ _ hm
  obtain ⟨A_a0, c_a0, xs_a0, ev0, f0_0, f0_1⟩ : ∃ (A_a0 : Option Addr) (c_a0 : Nat) (xs_a0 : List Hd), v0 = .slice A_a0 xs_a0.length c_a0 ∧ Sl W [] 1 A_a0 xs_a0.length c_a0 (xs_a0.map hv) ∧ (∀ u ∈ xs_a0, HdOk W [] u) := by
    obtain ⟨a, n, c, hv⟩ := okWide_slice Try.underlying22 (hval 0 22 v0 rfl rfl)
    subst hv
    obtain ⟨fuel, hf⟩ := h0
    obtain ⟨z0, z1, z2, hc, f0_0, f0_1⟩ := rd22 (by simpa [Value.cells] using hf)
    simp only [List.cons.injEq, and_true] at hc
    try rw [hc]
    exact ⟨z0, z1, z2, rfl, f0_0, f0_1⟩
  subst ev0
  clear hA0 hval0
  refine Calls.mono (law_done (Ytjehmnojfpedjaa.lExactCountKinds (w := W) (hs := xs_a0) (hhs := f0_0) (hhs_in := f0_1)) rfl) fun e W' ⟨he, bel⟩ => ?_
  subst he
  exact ⟨_, rfl, _, _, _, [], _, [], hW', trodAll_mk1 (shut_bool Try.underlying4 _), (trodAll_cons_mk (Below.trod laidOut (by kernel_rfl) (of_decide_eq_true (by kernel_rfl)) k0 bel lt0) trodAll_mk0), rfl, bel.frame _, fun h => by cases h⟩

theorem over : Rows.fnExactCountKindsRow.holds Try.pinned (OpenSpec.ofChange Rows.fnExactCountKindsSpec) :=
  OpenClaim.holds_of_wide 3 Try.f3 rfl rfl rfl rfl rfl rfl rfl ⟨rfl, rfl, rfl, rfl, rfl⟩ rfl rfl rfl rfl rfl (by kernel_rfl) Try.func3 (by kernel_rfl)
    (of_decide_eq_true (by kernel_rfl)) (by unfold Func.isWrapper; first | (rw [if_pos (by decide +kernel)]; kernel_rfl) | (rw [if_neg (by decide +kernel)]; exact ⟨rfl, rfl⟩))
    (fun os started H enc _ => lifted os started H enc)

/-- THE STATEMENT. -/
theorem proved : Rows.FnExactCountKindsSaid := over
#print axioms proved
end Go.Proofs.Ytjehmnojfpedjaa.fnExactCountKinds
