/-
  Proved: the statement Rows.FnExactRulesValidSaid of this seat: for every input the call of laws.FnExactRulesValid returns true, and the arguments read behind it as before.
  Conditions: none.
-/
import Derived.Test.YtaclnkdhmfkgcaaRows
import Derived.Test.YtaclnkdhmfkgcaaPfLFnExactRulesValid
import Derived.WalkKit
import Derived.ProofKit
import Derived.OpenShut
import Derived.ShutString
import Derived.ChangeOld
import Derived.Below
import Derived.OpenVars
import Derived.LaidLaws
import Derived.LaidMore
import Derived.LaidHandle
namespace Go.Proofs.Ytaclnkdhmfkgcaa.fnExactRulesValid
open Go.ChangeShapes Go.WideShapes Go.ChangeAt Go.RowKit Go.PF
set_option linter.unusedVariables false

theorem own : ownKnob Try.prog.godebug = none := by kernel_rfl
theorem laidOut : laidOutB Try.prog = true := by kernel_rfl
theorem rd9 {H : Type} {enc : TypeId × Value → H} {w : World} {sp : Nat → Bool} {held : Bool} {fuel : Nat} {cs : List Value} {x : DataW H × List MemPlace} (h : DataW.trod enc Try.prog w 0 sp held fuel 9 cs = some x) : ∃ l : List UInt8, cs = [Str l] ∧ l.length ≤ maxLen := rd_s (by kernel_rfl) h
theorem rd3 {H : Type} {enc : TypeId × Value → H} {w : World} {sp : Nat → Bool} {held : Bool} {fuel : Nat} {cs : List Value} {x : DataW H × List MemPlace} (h : DataW.trod enc Try.prog w 0 sp held fuel 3 cs = some x) : ∃ n : Int, cs = [.int .i64 n] ∧ I64 n := rd_i (by kernel_rfl) h
theorem rd4 {H : Type} {enc : TypeId × Value → H} {w : World} {sp : Nat → Bool} {held : Bool} {fuel : Nat} {cs : List Value} {x : DataW H × List MemPlace} (h : DataW.trod enc Try.prog w 0 sp held fuel 4 cs = some x) : ∃ b : Bool, cs = [.bool b] := rd_b (by kernel_rfl) h
theorem rd46 {H : Type} {enc : TypeId × Value → H} {w : World} {sp : Nat → Bool} {held : Bool} {fuel : Nat} {cs : List Value} {x : DataW H × List MemPlace} (h : DataW.trod enc Try.prog w 0 sp held fuel 46 cs = some x) : ∃ l_0 : List UInt8, ∃ n_1 : Int, ∃ b_2 : Bool, cs = [Str l_0, .int .i64 n_1, .bool b_2] ∧ l_0.length ≤ maxLen ∧ I64 n_1 := by
  obtain ⟨hl, n_, hf⟩ := rd_st (fs := #[_, _, _]) Try.underlying46 h
  have hlen : cs.length = 3 := hl
  match cs, hlen with
  | [k0, k1, k2], _ =>
    obtain ⟨y0, hy0⟩ := hf 0 _ rfl
    obtain ⟨l_0, e0, g0_0⟩ := rd9 hy0
    have e0' : [k0] = [Str l_0] := e0
    simp only [List.cons.injEq, and_true] at e0'
    subst e0'
    obtain ⟨y1, hy1⟩ := hf 1 _ rfl
    obtain ⟨n_1, e1, g1_0⟩ := rd3 hy1
    have e1' : [k1] = [.int .i64 n_1] := e1
    simp only [List.cons.injEq, and_true] at e1'
    subst e1'
    obtain ⟨y2, hy2⟩ := hf 2 _ rfl
    obtain ⟨b_2, e2⟩ := rd4 hy2
    have e2' : [k2] = [.bool b_2] := e2
    simp only [List.cons.injEq, and_true] at e2'
    subst e2'
    exact ⟨l_0, n_1, b_2, rfl, g0_0, g1_0⟩
theorem rd29 {H : Type} {enc : TypeId × Value → H} {w : World} {sp : Nat → Bool} {held : Bool} {fuel : Nat} {cs : List Value} {x : DataW H × List MemPlace} (h : DataW.trod enc Try.prog w 0 sp held fuel 29 cs = some x) : ∃ A : Option Addr, ∃ c : Nat, ∃ xs : List (List UInt8 × Int × Bool), cs = [.slice A xs.length c] ∧ Sl w [] 3 A xs.length c (xs.flatMap gRule) ∧ ∀ u ∈ xs, u.1.length ≤ 9223372036854775807 := by obtain ⟨A, c, us, h1, h2, h3⟩ := rd_sl (α := List UInt8 × Int × Bool) (R := fun u => u.1.length ≤ 9223372036854775807) (sz := 3) gRule (by kernel_rfl) (by kernel_rfl) (by decide) (fun n cs' y hy => by obtain ⟨l_0, n_1, b_2, h0, hq0, hq1⟩ := rd46 hy; exact ⟨(l_0, n_1, b_2), h0, by unfold maxLen at *; dsimp only; omega⟩) h; exact ⟨A, c, us, h1, h2, h3⟩
set_option maxRecDepth 100000 in
theorem lifted (os : Os) (started : os.Started) (H : Type) (enc : TypeId × Value → H) :
    ReturnsInHanded {} Try.checked os 4 .any (Rows.fnExactRulesValidSpec.pre6 enc Try.prog Try.f4 Rows.fnExactRulesValidRow.domain false) (Rows.fnExactRulesValidSpec.post enc Try.prog Try.f4 false true false false) := by
  refine returnsInHanded_of_change (C := Try.checked) own started (by kernel_rfl) Try.func4
    (ChangeSpec.witness6 (enc := enc) (C := Try.checked) false ⟨#[], #[.slice none 0 0], []⟩ 8 (by kernel_rfl) (by kernel_rfl) (by kernel_rfl) (by kernel_rfl)) ?_
  intro W base args ds gs before hval0 hW hcnd _
  have hval : ∀ (j : Nat) t v, Try.f4.params[j]? = some t → args[j]? = some v → Value.okWide Try.prog W .any base t v := hval0
  have hW' := hW
  obtain ⟨p, q, hA0, hV, rfl, hfz, hnd⟩ := hW
  have hA : DataW.TrodAll enc Try.prog W 0 (fun _ => true) true Try.f4.params.toList args.toList ds p := hA0
  rw [Try.params4] at hA hval
  obtain ⟨v0, vs0, d0, ds0, p0, q0, hargs, rfl, rfl, h0, r0⟩ := trodAll_cons hA
  obtain ⟨rfl, rfl, rfl⟩ := trodAll_nil r0
  obtain rfl : args = #[v0] := by cases args; simp_all
  obtain ⟨rfl, rfl⟩ := trodVars_none hV
  have k0 := h0
  have lt0 : ∀ x ∈ p0, x.block < W.heap.size := by obtain ⟨m, hm⟩ := k0; exact DataW.trod_lt m _ _ _ hm
  obtain ⟨A_a0, c_a0, xs_a0, ev0, f0_0, f0_1⟩ : ∃ (A_a0 : Option Addr) (c_a0 : Nat) (xs_a0 : List (List UInt8 × Int × Bool)), v0 = .slice A_a0 xs_a0.length c_a0 ∧ Sl W [] 3 A_a0 xs_a0.length c_a0 (xs_a0.flatMap gRule) ∧ ∀ u ∈ xs_a0, u.1.length ≤ 9223372036854775807 := by
    obtain ⟨a, n, c, hv⟩ := okWide_slice Try.underlying29 (hval 0 29 v0 rfl rfl)
    subst hv
    obtain ⟨fuel, hf⟩ := h0
    obtain ⟨z0, z1, z2, hc, f0_0, f0_1⟩ := rd29 (by simpa [Value.cells] using hf)
    simp only [List.cons.injEq, and_true] at hc
    try rw [hc]
    exact ⟨z0, z1, z2, rfl, f0_0, f0_1⟩
  subst ev0
  clear hA0 hval0
  refine Calls.mono (law_done (Ytaclnkdhmfkgcaa.lExactRulesValid (w := W) (zs := xs_a0) (hzs := f0_0) (hzs_e := f0_1)) rfl) fun e W' ⟨he, bel⟩ => ?_
  subst he
  exact ⟨_, rfl, _, _, _, [], _, [], hW', trodAll_mk1 (shut_bool Try.underlying4 _), (trodAll_cons_mk (Below.trod laidOut (by kernel_rfl) (of_decide_eq_true (by kernel_rfl)) k0 bel lt0) trodAll_mk0), rfl, bel.frame _, fun h => by cases h⟩

theorem over : Rows.fnExactRulesValidRow.holds Try.pinned (OpenSpec.ofChange Rows.fnExactRulesValidSpec) :=
  OpenClaim.holds_of_wide 4 Try.f4 rfl rfl rfl rfl rfl rfl rfl ⟨rfl, rfl, rfl, rfl, rfl⟩ rfl rfl rfl rfl rfl (by kernel_rfl) Try.func4 (by kernel_rfl)
    (of_decide_eq_true (by kernel_rfl)) (by unfold Func.isWrapper; first | (rw [if_pos (by decide +kernel)]; kernel_rfl) | (rw [if_neg (by decide +kernel)]; exact ⟨rfl, rfl⟩))
    (fun os started H enc _ => lifted os started H enc)

/-- THE STATEMENT. -/
theorem proved : Rows.FnExactRulesValidSaid := over
#print axioms proved
end Go.Proofs.Ytaclnkdhmfkgcaa.fnExactRulesValid
