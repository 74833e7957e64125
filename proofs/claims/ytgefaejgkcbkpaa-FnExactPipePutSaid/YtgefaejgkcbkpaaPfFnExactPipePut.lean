/-
  Proved: the statement Rows.FnExactPipePutSaid of this seat: for every input the call of laws.FnExactPipePut returns true, and the arguments read behind it as before.
  Conditions: none.
-/
import Derived.Test.YtgefaejgkcbkpaaRows
import Derived.Test.YtgefaejgkcbkpaaPfLFnExactPipePut
import Derived.WalkKit
import Derived.ProofKit
import Derived.OpenShut
import Derived.ShutString
import Derived.ChangeOld
import Derived.Below
import Derived.OpenVars
import Derived.LaidLaws
import Derived.LaidMore
import Derived.LaidHandle
namespace Go.Proofs.Ytgefaejgkcbkpaa.fnExactPipePut
open Go.ChangeShapes Go.WideShapes Go.ChangeAt Go.RowKit Go.PF
set_option linter.unusedVariables false

theorem own : ownKnob Try.prog.godebug = none := by kernel_rfl
theorem laidOut : laidOutB Try.prog = true := by kernel_rfl
theorem rd23 {H : Type} {enc : TypeId × Value → H} {w : World} {sp : Nat → Bool} {held : Bool} {fuel : Nat} {cs : List Value} {x : DataW H × List MemPlace} (h : DataW.trod enc Try.prog w 0 sp held fuel 23 cs = some x) : ∃ A : Option Addr, ∃ c : Nat, ∃ xs : List Int, cs = [.slice A xs.length c] ∧ Sl w [] 1 A xs.length c (xs.map I) := by obtain ⟨A, c, us, h1, h2, _⟩ := rd_is (e := 3) (by kernel_rfl) (by kernel_rfl) (by kernel_rfl) h; exact ⟨A, c, us, h1, h2⟩
theorem rd3 {H : Type} {enc : TypeId × Value → H} {w : World} {sp : Nat → Bool} {held : Bool} {fuel : Nat} {cs : List Value} {x : DataW H × List MemPlace} (h : DataW.trod enc Try.prog w 0 sp held fuel 3 cs = some x) : ∃ n : Int, cs = [.int .i64 n] ∧ I64 n := rd_i (by kernel_rfl) h
theorem rd4 {H : Type} {enc : TypeId × Value → H} {w : World} {sp : Nat → Bool} {held : Bool} {fuel : Nat} {cs : List Value} {x : DataW H × List MemPlace} (h : DataW.trod enc Try.prog w 0 sp held fuel 4 cs = some x) : ∃ b : Bool, cs = [.bool b] := rd_b (by kernel_rfl) h
theorem rd29 {H : Type} {enc : TypeId × Value → H} {w : World} {sp : Nat → Bool} {held : Bool} {fuel : Nat} {cs : List Value} {x : DataW H × List MemPlace} (h : DataW.trod enc Try.prog w 0 sp held fuel 29 cs = some x) : ∃ A_0 : Option Addr, ∃ c_0 : Nat, ∃ xs_0 : List Int, ∃ n_1 : Int, ∃ b_2 : Bool, cs = [.slice A_0 xs_0.length c_0, .int .i64 n_1, .bool b_2] ∧ Sl w [] 1 A_0 xs_0.length c_0 (xs_0.map I) ∧ I64 n_1 := by
  obtain ⟨hl, n_, hf⟩ := rd_st (fs := #[_, _, _]) Try.underlying29 h
  have hlen : cs.length = 3 := hl
  match cs, hlen with
  | [k0, k1, k2], _ =>
    obtain ⟨y0, hy0⟩ := hf 0 _ rfl
    obtain ⟨A_0, c_0, xs_0, e0, g0_0⟩ := rd23 hy0
    have e0' : [k0] = [.slice A_0 xs_0.length c_0] := e0
    simp only [List.cons.injEq, and_true] at e0'
    subst e0'
    obtain ⟨y1, hy1⟩ := hf 1 _ rfl
    obtain ⟨n_1, e1, g1_0⟩ := rd3 hy1
    have e1' : [k1] = [.int .i64 n_1] := e1
    simp only [List.cons.injEq, and_true] at e1'
    subst e1'
    obtain ⟨y2, hy2⟩ := hf 2 _ rfl
    obtain ⟨b_2, e2⟩ := rd4 hy2
    have e2' : [k2] = [.bool b_2] := e2
    simp only [List.cons.injEq, and_true] at e2'
    subst e2'
    exact ⟨A_0, c_0, xs_0, n_1, b_2, rfl, g0_0, g1_0⟩
set_option maxRecDepth 100000 in
theorem lifted (os : Os) (started : os.Started) (H : Type) (enc : TypeId × Value → H) :
    ReturnsInHanded {} Try.checked os 15 .any (Rows.fnExactPipePutSpec.pre6 enc Try.prog Try.f15 Rows.fnExactPipePutRow.domain false) (Rows.fnExactPipePutSpec.post enc Try.prog Try.f15 false true false false) := by
  refine returnsInHanded_of_change (C := Try.checked) own started (by kernel_rfl) Try.func15
    (ChangeSpec.witness6 (enc := enc) (C := Try.checked) false ⟨#[], #[.agg #[.slice none 0 0, .int .i64 0, .bool false], .slice none 0 0], []⟩ 8 (by kernel_rfl) (by kernel_rfl) (by kernel_rfl) (by kernel_rfl)) ?_
  intro W base args ds gs before hval0 hW hcnd _
  have hval : ∀ (j : Nat) t v, Try.f15.params[j]? = some t → args[j]? = some v → Value.okWide Try.prog W .any base t v := hval0
  have hW' := hW
  obtain ⟨p, q, hA0, hV, rfl, hfz, hnd⟩ := hW
  have hA : DataW.TrodAll enc Try.prog W 0 (fun _ => true) true Try.f15.params.toList args.toList ds p := hA0
  rw [Try.params15] at hA hval
  obtain ⟨v0, vs0, d0, ds0, p0, q0, hargs, rfl, rfl, h0, r0⟩ := trodAll_cons hA
  obtain ⟨v1, vs1, d1, ds1, p1, q1, rfl, rfl, rfl, h1, r1⟩ := trodAll_cons r0
  obtain ⟨rfl, rfl, rfl⟩ := trodAll_nil r1
  obtain rfl : args = #[v0, v1] := by cases args; simp_all
  obtain ⟨rfl, rfl⟩ := trodVars_none hV
  have k0 := h0
  have lt0 : ∀ x ∈ p0, x.block < W.heap.size := by obtain ⟨m, hm⟩ := k0; exact DataW.trod_lt m _ _ _ hm
  obtain ⟨A_0_a0, c_0_a0, xs_0_a0, n_1_a0, b_2_a0, ev0, f0_0, f0_1⟩ : ∃ (A_0_a0 : Option Addr) (c_0_a0 : Nat) (xs_0_a0 : List Int) (n_1_a0 : Int) (b_2_a0 : Bool), v0 = .agg #[.slice A_0_a0 xs_0_a0.length c_0_a0, .int .i64 n_1_a0, .bool b_2_a0] ∧ Sl W [] 1 A_0_a0 xs_0_a0.length c_0_a0 (xs_0_a0.map I) ∧ I64 n_1_a0 := by
    obtain ⟨cs, hv, _⟩ := okWide_struct Try.underlying29 (hval 0 29 v0 rfl rfl)
    subst hv
    obtain ⟨fuel, hf⟩ := h0
    obtain ⟨z0, z1, z2, z3, z4, hc, f0_0, f0_1⟩ := rd29 (by simpa [Value.cells] using hf)
    have hc2 : cs = #[.slice z0 z2.length z1, .int .i64 z3, .bool z4] := by cases cs; simp_all
    subst hc2
    exact ⟨z0, z1, z2, z3, z4, rfl, f0_0, f0_1⟩
  subst ev0
  have k1 := h1
  have lt1 : ∀ x ∈ p1, x.block < W.heap.size := by obtain ⟨m, hm⟩ := k1; exact DataW.trod_lt m _ _ _ hm
  obtain ⟨A_a1, c_a1, xs_a1, ev1, f1_0⟩ : ∃ (A_a1 : Option Addr) (c_a1 : Nat) (xs_a1 : List Int), v1 = .slice A_a1 xs_a1.length c_a1 ∧ Sl W [] 1 A_a1 xs_a1.length c_a1 (xs_a1.map I) := by
    obtain ⟨a, n, c, hv⟩ := okWide_slice Try.underlying23 (hval 1 23 v1 rfl rfl)
    subst hv
    obtain ⟨fuel, hf⟩ := h1
    obtain ⟨z0, z1, z2, hc, f1_0⟩ := rd23 (by simpa [Value.cells] using hf)
    simp only [List.cons.injEq, and_true] at hc
    try rw [hc]
    exact ⟨z0, z1, z2, rfl, f1_0⟩
  subst ev1
  clear hA0 hval0
  refine Calls.mono (law_done (Ytgefaejgkcbkpaa.lExactPipePut (w := W) (xs := xs_0_a0) (hxs := f0_0) (ni := n_1_a0) (eb := b_2_a0) (bs := xs_a1) (hbs := f1_0)) rfl) fun e W' ⟨he, bel⟩ => ?_
  subst he
  exact ⟨_, rfl, _, _, _, [], _, [], hW', trodAll_mk1 (shut_bool Try.underlying4 _), (trodAll_cons_mk (Below.trod laidOut (by kernel_rfl) (of_decide_eq_true (by kernel_rfl)) k0 bel lt0) (trodAll_cons_mk (Below.trod laidOut (by kernel_rfl) (of_decide_eq_true (by kernel_rfl)) k1 bel lt1) trodAll_mk0)), rfl, bel.frame _, fun h => by cases h⟩

theorem over : Rows.fnExactPipePutRow.holds Try.pinned (OpenSpec.ofChange Rows.fnExactPipePutSpec) :=
  OpenClaim.holds_of_wide 15 Try.f15 rfl rfl rfl rfl rfl rfl rfl ⟨rfl, rfl, rfl, rfl, rfl⟩ rfl rfl rfl rfl rfl (by kernel_rfl) Try.func15 (by kernel_rfl)
    (of_decide_eq_true (by kernel_rfl)) (by unfold Func.isWrapper; first | (rw [if_pos (by decide +kernel)]; kernel_rfl) | (rw [if_neg (by decide +kernel)]; exact ⟨rfl, rfl⟩))
    (fun os started H enc _ => lifted os started H enc)

/-- THE STATEMENT. -/
theorem proved : Rows.FnExactPipePutSaid := over
#print axioms proved
end Go.Proofs.Ytgefaejgkcbkpaa.fnExactPipePut
