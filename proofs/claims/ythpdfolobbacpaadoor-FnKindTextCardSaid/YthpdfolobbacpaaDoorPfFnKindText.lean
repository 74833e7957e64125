/-
  Proved: the statement Rows.FnKindTextCardSaid of this seat: for every input the call of laws.FnKindText returns true, and the arguments read behind it as before.
  Conditions: the listed package-level variables hold what the program's text lays in them (the card ties that to the text).
-/
import Derived.Test.YthpdfolobbacpaaDoorRows
import Derived.Test.YthpdfolobbacpaaDoorTie
import Derived.Test.YthpdfolobbacpaaDoorCards
import Derived.SevenTiedAt
import Derived.Test.YthpdfolobbacpaaDoorPfLFnKindText
import Derived.WalkKit
import Derived.ProofKit
import Derived.OpenShut
import Derived.ShutString
import Derived.ChangeOld
import Derived.Below
import Derived.OpenVars
import Derived.LaidLaws
import Derived.LaidMore
import Derived.LaidHandle
namespace Go.Proofs.YthpdfolobbacpaaDoor.fnKindText
open Go.ChangeShapes Go.WideShapes Go.ChangeAt Go.RowKit Go.PF
set_option linter.unusedVariables false

theorem own : ownKnob Tryd.prog.godebug = none := by kernel_rfl
theorem laidOut : laidOutB Tryd.prog = true := by kernel_rfl
theorem rd24 {H : Type} {enc : TypeId × Value → H} {w : World} {sp : Nat → Bool} {held : Bool} {fuel : Nat} {cs : List Value} {x : DataW H × List MemPlace} (h : DataW.trod enc Tryd.prog w 0 sp held fuel 24 cs = some x) : ∃ A : Option Addr, ∃ c : Nat, ∃ xs : List UInt8, cs = [.slice A xs.length c] ∧ Sl w [] 1 A xs.length c (xs.map U) := rd_us (e := 5) (by kernel_rfl) (by kernel_rfl) (by kernel_rfl) h
theorem of_laid {W : World} (h : laidMetH Tryd.prog Rows.fnKindTextRow.laid W) : PA W [] ⟨0, 0, none⟩ (kindTs.map Str) ∧ True := by
  rw [MakeChecks.laidMetH_plain _ _ _ (by kernel_rfl)] at h
  obtain ⟨ps, ⟨g0, t0, cs0, u0, pp0, qq0, hg0, ht0, hv0, hd0, _, _⟩, _, _⟩ := h
  obtain rfl := Option.some.inj ((show Tryd.prog.globalNamed "loop.example/proxyframes/impl.kindTexts" = some 0 by kernel_rfl).symm.trans hg0)
  obtain rfl := Option.some.inj ((show (Tryd.prog.globals[0]?).map (·.type) = some 28 by kernel_rfl).symm.trans ht0)
  have c0 : cs0.toList = kindTs.map Str := rd_texts (n := 7) (e := 9) (by kernel_rfl) (by kernel_rfl) (by kernel_rfl) (by kernel_rfl) hd0
  have w0 : PA W [] ⟨0, 0, none⟩ (kindTs.map Str) := pa_var hg0 hv0 c0 (by simp [kindTs_len])
  exact ⟨w0, trivial⟩
set_option maxRecDepth 100000 in
theorem lifted (os : Os) (started : os.Started) (H : Type) (enc : TypeId × Value → H) :
    ReturnsInHanded {} Tryd.checked os 5 .any (fun w args => (Rows.fnKindTextSpec.pre enc Tryd.prog Tryd.f5 [] false w args ∧ laidMetH Tryd.prog Rows.fnKindTextRow.laid w) ∧ sizedMet enc Tryd.prog Tryd.f5 (OpenSpec.ofChange Rows.fnKindTextSpec) false w args) (Rows.fnKindTextSpec.post enc Tryd.prog Tryd.f5 false true false false) := by
  refine returnsInHanded_of_change_and (C := Tryd.checked) (X := fun w _ => laidMetH Tryd.prog Rows.fnKindTextRow.laid w) (fun _ _ _ hh h => h.of_heap hh) own started (by kernel_rfl) Tryd.func5
    (ChangeSpec.witness_shaped (enc := enc) (C := Tryd.checked) (os := os) (X := fun w _ => laidMetH Tryd.prog Rows.fnKindTextRow.laid w) false (World.doorLaid Tryd.prog 400 os) #[.slice none 0 0] 8 rfl (World.shaped_of_RefB (by kernel_rfl) (by kernel_rfl)) (by kernel_rfl) (by kernel_rfl) (by kernel_rfl)
      (laidMetH_of_parts3 (fuel := 8) (laidMet_of_run' 8 (by kernel_rfl) (by kernel_rfl)) (by kernel_rfl) (by kernel_rfl))) ?_
  intro W base args ds gs before hval0 hW _ _ hL0 _
  have hL := of_laid hL0
  have hval : ∀ (j : Nat) t v, Tryd.f5.params[j]? = some t → args[j]? = some v → Value.okWide Tryd.prog W .any base t v := hval0
  have hW' := hW
  obtain ⟨p, q, hA0, hV, rfl, hfz, hnd⟩ := hW
  have hA : DataW.TrodAll enc Tryd.prog W 0 (fun _ => true) true Tryd.f5.params.toList args.toList ds p := hA0
  rw [Tryd.params5] at hA hval
  obtain ⟨v0, vs0, d0, ds0, p0, q0, hargs, rfl, rfl, h0, r0⟩ := trodAll_cons hA
  obtain ⟨rfl, rfl, rfl⟩ := trodAll_nil r0
  obtain rfl : args = #[v0] := by cases args; simp_all
  have hgl : gs.length = 1 := trodVars_len hV
  rcases gs with _ | ⟨g_0, _ | ⟨g_1, _⟩⟩ <;> simp at hgl
  have k0 := h0
  have lt0 : ∀ x ∈ p0, x.block < W.heap.size := by obtain ⟨m, hm⟩ := k0; exact DataW.trod_lt m _ _ _ hm
  obtain ⟨A_a0, c_a0, xs_a0, ev0, f0_0⟩ : ∃ (A_a0 : Option Addr) (c_a0 : Nat) (xs_a0 : List UInt8), v0 = .slice A_a0 xs_a0.length c_a0 ∧ Sl W [] 1 A_a0 xs_a0.length c_a0 (xs_a0.map U) := by
    obtain ⟨a, n, c, hv⟩ := okWide_slice Tryd.underlying24 (hval 0 24 v0 rfl rfl)
    subst hv
    obtain ⟨fuel, hf⟩ := h0
    obtain ⟨z0, z1, z2, hc, f0_0⟩ := rd24 (by simpa [Value.cells] using hf)
    simp only [List.cons.injEq, and_true] at hc
    try rw [hc]
    exact ⟨z0, z1, z2, rfl, f0_0⟩
  subst ev0
  clear hA0 hval0
  refine Calls.mono (law_done (YthpdfolobbacpaaDoor.lKindText (w := W) (cs := xs_a0) (hcs := f0_0) (hGk := hL.1)) rfl) fun e W' ⟨he, bel⟩ => ?_
  subst he
  exact ⟨_, rfl, _, _, _, [], _, q, hW', trodAll_mk1 (shut_bool Tryd.underlying4 _), (trodAll_cons_mk (Below.trod laidOut (by kernel_rfl) (of_decide_eq_true (by kernel_rfl)) k0 bel lt0) trodAll_mk0), (Below.trodVars laidOut bel (by kernel_rfl) hV), bel.frame _, fun h => by cases h⟩

theorem over : Rows.fnKindTextRow.holds Tryd.pinned (OpenSpec.ofChange Rows.fnKindTextSpec) :=
  OpenClaim.holds_of_wide 5 Tryd.f5 rfl rfl rfl rfl rfl rfl rfl ⟨rfl, rfl, rfl, rfl, rfl⟩ rfl rfl rfl rfl rfl (by kernel_rfl) Tryd.func5 (by kernel_rfl)
    (of_decide_eq_true (by kernel_rfl)) (by unfold Func.isWrapper; first | (rw [if_pos (by decide +kernel)]; kernel_rfl) | (rw [if_neg (by decide +kernel)]; exact ⟨rfl, rfl⟩))
    (fun os started H enc _ => lifted os started H enc)

/-- THE STATEMENT: the tied card. -/
theorem proved : Rows.FnKindTextCardSaid :=
  Claim7.holds_tied_plain_at .later [] [.data] true (true, "66798d8756310f6099b57a4dd5b45172d831d265fb240e7c8046e7ced7b275c4") false
    over (fun _ h => by cases h) (by kernel_rfl) (fun _ h => by cases h) fnKindText_row_tie rfl ⟨rfl, rfl⟩ (by kernel_rfl) rfl
    (fun f fn hf hfn => by
      obtain rfl : f = 5 := Option.some.inj ((show Tryd.prog.funcNamed "loop.example/proxyframes/laws.FnKindText" = some 5 by kernel_rfl).symm.trans hf) |>.symm
      obtain rfl : fn = Tryd.f5 := (Option.some.inj (Tryd.func5.symm.trans hfn)).symm
      exact ⟨by kernel_rfl, fun j t ht => by
        rw [Tryd.params5] at ht
        have hm : t ∈ [24] := by simpa using Array.mem_of_getElem? ht
        have hall : ([24].all fun u => !Tryd.prog.wantsStandIn u) = true := by kernel_rfl
        exact (show Tryd.prog.wantsStandIn t = false by simpa using List.all_eq_true.1 hall t hm)⟩)
    (by kernel_rfl)
#print axioms proved
end Go.Proofs.YthpdfolobbacpaaDoor.fnKindText
