/-
  Proved: the statement Rows.FnRulesReplyCardSaid of this seat: for every input the call of laws.FnRulesReply returns true, and the arguments read behind it as before.
  Conditions: the listed package-level variables hold what the program's text lays in them (the card ties that to the text).
-/
import Derived.Test.YtcgdccfofinheaaDoorRows
import Derived.Test.YtcgdccfofinheaaDoorTie
import Derived.Test.YtcgdccfofinheaaDoorCards
import Derived.SevenTiedAt
import Derived.Test.YtcgdccfofinheaaDoorPfLFnRulesReply
import Derived.WalkKit
import Derived.ProofKit
import Derived.OpenShut
import Derived.ShutString
import Derived.ChangeOld
import Derived.Below
import Derived.OpenVars
import Derived.LaidLaws
import Derived.LaidMore
import Derived.LaidHandle
import Derived.Lay
namespace Go.Proofs.YtcgdccfofinheaaDoor.fnRulesReply
open Go.ChangeShapes Go.WideShapes Go.ChangeAt Go.RowKit Go.PF
set_option linter.unusedVariables false

theorem own : ownKnob Tryd.prog.godebug = none := by kernel_rfl
theorem laidOut : laidOutB Tryd.prog = true := by kernel_rfl
set_option maxRecDepth 100000 in
theorem rd22 {H : Type} {enc : TypeId × Value → H} {w : World} {sp : Nat → Bool} {held : Bool} {fuel : Nat} {cs : List Value} {x : DataW H × List MemPlace} (h : DataW.trod enc Tryd.prog w 0 sp held fuel 22 cs = some x) : ∃ A : Option Addr, ∃ c : Nat, ∃ xs : List UInt8, cs = [.slice A xs.length c] ∧ Sl w [] 1 A xs.length c (xs.map U) := rd_us (e := 5) (by kernel_rfl) (by kernel_rfl) (by kernel_rfl) h
theorem of_laid {W : World} (h : laidMetH Tryd.prog Rows.fnRulesReplyRow.laid W) : Lib.TabIs Tryd.prog W "internal/strconv.uint64pow10" .u64 Lib.pow10Tab ∧ True := by
  rw [MakeChecks.laidMetH_plain _ _ _ (by kernel_rfl)] at h
  obtain ⟨ps, ⟨g0, t0, cs0, u0, pp0, qq0, hg0, ht0, hv0, hd0, ⟨g1, t1, cs1, u1, pp1, qq1, hg1, ht1, hv1, hd1, ⟨g2, t2, cs2, u2, pp2, qq2, hg2, ht2, hv2, hd2, ⟨g3, t3, cs3, u3, pp3, qq3, hg3, ht3, hv3, hd3, ⟨g4, t4, cs4, u4, pp4, qq4, hg4, ht4, hv4, hd4, _, _⟩, _⟩, _⟩, _⟩, _⟩, _, _⟩ := h
  obtain rfl := Option.some.inj ((show Tryd.prog.globalNamed "internal/strconv.uint64pow10" = some 1 by kernel_rfl).symm.trans hg2)
  obtain rfl := Option.some.inj ((show (Tryd.prog.globals[1]?).map (·.type) = some 121 by kernel_rfl).symm.trans ht2)
  have c2 : cs2.toList = Lib.pow10Tab.map (fun z => Value.int .u64 z) := Lib.cells_of_tab (n := 20) (e := 113) (by kernel_rfl) (by kernel_rfl) (by kernel_rfl) (by kernel_rfl) hd2
  have w2 : Lib.TabIs Tryd.prog W "internal/strconv.uint64pow10" .u64 Lib.pow10Tab := hv2.trans (congrArg some (Array.toList_inj.1 (by rw [c2])))
  exact ⟨w2, trivial⟩
set_option maxRecDepth 100000 in
theorem lifted (os : Os) (started : os.Started) (H : Type) (enc : TypeId × Value → H) :
    ReturnsInHanded {} Tryd.checked os 8 .any (fun w args => (Rows.fnRulesReplySpec.pre enc Tryd.prog Tryd.f8 [] false w args ∧ laidMetH Tryd.prog Rows.fnRulesReplyRow.laid w) ∧ sizedMet enc Tryd.prog Tryd.f8 (OpenSpec.ofChange Rows.fnRulesReplySpec) false w args) (Rows.fnRulesReplySpec.post enc Tryd.prog Tryd.f8 false true false false) := by
  refine returnsInHanded_of_change_and (C := Tryd.checked) (X := fun w _ => laidMetH Tryd.prog Rows.fnRulesReplyRow.laid w) (fun _ _ _ hh h => h.of_heap hh) own started (by kernel_rfl) Tryd.func8
    (ChangeSpec.witness_shaped (enc := enc) (C := Tryd.checked) (os := os) (X := fun w _ => laidMetH Tryd.prog Rows.fnRulesReplyRow.laid w) false (World.laidAll Tryd.prog os Rows.fnRulesReplyRow.laid) #[.slice none 0 0] 8 (World.laidAll_os _ _ _) (World.shaped_of_ZipB (by kernel_rfl) (by kernel_rfl)) (by kernel_rfl) (by kernel_rfl) (by kernel_rfl)
      (by rw [MakeChecks.laidMetH_plain _ _ _ (by kernel_rfl)]; exact laidMet_laidAll _ (by kernel_rfl) (by kernel_rfl))) ?_
  intro W base args ds gs before hval0 hW _ _ hL0 _
  have hL := of_laid hL0
  have hval : ∀ (j : Nat) t v, Tryd.f8.params[j]? = some t → args[j]? = some v → Value.okWide Tryd.prog W .any base t v := hval0
  have hW' := hW
  obtain ⟨p, q, hA0, hV, rfl, hfz, hnd⟩ := hW
  have hA : DataW.TrodAll enc Tryd.prog W 0 (fun _ => true) true Tryd.f8.params.toList args.toList ds p := hA0
  rw [Tryd.params8] at hA hval
  obtain ⟨v0, vs0, d0, ds0, p0, q0, hargs, rfl, rfl, h0, r0⟩ := trodAll_cons hA
  obtain ⟨rfl, rfl, rfl⟩ := trodAll_nil r0
  obtain rfl : args = #[v0] := by cases args; simp_all
  obtain ⟨rfl, rfl⟩ := trodVars_none hV
  have k0 := h0
  have lt0 : ∀ x ∈ p0, x.block < W.heap.size := by obtain ⟨m, hm⟩ := k0; exact DataW.trod_lt m _ _ _ hm
  obtain ⟨A_a0, c_a0, xs_a0, ev0, f0_0⟩ : ∃ (A_a0 : Option Addr) (c_a0 : Nat) (xs_a0 : List UInt8), v0 = .slice A_a0 xs_a0.length c_a0 ∧ Sl W [] 1 A_a0 xs_a0.length c_a0 (xs_a0.map U) := by
    obtain ⟨a, n, c, hv⟩ := okWide_slice Tryd.underlying22 (hval 0 22 v0 rfl rfl)
    subst hv
    obtain ⟨fuel, hf⟩ := h0
    obtain ⟨z0, z1, z2, hc, f0_0⟩ := rd22 (by simpa [Value.cells] using hf)
    simp only [List.cons.injEq, and_true] at hc
    try rw [hc]
    exact ⟨z0, z1, z2, rfl, f0_0⟩
  subst ev0
  clear hA0 hval0
  refine Calls.mono (law_done (YtcgdccfofinheaaDoor.lRulesReply (w := W) (cs := xs_a0) (hcs := f0_0) (hGp := hL.1)) rfl) fun e W' ⟨he, bel⟩ => ?_
  subst he
  exact ⟨_, rfl, _, _, _, [], _, [], hW', trodAll_mk1 (shut_bool Tryd.underlying4 _), (trodAll_cons_mk (Below.trod laidOut (by kernel_rfl) (of_decide_eq_true (by kernel_rfl)) k0 bel lt0) trodAll_mk0), rfl, bel.frame _, fun h => by cases h⟩

theorem over : Rows.fnRulesReplyRow.holds Tryd.pinned (OpenSpec.ofChange Rows.fnRulesReplySpec) :=
  OpenClaim.holds_of_wide 8 Tryd.f8 rfl rfl rfl rfl rfl rfl rfl ⟨rfl, rfl, rfl, rfl, rfl⟩ rfl rfl rfl rfl rfl (by kernel_rfl) Tryd.func8 (by kernel_rfl)
    (of_decide_eq_true (by kernel_rfl)) (by unfold Func.isWrapper; first | (rw [if_pos (by decide +kernel)]; kernel_rfl) | (rw [if_neg (by decide +kernel)]; exact ⟨rfl, rfl⟩))
    (fun os started H enc _ => lifted os started H enc)

/-- THE STATEMENT: the tied card. -/
theorem proved : Rows.FnRulesReplyCardSaid :=
  Claim7.holds_tied_plain_at .later [] [.data, .data, .data, .data, .pinned] true (true, "67f0e515a361298f7bc87d35f4c275aacd1ce9eb2188afafebb5c0a3ab5ef75e") false
    over (fun _ h => by cases h) (by kernel_rfl) (fun _ h => by cases h) fnRulesReply_row_tie rfl ⟨rfl, rfl⟩ (by kernel_rfl) rfl
    (fun f fn hf hfn => by
      obtain rfl : f = 8 := Option.some.inj ((show Tryd.prog.funcNamed "loop.example/proxyframes/laws.FnRulesReply" = some 8 by kernel_rfl).symm.trans hf) |>.symm
      obtain rfl : fn = Tryd.f8 := (Option.some.inj (Tryd.func8.symm.trans hfn)).symm
      exact ⟨by kernel_rfl, fun j t ht => by
        rw [Tryd.params8] at ht
        have hm : t ∈ [22] := by simpa using Array.mem_of_getElem? ht
        have hall : ([22].all fun u => !Tryd.prog.wantsStandIn u) = true := by kernel_rfl
        exact (show Tryd.prog.wantsStandIn t = false by simpa using List.all_eq_true.1 hall t hm)⟩)
    (by kernel_rfl)
#print axioms proved
end Go.Proofs.YtcgdccfofinheaaDoor.fnRulesReply
