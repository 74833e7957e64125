/-
  Proved: the statement Rows.FnExactRulesReplyCardSaid of this seat: for every input the call of laws.FnExactRulesReply returns true, and the arguments read behind it as before.
  Conditions: the listed package-level variables hold what the program's text lays in them (the card ties that to the text).
-/
import Derived.Test.YtcgdccfofinheaaGreatDoorRows
import Derived.Test.YtcgdccfofinheaaGreatDoorTie
import Derived.Test.YtcgdccfofinheaaGreatDoorCards
import Derived.SevenTiedAt
import Derived.Test.YtcgdccfofinheaaGreatDoorPfLFnExactRulesReply
import Derived.WalkKit
import Derived.ProofKit
import Derived.OpenShut
import Derived.ShutString
import Derived.ChangeOld
import Derived.Below
import Derived.OpenVars
import Derived.LaidLaws
import Derived.LaidMore
import Derived.LaidHandle
import Derived.Lay
namespace Go.Proofs.YtcgdccfofinheaaGreatDoor.fnExactRulesReply
open Go.ChangeShapes Go.WideShapes Go.ChangeAt Go.RowKit Go.PF
set_option linter.unusedVariables false

theorem own : ownKnob Tryz.prog.godebug = none := by kernel_rfl
theorem laidOut : laidOutB Tryz.prog = true := by kernel_rfl
set_option maxRecDepth 100000 in
theorem rd9 {H : Type} {enc : TypeId × Value → H} {w : World} {sp : Nat → Bool} {held : Bool} {fuel : Nat} {cs : List Value} {x : DataW H × List MemPlace} (h : DataW.trod enc Tryz.prog w 0 sp held fuel 9 cs = some x) : ∃ l : List UInt8, cs = [Str l] ∧ l.length ≤ maxLen := rd_s (by kernel_rfl) h
set_option maxRecDepth 100000 in
theorem rd3 {H : Type} {enc : TypeId × Value → H} {w : World} {sp : Nat → Bool} {held : Bool} {fuel : Nat} {cs : List Value} {x : DataW H × List MemPlace} (h : DataW.trod enc Tryz.prog w 0 sp held fuel 3 cs = some x) : ∃ n : Int, cs = [.int .i64 n] ∧ I64 n := rd_i (by kernel_rfl) h
set_option maxRecDepth 100000 in
theorem rd4 {H : Type} {enc : TypeId × Value → H} {w : World} {sp : Nat → Bool} {held : Bool} {fuel : Nat} {cs : List Value} {x : DataW H × List MemPlace} (h : DataW.trod enc Tryz.prog w 0 sp held fuel 4 cs = some x) : ∃ b : Bool, cs = [.bool b] := rd_b (by kernel_rfl) h
set_option maxRecDepth 100000 in
theorem rd47 {H : Type} {enc : TypeId × Value → H} {w : World} {sp : Nat → Bool} {held : Bool} {fuel : Nat} {cs : List Value} {x : DataW H × List MemPlace} (h : DataW.trod enc Tryz.prog w 0 sp held fuel 47 cs = some x) : ∃ l_0 : List UInt8, ∃ n_1 : Int, ∃ b_2 : Bool, cs = [Str l_0, .int .i64 n_1, .bool b_2] ∧ l_0.length ≤ maxLen ∧ I64 n_1 := by
  obtain ⟨hl, n_, hf⟩ := rd_st (fs := #[_, _, _]) Tryz.underlying47 h
  have hlen : cs.length = 3 := hl.trans (show Tryz.prog.cellsOf 47 = 3 by kernel_rfl)
  match cs, hlen with
  | [k0, k1, k2], _ =>
    obtain ⟨y0, hy0⟩ := hf 0 _ rfl
    obtain ⟨l_0, e0, g0_0⟩ := rd9 hy0
    have e0' : [k0] = [Str l_0] := e0
    simp only [List.cons.injEq, and_true] at e0'
    subst e0'
    obtain ⟨y1, hy1⟩ := hf 1 _ rfl
    obtain ⟨n_1, e1, g1_0⟩ := rd3 hy1
    have e1' : [k1] = [.int .i64 n_1] := e1
    simp only [List.cons.injEq, and_true] at e1'
    subst e1'
    obtain ⟨y2, hy2⟩ := hf 2 _ rfl
    obtain ⟨b_2, e2⟩ := rd4 hy2
    have e2' : [k2] = [.bool b_2] := e2
    simp only [List.cons.injEq, and_true] at e2'
    subst e2'
    exact ⟨l_0, n_1, b_2, rfl, g0_0, g1_0⟩
set_option maxRecDepth 100000 in
theorem rd22 {H : Type} {enc : TypeId × Value → H} {w : World} {sp : Nat → Bool} {held : Bool} {fuel : Nat} {cs : List Value} {x : DataW H × List MemPlace} (h : DataW.trod enc Tryz.prog w 0 sp held fuel 22 cs = some x) : ∃ A : Option Addr, ∃ c : Nat, ∃ xs : List (List UInt8 × Int × Bool), cs = [.slice A xs.length c] ∧ Sl w [] 3 A xs.length c (xs.flatMap gRule) ∧ ∀ u ∈ xs, u.1.length ≤ 9223372036854775807 := by obtain ⟨A, c, us, h1, h2, h3⟩ := rd_sl (α := List UInt8 × Int × Bool) (R := fun u => u.1.length ≤ 9223372036854775807) (sz := 3) gRule (by kernel_rfl) (by kernel_rfl) (by decide) (fun n cs' y hy => by obtain ⟨l_0, n_1, b_2, h0, hq0, hq1⟩ := rd47 hy; exact ⟨(l_0, n_1, b_2), h0, by unfold maxLen at *; dsimp only; omega⟩) h; exact ⟨A, c, us, h1, h2, h3⟩
set_option maxRecDepth 100000 in
theorem rd23 {H : Type} {enc : TypeId × Value → H} {w : World} {sp : Nat → Bool} {held : Bool} {fuel : Nat} {cs : List Value} {x : DataW H × List MemPlace} (h : DataW.trod enc Tryz.prog w 0 sp held fuel 23 cs = some x) : ∃ A : Option Addr, ∃ c : Nat, ∃ xs : List Int, cs = [.slice A xs.length c] ∧ Sl w [] 1 A xs.length c (xs.map I) := by obtain ⟨A, c, us, h1, h2, _⟩ := rd_is (e := 3) (by kernel_rfl) (by kernel_rfl) (by kernel_rfl) h; exact ⟨A, c, us, h1, h2⟩
set_option maxRecDepth 100000 in
theorem rd25 {H : Type} {enc : TypeId × Value → H} {w : World} {sp : Nat → Bool} {held : Bool} {fuel : Nat} {cs : List Value} {x : DataW H × List MemPlace} (h : DataW.trod enc Tryz.prog w 0 sp held fuel 25 cs = some x) : ∃ n_0 : Int, ∃ A_1 : Option Addr, ∃ c_1 : Nat, ∃ xs_1 : List Int, ∃ l_2 : List UInt8, ∃ n_3 : Int, cs = [.int .i64 n_0, .slice A_1 xs_1.length c_1, Str l_2, .int .i64 n_3] ∧ I64 n_0 ∧ Sl w [] 1 A_1 xs_1.length c_1 (xs_1.map I) ∧ l_2.length ≤ maxLen ∧ I64 n_3 := by
  obtain ⟨hl, n_, hf⟩ := rd_st (fs := #[_, _, _, _]) Tryz.underlying25 h
  have hlen : cs.length = 4 := hl.trans (show Tryz.prog.cellsOf 25 = 4 by kernel_rfl)
  match cs, hlen with
  | [k0, k1, k2, k3], _ =>
    obtain ⟨y0, hy0⟩ := hf 0 _ rfl
    obtain ⟨n_0, e0, g0_0⟩ := rd3 hy0
    have e0' : [k0] = [.int .i64 n_0] := e0
    simp only [List.cons.injEq, and_true] at e0'
    subst e0'
    obtain ⟨y1, hy1⟩ := hf 1 _ rfl
    obtain ⟨A_1, c_1, xs_1, e1, g1_0⟩ := rd23 hy1
    have e1' : [k1] = [.slice A_1 xs_1.length c_1] := e1
    simp only [List.cons.injEq, and_true] at e1'
    subst e1'
    obtain ⟨y2, hy2⟩ := hf 2 _ rfl
    obtain ⟨l_2, e2, g2_0⟩ := rd9 hy2
    have e2' : [k2] = [Str l_2] := e2
    simp only [List.cons.injEq, and_true] at e2'
    subst e2'
    obtain ⟨y3, hy3⟩ := hf 3 _ rfl
    obtain ⟨n_3, e3, g3_0⟩ := rd3 hy3
    have e3' : [k3] = [.int .i64 n_3] := e3
    simp only [List.cons.injEq, and_true] at e3'
    subst e3'
    exact ⟨n_0, A_1, c_1, xs_1, l_2, n_3, rfl, g0_0, g1_0, g2_0, g3_0⟩
set_option maxRecDepth 100000 in
theorem rd27 {H : Type} {enc : TypeId × Value → H} {w : World} {sp : Nat → Bool} {held : Bool} {fuel : Nat} {cs : List Value} {x : DataW H × List MemPlace} (h : DataW.trod enc Tryz.prog w 0 sp held fuel 27 cs = some x) : ∃ n_0 : Int, ∃ n_0_1 : Int, ∃ A_1_1 : Option Addr, ∃ c_1_1 : Nat, ∃ xs_1_1 : List Int, ∃ l_2_1 : List UInt8, ∃ n_3_1 : Int, cs = [.int .i64 n_0, .int .i64 n_0_1, .slice A_1_1 xs_1_1.length c_1_1, Str l_2_1, .int .i64 n_3_1] ∧ I64 n_0 ∧ I64 n_0_1 ∧ Sl w [] 1 A_1_1 xs_1_1.length c_1_1 (xs_1_1.map I) ∧ l_2_1.length ≤ maxLen ∧ I64 n_3_1 := by
  obtain ⟨hl, n_, hf⟩ := rd_st (fs := #[_, _]) Tryz.underlying27 h
  have hlen : cs.length = 5 := hl.trans (show Tryz.prog.cellsOf 27 = 5 by kernel_rfl)
  match cs, hlen with
  | [k0, k1, k2, k3, k4], _ =>
    obtain ⟨y0, hy0⟩ := hf 0 _ rfl
    obtain ⟨n_0, e0, g0_0⟩ := rd3 hy0
    have e0' : [k0] = [.int .i64 n_0] := e0
    simp only [List.cons.injEq, and_true] at e0'
    subst e0'
    obtain ⟨y1, hy1⟩ := hf 1 _ rfl
    obtain ⟨n_0_1, A_1_1, c_1_1, xs_1_1, l_2_1, n_3_1, e1, g1_0, g1_1, g1_2, g1_3⟩ := rd25 hy1
    have e1' : [k1, k2, k3, k4] = [.int .i64 n_0_1, .slice A_1_1 xs_1_1.length c_1_1, Str l_2_1, .int .i64 n_3_1] := e1
    simp only [List.cons.injEq, and_true] at e1'
    obtain ⟨rfl, rfl, rfl, rfl⟩ := e1'
    exact ⟨n_0, n_0_1, A_1_1, c_1_1, xs_1_1, l_2_1, n_3_1, rfl, g0_0, g1_0, g1_1, g1_2, g1_3⟩
theorem of_laid {W : World} (h : laidMetH Tryz.prog Rows.fnExactRulesReplyRow.laid W) : Lib.TabIs Tryz.prog W "internal/strconv.uint64pow10" .u64 Lib.pow10Tab ∧ True := by
  rw [MakeChecks.laidMetH_plain _ _ _ (by kernel_rfl)] at h
  obtain ⟨ps, ⟨g0, t0, cs0, u0, pp0, qq0, hg0, ht0, hv0, hd0, ⟨g1, t1, cs1, u1, pp1, qq1, hg1, ht1, hv1, hd1, ⟨g2, t2, cs2, u2, pp2, qq2, hg2, ht2, hv2, hd2, ⟨g3, t3, cs3, u3, pp3, qq3, hg3, ht3, hv3, hd3, ⟨g4, t4, cs4, u4, pp4, qq4, hg4, ht4, hv4, hd4, _, _⟩, _⟩, _⟩, _⟩, _⟩, _, _⟩ := h
  obtain rfl := Option.some.inj ((show Tryz.prog.globalNamed "internal/strconv.uint64pow10" = some 1 by kernel_rfl).symm.trans hg2)
  obtain rfl := Option.some.inj ((show (Tryz.prog.globals[1]?).map (·.type) = some 116 by kernel_rfl).symm.trans ht2)
  have c2 : cs2.toList = Lib.pow10Tab.map (fun z => Value.int .u64 z) := Lib.cells_of_tab (n := 20) (e := 105) (by kernel_rfl) (by kernel_rfl) (by kernel_rfl) (by kernel_rfl) hd2
  have w2 : Lib.TabIs Tryz.prog W "internal/strconv.uint64pow10" .u64 Lib.pow10Tab := hv2.trans (congrArg some (Array.toList_inj.1 (by rw [c2])))
  exact ⟨w2, trivial⟩
set_option maxRecDepth 100000 in
theorem lifted (os : Os) (started : os.Started) (H : Type) (enc : TypeId × Value → H) :
    ReturnsInHanded {} Tryz.checked os 3 .any (fun w args => (Rows.fnExactRulesReplySpec.pre enc Tryz.prog Tryz.f3 [] false w args ∧ laidMetH Tryz.prog Rows.fnExactRulesReplyRow.laid w) ∧ sizedMet enc Tryz.prog Tryz.f3 (OpenSpec.ofChange Rows.fnExactRulesReplySpec) false w args) (Rows.fnExactRulesReplySpec.post enc Tryz.prog Tryz.f3 false true false false) := by
  refine returnsInHanded_of_change_and (C := Tryz.checked) (X := fun w _ => laidMetH Tryz.prog Rows.fnExactRulesReplyRow.laid w) (fun _ _ _ hh h => h.of_heap hh) own started (by kernel_rfl) Tryz.func3
    (ChangeSpec.witness_shaped (enc := enc) (C := Tryz.checked) (os := os) (X := fun w _ => laidMetH Tryz.prog Rows.fnExactRulesReplyRow.laid w) false (World.laidAll Tryz.prog os Rows.fnExactRulesReplyRow.laid) #[.slice none 0 0, .agg #[.int .i64 0, .int .i64 0, .slice none 0 0, .string ByteArray.empty, .int .i64 0]] 8 (World.laidAll_os _ _ _) (World.shaped_of_ZipB (by kernel_rfl) (by kernel_rfl)) (by kernel_rfl) (by kernel_rfl) (by kernel_rfl)
      (by rw [MakeChecks.laidMetH_plain _ _ _ (by kernel_rfl)]; exact laidMet_laidAll _ (by kernel_rfl) (by kernel_rfl))) ?_
  intro W base args ds gs before hval0 hW _ _ hL0 _
  have hL := of_laid hL0
  have hval : ∀ (j : Nat) t v, Tryz.f3.params[j]? = some t → args[j]? = some v → Value.okWide Tryz.prog W .any base t v := hval0
  have hW' := hW
  obtain ⟨p, q, hA0, hV, rfl, hfz, hnd⟩ := hW
  have hA : DataW.TrodAll enc Tryz.prog W 0 (fun _ => true) true Tryz.f3.params.toList args.toList ds p := hA0
  rw [Tryz.params3] at hA hval
  obtain ⟨v0, vs0, d0, ds0, p0, q0, hargs, rfl, rfl, h0, r0⟩ := trodAll_cons hA
  obtain ⟨v1, vs1, d1, ds1, p1, q1, rfl, rfl, rfl, h1, r1⟩ := trodAll_cons r0
  obtain ⟨rfl, rfl, rfl⟩ := trodAll_nil r1
  obtain rfl : args = #[v0, v1] := by cases args; simp_all
  obtain ⟨rfl, rfl⟩ := trodVars_none hV
  have k0 := h0
  have lt0 : ∀ x ∈ p0, x.block < W.heap.size := by obtain ⟨m, hm⟩ := k0; exact DataW.trod_lt m _ _ _ hm
  obtain ⟨A_a0, c_a0, xs_a0, ev0, f0_0, f0_1⟩ : ∃ (A_a0 : Option Addr) (c_a0 : Nat) (xs_a0 : List (List UInt8 × Int × Bool)), v0 = .slice A_a0 xs_a0.length c_a0 ∧ Sl W [] 3 A_a0 xs_a0.length c_a0 (xs_a0.flatMap gRule) ∧ ∀ u ∈ xs_a0, u.1.length ≤ 9223372036854775807 := by
    obtain ⟨a, n, c, hv⟩ := okWide_slice Tryz.underlying22 (hval 0 22 v0 rfl rfl)
    subst hv
    obtain ⟨fuel, hf⟩ := h0
    obtain ⟨z0, z1, z2, hc, f0_0, f0_1⟩ := rd22 (by simpa [Value.cells] using hf)
    simp only [List.cons.injEq, and_true] at hc
    try rw [hc]
    exact ⟨z0, z1, z2, rfl, f0_0, f0_1⟩
  subst ev0
  have k1 := h1
  have lt1 : ∀ x ∈ p1, x.block < W.heap.size := by obtain ⟨m, hm⟩ := k1; exact DataW.trod_lt m _ _ _ hm
  obtain ⟨n_0_a1, n_0_1_a1, A_1_1_a1, c_1_1_a1, xs_1_1_a1, l_2_1_a1, n_3_1_a1, ev1, f1_0, f1_1, f1_2, f1_3, f1_4⟩ : ∃ (n_0_a1 : Int) (n_0_1_a1 : Int) (A_1_1_a1 : Option Addr) (c_1_1_a1 : Nat) (xs_1_1_a1 : List Int) (l_2_1_a1 : List UInt8) (n_3_1_a1 : Int), v1 = .agg #[.int .i64 n_0_a1, .int .i64 n_0_1_a1, .slice A_1_1_a1 xs_1_1_a1.length c_1_1_a1, Str l_2_1_a1, .int .i64 n_3_1_a1] ∧ I64 n_0_a1 ∧ I64 n_0_1_a1 ∧ Sl W [] 1 A_1_1_a1 xs_1_1_a1.length c_1_1_a1 (xs_1_1_a1.map I) ∧ l_2_1_a1.length ≤ maxLen ∧ I64 n_3_1_a1 := by
    obtain ⟨cs, hv, _⟩ := okWide_struct Tryz.underlying27 (hval 1 27 v1 rfl rfl)
    subst hv
    obtain ⟨fuel, hf⟩ := h1
    obtain ⟨z0, z1, z2, z3, z4, z5, z6, hc, f1_0, f1_1, f1_2, f1_3, f1_4⟩ := rd27 (by simpa [Value.cells] using hf)
    have hc2 : cs = #[.int .i64 z0, .int .i64 z1, .slice z2 z4.length z3, Str z5, .int .i64 z6] := by cases cs; simp_all
    subst hc2
    exact ⟨z0, z1, z2, z3, z4, z5, z6, rfl, f1_0, f1_1, f1_2, f1_3, f1_4⟩
  subst ev1
  clear hA0 hval0
  refine Calls.mono (law_done (YtcgdccfofinheaaGreatDoor.lExactRulesReply (w := W) (zs := xs_a0) (hzs := f0_0) (hzs_e := f0_1) (cm := n_0_a1) (ak := n_0_1_a1) (aq := xs_1_1_a1) (haq := f1_2) (an := l_2_1_a1) (han_n := Nat.le_trans f1_3 (by decide)) (apt := n_3_1_a1) (hGp := hL.1)) rfl) fun e W' ⟨he, bel⟩ => ?_
  subst he
  exact ⟨_, rfl, _, _, _, [], _, [], hW', trodAll_mk1 (shut_bool Tryz.underlying4 _), (trodAll_cons_mk (Below.trod laidOut (by kernel_rfl) (of_decide_eq_true (by kernel_rfl)) k0 bel lt0) (trodAll_cons_mk (Below.trod laidOut (by kernel_rfl) (of_decide_eq_true (by kernel_rfl)) k1 bel lt1) trodAll_mk0)), rfl, bel.frame _, fun h => by cases h⟩

theorem over : Rows.fnExactRulesReplyRow.holds Tryz.pinned (OpenSpec.ofChange Rows.fnExactRulesReplySpec) :=
  OpenClaim.holds_of_wide 3 Tryz.f3 rfl rfl rfl rfl rfl rfl rfl ⟨rfl, rfl, rfl, rfl, rfl⟩ rfl rfl rfl rfl rfl (by kernel_rfl) Tryz.func3 (by kernel_rfl)
    (of_decide_eq_true (by kernel_rfl)) (by unfold Func.isWrapper; first | (rw [if_pos (by decide +kernel)]; kernel_rfl) | (rw [if_neg (by decide +kernel)]; exact ⟨rfl, rfl⟩))
    (fun os started H enc _ => lifted os started H enc)

/-- THE STATEMENT: the tied card. -/
theorem proved : Rows.FnExactRulesReplyCardSaid :=
  Claim7.holds_tied_plain_at .later [] [.data, .data, .data, .data, .pinned] true (true, "28820463e29cd4bd11cf5fa1923750625aa9f70f840d902bba6a68eb6c70f828") false
    over (fun _ h => by cases h) (by kernel_rfl) (fun _ h => by cases h) fnExactRulesReply_row_tie rfl ⟨rfl, rfl⟩ (by kernel_rfl) rfl
    (fun f fn hf hfn => by
      obtain rfl : f = 3 := Option.some.inj ((show Tryz.prog.funcNamed "loop.example/proxyframes/laws.FnExactRulesReply" = some 3 by kernel_rfl).symm.trans hf) |>.symm
      obtain rfl : fn = Tryz.f3 := (Option.some.inj (Tryz.func3.symm.trans hfn)).symm
      exact ⟨by kernel_rfl, fun j t ht => by
        rw [Tryz.params3] at ht
        have hm : t ∈ [22, 27] := by simpa using Array.mem_of_getElem? ht
        have hall : ([22, 27].all fun u => !Tryz.prog.wantsStandIn u) = true := by kernel_rfl
        exact (show Tryz.prog.wantsStandIn t = false by simpa using List.all_eq_true.1 hall t hm)⟩)
    (by kernel_rfl)
#print axioms proved
end Go.Proofs.YtcgdccfofinheaaGreatDoor.fnExactRulesReply
