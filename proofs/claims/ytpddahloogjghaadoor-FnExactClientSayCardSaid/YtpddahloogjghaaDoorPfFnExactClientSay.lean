/-
  Proved: the statement Rows.FnExactClientSayCardSaid of this seat: for every input the call of laws.FnExactClientSay returns true, and the arguments read behind it as before.
  Conditions: the listed package-level variables hold what the program's text lays in them (the card ties that to the text).
-/
import Derived.Test.YtpddahloogjghaaDoorRows
import Derived.Test.YtpddahloogjghaaDoorTie
import Derived.Test.YtpddahloogjghaaDoorCards
import Derived.SevenTiedAt
import Derived.Test.YtpddahloogjghaaDoorPfLFnExactClientSay
import Derived.WalkKit
import Derived.ProofKit
import Derived.OpenShut
import Derived.ShutString
import Derived.ChangeOld
import Derived.Below
import Derived.OpenVars
import Derived.LaidLaws
import Derived.LaidMore
import Derived.LaidHandle
import Derived.Lay
namespace Go.Proofs.YtpddahloogjghaaDoor.fnExactClientSay
open Go.ChangeShapes Go.WideShapes Go.ChangeAt Go.RowKit Go.PF
set_option linter.unusedVariables false

theorem own : ownKnob Tryd.prog.godebug = none := by kernel_rfl
theorem laidOut : laidOutB Tryd.prog = true := by kernel_rfl
set_option maxRecDepth 100000 in
theorem rd23 {H : Type} {enc : TypeId × Value → H} {w : World} {sp : Nat → Bool} {held : Bool} {fuel : Nat} {cs : List Value} {x : DataW H × List MemPlace} (h : DataW.trod enc Tryd.prog w 0 sp held fuel 23 cs = some x) : ∃ A : Option Addr, ∃ c : Nat, ∃ xs : List Int, cs = [.slice A xs.length c] ∧ Sl w [] 1 A xs.length c (xs.map I) := by obtain ⟨A, c, us, h1, h2, _⟩ := rd_is (e := 3) (by kernel_rfl) (by kernel_rfl) (by kernel_rfl) h; exact ⟨A, c, us, h1, h2⟩
set_option maxRecDepth 100000 in
theorem rd9 {H : Type} {enc : TypeId × Value → H} {w : World} {sp : Nat → Bool} {held : Bool} {fuel : Nat} {cs : List Value} {x : DataW H × List MemPlace} (h : DataW.trod enc Tryd.prog w 0 sp held fuel 9 cs = some x) : ∃ l : List UInt8, cs = [Str l] ∧ l.length ≤ maxLen := rd_s (by kernel_rfl) h
set_option maxRecDepth 100000 in
theorem rd33 {H : Type} {enc : TypeId × Value → H} {w : World} {sp : Nat → Bool} {held : Bool} {fuel : Nat} {cs : List Value} {x : DataW H × List MemPlace} (h : DataW.trod enc Tryd.prog w 0 sp held fuel 33 cs = some x) : ∃ l_0 : List UInt8, ∃ l_1 : List UInt8, cs = [Str l_0, Str l_1] ∧ l_0.length ≤ maxLen ∧ l_1.length ≤ maxLen := by
  obtain ⟨hl, n_, hf⟩ := rd_st (fs := #[_, _]) Tryd.underlying33 h
  have hlen : cs.length = 2 := hl.trans (show Tryd.prog.cellsOf 33 = 2 by kernel_rfl)
  match cs, hlen with
  | [k0, k1], _ =>
    obtain ⟨y0, hy0⟩ := hf 0 _ rfl
    obtain ⟨l_0, e0, g0_0⟩ := rd9 hy0
    have e0' : [k0] = [Str l_0] := e0
    simp only [List.cons.injEq, and_true] at e0'
    subst e0'
    obtain ⟨y1, hy1⟩ := hf 1 _ rfl
    obtain ⟨l_1, e1, g1_0⟩ := rd9 hy1
    have e1' : [k1] = [Str l_1] := e1
    simp only [List.cons.injEq, and_true] at e1'
    subst e1'
    exact ⟨l_0, l_1, rfl, g0_0, g1_0⟩
set_option maxRecDepth 100000 in
theorem rd3 {H : Type} {enc : TypeId × Value → H} {w : World} {sp : Nat → Bool} {held : Bool} {fuel : Nat} {cs : List Value} {x : DataW H × List MemPlace} (h : DataW.trod enc Tryd.prog w 0 sp held fuel 3 cs = some x) : ∃ n : Int, cs = [.int .i64 n] ∧ I64 n := rd_i (by kernel_rfl) h
set_option maxRecDepth 100000 in
theorem rd34 {H : Type} {enc : TypeId × Value → H} {w : World} {sp : Nat → Bool} {held : Bool} {fuel : Nat} {cs : List Value} {x : DataW H × List MemPlace} (h : DataW.trod enc Tryd.prog w 0 sp held fuel 34 cs = some x) : ∃ n_0 : Int, ∃ A_1 : Option Addr, ∃ c_1 : Nat, ∃ xs_1 : List Int, ∃ l_2 : List UInt8, ∃ n_3 : Int, cs = [.int .i64 n_0, .slice A_1 xs_1.length c_1, Str l_2, .int .i64 n_3] ∧ I64 n_0 ∧ Sl w [] 1 A_1 xs_1.length c_1 (xs_1.map I) ∧ l_2.length ≤ maxLen ∧ I64 n_3 := by
  obtain ⟨hl, n_, hf⟩ := rd_st (fs := #[_, _, _, _]) Tryd.underlying34 h
  have hlen : cs.length = 4 := hl.trans (show Tryd.prog.cellsOf 34 = 4 by kernel_rfl)
  match cs, hlen with
  | [k0, k1, k2, k3], _ =>
    obtain ⟨y0, hy0⟩ := hf 0 _ rfl
    obtain ⟨n_0, e0, g0_0⟩ := rd3 hy0
    have e0' : [k0] = [.int .i64 n_0] := e0
    simp only [List.cons.injEq, and_true] at e0'
    subst e0'
    obtain ⟨y1, hy1⟩ := hf 1 _ rfl
    obtain ⟨A_1, c_1, xs_1, e1, g1_0⟩ := rd23 hy1
    have e1' : [k1] = [.slice A_1 xs_1.length c_1] := e1
    simp only [List.cons.injEq, and_true] at e1'
    subst e1'
    obtain ⟨y2, hy2⟩ := hf 2 _ rfl
    obtain ⟨l_2, e2, g2_0⟩ := rd9 hy2
    have e2' : [k2] = [Str l_2] := e2
    simp only [List.cons.injEq, and_true] at e2'
    subst e2'
    obtain ⟨y3, hy3⟩ := hf 3 _ rfl
    obtain ⟨n_3, e3, g3_0⟩ := rd3 hy3
    have e3' : [k3] = [.int .i64 n_3] := e3
    simp only [List.cons.injEq, and_true] at e3'
    subst e3'
    exact ⟨n_0, A_1, c_1, xs_1, l_2, n_3, rfl, g0_0, g1_0, g2_0, g3_0⟩
set_option maxRecDepth 100000 in
theorem rd36 {H : Type} {enc : TypeId × Value → H} {w : World} {sp : Nat → Bool} {held : Bool} {fuel : Nat} {cs : List Value} {x : DataW H × List MemPlace} (h : DataW.trod enc Tryd.prog w 0 sp held fuel 36 cs = some x) : ∃ A_0 : Option Addr, ∃ c_0 : Nat, ∃ xs_0 : List Int, ∃ l_0_1 : List UInt8, ∃ l_1_1 : List UInt8, ∃ n_0_2 : Int, ∃ A_1_2 : Option Addr, ∃ c_1_2 : Nat, ∃ xs_1_2 : List Int, ∃ l_2_2 : List UInt8, ∃ n_3_2 : Int, cs = [.slice A_0 xs_0.length c_0, Str l_0_1, Str l_1_1, .int .i64 n_0_2, .slice A_1_2 xs_1_2.length c_1_2, Str l_2_2, .int .i64 n_3_2] ∧ Sl w [] 1 A_0 xs_0.length c_0 (xs_0.map I) ∧ l_0_1.length ≤ maxLen ∧ l_1_1.length ≤ maxLen ∧ I64 n_0_2 ∧ Sl w [] 1 A_1_2 xs_1_2.length c_1_2 (xs_1_2.map I) ∧ l_2_2.length ≤ maxLen ∧ I64 n_3_2 := by
  obtain ⟨hl, n_, hf⟩ := rd_st (fs := #[_, _, _]) Tryd.underlying36 h
  have hlen : cs.length = 7 := hl.trans (show Tryd.prog.cellsOf 36 = 7 by kernel_rfl)
  match cs, hlen with
  | [k0, k1, k2, k3, k4, k5, k6], _ =>
    obtain ⟨y0, hy0⟩ := hf 0 _ rfl
    obtain ⟨A_0, c_0, xs_0, e0, g0_0⟩ := rd23 hy0
    have e0' : [k0] = [.slice A_0 xs_0.length c_0] := e0
    simp only [List.cons.injEq, and_true] at e0'
    subst e0'
    obtain ⟨y1, hy1⟩ := hf 1 _ rfl
    obtain ⟨l_0_1, l_1_1, e1, g1_0, g1_1⟩ := rd33 hy1
    have e1' : [k1, k2] = [Str l_0_1, Str l_1_1] := e1
    simp only [List.cons.injEq, and_true] at e1'
    obtain ⟨rfl, rfl⟩ := e1'
    obtain ⟨y2, hy2⟩ := hf 2 _ rfl
    obtain ⟨n_0_2, A_1_2, c_1_2, xs_1_2, l_2_2, n_3_2, e2, g2_0, g2_1, g2_2, g2_3⟩ := rd34 hy2
    have e2' : [k3, k4, k5, k6] = [.int .i64 n_0_2, .slice A_1_2 xs_1_2.length c_1_2, Str l_2_2, .int .i64 n_3_2] := e2
    simp only [List.cons.injEq, and_true] at e2'
    obtain ⟨rfl, rfl, rfl, rfl⟩ := e2'
    exact ⟨A_0, c_0, xs_0, l_0_1, l_1_1, n_0_2, A_1_2, c_1_2, xs_1_2, l_2_2, n_3_2, rfl, g0_0, g1_0, g1_1, g2_0, g2_1, g2_2, g2_3⟩
theorem of_laid {W : World} (h : laidMetH Tryd.prog Rows.fnExactClientSayRow.laid W) : True := by
  exact trivial
set_option maxRecDepth 100000 in
theorem lifted (os : Os) (started : os.Started) (H : Type) (enc : TypeId × Value → H) :
    ReturnsInHanded {} Tryd.checked os 7 .any (fun w args => (Rows.fnExactClientSaySpec.pre enc Tryd.prog Tryd.f7 [] false w args ∧ laidMetH Tryd.prog Rows.fnExactClientSayRow.laid w) ∧ sizedMet enc Tryd.prog Tryd.f7 (OpenSpec.ofChange Rows.fnExactClientSaySpec) false w args) (Rows.fnExactClientSaySpec.post enc Tryd.prog Tryd.f7 false true false false) := by
  refine returnsInHanded_of_change_and (C := Tryd.checked) (X := fun w _ => laidMetH Tryd.prog Rows.fnExactClientSayRow.laid w) (fun _ _ _ hh h => h.of_heap hh) own started (by kernel_rfl) Tryd.func7
    (ChangeSpec.witness_shaped (enc := enc) (C := Tryd.checked) (os := os) (X := fun w _ => laidMetH Tryd.prog Rows.fnExactClientSayRow.laid w) false (World.laidAll Tryd.prog os Rows.fnExactClientSayRow.laid) #[.agg #[.slice none 0 0, .string ByteArray.empty, .string ByteArray.empty, .int .i64 0, .slice none 0 0, .string ByteArray.empty, .int .i64 0], .int .i64 0] 8 (World.laidAll_os _ _ _) (World.shaped_of_ZipB (by kernel_rfl) (by kernel_rfl)) (by kernel_rfl) (by kernel_rfl) (by kernel_rfl)
      (by rw [MakeChecks.laidMetH_plain _ _ _ (by kernel_rfl)]; exact laidMet_laidAll _ (by kernel_rfl) (by kernel_rfl))) ?_
  intro W base args ds gs before hval0 hW _ _ hL0 _
  have hL := of_laid hL0
  have hval : ∀ (j : Nat) t v, Tryd.f7.params[j]? = some t → args[j]? = some v → Value.okWide Tryd.prog W .any base t v := hval0
  have hW' := hW
  obtain ⟨p, q, hA0, hV, rfl, hfz, hnd⟩ := hW
  have hA : DataW.TrodAll enc Tryd.prog W 0 (fun _ => true) true Tryd.f7.params.toList args.toList ds p := hA0
  rw [Tryd.params7] at hA hval
  obtain ⟨v0, vs0, d0, ds0, p0, q0, hargs, rfl, rfl, h0, r0⟩ := trodAll_cons hA
  obtain ⟨v1, vs1, d1, ds1, p1, q1, rfl, rfl, rfl, h1, r1⟩ := trodAll_cons r0
  obtain ⟨rfl, rfl, rfl⟩ := trodAll_nil r1
  obtain rfl : args = #[v0, v1] := by cases args; simp_all
  obtain ⟨rfl, rfl⟩ := trodVars_none hV
  have k0 := h0
  have lt0 : ∀ x ∈ p0, x.block < W.heap.size := by obtain ⟨m, hm⟩ := k0; exact DataW.trod_lt m _ _ _ hm
  obtain ⟨A_0_a0, c_0_a0, xs_0_a0, l_0_1_a0, l_1_1_a0, n_0_2_a0, A_1_2_a0, c_1_2_a0, xs_1_2_a0, l_2_2_a0, n_3_2_a0, ev0, f0_0, f0_1, f0_2, f0_3, f0_4, f0_5, f0_6⟩ : ∃ (A_0_a0 : Option Addr) (c_0_a0 : Nat) (xs_0_a0 : List Int) (l_0_1_a0 : List UInt8) (l_1_1_a0 : List UInt8) (n_0_2_a0 : Int) (A_1_2_a0 : Option Addr) (c_1_2_a0 : Nat) (xs_1_2_a0 : List Int) (l_2_2_a0 : List UInt8) (n_3_2_a0 : Int), v0 = .agg #[.slice A_0_a0 xs_0_a0.length c_0_a0, Str l_0_1_a0, Str l_1_1_a0, .int .i64 n_0_2_a0, .slice A_1_2_a0 xs_1_2_a0.length c_1_2_a0, Str l_2_2_a0, .int .i64 n_3_2_a0] ∧ Sl W [] 1 A_0_a0 xs_0_a0.length c_0_a0 (xs_0_a0.map I) ∧ l_0_1_a0.length ≤ maxLen ∧ l_1_1_a0.length ≤ maxLen ∧ I64 n_0_2_a0 ∧ Sl W [] 1 A_1_2_a0 xs_1_2_a0.length c_1_2_a0 (xs_1_2_a0.map I) ∧ l_2_2_a0.length ≤ maxLen ∧ I64 n_3_2_a0 := by
    obtain ⟨cs, hv, _⟩ := okWide_struct Tryd.underlying36 (hval 0 36 v0 rfl rfl)
    subst hv
    obtain ⟨fuel, hf⟩ := h0
    obtain ⟨z0, z1, z2, z3, z4, z5, z6, z7, z8, z9, z10, hc, f0_0, f0_1, f0_2, f0_3, f0_4, f0_5, f0_6⟩ := rd36 (by simpa [Value.cells] using hf)
    have hc2 : cs = #[.slice z0 z2.length z1, Str z3, Str z4, .int .i64 z5, .slice z6 z8.length z7, Str z9, .int .i64 z10] := by cases cs; simp_all
    subst hc2
    exact ⟨z0, z1, z2, z3, z4, z5, z6, z7, z8, z9, z10, rfl, f0_0, f0_1, f0_2, f0_3, f0_4, f0_5, f0_6⟩
  subst ev0
  have k1 := h1
  have lt1 : ∀ x ∈ p1, x.block < W.heap.size := by obtain ⟨m, hm⟩ := k1; exact DataW.trod_lt m _ _ _ hm
  obtain ⟨n_a1, ev1, f1_0⟩ : ∃ (n_a1 : Int), v1 = .int .i64 n_a1 ∧ I64 n_a1 := by
    obtain ⟨z, hv⟩ := okWide_int Tryd.underlying3 (hval 1 3 v1 rfl rfl)
    subst hv
    obtain ⟨fuel, hf⟩ := h1
    obtain ⟨z0, hc, f1_0⟩ := rd3 (by simpa [Value.cells] using hf)
    simp only [List.cons.injEq, and_true] at hc
    try rw [hc]
    exact ⟨z0, rfl, f1_0⟩
  subst ev1
  clear hA0 hval0
  refine Calls.mono (law_done (YtpddahloogjghaaDoor.lExactClientSay (w := W) (ms := xs_0_a0) (hms := f0_0) (lu := l_0_1_a0) (hlu_n := Nat.le_trans f0_1 (by decide)) (lw := l_1_1_a0) (hlw_n := Nat.le_trans f0_2 (by decide)) (ak := n_0_2_a0) (aq := xs_1_2_a0) (haq := f0_4) (an := l_2_2_a0) (han_n := Nat.le_trans f0_5 (by decide)) (apt := n_3_2_a0) (n := n_a1)) rfl) fun e W' ⟨he, bel⟩ => ?_
  subst he
  exact ⟨_, rfl, _, _, _, [], _, [], hW', trodAll_mk1 (shut_bool Tryd.underlying4 _), (trodAll_cons_mk (Below.trod laidOut (by kernel_rfl) (of_decide_eq_true (by kernel_rfl)) k0 bel lt0) (trodAll_cons_mk (Below.trod laidOut (by kernel_rfl) (of_decide_eq_true (by kernel_rfl)) k1 bel lt1) trodAll_mk0)), rfl, bel.frame _, fun h => by cases h⟩

theorem over : Rows.fnExactClientSayRow.holds Tryd.pinned (OpenSpec.ofChange Rows.fnExactClientSaySpec) :=
  OpenClaim.holds_of_wide 7 Tryd.f7 rfl rfl rfl rfl rfl rfl rfl ⟨rfl, rfl, rfl, rfl, rfl⟩ rfl rfl rfl rfl rfl (by kernel_rfl) Tryd.func7 (by kernel_rfl)
    (of_decide_eq_true (by kernel_rfl)) (by unfold Func.isWrapper; first | (rw [if_pos (by decide +kernel)]; kernel_rfl) | (rw [if_neg (by decide +kernel)]; exact ⟨rfl, rfl⟩))
    (fun os started H enc _ => lifted os started H enc)

/-- THE STATEMENT: the tied card. -/
theorem proved : Rows.FnExactClientSayCardSaid :=
  Claim7.holds_tied_plain_at .later [] [.data, .pinned] true (true, "bea70416f31bae5447be0afd197fef78122f447bbac83ca645e772ebf64bd37b") false
    over (fun _ h => by cases h) (by kernel_rfl) (fun _ h => by cases h) fnExactClientSay_row_tie rfl ⟨rfl, rfl⟩ (by kernel_rfl) rfl
    (fun f fn hf hfn => by
      obtain rfl : f = 7 := Option.some.inj ((show Tryd.prog.funcNamed "loop.example/proxyframes/laws.FnExactClientSay" = some 7 by kernel_rfl).symm.trans hf) |>.symm
      obtain rfl : fn = Tryd.f7 := (Option.some.inj (Tryd.func7.symm.trans hfn)).symm
      exact ⟨by kernel_rfl, fun j t ht => by
        rw [Tryd.params7] at ht
        have hm : t ∈ [36, 3] := by simpa using Array.mem_of_getElem? ht
        have hall : ([36, 3].all fun u => !Tryd.prog.wantsStandIn u) = true := by kernel_rfl
        exact (show Tryd.prog.wantsStandIn t = false by simpa using List.all_eq_true.1 hall t hm)⟩)
    (by kernel_rfl)
#print axioms proved
end Go.Proofs.YtpddahloogjghaaDoor.fnExactClientSay
