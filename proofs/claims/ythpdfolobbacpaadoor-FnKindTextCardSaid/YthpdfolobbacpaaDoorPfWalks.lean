/-
  Part of the proofs over this seat: what each function of the program computes, function by function (the text is written by a program of this hand-in's own).
  Conditions: each theorem states its own.
-/
import Derived.Test.YthpdfolobbacpaaDoorProg
import Derived.KernelRfl
import Derived.Test.YthpdfolobbacpaaDoorPfBase
namespace Go.Proofs.YthpdfolobbacpaaDoor
open Go.PF
set_option maxRecDepth 100000
set_option linter.unusedSimpArgs false
set_option linter.unusedVariables false
theorem ar28 : arrOk Tryd.prog 28 7 9 = true := by kernel_rfl
theorem fo33_0 : fieldOk Tryd.prog 33 0 0 = true := by kernel_rfl
theorem fo33_1 : fieldOk Tryd.prog 33 1 1 = true := by kernel_rfl
theorem mixed : Tryd.prog.follows .mixedOrders = true := by kernel_rfl
theorem one24 : oneOk Tryd.prog 24 = true := by kernel_rfl
theorem one3 : oneOk Tryd.prog 3 = true := by kernel_rfl
theorem one5 : oneOk Tryd.prog 5 = true := by kernel_rfl
theorem one9 : oneOk Tryd.prog 9 = true := by kernel_rfl
theorem sl24 : SlT Tryd.prog 24 5 1 1 (.int .u8 0) := SlT.mk' (by kernel_rfl) (by kernel_rfl)
theorem tb4 : Tryd.prog.underlying 4 = some .bool := by kernel_rfl
theorem ti3 : Tryd.prog.underlying 3 = some (.int .i64) := by kernel_rfl
theorem ti5 : Tryd.prog.underlying 5 = some (.int .u8) := by kernel_rfl
theorem iWithin (x : Int) (lo : Int) (hi : Int) (w : World)  : Does Tryd.prog 9 [.int .i64 x, .int .i64 lo, .int .i64 hi] w (fun v w' => v = .bool (decide (lo ≤ x ∧ x ≤ hi)) ∧ SH w w' [] []) := by
  refine fn_enter (N := 15) Tryd.func9 rfl (by kernel_rfl) rfl rfl rfl ?_
  have hs0 : SH w w [] [] := SH.refl w []
  refine sq ?_
  refine rg ?_
  refine q trivial rfl rfl (asg (v := .bool false) rfl) ?_
  refine nl ?_
  refine nN ?_
  refine sq ?_
  refine rg ?_
  refine q trivial rfl rfl (mv (v := .int .i64 x) rfl) ?_
  refine q trivial rfl rfl (mv (v := .int .i64 lo) rfl) ?_
  refine q trivial rfl rfl (geq (k := .i64) (a := x) (b := lo) rfl rfl) ?_
  refine q trivial rfl rfl (mv (v := .bool (decide (lo ≤ x))) rfl) ?_
  refine spd (p := lo ≤ x) 10 rfl (fun h1 => ?_) (fun h1 => ?_)
  · refine q ⟨_, rfl, rfl⟩ rfl rfl (mv (v := .int .i64 x) rfl) ?_
    refine q ⟨_, rfl, rfl⟩ rfl rfl (mv (v := .int .i64 hi) rfl) ?_
    refine q ⟨_, rfl, rfl⟩ rfl rfl (leq (k := .i64) (a := x) (b := hi) rfl rfl) ?_
    refine q trivial rfl rfl (pt (v := .bool (decide (x ≤ hi))) rfl rfl) ?_
    refine q trivial rfl rfl (asg (v := .bool (decide (x ≤ hi))) rfl) ?_
    refine nl ?_
    refine nN ?_
    refine rt ?_
    refine fret (v := .bool (decide (x ≤ hi))) (.tmp .nil) rfl ?_
    have e1 : (decide (x ≤ hi)) = (decide (lo ≤ x ∧ x ≤ hi)) := by simp [*]
    exact ⟨(congrArg (Value.bool) e1), hs0⟩
  · refine gk false rfl rfl rfl rfl rfl ?_
    refine gk false rfl rfl rfl rfl rfl ?_
    refine gk false rfl rfl rfl rfl rfl ?_
    refine q trivial rfl rfl (pf (v := .bool false) rfl rfl) ?_
    refine q trivial rfl rfl (asg (v := .bool false) rfl) ?_
    refine nl ?_
    refine nN ?_
    refine rt ?_
    refine fret (v := .bool false) (.tmp .nil) rfl ?_
    have e2 : false = (decide (lo ≤ x ∧ x ≤ hi)) := by simp [*]
    exact ⟨(congrArg (Value.bool) e2), hs0⟩

theorem pick {rb : Nat} {Ab : Option Addr} {cb : Nat} {bs : List UInt8} {p : Nat} (n : Int) (w : World) (hr : w.heap[rb]? = some (.cells [.slice Ab bs.length cb, .int .i64 ((p : Nat) : Int)].toArray 33 (0, 0))) (hb : Sl w [rb] 1 Ab bs.length cb (bs.map U)) (hbn : bs.length ≤ 2000) (hp : p ≤ 1099511627776) : Does Tryd.prog 11 [.pointer (some ⟨rb, 0, none⟩), .int .i64 n] w (fun v w' => ∃ r : Int, ∃ q : Nat, v = .int .i64 r ∧ (0 ≤ r ∧ (r < n ∨ r = 0)) ∧ (q ≤ p + 1) ∧ SH w w' [rb] [.blk rb 33 [.slice Ab bs.length cb, .int .i64 ((q : Nat) : Int)]]) := by
  refine fn_enter (N := 99) Tryd.func11 rfl (by kernel_rfl) rfl rfl rfl ?_
  have hs0 : SH w w [rb] [.blk rb 33 [.slice Ab bs.length cb, .int .i64 ((p : Nat) : Int)]] := SH.entry1 hr
  refine sq ?_
  refine rg ?_
  refine q trivial rfl rfl (asg (v := .int .i64 0) rfl) ?_
  refine nl ?_
  refine nN ?_
  refine sq ?_
  refine rg ?_
  refine q trivial rfl rfl (mv (v := .pointer (some ⟨rb, 0, none⟩)) rfl) ?_
  refine q trivial rfl rfl (mv (v := .pointer (some ⟨rb, 0, none⟩)) rfl) ?_
  refine q trivial rfl rfl (nc rfl) ?_
  refine q trivial rfl rfl (fa 1 fo33_1 rfl) ?_
  refine q trivial rfl rfl (ld (v := .int .i64 ((p : Nat) : Int)) hs0 0 rfl rfl rfl one3) ?_
  refine q trivial rfl rfl (add (a := ((p : Nat) : Int)) (b := 1) rfl rfl (by have h1_ := u8_bd (bs.getD ((p + 1 - 1) % bs.length) 0); have h2_ := u8_bd (bs.getD (((p + 1 - 1) * 7 + 3) % bs.length) 0); have h3_ := div_bd (p + 1 - 1) bs.length; exact ⟨by omega, by omega⟩)) ?_
  refine q trivial rfl rfl (nc rfl) ?_
  refine q trivial rfl rfl (fa 1 fo33_1 rfl) ?_
  refine st (v := .int .i64 (((p : Nat) : Int) + 1)) hs0 0 rfl rfl rfl rfl rfl one3 trivial (fun w1 (hs1 : SH w w1 [rb] [.blk rb 33 [.slice Ab bs.length cb, .int .i64 (((p : Nat) : Int) + 1)]]) => ?_)
  refine nl ?_
  refine nN ?_
  refine sq ?_
  refine sq ?_
  refine rg ?_
  refine q trivial rfl rfl (mv (v := .int .i64 n) rfl) ?_
  refine q trivial rfl rfl (lss (k := .i64) (a := n) (b := 1) rfl rfl) ?_
  refine q trivial rfl rfl (mv (v := .bool (decide (n < 1))) rfl) ?_
  refine spd (p := n < 1) 17 rfl (fun h1 => ?_) (fun h1 => ?_)
  · refine gk true rfl rfl rfl rfl rfl ?_
    refine gk true rfl rfl rfl rfl rfl ?_
    refine gk true rfl rfl rfl rfl rfl ?_
    refine gk true rfl rfl rfl rfl rfl ?_
    refine gk true rfl rfl rfl rfl rfl ?_
    refine gk true rfl rfl rfl rfl rfl ?_
    refine q trivial rfl rfl (pt (v := .bool true) rfl rfl) ?_
    refine nl ?_
    refine nN ?_
    refine cdt rfl ?_
    refine sq ?_
    refine rg ?_
    refine q trivial rfl rfl (asg (v := .int .i64 0) rfl) ?_
    refine nl ?_
    refine nN ?_
    refine rt (tR ?_)
    refine fret (v := .int .i64 0) (.tmp .nil) rfl ?_
    exact ⟨0, p + 1, rfl, (by simp), (by omega), hs1⟩
  · refine q ⟨_, rfl, rfl⟩ rfl rfl (mv (v := .pointer (some ⟨rb, 0, none⟩)) rfl) ?_
    refine q ⟨_, rfl, rfl⟩ rfl rfl (nc rfl) ?_
    refine q ⟨_, rfl, rfl⟩ rfl rfl (fa 0 fo33_0 rfl) ?_
    refine q ⟨_, rfl, rfl⟩ rfl rfl (ld (v := .slice Ab bs.length cb) hs1 0 rfl rfl rfl one24) ?_
    refine q ⟨_, rfl, rfl⟩ rfl rfl (lnA (n := bs.length) sl24 rfl) ?_
    refine q ⟨_, rfl, rfl⟩ rfl rfl (eqi (k := .i64) (a := ((bs.length : Nat) : Int)) (b := 0) rfl rfl) ?_
    refine q trivial rfl rfl (pf (v := .bool (decide (((bs.length : Nat) : Int) = 0))) rfl rfl) ?_
    refine nl ?_
    refine nN ?_
    refine cdd (p := ((bs.length : Nat) : Int) = 0) rfl (fun h2 => ?_) (fun h2 => ?_)
    · refine sq ?_
      refine rg ?_
      refine q trivial rfl rfl (asg (v := .int .i64 0) rfl) ?_
      refine nl ?_
      refine nN ?_
      refine rt (tR ?_)
      refine fret (v := .int .i64 0) (.tmp .nil) rfl ?_
      exact ⟨0, p + 1, rfl, (by simp), (by omega), hs1⟩
    · refine sk ?_
      refine nN ?_
      refine sq ?_
      refine rg ?_
      refine q trivial rfl rfl (mv (v := .pointer (some ⟨rb, 0, none⟩)) rfl) ?_
      refine q trivial rfl rfl (nc rfl) ?_
      refine q trivial rfl rfl (fa 1 fo33_1 rfl) ?_
      refine q trivial rfl rfl (ld (v := .int .i64 (((p : Nat) : Int) + 1)) hs1 0 rfl rfl rfl one3) ?_
      refine q trivial rfl rfl (subN (a := p + 1) (b := 1) rfl rfl (by omega) (by omega)) ?_
      refine q trivial rfl rfl (asg (v := .int .i64 (((p + 1) - 1 : Nat) : Int)) rfl) ?_
      refine nl ?_
      refine nN ?_
      refine sq ?_
      refine sq ?_
      refine rg ?_
      refine q trivial rfl rfl (mv (v := .int .i64 (((p + 1) - 1 : Nat) : Int)) rfl) ?_
      refine q trivial rfl rfl (mv (v := .pointer (some ⟨rb, 0, none⟩)) rfl) ?_
      refine q trivial rfl rfl (nc rfl) ?_
      refine q trivial rfl rfl (fa 0 fo33_0 rfl) ?_
      refine q trivial rfl rfl (ld (v := .slice Ab bs.length cb) hs1 0 rfl rfl rfl one24) ?_
      refine q trivial rfl rfl (lnA (n := bs.length) sl24 rfl) ?_
      refine q trivial rfl rfl (lss (k := .i64) (a := (((p + 1) - 1 : Nat) : Int)) (b := ((bs.length : Nat) : Int)) rfl rfl) ?_
      refine nl ?_
      refine nN ?_
      refine cdd (p := (((p + 1) - 1 : Nat) : Int) < ((bs.length : Nat) : Int)) rfl (fun h3 => ?_) (fun h3 => ?_)
      · refine sq ?_
        refine rg ?_
        refine q trivial rfl rfl (mv (v := .pointer (some ⟨rb, 0, none⟩)) rfl) ?_
        refine q trivial rfl rfl (nc rfl) ?_
        refine q trivial rfl rfl (fa 0 fo33_0 rfl) ?_
        refine q trivial rfl rfl (ld (v := .slice Ab bs.length cb) hs1 0 rfl rfl rfl one24) ?_
        refine q trivial rfl rfl (mv (v := .int .i64 (((p + 1) - 1 : Nat) : Int)) rfl) ?_
        refine ixw1 ((p + 1) - 1) sl24 rfl rfl hb (by first | omega | exact Nat.mod_lt _ (by omega)) (getm U 0 (by first | omega | exact Nat.mod_lt _ (by omega))) trivial rfl (fun a1 ha1 => ?_)
        refine q trivial rfl rfl (lda (v := .int .u8 (((bs.getD ((p + 1) - 1) 0).toNat : Nat) : Int)) hs1 ha1 (fun _ h => h) rfl rfl one5) ?_
        refine q trivial rfl rfl (cvI (a := (((bs.getD ((p + 1) - 1) 0).toNat : Nat) : Int)) (s := .u8) ti5 ti3 rfl (by have := u8_bd ((bs.getD ((p + 1) - 1) 0)); exact ⟨by omega, by omega⟩)) ?_
        refine q trivial rfl rfl (mv (v := .int .i64 n) rfl) ?_
        refine q trivial rfl rfl (rem (a := (((bs.getD ((p + 1) - 1) 0).toNat : Nat) : Int)) (b := n) rfl rfl (by have h1_ := u8_bd (bs.getD ((p + 1 - 1) % bs.length) 0); have h2_ := u8_bd (bs.getD (((p + 1 - 1) * 7 + 3) % bs.length) 0); have h3_ := div_bd (p + 1 - 1) bs.length; omega) (by omega)) ?_
        refine q trivial rfl rfl (asg (v := .int .i64 ((((bs.getD ((p + 1) - 1) 0).toNat : Nat) : Int) % n)) rfl) ?_
        refine nl ?_
        refine nN ?_
        refine rt (tR ?_)
        refine fret (v := .int .i64 ((((bs.getD ((p + 1) - 1) 0).toNat : Nat) : Int) % n)) (.tmp .nil) rfl ?_
        exact ⟨(((bs.getD ((p + 1) - 1) 0).toNat : Nat) : Int) % n, p + 1, rfl, (mod_pos (by omega)), (by omega), hs1⟩
      · refine sk ?_
        refine nN ?_
        refine sq ?_
        refine rq (fun w' => SH w w' [rb] [.blk rb 33 [.slice Ab bs.length cb, .int .i64 (((p : Nat) : Int) + 1)]]) mixed (by kernel_rfl) hs1.drew ?_
        refine qq trivial rfl rfl (fun wq hsq => mv (v := .pointer (some ⟨rb, 0, none⟩)) rfl) ?_
        refine qq trivial rfl rfl (fun wq hsq => nc rfl) ?_
        refine qq trivial rfl rfl (fun wq hsq => fa 0 fo33_0 rfl) ?_
        refine qq trivial rfl rfl (fun wq hsq => ld (v := .slice Ab bs.length cb) hsq 0 rfl rfl rfl one24) ?_
        refine qq trivial rfl rfl (fun wq hsq => mv (v := .int .i64 (((p + 1) - 1 : Nat) : Int)) rfl) ?_
        refine qq trivial rfl rfl (fun wq hsq => mv (v := .pointer (some ⟨rb, 0, none⟩)) rfl) ?_
        refine qq trivial rfl rfl (fun wq hsq => nc rfl) ?_
        refine qq trivial rfl rfl (fun wq hsq => fa 0 fo33_0 rfl) ?_
        refine qq trivial rfl rfl (fun wq hsq => ld (v := .slice Ab bs.length cb) hsq 0 rfl rfl rfl one24) ?_
        refine qq trivial rfl rfl (fun wq hsq => lnA (n := bs.length) sl24 rfl) ?_
        refine qq trivial rfl rfl (fun wq hsq => rem (a := (((p + 1) - 1 : Nat) : Int)) (b := ((bs.length : Nat) : Int)) rfl rfl (by have h1_ := u8_bd (bs.getD ((p + 1 - 1) % bs.length) 0); have h2_ := u8_bd (bs.getD (((p + 1 - 1) * 7 + 3) % bs.length) 0); have h3_ := div_bd (p + 1 - 1) bs.length; omega) (by omega)) ?_
        refine ixq1 (((p + 1) - 1) % bs.length) sl24 rfl rfl hb (by first | omega | exact Nat.mod_lt _ (by omega)) (getm U 0 (by first | omega | exact Nat.mod_lt _ (by omega))) trivial rfl (fun a2 ha2 => ?_)
        refine qq trivial rfl rfl (fun wq hsq => lda (v := .int .u8 (((bs.getD (((p + 1) - 1) % bs.length) 0).toNat : Nat) : Int)) hsq ha2 (fun _ h => h) rfl rfl one5) ?_
        refine qq trivial rfl rfl (fun wq hsq => cvI (a := (((bs.getD (((p + 1) - 1) % bs.length) 0).toNat : Nat) : Int)) (s := .u8) ti5 ti3 rfl (by have := u8_bd ((bs.getD (((p + 1) - 1) % bs.length) 0)); exact ⟨by omega, by omega⟩)) ?_
        refine qq trivial rfl rfl (fun wq hsq => mul (a := (((bs.getD (((p + 1) - 1) % bs.length) 0).toNat : Nat) : Int)) (b := 131) rfl rfl (by have h1_ := u8_bd (bs.getD ((p + 1 - 1) % bs.length) 0); have h2_ := u8_bd (bs.getD (((p + 1 - 1) * 7 + 3) % bs.length) 0); have h3_ := div_bd (p + 1 - 1) bs.length; exact ⟨by omega, by omega⟩)) ?_
        refine qq trivial rfl rfl (fun wq hsq => mv (v := .pointer (some ⟨rb, 0, none⟩)) rfl) ?_
        refine qq trivial rfl rfl (fun wq hsq => nc rfl) ?_
        refine qq trivial rfl rfl (fun wq hsq => fa 0 fo33_0 rfl) ?_
        refine qq trivial rfl rfl (fun wq hsq => ld (v := .slice Ab bs.length cb) hsq 0 rfl rfl rfl one24) ?_
        refine qq trivial rfl rfl (fun wq hsq => mv (v := .int .i64 (((p + 1) - 1 : Nat) : Int)) rfl) ?_
        refine qq trivial rfl rfl (fun wq hsq => mul (a := (((p + 1) - 1 : Nat) : Int)) (b := 7) rfl rfl (by have h1_ := u8_bd (bs.getD ((p + 1 - 1) % bs.length) 0); have h2_ := u8_bd (bs.getD (((p + 1 - 1) * 7 + 3) % bs.length) 0); have h3_ := div_bd (p + 1 - 1) bs.length; exact ⟨by omega, by omega⟩)) ?_
        refine qq trivial rfl rfl (fun wq hsq => add (a := (((p + 1) - 1 : Nat) : Int) * 7) (b := 3) rfl rfl (by have h1_ := u8_bd (bs.getD ((p + 1 - 1) % bs.length) 0); have h2_ := u8_bd (bs.getD (((p + 1 - 1) * 7 + 3) % bs.length) 0); have h3_ := div_bd (p + 1 - 1) bs.length; exact ⟨by omega, by omega⟩)) ?_
        refine qq trivial rfl rfl (fun wq hsq => mv (v := .pointer (some ⟨rb, 0, none⟩)) rfl) ?_
        refine qq trivial rfl rfl (fun wq hsq => nc rfl) ?_
        refine qq trivial rfl rfl (fun wq hsq => fa 0 fo33_0 rfl) ?_
        refine qq trivial rfl rfl (fun wq hsq => ld (v := .slice Ab bs.length cb) hsq 0 rfl rfl rfl one24) ?_
        refine qq trivial rfl rfl (fun wq hsq => lnA (n := bs.length) sl24 rfl) ?_
        refine qq trivial rfl rfl (fun wq hsq => rem (a := ((((p + 1) - 1 : Nat) : Int) * 7) + 3) (b := ((bs.length : Nat) : Int)) rfl rfl (by have h1_ := u8_bd (bs.getD ((p + 1 - 1) % bs.length) 0); have h2_ := u8_bd (bs.getD (((p + 1 - 1) * 7 + 3) % bs.length) 0); have h3_ := div_bd (p + 1 - 1) bs.length; omega) (by omega)) ?_
        refine ixq1 (((((p + 1) - 1) * 7) + 3) % bs.length) sl24 rfl rfl hb (by first | omega | exact Nat.mod_lt _ (by omega)) (getm U 0 (by first | omega | exact Nat.mod_lt _ (by omega))) trivial rfl (fun a3 ha3 => ?_)
        refine qq trivial rfl rfl (fun wq hsq => lda (v := .int .u8 (((bs.getD (((((p + 1) - 1) * 7) + 3) % bs.length) 0).toNat : Nat) : Int)) hsq ha3 (fun _ h => h) rfl rfl one5) ?_
        refine qq trivial rfl rfl (fun wq hsq => cvI (a := (((bs.getD (((((p + 1) - 1) * 7) + 3) % bs.length) 0).toNat : Nat) : Int)) (s := .u8) ti5 ti3 rfl (by have := u8_bd ((bs.getD (((((p + 1) - 1) * 7) + 3) % bs.length) 0)); exact ⟨by omega, by omega⟩)) ?_
        refine qq trivial rfl rfl (fun wq hsq => mul (a := (((bs.getD (((((p + 1) - 1) * 7) + 3) % bs.length) 0).toNat : Nat) : Int)) (b := 1117) rfl rfl (by have h1_ := u8_bd (bs.getD ((p + 1 - 1) % bs.length) 0); have h2_ := u8_bd (bs.getD (((p + 1 - 1) * 7 + 3) % bs.length) 0); have h3_ := div_bd (p + 1 - 1) bs.length; exact ⟨by omega, by omega⟩)) ?_
        refine qq trivial rfl rfl (fun wq hsq => add (a := (((bs.getD (((p + 1) - 1) % bs.length) 0).toNat : Nat) : Int) * 131) (b := (((bs.getD (((((p + 1) - 1) * 7) + 3) % bs.length) 0).toNat : Nat) : Int) * 1117) rfl rfl (by have h1_ := u8_bd (bs.getD ((p + 1 - 1) % bs.length) 0); have h2_ := u8_bd (bs.getD (((p + 1 - 1) * 7 + 3) % bs.length) 0); have h3_ := div_bd (p + 1 - 1) bs.length; exact ⟨by omega, by omega⟩)) ?_
        refine qq trivial rfl rfl (fun wq hsq => mv (v := .int .i64 (((p + 1) - 1 : Nat) : Int)) rfl) ?_
        refine qq trivial rfl rfl (fun wq hsq => mul (a := (((p + 1) - 1 : Nat) : Int)) (b := 29) rfl rfl (by have h1_ := u8_bd (bs.getD ((p + 1 - 1) % bs.length) 0); have h2_ := u8_bd (bs.getD (((p + 1 - 1) * 7 + 3) % bs.length) 0); have h3_ := div_bd (p + 1 - 1) bs.length; exact ⟨by omega, by omega⟩)) ?_
        refine qq trivial rfl rfl (fun wq hsq => add (a := ((((bs.getD (((p + 1) - 1) % bs.length) 0).toNat : Nat) : Int) * 131) + ((((bs.getD (((((p + 1) - 1) * 7) + 3) % bs.length) 0).toNat : Nat) : Int) * 1117)) (b := (((p + 1) - 1 : Nat) : Int) * 29) rfl rfl (by have h1_ := u8_bd (bs.getD ((p + 1 - 1) % bs.length) 0); have h2_ := u8_bd (bs.getD (((p + 1 - 1) * 7 + 3) % bs.length) 0); have h3_ := div_bd (p + 1 - 1) bs.length; exact ⟨by omega, by omega⟩)) ?_
        refine qq trivial rfl rfl (fun wq hsq => mv (v := .int .i64 (((p + 1) - 1 : Nat) : Int)) rfl) ?_
        refine qq trivial rfl rfl (fun wq hsq => mv (v := .pointer (some ⟨rb, 0, none⟩)) rfl) ?_
        refine qq trivial rfl rfl (fun wq hsq => nc rfl) ?_
        refine qq trivial rfl rfl (fun wq hsq => fa 0 fo33_0 rfl) ?_
        refine qq trivial rfl rfl (fun wq hsq => ld (v := .slice Ab bs.length cb) hsq 0 rfl rfl rfl one24) ?_
        refine qq trivial rfl rfl (fun wq hsq => lnA (n := bs.length) sl24 rfl) ?_
        refine qq trivial rfl rfl (fun wq hsq => quo (a := (((p + 1) - 1 : Nat) : Int)) (b := ((bs.length : Nat) : Int)) rfl rfl (by have h1_ := u8_bd (bs.getD ((p + 1 - 1) % bs.length) 0); have h2_ := u8_bd (bs.getD (((p + 1 - 1) * 7 + 3) % bs.length) 0); have h3_ := div_bd (p + 1 - 1) bs.length; omega) (by have h1_ := u8_bd (bs.getD ((p + 1 - 1) % bs.length) 0); have h2_ := u8_bd (bs.getD (((p + 1 - 1) * 7 + 3) % bs.length) 0); have h3_ := div_bd (p + 1 - 1) bs.length; omega) (by have h1_ := u8_bd (bs.getD ((p + 1 - 1) % bs.length) 0); have h2_ := u8_bd (bs.getD (((p + 1 - 1) * 7 + 3) % bs.length) 0); have h3_ := div_bd (p + 1 - 1) bs.length; omega)) ?_
        refine qq trivial rfl rfl (fun wq hsq => mul (a := (((p + 1) - 1 : Nat) : Int) / ((bs.length : Nat) : Int)) (b := 53) rfl rfl (by have h1_ := u8_bd (bs.getD ((p + 1 - 1) % bs.length) 0); have h2_ := u8_bd (bs.getD (((p + 1 - 1) * 7 + 3) % bs.length) 0); have h3_ := div_bd (p + 1 - 1) bs.length; exact ⟨by omega, by omega⟩)) ?_
        refine qq trivial rfl rfl (fun wq hsq => add (a := (((((bs.getD (((p + 1) - 1) % bs.length) 0).toNat : Nat) : Int) * 131) + ((((bs.getD (((((p + 1) - 1) * 7) + 3) % bs.length) 0).toNat : Nat) : Int) * 1117)) + ((((p + 1) - 1 : Nat) : Int) * 29)) (b := ((((p + 1) - 1 : Nat) : Int) / ((bs.length : Nat) : Int)) * 53) rfl rfl (by have h1_ := u8_bd (bs.getD ((p + 1 - 1) % bs.length) 0); have h2_ := u8_bd (bs.getD (((p + 1 - 1) * 7 + 3) % bs.length) 0); have h3_ := div_bd (p + 1 - 1) bs.length; exact ⟨by omega, by omega⟩)) ?_
        refine qq trivial rfl rfl (fun wq hsq => asg (v := .int .i64 (((((((bs.getD (((p + 1) - 1) % bs.length) 0).toNat : Nat) : Int) * 131) + ((((bs.getD (((((p + 1) - 1) * 7) + 3) % bs.length) 0).toNat : Nat) : Int) * 1117)) + ((((p + 1) - 1 : Nat) : Int) * 29)) + (((((p + 1) - 1 : Nat) : Int) / ((bs.length : Nat) : Int)) * 53))) rfl) ?_
        refine qn (fun w2 hs2 => ?_)
        refine nN ?_
        refine sq ?_
        refine rg ?_
        refine q trivial rfl rfl (mv (v := .int .i64 (((((((bs.getD (((p + 1) - 1) % bs.length) 0).toNat : Nat) : Int) * 131) + ((((bs.getD (((((p + 1) - 1) * 7) + 3) % bs.length) 0).toNat : Nat) : Int) * 1117)) + ((((p + 1) - 1 : Nat) : Int) * 29)) + (((((p + 1) - 1 : Nat) : Int) / ((bs.length : Nat) : Int)) * 53))) rfl) ?_
        refine q trivial rfl rfl (mv (v := .int .i64 (((((((bs.getD (((p + 1) - 1) % bs.length) 0).toNat : Nat) : Int) * 131) + ((((bs.getD (((((p + 1) - 1) * 7) + 3) % bs.length) 0).toNat : Nat) : Int) * 1117)) + ((((p + 1) - 1 : Nat) : Int) * 29)) + (((((p + 1) - 1 : Nat) : Int) / ((bs.length : Nat) : Int)) * 53))) rfl) ?_
        refine q trivial rfl rfl (quo (a := ((((((bs.getD (((p + 1) - 1) % bs.length) 0).toNat : Nat) : Int) * 131) + ((((bs.getD (((((p + 1) - 1) * 7) + 3) % bs.length) 0).toNat : Nat) : Int) * 1117)) + ((((p + 1) - 1 : Nat) : Int) * 29)) + (((((p + 1) - 1 : Nat) : Int) / ((bs.length : Nat) : Int)) * 53)) (b := 64) rfl rfl (by have h1_ := u8_bd (bs.getD ((p + 1 - 1) % bs.length) 0); have h2_ := u8_bd (bs.getD (((p + 1 - 1) * 7 + 3) % bs.length) 0); have h3_ := div_bd (p + 1 - 1) bs.length; omega) (by have h1_ := u8_bd (bs.getD ((p + 1 - 1) % bs.length) 0); have h2_ := u8_bd (bs.getD (((p + 1 - 1) * 7 + 3) % bs.length) 0); have h3_ := div_bd (p + 1 - 1) bs.length; omega) (by have h1_ := u8_bd (bs.getD ((p + 1 - 1) % bs.length) 0); have h2_ := u8_bd (bs.getD (((p + 1 - 1) * 7 + 3) % bs.length) 0); have h3_ := div_bd (p + 1 - 1) bs.length; omega)) ?_
        refine q trivial rfl rfl (xr (a := (((((bs.getD (((p + 1) - 1) % bs.length) 0).toNat) * 131) + (((bs.getD (((((p + 1) - 1) * 7) + 3) % bs.length) 0).toNat) * 1117)) + (((p + 1) - 1) * 29)) + ((((p + 1) - 1) / bs.length) * 53)) (b := ((((((bs.getD (((p + 1) - 1) % bs.length) 0).toNat) * 131) + (((bs.getD (((((p + 1) - 1) * 7) + 3) % bs.length) 0).toNat) * 1117)) + (((p + 1) - 1) * 29)) + ((((p + 1) - 1) / bs.length) * 53)) / 64) rfl rfl (by have h1_ := u8_bd (bs.getD ((p + 1 - 1) % bs.length) 0); have h2_ := u8_bd (bs.getD (((p + 1 - 1) * 7 + 3) % bs.length) 0); have h3_ := div_bd (p + 1 - 1) bs.length; omega) (by have h1_ := u8_bd (bs.getD ((p + 1 - 1) % bs.length) 0); have h2_ := u8_bd (bs.getD (((p + 1 - 1) * 7 + 3) % bs.length) 0); have h3_ := div_bd (p + 1 - 1) bs.length; omega)) ?_
        refine q trivial rfl rfl (asg (v := .int .i64 ((((((((bs.getD (((p + 1) - 1) % bs.length) 0).toNat) * 131) + (((bs.getD (((((p + 1) - 1) * 7) + 3) % bs.length) 0).toNat) * 1117)) + (((p + 1) - 1) * 29)) + ((((p + 1) - 1) / bs.length) * 53)) ^^^ (((((((bs.getD (((p + 1) - 1) % bs.length) 0).toNat) * 131) + (((bs.getD (((((p + 1) - 1) * 7) + 3) % bs.length) 0).toNat) * 1117)) + (((p + 1) - 1) * 29)) + ((((p + 1) - 1) / bs.length) * 53)) / 64) : Nat) : Int)) rfl) ?_
        refine nl ?_
        refine nN ?_
        refine sq ?_
        refine rg ?_
        refine q trivial rfl rfl (mv (v := .int .i64 ((((((((bs.getD (((p + 1) - 1) % bs.length) 0).toNat) * 131) + (((bs.getD (((((p + 1) - 1) * 7) + 3) % bs.length) 0).toNat) * 1117)) + (((p + 1) - 1) * 29)) + ((((p + 1) - 1) / bs.length) * 53)) ^^^ (((((((bs.getD (((p + 1) - 1) % bs.length) 0).toNat) * 131) + (((bs.getD (((((p + 1) - 1) * 7) + 3) % bs.length) 0).toNat) * 1117)) + (((p + 1) - 1) * 29)) + ((((p + 1) - 1) / bs.length) * 53)) / 64) : Nat) : Int)) rfl) ?_
        refine q trivial rfl rfl (mv (v := .int .i64 n) rfl) ?_
        refine q trivial rfl rfl (rem (a := ((((((((bs.getD (((p + 1) - 1) % bs.length) 0).toNat) * 131) + (((bs.getD (((((p + 1) - 1) * 7) + 3) % bs.length) 0).toNat) * 1117)) + (((p + 1) - 1) * 29)) + ((((p + 1) - 1) / bs.length) * 53)) ^^^ (((((((bs.getD (((p + 1) - 1) % bs.length) 0).toNat) * 131) + (((bs.getD (((((p + 1) - 1) * 7) + 3) % bs.length) 0).toNat) * 1117)) + (((p + 1) - 1) * 29)) + ((((p + 1) - 1) / bs.length) * 53)) / 64) : Nat) : Int)) (b := n) rfl rfl (by have h1_ := u8_bd (bs.getD ((p + 1 - 1) % bs.length) 0); have h2_ := u8_bd (bs.getD (((p + 1 - 1) * 7 + 3) % bs.length) 0); have h3_ := div_bd (p + 1 - 1) bs.length; omega) (by omega)) ?_
        refine q trivial rfl rfl (asg (v := .int .i64 (((((((((bs.getD (((p + 1) - 1) % bs.length) 0).toNat) * 131) + (((bs.getD (((((p + 1) - 1) * 7) + 3) % bs.length) 0).toNat) * 1117)) + (((p + 1) - 1) * 29)) + ((((p + 1) - 1) / bs.length) * 53)) ^^^ (((((((bs.getD (((p + 1) - 1) % bs.length) 0).toNat) * 131) + (((bs.getD (((((p + 1) - 1) * 7) + 3) % bs.length) 0).toNat) * 1117)) + (((p + 1) - 1) * 29)) + ((((p + 1) - 1) / bs.length) * 53)) / 64) : Nat) : Int) % n)) rfl) ?_
        refine nl ?_
        refine nN ?_
        refine rt ?_
        refine fret (v := .int .i64 (((((((((bs.getD (((p + 1) - 1) % bs.length) 0).toNat) * 131) + (((bs.getD (((((p + 1) - 1) * 7) + 3) % bs.length) 0).toNat) * 1117)) + (((p + 1) - 1) * 29)) + ((((p + 1) - 1) / bs.length) * 53)) ^^^ (((((((bs.getD (((p + 1) - 1) % bs.length) 0).toNat) * 131) + (((bs.getD (((((p + 1) - 1) * 7) + 3) % bs.length) 0).toNat) * 1117)) + (((p + 1) - 1) * 29)) + ((((p + 1) - 1) / bs.length) * 53)) / 64) : Nat) : Int) % n)) (.tmp .nil) rfl ?_
        exact ⟨((((((((bs.getD (((p + 1) - 1) % bs.length) 0).toNat) * 131) + (((bs.getD (((((p + 1) - 1) * 7) + 3) % bs.length) 0).toNat) * 1117)) + (((p + 1) - 1) * 29)) + ((((p + 1) - 1) / bs.length) * 53)) ^^^ (((((((bs.getD (((p + 1) - 1) % bs.length) 0).toNat) * 131) + (((bs.getD (((((p + 1) - 1) * 7) + 3) % bs.length) 0).toNat) * 1117)) + (((p + 1) - 1) * 29)) + ((((p + 1) - 1) / bs.length) * 53)) / 64) : Nat) : Int) % n, p + 1, rfl, (mod_pos (by omega)), (by omega), hs2⟩

theorem l6Open {Acs : Option Addr} {ccs : Nat} (cs : List UInt8) (w : World) (hcs : Sl w [] 1 Acs cs.length ccs (cs.map U)) : Does Tryd.prog 10 [.slice Acs cs.length ccs] w (fun v w' => ∃ gr : Nat, v = .pointer (some ⟨gr, 0, none⟩) ∧ SH w w' [] [.blk gr 33 [.slice Acs ((cs.take 2000).length) ccs, .int .i64 0]]) := by
  refine fn_enter (N := 11) Tryd.func10 rfl (by kernel_rfl) rfl rfl rfl ?_
  have hs0 : SH w w [] [] := SH.refl w []
  have hcs_m : cs.length ≤ 9223372036854775807 := Nat.le_trans hcs.cap hcs.capMax
  refine sq ?_
  refine rg ?_
  refine q trivial rfl rfl (asg (v := .pointer none) rfl) ?_
  refine nl ?_
  refine nN ?_
  refine sq ?_
  refine sq ?_
  refine rg ?_
  refine q trivial rfl rfl (mv (v := .slice Acs cs.length ccs) rfl) ?_
  refine q trivial rfl rfl (lnA (n := cs.length) sl24 rfl) ?_
  refine q trivial rfl rfl (gtr (k := .i64) (a := ((cs.length : Nat) : Int)) (b := 2000) rfl rfl) ?_
  refine nl ?_
  refine nN ?_
  refine cdd (p := (2000 : Int) < ((cs.length : Nat) : Int)) rfl (fun h1 => ?_) (fun h1 => ?_)
  · refine rg ?_
    refine q trivial rfl rfl (mv (v := .slice Acs cs.length ccs) rfl) ?_
    refine q trivial rfl rfl (cuhm_ (zs := cs) 2000 sl24 rfl rfl (by first | omega | (simp; omega)) hcs.cap) ?_
    refine q trivial rfl rfl (asg (v := .slice Acs ((cs.take 2000).length) ccs) rfl) ?_
    refine nl ?_
    refine nN ?_
    refine sq ?_
    refine rg ?_
    refine q trivial rfl rfl (mv (v := .slice Acs ((cs.take 2000).length) ccs) rfl) ?_
    refine q trivial rfl rfl (bdv (v := .agg #[.slice Acs ((cs.take 2000).length) ccs, .int .i64 0]) [(0, .slice Acs ((cs.take 2000).length) ccs)] rfl (fun _ => by kernel_rfl)) ?_
    refine bx (v := .agg #[.slice Acs ((cs.take 2000).length) ccs, .int .i64 0]) (cs := [.slice Acs ((cs.take 2000).length) ccs, .int .i64 0]) hs0 rfl rfl trivial rfl (fun b1 w1 (hs1 : SH w w1 [] [.blk b1 33 [.slice Acs ((cs.take 2000).length) ccs, .int .i64 0]]) => ?_)
    refine q trivial rfl rfl (asg (v := .pointer (some ⟨b1, 0, none⟩)) rfl) ?_
    refine nl ?_
    refine nN ?_
    refine rt ?_
    refine fret (v := .pointer (some ⟨b1, 0, none⟩)) (.tmp .nil) rfl ?_
    exact ⟨b1, rfl, hs1⟩
  · refine sk ?_
    refine nN ?_
    refine sq ?_
    refine rg ?_
    refine q trivial rfl rfl (mv (v := .slice Acs cs.length ccs) rfl) ?_
    refine q trivial rfl rfl (bdv (v := .agg #[.slice Acs cs.length ccs, .int .i64 0]) [(0, .slice Acs cs.length ccs)] rfl (fun _ => by kernel_rfl)) ?_
    refine bx (v := .agg #[.slice Acs cs.length ccs, .int .i64 0]) (cs := [.slice Acs cs.length ccs, .int .i64 0]) hs0 rfl rfl trivial rfl (fun b2 w2 (hs2 : SH w w2 [] [.blk b2 33 [.slice Acs cs.length ccs, .int .i64 0]]) => ?_)
    refine q trivial rfl rfl (asg (v := .pointer (some ⟨b2, 0, none⟩)) rfl) ?_
    refine nl ?_
    refine nN ?_
    refine rt ?_
    refine fret (v := .pointer (some ⟨b2, 0, none⟩)) (.tmp .nil) rfl ?_
    have e1 : cs.length = (cs.take 2000).length := by rw [List.take_of_length_le (by omega)]
    exact ⟨b2, rfl, (hs2.cast (lc (congrArg (It.blk b2 33) (lc (slv rfl e1 rfl) (lc rfl rfl))) rfl))⟩

theorem sKindText (z : Int) (w : World)  : Does Tryd.prog 6 [.int .i64 z] w (fun v w' => v = Str (kindText z) ∧ SH w w' [] []) := by
  refine fn_enter (N := 18) Tryd.func6 rfl (by kernel_rfl) rfl rfl rfl ?_
  have hs0 : SH w w [] [] := SH.refl w []
  refine sq ?_
  refine rg ?_
  refine q trivial rfl rfl (asg (v := Str []) rfl) ?_
  refine nl ?_
  refine nN ?_
  refine sq ?_
  refine sq ?_
  refine rg ?_
  refine q trivial rfl rfl (mv (v := .int .i64 z) rfl) ?_
  refine nl ?_
  refine nN ?_
  refine bl ?_
  refine sq ?_
  refine rg ?_
  refine q trivial rfl rfl (eqi (k := .i64) (a := z) (b := 0) rfl rfl) ?_
  refine q trivial rfl rfl (asg (v := .bool (decide (z = 0))) rfl) ?_
  refine nl ?_
  refine nN ?_
  refine cdd (p := z = 0) rfl (fun h1 => ?_) (fun h1 => ?_)
  · refine sq ?_
    refine rg ?_
    refine q trivial rfl rfl (asg (v := Str [109, 111, 114, 101]) rfl) ?_
    refine nl ?_
    refine nN ?_
    refine rt (bR (tR ?_))
    refine fret (v := Str [109, 111, 114, 101]) (.tmp .nil) rfl ?_
    have e1 : [109, 111, 114, 101] = kindText z := by (try subst_vars); first | rfl | exact (kindText_no (by omega)).symm
    exact ⟨(congrArg (Str) e1), hs0⟩
  · refine sq ?_
    refine rg ?_
    refine q trivial rfl rfl (eqi (k := .i64) (a := z) (b := 1) rfl rfl) ?_
    refine q trivial rfl rfl (asg (v := .bool (decide (z = 1))) rfl) ?_
    refine nl ?_
    refine nN ?_
    refine cdd (p := z = 1) rfl (fun h2 => ?_) (fun h2 => ?_)
    · refine sq ?_
      refine rg ?_
      refine q trivial rfl rfl (asg (v := Str [111, 108, 100]) rfl) ?_
      refine nl ?_
      refine nN ?_
      refine rt (bR (tR ?_))
      refine fret (v := Str [111, 108, 100]) (.tmp .nil) rfl ?_
      have e2 : [111, 108, 100] = kindText z := by (try subst_vars); first | rfl | exact (kindText_no (by omega)).symm
      exact ⟨(congrArg (Str) e2), hs0⟩
    · refine sq ?_
      refine rg ?_
      refine q trivial rfl rfl (eqi (k := .i64) (a := z) (b := 2) rfl rfl) ?_
      refine q trivial rfl rfl (asg (v := .bool (decide (z = 2))) rfl) ?_
      refine nl ?_
      refine nN ?_
      refine cdd (p := z = 2) rfl (fun h3 => ?_) (fun h3 => ?_)
      · refine sq ?_
        refine rg ?_
        refine q trivial rfl rfl (asg (v := Str [104, 101, 108, 108, 111]) rfl) ?_
        refine nl ?_
        refine nN ?_
        refine rt (bR (tR ?_))
        refine fret (v := Str [104, 101, 108, 108, 111]) (.tmp .nil) rfl ?_
        have e3 : [104, 101, 108, 108, 111] = kindText z := by (try subst_vars); first | rfl | exact (kindText_no (by omega)).symm
        exact ⟨(congrArg (Str) e3), hs0⟩
      · refine sq ?_
        refine rg ?_
        refine q trivial rfl rfl (eqi (k := .i64) (a := z) (b := 3) rfl rfl) ?_
        refine q trivial rfl rfl (asg (v := .bool (decide (z = 3))) rfl) ?_
        refine nl ?_
        refine nN ?_
        refine cdd (p := z = 3) rfl (fun h4 => ?_) (fun h4 => ?_)
        · refine sq ?_
          refine rg ?_
          refine q trivial rfl rfl (asg (v := Str [116, 117, 110, 110, 101, 108]) rfl) ?_
          refine nl ?_
          refine nN ?_
          refine rt (bR (tR ?_))
          refine fret (v := Str [116, 117, 110, 110, 101, 108]) (.tmp .nil) rfl ?_
          have e4 : [116, 117, 110, 110, 101, 108] = kindText z := by (try subst_vars); first | rfl | exact (kindText_no (by omega)).symm
          exact ⟨(congrArg (Str) e4), hs0⟩
        · refine sq ?_
          refine rg ?_
          refine q trivial rfl rfl (eqi (k := .i64) (a := z) (b := 4) rfl rfl) ?_
          refine q trivial rfl rfl (asg (v := .bool (decide (z = 4))) rfl) ?_
          refine nl ?_
          refine nN ?_
          refine cdd (p := z = 4) rfl (fun h5 => ?_) (fun h5 => ?_)
          · refine sq ?_
            refine rg ?_
            refine q trivial rfl rfl (asg (v := Str [108, 105, 110, 101]) rfl) ?_
            refine nl ?_
            refine nN ?_
            refine rt (bR (tR ?_))
            refine fret (v := Str [108, 105, 110, 101]) (.tmp .nil) rfl ?_
            have e5 : [108, 105, 110, 101] = kindText z := by (try subst_vars); first | rfl | exact (kindText_no (by omega)).symm
            exact ⟨(congrArg (Str) e5), hs0⟩
          · refine sq ?_
            refine rg ?_
            refine q trivial rfl rfl (eqi (k := .i64) (a := z) (b := 5) rfl rfl) ?_
            refine q trivial rfl rfl (asg (v := .bool (decide (z = 5))) rfl) ?_
            refine nl ?_
            refine nN ?_
            refine cdd (p := z = 5) rfl (fun h6 => ?_) (fun h6 => ?_)
            · refine sq ?_
              refine rg ?_
              refine q trivial rfl rfl (asg (v := Str [104, 101, 97, 100]) rfl) ?_
              refine nl ?_
              refine nN ?_
              refine rt (bR (tR ?_))
              refine fret (v := Str [104, 101, 97, 100]) (.tmp .nil) rfl ?_
              have e6 : [104, 101, 97, 100] = kindText z := by (try subst_vars); first | rfl | exact (kindText_no (by omega)).symm
              exact ⟨(congrArg (Str) e6), hs0⟩
            · refine sq ?_
              refine rg ?_
              refine q trivial rfl rfl (eqi (k := .i64) (a := z) (b := 6) rfl rfl) ?_
              refine q trivial rfl rfl (asg (v := .bool (decide (z = 6))) rfl) ?_
              refine nl ?_
              refine nN ?_
              refine cdd (p := z = 6) rfl (fun h7 => ?_) (fun h7 => ?_)
              · refine sq ?_
                refine rg ?_
                refine q trivial rfl rfl (asg (v := Str [111, 116, 104, 101, 114]) rfl) ?_
                refine nl ?_
                refine nN ?_
                refine rt (bR (tR ?_))
                refine fret (v := Str [111, 116, 104, 101, 114]) (.tmp .nil) rfl ?_
                have e7 : [111, 116, 104, 101, 114] = kindText z := by (try subst_vars); first | rfl | exact (kindText_no (by omega)).symm
                exact ⟨(congrArg (Str) e7), hs0⟩
              · refine sk ?_
                refine bN ?_
                refine nN ?_
                refine sq ?_
                refine rg ?_
                refine q trivial rfl rfl (asg (v := Str []) rfl) ?_
                refine nl ?_
                refine nN ?_
                refine rt ?_
                refine fret (v := Str []) (.tmp .nil) rfl ?_
                have e8 : [] = kindText z := by (try subst_vars); first | rfl | exact (kindText_no (by omega)).symm
                exact ⟨(congrArg (Str) e8), hs0⟩

theorem iKindText (z : Int) (w : World) (hGk : PA w [] ⟨0, 0, none⟩ (kindTs.map Str)) : Does Tryd.prog 7 [.int .i64 z] w (fun v w' => v = Str (kindText z) ∧ SH w w' [] []) := by
  refine fn_enter (N := 9) Tryd.func7 rfl (by kernel_rfl) rfl rfl rfl ?_
  have hs0 : SH w w [] [] := SH.refl w []
  refine sq ?_
  refine rg ?_
  refine q trivial rfl rfl (asg (v := Str []) rfl) ?_
  refine nl ?_
  refine nN ?_
  refine sq ?_
  refine sq ?_
  refine rg ?_
  refine q trivial rfl rfl (mv (v := .int .i64 z) rfl) ?_
  refine cl trivial rfl (iWithin (x := z) (lo := 0) (hi := 6) (w := _)) ?_
  rintro _ w1 ⟨rfl, hs1'⟩
  have hs1 : SH w w1 [] [] := hs0.call0 hs1'
  clear hs1'
  refine q trivial rfl rfl (nd (p := 0 ≤ z ∧ z ≤ 6) rfl) ?_
  refine nl ?_
  refine nN ?_
  refine cdd (p := ¬ (0 ≤ z ∧ z ≤ 6)) rfl (fun h1 => ?_) (fun h1 => ?_)
  · refine sq ?_
    refine rg ?_
    refine q trivial rfl rfl (asg (v := Str []) rfl) ?_
    refine nl ?_
    refine nN ?_
    refine rt (tR ?_)
    refine fret (v := Str []) (.tmp .nil) rfl ?_
    have e1 : [] = kindText z := by first | rfl | exact (kindText_no (by omega)).symm | exact (kindText_yes (by omega)).symm
    exact ⟨(congrArg (Str) e1), hs1⟩
  · refine sk ?_
    refine nN ?_
    refine sq ?_
    refine rg ?_
    refine q trivial rfl rfl (mv (v := .int .i64 z) rfl) ?_
    refine ixg1 (n := 7) z.toNat ar28 rfl (ieq (x := z) (by omega)) hGk (by first | omega | (simp; omega)) (getm Str [] (by rw [kindTs_len]; first | omega | (simp; omega))) trivial rfl (fun a1 ha1 => ?_)
    refine q trivial rfl rfl (lda (v := Str (kindTs.getD z.toNat [])) hs1 ha1 (fun _ h => h) rfl rfl one9) ?_
    refine q trivial rfl rfl (asg (v := Str (kindTs.getD z.toNat [])) rfl) ?_
    refine nl ?_
    refine nN ?_
    refine rt ?_
    refine fret (v := Str (kindTs.getD z.toNat [])) (.tmp .nil) rfl ?_
    have e2 : kindTs.getD z.toNat [] = kindText z := by first | rfl | exact (kindText_no (by omega)).symm | exact (kindText_yes (by omega)).symm
    exact ⟨(congrArg (Str) e2), hs1⟩

theorem drawKindText {Acs : Option Addr} {ccs : Nat} (cs : List UInt8) (w : World) (hcs : Sl w [] 1 Acs cs.length ccs (cs.map U)) : Does Tryd.prog 8 [.slice Acs cs.length ccs] w (fun v w' => ∃ r : Int, v = .int .i64 r ∧ (-1 ≤ r ∧ r ≤ 7) ∧ SH w w' [] []) := by
  refine fn_enter (N := 7) Tryd.func8 rfl (by kernel_rfl) rfl rfl rfl ?_
  have hs0 : SH w w [] [] := SH.refl w []
  have hcs_m : cs.length ≤ 9223372036854775807 := Nat.le_trans hcs.cap hcs.capMax
  refine sq ?_
  refine rg ?_
  refine q trivial rfl rfl (asg (v := .int .i64 0) rfl) ?_
  refine nl ?_
  refine nN ?_
  refine sq ?_
  refine rg ?_
  refine q trivial rfl rfl (mv (v := .slice Acs cs.length ccs) rfl) ?_
  refine cl trivial rfl (l6Open (Acs := Acs) (ccs := ccs) (cs := cs) (w := _) (hcs := (hcs.up0 hs0))) ?_
  rintro _ w1 ⟨g1, rfl, hs1'⟩
  have hs1 : SH w w1 [] [.blk g1 33 [.slice Acs ((cs.take 2000).length) ccs, .int .i64 0]] := hs0.call0 hs1'
  clear hs1'
  refine cl trivial rfl (pick (rb := g1) (Ab := Acs) (cb := ccs) (bs := cs.take 2000) (p := 0) (n := 9) (w := _) (hr := (blk_heap hs1 0 rfl)) (hb := (Sl.take_ (hcs.up hs1 (by simp) (fun k h => .inr (hs1.lo1 0 rfl k h))) 2000)) (hbn := (by first | assumption | (simp; omega))) (hp := (by omega))) ?_
  rintro _ w2 ⟨r1, q1, rfl, p1, p2, hs2'⟩
  have hs2 : SH w w2 [] [.blk g1 33 [.slice Acs ((cs.take 2000).length) ccs, .int .i64 ((q1 : Nat) : Int)]] := hs1.callM 0 rfl hs2' (by intro k hk; simp at hk; exact hk.symm)
  clear hs2'
  refine q trivial rfl rfl (sub (a := r1) (b := 1) rfl rfl (by exact ⟨by omega, by omega⟩)) ?_
  refine q trivial rfl rfl (asg (v := .int .i64 (r1 - 1)) rfl) ?_
  refine nl ?_
  refine nN ?_
  refine rt ?_
  refine fret (v := .int .i64 (r1 - 1)) (.tmp .nil) rfl ?_
  exact ⟨r1 - 1, rfl, (by omega), (hs2.pick [] rfl (by decide))⟩


end Go.Proofs.YthpdfolobbacpaaDoor
