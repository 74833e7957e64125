/-
  Part of the proofs over this seat: what each function of the program computes, function by function (the text is written by a program of this hand-in's own).
  Conditions: each theorem states its own.
-/
import Derived.Test.YtgefaejgkcbkpaaPfWalks
namespace Go.Proofs.Ytgefaejgkcbkpaa
open Go.PF
set_option maxRecDepth 100000
set_option linter.unusedSimpArgs false
set_option linter.unusedVariables false

theorem samePipe {Axs : Option Addr} {cxs : Nat} (xs : List Int) (n1 : Int) (e1 : Bool) {Ays : Option Addr} {cys : Nat} (ys : List Int) (n2 : Int) (e2 : Bool) (w : World) (hxs : Sl w [] 1 Axs xs.length cxs (xs.map I)) (hys : Sl w [] 1 Ays ys.length cys (ys.map I)) : Does Try.prog 26 [.agg #[.slice Axs xs.length cxs, .int .i64 n1, .bool e1], .agg #[.slice Ays ys.length cys, .int .i64 n2, .bool e2]] w (fun v w' => v = .bool (decide (xs = ys ∧ n1 = n2 ∧ e1 = e2)) ∧ SH w w' [] []) := by
  refine fn_enter (N := 24) Try.func26 rfl (by kernel_rfl) rfl rfl rfl ?_
  have hs0 : SH w w [] [] := SH.refl w []
  have hxs_m : xs.length ≤ 9223372036854775807 := Nat.le_trans hxs.cap hxs.capMax
  have hys_m : ys.length ≤ 9223372036854775807 := Nat.le_trans hys.cap hys.capMax
  refine sq ?_
  refine rg ?_
  refine bx (v := .agg #[.slice Axs xs.length cxs, .int .i64 n1, .bool e1]) (cs := [.slice Axs xs.length cxs, .int .i64 n1, .bool e1]) hs0 rfl rfl trivial rfl (fun b1 w1 (hs1 : SH w w1 [] [.blk b1 25 [.slice Axs xs.length cxs, .int .i64 n1, .bool e1]]) => ?_)
  refine bx (v := .agg #[.slice Ays ys.length cys, .int .i64 n2, .bool e2]) (cs := [.slice Ays ys.length cys, .int .i64 n2, .bool e2]) hs1 rfl rfl trivial rfl (fun b2 w2 (hs2 : SH w w2 [] [.blk b1 25 [.slice Axs xs.length cxs, .int .i64 n1, .bool e1], .blk b2 25 [.slice Ays ys.length cys, .int .i64 n2, .bool e2]]) => ?_)
  refine q trivial rfl rfl (asg (v := .bool false) rfl) ?_
  refine nl ?_
  refine nN ?_
  refine sq ?_
  refine rg ?_
  refine q trivial rfl rfl (fa 1 fo25_1 rfl) ?_
  refine q trivial rfl rfl (ld (v := .int .i64 n1) hs2 0 rfl rfl rfl one3) ?_
  refine q trivial rfl rfl (fa 1 fo25_1 rfl) ?_
  refine q trivial rfl rfl (ld (v := .int .i64 n2) hs2 1 rfl rfl rfl one3) ?_
  refine q trivial rfl rfl (eqi (k := .i64) (a := n1) (b := n2) rfl rfl) ?_
  refine q trivial rfl rfl (mv (v := .bool (decide (n1 = n2))) rfl) ?_
  refine spd (p := n1 = n2) 10 rfl (fun h1 => ?_) (fun h1 => ?_)
  · refine q ⟨_, rfl, rfl⟩ rfl rfl (fa 2 fo25_2 rfl) ?_
    refine q ⟨_, rfl, rfl⟩ rfl rfl (ld (v := .bool e1) hs2 0 rfl rfl rfl one4) ?_
    refine q ⟨_, rfl, rfl⟩ rfl rfl (fa 2 fo25_2 rfl) ?_
    refine q ⟨_, rfl, rfl⟩ rfl rfl (ld (v := .bool e2) hs2 1 rfl rfl rfl one4) ?_
    refine q ⟨_, rfl, rfl⟩ rfl rfl (eqb (a := e1) (b := e2) tb4 rfl rfl) ?_
    refine q trivial rfl rfl (pt (v := .bool (decide (e1 = e2))) rfl rfl) ?_
    refine q trivial rfl rfl (mv (v := .bool (decide (e1 = e2))) rfl) ?_
    refine spd (p := e1 = e2) 17 rfl (fun h2 => ?_) (fun h2 => ?_)
    · refine q ⟨_, rfl, rfl⟩ rfl rfl (fa 0 fo25_0 rfl) ?_
      refine q ⟨_, rfl, rfl⟩ rfl rfl (ld (v := .slice Axs xs.length cxs) hs2 0 rfl rfl rfl one23) ?_
      refine q ⟨_, rfl, rfl⟩ rfl rfl (fa 0 fo25_0 rfl) ?_
      refine q ⟨_, rfl, rfl⟩ rfl rfl (ld (v := .slice Ays ys.length cys) hs2 1 rfl rfl rfl one23) ?_
      refine cl ⟨_, rfl, rfl⟩ rfl (sameBytes (Axs := Axs) (cxs := cxs) (xs := xs) (Abs := Ays) (cbs := cys) (bs := ys) (w := _) (hxs := (hxs.up0 hs2)) (hbs := (hys.up0 hs2))) ?_
      rintro _ w3 ⟨rfl, hs3'⟩
      have hs3 : SH w w3 [] [.blk b1 25 [.slice Axs xs.length cxs, .int .i64 n1, .bool e1], .blk b2 25 [.slice Ays ys.length cys, .int .i64 n2, .bool e2]] := hs2.call0 hs3'
      clear hs3'
      refine q trivial rfl rfl (pt (v := .bool (decide (xs = ys))) rfl rfl) ?_
      refine q trivial rfl rfl (asg (v := .bool (decide (xs = ys))) rfl) ?_
      refine nl ?_
      refine nN ?_
      refine rt ?_
      refine fret (v := .bool (decide (xs = ys))) (.tmp .nil) rfl ?_
      have e1 : (decide (xs = ys)) = (decide (xs = ys ∧ n1 = n2 ∧ e1 = e2)) := by simp [h1, h2] <;> simp_all
      exact ⟨(congrArg (Value.bool) e1), (hs3.pick [] rfl (by decide))⟩
    · refine gk false rfl rfl rfl rfl rfl ?_
      refine gk false rfl rfl rfl rfl rfl ?_
      refine gk false rfl rfl rfl rfl rfl ?_
      refine gk false rfl rfl rfl rfl rfl ?_
      refine gk false rfl rfl rfl rfl rfl ?_
      refine q trivial rfl rfl (pf (v := .bool false) rfl rfl) ?_
      refine q trivial rfl rfl (asg (v := .bool false) rfl) ?_
      refine nl ?_
      refine nN ?_
      refine rt ?_
      refine fret (v := .bool false) (.tmp .nil) rfl ?_
      have e2 : false = (decide (xs = ys ∧ n1 = n2 ∧ e1 = e2)) := by simp [h1, h2] <;> simp_all
      exact ⟨(congrArg (Value.bool) e2), (hs2.pick [] rfl (by decide))⟩
  · refine gk false rfl rfl rfl rfl rfl ?_
    refine gk false rfl rfl rfl rfl rfl ?_
    refine gk false rfl rfl rfl rfl rfl ?_
    refine gk false rfl rfl rfl rfl rfl ?_
    refine gk false rfl rfl rfl rfl rfl ?_
    refine q trivial rfl rfl (pf (v := .bool false) rfl rfl) ?_
    refine q trivial rfl rfl (mv (v := .bool false) rfl) ?_
    refine gk false rfl rfl rfl rfl rfl ?_
    refine gk false rfl rfl rfl rfl rfl ?_
    refine gk false rfl rfl rfl rfl rfl ?_
    refine gk false rfl rfl rfl rfl rfl ?_
    refine gk false rfl rfl rfl rfl rfl ?_
    refine q trivial rfl rfl (pf (v := .bool false) rfl rfl) ?_
    refine q trivial rfl rfl (asg (v := .bool false) rfl) ?_
    refine nl ?_
    refine nN ?_
    refine rt ?_
    refine fret (v := .bool false) (.tmp .nil) rfl ?_
    have e3 : false = (decide (xs = ys ∧ n1 = n2 ∧ e1 = e2)) := by simp [h1] <;> simp_all
    exact ⟨(congrArg (Value.bool) e3), (hs2.pick [] rfl (by decide))⟩

theorem szIntS {Axs : Option Addr} {cxs : Nat} (xs : List Int) (z : Int) (w : World) (hxs : Sl w [] 1 Axs xs.length cxs (xs.map I)) (hz : 0 ≤ z ∧ z ≤ 1099511627776) : Does Try.prog 46 [.slice Axs xs.length cxs, .int .i64 z] w (fun v w' => v = .int .i64 (szI xs.length z) ∧ SH w w' [] []) := by
  refine fn_enter (N := 12) Try.func46 rfl (by kernel_rfl) rfl rfl rfl ?_
  have hs0 : SH w w [] [] := SH.refl w []
  have hxs_m : xs.length ≤ 9223372036854775807 := Nat.le_trans hxs.cap hxs.capMax
  refine sq ?_
  refine rg ?_
  refine q trivial rfl rfl (asg (v := .int .i64 0) rfl) ?_
  refine nl ?_
  refine nN ?_
  refine sq ?_
  refine rg ?_
  refine q trivial rfl rfl (mv (v := .int .i64 z) rfl) ?_
  refine q trivial rfl rfl (mv (v := .slice Axs xs.length cxs) rfl) ?_
  refine q trivial rfl rfl (lnA (n := xs.length) sl23 rfl) ?_
  refine q trivial rfl rfl (sub (a := z) (b := ((xs.length : Nat) : Int)) rfl rfl (by exact ⟨by omega, by omega⟩)) ?_
  refine q trivial rfl rfl (asg (v := .int .i64 (z - ((xs.length : Nat) : Int))) rfl) ?_
  refine nl ?_
  refine nN ?_
  refine sq ?_
  refine sq ?_
  refine rg ?_
  refine q trivial rfl rfl (mv (v := .int .i64 (z - ((xs.length : Nat) : Int))) rfl) ?_
  refine q trivial rfl rfl (lss (k := .i64) (a := z - ((xs.length : Nat) : Int)) (b := 0) rfl rfl) ?_
  refine nl ?_
  refine nN ?_
  refine cdd (p := (z - ((xs.length : Nat) : Int)) < 0) rfl (fun h1 => ?_) (fun h1 => ?_)
  · refine sq ?_
    refine rg ?_
    refine q trivial rfl rfl (asg (v := .int .i64 (-1)) rfl) ?_
    refine nl ?_
    refine nN ?_
    refine rt (tR ?_)
    refine fret (v := .int .i64 (-1)) (.tmp .nil) rfl ?_
    have e1 : (-1) = szI xs.length z := by simp [szI] <;> omega
    exact ⟨(congrArg (Value.int .i64) e1), hs0⟩
  · refine sk ?_
    refine nN ?_
    refine sq ?_
    refine rg ?_
    refine q trivial rfl rfl (mv (v := .int .i64 (z - ((xs.length : Nat) : Int))) rfl) ?_
    refine q trivial rfl rfl (asg (v := .int .i64 (z - ((xs.length : Nat) : Int))) rfl) ?_
    refine nl ?_
    refine nN ?_
    refine rt ?_
    refine fret (v := .int .i64 (z - ((xs.length : Nat) : Int))) (.tmp .nil) rfl ?_
    have e2 : z - ((xs.length : Nat) : Int) = szI xs.length z := by simp [szI] <;> omega
    exact ⟨(congrArg (Value.int .i64) e2), hs0⟩

theorem szPipe {Axs : Option Addr} {cxs : Nat} (xs : List Int) (ni : Int) (eb : Bool) (z : Int) (w : World) (hxs : Sl w [] 1 Axs xs.length cxs (xs.map I)) (hz : 0 ≤ z ∧ z ≤ 1099511627776) : Does Try.prog 19 [.agg #[.slice Axs xs.length cxs, .int .i64 ni, .bool eb], .int .i64 z] w (fun v w' => v = .int .i64 (szI xs.length z) ∧ SH w w' [] []) := by
  refine fn_enter (N := 12) Try.func19 rfl (by kernel_rfl) rfl rfl rfl ?_
  have hs0 : SH w w [] [] := SH.refl w []
  have hxs_m : xs.length ≤ 9223372036854775807 := Nat.le_trans hxs.cap hxs.capMax
  refine sq ?_
  refine rg ?_
  refine bx (v := .agg #[.slice Axs xs.length cxs, .int .i64 ni, .bool eb]) (cs := [.slice Axs xs.length cxs, .int .i64 ni, .bool eb]) hs0 rfl rfl trivial rfl (fun b1 w1 (hs1 : SH w w1 [] [.blk b1 29 [.slice Axs xs.length cxs, .int .i64 ni, .bool eb]]) => ?_)
  refine q trivial rfl rfl (asg (v := .int .i64 0) rfl) ?_
  refine nl ?_
  refine nN ?_
  refine sq ?_
  refine rg ?_
  refine q trivial rfl rfl (fa 0 fo29_0 rfl) ?_
  refine q trivial rfl rfl (ld (v := .slice Axs xs.length cxs) hs1 0 rfl rfl rfl one23) ?_
  refine q trivial rfl rfl (mv (v := .int .i64 z) rfl) ?_
  refine cl trivial rfl (szIntS (Axs := Axs) (cxs := cxs) (xs := xs) (z := z) (w := _) (hxs := (hxs.up0 hs1)) (hz := (by first | omega | assumption | (simp; done) | (simp; omega)))) ?_
  rintro _ w2 ⟨rfl, hs2'⟩
  have hs2 : SH w w2 [] [.blk b1 29 [.slice Axs xs.length cxs, .int .i64 ni, .bool eb]] := hs1.call0 hs2'
  clear hs2'
  refine q trivial rfl rfl (asg (v := .int .i64 (szI xs.length z)) rfl) ?_
  refine nl ?_
  refine nN ?_
  refine sq ?_
  refine sq ?_
  refine rg ?_
  refine q trivial rfl rfl (mv (v := .int .i64 (szI xs.length z)) rfl) ?_
  refine q trivial rfl rfl (lss (k := .i64) (a := szI xs.length z) (b := 0) rfl rfl) ?_
  refine nl ?_
  refine nN ?_
  refine cdd (p := (szI xs.length z) < 0) rfl (fun h1 => ?_) (fun h1 => ?_)
  · refine sq ?_
    refine rg ?_
    refine q trivial rfl rfl (asg (v := .int .i64 (-1)) rfl) ?_
    refine nl ?_
    refine nN ?_
    refine rt (tR ?_)
    refine fret (v := .int .i64 (-1)) (.tmp .nil) rfl ?_
    have e1 : (-1) = szI xs.length z := by unfold szI at *; split at * <;> omega
    exact ⟨(congrArg (Value.int .i64) e1), (hs2.pick [] rfl (by decide))⟩
  · refine sk ?_
    refine nN ?_
    refine sq ?_
    refine rg ?_
    refine q trivial rfl rfl (mv (v := .int .i64 (szI xs.length z)) rfl) ?_
    refine q trivial rfl rfl (asg (v := .int .i64 (szI xs.length z)) rfl) ?_
    refine nl ?_
    refine nN ?_
    refine rt ?_
    refine fret (v := .int .i64 (szI xs.length z)) (.tmp .nil) rfl ?_
    exact ⟨rfl, (hs2.pick [] rfl (by decide))⟩

theorem toPipe {Axs : Option Addr} {cxs : Nat} (xs : List Int) (ni : Int) (eb : Bool) (w : World) (hxs : Sl w [] 1 Axs xs.length cxs (xs.map I)) (hxs_n : xs.length ≤ 1099511627776) : Does Try.prog 20 [.agg #[.slice Axs xs.length cxs, .int .i64 ni, .bool eb]] w (fun v w' => ∃ Ar : Option Addr, ∃ cr : Nat, v = .agg #[.slice Ar xs.length cr, .int .i64 ni, .bool eb] ∧ SH w w' [] [.own Ar xs.length cr 3 1 (xs.map I)]) := by
  refine fn_enter (N := 15) Try.func20 rfl (by kernel_rfl) rfl rfl rfl ?_
  have hs0 : SH w w [] [] := SH.refl w []
  have hxs_m : xs.length ≤ 9223372036854775807 := Nat.le_trans hxs.cap hxs.capMax
  refine sq ?_
  refine rg ?_
  refine bx (v := .agg #[.slice Axs xs.length cxs, .int .i64 ni, .bool eb]) (cs := [.slice Axs xs.length cxs, .int .i64 ni, .bool eb]) hs0 rfl rfl trivial rfl (fun b1 w1 (hs1 : SH w w1 [] [.blk b1 29 [.slice Axs xs.length cxs, .int .i64 ni, .bool eb]]) => ?_)
  refine al (v := .agg #[.slice none 0 0, .int .i64 0, .bool false]) (cs := [.slice none 0 0, .int .i64 0, .bool false]) hs1 tz25 rfl trivial rfl (fun b2 w2 (hs2 : SH w w2 [] [.blk b1 29 [.slice Axs xs.length cxs, .int .i64 ni, .bool eb], .blk b2 25 [.slice none 0 0, .int .i64 0, .bool false]]) => ?_)
  refine nl ?_
  refine nN ?_
  refine sq ?_
  refine rg ?_
  refine al (v := .agg #[.slice none 0 0, .int .i64 0, .bool false]) (cs := [.slice none 0 0, .int .i64 0, .bool false]) hs2 tz25 rfl trivial rfl (fun b3 w3 (hs3 : SH w w3 [] [.blk b1 29 [.slice Axs xs.length cxs, .int .i64 ni, .bool eb], .blk b2 25 [.slice none 0 0, .int .i64 0, .bool false], .blk b3 25 [.slice none 0 0, .int .i64 0, .bool false]]) => ?_)
  refine nl ?_
  refine nN ?_
  refine sq ?_
  refine rg ?_
  refine q trivial rfl rfl (fa 0 fo29_0 rfl) ?_
  refine q trivial rfl rfl (ld (v := .slice Axs xs.length cxs) hs3 0 rfl rfl rfl one23) ?_
  refine cl trivial rfl (toIntS (Axs := Axs) (cxs := cxs) (xs := xs) (w := _) (hxs := (hxs.up0 hs3)) (hxs_n := (by first | omega | (simp; omega)))) ?_
  rintro _ w4 ⟨A1, c1, rfl, hs4'⟩
  have hs4 : SH w w4 [] [.blk b1 29 [.slice Axs xs.length cxs, .int .i64 ni, .bool eb], .blk b2 25 [.slice none 0 0, .int .i64 0, .bool false], .blk b3 25 [.slice none 0 0, .int .i64 0, .bool false], .own A1 xs.length c1 3 1 (xs.map I)] := hs3.call0 hs4'
  clear hs4'
  refine q trivial rfl rfl (fa 0 fo25_0 rfl) ?_
  refine st (v := .slice A1 xs.length c1) hs4 2 rfl rfl rfl rfl rfl one23 trivial (fun w5 (hs5 : SH w w5 [] [.blk b1 29 [.slice Axs xs.length cxs, .int .i64 ni, .bool eb], .blk b2 25 [.slice none 0 0, .int .i64 0, .bool false], .own A1 xs.length c1 3 1 (xs.map I), .blk b3 25 [.slice A1 xs.length c1, .int .i64 0, .bool false]]) => ?_)
  refine nl ?_
  refine nN ?_
  refine sq ?_
  refine rg ?_
  refine q trivial rfl rfl (fa 1 fo29_1 rfl) ?_
  refine q trivial rfl rfl (ld (v := .int .i64 ni) hs5 0 rfl rfl rfl one3) ?_
  refine q trivial rfl rfl (fa 1 fo25_1 rfl) ?_
  refine st (v := .int .i64 ni) hs5 3 rfl rfl rfl rfl rfl one3 trivial (fun w6 (hs6 : SH w w6 [] [.blk b1 29 [.slice Axs xs.length cxs, .int .i64 ni, .bool eb], .blk b2 25 [.slice none 0 0, .int .i64 0, .bool false], .own A1 xs.length c1 3 1 (xs.map I), .blk b3 25 [.slice A1 xs.length c1, .int .i64 ni, .bool false]]) => ?_)
  refine nl ?_
  refine nN ?_
  refine sq ?_
  refine rg ?_
  refine q trivial rfl rfl (fa 2 fo29_2 rfl) ?_
  refine q trivial rfl rfl (ld (v := .bool eb) hs6 0 rfl rfl rfl one4) ?_
  refine q trivial rfl rfl (fa 2 fo25_2 rfl) ?_
  refine st (v := .bool eb) hs6 3 rfl rfl rfl rfl rfl one4 trivial (fun w7 (hs7 : SH w w7 [] [.blk b1 29 [.slice Axs xs.length cxs, .int .i64 ni, .bool eb], .blk b2 25 [.slice none 0 0, .int .i64 0, .bool false], .own A1 xs.length c1 3 1 (xs.map I), .blk b3 25 [.slice A1 xs.length c1, .int .i64 ni, .bool eb]]) => ?_)
  refine nl ?_
  refine nN ?_
  refine sq ?_
  refine rg ?_
  refine q trivial rfl rfl (ldg (vs := [.slice A1 xs.length c1, .int .i64 ni, .bool eb]) hs7 3 rfl rfl rfl rfl ag25) ?_
  refine stg (vs := [.slice A1 xs.length c1, .int .i64 ni, .bool eb]) hs7 1 rfl rfl rfl rfl rfl rfl rfl ag25 trivial (fun w8 (hs8 : SH w w8 [] [.blk b1 29 [.slice Axs xs.length cxs, .int .i64 ni, .bool eb], .own A1 xs.length c1 3 1 (xs.map I), .blk b3 25 [.slice A1 xs.length c1, .int .i64 ni, .bool eb], .blk b2 25 [.slice A1 xs.length c1, .int .i64 ni, .bool eb]]) => ?_)
  refine nl ?_
  refine nN ?_
  have hs9 : SH w w8 [] [.own A1 xs.length c1 3 1 (xs.map I), .blk b2 25 [.slice A1 xs.length c1, .int .i64 ni, .bool eb]] := hs8.pick [1, 3] rfl (by decide)
  refine rt ?_
  refine fret (v := .agg #[.slice A1 xs.length c1, .int .i64 ni, .bool eb]) (resC hs9 1 rfl rfl ag25 rfl .nil) rfl ?_
  exact ⟨A1, c1, rfl, (hs9.pick [0] rfl (by decide))⟩

theorem markPipe {Axs : Option Addr} {cxs : Nat} (xs : List Int) (ni : Int) (eb : Bool) (k0 : Int) (w : World) (hxs : OwnR w Axs xs.length cxs 3 1 (xs.map I)) (hxs_n : xs.length ≤ 1099511627776) (hk0 : 0 ≤ k0 ∧ k0 ≤ 4294967296) : Does Try.prog 29 [.agg #[.slice Axs xs.length cxs, .int .i64 ni, .bool eb], .int .i64 k0] w (fun v w' => v = .int .i64 (k0 + ((xs.length : Nat) : Int)) ∧ SH w w' (ownM Axs cxs ++ []) [.own Axs xs.length cxs 3 1 ((marks k0 xs.length).map I)]) := by
  refine fn_enter (N := 10) Try.func29 rfl (by kernel_rfl) rfl rfl rfl ?_
  have hs0 : SH w w (ownM Axs cxs ++ []) [.own Axs xs.length cxs 3 1 (xs.map I)] := entry1o hxs
  have hxs_m : xs.length ≤ 9223372036854775807 := Nat.le_trans hxs.2.1 hxs.2.2.1
  refine sq ?_
  refine rg ?_
  refine bx (v := .agg #[.slice Axs xs.length cxs, .int .i64 ni, .bool eb]) (cs := [.slice Axs xs.length cxs, .int .i64 ni, .bool eb]) hs0 rfl rfl trivial rfl (fun b1 w1 (hs1 : SH w w1 (ownM Axs cxs ++ []) [.own Axs xs.length cxs 3 1 (xs.map I), .blk b1 25 [.slice Axs xs.length cxs, .int .i64 ni, .bool eb]]) => ?_)
  refine q trivial rfl rfl (asg (v := .int .i64 0) rfl) ?_
  refine nl ?_
  refine nN ?_
  refine sq ?_
  refine rg ?_
  refine q trivial rfl rfl (fa 0 fo25_0 rfl) ?_
  refine q trivial rfl rfl (ld (v := .slice Axs xs.length cxs) hs1 1 rfl rfl rfl one23) ?_
  refine q trivial rfl rfl (mv (v := .int .i64 k0) rfl) ?_
  refine cl trivial rfl (markIntS (Axs := Axs) (cxs := cxs) (xs := xs) (k0 := k0) (w := _) (hxs := (own_ok hs1 0 rfl)) (hxs_n := (by first | omega | (simp; omega))) (hk0 := (by first | omega | assumption | (simp; done) | (simp; omega)))) ?_
  rintro _ w2 ⟨rfl, hs2'⟩
  have hs2 : SH w w2 (ownM Axs cxs ++ []) [.blk b1 25 [.slice Axs xs.length cxs, .int .i64 ni, .bool eb], .own Axs xs.length cxs 3 1 ((marks k0 xs.length).map I)] := SH.callK (K := [.own Axs xs.length cxs 3 1 (xs.map I)]) (R := [.blk b1 25 [.slice Axs xs.length cxs, .int .i64 ni, .bool eb]]) hs1 hs2' rfl
  clear hs2'
  have e1 : xs.length = (marks k0 xs.length).length := by first | rfl | (simp; done) | (simp; omega)
  have hs3 : SH w w2 (ownM Axs cxs ++ []) [.blk b1 25 [.slice Axs xs.length cxs, .int .i64 ni, .bool eb], .own Axs ((marks k0 xs.length).length) cxs 3 1 ((marks k0 xs.length).map I)] := (hs2.cast (lc rfl (lc (own_eq (g := I) rfl e1 rfl rfl) rfl)))
  clear hs2
  refine q trivial rfl rfl (asg (v := .int .i64 (k0 + ((xs.length : Nat) : Int))) rfl) ?_
  refine nl ?_
  refine nN ?_
  refine sq ?_
  refine rg ?_
  refine q trivial rfl rfl (mv (v := .int .i64 (k0 + ((xs.length : Nat) : Int))) rfl) ?_
  refine q trivial rfl rfl (asg (v := .int .i64 (k0 + ((xs.length : Nat) : Int))) rfl) ?_
  refine nl ?_
  refine nN ?_
  refine rt ?_
  refine fret (v := .int .i64 (k0 + ((xs.length : Nat) : Int))) (.tmp .nil) rfl ?_
  have e2 : (marks k0 xs.length).length = xs.length := by first | rfl | (simp; done) | omega
  exact ⟨rfl, ((hs3.pick [1] rfl (by decide)).cast (lc (own_eq (g := I) rfl e2 rfl rfl) rfl))⟩

theorem heldPipe {Axs : Option Addr} {cxs : Nat} (xs : List Int) (ni : Int) (eb : Bool) (k0 : Int) (w : World) (hxs : Sl w [] 1 Axs xs.length cxs (xs.map I)) (hxs_n : xs.length ≤ 1099511627776) (hk0 : 0 ≤ k0 ∧ k0 ≤ 4294967296) : Does Try.prog 30 [.agg #[.slice Axs xs.length cxs, .int .i64 ni, .bool eb], .int .i64 k0] w (fun v w' => v = .int .i64 (heldI xs k0) ∧ SH w w' [] []) := by
  refine fn_enter (N := 12) Try.func30 rfl (by kernel_rfl) rfl rfl rfl ?_
  have hs0 : SH w w [] [] := SH.refl w []
  have hxs_m : xs.length ≤ 9223372036854775807 := Nat.le_trans hxs.cap hxs.capMax
  refine sq ?_
  refine rg ?_
  refine bx (v := .agg #[.slice Axs xs.length cxs, .int .i64 ni, .bool eb]) (cs := [.slice Axs xs.length cxs, .int .i64 ni, .bool eb]) hs0 rfl rfl trivial rfl (fun b1 w1 (hs1 : SH w w1 [] [.blk b1 25 [.slice Axs xs.length cxs, .int .i64 ni, .bool eb]]) => ?_)
  refine q trivial rfl rfl (asg (v := .int .i64 0) rfl) ?_
  refine nl ?_
  refine nN ?_
  refine sq ?_
  refine rg ?_
  refine q trivial rfl rfl (fa 0 fo25_0 rfl) ?_
  refine q trivial rfl rfl (ld (v := .slice Axs xs.length cxs) hs1 0 rfl rfl rfl one23) ?_
  refine q trivial rfl rfl (mv (v := .int .i64 k0) rfl) ?_
  refine cl trivial rfl (heldIntS (Axs := Axs) (cxs := cxs) (xs := xs) (k0 := k0) (w := _) (hxs := (hxs.up0 hs1)) (hxs_n := (by first | omega | (simp; omega))) (hk0 := (by first | omega | assumption | (simp; done) | (simp; omega)))) ?_
  rintro _ w2 ⟨rfl, hs2'⟩
  have hs2 : SH w w2 [] [.blk b1 25 [.slice Axs xs.length cxs, .int .i64 ni, .bool eb]] := hs1.call0 hs2'
  clear hs2'
  refine q trivial rfl rfl (asg (v := .int .i64 (heldI xs k0)) rfl) ?_
  refine nl ?_
  refine nN ?_
  refine sq ?_
  refine sq ?_
  refine rg ?_
  refine q trivial rfl rfl (mv (v := .int .i64 (heldI xs k0)) rfl) ?_
  refine q trivial rfl rfl (lss (k := .i64) (a := heldI xs k0) (b := 0) rfl rfl) ?_
  refine nl ?_
  refine nN ?_
  refine cdd (p := (heldI xs k0) < 0) rfl (fun h1 => ?_) (fun h1 => ?_)
  · refine sq ?_
    refine rg ?_
    refine q trivial rfl rfl (asg (v := .int .i64 (-1)) rfl) ?_
    refine nl ?_
    refine nN ?_
    refine rt (tR ?_)
    refine fret (v := .int .i64 (-1)) (.tmp .nil) rfl ?_
    have e1 : (-1) = heldI xs k0 := by have := heldI_lo xs k0 (by omega); omega
    exact ⟨(congrArg (Value.int .i64) e1), (hs2.pick [] rfl (by decide))⟩
  · refine sk ?_
    refine nN ?_
    refine sq ?_
    refine rg ?_
    refine q trivial rfl rfl (mv (v := .int .i64 (heldI xs k0)) rfl) ?_
    refine q trivial rfl rfl (asg (v := .int .i64 (heldI xs k0)) rfl) ?_
    refine nl ?_
    refine nN ?_
    refine rt ?_
    refine fret (v := .int .i64 (heldI xs k0)) (.tmp .nil) rfl ?_
    exact ⟨rfl, (hs2.pick [] rfl (by decide))⟩

theorem l92Pipe {rb : Nat} {Ab : Option Addr} {cb : Nat} {bs : List UInt8} {p : Nat} (w : World) (hr : w.heap[rb]? = some (.cells [.slice Ab bs.length cb, .int .i64 ((p : Nat) : Int)].toArray 60 (0, 0))) (hb : Sl w [rb] 1 Ab bs.length cb (bs.map U)) (hbn : bs.length ≤ 2000) (hp : p ≤ 549755813888) : Does Try.prog 40 [.pointer (some ⟨rb, 0, none⟩)] w (fun v w' => ∃ Ar : Option Addr, ∃ cr : Nat, ∃ r : List Int, ∃ ni : Int, ∃ eb : Bool, ∃ q : Nat, v = .agg #[.slice Ar r.length cr, .int .i64 ni, .bool eb] ∧ (r.length ≤ 17) ∧ (q ≤ p + 100) ∧ SH w w' [rb] [.blk rb 60 [.slice Ab bs.length cb, .int .i64 ((q : Nat) : Int)], .own Ar r.length cr 3 1 (r.map I)]) := by
  refine fn_enter (N := 40) Try.func40 rfl (by kernel_rfl) rfl rfl rfl ?_
  have hs0 : SH w w [rb] [.blk rb 60 [.slice Ab bs.length cb, .int .i64 ((p : Nat) : Int)]] := SH.entry1 hr
  refine sq ?_
  refine rg ?_
  refine al (v := .agg #[.slice none 0 0, .int .i64 0, .bool false]) (cs := [.slice none 0 0, .int .i64 0, .bool false]) hs0 tz25 rfl trivial rfl (fun b1 w1 (hs1 : SH w w1 [rb] [.blk rb 60 [.slice Ab bs.length cb, .int .i64 ((p : Nat) : Int)], .blk b1 25 [.slice none 0 0, .int .i64 0, .bool false]]) => ?_)
  refine nl ?_
  refine nN ?_
  refine sq ?_
  refine rg ?_
  refine q trivial rfl rfl (mv (v := .pointer (some ⟨rb, 0, none⟩)) rfl) ?_
  refine cl trivial rfl (l91Bytes (rb := rb) (Ab := Ab) (cb := cb) (bs := bs) (p := p) (n := 12) (w := _) (hr := (blk_heap hs1 0 rfl)) (hb := (hb.up hs1 (fun _ h => h) (fun _ h => .inl h))) (hbn := (by first | assumption | (simp; omega))) (hp := (by omega)) (hn := (by first | omega | assumption | (simp; done) | (simp; omega)))) ?_
  rintro _ w2 ⟨A1, c1, r1, q1, rfl, p1, p2, hs2'⟩
  have hs2 : SH w w2 [rb] [.blk b1 25 [.slice none 0 0, .int .i64 0, .bool false], .blk rb 60 [.slice Ab bs.length cb, .int .i64 ((q1 : Nat) : Int)], .own A1 r1.length c1 3 1 (r1.map I)] := hs1.callM 0 rfl hs2' (by intro k hk; simp at hk; exact hk.symm)
  clear hs2'
  refine q trivial rfl rfl (mv (v := .pointer (some ⟨rb, 0, none⟩)) rfl) ?_
  refine cl trivial rfl (pick (rb := rb) (Ab := Ab) (cb := cb) (bs := bs) (p := q1) (n := 5) (w := _) (hr := (blk_heap hs2 1 rfl)) (hb := (hb.up hs2 (fun _ h => h) (fun _ h => .inl h))) (hbn := (by first | assumption | (simp; omega))) (hp := (by omega))) ?_
  rintro _ w3 ⟨r2, q2, rfl, p3, p4, hs3'⟩
  have hs3 : SH w w3 [rb] [.blk b1 25 [.slice none 0 0, .int .i64 0, .bool false], .own A1 r1.length c1 3 1 (r1.map I), .blk rb 60 [.slice Ab bs.length cb, .int .i64 ((q2 : Nat) : Int)]] := hs2.callM 1 rfl hs3' (by intro k hk; simp at hk; exact hk.symm)
  clear hs3'
  refine q trivial rfl rfl (eqi (k := .i64) (a := r2) (b := 0) rfl rfl) ?_
  refine q trivial rfl rfl (bdv (v := .agg #[.slice A1 r1.length c1, .int .i64 0, .bool (decide (r2 = 0))]) [(0, .slice A1 r1.length c1), (2, .bool (decide (r2 = 0)))] rfl (fun _ => by kernel_rfl)) ?_
  refine al (v := .agg #[.slice none 0 0, .int .i64 0, .bool false]) (cs := [.slice none 0 0, .int .i64 0, .bool false]) hs3 tz25 rfl trivial rfl (fun b2 w4 (hs4 : SH w w4 [rb] [.blk b1 25 [.slice none 0 0, .int .i64 0, .bool false], .own A1 r1.length c1 3 1 (r1.map I), .blk rb 60 [.slice Ab bs.length cb, .int .i64 ((q2 : Nat) : Int)], .blk b2 25 [.slice none 0 0, .int .i64 0, .bool false]]) => ?_)
  refine stg (vs := [.slice A1 r1.length c1, .int .i64 0, .bool (decide (r2 = 0))]) hs4 3 rfl rfl rfl rfl rfl rfl rfl ag25 trivial (fun w5 (hs5 : SH w w5 [rb] [.blk b1 25 [.slice none 0 0, .int .i64 0, .bool false], .own A1 r1.length c1 3 1 (r1.map I), .blk rb 60 [.slice Ab bs.length cb, .int .i64 ((q2 : Nat) : Int)], .blk b2 25 [.slice A1 r1.length c1, .int .i64 0, .bool (decide (r2 = 0))]]) => ?_)
  refine nl ?_
  refine nN ?_
  refine sq ?_
  refine raJ (fun w' => ∃ L, SH w w' [rb] L ∧ (.blk b1 25 [.slice none 0 0, .int .i64 0, .bool false]) ∈ L ∧ True) (fun f w' => ∃ r_2_4 : Int, ∃ q_2_4 : Nat, Has f [(0, .pointer (some ⟨rb, 0, none⟩)), (2, .pointer (some ⟨b1, 0, none⟩)), (3, .pointer (some ⟨b2, 0, none⟩))] ∧ (0 ≤ r_2_4 ∧ (r_2_4 < 20 ∨ r_2_4 = 0)) ∧ (q_2_4 ≤ q2 + 1) ∧ SH w w' [rb] [.blk b1 25 [.slice none 0 0, .int .i64 0, .bool false], .own A1 r1.length c1 3 1 (r1.map I), .blk rb 60 [.slice Ab bs.length cb, .int .i64 ((q_2_4 : Nat) : Int)], .blk b2 25 [.slice A1 r1.length c1, .int .i64 (((r1.length : Nat) : Int) + r_2_4), .bool (decide (r2 = 0))]]) mixed ?_ ?_
  · have hs6 := hs5.drew
    refine tk (fuel := 6) (is := [0, 3]) (.cons rfl (.cons rfl (.nil))) (by kernel_rfl) (by kernel_rfl) ⟨_, hs6, memi 0 rfl, trivial⟩ ?_
    refine .op trivial rfl rfl (fun wq _ => fa 0 fo25_0 rfl) ?_
    refine .op trivial rfl rfl (fun wq _ => mv (v := .pointer (some ⟨rb, 0, none⟩)) rfl) ?_
    refine .nil ?_
    refine a2 (i := 1) (j := 4) (by kernel_rfl) ?_ ?_
    · refine one_ rfl ?_
      refine q trivial rfl rfl (ld (v := .slice A1 r1.length c1) hs6 3 rfl rfl rfl one23) ?_
      refine nl (kq ⟨_, hs6, memi 0 rfl, trivial⟩ ?_)
      refine tk (fuel := 4) (is := [2]) (.cons rfl (.nil)) (by kernel_rfl) (by kernel_rfl) ⟨_, hs6, memi 0 rfl, trivial⟩ ?_
      refine .op trivial rfl rfl (fun wq _ => lnA (n := r1.length) sl23 rfl) ?_
      refine .nil ?_
      refine a1 (i := 4) (by kernel_rfl) ?_
      refine one_ rfl ?_
      refine cl trivial rfl (pick (rb := rb) (Ab := Ab) (cb := cb) (bs := bs) (p := q2) (n := 20) (w := _) (hr := (blk_heap hs6 2 rfl)) (hb := (hb.up hs6 (fun _ h => h) (fun _ h => .inl h))) (hbn := (by first | assumption | (simp; omega))) (hp := (by omega))) ?_
      rintro _ w6 ⟨r_2_4, q_2_4, rfl, p5, p6, hs7'⟩
      have hs7 : SH w w6 [rb] [.blk b1 25 [.slice none 0 0, .int .i64 0, .bool false], .own A1 r1.length c1 3 1 (r1.map I), .blk b2 25 [.slice A1 r1.length c1, .int .i64 0, .bool (decide (r2 = 0))], .blk rb 60 [.slice Ab bs.length cb, .int .i64 ((q_2_4 : Nat) : Int)]] := hs6.callM 2 rfl hs7' (by intro k hk; simp at hk; exact hk.symm)
      clear hs7'
      refine nl (kq ⟨_, hs7, memi 0 rfl, trivial⟩ ?_)
      refine tk (fuel := 1) (is := [5, 6]) (.cons rfl (.cons rfl (.nil))) (by kernel_rfl) (by kernel_rfl) ⟨_, hs7, memi 0 rfl, trivial⟩ ?_
      refine .op trivial rfl rfl (fun wq _ => add (a := ((r1.length : Nat) : Int)) (b := r_2_4) rfl rfl (by exact ⟨by omega, by omega⟩)) ?_
      refine .op trivial rfl rfl (fun wq _ => fa 1 fo25_1 rfl) ?_
      refine .nil ?_
      refine a1 (i := 7) (by kernel_rfl) ?_
      refine one_ rfl ?_
      refine st (v := .int .i64 (((r1.length : Nat) : Int) + r_2_4)) hs7 2 rfl rfl rfl rfl rfl one3 trivial (fun w7 (hs8 : SH w w7 [rb] [.blk b1 25 [.slice none 0 0, .int .i64 0, .bool false], .own A1 r1.length c1 3 1 (r1.map I), .blk rb 60 [.slice Ab bs.length cb, .int .i64 ((q_2_4 : Nat) : Int)], .blk b2 25 [.slice A1 r1.length c1, .int .i64 (((r1.length : Nat) : Int) + r_2_4), .bool (decide (r2 = 0))]]) => ?_)
      refine nl (kq ⟨_, hs8, memi 0 rfl, trivial⟩ ?_)
      refine ad (by kernel_rfl) ?_
      exact ⟨r_2_4, q_2_4, ⟨rfl, rfl, rfl, trivial⟩, p5, p6, hs8⟩
    · refine one_ rfl ?_
      refine cl trivial rfl (pick (rb := rb) (Ab := Ab) (cb := cb) (bs := bs) (p := q2) (n := 20) (w := _) (hr := (blk_heap hs6 2 rfl)) (hb := (hb.up hs6 (fun _ h => h) (fun _ h => .inl h))) (hbn := (by first | assumption | (simp; omega))) (hp := (by omega))) ?_
      rintro _ w8 ⟨r_2_4, q_2_4, rfl, p7, p8, hs9'⟩
      have hs9 : SH w w8 [rb] [.blk b1 25 [.slice none 0 0, .int .i64 0, .bool false], .own A1 r1.length c1 3 1 (r1.map I), .blk b2 25 [.slice A1 r1.length c1, .int .i64 0, .bool (decide (r2 = 0))], .blk rb 60 [.slice Ab bs.length cb, .int .i64 ((q_2_4 : Nat) : Int)]] := hs6.callM 2 rfl hs9' (by intro k hk; simp at hk; exact hk.symm)
      clear hs9'
      refine nl (kq ⟨_, hs9, memi 0 rfl, trivial⟩ ?_)
      refine a1 (i := 1) (by kernel_rfl) ?_
      refine one_ rfl ?_
      refine q trivial rfl rfl (ld (v := .slice A1 r1.length c1) hs9 2 rfl rfl rfl one23) ?_
      refine nl (kq ⟨_, hs9, memi 0 rfl, trivial⟩ ?_)
      refine tk (fuel := 1) (is := [2, 5, 6]) (.cons rfl (.cons rfl (.cons rfl (.nil)))) (by kernel_rfl) (by kernel_rfl) ⟨_, hs9, memi 0 rfl, trivial⟩ ?_
      refine .op trivial rfl rfl (fun wq _ => lnA (n := r1.length) sl23 rfl) ?_
      refine .op trivial rfl rfl (fun wq _ => add (a := ((r1.length : Nat) : Int)) (b := r_2_4) rfl rfl (by exact ⟨by omega, by omega⟩)) ?_
      refine .op trivial rfl rfl (fun wq _ => fa 1 fo25_1 rfl) ?_
      refine .nil ?_
      refine a1 (i := 7) (by kernel_rfl) ?_
      refine one_ rfl ?_
      refine st (v := .int .i64 (((r1.length : Nat) : Int) + r_2_4)) hs9 2 rfl rfl rfl rfl rfl one3 trivial (fun w9 (hs10 : SH w w9 [rb] [.blk b1 25 [.slice none 0 0, .int .i64 0, .bool false], .own A1 r1.length c1 3 1 (r1.map I), .blk rb 60 [.slice Ab bs.length cb, .int .i64 ((q_2_4 : Nat) : Int)], .blk b2 25 [.slice A1 r1.length c1, .int .i64 (((r1.length : Nat) : Int) + r_2_4), .bool (decide (r2 = 0))]]) => ?_)
      refine nl (kq ⟨_, hs10, memi 0 rfl, trivial⟩ ?_)
      refine ad (by kernel_rfl) ?_
      exact ⟨r_2_4, q_2_4, ⟨rfl, rfl, rfl, trivial⟩, p7, p8, hs10⟩
  rintro f w10 ⟨r_2_4, q_2_4, hf, p9, p10, hs11⟩
  obtain ⟨g1, rfl⟩ := has_upd hf
  clear hf
  refine nN ?_
  refine sq ?_
  refine sq ?_
  refine rg ?_
  refine q trivial rfl rfl (mv (v := .pointer (some ⟨rb, 0, none⟩)) rfl) ?_
  refine cl trivial rfl (pick (rb := rb) (Ab := Ab) (cb := cb) (bs := bs) (p := q_2_4) (n := 30) (w := _) (hr := (blk_heap hs11 2 rfl)) (hb := (hb.up hs11 (fun _ h => h) (fun _ h => .inl h))) (hbn := (by first | assumption | (simp; omega))) (hp := (by omega))) ?_
  rintro _ w11 ⟨r3, q3, rfl, p11, p12, hs12'⟩
  have hs12 : SH w w11 [rb] [.blk b1 25 [.slice none 0 0, .int .i64 0, .bool false], .own A1 r1.length c1 3 1 (r1.map I), .blk b2 25 [.slice A1 r1.length c1, .int .i64 (((r1.length : Nat) : Int) + r_2_4), .bool (decide (r2 = 0))], .blk rb 60 [.slice Ab bs.length cb, .int .i64 ((q3 : Nat) : Int)]] := hs11.callM 2 rfl hs12' (by intro k hk; simp at hk; exact hk.symm)
  clear hs12'
  refine nl ?_
  refine nN ?_
  refine bl ?_
  refine sq ?_
  refine rg ?_
  refine q trivial rfl rfl (eqi (k := .i64) (a := r3) (b := 0) rfl rfl) ?_
  refine q trivial rfl rfl (asg (v := .bool (decide (r3 = 0))) rfl) ?_
  refine nl ?_
  refine nN ?_
  refine cdd (p := r3 = 0) rfl (fun h1 => ?_) (fun h1 => ?_)
  · refine raJ (fun w' => ∃ L, SH w w' [rb] L ∧ (.blk b1 25 [.slice none 0 0, .int .i64 0, .bool false]) ∈ L ∧ True) (fun f w' => ∃ b_5_4 : Nat, ∃ r_5_6 : Int, ∃ q_5_6 : Nat, Has f [(2, .pointer (some ⟨b1, 0, none⟩)), (3, .pointer (some ⟨b2, 0, none⟩))] ∧ (0 ≤ r_5_6 ∧ (r_5_6 < 3 ∨ r_5_6 = 0)) ∧ (q_5_6 ≤ q3 + 1) ∧ SH w w' [rb] [.blk b1 25 [.slice none 0 0, .int .i64 0, .bool false], .own A1 r1.length c1 3 1 (r1.map I), .own (some ⟨b_5_4, 0, none⟩) ([((r1.length : Nat) : Int) - 1, 9999, 10000].length) 3 3 1 ([((r1.length : Nat) : Int) - 1, 9999, 10000].map I), .blk rb 60 [.slice Ab bs.length cb, .int .i64 ((q_5_6 : Nat) : Int)], .blk b2 25 [.slice A1 r1.length c1, .int .i64 ([((r1.length : Nat) : Int) - 1, 9999, 10000].getD r_5_6.toNat 0), .bool (decide (r2 = 0))]]) mixed ?_ ?_
    · have hs13 := hs12.drew
      refine tk (fuel := 9) (is := [0, 5]) (.cons rfl (.cons rfl (.nil))) (by kernel_rfl) (by kernel_rfl) ⟨_, hs13, memi 0 rfl, trivial⟩ ?_
      refine .op trivial rfl rfl (fun wq _ => fa 0 fo25_0 rfl) ?_
      refine .op trivial rfl rfl (fun wq _ => mv (v := .pointer (some ⟨rb, 0, none⟩)) rfl) ?_
      refine .nil ?_
      refine a2 (i := 1) (j := 6) (by kernel_rfl) ?_ ?_
      · refine one_ rfl ?_
        refine q trivial rfl rfl (ld (v := .slice A1 r1.length c1) hs13 2 rfl rfl rfl one23) ?_
        refine nl (kq ⟨_, hs13, memi 0 rfl, trivial⟩ ?_)
        refine tk (fuel := 6) (is := [2, 3]) (.cons rfl (.cons rfl (.nil))) (by kernel_rfl) (by kernel_rfl) ⟨_, hs13, memi 0 rfl, trivial⟩ ?_
        refine .op trivial rfl rfl (fun wq _ => lnA (n := r1.length) sl23 rfl) ?_
        refine .op trivial rfl rfl (fun wq _ => sub (a := ((r1.length : Nat) : Int)) (b := 1) rfl rfl (by exact ⟨by omega, by omega⟩)) ?_
        refine .nil ?_
        refine a2 (i := 4) (j := 6) (by kernel_rfl) ?_ ?_
        · refine one_ rfl ?_
          refine Go.PF.bs hs13 sl23 [(0, .int .i64 (((r1.length : Nat) : Int) - 1)), (1, .int .i64 9999), (2, .int .i64 10000)] rfl (cs := [.int .i64 (((r1.length : Nat) : Int) - 1), .int .i64 9999, .int .i64 10000]) (by kernel_rfl) rfl (by decide) (by decide) trivial rfl (fun b_5_4 w12 (hs14 : SH w w12 [rb] [.blk b1 25 [.slice none 0 0, .int .i64 0, .bool false], .own A1 r1.length c1 3 1 (r1.map I), .blk b2 25 [.slice A1 r1.length c1, .int .i64 (((r1.length : Nat) : Int) + r_2_4), .bool (decide (r2 = 0))], .blk rb 60 [.slice Ab bs.length cb, .int .i64 ((q3 : Nat) : Int)], .own (some ⟨b_5_4, 0, none⟩) ([((r1.length : Nat) : Int) - 1, 9999, 10000].length) 3 3 1 ([((r1.length : Nat) : Int) - 1, 9999, 10000].map I)]) => ?_)
          refine nl (kq ⟨_, hs14, memi 0 rfl, trivial⟩ ?_)
          refine a1 (i := 6) (by kernel_rfl) ?_
          refine one_ rfl ?_
          refine cl trivial rfl (pick (rb := rb) (Ab := Ab) (cb := cb) (bs := bs) (p := q3) (n := 3) (w := _) (hr := (blk_heap hs14 3 rfl)) (hb := (hb.up hs14 (fun _ h => h) (fun _ h => .inl h))) (hbn := (by first | assumption | (simp; omega))) (hp := (by omega))) ?_
          rintro _ w13 ⟨r_5_6, q_5_6, rfl, p13, p14, hs15'⟩
          have hs15 : SH w w13 [rb] [.blk b1 25 [.slice none 0 0, .int .i64 0, .bool false], .own A1 r1.length c1 3 1 (r1.map I), .blk b2 25 [.slice A1 r1.length c1, .int .i64 (((r1.length : Nat) : Int) + r_2_4), .bool (decide (r2 = 0))], .own (some ⟨b_5_4, 0, none⟩) ([((r1.length : Nat) : Int) - 1, 9999, 10000].length) 3 3 1 ([((r1.length : Nat) : Int) - 1, 9999, 10000].map I), .blk rb 60 [.slice Ab bs.length cb, .int .i64 ((q_5_6 : Nat) : Int)]] := hs14.callM 3 rfl hs15' (by intro k hk; simp at hk; exact hk.symm)
          clear hs15'
          refine nl (kq ⟨_, hs15, memi 0 rfl, trivial⟩ ?_)
          refine tk (fuel := 3) (is := [7]) (.cons rfl (.nil)) (by kernel_rfl) (by kernel_rfl) ⟨_, hs15, memi 0 rfl, trivial⟩ ?_
          refine .op trivial rfl rfl (fun wq _ => ixo r_5_6.toNat sl23 rfl (ieq (x := r_5_6) (by omega)) (by first | omega | (simp; omega))) ?_
          refine .nil ?_
          refine a1 (i := 8) (by kernel_rfl) ?_
          refine one_ rfl ?_
          refine q trivial rfl rfl (ldo1n (g := I) (ys := [((r1.length : Nat) : Int) - 1, 9999, 10000]) (o := r_5_6.toNat) 0 hs15 3 rfl rfl (by first | omega | (simp; omega)) one3) ?_
          refine nl (kq ⟨_, hs15, memi 0 rfl, trivial⟩ ?_)
          refine tk (fuel := 1) (is := [9]) (.cons rfl (.nil)) (by kernel_rfl) (by kernel_rfl) ⟨_, hs15, memi 0 rfl, trivial⟩ ?_
          refine .op trivial rfl rfl (fun wq _ => fa 1 fo25_1 rfl) ?_
          refine .nil ?_
          refine a1 (i := 10) (by kernel_rfl) ?_
          refine one_ rfl ?_
          refine st (v := .int .i64 ([((r1.length : Nat) : Int) - 1, 9999, 10000].getD r_5_6.toNat 0)) hs15 2 rfl rfl rfl rfl rfl one3 trivial (fun w14 (hs16 : SH w w14 [rb] [.blk b1 25 [.slice none 0 0, .int .i64 0, .bool false], .own A1 r1.length c1 3 1 (r1.map I), .own (some ⟨b_5_4, 0, none⟩) ([((r1.length : Nat) : Int) - 1, 9999, 10000].length) 3 3 1 ([((r1.length : Nat) : Int) - 1, 9999, 10000].map I), .blk rb 60 [.slice Ab bs.length cb, .int .i64 ((q_5_6 : Nat) : Int)], .blk b2 25 [.slice A1 r1.length c1, .int .i64 ([((r1.length : Nat) : Int) - 1, 9999, 10000].getD r_5_6.toNat 0), .bool (decide (r2 = 0))]]) => ?_)
          refine nl (kq ⟨_, hs16, memi 0 rfl, trivial⟩ ?_)
          refine ad (by kernel_rfl) ?_
          exact ⟨b_5_4, r_5_6, q_5_6, ⟨rfl, rfl, trivial⟩, p13, p14, hs16⟩
        · refine one_ rfl ?_
          refine cl trivial rfl (pick (rb := rb) (Ab := Ab) (cb := cb) (bs := bs) (p := q3) (n := 3) (w := _) (hr := (blk_heap hs13 3 rfl)) (hb := (hb.up hs13 (fun _ h => h) (fun _ h => .inl h))) (hbn := (by first | assumption | (simp; omega))) (hp := (by omega))) ?_
          rintro _ w15 ⟨r_5_6, q_5_6, rfl, p15, p16, hs17'⟩
          have hs17 : SH w w15 [rb] [.blk b1 25 [.slice none 0 0, .int .i64 0, .bool false], .own A1 r1.length c1 3 1 (r1.map I), .blk b2 25 [.slice A1 r1.length c1, .int .i64 (((r1.length : Nat) : Int) + r_2_4), .bool (decide (r2 = 0))], .blk rb 60 [.slice Ab bs.length cb, .int .i64 ((q_5_6 : Nat) : Int)]] := hs13.callM 3 rfl hs17' (by intro k hk; simp at hk; exact hk.symm)
          clear hs17'
          refine nl (kq ⟨_, hs17, memi 0 rfl, trivial⟩ ?_)
          refine a1 (i := 4) (by kernel_rfl) ?_
          refine one_ rfl ?_
          refine Go.PF.bs hs17 sl23 [(0, .int .i64 (((r1.length : Nat) : Int) - 1)), (1, .int .i64 9999), (2, .int .i64 10000)] rfl (cs := [.int .i64 (((r1.length : Nat) : Int) - 1), .int .i64 9999, .int .i64 10000]) (by kernel_rfl) rfl (by decide) (by decide) trivial rfl (fun b_5_4 w16 (hs18 : SH w w16 [rb] [.blk b1 25 [.slice none 0 0, .int .i64 0, .bool false], .own A1 r1.length c1 3 1 (r1.map I), .blk b2 25 [.slice A1 r1.length c1, .int .i64 (((r1.length : Nat) : Int) + r_2_4), .bool (decide (r2 = 0))], .blk rb 60 [.slice Ab bs.length cb, .int .i64 ((q_5_6 : Nat) : Int)], .own (some ⟨b_5_4, 0, none⟩) ([((r1.length : Nat) : Int) - 1, 9999, 10000].length) 3 3 1 ([((r1.length : Nat) : Int) - 1, 9999, 10000].map I)]) => ?_)
          refine nl (kq ⟨_, hs18, memi 0 rfl, trivial⟩ ?_)
          refine tk (fuel := 3) (is := [7]) (.cons rfl (.nil)) (by kernel_rfl) (by kernel_rfl) ⟨_, hs18, memi 0 rfl, trivial⟩ ?_
          refine .op trivial rfl rfl (fun wq _ => ixo r_5_6.toNat sl23 rfl (ieq (x := r_5_6) (by omega)) (by first | omega | (simp; omega))) ?_
          refine .nil ?_
          refine a1 (i := 8) (by kernel_rfl) ?_
          refine one_ rfl ?_
          refine q trivial rfl rfl (ldo1n (g := I) (ys := [((r1.length : Nat) : Int) - 1, 9999, 10000]) (o := r_5_6.toNat) 0 hs18 4 rfl rfl (by first | omega | (simp; omega)) one3) ?_
          refine nl (kq ⟨_, hs18, memi 0 rfl, trivial⟩ ?_)
          refine tk (fuel := 1) (is := [9]) (.cons rfl (.nil)) (by kernel_rfl) (by kernel_rfl) ⟨_, hs18, memi 0 rfl, trivial⟩ ?_
          refine .op trivial rfl rfl (fun wq _ => fa 1 fo25_1 rfl) ?_
          refine .nil ?_
          refine a1 (i := 10) (by kernel_rfl) ?_
          refine one_ rfl ?_
          refine st (v := .int .i64 ([((r1.length : Nat) : Int) - 1, 9999, 10000].getD r_5_6.toNat 0)) hs18 2 rfl rfl rfl rfl rfl one3 trivial (fun w17 (hs19 : SH w w17 [rb] [.blk b1 25 [.slice none 0 0, .int .i64 0, .bool false], .own A1 r1.length c1 3 1 (r1.map I), .blk rb 60 [.slice Ab bs.length cb, .int .i64 ((q_5_6 : Nat) : Int)], .own (some ⟨b_5_4, 0, none⟩) ([((r1.length : Nat) : Int) - 1, 9999, 10000].length) 3 3 1 ([((r1.length : Nat) : Int) - 1, 9999, 10000].map I), .blk b2 25 [.slice A1 r1.length c1, .int .i64 ([((r1.length : Nat) : Int) - 1, 9999, 10000].getD r_5_6.toNat 0), .bool (decide (r2 = 0))]]) => ?_)
          refine nl (kq ⟨_, hs19, memi 0 rfl, trivial⟩ ?_)
          refine ad (by kernel_rfl) ?_
          exact ⟨b_5_4, r_5_6, q_5_6, ⟨rfl, rfl, trivial⟩, p15, p16, (hs19.pick [0, 1, 3, 2, 4] rfl (by decide))⟩
      · refine one_ rfl ?_
        refine cl trivial rfl (pick (rb := rb) (Ab := Ab) (cb := cb) (bs := bs) (p := q3) (n := 3) (w := _) (hr := (blk_heap hs13 3 rfl)) (hb := (hb.up hs13 (fun _ h => h) (fun _ h => .inl h))) (hbn := (by first | assumption | (simp; omega))) (hp := (by omega))) ?_
        rintro _ w18 ⟨r_5_6, q_5_6, rfl, p17, p18, hs20'⟩
        have hs20 : SH w w18 [rb] [.blk b1 25 [.slice none 0 0, .int .i64 0, .bool false], .own A1 r1.length c1 3 1 (r1.map I), .blk b2 25 [.slice A1 r1.length c1, .int .i64 (((r1.length : Nat) : Int) + r_2_4), .bool (decide (r2 = 0))], .blk rb 60 [.slice Ab bs.length cb, .int .i64 ((q_5_6 : Nat) : Int)]] := hs13.callM 3 rfl hs20' (by intro k hk; simp at hk; exact hk.symm)
        clear hs20'
        refine nl (kq ⟨_, hs20, memi 0 rfl, trivial⟩ ?_)
        refine a1 (i := 1) (by kernel_rfl) ?_
        refine one_ rfl ?_
        refine q trivial rfl rfl (ld (v := .slice A1 r1.length c1) hs20 2 rfl rfl rfl one23) ?_
        refine nl (kq ⟨_, hs20, memi 0 rfl, trivial⟩ ?_)
        refine tk (fuel := 5) (is := [2, 3]) (.cons rfl (.cons rfl (.nil))) (by kernel_rfl) (by kernel_rfl) ⟨_, hs20, memi 0 rfl, trivial⟩ ?_
        refine .op trivial rfl rfl (fun wq _ => lnA (n := r1.length) sl23 rfl) ?_
        refine .op trivial rfl rfl (fun wq _ => sub (a := ((r1.length : Nat) : Int)) (b := 1) rfl rfl (by exact ⟨by omega, by omega⟩)) ?_
        refine .nil ?_
        refine a1 (i := 4) (by kernel_rfl) ?_
        refine one_ rfl ?_
        refine Go.PF.bs hs20 sl23 [(0, .int .i64 (((r1.length : Nat) : Int) - 1)), (1, .int .i64 9999), (2, .int .i64 10000)] rfl (cs := [.int .i64 (((r1.length : Nat) : Int) - 1), .int .i64 9999, .int .i64 10000]) (by kernel_rfl) rfl (by decide) (by decide) trivial rfl (fun b_5_4 w19 (hs21 : SH w w19 [rb] [.blk b1 25 [.slice none 0 0, .int .i64 0, .bool false], .own A1 r1.length c1 3 1 (r1.map I), .blk b2 25 [.slice A1 r1.length c1, .int .i64 (((r1.length : Nat) : Int) + r_2_4), .bool (decide (r2 = 0))], .blk rb 60 [.slice Ab bs.length cb, .int .i64 ((q_5_6 : Nat) : Int)], .own (some ⟨b_5_4, 0, none⟩) ([((r1.length : Nat) : Int) - 1, 9999, 10000].length) 3 3 1 ([((r1.length : Nat) : Int) - 1, 9999, 10000].map I)]) => ?_)
        refine nl (kq ⟨_, hs21, memi 0 rfl, trivial⟩ ?_)
        refine tk (fuel := 3) (is := [7]) (.cons rfl (.nil)) (by kernel_rfl) (by kernel_rfl) ⟨_, hs21, memi 0 rfl, trivial⟩ ?_
        refine .op trivial rfl rfl (fun wq _ => ixo r_5_6.toNat sl23 rfl (ieq (x := r_5_6) (by omega)) (by first | omega | (simp; omega))) ?_
        refine .nil ?_
        refine a1 (i := 8) (by kernel_rfl) ?_
        refine one_ rfl ?_
        refine q trivial rfl rfl (ldo1n (g := I) (ys := [((r1.length : Nat) : Int) - 1, 9999, 10000]) (o := r_5_6.toNat) 0 hs21 4 rfl rfl (by first | omega | (simp; omega)) one3) ?_
        refine nl (kq ⟨_, hs21, memi 0 rfl, trivial⟩ ?_)
        refine tk (fuel := 1) (is := [9]) (.cons rfl (.nil)) (by kernel_rfl) (by kernel_rfl) ⟨_, hs21, memi 0 rfl, trivial⟩ ?_
        refine .op trivial rfl rfl (fun wq _ => fa 1 fo25_1 rfl) ?_
        refine .nil ?_
        refine a1 (i := 10) (by kernel_rfl) ?_
        refine one_ rfl ?_
        refine st (v := .int .i64 ([((r1.length : Nat) : Int) - 1, 9999, 10000].getD r_5_6.toNat 0)) hs21 2 rfl rfl rfl rfl rfl one3 trivial (fun w20 (hs22 : SH w w20 [rb] [.blk b1 25 [.slice none 0 0, .int .i64 0, .bool false], .own A1 r1.length c1 3 1 (r1.map I), .blk rb 60 [.slice Ab bs.length cb, .int .i64 ((q_5_6 : Nat) : Int)], .own (some ⟨b_5_4, 0, none⟩) ([((r1.length : Nat) : Int) - 1, 9999, 10000].length) 3 3 1 ([((r1.length : Nat) : Int) - 1, 9999, 10000].map I), .blk b2 25 [.slice A1 r1.length c1, .int .i64 ([((r1.length : Nat) : Int) - 1, 9999, 10000].getD r_5_6.toNat 0), .bool (decide (r2 = 0))]]) => ?_)
        refine nl (kq ⟨_, hs22, memi 0 rfl, trivial⟩ ?_)
        refine ad (by kernel_rfl) ?_
        exact ⟨b_5_4, r_5_6, q_5_6, ⟨rfl, rfl, trivial⟩, p17, p18, (hs22.pick [0, 1, 3, 2, 4] rfl (by decide))⟩
    rintro f w21 ⟨b_5_4, r_5_6, q_5_6, hf, p19, p20, hs23⟩
    obtain ⟨g2, rfl⟩ := has_upd hf
    clear hf
    refine bN ?_
    refine nN ?_
    refine sq ?_
    refine rg ?_
    refine q trivial rfl rfl (ldg (vs := [.slice A1 r1.length c1, .int .i64 ([((r1.length : Nat) : Int) - 1, 9999, 10000].getD r_5_6.toNat 0), .bool (decide (r2 = 0))]) hs23 4 rfl rfl rfl rfl ag25) ?_
    refine stg (vs := [.slice A1 r1.length c1, .int .i64 ([((r1.length : Nat) : Int) - 1, 9999, 10000].getD r_5_6.toNat 0), .bool (decide (r2 = 0))]) hs23 0 rfl rfl rfl rfl rfl rfl rfl ag25 trivial (fun w22 (hs24 : SH w w22 [rb] [.own A1 r1.length c1 3 1 (r1.map I), .own (some ⟨b_5_4, 0, none⟩) ([((r1.length : Nat) : Int) - 1, 9999, 10000].length) 3 3 1 ([((r1.length : Nat) : Int) - 1, 9999, 10000].map I), .blk rb 60 [.slice Ab bs.length cb, .int .i64 ((q_5_6 : Nat) : Int)], .blk b2 25 [.slice A1 r1.length c1, .int .i64 ([((r1.length : Nat) : Int) - 1, 9999, 10000].getD r_5_6.toNat 0), .bool (decide (r2 = 0))], .blk b1 25 [.slice A1 r1.length c1, .int .i64 ([((r1.length : Nat) : Int) - 1, 9999, 10000].getD r_5_6.toNat 0), .bool (decide (r2 = 0))]]) => ?_)
    refine nl ?_
    refine nN ?_
    have hs25 : SH w w22 [rb] [.own A1 r1.length c1 3 1 (r1.map I), .blk rb 60 [.slice Ab bs.length cb, .int .i64 ((q_5_6 : Nat) : Int)], .blk b1 25 [.slice A1 r1.length c1, .int .i64 ([((r1.length : Nat) : Int) - 1, 9999, 10000].getD r_5_6.toNat 0), .bool (decide (r2 = 0))]] := hs24.pick [0, 2, 4] rfl (by decide)
    refine rt ?_
    refine fret (v := .agg #[.slice A1 r1.length c1, .int .i64 ([((r1.length : Nat) : Int) - 1, 9999, 10000].getD r_5_6.toNat 0), .bool (decide (r2 = 0))]) (resC hs25 2 rfl rfl ag25 rfl .nil) rfl ?_
    exact ⟨A1, c1, r1, [((r1.length : Nat) : Int) - 1, 9999, 10000].getD r_5_6.toNat 0, (decide (r2 = 0)), q_5_6, rfl, (by first | assumption | omega | (simp; omega)), (by first | assumption | omega | (simp; omega)), (hs25.pick [1, 0] rfl (by decide))⟩
  · refine sq ?_
    refine rg ?_
    refine q trivial rfl rfl (eqi (k := .i64) (a := r3) (b := 1) rfl rfl) ?_
    refine q trivial rfl rfl (asg (v := .bool (decide (r3 = 1))) rfl) ?_
    refine nl ?_
    refine nN ?_
    refine cdd (p := r3 = 1) rfl (fun h2 => ?_) (fun h2 => ?_)
    · refine sq ?_
      refine rg ?_
      refine q trivial rfl rfl (mv (v := .pointer (some ⟨rb, 0, none⟩)) rfl) ?_
      refine cl trivial rfl (pick (rb := rb) (Ab := Ab) (cb := cb) (bs := bs) (p := q3) (n := 2) (w := _) (hr := (blk_heap hs12 3 rfl)) (hb := (hb.up hs12 (fun _ h => h) (fun _ h => .inl h))) (hbn := (by first | assumption | (simp; omega))) (hp := (by omega))) ?_
      rintro _ w23 ⟨r4, q4, rfl, p21, p22, hs26'⟩
      have hs26 : SH w w23 [rb] [.blk b1 25 [.slice none 0 0, .int .i64 0, .bool false], .own A1 r1.length c1 3 1 (r1.map I), .blk b2 25 [.slice A1 r1.length c1, .int .i64 (((r1.length : Nat) : Int) + r_2_4), .bool (decide (r2 = 0))], .blk rb 60 [.slice Ab bs.length cb, .int .i64 ((q4 : Nat) : Int)]] := hs12.callM 3 rfl hs26' (by intro k hk; simp at hk; exact hk.symm)
      clear hs26'
      refine q trivial rfl rfl (add (a := 16) (b := r4) rfl rfl (by exact ⟨by omega, by omega⟩)) ?_
      refine mkm (g := I) (z := 0) (n := (16 + r4).toNat) hs26 sl23 rfl (ieq (x := 16 + r4) (by omega)) (ieq (x := 16 + r4) (by omega)) (by omega) (by unfold maxLen; omega) trivial rfl (fun b3 w24 (hs27 : SH w w24 [rb] [.blk b1 25 [.slice none 0 0, .int .i64 0, .bool false], .own A1 r1.length c1 3 1 (r1.map I), .blk b2 25 [.slice A1 r1.length c1, .int .i64 (((r1.length : Nat) : Int) + r_2_4), .bool (decide (r2 = 0))], .blk rb 60 [.slice Ab bs.length cb, .int .i64 ((q4 : Nat) : Int)], .own (some ⟨b3, 0, none⟩) ((List.replicate ((16 + r4).toNat) (0 : Int)).length) ((16 + r4).toNat) 3 1 ((List.replicate ((16 + r4).toNat) (0 : Int)).map I)]) => ?_)
      refine q trivial rfl rfl (fa 0 fo25_0 rfl) ?_
      refine st (v := .slice (some ⟨b3, 0, none⟩) ((List.replicate ((16 + r4).toNat) (0 : Int)).length) ((16 + r4).toNat)) hs27 2 rfl rfl rfl rfl rfl one23 trivial (fun w25 (hs28 : SH w w25 [rb] [.blk b1 25 [.slice none 0 0, .int .i64 0, .bool false], .own A1 r1.length c1 3 1 (r1.map I), .blk rb 60 [.slice Ab bs.length cb, .int .i64 ((q4 : Nat) : Int)], .own (some ⟨b3, 0, none⟩) ((List.replicate ((16 + r4).toNat) (0 : Int)).length) ((16 + r4).toNat) 3 1 ((List.replicate ((16 + r4).toNat) (0 : Int)).map I), .blk b2 25 [.slice (some ⟨b3, 0, none⟩) ((List.replicate ((16 + r4).toNat) (0 : Int)).length) ((16 + r4).toNat), .int .i64 (((r1.length : Nat) : Int) + r_2_4), .bool (decide (r2 = 0))]]) => ?_)
      refine nl ?_
      refine nN ?_
      refine rg ?_
      refine q trivial rfl rfl (fa 1 fo25_1 rfl) ?_
      refine st (v := .int .i64 20) hs28 4 rfl rfl rfl rfl rfl one3 trivial (fun w26 (hs29 : SH w w26 [rb] [.blk b1 25 [.slice none 0 0, .int .i64 0, .bool false], .own A1 r1.length c1 3 1 (r1.map I), .blk rb 60 [.slice Ab bs.length cb, .int .i64 ((q4 : Nat) : Int)], .own (some ⟨b3, 0, none⟩) ((List.replicate ((16 + r4).toNat) (0 : Int)).length) ((16 + r4).toNat) 3 1 ((List.replicate ((16 + r4).toNat) (0 : Int)).map I), .blk b2 25 [.slice (some ⟨b3, 0, none⟩) ((List.replicate ((16 + r4).toNat) (0 : Int)).length) ((16 + r4).toNat), .int .i64 20, .bool (decide (r2 = 0))]]) => ?_)
      refine nl ?_
      refine bN ?_
      refine nN ?_
      refine sq ?_
      refine rg ?_
      refine q trivial rfl rfl (ldg (vs := [.slice (some ⟨b3, 0, none⟩) ((List.replicate ((16 + r4).toNat) (0 : Int)).length) ((16 + r4).toNat), .int .i64 20, .bool (decide (r2 = 0))]) hs29 4 rfl rfl rfl rfl ag25) ?_
      refine stg (vs := [.slice (some ⟨b3, 0, none⟩) ((List.replicate ((16 + r4).toNat) (0 : Int)).length) ((16 + r4).toNat), .int .i64 20, .bool (decide (r2 = 0))]) hs29 0 rfl rfl rfl rfl rfl rfl rfl ag25 trivial (fun w27 (hs30 : SH w w27 [rb] [.own A1 r1.length c1 3 1 (r1.map I), .blk rb 60 [.slice Ab bs.length cb, .int .i64 ((q4 : Nat) : Int)], .own (some ⟨b3, 0, none⟩) ((List.replicate ((16 + r4).toNat) (0 : Int)).length) ((16 + r4).toNat) 3 1 ((List.replicate ((16 + r4).toNat) (0 : Int)).map I), .blk b2 25 [.slice (some ⟨b3, 0, none⟩) ((List.replicate ((16 + r4).toNat) (0 : Int)).length) ((16 + r4).toNat), .int .i64 20, .bool (decide (r2 = 0))], .blk b1 25 [.slice (some ⟨b3, 0, none⟩) ((List.replicate ((16 + r4).toNat) (0 : Int)).length) ((16 + r4).toNat), .int .i64 20, .bool (decide (r2 = 0))]]) => ?_)
      refine nl ?_
      refine nN ?_
      have hs31 : SH w w27 [rb] [.blk rb 60 [.slice Ab bs.length cb, .int .i64 ((q4 : Nat) : Int)], .own (some ⟨b3, 0, none⟩) ((List.replicate ((16 + r4).toNat) (0 : Int)).length) ((16 + r4).toNat) 3 1 ((List.replicate ((16 + r4).toNat) (0 : Int)).map I), .blk b1 25 [.slice (some ⟨b3, 0, none⟩) ((List.replicate ((16 + r4).toNat) (0 : Int)).length) ((16 + r4).toNat), .int .i64 20, .bool (decide (r2 = 0))]] := hs30.pick [1, 2, 4] rfl (by decide)
      refine rt ?_
      refine fret (v := .agg #[.slice (some ⟨b3, 0, none⟩) ((List.replicate ((16 + r4).toNat) (0 : Int)).length) ((16 + r4).toNat), .int .i64 20, .bool (decide (r2 = 0))]) (resC hs31 2 rfl rfl ag25 rfl .nil) rfl ?_
      exact ⟨(some ⟨b3, 0, none⟩), (16 + r4).toNat, List.replicate ((16 + r4).toNat) (0 : Int), 20, (decide (r2 = 0)), q4, rfl, (by first | assumption | omega | (simp; omega)), (by first | assumption | omega | (simp; omega)), (hs31.pick [0, 1] rfl (by decide))⟩
    · refine sk ?_
      refine bN ?_
      refine nN ?_
      refine sq ?_
      refine rg ?_
      refine q trivial rfl rfl (ldg (vs := [.slice A1 r1.length c1, .int .i64 (((r1.length : Nat) : Int) + r_2_4), .bool (decide (r2 = 0))]) hs12 2 rfl rfl rfl rfl ag25) ?_
      refine stg (vs := [.slice A1 r1.length c1, .int .i64 (((r1.length : Nat) : Int) + r_2_4), .bool (decide (r2 = 0))]) hs12 0 rfl rfl rfl rfl rfl rfl rfl ag25 trivial (fun w28 (hs32 : SH w w28 [rb] [.own A1 r1.length c1 3 1 (r1.map I), .blk b2 25 [.slice A1 r1.length c1, .int .i64 (((r1.length : Nat) : Int) + r_2_4), .bool (decide (r2 = 0))], .blk rb 60 [.slice Ab bs.length cb, .int .i64 ((q3 : Nat) : Int)], .blk b1 25 [.slice A1 r1.length c1, .int .i64 (((r1.length : Nat) : Int) + r_2_4), .bool (decide (r2 = 0))]]) => ?_)
      refine nl ?_
      refine nN ?_
      refine rt ?_
      refine fret (v := .agg #[.slice A1 r1.length c1, .int .i64 (((r1.length : Nat) : Int) + r_2_4), .bool (decide (r2 = 0))]) (resC hs32 3 rfl rfl ag25 rfl .nil) rfl ?_
      exact ⟨A1, c1, r1, ((r1.length : Nat) : Int) + r_2_4, (decide (r2 = 0)), q3, rfl, (by first | assumption | omega | (simp; omega)), (by first | assumption | omega | (simp; omega)), (hs32.pick [2, 0] rfl (by decide))⟩

theorem drawPipeEnd {Acs : Option Addr} {ccs : Nat} (cs : List UInt8) (w : World) (hcs : Sl w [] 1 Acs cs.length ccs (cs.map U)) : Does Try.prog 38 [.slice Acs cs.length ccs] w (fun v w' => ∃ Ar : Option Addr, ∃ cr : Nat, ∃ r : List Int, ∃ ni : Int, ∃ eb : Bool, v = .agg #[.slice Ar r.length cr, .int .i64 ni, .bool eb] ∧ (r.length ≤ 17) ∧ SH w w' [] [.own Ar r.length cr 3 1 (r.map I)]) := by
  refine fn_enter (N := 6) Try.func38 rfl (by kernel_rfl) rfl rfl rfl ?_
  have hs0 : SH w w [] [] := SH.refl w []
  have hcs_m : cs.length ≤ 9223372036854775807 := Nat.le_trans hcs.cap hcs.capMax
  refine sq ?_
  refine rg ?_
  refine al (v := .agg #[.slice none 0 0, .int .i64 0, .bool false]) (cs := [.slice none 0 0, .int .i64 0, .bool false]) hs0 tz25 rfl trivial rfl (fun b1 w1 (hs1 : SH w w1 [] [.blk b1 25 [.slice none 0 0, .int .i64 0, .bool false]]) => ?_)
  refine nl ?_
  refine nN ?_
  refine sq ?_
  refine rg ?_
  refine q trivial rfl rfl (mv (v := .slice Acs cs.length ccs) rfl) ?_
  refine cl trivial rfl (l6Open (Acs := Acs) (ccs := ccs) (cs := cs) (w := _) (hcs := (hcs.up0 hs1))) ?_
  rintro _ w2 ⟨g1, rfl, hs2'⟩
  have hs2 : SH w w2 [] [.blk b1 25 [.slice none 0 0, .int .i64 0, .bool false], .blk g1 60 [.slice Acs ((cs.take 2000).length) ccs, .int .i64 0]] := hs1.call0 hs2'
  clear hs2'
  refine cl trivial rfl (l92Pipe (rb := g1) (Ab := Acs) (cb := ccs) (bs := cs.take 2000) (p := 0) (w := _) (hr := (blk_heap hs2 1 rfl)) (hb := (Sl.take_ (hcs.up hs2 (by simp) (fun k h => .inr (hs2.lo1 1 rfl k h))) 2000)) (hbn := (by first | assumption | (simp; omega))) (hp := (by omega))) ?_
  rintro _ w3 ⟨A1, c1, r1, ni1, eb1, q1, rfl, p1, p2, hs3'⟩
  have hs3 : SH w w3 [] [.blk b1 25 [.slice none 0 0, .int .i64 0, .bool false], .blk g1 60 [.slice Acs ((cs.take 2000).length) ccs, .int .i64 ((q1 : Nat) : Int)], .own A1 r1.length c1 3 1 (r1.map I)] := hs2.callM 1 rfl hs3' (by intro k hk; simp at hk; exact hk.symm)
  clear hs3'
  refine stg (vs := [.slice A1 r1.length c1, .int .i64 ni1, .bool eb1]) hs3 0 rfl rfl rfl rfl rfl rfl rfl ag25 trivial (fun w4 (hs4 : SH w w4 [] [.blk g1 60 [.slice Acs ((cs.take 2000).length) ccs, .int .i64 ((q1 : Nat) : Int)], .own A1 r1.length c1 3 1 (r1.map I), .blk b1 25 [.slice A1 r1.length c1, .int .i64 ni1, .bool eb1]]) => ?_)
  refine nl ?_
  refine nN ?_
  refine rt ?_
  refine fret (v := .agg #[.slice A1 r1.length c1, .int .i64 ni1, .bool eb1]) (resC hs4 2 rfl rfl ag25 rfl .nil) rfl ?_
  exact ⟨A1, c1, r1, ni1, eb1, rfl, (by first | assumption | omega | (simp; omega)), (hs4.pick [1] rfl (by decide))⟩

theorem drawPipeGet {Acs : Option Addr} {ccs : Nat} (cs : List UInt8) (w : World) (hcs : Sl w [] 1 Acs cs.length ccs (cs.map U)) : Does Try.prog 22 [.slice Acs cs.length ccs] w (fun v w' => ∃ Ar : Option Addr, ∃ cr : Nat, ∃ r : List Int, ∃ ni : Int, ∃ eb : Bool, ∃ m : Int, v = .tuple #[.agg #[.slice Ar r.length cr, .int .i64 ni, .bool eb], .int .i64 m] ∧ (r.length ≤ 17) ∧ (-14 ≤ m ∧ m ≤ 14) ∧ SH w w' [] [.own Ar r.length cr 3 1 (r.map I)]) := by
  refine fn_enter (N := 18) Try.func22 rfl (by kernel_rfl) rfl rfl rfl ?_
  have hs0 : SH w w [] [] := SH.refl w []
  have hcs_m : cs.length ≤ 9223372036854775807 := Nat.le_trans hcs.cap hcs.capMax
  refine sq ?_
  refine rg ?_
  refine al (v := .agg #[.slice none 0 0, .int .i64 0, .bool false]) (cs := [.slice none 0 0, .int .i64 0, .bool false]) hs0 tz25 rfl trivial rfl (fun b1 w1 (hs1 : SH w w1 [] [.blk b1 25 [.slice none 0 0, .int .i64 0, .bool false]]) => ?_)
  refine q trivial rfl rfl (asg (v := .int .i64 0) rfl) ?_
  refine nl ?_
  refine nN ?_
  refine sq ?_
  refine rg ?_
  refine q trivial rfl rfl (mv (v := .slice Acs cs.length ccs) rfl) ?_
  refine cl trivial rfl (l6Open (Acs := Acs) (ccs := ccs) (cs := cs) (w := _) (hcs := (hcs.up0 hs1))) ?_
  rintro _ w2 ⟨g1, rfl, hs2'⟩
  have hs2 : SH w w2 [] [.blk b1 25 [.slice none 0 0, .int .i64 0, .bool false], .blk g1 60 [.slice Acs ((cs.take 2000).length) ccs, .int .i64 0]] := hs1.call0 hs2'
  clear hs2'
  refine q trivial rfl rfl (asg (v := .pointer (some ⟨g1, 0, none⟩)) rfl) ?_
  refine nl ?_
  refine nN ?_
  refine sq ?_
  refine rg ?_
  refine q trivial rfl rfl (mv (v := .pointer (some ⟨g1, 0, none⟩)) rfl) ?_
  refine cl trivial rfl (l92Pipe (rb := g1) (Ab := Acs) (cb := ccs) (bs := cs.take 2000) (p := 0) (w := _) (hr := (blk_heap hs2 1 rfl)) (hb := (Sl.take_ (hcs.up hs2 (by simp) (fun k h => .inr (hs2.lo1 1 rfl k h))) 2000)) (hbn := (by first | assumption | (simp; omega))) (hp := (by omega))) ?_
  rintro _ w3 ⟨A1, c1, r1, ni1, eb1, q1, rfl, p1, p2, hs3'⟩
  have hs3 : SH w w3 [] [.blk b1 25 [.slice none 0 0, .int .i64 0, .bool false], .blk g1 60 [.slice Acs ((cs.take 2000).length) ccs, .int .i64 ((q1 : Nat) : Int)], .own A1 r1.length c1 3 1 (r1.map I)] := hs2.callM 1 rfl hs3' (by intro k hk; simp at hk; exact hk.symm)
  clear hs3'
  refine al (v := .agg #[.slice none 0 0, .int .i64 0, .bool false]) (cs := [.slice none 0 0, .int .i64 0, .bool false]) hs3 tz25 rfl trivial rfl (fun b2 w4 (hs4 : SH w w4 [] [.blk b1 25 [.slice none 0 0, .int .i64 0, .bool false], .blk g1 60 [.slice Acs ((cs.take 2000).length) ccs, .int .i64 ((q1 : Nat) : Int)], .own A1 r1.length c1 3 1 (r1.map I), .blk b2 25 [.slice none 0 0, .int .i64 0, .bool false]]) => ?_)
  refine stg (vs := [.slice A1 r1.length c1, .int .i64 ni1, .bool eb1]) hs4 3 rfl rfl rfl rfl rfl rfl rfl ag25 trivial (fun w5 (hs5 : SH w w5 [] [.blk b1 25 [.slice none 0 0, .int .i64 0, .bool false], .blk g1 60 [.slice Acs ((cs.take 2000).length) ccs, .int .i64 ((q1 : Nat) : Int)], .own A1 r1.length c1 3 1 (r1.map I), .blk b2 25 [.slice A1 r1.length c1, .int .i64 ni1, .bool eb1]]) => ?_)
  refine nl ?_
  refine nN ?_
  refine sq ?_
  refine ra (fun w' => ∃ L, SH w w' [] L ∧ (.blk b2 25 [.slice A1 r1.length c1, .int .i64 ni1, .bool eb1]) ∈ L ∧ True) mixed ?_
  have hs6 := hs5.drew
  refine tk (fuel := 7) (is := [0, 1, 3]) (.cons rfl (.cons rfl (.cons rfl (.nil)))) (by kernel_rfl) (by kernel_rfl) ⟨_, hs6, memi 3 rfl, trivial⟩ ?_
  refine .op trivial rfl rfl (fun wq ⟨Lq, hsq, mh0, _⟩ => ldgm (vs := [.slice A1 r1.length c1, .int .i64 ni1, .bool eb1]) hsq mh0 rfl rfl rfl ag25) ?_
  refine .op trivial rfl rfl (fun wq _ => mv (v := .pointer (some ⟨g1, 0, none⟩)) rfl) ?_
  refine .op trivial rfl rfl (fun wq _ => mv (v := .pointer (some ⟨g1, 0, none⟩)) rfl) ?_
  refine .nil ?_
  refine a1 (i := 2) (by kernel_rfl) ?_
  refine one_ rfl ?_
  refine cl trivial rfl (pick (rb := g1) (Ab := Acs) (cb := ccs) (bs := cs.take 2000) (p := q1) (n := 14) (w := _) (hr := (blk_heap hs6 1 rfl)) (hb := (Sl.take_ (hcs.up hs6 (by simp) (fun k h => .inr (hs6.lo1 1 rfl k h))) 2000)) (hbn := (by first | assumption | (simp; omega))) (hp := (by omega))) ?_
  rintro _ w6 ⟨r_3_2, q_3_2, rfl, p3, p4, hs7'⟩
  have hs7 : SH w w6 [] [.blk b1 25 [.slice none 0 0, .int .i64 0, .bool false], .own A1 r1.length c1 3 1 (r1.map I), .blk b2 25 [.slice A1 r1.length c1, .int .i64 ni1, .bool eb1], .blk g1 60 [.slice Acs ((cs.take 2000).length) ccs, .int .i64 ((q_3_2 : Nat) : Int)]] := hs6.callM 1 rfl hs7' (by intro k hk; simp at hk; exact hk.symm)
  clear hs7'
  refine nl (kq ⟨_, hs7, memi 2 rfl, trivial⟩ ?_)
  refine a1 (i := 4) (by kernel_rfl) ?_
  refine one_ rfl ?_
  refine cl trivial rfl (pick (rb := g1) (Ab := Acs) (cb := ccs) (bs := cs.take 2000) (p := q_3_2) (n := 20) (w := _) (hr := (blk_heap hs7 3 rfl)) (hb := (Sl.take_ (hcs.up hs7 (by simp) (fun k h => .inr (hs7.lo1 3 rfl k h))) 2000)) (hbn := (by first | assumption | (simp; omega))) (hp := (by omega))) ?_
  rintro _ w7 ⟨r_3_4, q_3_4, rfl, p5, p6, hs8'⟩
  have hs8 : SH w w7 [] [.blk b1 25 [.slice none 0 0, .int .i64 0, .bool false], .own A1 r1.length c1 3 1 (r1.map I), .blk b2 25 [.slice A1 r1.length c1, .int .i64 ni1, .bool eb1], .blk g1 60 [.slice Acs ((cs.take 2000).length) ccs, .int .i64 ((q_3_4 : Nat) : Int)]] := hs7.callM 3 rfl hs8' (by intro k hk; simp at hk; exact hk.symm)
  clear hs8'
  refine nl (kq ⟨_, hs8, memi 2 rfl, trivial⟩ ?_)
  refine tk (fuel := 2) (is := [5, 6, 7]) (.cons rfl (.cons rfl (.cons rfl (.nil)))) (by kernel_rfl) (by kernel_rfl) ⟨_, hs8, memi 2 rfl, trivial⟩ ?_
  refine .op trivial rfl rfl (fun wq _ => quo (a := r_3_4) (b := 19) rfl rfl (by omega) (by omega) (by omega)) ?_
  refine .op trivial rfl rfl (fun wq _ => mul (a := r_3_4 / 19) (b := 14) rfl rfl (by exact ⟨by omega, by omega⟩)) ?_
  refine .op trivial rfl rfl (fun wq _ => sub (a := r_3_2) (b := (r_3_4 / 19) * 14) rfl rfl (by exact ⟨by omega, by omega⟩)) ?_
  refine .nil ?_
  refine a1 (i := 8) (by kernel_rfl) ?_
  refine one_ rfl ?_
  refine stg (vs := [.slice A1 r1.length c1, .int .i64 ni1, .bool eb1]) hs8 0 rfl rfl rfl rfl rfl rfl rfl ag25 trivial (fun w8 (hs9 : SH w w8 [] [.own A1 r1.length c1 3 1 (r1.map I), .blk b2 25 [.slice A1 r1.length c1, .int .i64 ni1, .bool eb1], .blk g1 60 [.slice Acs ((cs.take 2000).length) ccs, .int .i64 ((q_3_4 : Nat) : Int)], .blk b1 25 [.slice A1 r1.length c1, .int .i64 ni1, .bool eb1]]) => ?_)
  refine nl (kq ⟨_, hs9, memi 1 rfl, trivial⟩ ?_)
  refine tk (fuel := 0) (is := [9]) (.cons rfl (.nil)) (by kernel_rfl) (by kernel_rfl) ⟨_, hs9, memi 1 rfl, trivial⟩ ?_
  refine .op trivial rfl rfl (fun wq _ => asg (v := .int .i64 (r_3_2 - ((r_3_4 / 19) * 14))) rfl) ?_
  refine .nil ?_
  refine ad (by kernel_rfl) ?_
  refine nN ?_
  have hs10 : SH w w8 [] [.own A1 r1.length c1 3 1 (r1.map I), .blk b1 25 [.slice A1 r1.length c1, .int .i64 ni1, .bool eb1]] := hs9.pick [0, 3] rfl (by decide)
  refine rt ?_
  refine fret (v := .tuple #[.agg #[.slice A1 r1.length c1, .int .i64 ni1, .bool eb1], .int .i64 (r_3_2 - ((r_3_4 / 19) * 14))]) (resC hs10 1 rfl rfl ag25 rfl (.tmp .nil)) rfl ?_
  exact ⟨A1, c1, r1, ni1, eb1, r_3_2 - ((r_3_4 / 19) * 14), rfl, (by first | assumption | omega | (simp; omega)), (by first | assumption | omega | (simp; omega)), (hs10.pick [0] rfl (by decide))⟩

theorem drawPipePut {Acs : Option Addr} {ccs : Nat} (cs : List UInt8) (w : World) (hcs : Sl w [] 1 Acs cs.length ccs (cs.map U)) : Does Try.prog 34 [.slice Acs cs.length ccs] w (fun v w' => ∃ Ar : Option Addr, ∃ cr : Nat, ∃ Abr : Option Addr, ∃ cbr : Nat, ∃ r : List Int, ∃ ni : Int, ∃ eb : Bool, ∃ b : List Int, v = .tuple #[.agg #[.slice Ar r.length cr, .int .i64 ni, .bool eb], .slice Abr b.length cbr] ∧ (r.length ≤ 17) ∧ (b.length ≤ 9) ∧ SH w w' [] [.own Ar r.length cr 3 1 (r.map I), .own Abr b.length cbr 3 1 (b.map I)]) := by
  refine fn_enter (N := 13) Try.func34 rfl (by kernel_rfl) rfl rfl rfl ?_
  have hs0 : SH w w [] [] := SH.refl w []
  have hcs_m : cs.length ≤ 9223372036854775807 := Nat.le_trans hcs.cap hcs.capMax
  refine sq ?_
  refine rg ?_
  refine al (v := .agg #[.slice none 0 0, .int .i64 0, .bool false]) (cs := [.slice none 0 0, .int .i64 0, .bool false]) hs0 tz25 rfl trivial rfl (fun b1 w1 (hs1 : SH w w1 [] [.blk b1 25 [.slice none 0 0, .int .i64 0, .bool false]]) => ?_)
  refine q trivial rfl rfl (asg (v := .slice none 0 0) rfl) ?_
  refine nl ?_
  refine nN ?_
  refine sq ?_
  refine rg ?_
  refine q trivial rfl rfl (mv (v := .slice Acs cs.length ccs) rfl) ?_
  refine cl trivial rfl (l6Open (Acs := Acs) (ccs := ccs) (cs := cs) (w := _) (hcs := (hcs.up0 hs1))) ?_
  rintro _ w2 ⟨g1, rfl, hs2'⟩
  have hs2 : SH w w2 [] [.blk b1 25 [.slice none 0 0, .int .i64 0, .bool false], .blk g1 60 [.slice Acs ((cs.take 2000).length) ccs, .int .i64 0]] := hs1.call0 hs2'
  clear hs2'
  refine q trivial rfl rfl (asg (v := .pointer (some ⟨g1, 0, none⟩)) rfl) ?_
  refine nl ?_
  refine nN ?_
  refine sq ?_
  refine rg ?_
  refine q trivial rfl rfl (mv (v := .pointer (some ⟨g1, 0, none⟩)) rfl) ?_
  refine cl trivial rfl (l92Pipe (rb := g1) (Ab := Acs) (cb := ccs) (bs := cs.take 2000) (p := 0) (w := _) (hr := (blk_heap hs2 1 rfl)) (hb := (Sl.take_ (hcs.up hs2 (by simp) (fun k h => .inr (hs2.lo1 1 rfl k h))) 2000)) (hbn := (by first | assumption | (simp; omega))) (hp := (by omega))) ?_
  rintro _ w3 ⟨A1, c1, r1, ni1, eb1, q1, rfl, p1, p2, hs3'⟩
  have hs3 : SH w w3 [] [.blk b1 25 [.slice none 0 0, .int .i64 0, .bool false], .blk g1 60 [.slice Acs ((cs.take 2000).length) ccs, .int .i64 ((q1 : Nat) : Int)], .own A1 r1.length c1 3 1 (r1.map I)] := hs2.callM 1 rfl hs3' (by intro k hk; simp at hk; exact hk.symm)
  clear hs3'
  refine al (v := .agg #[.slice none 0 0, .int .i64 0, .bool false]) (cs := [.slice none 0 0, .int .i64 0, .bool false]) hs3 tz25 rfl trivial rfl (fun b2 w4 (hs4 : SH w w4 [] [.blk b1 25 [.slice none 0 0, .int .i64 0, .bool false], .blk g1 60 [.slice Acs ((cs.take 2000).length) ccs, .int .i64 ((q1 : Nat) : Int)], .own A1 r1.length c1 3 1 (r1.map I), .blk b2 25 [.slice none 0 0, .int .i64 0, .bool false]]) => ?_)
  refine stg (vs := [.slice A1 r1.length c1, .int .i64 ni1, .bool eb1]) hs4 3 rfl rfl rfl rfl rfl rfl rfl ag25 trivial (fun w5 (hs5 : SH w w5 [] [.blk b1 25 [.slice none 0 0, .int .i64 0, .bool false], .blk g1 60 [.slice Acs ((cs.take 2000).length) ccs, .int .i64 ((q1 : Nat) : Int)], .own A1 r1.length c1 3 1 (r1.map I), .blk b2 25 [.slice A1 r1.length c1, .int .i64 ni1, .bool eb1]]) => ?_)
  refine nl ?_
  refine nN ?_
  refine sq ?_
  refine ra (fun w' => ∃ L, SH w w' [] L ∧ (.blk b2 25 [.slice A1 r1.length c1, .int .i64 ni1, .bool eb1]) ∈ L ∧ True) mixed ?_
  have hs6 := hs5.drew
  refine tk (fuel := 3) (is := [0, 1]) (.cons rfl (.cons rfl (.nil))) (by kernel_rfl) (by kernel_rfl) ⟨_, hs6, memi 3 rfl, trivial⟩ ?_
  refine .op trivial rfl rfl (fun wq ⟨Lq, hsq, mh0, _⟩ => ldgm (vs := [.slice A1 r1.length c1, .int .i64 ni1, .bool eb1]) hsq mh0 rfl rfl rfl ag25) ?_
  refine .op trivial rfl rfl (fun wq _ => mv (v := .pointer (some ⟨g1, 0, none⟩)) rfl) ?_
  refine .nil ?_
  refine a1 (i := 2) (by kernel_rfl) ?_
  refine one_ rfl ?_
  refine cl trivial rfl (l91Bytes (rb := g1) (Ab := Acs) (cb := ccs) (bs := cs.take 2000) (p := q1) (n := 9) (w := _) (hr := (blk_heap hs6 1 rfl)) (hb := (Sl.take_ (hcs.up hs6 (by simp) (fun k h => .inr (hs6.lo1 1 rfl k h))) 2000)) (hbn := (by first | assumption | (simp; omega))) (hp := (by omega)) (hn := (by first | omega | assumption | (simp; done) | (simp; omega)))) ?_
  rintro _ w6 ⟨A_3_2, c_3_2, r_3_2, q_3_2, rfl, p3, p4, hs7'⟩
  have hs7 : SH w w6 [] [.blk b1 25 [.slice none 0 0, .int .i64 0, .bool false], .own A1 r1.length c1 3 1 (r1.map I), .blk b2 25 [.slice A1 r1.length c1, .int .i64 ni1, .bool eb1], .blk g1 60 [.slice Acs ((cs.take 2000).length) ccs, .int .i64 ((q_3_2 : Nat) : Int)], .own A_3_2 r_3_2.length c_3_2 3 1 (r_3_2.map I)] := hs6.callM 1 rfl hs7' (by intro k hk; simp at hk; exact hk.symm)
  clear hs7'
  refine nl (kq ⟨_, hs7, memi 2 rfl, trivial⟩ ?_)
  refine a1 (i := 3) (by kernel_rfl) ?_
  refine one_ rfl ?_
  refine stg (vs := [.slice A1 r1.length c1, .int .i64 ni1, .bool eb1]) hs7 0 rfl rfl rfl rfl rfl rfl rfl ag25 trivial (fun w7 (hs8 : SH w w7 [] [.own A1 r1.length c1 3 1 (r1.map I), .blk b2 25 [.slice A1 r1.length c1, .int .i64 ni1, .bool eb1], .blk g1 60 [.slice Acs ((cs.take 2000).length) ccs, .int .i64 ((q_3_2 : Nat) : Int)], .own A_3_2 r_3_2.length c_3_2 3 1 (r_3_2.map I), .blk b1 25 [.slice A1 r1.length c1, .int .i64 ni1, .bool eb1]]) => ?_)
  refine nl (kq ⟨_, hs8, memi 1 rfl, trivial⟩ ?_)
  refine tk (fuel := 0) (is := [4]) (.cons rfl (.nil)) (by kernel_rfl) (by kernel_rfl) ⟨_, hs8, memi 1 rfl, trivial⟩ ?_
  refine .op trivial rfl rfl (fun wq _ => asg (v := .slice A_3_2 r_3_2.length c_3_2) rfl) ?_
  refine .nil ?_
  refine ad (by kernel_rfl) ?_
  refine nN ?_
  have hs9 : SH w w7 [] [.own A1 r1.length c1 3 1 (r1.map I), .own A_3_2 r_3_2.length c_3_2 3 1 (r_3_2.map I), .blk b1 25 [.slice A1 r1.length c1, .int .i64 ni1, .bool eb1]] := hs8.pick [0, 3, 4] rfl (by decide)
  refine rt ?_
  refine fret (v := .tuple #[.agg #[.slice A1 r1.length c1, .int .i64 ni1, .bool eb1], .slice A_3_2 r_3_2.length c_3_2]) (resC hs9 2 rfl rfl ag25 rfl (.tmp .nil)) rfl ?_
  exact ⟨A1, c1, A_3_2, c_3_2, r1, ni1, eb1, r_3_2, rfl, (by first | assumption | omega | (simp; omega)), (by first | assumption | omega | (simp; omega)), (hs9.pick [0, 1] rfl (by decide))⟩


end Go.Proofs.Ytgefaejgkcbkpaa
