/-
  Part of the proofs over this seat: what each function of the program computes, function by function (the text is written by a program of this hand-in's own).
  Conditions: each theorem states its own.
-/
import Derived.Test.YtgefaejgkcbkpaaPfWalks2
namespace Go.Proofs.Ytgefaejgkcbkpaa
open Go.PF
set_option maxRecDepth 100000
set_option linter.unusedSimpArgs false
set_option linter.unusedVariables false

theorem lExactPipePut {Axs : Option Addr} {cxs : Nat} (xs : List Int) (ni : Int) (eb : Bool) {Abs : Option Addr} {cbs : Nat} (bs : List Int) (w : World) (hxs : Sl w [] 1 Axs xs.length cxs (xs.map I)) (hbs : Sl w [] 1 Abs bs.length cbs (bs.map I)) : Does Try.prog 15 [.agg #[.slice Axs xs.length cxs, .int .i64 ni, .bool eb], .slice Abs bs.length cbs] w (fun v w' => v = .bool true ∧ SH w w' [] []) := by
  refine fn_enter (N := 138) Try.func15 rfl (by kernel_rfl) rfl rfl rfl ?_
  have hs0 : SH w w [] [] := SH.refl w []
  have hxs_m : xs.length ≤ 9223372036854775807 := Nat.le_trans hxs.cap hxs.capMax
  have hbs_m : bs.length ≤ 9223372036854775807 := Nat.le_trans hbs.cap hbs.capMax
  refine sq ?_
  refine rg ?_
  refine bx (v := .agg #[.slice Axs xs.length cxs, .int .i64 ni, .bool eb]) (cs := [.slice Axs xs.length cxs, .int .i64 ni, .bool eb]) hs0 rfl rfl trivial rfl (fun b1 w1 (hs1 : SH w w1 [] [.blk b1 29 [.slice Axs xs.length cxs, .int .i64 ni, .bool eb]]) => ?_)
  refine q trivial rfl rfl (asg (v := .bool false) rfl) ?_
  refine nl ?_
  refine nN ?_
  refine sq ?_
  refine sq ?_
  refine rg ?_
  refine q trivial rfl rfl (mv (v := .slice Abs bs.length cbs) rfl) ?_
  refine q trivial rfl rfl (lnA (n := bs.length) sl23 rfl) ?_
  refine q trivial rfl rfl (gtr (k := .i64) (a := ((bs.length : Nat) : Int)) (b := 1048576) rfl rfl) ?_
  refine nl ?_
  refine nN ?_
  refine cdd (p := (1048576 : Int) < ((bs.length : Nat) : Int)) rfl (fun h1 => ?_) (fun h1 => ?_)
  · refine sq ?_
    refine rg ?_
    refine q trivial rfl rfl (asg (v := .bool true) rfl) ?_
    refine nl ?_
    refine nN ?_
    refine rt (tR ?_)
    refine fret (v := .bool true) (.tmp .nil) rfl ?_
    exact ⟨rfl, (hs1.pick [] rfl (by decide))⟩
  · refine sk ?_
    refine nN ?_
    refine sq ?_
    refine rg ?_
    refine q trivial rfl rfl (asg (v := .int .i64 1048576) rfl) ?_
    refine nl ?_
    refine nN ?_
    refine sq ?_
    refine rg ?_
    refine q trivial rfl rfl (ldg (vs := [.slice Axs xs.length cxs, .int .i64 ni, .bool eb]) hs1 0 rfl rfl rfl rfl ag29) ?_
    refine q trivial rfl rfl (mv (v := .int .i64 1048576) rfl) ?_
    refine cl trivial rfl (szPipe (Axs := Axs) (cxs := cxs) (xs := xs) (ni := ni) (eb := eb) (z := 1048576) (w := _) (hxs := (hxs.up0 hs1)) (hz := (by first | (first | omega | assumption | (simp; done) | (simp; omega)) | (have hsz := szI_nn (by assumption); have hpl := pipePut_len xs ni eb bs; first | omega | assumption | (simp; done) | (simp; omega))))) ?_
    rintro _ w2 ⟨rfl, hs2'⟩
    have hs2 : SH w w2 [] [.blk b1 29 [.slice Axs xs.length cxs, .int .i64 ni, .bool eb]] := hs1.call0 hs2'
    clear hs2'
    refine q trivial rfl rfl (asg (v := .int .i64 (szI xs.length 1048576)) rfl) ?_
    refine nl ?_
    refine nN ?_
    refine sq ?_
    refine sq ?_
    refine rg ?_
    refine q trivial rfl rfl (mv (v := .int .i64 (szI xs.length 1048576)) rfl) ?_
    refine q trivial rfl rfl (lss (k := .i64) (a := szI xs.length 1048576) (b := 0) rfl rfl) ?_
    refine nl ?_
    refine nN ?_
    refine cdd (p := (szI xs.length 1048576) < 0) rfl (fun h2 => ?_) (fun h2 => ?_)
    · refine sq ?_
      refine rg ?_
      refine q trivial rfl rfl (asg (v := .bool true) rfl) ?_
      refine nl ?_
      refine nN ?_
      refine rt (tR ?_)
      refine fret (v := .bool true) (.tmp .nil) rfl ?_
      exact ⟨rfl, (hs2.pick [] rfl (by decide))⟩
    · refine sk ?_
      refine nN ?_
      refine sq ?_
      refine rg ?_
      refine q trivial rfl rfl (ldg (vs := [.slice Axs xs.length cxs, .int .i64 ni, .bool eb]) hs2 0 rfl rfl rfl rfl ag29) ?_
      refine cl trivial rfl (toPipe (Axs := Axs) (cxs := cxs) (xs := xs) (ni := ni) (eb := eb) (w := _) (hxs := (hxs.up0 hs2)) (hxs_n := (by first | (first | omega | (simp; omega)) | (have hsz := szI_nn (by assumption); have hpl := pipePut_len xs ni eb bs; first | omega | (simp; omega))))) ?_
      rintro _ w3 ⟨A1, c1, rfl, hs3'⟩
      have hs3 : SH w w3 [] [.blk b1 29 [.slice Axs xs.length cxs, .int .i64 ni, .bool eb], .own A1 xs.length c1 3 1 (xs.map I)] := hs2.call0 hs3'
      clear hs3'
      refine q trivial rfl rfl (mv (v := .slice Abs bs.length cbs) rfl) ?_
      refine cl trivial rfl (toIntS (Axs := Abs) (cxs := cbs) (xs := bs) (w := _) (hxs := (hbs.up0 hs3)) (hxs_n := (by first | (first | omega | (simp; omega)) | (have hsz := szI_nn (by assumption); have hpl := pipePut_len xs ni eb bs; first | omega | (simp; omega))))) ?_
      rintro _ w4 ⟨A2, c2, rfl, hs4'⟩
      have hs4 : SH w w4 [] [.blk b1 29 [.slice Axs xs.length cxs, .int .i64 ni, .bool eb], .own A1 xs.length c1 3 1 (xs.map I), .own A2 bs.length c2 3 1 (bs.map I)] := hs3.call0 hs4'
      clear hs4'
      refine cl trivial rfl (sPipePut (Axs := A1) (cxs := c1) (xs := xs) (ni := ni) (eb := eb) (Abs := A2) (cbs := c2) (bs := bs) (w := _) (hxs := (hs4.sl0 1 rfl)) (hbs := (hs4.sl0 2 rfl))) ?_
      rintro _ w5 ⟨A3, c3, rfl, hs5'⟩
      have hs5 : SH w w5 [] [.blk b1 29 [.slice Axs xs.length cxs, .int .i64 ni, .bool eb], .own A1 xs.length c1 3 1 (xs.map I), .own A2 bs.length c2 3 1 (bs.map I), .own A3 (((pipePut xs ni eb bs).1).length) c3 3 1 (((pipePut xs ni eb bs).1).map I)] := hs4.call0 hs5'
      clear hs5'
      refine q trivial rfl rfl (mv (v := .tuple #[.agg #[.slice A3 (((pipePut xs ni eb bs).1).length) c3, .int .i64 ((pipePut xs ni eb bs).2.1), .bool false], .int .i64 ((pipePut xs ni eb bs).2.2.1), .bool ((pipePut xs ni eb bs).2.2.2)]) rfl) ?_
      refine q trivial rfl rfl (xt 0 (v := .agg #[.slice A3 (((pipePut xs ni eb bs).1).length) c3, .int .i64 ((pipePut xs ni eb bs).2.1), .bool false]) rfl rfl) ?_
      refine q trivial rfl rfl (xt 1 (v := .int .i64 ((pipePut xs ni eb bs).2.2.1)) rfl rfl) ?_
      refine q trivial rfl rfl (xt 2 (v := .bool ((pipePut xs ni eb bs).2.2.2)) rfl rfl) ?_
      refine al (v := .agg #[.slice none 0 0, .int .i64 0, .bool false]) (cs := [.slice none 0 0, .int .i64 0, .bool false]) hs5 tz25 rfl trivial rfl (fun b2 w6 (hs6 : SH w w6 [] [.blk b1 29 [.slice Axs xs.length cxs, .int .i64 ni, .bool eb], .own A1 xs.length c1 3 1 (xs.map I), .own A2 bs.length c2 3 1 (bs.map I), .own A3 (((pipePut xs ni eb bs).1).length) c3 3 1 (((pipePut xs ni eb bs).1).map I), .blk b2 25 [.slice none 0 0, .int .i64 0, .bool false]]) => ?_)
      refine stg (vs := [.slice A3 (((pipePut xs ni eb bs).1).length) c3, .int .i64 ((pipePut xs ni eb bs).2.1), .bool false]) hs6 4 rfl rfl rfl rfl rfl rfl rfl ag25 trivial (fun w7 (hs7 : SH w w7 [] [.blk b1 29 [.slice Axs xs.length cxs, .int .i64 ni, .bool eb], .own A1 xs.length c1 3 1 (xs.map I), .own A2 bs.length c2 3 1 (bs.map I), .own A3 (((pipePut xs ni eb bs).1).length) c3 3 1 (((pipePut xs ni eb bs).1).map I), .blk b2 25 [.slice A3 (((pipePut xs ni eb bs).1).length) c3, .int .i64 ((pipePut xs ni eb bs).2.1), .bool false]]) => ?_)
      refine q trivial rfl rfl (asg (v := .int .i64 ((pipePut xs ni eb bs).2.2.1)) rfl) ?_
      refine q trivial rfl rfl (asg (v := .bool ((pipePut xs ni eb bs).2.2.2)) rfl) ?_
      refine nl ?_
      refine nN ?_
      have hs8 : SH w w7 [] [.blk b1 29 [.slice Axs xs.length cxs, .int .i64 ni, .bool eb], .own A3 (((pipePut xs ni eb bs).1).length) c3 3 1 (((pipePut xs ni eb bs).1).map I), .blk b2 25 [.slice A3 (((pipePut xs ni eb bs).1).length) c3, .int .i64 ((pipePut xs ni eb bs).2.1), .bool false]] := hs7.pick [0, 3, 4] rfl (by decide)
      refine sq ?_
      refine rg ?_
      refine q trivial rfl rfl (ldg (vs := [.slice Axs xs.length cxs, .int .i64 ni, .bool eb]) hs8 0 rfl rfl rfl rfl ag29) ?_
      refine cl trivial rfl (toPipe (Axs := Axs) (cxs := cxs) (xs := xs) (ni := ni) (eb := eb) (w := _) (hxs := (hxs.up0 hs8)) (hxs_n := (by first | (first | omega | (simp; omega)) | (have hsz := szI_nn (by assumption); have hpl := pipePut_len xs ni eb bs; first | omega | (simp; omega))))) ?_
      rintro _ w8 ⟨A4, c4, rfl, hs9'⟩
      have hs9 : SH w w8 [] [.blk b1 29 [.slice Axs xs.length cxs, .int .i64 ni, .bool eb], .own A3 (((pipePut xs ni eb bs).1).length) c3 3 1 (((pipePut xs ni eb bs).1).map I), .blk b2 25 [.slice A3 (((pipePut xs ni eb bs).1).length) c3, .int .i64 ((pipePut xs ni eb bs).2.1), .bool false], .own A4 xs.length c4 3 1 (xs.map I)] := hs8.call0 hs9'
      clear hs9'
      refine al (v := .agg #[.slice none 0 0, .int .i64 0, .bool false]) (cs := [.slice none 0 0, .int .i64 0, .bool false]) hs9 tz25 rfl trivial rfl (fun b3 w9 (hs10 : SH w w9 [] [.blk b1 29 [.slice Axs xs.length cxs, .int .i64 ni, .bool eb], .own A3 (((pipePut xs ni eb bs).1).length) c3 3 1 (((pipePut xs ni eb bs).1).map I), .blk b2 25 [.slice A3 (((pipePut xs ni eb bs).1).length) c3, .int .i64 ((pipePut xs ni eb bs).2.1), .bool false], .own A4 xs.length c4 3 1 (xs.map I), .blk b3 25 [.slice none 0 0, .int .i64 0, .bool false]]) => ?_)
      refine stg (vs := [.slice A4 xs.length c4, .int .i64 ni, .bool eb]) hs10 4 rfl rfl rfl rfl rfl rfl rfl ag25 trivial (fun w10 (hs11 : SH w w10 [] [.blk b1 29 [.slice Axs xs.length cxs, .int .i64 ni, .bool eb], .own A3 (((pipePut xs ni eb bs).1).length) c3 3 1 (((pipePut xs ni eb bs).1).map I), .blk b2 25 [.slice A3 (((pipePut xs ni eb bs).1).length) c3, .int .i64 ((pipePut xs ni eb bs).2.1), .bool false], .own A4 xs.length c4 3 1 (xs.map I), .blk b3 25 [.slice A4 xs.length c4, .int .i64 ni, .bool eb]]) => ?_)
      refine nl ?_
      refine nN ?_
      refine sq ?_
      refine rg ?_
      refine q trivial rfl rfl (mv (v := .slice Abs bs.length cbs) rfl) ?_
      refine cl trivial rfl (toIntS (Axs := Abs) (cxs := cbs) (xs := bs) (w := _) (hxs := (hbs.up0 hs11)) (hxs_n := (by first | (first | omega | (simp; omega)) | (have hsz := szI_nn (by assumption); have hpl := pipePut_len xs ni eb bs; first | omega | (simp; omega))))) ?_
      rintro _ w11 ⟨A5, c5, rfl, hs12'⟩
      have hs12 : SH w w11 [] [.blk b1 29 [.slice Axs xs.length cxs, .int .i64 ni, .bool eb], .own A3 (((pipePut xs ni eb bs).1).length) c3 3 1 (((pipePut xs ni eb bs).1).map I), .blk b2 25 [.slice A3 (((pipePut xs ni eb bs).1).length) c3, .int .i64 ((pipePut xs ni eb bs).2.1), .bool false], .own A4 xs.length c4 3 1 (xs.map I), .blk b3 25 [.slice A4 xs.length c4, .int .i64 ni, .bool eb], .own A5 bs.length c5 3 1 (bs.map I)] := hs11.call0 hs12'
      clear hs12'
      refine q trivial rfl rfl (asg (v := .slice A5 bs.length c5) rfl) ?_
      refine nl ?_
      refine nN ?_
      refine sq ?_
      refine rg ?_
      refine q trivial rfl rfl (ldg (vs := [.slice A4 xs.length c4, .int .i64 ni, .bool eb]) hs12 4 rfl rfl rfl rfl ag25) ?_
      refine q trivial rfl rfl (mv (v := .slice A5 bs.length c5) rfl) ?_
      refine cl trivial rfl (iPipePut (Axs := A4) (cxs := c4) (xs := xs) (ni := ni) (eb := eb) (Abs := A5) (cbs := c5) (bs := bs) (w := _) (hxs := (hs12.sl0 3 rfl)) (hbs := (hs12.sl0 5 rfl))) ?_
      rintro _ w12 ⟨A6, c6, rfl, hs13'⟩
      have hs13 : SH w w12 [] [.blk b1 29 [.slice Axs xs.length cxs, .int .i64 ni, .bool eb], .own A3 (((pipePut xs ni eb bs).1).length) c3 3 1 (((pipePut xs ni eb bs).1).map I), .blk b2 25 [.slice A3 (((pipePut xs ni eb bs).1).length) c3, .int .i64 ((pipePut xs ni eb bs).2.1), .bool false], .own A4 xs.length c4 3 1 (xs.map I), .blk b3 25 [.slice A4 xs.length c4, .int .i64 ni, .bool eb], .own A5 bs.length c5 3 1 (bs.map I), .own A6 (((pipePut xs ni eb bs).1).length) c6 3 1 (((pipePut xs ni eb bs).1).map I)] := hs12.call0 hs13'
      clear hs13'
      refine q trivial rfl rfl (mv (v := .tuple #[.agg #[.slice A6 (((pipePut xs ni eb bs).1).length) c6, .int .i64 ((pipePut xs ni eb bs).2.1), .bool false], .int .i64 ((pipePut xs ni eb bs).2.2.1), .bool ((pipePut xs ni eb bs).2.2.2)]) rfl) ?_
      refine q trivial rfl rfl (xt 0 (v := .agg #[.slice A6 (((pipePut xs ni eb bs).1).length) c6, .int .i64 ((pipePut xs ni eb bs).2.1), .bool false]) rfl rfl) ?_
      refine q trivial rfl rfl (xt 1 (v := .int .i64 ((pipePut xs ni eb bs).2.2.1)) rfl rfl) ?_
      refine q trivial rfl rfl (xt 2 (v := .bool ((pipePut xs ni eb bs).2.2.2)) rfl rfl) ?_
      refine al (v := .agg #[.slice none 0 0, .int .i64 0, .bool false]) (cs := [.slice none 0 0, .int .i64 0, .bool false]) hs13 tz25 rfl trivial rfl (fun b4 w13 (hs14 : SH w w13 [] [.blk b1 29 [.slice Axs xs.length cxs, .int .i64 ni, .bool eb], .own A3 (((pipePut xs ni eb bs).1).length) c3 3 1 (((pipePut xs ni eb bs).1).map I), .blk b2 25 [.slice A3 (((pipePut xs ni eb bs).1).length) c3, .int .i64 ((pipePut xs ni eb bs).2.1), .bool false], .own A4 xs.length c4 3 1 (xs.map I), .blk b3 25 [.slice A4 xs.length c4, .int .i64 ni, .bool eb], .own A5 bs.length c5 3 1 (bs.map I), .own A6 (((pipePut xs ni eb bs).1).length) c6 3 1 (((pipePut xs ni eb bs).1).map I), .blk b4 25 [.slice none 0 0, .int .i64 0, .bool false]]) => ?_)
      refine stg (vs := [.slice A6 (((pipePut xs ni eb bs).1).length) c6, .int .i64 ((pipePut xs ni eb bs).2.1), .bool false]) hs14 7 rfl rfl rfl rfl rfl rfl rfl ag25 trivial (fun w14 (hs15 : SH w w14 [] [.blk b1 29 [.slice Axs xs.length cxs, .int .i64 ni, .bool eb], .own A3 (((pipePut xs ni eb bs).1).length) c3 3 1 (((pipePut xs ni eb bs).1).map I), .blk b2 25 [.slice A3 (((pipePut xs ni eb bs).1).length) c3, .int .i64 ((pipePut xs ni eb bs).2.1), .bool false], .own A4 xs.length c4 3 1 (xs.map I), .blk b3 25 [.slice A4 xs.length c4, .int .i64 ni, .bool eb], .own A5 bs.length c5 3 1 (bs.map I), .own A6 (((pipePut xs ni eb bs).1).length) c6 3 1 (((pipePut xs ni eb bs).1).map I), .blk b4 25 [.slice A6 (((pipePut xs ni eb bs).1).length) c6, .int .i64 ((pipePut xs ni eb bs).2.1), .bool false]]) => ?_)
      refine q trivial rfl rfl (asg (v := .int .i64 ((pipePut xs ni eb bs).2.2.1)) rfl) ?_
      refine q trivial rfl rfl (asg (v := .bool ((pipePut xs ni eb bs).2.2.2)) rfl) ?_
      refine nl ?_
      refine nN ?_
      refine sq ?_
      refine sq ?_
      refine rg ?_
      refine q trivial rfl rfl (ldg (vs := [.slice A6 (((pipePut xs ni eb bs).1).length) c6, .int .i64 ((pipePut xs ni eb bs).2.1), .bool false]) hs15 7 rfl rfl rfl rfl ag25) ?_
      refine q trivial rfl rfl (ldg (vs := [.slice A3 (((pipePut xs ni eb bs).1).length) c3, .int .i64 ((pipePut xs ni eb bs).2.1), .bool false]) hs15 2 rfl rfl rfl rfl ag25) ?_
      refine cl trivial rfl (eqPipe (Axs := A6) (cxs := c6) (xs := (pipePut xs ni eb bs).1) (n1 := (pipePut xs ni eb bs).2.1) (e1 := false) (Ays := A3) (cys := c3) (ys := (pipePut xs ni eb bs).1) (n2 := (pipePut xs ni eb bs).2.1) (e2 := false) (w := _) (hxs := (hs15.sl0 6 rfl)) (hys := (hs15.sl0 1 rfl))) ?_
      rintro _ w15 ⟨rfl, hs16'⟩
      have hs16 : SH w w15 [] [.blk b1 29 [.slice Axs xs.length cxs, .int .i64 ni, .bool eb], .own A3 (((pipePut xs ni eb bs).1).length) c3 3 1 (((pipePut xs ni eb bs).1).map I), .blk b2 25 [.slice A3 (((pipePut xs ni eb bs).1).length) c3, .int .i64 ((pipePut xs ni eb bs).2.1), .bool false], .own A4 xs.length c4 3 1 (xs.map I), .blk b3 25 [.slice A4 xs.length c4, .int .i64 ni, .bool eb], .own A5 bs.length c5 3 1 (bs.map I), .own A6 (((pipePut xs ni eb bs).1).length) c6 3 1 (((pipePut xs ni eb bs).1).map I), .blk b4 25 [.slice A6 (((pipePut xs ni eb bs).1).length) c6, .int .i64 ((pipePut xs ni eb bs).2.1), .bool false]] := hs15.call0 hs16'
      clear hs16'
      refine q trivial rfl rfl (nd (p := ((pipePut xs ni eb bs).1) = ((pipePut xs ni eb bs).1) ∧ ((pipePut xs ni eb bs).2.1) = ((pipePut xs ni eb bs).2.1) ∧ false = false) rfl) ?_
      refine q trivial rfl rfl (mv (v := .bool (decide (¬ (((pipePut xs ni eb bs).1) = ((pipePut xs ni eb bs).1) ∧ ((pipePut xs ni eb bs).2.1) = ((pipePut xs ni eb bs).2.1) ∧ false = false)))) rfl) ?_
      refine spd (p := ¬ (((pipePut xs ni eb bs).1) = ((pipePut xs ni eb bs).1) ∧ ((pipePut xs ni eb bs).2.1) = ((pipePut xs ni eb bs).2.1) ∧ false = false)) 52 rfl (fun h3 => absurd h3 (by exact fun h => h ⟨rfl, rfl, rfl⟩)) (fun h3 => ?_)
      refine q ⟨_, rfl, rfl⟩ rfl rfl (mv (v := .int .i64 ((pipePut xs ni eb bs).2.2.1)) rfl) ?_
      refine q ⟨_, rfl, rfl⟩ rfl rfl (mv (v := .int .i64 ((pipePut xs ni eb bs).2.2.1)) rfl) ?_
      refine q ⟨_, rfl, rfl⟩ rfl rfl (nei (k := .i64) (a := (pipePut xs ni eb bs).2.2.1) (b := (pipePut xs ni eb bs).2.2.1) rfl rfl) ?_
      refine q trivial rfl rfl (pf (v := .bool (decide (((pipePut xs ni eb bs).2.2.1) ≠ ((pipePut xs ni eb bs).2.2.1)))) rfl rfl) ?_
      refine q trivial rfl rfl (mv (v := .bool (decide (((pipePut xs ni eb bs).2.2.1) ≠ ((pipePut xs ni eb bs).2.2.1)))) rfl) ?_
      refine spd (p := ((pipePut xs ni eb bs).2.2.1) ≠ ((pipePut xs ni eb bs).2.2.1)) 57 rfl (fun h4 => absurd h4 (by exact fun h => h rfl)) (fun h4 => ?_)
      refine q ⟨_, rfl, rfl⟩ rfl rfl (mv (v := .bool ((pipePut xs ni eb bs).2.2.2)) rfl) ?_
      refine q ⟨_, rfl, rfl⟩ rfl rfl (mv (v := .bool ((pipePut xs ni eb bs).2.2.2)) rfl) ?_
      refine q ⟨_, rfl, rfl⟩ rfl rfl (neb (a := ((pipePut xs ni eb bs).2.2.2)) (b := ((pipePut xs ni eb bs).2.2.2)) tb4 rfl rfl) ?_
      refine q trivial rfl rfl (pf (v := .bool (decide (((pipePut xs ni eb bs).2.2.2) ≠ ((pipePut xs ni eb bs).2.2.2)))) rfl rfl) ?_
      refine nl ?_
      refine nN ?_
      refine cdd (p := ((pipePut xs ni eb bs).2.2.2) ≠ ((pipePut xs ni eb bs).2.2.2)) rfl (fun h5 => absurd h5 (by exact fun h => h rfl)) (fun h5 => ?_)
      refine sk ?_
      refine nN ?_
      refine sq ?_
      refine sq ?_
      refine ra (fun w' => ∃ L, SH w w' [] L ∧ (.blk b1 29 [.slice Axs xs.length cxs, .int .i64 ni, .bool eb]) ∈ L ∧ (.blk b2 25 [.slice A3 (((pipePut xs ni eb bs).1).length) c3, .int .i64 ((pipePut xs ni eb bs).2.1), .bool false]) ∈ L ∧ (.blk b3 25 [.slice A4 xs.length c4, .int .i64 ni, .bool eb]) ∈ L ∧ (.blk b4 25 [.slice A6 (((pipePut xs ni eb bs).1).length) c6, .int .i64 ((pipePut xs ni eb bs).2.1), .bool false]) ∈ L ∧ True) mixed ?_
      have hs17 := hs16.drew
      refine tk (fuel := 3) (is := [0, 1]) (.cons rfl (.cons rfl (.nil))) (by kernel_rfl) (by kernel_rfl) ⟨_, hs17, memi 0 rfl, memi 2 rfl, memi 4 rfl, memi 7 rfl, trivial⟩ ?_
      refine .op trivial rfl rfl (fun wq ⟨Lq, hsq, mh0, mh1, mh2, mh3, _⟩ => ldgm (vs := [.slice A4 xs.length c4, .int .i64 ni, .bool eb]) hsq mh2 rfl rfl rfl ag25) ?_
      refine .op trivial rfl rfl (fun wq ⟨Lq, hsq, mh0, mh1, mh2, mh3, _⟩ => ldgm (vs := [.slice Axs xs.length cxs, .int .i64 ni, .bool eb]) hsq mh0 rfl rfl rfl ag29) ?_
      refine .nil ?_
      refine a1 (i := 2) (by kernel_rfl) ?_
      refine one_ rfl ?_
      refine cl trivial rfl (toPipe (Axs := Axs) (cxs := cxs) (xs := xs) (ni := ni) (eb := eb) (w := _) (hxs := (hxs.up0 hs17)) (hxs_n := (by first | (first | omega | (simp; omega)) | (have hsz := szI_nn (by assumption); have hpl := pipePut_len xs ni eb bs; first | omega | (simp; omega))))) ?_
      rintro _ w16 ⟨A_13_2, c_13_2, rfl, hs18'⟩
      have hs18 : SH w w16 [] [.blk b1 29 [.slice Axs xs.length cxs, .int .i64 ni, .bool eb], .own A3 (((pipePut xs ni eb bs).1).length) c3 3 1 (((pipePut xs ni eb bs).1).map I), .blk b2 25 [.slice A3 (((pipePut xs ni eb bs).1).length) c3, .int .i64 ((pipePut xs ni eb bs).2.1), .bool false], .own A4 xs.length c4 3 1 (xs.map I), .blk b3 25 [.slice A4 xs.length c4, .int .i64 ni, .bool eb], .own A5 bs.length c5 3 1 (bs.map I), .own A6 (((pipePut xs ni eb bs).1).length) c6 3 1 (((pipePut xs ni eb bs).1).map I), .blk b4 25 [.slice A6 (((pipePut xs ni eb bs).1).length) c6, .int .i64 ((pipePut xs ni eb bs).2.1), .bool false], .own A_13_2 xs.length c_13_2 3 1 (xs.map I)] := hs17.call0 hs18'
      clear hs18'
      refine nl (kq ⟨_, hs18, memi 0 rfl, memi 2 rfl, memi 4 rfl, memi 7 rfl, trivial⟩ ?_)
      refine a1 (i := 3) (by kernel_rfl) ?_
      refine one_ rfl ?_
      refine cl trivial rfl (eqPipe (Axs := A4) (cxs := c4) (xs := xs) (n1 := ni) (e1 := eb) (Ays := A_13_2) (cys := c_13_2) (ys := xs) (n2 := ni) (e2 := eb) (w := _) (hxs := (hs18.sl0 3 rfl)) (hys := (hs18.sl0 8 rfl))) ?_
      rintro _ w17 ⟨rfl, hs19'⟩
      have hs19 : SH w w17 [] [.blk b1 29 [.slice Axs xs.length cxs, .int .i64 ni, .bool eb], .own A3 (((pipePut xs ni eb bs).1).length) c3 3 1 (((pipePut xs ni eb bs).1).map I), .blk b2 25 [.slice A3 (((pipePut xs ni eb bs).1).length) c3, .int .i64 ((pipePut xs ni eb bs).2.1), .bool false], .own A4 xs.length c4 3 1 (xs.map I), .blk b3 25 [.slice A4 xs.length c4, .int .i64 ni, .bool eb], .own A5 bs.length c5 3 1 (bs.map I), .own A6 (((pipePut xs ni eb bs).1).length) c6 3 1 (((pipePut xs ni eb bs).1).map I), .blk b4 25 [.slice A6 (((pipePut xs ni eb bs).1).length) c6, .int .i64 ((pipePut xs ni eb bs).2.1), .bool false], .own A_13_2 xs.length c_13_2 3 1 (xs.map I)] := hs18.call0 hs19'
      clear hs19'
      refine nl (kq ⟨_, hs19, memi 0 rfl, memi 2 rfl, memi 4 rfl, memi 7 rfl, trivial⟩ ?_)
      refine tk (fuel := 0) (is := [4]) (.cons rfl (.nil)) (by kernel_rfl) (by kernel_rfl) ⟨_, hs19, memi 0 rfl, memi 2 rfl, memi 4 rfl, memi 7 rfl, trivial⟩ ?_
      refine .op trivial rfl rfl (fun wq _ => nd (p := xs = xs ∧ ni = ni ∧ eb = eb) rfl) ?_
      refine .nil ?_
      refine ad (by kernel_rfl) ?_
      refine nN ?_
      refine cdd (p := ¬ (xs = xs ∧ ni = ni ∧ eb = eb)) rfl (fun h6 => absurd h6 (by exact fun h => h ⟨rfl, rfl, rfl⟩)) (fun h6 => ?_)
      refine sk ?_
      refine nN ?_
      refine sq ?_
      refine sq ?_
      refine rg ?_
      refine q trivial rfl rfl (mv (v := .slice A5 bs.length c5) rfl) ?_
      refine q trivial rfl rfl (mv (v := .slice Abs bs.length cbs) rfl) ?_
      refine cl trivial rfl (toIntS (Axs := Abs) (cxs := cbs) (xs := bs) (w := _) (hxs := (hbs.up0 hs19)) (hxs_n := (by first | (first | omega | (simp; omega)) | (have hsz := szI_nn (by assumption); have hpl := pipePut_len xs ni eb bs; first | omega | (simp; omega))))) ?_
      rintro _ w18 ⟨A7, c7, rfl, hs20'⟩
      have hs20 : SH w w18 [] [.blk b1 29 [.slice Axs xs.length cxs, .int .i64 ni, .bool eb], .own A3 (((pipePut xs ni eb bs).1).length) c3 3 1 (((pipePut xs ni eb bs).1).map I), .blk b2 25 [.slice A3 (((pipePut xs ni eb bs).1).length) c3, .int .i64 ((pipePut xs ni eb bs).2.1), .bool false], .own A4 xs.length c4 3 1 (xs.map I), .blk b3 25 [.slice A4 xs.length c4, .int .i64 ni, .bool eb], .own A5 bs.length c5 3 1 (bs.map I), .own A6 (((pipePut xs ni eb bs).1).length) c6 3 1 (((pipePut xs ni eb bs).1).map I), .blk b4 25 [.slice A6 (((pipePut xs ni eb bs).1).length) c6, .int .i64 ((pipePut xs ni eb bs).2.1), .bool false], .own A_13_2 xs.length c_13_2 3 1 (xs.map I), .own A7 bs.length c7 3 1 (bs.map I)] := hs19.call0 hs20'
      clear hs20'
      refine cl trivial rfl (eqIntS (Axs := A5) (cxs := c5) (xs := bs) (Abs := A7) (cbs := c7) (bs := bs) (w := _) (hxs := (hs20.sl0 5 rfl)) (hbs := (hs20.sl0 9 rfl))) ?_
      rintro _ w19 ⟨rfl, hs21'⟩
      have hs21 : SH w w19 [] [.blk b1 29 [.slice Axs xs.length cxs, .int .i64 ni, .bool eb], .own A3 (((pipePut xs ni eb bs).1).length) c3 3 1 (((pipePut xs ni eb bs).1).map I), .blk b2 25 [.slice A3 (((pipePut xs ni eb bs).1).length) c3, .int .i64 ((pipePut xs ni eb bs).2.1), .bool false], .own A4 xs.length c4 3 1 (xs.map I), .blk b3 25 [.slice A4 xs.length c4, .int .i64 ni, .bool eb], .own A5 bs.length c5 3 1 (bs.map I), .own A6 (((pipePut xs ni eb bs).1).length) c6 3 1 (((pipePut xs ni eb bs).1).map I), .blk b4 25 [.slice A6 (((pipePut xs ni eb bs).1).length) c6, .int .i64 ((pipePut xs ni eb bs).2.1), .bool false], .own A_13_2 xs.length c_13_2 3 1 (xs.map I), .own A7 bs.length c7 3 1 (bs.map I)] := hs20.call0 hs21'
      clear hs21'
      refine q trivial rfl rfl (nd (p := bs = bs) rfl) ?_
      refine nl ?_
      refine nN ?_
      have hs22 : SH w w19 [] [.blk b1 29 [.slice Axs xs.length cxs, .int .i64 ni, .bool eb], .own A3 (((pipePut xs ni eb bs).1).length) c3 3 1 (((pipePut xs ni eb bs).1).map I), .blk b2 25 [.slice A3 (((pipePut xs ni eb bs).1).length) c3, .int .i64 ((pipePut xs ni eb bs).2.1), .bool false], .own A4 xs.length c4 3 1 (xs.map I), .blk b3 25 [.slice A4 xs.length c4, .int .i64 ni, .bool eb], .own A5 bs.length c5 3 1 (bs.map I), .own A6 (((pipePut xs ni eb bs).1).length) c6 3 1 (((pipePut xs ni eb bs).1).map I), .blk b4 25 [.slice A6 (((pipePut xs ni eb bs).1).length) c6, .int .i64 ((pipePut xs ni eb bs).2.1), .bool false]] := hs21.pick [0, 1, 2, 3, 4, 5, 6, 7] rfl (by decide)
      refine cdd (p := ¬ (bs = bs)) rfl (fun h7 => absurd h7 (by exact fun h => h rfl)) (fun h7 => ?_)
      refine sk ?_
      refine nN ?_
      refine sq ?_
      refine rg ?_
      refine q trivial rfl rfl (asg (v := .int .i64 1) rfl) ?_
      refine nl ?_
      refine nN ?_
      refine sq ?_
      refine rg ?_
      refine q trivial rfl rfl (ldg (vs := [.slice A4 xs.length c4, .int .i64 ni, .bool eb]) hs22 4 rfl rfl rfl rfl ag25) ?_
      refine q trivial rfl rfl (mv (v := .int .i64 1) rfl) ?_
      refine cl trivial rfl (markPipe (Axs := A4) (cxs := c4) (xs := xs) (ni := ni) (eb := eb) (k0 := 1) (w := _) (hxs := (own_ok hs22 3 rfl)) (hxs_n := (by first | (first | omega | (simp; omega)) | (have hsz := szI_nn (by assumption); have hpl := pipePut_len xs ni eb bs; first | omega | (simp; omega)))) (hk0 := (by first | (first | omega | assumption | (simp; done) | (simp; omega)) | (have hsz := szI_nn (by assumption); have hpl := pipePut_len xs ni eb bs; first | omega | assumption | (simp; done) | (simp; omega))))) ?_
      rintro _ w20 ⟨rfl, hs23'⟩
      have hs23 : SH w w20 [] [.blk b1 29 [.slice Axs xs.length cxs, .int .i64 ni, .bool eb], .own A3 (((pipePut xs ni eb bs).1).length) c3 3 1 (((pipePut xs ni eb bs).1).map I), .blk b2 25 [.slice A3 (((pipePut xs ni eb bs).1).length) c3, .int .i64 ((pipePut xs ni eb bs).2.1), .bool false], .blk b3 25 [.slice A4 xs.length c4, .int .i64 ni, .bool eb], .own A5 bs.length c5 3 1 (bs.map I), .own A6 (((pipePut xs ni eb bs).1).length) c6 3 1 (((pipePut xs ni eb bs).1).map I), .blk b4 25 [.slice A6 (((pipePut xs ni eb bs).1).length) c6, .int .i64 ((pipePut xs ni eb bs).2.1), .bool false], .own A4 xs.length c4 3 1 ((marks 1 xs.length).map I)] := SH.callK (K := [.own A4 xs.length c4 3 1 (xs.map I)]) (R := [.blk b1 29 [.slice Axs xs.length cxs, .int .i64 ni, .bool eb], .own A3 (((pipePut xs ni eb bs).1).length) c3 3 1 (((pipePut xs ni eb bs).1).map I), .blk b2 25 [.slice A3 (((pipePut xs ni eb bs).1).length) c3, .int .i64 ((pipePut xs ni eb bs).2.1), .bool false], .blk b3 25 [.slice A4 xs.length c4, .int .i64 ni, .bool eb], .own A5 bs.length c5 3 1 (bs.map I), .own A6 (((pipePut xs ni eb bs).1).length) c6 3 1 (((pipePut xs ni eb bs).1).map I), .blk b4 25 [.slice A6 (((pipePut xs ni eb bs).1).length) c6, .int .i64 ((pipePut xs ni eb bs).2.1), .bool false]]) (hs22.pick [3, 0, 1, 2, 4, 5, 6, 7] rfl (by decide)) hs23' rfl
      clear hs23'
      have e1 : xs.length = (marks 1 xs.length).length := by first | rfl | (simp; done) | (simp; omega)
      have hs24 : SH w w20 [] [.blk b1 29 [.slice Axs xs.length cxs, .int .i64 ni, .bool eb], .own A3 (((pipePut xs ni eb bs).1).length) c3 3 1 (((pipePut xs ni eb bs).1).map I), .blk b2 25 [.slice A3 (((pipePut xs ni eb bs).1).length) c3, .int .i64 ((pipePut xs ni eb bs).2.1), .bool false], .blk b3 25 [.slice A4 xs.length c4, .int .i64 ni, .bool eb], .own A5 bs.length c5 3 1 (bs.map I), .own A6 (((pipePut xs ni eb bs).1).length) c6 3 1 (((pipePut xs ni eb bs).1).map I), .blk b4 25 [.slice A6 (((pipePut xs ni eb bs).1).length) c6, .int .i64 ((pipePut xs ni eb bs).2.1), .bool false], .own A4 ((marks 1 xs.length).length) c4 3 1 ((marks 1 xs.length).map I)] := (hs23.cast (lc rfl (lc rfl (lc rfl (lc rfl (lc rfl (lc rfl (lc rfl (lc (own_eq (g := I) rfl e1 rfl rfl) rfl)))))))))
      clear hs23
      refine q trivial rfl rfl (asg (v := .int .i64 (1 + ((xs.length : Nat) : Int))) rfl) ?_
      refine nl ?_
      refine nN ?_
      have hs25 : SH w w20 [] [.blk b1 29 [.slice Axs xs.length cxs, .int .i64 ni, .bool eb], .own A3 (((pipePut xs ni eb bs).1).length) c3 3 1 (((pipePut xs ni eb bs).1).map I), .blk b2 25 [.slice A3 (((pipePut xs ni eb bs).1).length) c3, .int .i64 ((pipePut xs ni eb bs).2.1), .bool false], .own A5 bs.length c5 3 1 (bs.map I), .own A6 (((pipePut xs ni eb bs).1).length) c6 3 1 (((pipePut xs ni eb bs).1).map I), .blk b4 25 [.slice A6 (((pipePut xs ni eb bs).1).length) c6, .int .i64 ((pipePut xs ni eb bs).2.1), .bool false]] := hs24.pick [0, 1, 2, 4, 5, 6] rfl (by decide)
      refine sq ?_
      refine rg ?_
      refine q trivial rfl rfl (mv (v := .slice A5 bs.length c5) rfl) ?_
      refine q trivial rfl rfl (mv (v := .int .i64 (1 + ((xs.length : Nat) : Int))) rfl) ?_
      refine cl trivial rfl (markIntS (Axs := A5) (cxs := c5) (xs := bs) (k0 := 1 + ((xs.length : Nat) : Int)) (w := _) (hxs := (own_ok hs25 3 rfl)) (hxs_n := (by first | (first | omega | (simp; omega)) | (have hsz := szI_nn (by assumption); have hpl := pipePut_len xs ni eb bs; first | omega | (simp; omega)))) (hk0 := (by first | (first | omega | assumption | (simp; done) | (simp; omega)) | (have hsz := szI_nn (by assumption); have hpl := pipePut_len xs ni eb bs; first | omega | assumption | (simp; done) | (simp; omega))))) ?_
      rintro _ w21 ⟨rfl, hs26'⟩
      have hs26 : SH w w21 [] [.blk b1 29 [.slice Axs xs.length cxs, .int .i64 ni, .bool eb], .own A3 (((pipePut xs ni eb bs).1).length) c3 3 1 (((pipePut xs ni eb bs).1).map I), .blk b2 25 [.slice A3 (((pipePut xs ni eb bs).1).length) c3, .int .i64 ((pipePut xs ni eb bs).2.1), .bool false], .own A6 (((pipePut xs ni eb bs).1).length) c6 3 1 (((pipePut xs ni eb bs).1).map I), .blk b4 25 [.slice A6 (((pipePut xs ni eb bs).1).length) c6, .int .i64 ((pipePut xs ni eb bs).2.1), .bool false], .own A5 bs.length c5 3 1 ((marks (1 + ((xs.length : Nat) : Int)) bs.length).map I)] := SH.callK (K := [.own A5 bs.length c5 3 1 (bs.map I)]) (R := [.blk b1 29 [.slice Axs xs.length cxs, .int .i64 ni, .bool eb], .own A3 (((pipePut xs ni eb bs).1).length) c3 3 1 (((pipePut xs ni eb bs).1).map I), .blk b2 25 [.slice A3 (((pipePut xs ni eb bs).1).length) c3, .int .i64 ((pipePut xs ni eb bs).2.1), .bool false], .own A6 (((pipePut xs ni eb bs).1).length) c6 3 1 (((pipePut xs ni eb bs).1).map I), .blk b4 25 [.slice A6 (((pipePut xs ni eb bs).1).length) c6, .int .i64 ((pipePut xs ni eb bs).2.1), .bool false]]) (hs25.pick [3, 0, 1, 2, 4, 5] rfl (by decide)) hs26' rfl
      clear hs26'
      have e2 : bs.length = (marks (1 + ((xs.length : Nat) : Int)) bs.length).length := by first | rfl | (simp; done) | (simp; omega)
      have hs27 : SH w w21 [] [.blk b1 29 [.slice Axs xs.length cxs, .int .i64 ni, .bool eb], .own A3 (((pipePut xs ni eb bs).1).length) c3 3 1 (((pipePut xs ni eb bs).1).map I), .blk b2 25 [.slice A3 (((pipePut xs ni eb bs).1).length) c3, .int .i64 ((pipePut xs ni eb bs).2.1), .bool false], .own A6 (((pipePut xs ni eb bs).1).length) c6 3 1 (((pipePut xs ni eb bs).1).map I), .blk b4 25 [.slice A6 (((pipePut xs ni eb bs).1).length) c6, .int .i64 ((pipePut xs ni eb bs).2.1), .bool false], .own A5 ((marks (1 + ((xs.length : Nat) : Int)) bs.length).length) c5 3 1 ((marks (1 + ((xs.length : Nat) : Int)) bs.length).map I)] := (hs26.cast (lc rfl (lc rfl (lc rfl (lc rfl (lc rfl (lc (own_eq (g := I) rfl e2 rfl rfl) rfl)))))))
      clear hs26
      refine q trivial rfl rfl (asg (v := .int .i64 ((1 + ((xs.length : Nat) : Int)) + ((bs.length : Nat) : Int))) rfl) ?_
      refine nl ?_
      refine nN ?_
      refine sq ?_
      refine sq ?_
      refine rg ?_
      refine q trivial rfl rfl (mv (v := .int .i64 ((1 + ((xs.length : Nat) : Int)) + ((bs.length : Nat) : Int))) rfl) ?_
      refine q trivial rfl rfl (lss (k := .i64) (a := (1 + ((xs.length : Nat) : Int)) + ((bs.length : Nat) : Int)) (b := 0) rfl rfl) ?_
      refine q trivial rfl rfl (mv (v := .bool (decide (((1 + ((xs.length : Nat) : Int)) + ((bs.length : Nat) : Int)) < 0))) rfl) ?_
      refine spd (p := ((1 + ((xs.length : Nat) : Int)) + ((bs.length : Nat) : Int)) < 0) 80 rfl (fun h8 => absurd h8 (by omega)) (fun h8 => ?_)
      refine q ⟨_, rfl, rfl⟩ rfl rfl (ldg (vs := [.slice A6 (((pipePut xs ni eb bs).1).length) c6, .int .i64 ((pipePut xs ni eb bs).2.1), .bool false]) hs27 4 rfl rfl rfl rfl ag25) ?_
      refine q ⟨_, rfl, rfl⟩ rfl rfl (ldg (vs := [.slice A3 (((pipePut xs ni eb bs).1).length) c3, .int .i64 ((pipePut xs ni eb bs).2.1), .bool false]) hs27 2 rfl rfl rfl rfl ag25) ?_
      refine cl ⟨_, rfl, rfl⟩ rfl (eqPipe (Axs := A6) (cxs := c6) (xs := (pipePut xs ni eb bs).1) (n1 := (pipePut xs ni eb bs).2.1) (e1 := false) (Ays := A3) (cys := c3) (ys := (pipePut xs ni eb bs).1) (n2 := (pipePut xs ni eb bs).2.1) (e2 := false) (w := _) (hxs := (hs27.sl0 3 rfl)) (hys := (hs27.sl0 1 rfl))) ?_
      rintro _ w22 ⟨rfl, hs28'⟩
      have hs28 : SH w w22 [] [.blk b1 29 [.slice Axs xs.length cxs, .int .i64 ni, .bool eb], .own A3 (((pipePut xs ni eb bs).1).length) c3 3 1 (((pipePut xs ni eb bs).1).map I), .blk b2 25 [.slice A3 (((pipePut xs ni eb bs).1).length) c3, .int .i64 ((pipePut xs ni eb bs).2.1), .bool false], .own A6 (((pipePut xs ni eb bs).1).length) c6 3 1 (((pipePut xs ni eb bs).1).map I), .blk b4 25 [.slice A6 (((pipePut xs ni eb bs).1).length) c6, .int .i64 ((pipePut xs ni eb bs).2.1), .bool false], .own A5 ((marks (1 + ((xs.length : Nat) : Int)) bs.length).length) c5 3 1 ((marks (1 + ((xs.length : Nat) : Int)) bs.length).map I)] := hs27.call0 hs28'
      clear hs28'
      refine q ⟨_, rfl, rfl⟩ rfl rfl (nd (p := ((pipePut xs ni eb bs).1) = ((pipePut xs ni eb bs).1) ∧ ((pipePut xs ni eb bs).2.1) = ((pipePut xs ni eb bs).2.1) ∧ false = false) rfl) ?_
      refine q trivial rfl rfl (pf (v := .bool (decide (¬ (((pipePut xs ni eb bs).1) = ((pipePut xs ni eb bs).1) ∧ ((pipePut xs ni eb bs).2.1) = ((pipePut xs ni eb bs).2.1) ∧ false = false)))) rfl rfl) ?_
      refine q trivial rfl rfl (mv (v := .bool (decide (¬ (((pipePut xs ni eb bs).1) = ((pipePut xs ni eb bs).1) ∧ ((pipePut xs ni eb bs).2.1) = ((pipePut xs ni eb bs).2.1) ∧ false = false)))) rfl) ?_
      refine spd (p := ¬ (((pipePut xs ni eb bs).1) = ((pipePut xs ni eb bs).1) ∧ ((pipePut xs ni eb bs).2.1) = ((pipePut xs ni eb bs).2.1) ∧ false = false)) 86 rfl (fun h9 => absurd h9 (by exact fun h => h ⟨rfl, rfl, rfl⟩)) (fun h9 => ?_)
      refine q ⟨_, rfl, rfl⟩ rfl rfl (mv (v := .int .i64 ((pipePut xs ni eb bs).2.2.1)) rfl) ?_
      refine q ⟨_, rfl, rfl⟩ rfl rfl (mv (v := .int .i64 ((pipePut xs ni eb bs).2.2.1)) rfl) ?_
      refine q ⟨_, rfl, rfl⟩ rfl rfl (nei (k := .i64) (a := (pipePut xs ni eb bs).2.2.1) (b := (pipePut xs ni eb bs).2.2.1) rfl rfl) ?_
      refine q trivial rfl rfl (pf (v := .bool (decide (((pipePut xs ni eb bs).2.2.1) ≠ ((pipePut xs ni eb bs).2.2.1)))) rfl rfl) ?_
      refine q trivial rfl rfl (mv (v := .bool (decide (((pipePut xs ni eb bs).2.2.1) ≠ ((pipePut xs ni eb bs).2.2.1)))) rfl) ?_
      refine spd (p := ((pipePut xs ni eb bs).2.2.1) ≠ ((pipePut xs ni eb bs).2.2.1)) 91 rfl (fun h10 => absurd h10 (by exact fun h => h rfl)) (fun h10 => ?_)
      refine q ⟨_, rfl, rfl⟩ rfl rfl (mv (v := .bool ((pipePut xs ni eb bs).2.2.2)) rfl) ?_
      refine q ⟨_, rfl, rfl⟩ rfl rfl (mv (v := .bool ((pipePut xs ni eb bs).2.2.2)) rfl) ?_
      refine q ⟨_, rfl, rfl⟩ rfl rfl (neb (a := ((pipePut xs ni eb bs).2.2.2)) (b := ((pipePut xs ni eb bs).2.2.2)) tb4 rfl rfl) ?_
      refine q trivial rfl rfl (pf (v := .bool (decide (((pipePut xs ni eb bs).2.2.2) ≠ ((pipePut xs ni eb bs).2.2.2)))) rfl rfl) ?_
      refine nl ?_
      refine nN ?_
      refine cdd (p := ((pipePut xs ni eb bs).2.2.2) ≠ ((pipePut xs ni eb bs).2.2.2)) rfl (fun h11 => absurd h11 (by exact fun h => h rfl)) (fun h11 => ?_)
      refine sk ?_
      refine nN ?_
      refine sq ?_
      refine rg ?_
      refine q trivial rfl rfl (asg (v := .int .i64 1) rfl) ?_
      refine nl ?_
      refine nN ?_
      refine sq ?_
      refine rg ?_
      refine q trivial rfl rfl (ldg (vs := [.slice A6 (((pipePut xs ni eb bs).1).length) c6, .int .i64 ((pipePut xs ni eb bs).2.1), .bool false]) hs28 4 rfl rfl rfl rfl ag25) ?_
      refine q trivial rfl rfl (mv (v := .int .i64 1) rfl) ?_
      refine cl trivial rfl (markPipe (Axs := A6) (cxs := c6) (xs := (pipePut xs ni eb bs).1) (ni := (pipePut xs ni eb bs).2.1) (eb := false) (k0 := 1) (w := _) (hxs := (own_ok hs28 3 rfl)) (hxs_n := (by first | (first | omega | (simp; omega)) | (have hsz := szI_nn (by assumption); have hpl := pipePut_len xs ni eb bs; first | omega | (simp; omega)))) (hk0 := (by first | (first | omega | assumption | (simp; done) | (simp; omega)) | (have hsz := szI_nn (by assumption); have hpl := pipePut_len xs ni eb bs; first | omega | assumption | (simp; done) | (simp; omega))))) ?_
      rintro _ w23 ⟨rfl, hs29'⟩
      have hs29 : SH w w23 [] [.blk b1 29 [.slice Axs xs.length cxs, .int .i64 ni, .bool eb], .own A3 (((pipePut xs ni eb bs).1).length) c3 3 1 (((pipePut xs ni eb bs).1).map I), .blk b2 25 [.slice A3 (((pipePut xs ni eb bs).1).length) c3, .int .i64 ((pipePut xs ni eb bs).2.1), .bool false], .blk b4 25 [.slice A6 (((pipePut xs ni eb bs).1).length) c6, .int .i64 ((pipePut xs ni eb bs).2.1), .bool false], .own A5 ((marks (1 + ((xs.length : Nat) : Int)) bs.length).length) c5 3 1 ((marks (1 + ((xs.length : Nat) : Int)) bs.length).map I), .own A6 (((pipePut xs ni eb bs).1).length) c6 3 1 ((marks 1 ((pipePut xs ni eb bs).1).length).map I)] := SH.callK (K := [.own A6 (((pipePut xs ni eb bs).1).length) c6 3 1 (((pipePut xs ni eb bs).1).map I)]) (R := [.blk b1 29 [.slice Axs xs.length cxs, .int .i64 ni, .bool eb], .own A3 (((pipePut xs ni eb bs).1).length) c3 3 1 (((pipePut xs ni eb bs).1).map I), .blk b2 25 [.slice A3 (((pipePut xs ni eb bs).1).length) c3, .int .i64 ((pipePut xs ni eb bs).2.1), .bool false], .blk b4 25 [.slice A6 (((pipePut xs ni eb bs).1).length) c6, .int .i64 ((pipePut xs ni eb bs).2.1), .bool false], .own A5 ((marks (1 + ((xs.length : Nat) : Int)) bs.length).length) c5 3 1 ((marks (1 + ((xs.length : Nat) : Int)) bs.length).map I)]) (hs28.pick [3, 0, 1, 2, 4, 5] rfl (by decide)) hs29' rfl
      clear hs29'
      have e3 : ((pipePut xs ni eb bs).1).length = (marks 1 ((pipePut xs ni eb bs).1).length).length := by first | rfl | (simp; done) | (simp; omega)
      have hs30 : SH w w23 [] [.blk b1 29 [.slice Axs xs.length cxs, .int .i64 ni, .bool eb], .own A3 (((pipePut xs ni eb bs).1).length) c3 3 1 (((pipePut xs ni eb bs).1).map I), .blk b2 25 [.slice A3 (((pipePut xs ni eb bs).1).length) c3, .int .i64 ((pipePut xs ni eb bs).2.1), .bool false], .blk b4 25 [.slice A6 (((pipePut xs ni eb bs).1).length) c6, .int .i64 ((pipePut xs ni eb bs).2.1), .bool false], .own A5 ((marks (1 + ((xs.length : Nat) : Int)) bs.length).length) c5 3 1 ((marks (1 + ((xs.length : Nat) : Int)) bs.length).map I), .own A6 ((marks 1 ((pipePut xs ni eb bs).1).length).length) c6 3 1 ((marks 1 ((pipePut xs ni eb bs).1).length).map I)] := (hs29.cast (lc rfl (lc rfl (lc rfl (lc rfl (lc rfl (lc (own_eq (g := I) rfl e3 rfl rfl) rfl)))))))
      clear hs29
      refine q trivial rfl rfl (asg (v := .int .i64 (1 + ((((pipePut xs ni eb bs).1).length : Nat) : Int))) rfl) ?_
      refine nl ?_
      refine nN ?_
      refine sq ?_
      refine rg ?_
      refine q trivial rfl rfl (asg (v := .int .i64 1) rfl) ?_
      refine nl ?_
      refine nN ?_
      refine sq ?_
      refine rg ?_
      refine q trivial rfl rfl (ldg (vs := [.slice A6 (((pipePut xs ni eb bs).1).length) c6, .int .i64 ((pipePut xs ni eb bs).2.1), .bool false]) hs30 3 rfl rfl rfl rfl ag25) ?_
      refine q trivial rfl rfl (mv (v := .int .i64 1) rfl) ?_
      refine cl trivial rfl (Does.castA (lc (aggv (lc (slv rfl e3.symm rfl) (lc rfl (lc rfl rfl)))) (lc rfl rfl)) (heldPipe (Axs := A6) (cxs := c6) (xs := marks 1 ((pipePut xs ni eb bs).1).length) (ni := (pipePut xs ni eb bs).2.1) (eb := false) (k0 := 1) (w := _) (hxs := (hs30.sl0 5 rfl)) (hxs_n := (by first | (first | omega | (simp; omega)) | (have hsz := szI_nn (by assumption); have hpl := pipePut_len xs ni eb bs; first | omega | (simp; omega)))) (hk0 := (by first | (first | omega | assumption | (simp; done) | (simp; omega)) | (have hsz := szI_nn (by assumption); have hpl := pipePut_len xs ni eb bs; first | omega | assumption | (simp; done) | (simp; omega)))))) ?_
      rintro _ w24 ⟨rfl, hs31'⟩
      have hs31 : SH w w24 [] [.blk b1 29 [.slice Axs xs.length cxs, .int .i64 ni, .bool eb], .own A3 (((pipePut xs ni eb bs).1).length) c3 3 1 (((pipePut xs ni eb bs).1).map I), .blk b2 25 [.slice A3 (((pipePut xs ni eb bs).1).length) c3, .int .i64 ((pipePut xs ni eb bs).2.1), .bool false], .blk b4 25 [.slice A6 (((pipePut xs ni eb bs).1).length) c6, .int .i64 ((pipePut xs ni eb bs).2.1), .bool false], .own A5 ((marks (1 + ((xs.length : Nat) : Int)) bs.length).length) c5 3 1 ((marks (1 + ((xs.length : Nat) : Int)) bs.length).map I), .own A6 ((marks 1 ((pipePut xs ni eb bs).1).length).length) c6 3 1 ((marks 1 ((pipePut xs ni eb bs).1).length).map I)] := hs30.call0 hs31'
      clear hs31'
      refine q trivial rfl rfl (asg (v := .int .i64 (heldI (marks 1 ((pipePut xs ni eb bs).1).length) 1)) rfl) ?_
      have e4 : heldI (marks 1 ((pipePut xs ni eb bs).1).length) 1 = 1 + ((((pipePut xs ni eb bs).1).length : Nat) : Int) := by exact held_marks _ _
      refine re 16 (v := .int .i64 (1 + ((((pipePut xs ni eb bs).1).length : Nat) : Int))) (congrArg (Value.int .i64) e4) ?_
      refine nl ?_
      refine nN ?_
      refine sq ?_
      refine sq ?_
      refine rg ?_
      refine q trivial rfl rfl (mv (v := .int .i64 (1 + ((((pipePut xs ni eb bs).1).length : Nat) : Int))) rfl) ?_
      refine q trivial rfl rfl (lss (k := .i64) (a := 1 + ((((pipePut xs ni eb bs).1).length : Nat) : Int)) (b := 0) rfl rfl) ?_
      refine nl ?_
      refine nN ?_
      refine cdd (p := (1 + ((((pipePut xs ni eb bs).1).length : Nat) : Int)) < 0) rfl (fun h12 => absurd h12 (by omega)) (fun h12 => ?_)
      refine sk ?_
      refine nN ?_
      refine sq ?_
      refine sq ?_
      refine rg ?_
      refine q trivial rfl rfl (mv (v := .int .i64 (1 + ((((pipePut xs ni eb bs).1).length : Nat) : Int))) rfl) ?_
      refine q trivial rfl rfl (mv (v := .int .i64 (1 + ((((pipePut xs ni eb bs).1).length : Nat) : Int))) rfl) ?_
      refine q trivial rfl rfl (nei (k := .i64) (a := 1 + ((((pipePut xs ni eb bs).1).length : Nat) : Int)) (b := 1 + ((((pipePut xs ni eb bs).1).length : Nat) : Int)) rfl rfl) ?_
      refine nl ?_
      refine nN ?_
      refine cdd (p := (1 + ((((pipePut xs ni eb bs).1).length : Nat) : Int)) ≠ (1 + ((((pipePut xs ni eb bs).1).length : Nat) : Int))) rfl (fun h13 => absurd h13 (by exact fun h => h rfl)) (fun h13 => ?_)
      refine sk ?_
      refine nN ?_
      refine sq ?_
      refine rg ?_
      refine q trivial rfl rfl (ldg (vs := [.slice Axs xs.length cxs, .int .i64 ni, .bool eb]) hs31 0 rfl rfl rfl rfl ag29) ?_
      refine cl trivial rfl (toPipe (Axs := Axs) (cxs := cxs) (xs := xs) (ni := ni) (eb := eb) (w := _) (hxs := (hxs.up0 hs31)) (hxs_n := (by first | (first | omega | (simp; omega)) | (have hsz := szI_nn (by assumption); have hpl := pipePut_len xs ni eb bs; first | omega | (simp; omega))))) ?_
      rintro _ w25 ⟨A8, c8, rfl, hs32'⟩
      have hs32 : SH w w25 [] [.blk b1 29 [.slice Axs xs.length cxs, .int .i64 ni, .bool eb], .own A3 (((pipePut xs ni eb bs).1).length) c3 3 1 (((pipePut xs ni eb bs).1).map I), .blk b2 25 [.slice A3 (((pipePut xs ni eb bs).1).length) c3, .int .i64 ((pipePut xs ni eb bs).2.1), .bool false], .blk b4 25 [.slice A6 (((pipePut xs ni eb bs).1).length) c6, .int .i64 ((pipePut xs ni eb bs).2.1), .bool false], .own A5 ((marks (1 + ((xs.length : Nat) : Int)) bs.length).length) c5 3 1 ((marks (1 + ((xs.length : Nat) : Int)) bs.length).map I), .own A6 ((marks 1 ((pipePut xs ni eb bs).1).length).length) c6 3 1 ((marks 1 ((pipePut xs ni eb bs).1).length).map I), .own A8 xs.length c8 3 1 (xs.map I)] := hs31.call0 hs32'
      clear hs32'
      refine q trivial rfl rfl (mv (v := .slice Abs bs.length cbs) rfl) ?_
      refine cl trivial rfl (toIntS (Axs := Abs) (cxs := cbs) (xs := bs) (w := _) (hxs := (hbs.up0 hs32)) (hxs_n := (by first | (first | omega | (simp; omega)) | (have hsz := szI_nn (by assumption); have hpl := pipePut_len xs ni eb bs; first | omega | (simp; omega))))) ?_
      rintro _ w26 ⟨A9, c9, rfl, hs33'⟩
      have hs33 : SH w w26 [] [.blk b1 29 [.slice Axs xs.length cxs, .int .i64 ni, .bool eb], .own A3 (((pipePut xs ni eb bs).1).length) c3 3 1 (((pipePut xs ni eb bs).1).map I), .blk b2 25 [.slice A3 (((pipePut xs ni eb bs).1).length) c3, .int .i64 ((pipePut xs ni eb bs).2.1), .bool false], .blk b4 25 [.slice A6 (((pipePut xs ni eb bs).1).length) c6, .int .i64 ((pipePut xs ni eb bs).2.1), .bool false], .own A5 ((marks (1 + ((xs.length : Nat) : Int)) bs.length).length) c5 3 1 ((marks (1 + ((xs.length : Nat) : Int)) bs.length).map I), .own A6 ((marks 1 ((pipePut xs ni eb bs).1).length).length) c6 3 1 ((marks 1 ((pipePut xs ni eb bs).1).length).map I), .own A8 xs.length c8 3 1 (xs.map I), .own A9 bs.length c9 3 1 (bs.map I)] := hs32.call0 hs33'
      clear hs33'
      refine cl trivial rfl (iPipePut (Axs := A8) (cxs := c8) (xs := xs) (ni := ni) (eb := eb) (Abs := A9) (cbs := c9) (bs := bs) (w := _) (hxs := (hs33.sl0 6 rfl)) (hbs := (hs33.sl0 7 rfl))) ?_
      rintro _ w27 ⟨A10, c10, rfl, hs34'⟩
      have hs34 : SH w w27 [] [.blk b1 29 [.slice Axs xs.length cxs, .int .i64 ni, .bool eb], .own A3 (((pipePut xs ni eb bs).1).length) c3 3 1 (((pipePut xs ni eb bs).1).map I), .blk b2 25 [.slice A3 (((pipePut xs ni eb bs).1).length) c3, .int .i64 ((pipePut xs ni eb bs).2.1), .bool false], .blk b4 25 [.slice A6 (((pipePut xs ni eb bs).1).length) c6, .int .i64 ((pipePut xs ni eb bs).2.1), .bool false], .own A5 ((marks (1 + ((xs.length : Nat) : Int)) bs.length).length) c5 3 1 ((marks (1 + ((xs.length : Nat) : Int)) bs.length).map I), .own A6 ((marks 1 ((pipePut xs ni eb bs).1).length).length) c6 3 1 ((marks 1 ((pipePut xs ni eb bs).1).length).map I), .own A8 xs.length c8 3 1 (xs.map I), .own A9 bs.length c9 3 1 (bs.map I), .own A10 (((pipePut xs ni eb bs).1).length) c10 3 1 (((pipePut xs ni eb bs).1).map I)] := hs33.call0 hs34'
      clear hs34'
      refine q trivial rfl rfl (mv (v := .tuple #[.agg #[.slice A10 (((pipePut xs ni eb bs).1).length) c10, .int .i64 ((pipePut xs ni eb bs).2.1), .bool false], .int .i64 ((pipePut xs ni eb bs).2.2.1), .bool ((pipePut xs ni eb bs).2.2.2)]) rfl) ?_
      refine q trivial rfl rfl (xt 0 (v := .agg #[.slice A10 (((pipePut xs ni eb bs).1).length) c10, .int .i64 ((pipePut xs ni eb bs).2.1), .bool false]) rfl rfl) ?_
      refine q trivial rfl rfl (xt 1 (v := .int .i64 ((pipePut xs ni eb bs).2.2.1)) rfl rfl) ?_
      refine q trivial rfl rfl (xt 2 (v := .bool ((pipePut xs ni eb bs).2.2.2)) rfl rfl) ?_
      refine al (v := .agg #[.slice none 0 0, .int .i64 0, .bool false]) (cs := [.slice none 0 0, .int .i64 0, .bool false]) hs34 tz25 rfl trivial rfl (fun b5 w28 (hs35 : SH w w28 [] [.blk b1 29 [.slice Axs xs.length cxs, .int .i64 ni, .bool eb], .own A3 (((pipePut xs ni eb bs).1).length) c3 3 1 (((pipePut xs ni eb bs).1).map I), .blk b2 25 [.slice A3 (((pipePut xs ni eb bs).1).length) c3, .int .i64 ((pipePut xs ni eb bs).2.1), .bool false], .blk b4 25 [.slice A6 (((pipePut xs ni eb bs).1).length) c6, .int .i64 ((pipePut xs ni eb bs).2.1), .bool false], .own A5 ((marks (1 + ((xs.length : Nat) : Int)) bs.length).length) c5 3 1 ((marks (1 + ((xs.length : Nat) : Int)) bs.length).map I), .own A6 ((marks 1 ((pipePut xs ni eb bs).1).length).length) c6 3 1 ((marks 1 ((pipePut xs ni eb bs).1).length).map I), .own A8 xs.length c8 3 1 (xs.map I), .own A9 bs.length c9 3 1 (bs.map I), .own A10 (((pipePut xs ni eb bs).1).length) c10 3 1 (((pipePut xs ni eb bs).1).map I), .blk b5 25 [.slice none 0 0, .int .i64 0, .bool false]]) => ?_)
      refine stg (vs := [.slice A10 (((pipePut xs ni eb bs).1).length) c10, .int .i64 ((pipePut xs ni eb bs).2.1), .bool false]) hs35 9 rfl rfl rfl rfl rfl rfl rfl ag25 trivial (fun w29 (hs36 : SH w w29 [] [.blk b1 29 [.slice Axs xs.length cxs, .int .i64 ni, .bool eb], .own A3 (((pipePut xs ni eb bs).1).length) c3 3 1 (((pipePut xs ni eb bs).1).map I), .blk b2 25 [.slice A3 (((pipePut xs ni eb bs).1).length) c3, .int .i64 ((pipePut xs ni eb bs).2.1), .bool false], .blk b4 25 [.slice A6 (((pipePut xs ni eb bs).1).length) c6, .int .i64 ((pipePut xs ni eb bs).2.1), .bool false], .own A5 ((marks (1 + ((xs.length : Nat) : Int)) bs.length).length) c5 3 1 ((marks (1 + ((xs.length : Nat) : Int)) bs.length).map I), .own A6 ((marks 1 ((pipePut xs ni eb bs).1).length).length) c6 3 1 ((marks 1 ((pipePut xs ni eb bs).1).length).map I), .own A8 xs.length c8 3 1 (xs.map I), .own A9 bs.length c9 3 1 (bs.map I), .own A10 (((pipePut xs ni eb bs).1).length) c10 3 1 (((pipePut xs ni eb bs).1).map I), .blk b5 25 [.slice A10 (((pipePut xs ni eb bs).1).length) c10, .int .i64 ((pipePut xs ni eb bs).2.1), .bool false]]) => ?_)
      refine q trivial rfl rfl (asg (v := .int .i64 ((pipePut xs ni eb bs).2.2.1)) rfl) ?_
      refine q trivial rfl rfl (asg (v := .bool ((pipePut xs ni eb bs).2.2.2)) rfl) ?_
      refine nl ?_
      refine nN ?_
      have hs37 : SH w w29 [] [.own A3 (((pipePut xs ni eb bs).1).length) c3 3 1 (((pipePut xs ni eb bs).1).map I), .blk b2 25 [.slice A3 (((pipePut xs ni eb bs).1).length) c3, .int .i64 ((pipePut xs ni eb bs).2.1), .bool false], .blk b4 25 [.slice A6 (((pipePut xs ni eb bs).1).length) c6, .int .i64 ((pipePut xs ni eb bs).2.1), .bool false], .own A6 ((marks 1 ((pipePut xs ni eb bs).1).length).length) c6 3 1 ((marks 1 ((pipePut xs ni eb bs).1).length).map I), .own A10 (((pipePut xs ni eb bs).1).length) c10 3 1 (((pipePut xs ni eb bs).1).map I), .blk b5 25 [.slice A10 (((pipePut xs ni eb bs).1).length) c10, .int .i64 ((pipePut xs ni eb bs).2.1), .bool false]] := hs36.pick [1, 2, 3, 5, 8, 9] rfl (by decide)
      refine sq ?_
      refine sq ?_
      refine rg ?_
      refine q trivial rfl rfl (ldg (vs := [.slice A10 (((pipePut xs ni eb bs).1).length) c10, .int .i64 ((pipePut xs ni eb bs).2.1), .bool false]) hs37 5 rfl rfl rfl rfl ag25) ?_
      refine q trivial rfl rfl (ldg (vs := [.slice A3 (((pipePut xs ni eb bs).1).length) c3, .int .i64 ((pipePut xs ni eb bs).2.1), .bool false]) hs37 1 rfl rfl rfl rfl ag25) ?_
      refine cl trivial rfl (eqPipe (Axs := A10) (cxs := c10) (xs := (pipePut xs ni eb bs).1) (n1 := (pipePut xs ni eb bs).2.1) (e1 := false) (Ays := A3) (cys := c3) (ys := (pipePut xs ni eb bs).1) (n2 := (pipePut xs ni eb bs).2.1) (e2 := false) (w := _) (hxs := (hs37.sl0 4 rfl)) (hys := (hs37.sl0 0 rfl))) ?_
      rintro _ w30 ⟨rfl, hs38'⟩
      have hs38 : SH w w30 [] [.own A3 (((pipePut xs ni eb bs).1).length) c3 3 1 (((pipePut xs ni eb bs).1).map I), .blk b2 25 [.slice A3 (((pipePut xs ni eb bs).1).length) c3, .int .i64 ((pipePut xs ni eb bs).2.1), .bool false], .blk b4 25 [.slice A6 (((pipePut xs ni eb bs).1).length) c6, .int .i64 ((pipePut xs ni eb bs).2.1), .bool false], .own A6 ((marks 1 ((pipePut xs ni eb bs).1).length).length) c6 3 1 ((marks 1 ((pipePut xs ni eb bs).1).length).map I), .own A10 (((pipePut xs ni eb bs).1).length) c10 3 1 (((pipePut xs ni eb bs).1).map I), .blk b5 25 [.slice A10 (((pipePut xs ni eb bs).1).length) c10, .int .i64 ((pipePut xs ni eb bs).2.1), .bool false]] := hs37.call0 hs38'
      clear hs38'
      refine q trivial rfl rfl (nd (p := ((pipePut xs ni eb bs).1) = ((pipePut xs ni eb bs).1) ∧ ((pipePut xs ni eb bs).2.1) = ((pipePut xs ni eb bs).2.1) ∧ false = false) rfl) ?_
      refine q trivial rfl rfl (mv (v := .bool (decide (¬ (((pipePut xs ni eb bs).1) = ((pipePut xs ni eb bs).1) ∧ ((pipePut xs ni eb bs).2.1) = ((pipePut xs ni eb bs).2.1) ∧ false = false)))) rfl) ?_
      refine spd (p := ¬ (((pipePut xs ni eb bs).1) = ((pipePut xs ni eb bs).1) ∧ ((pipePut xs ni eb bs).2.1) = ((pipePut xs ni eb bs).2.1) ∧ false = false)) 120 rfl (fun h14 => absurd h14 (by exact fun h => h ⟨rfl, rfl, rfl⟩)) (fun h14 => ?_)
      refine q ⟨_, rfl, rfl⟩ rfl rfl (mv (v := .int .i64 ((pipePut xs ni eb bs).2.2.1)) rfl) ?_
      refine q ⟨_, rfl, rfl⟩ rfl rfl (mv (v := .int .i64 ((pipePut xs ni eb bs).2.2.1)) rfl) ?_
      refine q ⟨_, rfl, rfl⟩ rfl rfl (nei (k := .i64) (a := (pipePut xs ni eb bs).2.2.1) (b := (pipePut xs ni eb bs).2.2.1) rfl rfl) ?_
      refine q trivial rfl rfl (pf (v := .bool (decide (((pipePut xs ni eb bs).2.2.1) ≠ ((pipePut xs ni eb bs).2.2.1)))) rfl rfl) ?_
      refine q trivial rfl rfl (mv (v := .bool (decide (((pipePut xs ni eb bs).2.2.1) ≠ ((pipePut xs ni eb bs).2.2.1)))) rfl) ?_
      refine spd (p := ((pipePut xs ni eb bs).2.2.1) ≠ ((pipePut xs ni eb bs).2.2.1)) 125 rfl (fun h15 => absurd h15 (by exact fun h => h rfl)) (fun h15 => ?_)
      refine q ⟨_, rfl, rfl⟩ rfl rfl (mv (v := .bool ((pipePut xs ni eb bs).2.2.2)) rfl) ?_
      refine q ⟨_, rfl, rfl⟩ rfl rfl (mv (v := .bool ((pipePut xs ni eb bs).2.2.2)) rfl) ?_
      refine q ⟨_, rfl, rfl⟩ rfl rfl (neb (a := ((pipePut xs ni eb bs).2.2.2)) (b := ((pipePut xs ni eb bs).2.2.2)) tb4 rfl rfl) ?_
      refine q trivial rfl rfl (pf (v := .bool (decide (((pipePut xs ni eb bs).2.2.2) ≠ ((pipePut xs ni eb bs).2.2.2)))) rfl rfl) ?_
      refine nl ?_
      refine nN ?_
      have hs39 : SH w w30 [] [.blk b4 25 [.slice A6 (((pipePut xs ni eb bs).1).length) c6, .int .i64 ((pipePut xs ni eb bs).2.1), .bool false], .own A6 ((marks 1 ((pipePut xs ni eb bs).1).length).length) c6 3 1 ((marks 1 ((pipePut xs ni eb bs).1).length).map I)] := hs38.pick [2, 3] rfl (by decide)
      refine cdd (p := ((pipePut xs ni eb bs).2.2.2) ≠ ((pipePut xs ni eb bs).2.2.2)) rfl (fun h16 => absurd h16 (by exact fun h => h rfl)) (fun h16 => ?_)
      refine sk ?_
      refine nN ?_
      refine sq ?_
      refine rg ?_
      refine q trivial rfl rfl (asg (v := .int .i64 1) rfl) ?_
      refine nl ?_
      refine nN ?_
      refine sq ?_
      refine rg ?_
      refine q trivial rfl rfl (ldg (vs := [.slice A6 (((pipePut xs ni eb bs).1).length) c6, .int .i64 ((pipePut xs ni eb bs).2.1), .bool false]) hs39 0 rfl rfl rfl rfl ag25) ?_
      refine q trivial rfl rfl (mv (v := .int .i64 1) rfl) ?_
      refine cl trivial rfl (Does.castA (lc (aggv (lc (slv rfl e3.symm rfl) (lc rfl (lc rfl rfl)))) (lc rfl rfl)) (heldPipe (Axs := A6) (cxs := c6) (xs := marks 1 ((pipePut xs ni eb bs).1).length) (ni := (pipePut xs ni eb bs).2.1) (eb := false) (k0 := 1) (w := _) (hxs := (hs39.sl0 1 rfl)) (hxs_n := (by first | (first | omega | (simp; omega)) | (have hsz := szI_nn (by assumption); have hpl := pipePut_len xs ni eb bs; first | omega | (simp; omega)))) (hk0 := (by first | (first | omega | assumption | (simp; done) | (simp; omega)) | (have hsz := szI_nn (by assumption); have hpl := pipePut_len xs ni eb bs; first | omega | assumption | (simp; done) | (simp; omega)))))) ?_
      rintro _ w31 ⟨rfl, hs40'⟩
      have hs40 : SH w w31 [] [.blk b4 25 [.slice A6 (((pipePut xs ni eb bs).1).length) c6, .int .i64 ((pipePut xs ni eb bs).2.1), .bool false], .own A6 ((marks 1 ((pipePut xs ni eb bs).1).length).length) c6 3 1 ((marks 1 ((pipePut xs ni eb bs).1).length).map I)] := hs39.call0 hs40'
      clear hs40'
      refine q trivial rfl rfl (asg (v := .int .i64 (heldI (marks 1 ((pipePut xs ni eb bs).1).length) 1)) rfl) ?_
      have e5 : heldI (marks 1 ((pipePut xs ni eb bs).1).length) 1 = 1 + ((((pipePut xs ni eb bs).1).length : Nat) : Int) := by exact held_marks _ _
      refine re 16 (v := .int .i64 (1 + ((((pipePut xs ni eb bs).1).length : Nat) : Int))) (congrArg (Value.int .i64) e5) ?_
      refine nl ?_
      refine nN ?_
      refine sq ?_
      refine sq ?_
      refine rg ?_
      refine q trivial rfl rfl (mv (v := .int .i64 (1 + ((((pipePut xs ni eb bs).1).length : Nat) : Int))) rfl) ?_
      refine q trivial rfl rfl (lss (k := .i64) (a := 1 + ((((pipePut xs ni eb bs).1).length : Nat) : Int)) (b := 0) rfl rfl) ?_
      refine nl ?_
      refine nN ?_
      refine cdd (p := (1 + ((((pipePut xs ni eb bs).1).length : Nat) : Int)) < 0) rfl (fun h17 => absurd h17 (by omega)) (fun h17 => ?_)
      refine sk ?_
      refine nN ?_
      refine sq ?_
      refine sq ?_
      refine rg ?_
      refine q trivial rfl rfl (mv (v := .int .i64 (1 + ((((pipePut xs ni eb bs).1).length : Nat) : Int))) rfl) ?_
      refine q trivial rfl rfl (mv (v := .int .i64 (1 + ((((pipePut xs ni eb bs).1).length : Nat) : Int))) rfl) ?_
      refine q trivial rfl rfl (nei (k := .i64) (a := 1 + ((((pipePut xs ni eb bs).1).length : Nat) : Int)) (b := 1 + ((((pipePut xs ni eb bs).1).length : Nat) : Int)) rfl rfl) ?_
      refine nl ?_
      refine nN ?_
      refine cdd (p := (1 + ((((pipePut xs ni eb bs).1).length : Nat) : Int)) ≠ (1 + ((((pipePut xs ni eb bs).1).length : Nat) : Int))) rfl (fun h18 => absurd h18 (by exact fun h => h rfl)) (fun h18 => ?_)
      refine sk ?_
      refine nN ?_
      refine sq ?_
      refine rg ?_
      refine q trivial rfl rfl (asg (v := .bool true) rfl) ?_
      refine nl ?_
      refine nN ?_
      refine rt ?_
      refine fret (v := .bool true) (.tmp .nil) rfl ?_
      exact ⟨rfl, (hs40.pick [] rfl (by decide))⟩

end Go.Proofs.Ytgefaejgkcbkpaa
