/-
  Part of the proofs over this seat: what each function of the program computes, function by function (the text is written by a program of this hand-in's own).
  Conditions: each theorem states its own.
-/
import Derived.Test.YtgefaejgkcbkpaaPfWalks2
namespace Go.Proofs.Ytgefaejgkcbkpaa
open Go.PF
set_option maxRecDepth 100000
set_option linter.unusedSimpArgs false
set_option linter.unusedVariables false

theorem lExactPipeGet {Axs : Option Addr} {cxs : Nat} (xs : List Int) (ni : Int) (eb : Bool) (m : Int) (w : World) (hxs : Sl w [] 1 Axs xs.length cxs (xs.map I)) : Does Try.prog 9 [.agg #[.slice Axs xs.length cxs, .int .i64 ni, .bool eb], .int .i64 m] w (fun v w' => v = .bool true ∧ SH w w' [] []) := by
  refine fn_enter (N := 138) Try.func9 rfl (by kernel_rfl) rfl rfl rfl ?_
  have hs0 : SH w w [] [] := SH.refl w []
  have hxs_m : xs.length ≤ 9223372036854775807 := Nat.le_trans hxs.cap hxs.capMax
  refine sq ?_
  refine rg ?_
  refine bx (v := .agg #[.slice Axs xs.length cxs, .int .i64 ni, .bool eb]) (cs := [.slice Axs xs.length cxs, .int .i64 ni, .bool eb]) hs0 rfl rfl trivial rfl (fun b1 w1 (hs1 : SH w w1 [] [.blk b1 29 [.slice Axs xs.length cxs, .int .i64 ni, .bool eb]]) => ?_)
  refine q trivial rfl rfl (asg (v := .bool false) rfl) ?_
  refine nl ?_
  refine nN ?_
  refine sq ?_
  refine rg ?_
  refine q trivial rfl rfl (asg (v := .int .i64 1048576) rfl) ?_
  refine nl ?_
  refine nN ?_
  refine sq ?_
  refine rg ?_
  refine q trivial rfl rfl (ldg (vs := [.slice Axs xs.length cxs, .int .i64 ni, .bool eb]) hs1 0 rfl rfl rfl rfl ag29) ?_
  refine q trivial rfl rfl (mv (v := .int .i64 1048576) rfl) ?_
  refine cl trivial rfl (szPipe (Axs := Axs) (cxs := cxs) (xs := xs) (ni := ni) (eb := eb) (z := 1048576) (w := _) (hxs := (hxs.up0 hs1)) (hz := (by first | (first | omega | assumption | (simp; done) | (simp; omega)) | (have hsz := szI_nn (by assumption); have hpl := pipeGet_len xs ni eb m; first | omega | assumption | (simp; done) | (simp; omega))))) ?_
  rintro _ w2 ⟨rfl, hs2'⟩
  have hs2 : SH w w2 [] [.blk b1 29 [.slice Axs xs.length cxs, .int .i64 ni, .bool eb]] := hs1.call0 hs2'
  clear hs2'
  refine q trivial rfl rfl (asg (v := .int .i64 (szI xs.length 1048576)) rfl) ?_
  refine nl ?_
  refine nN ?_
  refine sq ?_
  refine sq ?_
  refine rg ?_
  refine q trivial rfl rfl (mv (v := .int .i64 (szI xs.length 1048576)) rfl) ?_
  refine q trivial rfl rfl (lss (k := .i64) (a := szI xs.length 1048576) (b := 0) rfl rfl) ?_
  refine nl ?_
  refine nN ?_
  refine cdd (p := (szI xs.length 1048576) < 0) rfl (fun h1 => ?_) (fun h1 => ?_)
  · refine sq ?_
    refine rg ?_
    refine q trivial rfl rfl (asg (v := .bool true) rfl) ?_
    refine nl ?_
    refine nN ?_
    refine rt (tR ?_)
    refine fret (v := .bool true) (.tmp .nil) rfl ?_
    exact ⟨rfl, (hs2.pick [] rfl (by decide))⟩
  · refine sk ?_
    refine nN ?_
    refine sq ?_
    refine rg ?_
    refine q trivial rfl rfl (ldg (vs := [.slice Axs xs.length cxs, .int .i64 ni, .bool eb]) hs2 0 rfl rfl rfl rfl ag29) ?_
    refine cl trivial rfl (toPipe (Axs := Axs) (cxs := cxs) (xs := xs) (ni := ni) (eb := eb) (w := _) (hxs := (hxs.up0 hs2)) (hxs_n := (by first | (first | omega | (simp; omega)) | (have hsz := szI_nn (by assumption); have hpl := pipeGet_len xs ni eb m; first | omega | (simp; omega))))) ?_
    rintro _ w3 ⟨A1, c1, rfl, hs3'⟩
    have hs3 : SH w w3 [] [.blk b1 29 [.slice Axs xs.length cxs, .int .i64 ni, .bool eb], .own A1 xs.length c1 3 1 (xs.map I)] := hs2.call0 hs3'
    clear hs3'
    refine q trivial rfl rfl (mv (v := .int .i64 m) rfl) ?_
    refine cl trivial rfl (sPipeGet (Axs := A1) (cxs := c1) (xs := xs) (ni := ni) (eb := eb) (m := m) (w := _) (hxs := (hs3.sl0 1 rfl))) ?_
    rintro _ w4 ⟨A2, c2, Ag1, cg1, rfl, hs4'⟩
    have hs4 : SH w w4 [] [.blk b1 29 [.slice Axs xs.length cxs, .int .i64 ni, .bool eb], .own A1 xs.length c1 3 1 (xs.map I), .own A2 (((pipeGet xs ni eb m).1).length) c2 3 1 (((pipeGet xs ni eb m).1).map I), .own Ag1 (((pipeGet xs ni eb m).2.2.2.1).length) cg1 3 1 (((pipeGet xs ni eb m).2.2.2.1).map I)] := hs3.call0 hs4'
    clear hs4'
    refine q trivial rfl rfl (mv (v := .tuple #[.agg #[.slice A2 (((pipeGet xs ni eb m).1).length) c2, .int .i64 ((pipeGet xs ni eb m).2.1), .bool ((pipeGet xs ni eb m).2.2.1)], .slice Ag1 (((pipeGet xs ni eb m).2.2.2.1).length) cg1, .bool ((pipeGet xs ni eb m).2.2.2.2)]) rfl) ?_
    refine q trivial rfl rfl (xt 0 (v := .agg #[.slice A2 (((pipeGet xs ni eb m).1).length) c2, .int .i64 ((pipeGet xs ni eb m).2.1), .bool ((pipeGet xs ni eb m).2.2.1)]) rfl rfl) ?_
    refine q trivial rfl rfl (xt 1 (v := .slice Ag1 (((pipeGet xs ni eb m).2.2.2.1).length) cg1) rfl rfl) ?_
    refine q trivial rfl rfl (xt 2 (v := .bool ((pipeGet xs ni eb m).2.2.2.2)) rfl rfl) ?_
    refine al (v := .agg #[.slice none 0 0, .int .i64 0, .bool false]) (cs := [.slice none 0 0, .int .i64 0, .bool false]) hs4 tz25 rfl trivial rfl (fun b2 w5 (hs5 : SH w w5 [] [.blk b1 29 [.slice Axs xs.length cxs, .int .i64 ni, .bool eb], .own A1 xs.length c1 3 1 (xs.map I), .own A2 (((pipeGet xs ni eb m).1).length) c2 3 1 (((pipeGet xs ni eb m).1).map I), .own Ag1 (((pipeGet xs ni eb m).2.2.2.1).length) cg1 3 1 (((pipeGet xs ni eb m).2.2.2.1).map I), .blk b2 25 [.slice none 0 0, .int .i64 0, .bool false]]) => ?_)
    refine stg (vs := [.slice A2 (((pipeGet xs ni eb m).1).length) c2, .int .i64 ((pipeGet xs ni eb m).2.1), .bool ((pipeGet xs ni eb m).2.2.1)]) hs5 4 rfl rfl rfl rfl rfl rfl rfl ag25 trivial (fun w6 (hs6 : SH w w6 [] [.blk b1 29 [.slice Axs xs.length cxs, .int .i64 ni, .bool eb], .own A1 xs.length c1 3 1 (xs.map I), .own A2 (((pipeGet xs ni eb m).1).length) c2 3 1 (((pipeGet xs ni eb m).1).map I), .own Ag1 (((pipeGet xs ni eb m).2.2.2.1).length) cg1 3 1 (((pipeGet xs ni eb m).2.2.2.1).map I), .blk b2 25 [.slice A2 (((pipeGet xs ni eb m).1).length) c2, .int .i64 ((pipeGet xs ni eb m).2.1), .bool ((pipeGet xs ni eb m).2.2.1)]]) => ?_)
    refine q trivial rfl rfl (asg (v := .slice Ag1 (((pipeGet xs ni eb m).2.2.2.1).length) cg1) rfl) ?_
    refine q trivial rfl rfl (asg (v := .bool ((pipeGet xs ni eb m).2.2.2.2)) rfl) ?_
    refine nl ?_
    refine nN ?_
    refine sq ?_
    refine rg ?_
    refine q trivial rfl rfl (ldg (vs := [.slice Axs xs.length cxs, .int .i64 ni, .bool eb]) hs6 0 rfl rfl rfl rfl ag29) ?_
    refine cl trivial rfl (toPipe (Axs := Axs) (cxs := cxs) (xs := xs) (ni := ni) (eb := eb) (w := _) (hxs := (hxs.up0 hs6)) (hxs_n := (by first | (first | omega | (simp; omega)) | (have hsz := szI_nn (by assumption); have hpl := pipeGet_len xs ni eb m; first | omega | (simp; omega))))) ?_
    rintro _ w7 ⟨A3, c3, rfl, hs7'⟩
    have hs7 : SH w w7 [] [.blk b1 29 [.slice Axs xs.length cxs, .int .i64 ni, .bool eb], .own A1 xs.length c1 3 1 (xs.map I), .own A2 (((pipeGet xs ni eb m).1).length) c2 3 1 (((pipeGet xs ni eb m).1).map I), .own Ag1 (((pipeGet xs ni eb m).2.2.2.1).length) cg1 3 1 (((pipeGet xs ni eb m).2.2.2.1).map I), .blk b2 25 [.slice A2 (((pipeGet xs ni eb m).1).length) c2, .int .i64 ((pipeGet xs ni eb m).2.1), .bool ((pipeGet xs ni eb m).2.2.1)], .own A3 xs.length c3 3 1 (xs.map I)] := hs6.call0 hs7'
    clear hs7'
    refine al (v := .agg #[.slice none 0 0, .int .i64 0, .bool false]) (cs := [.slice none 0 0, .int .i64 0, .bool false]) hs7 tz25 rfl trivial rfl (fun b3 w8 (hs8 : SH w w8 [] [.blk b1 29 [.slice Axs xs.length cxs, .int .i64 ni, .bool eb], .own A1 xs.length c1 3 1 (xs.map I), .own A2 (((pipeGet xs ni eb m).1).length) c2 3 1 (((pipeGet xs ni eb m).1).map I), .own Ag1 (((pipeGet xs ni eb m).2.2.2.1).length) cg1 3 1 (((pipeGet xs ni eb m).2.2.2.1).map I), .blk b2 25 [.slice A2 (((pipeGet xs ni eb m).1).length) c2, .int .i64 ((pipeGet xs ni eb m).2.1), .bool ((pipeGet xs ni eb m).2.2.1)], .own A3 xs.length c3 3 1 (xs.map I), .blk b3 25 [.slice none 0 0, .int .i64 0, .bool false]]) => ?_)
    refine stg (vs := [.slice A3 xs.length c3, .int .i64 ni, .bool eb]) hs8 6 rfl rfl rfl rfl rfl rfl rfl ag25 trivial (fun w9 (hs9 : SH w w9 [] [.blk b1 29 [.slice Axs xs.length cxs, .int .i64 ni, .bool eb], .own A1 xs.length c1 3 1 (xs.map I), .own A2 (((pipeGet xs ni eb m).1).length) c2 3 1 (((pipeGet xs ni eb m).1).map I), .own Ag1 (((pipeGet xs ni eb m).2.2.2.1).length) cg1 3 1 (((pipeGet xs ni eb m).2.2.2.1).map I), .blk b2 25 [.slice A2 (((pipeGet xs ni eb m).1).length) c2, .int .i64 ((pipeGet xs ni eb m).2.1), .bool ((pipeGet xs ni eb m).2.2.1)], .own A3 xs.length c3 3 1 (xs.map I), .blk b3 25 [.slice A3 xs.length c3, .int .i64 ni, .bool eb]]) => ?_)
    refine nl ?_
    refine nN ?_
    refine sq ?_
    refine rg ?_
    refine q trivial rfl rfl (ldg (vs := [.slice A3 xs.length c3, .int .i64 ni, .bool eb]) hs9 6 rfl rfl rfl rfl ag25) ?_
    refine q trivial rfl rfl (mv (v := .int .i64 m) rfl) ?_
    refine cl trivial rfl (iPipeGet (Axs := A3) (cxs := c3) (xs := xs) (ni := ni) (eb := eb) (m := m) (w := _) (hxs := (hs9.sl0 5 rfl))) ?_
    rintro _ w10 ⟨A4, c4, Ag2, cg2, rfl, hs10'⟩
    have hs10 : SH w w10 [] [.blk b1 29 [.slice Axs xs.length cxs, .int .i64 ni, .bool eb], .own A1 xs.length c1 3 1 (xs.map I), .own A2 (((pipeGet xs ni eb m).1).length) c2 3 1 (((pipeGet xs ni eb m).1).map I), .own Ag1 (((pipeGet xs ni eb m).2.2.2.1).length) cg1 3 1 (((pipeGet xs ni eb m).2.2.2.1).map I), .blk b2 25 [.slice A2 (((pipeGet xs ni eb m).1).length) c2, .int .i64 ((pipeGet xs ni eb m).2.1), .bool ((pipeGet xs ni eb m).2.2.1)], .own A3 xs.length c3 3 1 (xs.map I), .blk b3 25 [.slice A3 xs.length c3, .int .i64 ni, .bool eb], .own A4 (((pipeGet xs ni eb m).1).length) c4 3 1 (((pipeGet xs ni eb m).1).map I), .own Ag2 (((pipeGet xs ni eb m).2.2.2.1).length) cg2 3 1 (((pipeGet xs ni eb m).2.2.2.1).map I)] := hs9.call0 hs10'
    clear hs10'
    refine q trivial rfl rfl (mv (v := .tuple #[.agg #[.slice A4 (((pipeGet xs ni eb m).1).length) c4, .int .i64 ((pipeGet xs ni eb m).2.1), .bool ((pipeGet xs ni eb m).2.2.1)], .slice Ag2 (((pipeGet xs ni eb m).2.2.2.1).length) cg2, .bool ((pipeGet xs ni eb m).2.2.2.2)]) rfl) ?_
    refine q trivial rfl rfl (xt 0 (v := .agg #[.slice A4 (((pipeGet xs ni eb m).1).length) c4, .int .i64 ((pipeGet xs ni eb m).2.1), .bool ((pipeGet xs ni eb m).2.2.1)]) rfl rfl) ?_
    refine q trivial rfl rfl (xt 1 (v := .slice Ag2 (((pipeGet xs ni eb m).2.2.2.1).length) cg2) rfl rfl) ?_
    refine q trivial rfl rfl (xt 2 (v := .bool ((pipeGet xs ni eb m).2.2.2.2)) rfl rfl) ?_
    refine al (v := .agg #[.slice none 0 0, .int .i64 0, .bool false]) (cs := [.slice none 0 0, .int .i64 0, .bool false]) hs10 tz25 rfl trivial rfl (fun b4 w11 (hs11 : SH w w11 [] [.blk b1 29 [.slice Axs xs.length cxs, .int .i64 ni, .bool eb], .own A1 xs.length c1 3 1 (xs.map I), .own A2 (((pipeGet xs ni eb m).1).length) c2 3 1 (((pipeGet xs ni eb m).1).map I), .own Ag1 (((pipeGet xs ni eb m).2.2.2.1).length) cg1 3 1 (((pipeGet xs ni eb m).2.2.2.1).map I), .blk b2 25 [.slice A2 (((pipeGet xs ni eb m).1).length) c2, .int .i64 ((pipeGet xs ni eb m).2.1), .bool ((pipeGet xs ni eb m).2.2.1)], .own A3 xs.length c3 3 1 (xs.map I), .blk b3 25 [.slice A3 xs.length c3, .int .i64 ni, .bool eb], .own A4 (((pipeGet xs ni eb m).1).length) c4 3 1 (((pipeGet xs ni eb m).1).map I), .own Ag2 (((pipeGet xs ni eb m).2.2.2.1).length) cg2 3 1 (((pipeGet xs ni eb m).2.2.2.1).map I), .blk b4 25 [.slice none 0 0, .int .i64 0, .bool false]]) => ?_)
    refine stg (vs := [.slice A4 (((pipeGet xs ni eb m).1).length) c4, .int .i64 ((pipeGet xs ni eb m).2.1), .bool ((pipeGet xs ni eb m).2.2.1)]) hs11 9 rfl rfl rfl rfl rfl rfl rfl ag25 trivial (fun w12 (hs12 : SH w w12 [] [.blk b1 29 [.slice Axs xs.length cxs, .int .i64 ni, .bool eb], .own A1 xs.length c1 3 1 (xs.map I), .own A2 (((pipeGet xs ni eb m).1).length) c2 3 1 (((pipeGet xs ni eb m).1).map I), .own Ag1 (((pipeGet xs ni eb m).2.2.2.1).length) cg1 3 1 (((pipeGet xs ni eb m).2.2.2.1).map I), .blk b2 25 [.slice A2 (((pipeGet xs ni eb m).1).length) c2, .int .i64 ((pipeGet xs ni eb m).2.1), .bool ((pipeGet xs ni eb m).2.2.1)], .own A3 xs.length c3 3 1 (xs.map I), .blk b3 25 [.slice A3 xs.length c3, .int .i64 ni, .bool eb], .own A4 (((pipeGet xs ni eb m).1).length) c4 3 1 (((pipeGet xs ni eb m).1).map I), .own Ag2 (((pipeGet xs ni eb m).2.2.2.1).length) cg2 3 1 (((pipeGet xs ni eb m).2.2.2.1).map I), .blk b4 25 [.slice A4 (((pipeGet xs ni eb m).1).length) c4, .int .i64 ((pipeGet xs ni eb m).2.1), .bool ((pipeGet xs ni eb m).2.2.1)]]) => ?_)
    refine q trivial rfl rfl (asg (v := .slice Ag2 (((pipeGet xs ni eb m).2.2.2.1).length) cg2) rfl) ?_
    refine q trivial rfl rfl (asg (v := .bool ((pipeGet xs ni eb m).2.2.2.2)) rfl) ?_
    refine nl ?_
    refine nN ?_
    refine sq ?_
    refine sq ?_
    refine rg ?_
    refine q trivial rfl rfl (ldg (vs := [.slice A4 (((pipeGet xs ni eb m).1).length) c4, .int .i64 ((pipeGet xs ni eb m).2.1), .bool ((pipeGet xs ni eb m).2.2.1)]) hs12 9 rfl rfl rfl rfl ag25) ?_
    refine q trivial rfl rfl (ldg (vs := [.slice A2 (((pipeGet xs ni eb m).1).length) c2, .int .i64 ((pipeGet xs ni eb m).2.1), .bool ((pipeGet xs ni eb m).2.2.1)]) hs12 4 rfl rfl rfl rfl ag25) ?_
    refine cl trivial rfl (eqPipe (Axs := A4) (cxs := c4) (xs := (pipeGet xs ni eb m).1) (n1 := (pipeGet xs ni eb m).2.1) (e1 := ((pipeGet xs ni eb m).2.2.1)) (Ays := A2) (cys := c2) (ys := (pipeGet xs ni eb m).1) (n2 := (pipeGet xs ni eb m).2.1) (e2 := ((pipeGet xs ni eb m).2.2.1)) (w := _) (hxs := (hs12.sl0 7 rfl)) (hys := (hs12.sl0 2 rfl))) ?_
    rintro _ w13 ⟨rfl, hs13'⟩
    have hs13 : SH w w13 [] [.blk b1 29 [.slice Axs xs.length cxs, .int .i64 ni, .bool eb], .own A1 xs.length c1 3 1 (xs.map I), .own A2 (((pipeGet xs ni eb m).1).length) c2 3 1 (((pipeGet xs ni eb m).1).map I), .own Ag1 (((pipeGet xs ni eb m).2.2.2.1).length) cg1 3 1 (((pipeGet xs ni eb m).2.2.2.1).map I), .blk b2 25 [.slice A2 (((pipeGet xs ni eb m).1).length) c2, .int .i64 ((pipeGet xs ni eb m).2.1), .bool ((pipeGet xs ni eb m).2.2.1)], .own A3 xs.length c3 3 1 (xs.map I), .blk b3 25 [.slice A3 xs.length c3, .int .i64 ni, .bool eb], .own A4 (((pipeGet xs ni eb m).1).length) c4 3 1 (((pipeGet xs ni eb m).1).map I), .own Ag2 (((pipeGet xs ni eb m).2.2.2.1).length) cg2 3 1 (((pipeGet xs ni eb m).2.2.2.1).map I), .blk b4 25 [.slice A4 (((pipeGet xs ni eb m).1).length) c4, .int .i64 ((pipeGet xs ni eb m).2.1), .bool ((pipeGet xs ni eb m).2.2.1)]] := hs12.call0 hs13'
    clear hs13'
    refine q trivial rfl rfl (nd (p := ((pipeGet xs ni eb m).1) = ((pipeGet xs ni eb m).1) ∧ ((pipeGet xs ni eb m).2.1) = ((pipeGet xs ni eb m).2.1) ∧ ((pipeGet xs ni eb m).2.2.1) = ((pipeGet xs ni eb m).2.2.1)) rfl) ?_
    refine q trivial rfl rfl (mv (v := .bool (decide (¬ (((pipeGet xs ni eb m).1) = ((pipeGet xs ni eb m).1) ∧ ((pipeGet xs ni eb m).2.1) = ((pipeGet xs ni eb m).2.1) ∧ ((pipeGet xs ni eb m).2.2.1) = ((pipeGet xs ni eb m).2.2.1))))) rfl) ?_
    refine spd (p := ¬ (((pipeGet xs ni eb m).1) = ((pipeGet xs ni eb m).1) ∧ ((pipeGet xs ni eb m).2.1) = ((pipeGet xs ni eb m).2.1) ∧ ((pipeGet xs ni eb m).2.2.1) = ((pipeGet xs ni eb m).2.2.1))) 45 rfl (fun h2 => absurd h2 (by exact fun h => h ⟨rfl, rfl, rfl⟩)) (fun h2 => ?_)
    refine q ⟨_, rfl, rfl⟩ rfl rfl (mv (v := .slice Ag2 (((pipeGet xs ni eb m).2.2.2.1).length) cg2) rfl) ?_
    refine q ⟨_, rfl, rfl⟩ rfl rfl (mv (v := .slice Ag1 (((pipeGet xs ni eb m).2.2.2.1).length) cg1) rfl) ?_
    refine cl ⟨_, rfl, rfl⟩ rfl (eqIntS (Axs := Ag2) (cxs := cg2) (xs := (pipeGet xs ni eb m).2.2.2.1) (Abs := Ag1) (cbs := cg1) (bs := (pipeGet xs ni eb m).2.2.2.1) (w := _) (hxs := (hs13.sl0 8 rfl)) (hbs := (hs13.sl0 3 rfl))) ?_
    rintro _ w14 ⟨rfl, hs14'⟩
    have hs14 : SH w w14 [] [.blk b1 29 [.slice Axs xs.length cxs, .int .i64 ni, .bool eb], .own A1 xs.length c1 3 1 (xs.map I), .own A2 (((pipeGet xs ni eb m).1).length) c2 3 1 (((pipeGet xs ni eb m).1).map I), .own Ag1 (((pipeGet xs ni eb m).2.2.2.1).length) cg1 3 1 (((pipeGet xs ni eb m).2.2.2.1).map I), .blk b2 25 [.slice A2 (((pipeGet xs ni eb m).1).length) c2, .int .i64 ((pipeGet xs ni eb m).2.1), .bool ((pipeGet xs ni eb m).2.2.1)], .own A3 xs.length c3 3 1 (xs.map I), .blk b3 25 [.slice A3 xs.length c3, .int .i64 ni, .bool eb], .own A4 (((pipeGet xs ni eb m).1).length) c4 3 1 (((pipeGet xs ni eb m).1).map I), .own Ag2 (((pipeGet xs ni eb m).2.2.2.1).length) cg2 3 1 (((pipeGet xs ni eb m).2.2.2.1).map I), .blk b4 25 [.slice A4 (((pipeGet xs ni eb m).1).length) c4, .int .i64 ((pipeGet xs ni eb m).2.1), .bool ((pipeGet xs ni eb m).2.2.1)]] := hs13.call0 hs14'
    clear hs14'
    refine q ⟨_, rfl, rfl⟩ rfl rfl (nd (p := ((pipeGet xs ni eb m).2.2.2.1) = ((pipeGet xs ni eb m).2.2.2.1)) rfl) ?_
    refine q trivial rfl rfl (pf (v := .bool (decide (¬ (((pipeGet xs ni eb m).2.2.2.1) = ((pipeGet xs ni eb m).2.2.2.1))))) rfl rfl) ?_
    refine q trivial rfl rfl (mv (v := .bool (decide (¬ (((pipeGet xs ni eb m).2.2.2.1) = ((pipeGet xs ni eb m).2.2.2.1))))) rfl) ?_
    refine spd (p := ¬ (((pipeGet xs ni eb m).2.2.2.1) = ((pipeGet xs ni eb m).2.2.2.1))) 51 rfl (fun h3 => absurd h3 (by exact fun h => h rfl)) (fun h3 => ?_)
    refine q ⟨_, rfl, rfl⟩ rfl rfl (mv (v := .bool ((pipeGet xs ni eb m).2.2.2.2)) rfl) ?_
    refine q ⟨_, rfl, rfl⟩ rfl rfl (mv (v := .bool ((pipeGet xs ni eb m).2.2.2.2)) rfl) ?_
    refine q ⟨_, rfl, rfl⟩ rfl rfl (neb (a := ((pipeGet xs ni eb m).2.2.2.2)) (b := ((pipeGet xs ni eb m).2.2.2.2)) tb4 rfl rfl) ?_
    refine q trivial rfl rfl (pf (v := .bool (decide (((pipeGet xs ni eb m).2.2.2.2) ≠ ((pipeGet xs ni eb m).2.2.2.2)))) rfl rfl) ?_
    refine nl ?_
    refine nN ?_
    refine cdd (p := ((pipeGet xs ni eb m).2.2.2.2) ≠ ((pipeGet xs ni eb m).2.2.2.2)) rfl (fun h4 => absurd h4 (by exact fun h => h rfl)) (fun h4 => ?_)
    refine sk ?_
    refine nN ?_
    refine sq ?_
    refine sq ?_
    refine ra (fun w' => ∃ L, SH w w' [] L ∧ (.blk b1 29 [.slice Axs xs.length cxs, .int .i64 ni, .bool eb]) ∈ L ∧ (.blk b2 25 [.slice A2 (((pipeGet xs ni eb m).1).length) c2, .int .i64 ((pipeGet xs ni eb m).2.1), .bool ((pipeGet xs ni eb m).2.2.1)]) ∈ L ∧ (.blk b3 25 [.slice A3 xs.length c3, .int .i64 ni, .bool eb]) ∈ L ∧ (.blk b4 25 [.slice A4 (((pipeGet xs ni eb m).1).length) c4, .int .i64 ((pipeGet xs ni eb m).2.1), .bool ((pipeGet xs ni eb m).2.2.1)]) ∈ L ∧ True) mixed ?_
    have hs15 := hs14.drew
    refine tk (fuel := 3) (is := [0, 1]) (.cons rfl (.cons rfl (.nil))) (by kernel_rfl) (by kernel_rfl) ⟨_, hs15, memi 0 rfl, memi 4 rfl, memi 6 rfl, memi 9 rfl, trivial⟩ ?_
    refine .op trivial rfl rfl (fun wq ⟨Lq, hsq, mh0, mh1, mh2, mh3, _⟩ => ldgm (vs := [.slice A3 xs.length c3, .int .i64 ni, .bool eb]) hsq mh2 rfl rfl rfl ag25) ?_
    refine .op trivial rfl rfl (fun wq ⟨Lq, hsq, mh0, mh1, mh2, mh3, _⟩ => ldgm (vs := [.slice Axs xs.length cxs, .int .i64 ni, .bool eb]) hsq mh0 rfl rfl rfl ag29) ?_
    refine .nil ?_
    refine a1 (i := 2) (by kernel_rfl) ?_
    refine one_ rfl ?_
    refine cl trivial rfl (toPipe (Axs := Axs) (cxs := cxs) (xs := xs) (ni := ni) (eb := eb) (w := _) (hxs := (hxs.up0 hs15)) (hxs_n := (by first | (first | omega | (simp; omega)) | (have hsz := szI_nn (by assumption); have hpl := pipeGet_len xs ni eb m; first | omega | (simp; omega))))) ?_
    rintro _ w15 ⟨A_10_2, c_10_2, rfl, hs16'⟩
    have hs16 : SH w w15 [] [.blk b1 29 [.slice Axs xs.length cxs, .int .i64 ni, .bool eb], .own A1 xs.length c1 3 1 (xs.map I), .own A2 (((pipeGet xs ni eb m).1).length) c2 3 1 (((pipeGet xs ni eb m).1).map I), .own Ag1 (((pipeGet xs ni eb m).2.2.2.1).length) cg1 3 1 (((pipeGet xs ni eb m).2.2.2.1).map I), .blk b2 25 [.slice A2 (((pipeGet xs ni eb m).1).length) c2, .int .i64 ((pipeGet xs ni eb m).2.1), .bool ((pipeGet xs ni eb m).2.2.1)], .own A3 xs.length c3 3 1 (xs.map I), .blk b3 25 [.slice A3 xs.length c3, .int .i64 ni, .bool eb], .own A4 (((pipeGet xs ni eb m).1).length) c4 3 1 (((pipeGet xs ni eb m).1).map I), .own Ag2 (((pipeGet xs ni eb m).2.2.2.1).length) cg2 3 1 (((pipeGet xs ni eb m).2.2.2.1).map I), .blk b4 25 [.slice A4 (((pipeGet xs ni eb m).1).length) c4, .int .i64 ((pipeGet xs ni eb m).2.1), .bool ((pipeGet xs ni eb m).2.2.1)], .own A_10_2 xs.length c_10_2 3 1 (xs.map I)] := hs15.call0 hs16'
    clear hs16'
    refine nl (kq ⟨_, hs16, memi 0 rfl, memi 4 rfl, memi 6 rfl, memi 9 rfl, trivial⟩ ?_)
    refine a1 (i := 3) (by kernel_rfl) ?_
    refine one_ rfl ?_
    refine cl trivial rfl (eqPipe (Axs := A3) (cxs := c3) (xs := xs) (n1 := ni) (e1 := eb) (Ays := A_10_2) (cys := c_10_2) (ys := xs) (n2 := ni) (e2 := eb) (w := _) (hxs := (hs16.sl0 5 rfl)) (hys := (hs16.sl0 10 rfl))) ?_
    rintro _ w16 ⟨rfl, hs17'⟩
    have hs17 : SH w w16 [] [.blk b1 29 [.slice Axs xs.length cxs, .int .i64 ni, .bool eb], .own A1 xs.length c1 3 1 (xs.map I), .own A2 (((pipeGet xs ni eb m).1).length) c2 3 1 (((pipeGet xs ni eb m).1).map I), .own Ag1 (((pipeGet xs ni eb m).2.2.2.1).length) cg1 3 1 (((pipeGet xs ni eb m).2.2.2.1).map I), .blk b2 25 [.slice A2 (((pipeGet xs ni eb m).1).length) c2, .int .i64 ((pipeGet xs ni eb m).2.1), .bool ((pipeGet xs ni eb m).2.2.1)], .own A3 xs.length c3 3 1 (xs.map I), .blk b3 25 [.slice A3 xs.length c3, .int .i64 ni, .bool eb], .own A4 (((pipeGet xs ni eb m).1).length) c4 3 1 (((pipeGet xs ni eb m).1).map I), .own Ag2 (((pipeGet xs ni eb m).2.2.2.1).length) cg2 3 1 (((pipeGet xs ni eb m).2.2.2.1).map I), .blk b4 25 [.slice A4 (((pipeGet xs ni eb m).1).length) c4, .int .i64 ((pipeGet xs ni eb m).2.1), .bool ((pipeGet xs ni eb m).2.2.1)], .own A_10_2 xs.length c_10_2 3 1 (xs.map I)] := hs16.call0 hs17'
    clear hs17'
    refine nl (kq ⟨_, hs17, memi 0 rfl, memi 4 rfl, memi 6 rfl, memi 9 rfl, trivial⟩ ?_)
    refine tk (fuel := 0) (is := [4]) (.cons rfl (.nil)) (by kernel_rfl) (by kernel_rfl) ⟨_, hs17, memi 0 rfl, memi 4 rfl, memi 6 rfl, memi 9 rfl, trivial⟩ ?_
    refine .op trivial rfl rfl (fun wq _ => nd (p := xs = xs ∧ ni = ni ∧ eb = eb) rfl) ?_
    refine .nil ?_
    refine ad (by kernel_rfl) ?_
    refine nN ?_
    have hs18 : SH w w16 [] [.blk b1 29 [.slice Axs xs.length cxs, .int .i64 ni, .bool eb], .own A2 (((pipeGet xs ni eb m).1).length) c2 3 1 (((pipeGet xs ni eb m).1).map I), .own Ag1 (((pipeGet xs ni eb m).2.2.2.1).length) cg1 3 1 (((pipeGet xs ni eb m).2.2.2.1).map I), .blk b2 25 [.slice A2 (((pipeGet xs ni eb m).1).length) c2, .int .i64 ((pipeGet xs ni eb m).2.1), .bool ((pipeGet xs ni eb m).2.2.1)], .own A3 xs.length c3 3 1 (xs.map I), .blk b3 25 [.slice A3 xs.length c3, .int .i64 ni, .bool eb], .own A4 (((pipeGet xs ni eb m).1).length) c4 3 1 (((pipeGet xs ni eb m).1).map I), .own Ag2 (((pipeGet xs ni eb m).2.2.2.1).length) cg2 3 1 (((pipeGet xs ni eb m).2.2.2.1).map I), .blk b4 25 [.slice A4 (((pipeGet xs ni eb m).1).length) c4, .int .i64 ((pipeGet xs ni eb m).2.1), .bool ((pipeGet xs ni eb m).2.2.1)]] := hs17.pick [0, 2, 3, 4, 5, 6, 7, 8, 9] rfl (by decide)
    refine cdd (p := ¬ (xs = xs ∧ ni = ni ∧ eb = eb)) rfl (fun h5 => absurd h5 (by exact fun h => h ⟨rfl, rfl, rfl⟩)) (fun h5 => ?_)
    refine sk ?_
    refine nN ?_
    refine sq ?_
    refine rg ?_
    refine q trivial rfl rfl (asg (v := .int .i64 1) rfl) ?_
    refine nl ?_
    refine nN ?_
    refine sq ?_
    refine rg ?_
    refine q trivial rfl rfl (ldg (vs := [.slice A3 xs.length c3, .int .i64 ni, .bool eb]) hs18 5 rfl rfl rfl rfl ag25) ?_
    refine q trivial rfl rfl (mv (v := .int .i64 1) rfl) ?_
    refine cl trivial rfl (markPipe (Axs := A3) (cxs := c3) (xs := xs) (ni := ni) (eb := eb) (k0 := 1) (w := _) (hxs := (own_ok hs18 4 rfl)) (hxs_n := (by first | (first | omega | (simp; omega)) | (have hsz := szI_nn (by assumption); have hpl := pipeGet_len xs ni eb m; first | omega | (simp; omega)))) (hk0 := (by first | (first | omega | assumption | (simp; done) | (simp; omega)) | (have hsz := szI_nn (by assumption); have hpl := pipeGet_len xs ni eb m; first | omega | assumption | (simp; done) | (simp; omega))))) ?_
    rintro _ w17 ⟨rfl, hs19'⟩
    have hs19 : SH w w17 [] [.blk b1 29 [.slice Axs xs.length cxs, .int .i64 ni, .bool eb], .own A2 (((pipeGet xs ni eb m).1).length) c2 3 1 (((pipeGet xs ni eb m).1).map I), .own Ag1 (((pipeGet xs ni eb m).2.2.2.1).length) cg1 3 1 (((pipeGet xs ni eb m).2.2.2.1).map I), .blk b2 25 [.slice A2 (((pipeGet xs ni eb m).1).length) c2, .int .i64 ((pipeGet xs ni eb m).2.1), .bool ((pipeGet xs ni eb m).2.2.1)], .blk b3 25 [.slice A3 xs.length c3, .int .i64 ni, .bool eb], .own A4 (((pipeGet xs ni eb m).1).length) c4 3 1 (((pipeGet xs ni eb m).1).map I), .own Ag2 (((pipeGet xs ni eb m).2.2.2.1).length) cg2 3 1 (((pipeGet xs ni eb m).2.2.2.1).map I), .blk b4 25 [.slice A4 (((pipeGet xs ni eb m).1).length) c4, .int .i64 ((pipeGet xs ni eb m).2.1), .bool ((pipeGet xs ni eb m).2.2.1)], .own A3 xs.length c3 3 1 ((marks 1 xs.length).map I)] := SH.callK (K := [.own A3 xs.length c3 3 1 (xs.map I)]) (R := [.blk b1 29 [.slice Axs xs.length cxs, .int .i64 ni, .bool eb], .own A2 (((pipeGet xs ni eb m).1).length) c2 3 1 (((pipeGet xs ni eb m).1).map I), .own Ag1 (((pipeGet xs ni eb m).2.2.2.1).length) cg1 3 1 (((pipeGet xs ni eb m).2.2.2.1).map I), .blk b2 25 [.slice A2 (((pipeGet xs ni eb m).1).length) c2, .int .i64 ((pipeGet xs ni eb m).2.1), .bool ((pipeGet xs ni eb m).2.2.1)], .blk b3 25 [.slice A3 xs.length c3, .int .i64 ni, .bool eb], .own A4 (((pipeGet xs ni eb m).1).length) c4 3 1 (((pipeGet xs ni eb m).1).map I), .own Ag2 (((pipeGet xs ni eb m).2.2.2.1).length) cg2 3 1 (((pipeGet xs ni eb m).2.2.2.1).map I), .blk b4 25 [.slice A4 (((pipeGet xs ni eb m).1).length) c4, .int .i64 ((pipeGet xs ni eb m).2.1), .bool ((pipeGet xs ni eb m).2.2.1)]]) (hs18.pick [4, 0, 1, 2, 3, 5, 6, 7, 8] rfl (by decide)) hs19' rfl
    clear hs19'
    have e1 : xs.length = (marks 1 xs.length).length := by first | rfl | (simp; done) | (simp; omega)
    have hs20 : SH w w17 [] [.blk b1 29 [.slice Axs xs.length cxs, .int .i64 ni, .bool eb], .own A2 (((pipeGet xs ni eb m).1).length) c2 3 1 (((pipeGet xs ni eb m).1).map I), .own Ag1 (((pipeGet xs ni eb m).2.2.2.1).length) cg1 3 1 (((pipeGet xs ni eb m).2.2.2.1).map I), .blk b2 25 [.slice A2 (((pipeGet xs ni eb m).1).length) c2, .int .i64 ((pipeGet xs ni eb m).2.1), .bool ((pipeGet xs ni eb m).2.2.1)], .blk b3 25 [.slice A3 xs.length c3, .int .i64 ni, .bool eb], .own A4 (((pipeGet xs ni eb m).1).length) c4 3 1 (((pipeGet xs ni eb m).1).map I), .own Ag2 (((pipeGet xs ni eb m).2.2.2.1).length) cg2 3 1 (((pipeGet xs ni eb m).2.2.2.1).map I), .blk b4 25 [.slice A4 (((pipeGet xs ni eb m).1).length) c4, .int .i64 ((pipeGet xs ni eb m).2.1), .bool ((pipeGet xs ni eb m).2.2.1)], .own A3 ((marks 1 xs.length).length) c3 3 1 ((marks 1 xs.length).map I)] := (hs19.cast (lc rfl (lc rfl (lc rfl (lc rfl (lc rfl (lc rfl (lc rfl (lc rfl (lc (own_eq (g := I) rfl e1 rfl rfl) rfl))))))))))
    clear hs19
    refine q trivial rfl rfl (asg (v := .int .i64 (1 + ((xs.length : Nat) : Int))) rfl) ?_
    refine nl ?_
    refine nN ?_
    have hs21 : SH w w17 [] [.blk b1 29 [.slice Axs xs.length cxs, .int .i64 ni, .bool eb], .own A2 (((pipeGet xs ni eb m).1).length) c2 3 1 (((pipeGet xs ni eb m).1).map I), .own Ag1 (((pipeGet xs ni eb m).2.2.2.1).length) cg1 3 1 (((pipeGet xs ni eb m).2.2.2.1).map I), .blk b2 25 [.slice A2 (((pipeGet xs ni eb m).1).length) c2, .int .i64 ((pipeGet xs ni eb m).2.1), .bool ((pipeGet xs ni eb m).2.2.1)], .own A4 (((pipeGet xs ni eb m).1).length) c4 3 1 (((pipeGet xs ni eb m).1).map I), .own Ag2 (((pipeGet xs ni eb m).2.2.2.1).length) cg2 3 1 (((pipeGet xs ni eb m).2.2.2.1).map I), .blk b4 25 [.slice A4 (((pipeGet xs ni eb m).1).length) c4, .int .i64 ((pipeGet xs ni eb m).2.1), .bool ((pipeGet xs ni eb m).2.2.1)]] := hs20.pick [0, 1, 2, 3, 5, 6, 7] rfl (by decide)
    refine sq ?_
    refine sq ?_
    refine rg ?_
    refine q trivial rfl rfl (mv (v := .int .i64 (1 + ((xs.length : Nat) : Int))) rfl) ?_
    refine q trivial rfl rfl (lss (k := .i64) (a := 1 + ((xs.length : Nat) : Int)) (b := 0) rfl rfl) ?_
    refine q trivial rfl rfl (mv (v := .bool (decide ((1 + ((xs.length : Nat) : Int)) < 0))) rfl) ?_
    refine spd (p := (1 + ((xs.length : Nat) : Int)) < 0) 66 rfl (fun h6 => absurd h6 (by omega)) (fun h6 => ?_)
    refine q ⟨_, rfl, rfl⟩ rfl rfl (ldg (vs := [.slice A4 (((pipeGet xs ni eb m).1).length) c4, .int .i64 ((pipeGet xs ni eb m).2.1), .bool ((pipeGet xs ni eb m).2.2.1)]) hs21 6 rfl rfl rfl rfl ag25) ?_
    refine q ⟨_, rfl, rfl⟩ rfl rfl (ldg (vs := [.slice A2 (((pipeGet xs ni eb m).1).length) c2, .int .i64 ((pipeGet xs ni eb m).2.1), .bool ((pipeGet xs ni eb m).2.2.1)]) hs21 3 rfl rfl rfl rfl ag25) ?_
    refine cl ⟨_, rfl, rfl⟩ rfl (eqPipe (Axs := A4) (cxs := c4) (xs := (pipeGet xs ni eb m).1) (n1 := (pipeGet xs ni eb m).2.1) (e1 := ((pipeGet xs ni eb m).2.2.1)) (Ays := A2) (cys := c2) (ys := (pipeGet xs ni eb m).1) (n2 := (pipeGet xs ni eb m).2.1) (e2 := ((pipeGet xs ni eb m).2.2.1)) (w := _) (hxs := (hs21.sl0 4 rfl)) (hys := (hs21.sl0 1 rfl))) ?_
    rintro _ w18 ⟨rfl, hs22'⟩
    have hs22 : SH w w18 [] [.blk b1 29 [.slice Axs xs.length cxs, .int .i64 ni, .bool eb], .own A2 (((pipeGet xs ni eb m).1).length) c2 3 1 (((pipeGet xs ni eb m).1).map I), .own Ag1 (((pipeGet xs ni eb m).2.2.2.1).length) cg1 3 1 (((pipeGet xs ni eb m).2.2.2.1).map I), .blk b2 25 [.slice A2 (((pipeGet xs ni eb m).1).length) c2, .int .i64 ((pipeGet xs ni eb m).2.1), .bool ((pipeGet xs ni eb m).2.2.1)], .own A4 (((pipeGet xs ni eb m).1).length) c4 3 1 (((pipeGet xs ni eb m).1).map I), .own Ag2 (((pipeGet xs ni eb m).2.2.2.1).length) cg2 3 1 (((pipeGet xs ni eb m).2.2.2.1).map I), .blk b4 25 [.slice A4 (((pipeGet xs ni eb m).1).length) c4, .int .i64 ((pipeGet xs ni eb m).2.1), .bool ((pipeGet xs ni eb m).2.2.1)]] := hs21.call0 hs22'
    clear hs22'
    refine q ⟨_, rfl, rfl⟩ rfl rfl (nd (p := ((pipeGet xs ni eb m).1) = ((pipeGet xs ni eb m).1) ∧ ((pipeGet xs ni eb m).2.1) = ((pipeGet xs ni eb m).2.1) ∧ ((pipeGet xs ni eb m).2.2.1) = ((pipeGet xs ni eb m).2.2.1)) rfl) ?_
    refine q trivial rfl rfl (pf (v := .bool (decide (¬ (((pipeGet xs ni eb m).1) = ((pipeGet xs ni eb m).1) ∧ ((pipeGet xs ni eb m).2.1) = ((pipeGet xs ni eb m).2.1) ∧ ((pipeGet xs ni eb m).2.2.1) = ((pipeGet xs ni eb m).2.2.1))))) rfl rfl) ?_
    refine q trivial rfl rfl (mv (v := .bool (decide (¬ (((pipeGet xs ni eb m).1) = ((pipeGet xs ni eb m).1) ∧ ((pipeGet xs ni eb m).2.1) = ((pipeGet xs ni eb m).2.1) ∧ ((pipeGet xs ni eb m).2.2.1) = ((pipeGet xs ni eb m).2.2.1))))) rfl) ?_
    refine spd (p := ¬ (((pipeGet xs ni eb m).1) = ((pipeGet xs ni eb m).1) ∧ ((pipeGet xs ni eb m).2.1) = ((pipeGet xs ni eb m).2.1) ∧ ((pipeGet xs ni eb m).2.2.1) = ((pipeGet xs ni eb m).2.2.1))) 72 rfl (fun h7 => absurd h7 (by exact fun h => h ⟨rfl, rfl, rfl⟩)) (fun h7 => ?_)
    refine q ⟨_, rfl, rfl⟩ rfl rfl (mv (v := .slice Ag2 (((pipeGet xs ni eb m).2.2.2.1).length) cg2) rfl) ?_
    refine q ⟨_, rfl, rfl⟩ rfl rfl (mv (v := .slice Ag1 (((pipeGet xs ni eb m).2.2.2.1).length) cg1) rfl) ?_
    refine cl ⟨_, rfl, rfl⟩ rfl (eqIntS (Axs := Ag2) (cxs := cg2) (xs := (pipeGet xs ni eb m).2.2.2.1) (Abs := Ag1) (cbs := cg1) (bs := (pipeGet xs ni eb m).2.2.2.1) (w := _) (hxs := (hs22.sl0 5 rfl)) (hbs := (hs22.sl0 2 rfl))) ?_
    rintro _ w19 ⟨rfl, hs23'⟩
    have hs23 : SH w w19 [] [.blk b1 29 [.slice Axs xs.length cxs, .int .i64 ni, .bool eb], .own A2 (((pipeGet xs ni eb m).1).length) c2 3 1 (((pipeGet xs ni eb m).1).map I), .own Ag1 (((pipeGet xs ni eb m).2.2.2.1).length) cg1 3 1 (((pipeGet xs ni eb m).2.2.2.1).map I), .blk b2 25 [.slice A2 (((pipeGet xs ni eb m).1).length) c2, .int .i64 ((pipeGet xs ni eb m).2.1), .bool ((pipeGet xs ni eb m).2.2.1)], .own A4 (((pipeGet xs ni eb m).1).length) c4 3 1 (((pipeGet xs ni eb m).1).map I), .own Ag2 (((pipeGet xs ni eb m).2.2.2.1).length) cg2 3 1 (((pipeGet xs ni eb m).2.2.2.1).map I), .blk b4 25 [.slice A4 (((pipeGet xs ni eb m).1).length) c4, .int .i64 ((pipeGet xs ni eb m).2.1), .bool ((pipeGet xs ni eb m).2.2.1)]] := hs22.call0 hs23'
    clear hs23'
    refine q ⟨_, rfl, rfl⟩ rfl rfl (nd (p := ((pipeGet xs ni eb m).2.2.2.1) = ((pipeGet xs ni eb m).2.2.2.1)) rfl) ?_
    refine q trivial rfl rfl (pf (v := .bool (decide (¬ (((pipeGet xs ni eb m).2.2.2.1) = ((pipeGet xs ni eb m).2.2.2.1))))) rfl rfl) ?_
    refine q trivial rfl rfl (mv (v := .bool (decide (¬ (((pipeGet xs ni eb m).2.2.2.1) = ((pipeGet xs ni eb m).2.2.2.1))))) rfl) ?_
    refine spd (p := ¬ (((pipeGet xs ni eb m).2.2.2.1) = ((pipeGet xs ni eb m).2.2.2.1))) 78 rfl (fun h8 => absurd h8 (by exact fun h => h rfl)) (fun h8 => ?_)
    refine q ⟨_, rfl, rfl⟩ rfl rfl (mv (v := .bool ((pipeGet xs ni eb m).2.2.2.2)) rfl) ?_
    refine q ⟨_, rfl, rfl⟩ rfl rfl (mv (v := .bool ((pipeGet xs ni eb m).2.2.2.2)) rfl) ?_
    refine q ⟨_, rfl, rfl⟩ rfl rfl (neb (a := ((pipeGet xs ni eb m).2.2.2.2)) (b := ((pipeGet xs ni eb m).2.2.2.2)) tb4 rfl rfl) ?_
    refine q trivial rfl rfl (pf (v := .bool (decide (((pipeGet xs ni eb m).2.2.2.2) ≠ ((pipeGet xs ni eb m).2.2.2.2)))) rfl rfl) ?_
    refine nl ?_
    refine nN ?_
    refine cdd (p := ((pipeGet xs ni eb m).2.2.2.2) ≠ ((pipeGet xs ni eb m).2.2.2.2)) rfl (fun h9 => absurd h9 (by exact fun h => h rfl)) (fun h9 => ?_)
    refine sk ?_
    refine nN ?_
    refine sq ?_
    refine rg ?_
    refine q trivial rfl rfl (asg (v := .int .i64 1) rfl) ?_
    refine nl ?_
    refine nN ?_
    refine sq ?_
    refine rg ?_
    refine q trivial rfl rfl (ldg (vs := [.slice A4 (((pipeGet xs ni eb m).1).length) c4, .int .i64 ((pipeGet xs ni eb m).2.1), .bool ((pipeGet xs ni eb m).2.2.1)]) hs23 6 rfl rfl rfl rfl ag25) ?_
    refine q trivial rfl rfl (mv (v := .int .i64 1) rfl) ?_
    refine cl trivial rfl (markPipe (Axs := A4) (cxs := c4) (xs := (pipeGet xs ni eb m).1) (ni := (pipeGet xs ni eb m).2.1) (eb := ((pipeGet xs ni eb m).2.2.1)) (k0 := 1) (w := _) (hxs := (own_ok hs23 4 rfl)) (hxs_n := (by first | (first | omega | (simp; omega)) | (have hsz := szI_nn (by assumption); have hpl := pipeGet_len xs ni eb m; first | omega | (simp; omega)))) (hk0 := (by first | (first | omega | assumption | (simp; done) | (simp; omega)) | (have hsz := szI_nn (by assumption); have hpl := pipeGet_len xs ni eb m; first | omega | assumption | (simp; done) | (simp; omega))))) ?_
    rintro _ w20 ⟨rfl, hs24'⟩
    have hs24 : SH w w20 [] [.blk b1 29 [.slice Axs xs.length cxs, .int .i64 ni, .bool eb], .own A2 (((pipeGet xs ni eb m).1).length) c2 3 1 (((pipeGet xs ni eb m).1).map I), .own Ag1 (((pipeGet xs ni eb m).2.2.2.1).length) cg1 3 1 (((pipeGet xs ni eb m).2.2.2.1).map I), .blk b2 25 [.slice A2 (((pipeGet xs ni eb m).1).length) c2, .int .i64 ((pipeGet xs ni eb m).2.1), .bool ((pipeGet xs ni eb m).2.2.1)], .own Ag2 (((pipeGet xs ni eb m).2.2.2.1).length) cg2 3 1 (((pipeGet xs ni eb m).2.2.2.1).map I), .blk b4 25 [.slice A4 (((pipeGet xs ni eb m).1).length) c4, .int .i64 ((pipeGet xs ni eb m).2.1), .bool ((pipeGet xs ni eb m).2.2.1)], .own A4 (((pipeGet xs ni eb m).1).length) c4 3 1 ((marks 1 ((pipeGet xs ni eb m).1).length).map I)] := SH.callK (K := [.own A4 (((pipeGet xs ni eb m).1).length) c4 3 1 (((pipeGet xs ni eb m).1).map I)]) (R := [.blk b1 29 [.slice Axs xs.length cxs, .int .i64 ni, .bool eb], .own A2 (((pipeGet xs ni eb m).1).length) c2 3 1 (((pipeGet xs ni eb m).1).map I), .own Ag1 (((pipeGet xs ni eb m).2.2.2.1).length) cg1 3 1 (((pipeGet xs ni eb m).2.2.2.1).map I), .blk b2 25 [.slice A2 (((pipeGet xs ni eb m).1).length) c2, .int .i64 ((pipeGet xs ni eb m).2.1), .bool ((pipeGet xs ni eb m).2.2.1)], .own Ag2 (((pipeGet xs ni eb m).2.2.2.1).length) cg2 3 1 (((pipeGet xs ni eb m).2.2.2.1).map I), .blk b4 25 [.slice A4 (((pipeGet xs ni eb m).1).length) c4, .int .i64 ((pipeGet xs ni eb m).2.1), .bool ((pipeGet xs ni eb m).2.2.1)]]) (hs23.pick [4, 0, 1, 2, 3, 5, 6] rfl (by decide)) hs24' rfl
    clear hs24'
    have e2 : ((pipeGet xs ni eb m).1).length = (marks 1 ((pipeGet xs ni eb m).1).length).length := by first | rfl | (simp; done) | (simp; omega)
    have hs25 : SH w w20 [] [.blk b1 29 [.slice Axs xs.length cxs, .int .i64 ni, .bool eb], .own A2 (((pipeGet xs ni eb m).1).length) c2 3 1 (((pipeGet xs ni eb m).1).map I), .own Ag1 (((pipeGet xs ni eb m).2.2.2.1).length) cg1 3 1 (((pipeGet xs ni eb m).2.2.2.1).map I), .blk b2 25 [.slice A2 (((pipeGet xs ni eb m).1).length) c2, .int .i64 ((pipeGet xs ni eb m).2.1), .bool ((pipeGet xs ni eb m).2.2.1)], .own Ag2 (((pipeGet xs ni eb m).2.2.2.1).length) cg2 3 1 (((pipeGet xs ni eb m).2.2.2.1).map I), .blk b4 25 [.slice A4 (((pipeGet xs ni eb m).1).length) c4, .int .i64 ((pipeGet xs ni eb m).2.1), .bool ((pipeGet xs ni eb m).2.2.1)], .own A4 ((marks 1 ((pipeGet xs ni eb m).1).length).length) c4 3 1 ((marks 1 ((pipeGet xs ni eb m).1).length).map I)] := (hs24.cast (lc rfl (lc rfl (lc rfl (lc rfl (lc rfl (lc rfl (lc (own_eq (g := I) rfl e2 rfl rfl) rfl))))))))
    clear hs24
    refine q trivial rfl rfl (asg (v := .int .i64 (1 + ((((pipeGet xs ni eb m).1).length : Nat) : Int))) rfl) ?_
    refine nl ?_
    refine nN ?_
    refine sq ?_
    refine rg ?_
    refine q trivial rfl rfl (mv (v := .slice Ag2 (((pipeGet xs ni eb m).2.2.2.1).length) cg2) rfl) ?_
    refine q trivial rfl rfl (mv (v := .int .i64 (1 + ((((pipeGet xs ni eb m).1).length : Nat) : Int))) rfl) ?_
    refine cl trivial rfl (markIntS (Axs := Ag2) (cxs := cg2) (xs := (pipeGet xs ni eb m).2.2.2.1) (k0 := 1 + ((((pipeGet xs ni eb m).1).length : Nat) : Int)) (w := _) (hxs := (own_ok hs25 4 rfl)) (hxs_n := (by first | (first | omega | (simp; omega)) | (have hsz := szI_nn (by assumption); have hpl := pipeGet_len xs ni eb m; first | omega | (simp; omega)))) (hk0 := (by first | (first | omega | assumption | (simp; done) | (simp; omega)) | (have hsz := szI_nn (by assumption); have hpl := pipeGet_len xs ni eb m; first | omega | assumption | (simp; done) | (simp; omega))))) ?_
    rintro _ w21 ⟨rfl, hs26'⟩
    have hs26 : SH w w21 [] [.blk b1 29 [.slice Axs xs.length cxs, .int .i64 ni, .bool eb], .own A2 (((pipeGet xs ni eb m).1).length) c2 3 1 (((pipeGet xs ni eb m).1).map I), .own Ag1 (((pipeGet xs ni eb m).2.2.2.1).length) cg1 3 1 (((pipeGet xs ni eb m).2.2.2.1).map I), .blk b2 25 [.slice A2 (((pipeGet xs ni eb m).1).length) c2, .int .i64 ((pipeGet xs ni eb m).2.1), .bool ((pipeGet xs ni eb m).2.2.1)], .blk b4 25 [.slice A4 (((pipeGet xs ni eb m).1).length) c4, .int .i64 ((pipeGet xs ni eb m).2.1), .bool ((pipeGet xs ni eb m).2.2.1)], .own A4 ((marks 1 ((pipeGet xs ni eb m).1).length).length) c4 3 1 ((marks 1 ((pipeGet xs ni eb m).1).length).map I), .own Ag2 (((pipeGet xs ni eb m).2.2.2.1).length) cg2 3 1 ((marks (1 + ((((pipeGet xs ni eb m).1).length : Nat) : Int)) ((pipeGet xs ni eb m).2.2.2.1).length).map I)] := SH.callK (K := [.own Ag2 (((pipeGet xs ni eb m).2.2.2.1).length) cg2 3 1 (((pipeGet xs ni eb m).2.2.2.1).map I)]) (R := [.blk b1 29 [.slice Axs xs.length cxs, .int .i64 ni, .bool eb], .own A2 (((pipeGet xs ni eb m).1).length) c2 3 1 (((pipeGet xs ni eb m).1).map I), .own Ag1 (((pipeGet xs ni eb m).2.2.2.1).length) cg1 3 1 (((pipeGet xs ni eb m).2.2.2.1).map I), .blk b2 25 [.slice A2 (((pipeGet xs ni eb m).1).length) c2, .int .i64 ((pipeGet xs ni eb m).2.1), .bool ((pipeGet xs ni eb m).2.2.1)], .blk b4 25 [.slice A4 (((pipeGet xs ni eb m).1).length) c4, .int .i64 ((pipeGet xs ni eb m).2.1), .bool ((pipeGet xs ni eb m).2.2.1)], .own A4 ((marks 1 ((pipeGet xs ni eb m).1).length).length) c4 3 1 ((marks 1 ((pipeGet xs ni eb m).1).length).map I)]) (hs25.pick [4, 0, 1, 2, 3, 5, 6] rfl (by decide)) hs26' rfl
    clear hs26'
    have e3 : ((pipeGet xs ni eb m).2.2.2.1).length = (marks (1 + ((((pipeGet xs ni eb m).1).length : Nat) : Int)) ((pipeGet xs ni eb m).2.2.2.1).length).length := by first | rfl | (simp; done) | (simp; omega)
    have hs27 : SH w w21 [] [.blk b1 29 [.slice Axs xs.length cxs, .int .i64 ni, .bool eb], .own A2 (((pipeGet xs ni eb m).1).length) c2 3 1 (((pipeGet xs ni eb m).1).map I), .own Ag1 (((pipeGet xs ni eb m).2.2.2.1).length) cg1 3 1 (((pipeGet xs ni eb m).2.2.2.1).map I), .blk b2 25 [.slice A2 (((pipeGet xs ni eb m).1).length) c2, .int .i64 ((pipeGet xs ni eb m).2.1), .bool ((pipeGet xs ni eb m).2.2.1)], .blk b4 25 [.slice A4 (((pipeGet xs ni eb m).1).length) c4, .int .i64 ((pipeGet xs ni eb m).2.1), .bool ((pipeGet xs ni eb m).2.2.1)], .own A4 ((marks 1 ((pipeGet xs ni eb m).1).length).length) c4 3 1 ((marks 1 ((pipeGet xs ni eb m).1).length).map I), .own Ag2 ((marks (1 + ((((pipeGet xs ni eb m).1).length : Nat) : Int)) ((pipeGet xs ni eb m).2.2.2.1).length).length) cg2 3 1 ((marks (1 + ((((pipeGet xs ni eb m).1).length : Nat) : Int)) ((pipeGet xs ni eb m).2.2.2.1).length).map I)] := (hs26.cast (lc rfl (lc rfl (lc rfl (lc rfl (lc rfl (lc rfl (lc (own_eq (g := I) rfl e3 rfl rfl) rfl))))))))
    clear hs26
    refine q trivial rfl rfl (asg (v := .int .i64 ((1 + ((((pipeGet xs ni eb m).1).length : Nat) : Int)) + ((((pipeGet xs ni eb m).2.2.2.1).length : Nat) : Int))) rfl) ?_
    refine nl ?_
    refine nN ?_
    refine sq ?_
    refine rg ?_
    refine q trivial rfl rfl (asg (v := .int .i64 1) rfl) ?_
    refine nl ?_
    refine nN ?_
    refine sq ?_
    refine rg ?_
    refine q trivial rfl rfl (ldg (vs := [.slice A4 (((pipeGet xs ni eb m).1).length) c4, .int .i64 ((pipeGet xs ni eb m).2.1), .bool ((pipeGet xs ni eb m).2.2.1)]) hs27 4 rfl rfl rfl rfl ag25) ?_
    refine q trivial rfl rfl (mv (v := .int .i64 1) rfl) ?_
    refine cl trivial rfl (Does.castA (lc (aggv (lc (slv rfl e2.symm rfl) (lc rfl (lc rfl rfl)))) (lc rfl rfl)) (heldPipe (Axs := A4) (cxs := c4) (xs := marks 1 ((pipeGet xs ni eb m).1).length) (ni := (pipeGet xs ni eb m).2.1) (eb := ((pipeGet xs ni eb m).2.2.1)) (k0 := 1) (w := _) (hxs := (hs27.sl0 5 rfl)) (hxs_n := (by first | (first | omega | (simp; omega)) | (have hsz := szI_nn (by assumption); have hpl := pipeGet_len xs ni eb m; first | omega | (simp; omega)))) (hk0 := (by first | (first | omega | assumption | (simp; done) | (simp; omega)) | (have hsz := szI_nn (by assumption); have hpl := pipeGet_len xs ni eb m; first | omega | assumption | (simp; done) | (simp; omega)))))) ?_
    rintro _ w22 ⟨rfl, hs28'⟩
    have hs28 : SH w w22 [] [.blk b1 29 [.slice Axs xs.length cxs, .int .i64 ni, .bool eb], .own A2 (((pipeGet xs ni eb m).1).length) c2 3 1 (((pipeGet xs ni eb m).1).map I), .own Ag1 (((pipeGet xs ni eb m).2.2.2.1).length) cg1 3 1 (((pipeGet xs ni eb m).2.2.2.1).map I), .blk b2 25 [.slice A2 (((pipeGet xs ni eb m).1).length) c2, .int .i64 ((pipeGet xs ni eb m).2.1), .bool ((pipeGet xs ni eb m).2.2.1)], .blk b4 25 [.slice A4 (((pipeGet xs ni eb m).1).length) c4, .int .i64 ((pipeGet xs ni eb m).2.1), .bool ((pipeGet xs ni eb m).2.2.1)], .own A4 ((marks 1 ((pipeGet xs ni eb m).1).length).length) c4 3 1 ((marks 1 ((pipeGet xs ni eb m).1).length).map I), .own Ag2 ((marks (1 + ((((pipeGet xs ni eb m).1).length : Nat) : Int)) ((pipeGet xs ni eb m).2.2.2.1).length).length) cg2 3 1 ((marks (1 + ((((pipeGet xs ni eb m).1).length : Nat) : Int)) ((pipeGet xs ni eb m).2.2.2.1).length).map I)] := hs27.call0 hs28'
    clear hs28'
    refine q trivial rfl rfl (asg (v := .int .i64 (heldI (marks 1 ((pipeGet xs ni eb m).1).length) 1)) rfl) ?_
    have e4 : heldI (marks 1 ((pipeGet xs ni eb m).1).length) 1 = 1 + ((((pipeGet xs ni eb m).1).length : Nat) : Int) := by exact held_marks _ _
    refine re 15 (v := .int .i64 (1 + ((((pipeGet xs ni eb m).1).length : Nat) : Int))) (congrArg (Value.int .i64) e4) ?_
    refine nl ?_
    refine nN ?_
    refine sq ?_
    refine sq ?_
    refine rg ?_
    refine q trivial rfl rfl (mv (v := .int .i64 (1 + ((((pipeGet xs ni eb m).1).length : Nat) : Int))) rfl) ?_
    refine q trivial rfl rfl (lss (k := .i64) (a := 1 + ((((pipeGet xs ni eb m).1).length : Nat) : Int)) (b := 0) rfl rfl) ?_
    refine nl ?_
    refine nN ?_
    refine cdd (p := (1 + ((((pipeGet xs ni eb m).1).length : Nat) : Int)) < 0) rfl (fun h10 => absurd h10 (by omega)) (fun h10 => ?_)
    refine sk ?_
    refine nN ?_
    refine sq ?_
    refine rg ?_
    refine q trivial rfl rfl (mv (v := .slice Ag2 (((pipeGet xs ni eb m).2.2.2.1).length) cg2) rfl) ?_
    refine q trivial rfl rfl (mv (v := .int .i64 (1 + ((((pipeGet xs ni eb m).1).length : Nat) : Int))) rfl) ?_
    refine cl trivial rfl (Does.castA (lc (slv rfl e3.symm rfl) (lc rfl rfl)) (heldIntS (Axs := Ag2) (cxs := cg2) (xs := marks (1 + ((((pipeGet xs ni eb m).1).length : Nat) : Int)) ((pipeGet xs ni eb m).2.2.2.1).length) (k0 := 1 + ((((pipeGet xs ni eb m).1).length : Nat) : Int)) (w := _) (hxs := (hs28.sl0 6 rfl)) (hxs_n := (by first | (first | omega | (simp; omega)) | (have hsz := szI_nn (by assumption); have hpl := pipeGet_len xs ni eb m; first | omega | (simp; omega)))) (hk0 := (by first | (first | omega | assumption | (simp; done) | (simp; omega)) | (have hsz := szI_nn (by assumption); have hpl := pipeGet_len xs ni eb m; first | omega | assumption | (simp; done) | (simp; omega)))))) ?_
    rintro _ w23 ⟨rfl, hs29'⟩
    have hs29 : SH w w23 [] [.blk b1 29 [.slice Axs xs.length cxs, .int .i64 ni, .bool eb], .own A2 (((pipeGet xs ni eb m).1).length) c2 3 1 (((pipeGet xs ni eb m).1).map I), .own Ag1 (((pipeGet xs ni eb m).2.2.2.1).length) cg1 3 1 (((pipeGet xs ni eb m).2.2.2.1).map I), .blk b2 25 [.slice A2 (((pipeGet xs ni eb m).1).length) c2, .int .i64 ((pipeGet xs ni eb m).2.1), .bool ((pipeGet xs ni eb m).2.2.1)], .blk b4 25 [.slice A4 (((pipeGet xs ni eb m).1).length) c4, .int .i64 ((pipeGet xs ni eb m).2.1), .bool ((pipeGet xs ni eb m).2.2.1)], .own A4 ((marks 1 ((pipeGet xs ni eb m).1).length).length) c4 3 1 ((marks 1 ((pipeGet xs ni eb m).1).length).map I), .own Ag2 ((marks (1 + ((((pipeGet xs ni eb m).1).length : Nat) : Int)) ((pipeGet xs ni eb m).2.2.2.1).length).length) cg2 3 1 ((marks (1 + ((((pipeGet xs ni eb m).1).length : Nat) : Int)) ((pipeGet xs ni eb m).2.2.2.1).length).map I)] := hs28.call0 hs29'
    clear hs29'
    refine q trivial rfl rfl (asg (v := .int .i64 (heldI (marks (1 + ((((pipeGet xs ni eb m).1).length : Nat) : Int)) ((pipeGet xs ni eb m).2.2.2.1).length) (1 + ((((pipeGet xs ni eb m).1).length : Nat) : Int)))) rfl) ?_
    have e5 : heldI (marks (1 + ((((pipeGet xs ni eb m).1).length : Nat) : Int)) ((pipeGet xs ni eb m).2.2.2.1).length) (1 + ((((pipeGet xs ni eb m).1).length : Nat) : Int)) = (1 + ((((pipeGet xs ni eb m).1).length : Nat) : Int)) + ((((pipeGet xs ni eb m).2.2.2.1).length : Nat) : Int) := by exact held_marks _ _
    refine re 15 (v := .int .i64 ((1 + ((((pipeGet xs ni eb m).1).length : Nat) : Int)) + ((((pipeGet xs ni eb m).2.2.2.1).length : Nat) : Int))) (congrArg (Value.int .i64) e5) ?_
    refine nl ?_
    refine nN ?_
    refine sq ?_
    refine sq ?_
    refine rg ?_
    refine q trivial rfl rfl (mv (v := .int .i64 ((1 + ((((pipeGet xs ni eb m).1).length : Nat) : Int)) + ((((pipeGet xs ni eb m).2.2.2.1).length : Nat) : Int))) rfl) ?_
    refine q trivial rfl rfl (lss (k := .i64) (a := (1 + ((((pipeGet xs ni eb m).1).length : Nat) : Int)) + ((((pipeGet xs ni eb m).2.2.2.1).length : Nat) : Int)) (b := 0) rfl rfl) ?_
    refine nl ?_
    refine nN ?_
    refine cdd (p := ((1 + ((((pipeGet xs ni eb m).1).length : Nat) : Int)) + ((((pipeGet xs ni eb m).2.2.2.1).length : Nat) : Int)) < 0) rfl (fun h11 => absurd h11 (by omega)) (fun h11 => ?_)
    refine sk ?_
    refine nN ?_
    refine sq ?_
    refine sq ?_
    refine rg ?_
    refine q trivial rfl rfl (mv (v := .int .i64 ((1 + ((((pipeGet xs ni eb m).1).length : Nat) : Int)) + ((((pipeGet xs ni eb m).2.2.2.1).length : Nat) : Int))) rfl) ?_
    refine q trivial rfl rfl (mv (v := .int .i64 ((1 + ((((pipeGet xs ni eb m).1).length : Nat) : Int)) + ((((pipeGet xs ni eb m).2.2.2.1).length : Nat) : Int))) rfl) ?_
    refine q trivial rfl rfl (nei (k := .i64) (a := (1 + ((((pipeGet xs ni eb m).1).length : Nat) : Int)) + ((((pipeGet xs ni eb m).2.2.2.1).length : Nat) : Int)) (b := (1 + ((((pipeGet xs ni eb m).1).length : Nat) : Int)) + ((((pipeGet xs ni eb m).2.2.2.1).length : Nat) : Int)) rfl rfl) ?_
    refine nl ?_
    refine nN ?_
    refine cdd (p := ((1 + ((((pipeGet xs ni eb m).1).length : Nat) : Int)) + ((((pipeGet xs ni eb m).2.2.2.1).length : Nat) : Int)) ≠ ((1 + ((((pipeGet xs ni eb m).1).length : Nat) : Int)) + ((((pipeGet xs ni eb m).2.2.2.1).length : Nat) : Int))) rfl (fun h12 => absurd h12 (by exact fun h => h rfl)) (fun h12 => ?_)
    refine sk ?_
    refine nN ?_
    refine sq ?_
    refine rg ?_
    refine q trivial rfl rfl (ldg (vs := [.slice Axs xs.length cxs, .int .i64 ni, .bool eb]) hs29 0 rfl rfl rfl rfl ag29) ?_
    refine cl trivial rfl (toPipe (Axs := Axs) (cxs := cxs) (xs := xs) (ni := ni) (eb := eb) (w := _) (hxs := (hxs.up0 hs29)) (hxs_n := (by first | (first | omega | (simp; omega)) | (have hsz := szI_nn (by assumption); have hpl := pipeGet_len xs ni eb m; first | omega | (simp; omega))))) ?_
    rintro _ w24 ⟨A5, c5, rfl, hs30'⟩
    have hs30 : SH w w24 [] [.blk b1 29 [.slice Axs xs.length cxs, .int .i64 ni, .bool eb], .own A2 (((pipeGet xs ni eb m).1).length) c2 3 1 (((pipeGet xs ni eb m).1).map I), .own Ag1 (((pipeGet xs ni eb m).2.2.2.1).length) cg1 3 1 (((pipeGet xs ni eb m).2.2.2.1).map I), .blk b2 25 [.slice A2 (((pipeGet xs ni eb m).1).length) c2, .int .i64 ((pipeGet xs ni eb m).2.1), .bool ((pipeGet xs ni eb m).2.2.1)], .blk b4 25 [.slice A4 (((pipeGet xs ni eb m).1).length) c4, .int .i64 ((pipeGet xs ni eb m).2.1), .bool ((pipeGet xs ni eb m).2.2.1)], .own A4 ((marks 1 ((pipeGet xs ni eb m).1).length).length) c4 3 1 ((marks 1 ((pipeGet xs ni eb m).1).length).map I), .own Ag2 ((marks (1 + ((((pipeGet xs ni eb m).1).length : Nat) : Int)) ((pipeGet xs ni eb m).2.2.2.1).length).length) cg2 3 1 ((marks (1 + ((((pipeGet xs ni eb m).1).length : Nat) : Int)) ((pipeGet xs ni eb m).2.2.2.1).length).map I), .own A5 xs.length c5 3 1 (xs.map I)] := hs29.call0 hs30'
    clear hs30'
    refine q trivial rfl rfl (mv (v := .int .i64 m) rfl) ?_
    refine cl trivial rfl (iPipeGet (Axs := A5) (cxs := c5) (xs := xs) (ni := ni) (eb := eb) (m := m) (w := _) (hxs := (hs30.sl0 7 rfl))) ?_
    rintro _ w25 ⟨A6, c6, Ag3, cg3, rfl, hs31'⟩
    have hs31 : SH w w25 [] [.blk b1 29 [.slice Axs xs.length cxs, .int .i64 ni, .bool eb], .own A2 (((pipeGet xs ni eb m).1).length) c2 3 1 (((pipeGet xs ni eb m).1).map I), .own Ag1 (((pipeGet xs ni eb m).2.2.2.1).length) cg1 3 1 (((pipeGet xs ni eb m).2.2.2.1).map I), .blk b2 25 [.slice A2 (((pipeGet xs ni eb m).1).length) c2, .int .i64 ((pipeGet xs ni eb m).2.1), .bool ((pipeGet xs ni eb m).2.2.1)], .blk b4 25 [.slice A4 (((pipeGet xs ni eb m).1).length) c4, .int .i64 ((pipeGet xs ni eb m).2.1), .bool ((pipeGet xs ni eb m).2.2.1)], .own A4 ((marks 1 ((pipeGet xs ni eb m).1).length).length) c4 3 1 ((marks 1 ((pipeGet xs ni eb m).1).length).map I), .own Ag2 ((marks (1 + ((((pipeGet xs ni eb m).1).length : Nat) : Int)) ((pipeGet xs ni eb m).2.2.2.1).length).length) cg2 3 1 ((marks (1 + ((((pipeGet xs ni eb m).1).length : Nat) : Int)) ((pipeGet xs ni eb m).2.2.2.1).length).map I), .own A5 xs.length c5 3 1 (xs.map I), .own A6 (((pipeGet xs ni eb m).1).length) c6 3 1 (((pipeGet xs ni eb m).1).map I), .own Ag3 (((pipeGet xs ni eb m).2.2.2.1).length) cg3 3 1 (((pipeGet xs ni eb m).2.2.2.1).map I)] := hs30.call0 hs31'
    clear hs31'
    refine q trivial rfl rfl (mv (v := .tuple #[.agg #[.slice A6 (((pipeGet xs ni eb m).1).length) c6, .int .i64 ((pipeGet xs ni eb m).2.1), .bool ((pipeGet xs ni eb m).2.2.1)], .slice Ag3 (((pipeGet xs ni eb m).2.2.2.1).length) cg3, .bool ((pipeGet xs ni eb m).2.2.2.2)]) rfl) ?_
    refine q trivial rfl rfl (xt 0 (v := .agg #[.slice A6 (((pipeGet xs ni eb m).1).length) c6, .int .i64 ((pipeGet xs ni eb m).2.1), .bool ((pipeGet xs ni eb m).2.2.1)]) rfl rfl) ?_
    refine q trivial rfl rfl (xt 1 (v := .slice Ag3 (((pipeGet xs ni eb m).2.2.2.1).length) cg3) rfl rfl) ?_
    refine q trivial rfl rfl (xt 2 (v := .bool ((pipeGet xs ni eb m).2.2.2.2)) rfl rfl) ?_
    refine al (v := .agg #[.slice none 0 0, .int .i64 0, .bool false]) (cs := [.slice none 0 0, .int .i64 0, .bool false]) hs31 tz25 rfl trivial rfl (fun b5 w26 (hs32 : SH w w26 [] [.blk b1 29 [.slice Axs xs.length cxs, .int .i64 ni, .bool eb], .own A2 (((pipeGet xs ni eb m).1).length) c2 3 1 (((pipeGet xs ni eb m).1).map I), .own Ag1 (((pipeGet xs ni eb m).2.2.2.1).length) cg1 3 1 (((pipeGet xs ni eb m).2.2.2.1).map I), .blk b2 25 [.slice A2 (((pipeGet xs ni eb m).1).length) c2, .int .i64 ((pipeGet xs ni eb m).2.1), .bool ((pipeGet xs ni eb m).2.2.1)], .blk b4 25 [.slice A4 (((pipeGet xs ni eb m).1).length) c4, .int .i64 ((pipeGet xs ni eb m).2.1), .bool ((pipeGet xs ni eb m).2.2.1)], .own A4 ((marks 1 ((pipeGet xs ni eb m).1).length).length) c4 3 1 ((marks 1 ((pipeGet xs ni eb m).1).length).map I), .own Ag2 ((marks (1 + ((((pipeGet xs ni eb m).1).length : Nat) : Int)) ((pipeGet xs ni eb m).2.2.2.1).length).length) cg2 3 1 ((marks (1 + ((((pipeGet xs ni eb m).1).length : Nat) : Int)) ((pipeGet xs ni eb m).2.2.2.1).length).map I), .own A5 xs.length c5 3 1 (xs.map I), .own A6 (((pipeGet xs ni eb m).1).length) c6 3 1 (((pipeGet xs ni eb m).1).map I), .own Ag3 (((pipeGet xs ni eb m).2.2.2.1).length) cg3 3 1 (((pipeGet xs ni eb m).2.2.2.1).map I), .blk b5 25 [.slice none 0 0, .int .i64 0, .bool false]]) => ?_)
    refine stg (vs := [.slice A6 (((pipeGet xs ni eb m).1).length) c6, .int .i64 ((pipeGet xs ni eb m).2.1), .bool ((pipeGet xs ni eb m).2.2.1)]) hs32 10 rfl rfl rfl rfl rfl rfl rfl ag25 trivial (fun w27 (hs33 : SH w w27 [] [.blk b1 29 [.slice Axs xs.length cxs, .int .i64 ni, .bool eb], .own A2 (((pipeGet xs ni eb m).1).length) c2 3 1 (((pipeGet xs ni eb m).1).map I), .own Ag1 (((pipeGet xs ni eb m).2.2.2.1).length) cg1 3 1 (((pipeGet xs ni eb m).2.2.2.1).map I), .blk b2 25 [.slice A2 (((pipeGet xs ni eb m).1).length) c2, .int .i64 ((pipeGet xs ni eb m).2.1), .bool ((pipeGet xs ni eb m).2.2.1)], .blk b4 25 [.slice A4 (((pipeGet xs ni eb m).1).length) c4, .int .i64 ((pipeGet xs ni eb m).2.1), .bool ((pipeGet xs ni eb m).2.2.1)], .own A4 ((marks 1 ((pipeGet xs ni eb m).1).length).length) c4 3 1 ((marks 1 ((pipeGet xs ni eb m).1).length).map I), .own Ag2 ((marks (1 + ((((pipeGet xs ni eb m).1).length : Nat) : Int)) ((pipeGet xs ni eb m).2.2.2.1).length).length) cg2 3 1 ((marks (1 + ((((pipeGet xs ni eb m).1).length : Nat) : Int)) ((pipeGet xs ni eb m).2.2.2.1).length).map I), .own A5 xs.length c5 3 1 (xs.map I), .own A6 (((pipeGet xs ni eb m).1).length) c6 3 1 (((pipeGet xs ni eb m).1).map I), .own Ag3 (((pipeGet xs ni eb m).2.2.2.1).length) cg3 3 1 (((pipeGet xs ni eb m).2.2.2.1).map I), .blk b5 25 [.slice A6 (((pipeGet xs ni eb m).1).length) c6, .int .i64 ((pipeGet xs ni eb m).2.1), .bool ((pipeGet xs ni eb m).2.2.1)]]) => ?_)
    refine q trivial rfl rfl (asg (v := .slice Ag3 (((pipeGet xs ni eb m).2.2.2.1).length) cg3) rfl) ?_
    refine q trivial rfl rfl (asg (v := .bool ((pipeGet xs ni eb m).2.2.2.2)) rfl) ?_
    refine nl ?_
    refine nN ?_
    have hs34 : SH w w27 [] [.own A2 (((pipeGet xs ni eb m).1).length) c2 3 1 (((pipeGet xs ni eb m).1).map I), .own Ag1 (((pipeGet xs ni eb m).2.2.2.1).length) cg1 3 1 (((pipeGet xs ni eb m).2.2.2.1).map I), .blk b2 25 [.slice A2 (((pipeGet xs ni eb m).1).length) c2, .int .i64 ((pipeGet xs ni eb m).2.1), .bool ((pipeGet xs ni eb m).2.2.1)], .blk b4 25 [.slice A4 (((pipeGet xs ni eb m).1).length) c4, .int .i64 ((pipeGet xs ni eb m).2.1), .bool ((pipeGet xs ni eb m).2.2.1)], .own A4 ((marks 1 ((pipeGet xs ni eb m).1).length).length) c4 3 1 ((marks 1 ((pipeGet xs ni eb m).1).length).map I), .own Ag2 ((marks (1 + ((((pipeGet xs ni eb m).1).length : Nat) : Int)) ((pipeGet xs ni eb m).2.2.2.1).length).length) cg2 3 1 ((marks (1 + ((((pipeGet xs ni eb m).1).length : Nat) : Int)) ((pipeGet xs ni eb m).2.2.2.1).length).map I), .own A6 (((pipeGet xs ni eb m).1).length) c6 3 1 (((pipeGet xs ni eb m).1).map I), .own Ag3 (((pipeGet xs ni eb m).2.2.2.1).length) cg3 3 1 (((pipeGet xs ni eb m).2.2.2.1).map I), .blk b5 25 [.slice A6 (((pipeGet xs ni eb m).1).length) c6, .int .i64 ((pipeGet xs ni eb m).2.1), .bool ((pipeGet xs ni eb m).2.2.1)]] := hs33.pick [1, 2, 3, 4, 5, 6, 8, 9, 10] rfl (by decide)
    refine sq ?_
    refine sq ?_
    refine rg ?_
    refine q trivial rfl rfl (ldg (vs := [.slice A6 (((pipeGet xs ni eb m).1).length) c6, .int .i64 ((pipeGet xs ni eb m).2.1), .bool ((pipeGet xs ni eb m).2.2.1)]) hs34 8 rfl rfl rfl rfl ag25) ?_
    refine q trivial rfl rfl (ldg (vs := [.slice A2 (((pipeGet xs ni eb m).1).length) c2, .int .i64 ((pipeGet xs ni eb m).2.1), .bool ((pipeGet xs ni eb m).2.2.1)]) hs34 2 rfl rfl rfl rfl ag25) ?_
    refine cl trivial rfl (eqPipe (Axs := A6) (cxs := c6) (xs := (pipeGet xs ni eb m).1) (n1 := (pipeGet xs ni eb m).2.1) (e1 := ((pipeGet xs ni eb m).2.2.1)) (Ays := A2) (cys := c2) (ys := (pipeGet xs ni eb m).1) (n2 := (pipeGet xs ni eb m).2.1) (e2 := ((pipeGet xs ni eb m).2.2.1)) (w := _) (hxs := (hs34.sl0 6 rfl)) (hys := (hs34.sl0 0 rfl))) ?_
    rintro _ w28 ⟨rfl, hs35'⟩
    have hs35 : SH w w28 [] [.own A2 (((pipeGet xs ni eb m).1).length) c2 3 1 (((pipeGet xs ni eb m).1).map I), .own Ag1 (((pipeGet xs ni eb m).2.2.2.1).length) cg1 3 1 (((pipeGet xs ni eb m).2.2.2.1).map I), .blk b2 25 [.slice A2 (((pipeGet xs ni eb m).1).length) c2, .int .i64 ((pipeGet xs ni eb m).2.1), .bool ((pipeGet xs ni eb m).2.2.1)], .blk b4 25 [.slice A4 (((pipeGet xs ni eb m).1).length) c4, .int .i64 ((pipeGet xs ni eb m).2.1), .bool ((pipeGet xs ni eb m).2.2.1)], .own A4 ((marks 1 ((pipeGet xs ni eb m).1).length).length) c4 3 1 ((marks 1 ((pipeGet xs ni eb m).1).length).map I), .own Ag2 ((marks (1 + ((((pipeGet xs ni eb m).1).length : Nat) : Int)) ((pipeGet xs ni eb m).2.2.2.1).length).length) cg2 3 1 ((marks (1 + ((((pipeGet xs ni eb m).1).length : Nat) : Int)) ((pipeGet xs ni eb m).2.2.2.1).length).map I), .own A6 (((pipeGet xs ni eb m).1).length) c6 3 1 (((pipeGet xs ni eb m).1).map I), .own Ag3 (((pipeGet xs ni eb m).2.2.2.1).length) cg3 3 1 (((pipeGet xs ni eb m).2.2.2.1).map I), .blk b5 25 [.slice A6 (((pipeGet xs ni eb m).1).length) c6, .int .i64 ((pipeGet xs ni eb m).2.1), .bool ((pipeGet xs ni eb m).2.2.1)]] := hs34.call0 hs35'
    clear hs35'
    refine q trivial rfl rfl (nd (p := ((pipeGet xs ni eb m).1) = ((pipeGet xs ni eb m).1) ∧ ((pipeGet xs ni eb m).2.1) = ((pipeGet xs ni eb m).2.1) ∧ ((pipeGet xs ni eb m).2.2.1) = ((pipeGet xs ni eb m).2.2.1)) rfl) ?_
    refine q trivial rfl rfl (mv (v := .bool (decide (¬ (((pipeGet xs ni eb m).1) = ((pipeGet xs ni eb m).1) ∧ ((pipeGet xs ni eb m).2.1) = ((pipeGet xs ni eb m).2.1) ∧ ((pipeGet xs ni eb m).2.2.1) = ((pipeGet xs ni eb m).2.2.1))))) rfl) ?_
    refine spd (p := ¬ (((pipeGet xs ni eb m).1) = ((pipeGet xs ni eb m).1) ∧ ((pipeGet xs ni eb m).2.1) = ((pipeGet xs ni eb m).2.1) ∧ ((pipeGet xs ni eb m).2.2.1) = ((pipeGet xs ni eb m).2.2.1))) 114 rfl (fun h13 => absurd h13 (by exact fun h => h ⟨rfl, rfl, rfl⟩)) (fun h13 => ?_)
    refine q ⟨_, rfl, rfl⟩ rfl rfl (mv (v := .slice Ag3 (((pipeGet xs ni eb m).2.2.2.1).length) cg3) rfl) ?_
    refine q ⟨_, rfl, rfl⟩ rfl rfl (mv (v := .slice Ag1 (((pipeGet xs ni eb m).2.2.2.1).length) cg1) rfl) ?_
    refine cl ⟨_, rfl, rfl⟩ rfl (eqIntS (Axs := Ag3) (cxs := cg3) (xs := (pipeGet xs ni eb m).2.2.2.1) (Abs := Ag1) (cbs := cg1) (bs := (pipeGet xs ni eb m).2.2.2.1) (w := _) (hxs := (hs35.sl0 7 rfl)) (hbs := (hs35.sl0 1 rfl))) ?_
    rintro _ w29 ⟨rfl, hs36'⟩
    have hs36 : SH w w29 [] [.own A2 (((pipeGet xs ni eb m).1).length) c2 3 1 (((pipeGet xs ni eb m).1).map I), .own Ag1 (((pipeGet xs ni eb m).2.2.2.1).length) cg1 3 1 (((pipeGet xs ni eb m).2.2.2.1).map I), .blk b2 25 [.slice A2 (((pipeGet xs ni eb m).1).length) c2, .int .i64 ((pipeGet xs ni eb m).2.1), .bool ((pipeGet xs ni eb m).2.2.1)], .blk b4 25 [.slice A4 (((pipeGet xs ni eb m).1).length) c4, .int .i64 ((pipeGet xs ni eb m).2.1), .bool ((pipeGet xs ni eb m).2.2.1)], .own A4 ((marks 1 ((pipeGet xs ni eb m).1).length).length) c4 3 1 ((marks 1 ((pipeGet xs ni eb m).1).length).map I), .own Ag2 ((marks (1 + ((((pipeGet xs ni eb m).1).length : Nat) : Int)) ((pipeGet xs ni eb m).2.2.2.1).length).length) cg2 3 1 ((marks (1 + ((((pipeGet xs ni eb m).1).length : Nat) : Int)) ((pipeGet xs ni eb m).2.2.2.1).length).map I), .own A6 (((pipeGet xs ni eb m).1).length) c6 3 1 (((pipeGet xs ni eb m).1).map I), .own Ag3 (((pipeGet xs ni eb m).2.2.2.1).length) cg3 3 1 (((pipeGet xs ni eb m).2.2.2.1).map I), .blk b5 25 [.slice A6 (((pipeGet xs ni eb m).1).length) c6, .int .i64 ((pipeGet xs ni eb m).2.1), .bool ((pipeGet xs ni eb m).2.2.1)]] := hs35.call0 hs36'
    clear hs36'
    refine q ⟨_, rfl, rfl⟩ rfl rfl (nd (p := ((pipeGet xs ni eb m).2.2.2.1) = ((pipeGet xs ni eb m).2.2.2.1)) rfl) ?_
    refine q trivial rfl rfl (pf (v := .bool (decide (¬ (((pipeGet xs ni eb m).2.2.2.1) = ((pipeGet xs ni eb m).2.2.2.1))))) rfl rfl) ?_
    refine q trivial rfl rfl (mv (v := .bool (decide (¬ (((pipeGet xs ni eb m).2.2.2.1) = ((pipeGet xs ni eb m).2.2.2.1))))) rfl) ?_
    refine spd (p := ¬ (((pipeGet xs ni eb m).2.2.2.1) = ((pipeGet xs ni eb m).2.2.2.1))) 120 rfl (fun h14 => absurd h14 (by exact fun h => h rfl)) (fun h14 => ?_)
    refine q ⟨_, rfl, rfl⟩ rfl rfl (mv (v := .bool ((pipeGet xs ni eb m).2.2.2.2)) rfl) ?_
    refine q ⟨_, rfl, rfl⟩ rfl rfl (mv (v := .bool ((pipeGet xs ni eb m).2.2.2.2)) rfl) ?_
    refine q ⟨_, rfl, rfl⟩ rfl rfl (neb (a := ((pipeGet xs ni eb m).2.2.2.2)) (b := ((pipeGet xs ni eb m).2.2.2.2)) tb4 rfl rfl) ?_
    refine q trivial rfl rfl (pf (v := .bool (decide (((pipeGet xs ni eb m).2.2.2.2) ≠ ((pipeGet xs ni eb m).2.2.2.2)))) rfl rfl) ?_
    refine nl ?_
    refine nN ?_
    have hs37 : SH w w29 [] [.blk b4 25 [.slice A4 (((pipeGet xs ni eb m).1).length) c4, .int .i64 ((pipeGet xs ni eb m).2.1), .bool ((pipeGet xs ni eb m).2.2.1)], .own A4 ((marks 1 ((pipeGet xs ni eb m).1).length).length) c4 3 1 ((marks 1 ((pipeGet xs ni eb m).1).length).map I), .own Ag2 ((marks (1 + ((((pipeGet xs ni eb m).1).length : Nat) : Int)) ((pipeGet xs ni eb m).2.2.2.1).length).length) cg2 3 1 ((marks (1 + ((((pipeGet xs ni eb m).1).length : Nat) : Int)) ((pipeGet xs ni eb m).2.2.2.1).length).map I)] := hs36.pick [3, 4, 5] rfl (by decide)
    refine cdd (p := ((pipeGet xs ni eb m).2.2.2.2) ≠ ((pipeGet xs ni eb m).2.2.2.2)) rfl (fun h15 => absurd h15 (by exact fun h => h rfl)) (fun h15 => ?_)
    refine sk ?_
    refine nN ?_
    refine sq ?_
    refine rg ?_
    refine q trivial rfl rfl (asg (v := .int .i64 1) rfl) ?_
    refine nl ?_
    refine nN ?_
    refine sq ?_
    refine rg ?_
    refine q trivial rfl rfl (ldg (vs := [.slice A4 (((pipeGet xs ni eb m).1).length) c4, .int .i64 ((pipeGet xs ni eb m).2.1), .bool ((pipeGet xs ni eb m).2.2.1)]) hs37 0 rfl rfl rfl rfl ag25) ?_
    refine q trivial rfl rfl (mv (v := .int .i64 1) rfl) ?_
    refine cl trivial rfl (Does.castA (lc (aggv (lc (slv rfl e2.symm rfl) (lc rfl (lc rfl rfl)))) (lc rfl rfl)) (heldPipe (Axs := A4) (cxs := c4) (xs := marks 1 ((pipeGet xs ni eb m).1).length) (ni := (pipeGet xs ni eb m).2.1) (eb := ((pipeGet xs ni eb m).2.2.1)) (k0 := 1) (w := _) (hxs := (hs37.sl0 1 rfl)) (hxs_n := (by first | (first | omega | (simp; omega)) | (have hsz := szI_nn (by assumption); have hpl := pipeGet_len xs ni eb m; first | omega | (simp; omega)))) (hk0 := (by first | (first | omega | assumption | (simp; done) | (simp; omega)) | (have hsz := szI_nn (by assumption); have hpl := pipeGet_len xs ni eb m; first | omega | assumption | (simp; done) | (simp; omega)))))) ?_
    rintro _ w30 ⟨rfl, hs38'⟩
    have hs38 : SH w w30 [] [.blk b4 25 [.slice A4 (((pipeGet xs ni eb m).1).length) c4, .int .i64 ((pipeGet xs ni eb m).2.1), .bool ((pipeGet xs ni eb m).2.2.1)], .own A4 ((marks 1 ((pipeGet xs ni eb m).1).length).length) c4 3 1 ((marks 1 ((pipeGet xs ni eb m).1).length).map I), .own Ag2 ((marks (1 + ((((pipeGet xs ni eb m).1).length : Nat) : Int)) ((pipeGet xs ni eb m).2.2.2.1).length).length) cg2 3 1 ((marks (1 + ((((pipeGet xs ni eb m).1).length : Nat) : Int)) ((pipeGet xs ni eb m).2.2.2.1).length).map I)] := hs37.call0 hs38'
    clear hs38'
    refine q trivial rfl rfl (asg (v := .int .i64 (heldI (marks 1 ((pipeGet xs ni eb m).1).length) 1)) rfl) ?_
    have e6 : heldI (marks 1 ((pipeGet xs ni eb m).1).length) 1 = 1 + ((((pipeGet xs ni eb m).1).length : Nat) : Int) := by exact held_marks _ _
    refine re 15 (v := .int .i64 (1 + ((((pipeGet xs ni eb m).1).length : Nat) : Int))) (congrArg (Value.int .i64) e6) ?_
    refine nl ?_
    refine nN ?_
    refine sq ?_
    refine sq ?_
    refine rg ?_
    refine q trivial rfl rfl (mv (v := .int .i64 (1 + ((((pipeGet xs ni eb m).1).length : Nat) : Int))) rfl) ?_
    refine q trivial rfl rfl (lss (k := .i64) (a := 1 + ((((pipeGet xs ni eb m).1).length : Nat) : Int)) (b := 0) rfl rfl) ?_
    refine nl ?_
    refine nN ?_
    refine cdd (p := (1 + ((((pipeGet xs ni eb m).1).length : Nat) : Int)) < 0) rfl (fun h16 => absurd h16 (by omega)) (fun h16 => ?_)
    refine sk ?_
    refine nN ?_
    refine sq ?_
    refine rg ?_
    refine q trivial rfl rfl (mv (v := .slice Ag2 (((pipeGet xs ni eb m).2.2.2.1).length) cg2) rfl) ?_
    refine q trivial rfl rfl (mv (v := .int .i64 (1 + ((((pipeGet xs ni eb m).1).length : Nat) : Int))) rfl) ?_
    refine cl trivial rfl (Does.castA (lc (slv rfl e3.symm rfl) (lc rfl rfl)) (heldIntS (Axs := Ag2) (cxs := cg2) (xs := marks (1 + ((((pipeGet xs ni eb m).1).length : Nat) : Int)) ((pipeGet xs ni eb m).2.2.2.1).length) (k0 := 1 + ((((pipeGet xs ni eb m).1).length : Nat) : Int)) (w := _) (hxs := (hs38.sl0 2 rfl)) (hxs_n := (by first | (first | omega | (simp; omega)) | (have hsz := szI_nn (by assumption); have hpl := pipeGet_len xs ni eb m; first | omega | (simp; omega)))) (hk0 := (by first | (first | omega | assumption | (simp; done) | (simp; omega)) | (have hsz := szI_nn (by assumption); have hpl := pipeGet_len xs ni eb m; first | omega | assumption | (simp; done) | (simp; omega)))))) ?_
    rintro _ w31 ⟨rfl, hs39'⟩
    have hs39 : SH w w31 [] [.blk b4 25 [.slice A4 (((pipeGet xs ni eb m).1).length) c4, .int .i64 ((pipeGet xs ni eb m).2.1), .bool ((pipeGet xs ni eb m).2.2.1)], .own A4 ((marks 1 ((pipeGet xs ni eb m).1).length).length) c4 3 1 ((marks 1 ((pipeGet xs ni eb m).1).length).map I), .own Ag2 ((marks (1 + ((((pipeGet xs ni eb m).1).length : Nat) : Int)) ((pipeGet xs ni eb m).2.2.2.1).length).length) cg2 3 1 ((marks (1 + ((((pipeGet xs ni eb m).1).length : Nat) : Int)) ((pipeGet xs ni eb m).2.2.2.1).length).map I)] := hs38.call0 hs39'
    clear hs39'
    refine q trivial rfl rfl (asg (v := .int .i64 (heldI (marks (1 + ((((pipeGet xs ni eb m).1).length : Nat) : Int)) ((pipeGet xs ni eb m).2.2.2.1).length) (1 + ((((pipeGet xs ni eb m).1).length : Nat) : Int)))) rfl) ?_
    have e7 : heldI (marks (1 + ((((pipeGet xs ni eb m).1).length : Nat) : Int)) ((pipeGet xs ni eb m).2.2.2.1).length) (1 + ((((pipeGet xs ni eb m).1).length : Nat) : Int)) = (1 + ((((pipeGet xs ni eb m).1).length : Nat) : Int)) + ((((pipeGet xs ni eb m).2.2.2.1).length : Nat) : Int) := by exact held_marks _ _
    refine re 15 (v := .int .i64 ((1 + ((((pipeGet xs ni eb m).1).length : Nat) : Int)) + ((((pipeGet xs ni eb m).2.2.2.1).length : Nat) : Int))) (congrArg (Value.int .i64) e7) ?_
    refine nl ?_
    refine nN ?_
    refine sq ?_
    refine sq ?_
    refine rg ?_
    refine q trivial rfl rfl (mv (v := .int .i64 ((1 + ((((pipeGet xs ni eb m).1).length : Nat) : Int)) + ((((pipeGet xs ni eb m).2.2.2.1).length : Nat) : Int))) rfl) ?_
    refine q trivial rfl rfl (lss (k := .i64) (a := (1 + ((((pipeGet xs ni eb m).1).length : Nat) : Int)) + ((((pipeGet xs ni eb m).2.2.2.1).length : Nat) : Int)) (b := 0) rfl rfl) ?_
    refine nl ?_
    refine nN ?_
    refine cdd (p := ((1 + ((((pipeGet xs ni eb m).1).length : Nat) : Int)) + ((((pipeGet xs ni eb m).2.2.2.1).length : Nat) : Int)) < 0) rfl (fun h17 => absurd h17 (by omega)) (fun h17 => ?_)
    refine sk ?_
    refine nN ?_
    refine sq ?_
    refine sq ?_
    refine rg ?_
    refine q trivial rfl rfl (mv (v := .int .i64 ((1 + ((((pipeGet xs ni eb m).1).length : Nat) : Int)) + ((((pipeGet xs ni eb m).2.2.2.1).length : Nat) : Int))) rfl) ?_
    refine q trivial rfl rfl (mv (v := .int .i64 ((1 + ((((pipeGet xs ni eb m).1).length : Nat) : Int)) + ((((pipeGet xs ni eb m).2.2.2.1).length : Nat) : Int))) rfl) ?_
    refine q trivial rfl rfl (nei (k := .i64) (a := (1 + ((((pipeGet xs ni eb m).1).length : Nat) : Int)) + ((((pipeGet xs ni eb m).2.2.2.1).length : Nat) : Int)) (b := (1 + ((((pipeGet xs ni eb m).1).length : Nat) : Int)) + ((((pipeGet xs ni eb m).2.2.2.1).length : Nat) : Int)) rfl rfl) ?_
    refine nl ?_
    refine nN ?_
    refine cdd (p := ((1 + ((((pipeGet xs ni eb m).1).length : Nat) : Int)) + ((((pipeGet xs ni eb m).2.2.2.1).length : Nat) : Int)) ≠ ((1 + ((((pipeGet xs ni eb m).1).length : Nat) : Int)) + ((((pipeGet xs ni eb m).2.2.2.1).length : Nat) : Int))) rfl (fun h18 => absurd h18 (by exact fun h => h rfl)) (fun h18 => ?_)
    refine sk ?_
    refine nN ?_
    refine sq ?_
    refine rg ?_
    refine q trivial rfl rfl (asg (v := .bool true) rfl) ?_
    refine nl ?_
    refine nN ?_
    refine rt ?_
    refine fret (v := .bool true) (.tmp .nil) rfl ?_
    exact ⟨rfl, (hs39.pick [] rfl (by decide))⟩

end Go.Proofs.Ytgefaejgkcbkpaa
