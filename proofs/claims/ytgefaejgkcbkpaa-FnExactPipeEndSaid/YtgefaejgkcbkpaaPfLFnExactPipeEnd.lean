/-
  Part of the proofs over this seat: what each function of the program computes, function by function (the text is written by a program of this hand-in's own).
  Conditions: each theorem states its own.
-/
import Derived.Test.YtgefaejgkcbkpaaPfWalks2
namespace Go.Proofs.Ytgefaejgkcbkpaa
open Go.PF
set_option maxRecDepth 100000
set_option linter.unusedSimpArgs false
set_option linter.unusedVariables false

theorem lExactPipeEnd {Axs : Option Addr} {cxs : Nat} (xs : List Int) (ni : Int) (eb : Bool) (w : World) (hxs : Sl w [] 1 Axs xs.length cxs (xs.map I)) : Does Try.prog 8 [.agg #[.slice Axs xs.length cxs, .int .i64 ni, .bool eb]] w (fun v w' => v = .bool true ∧ SH w w' [] []) := by
  refine fn_enter (N := 96) Try.func8 rfl (by kernel_rfl) rfl rfl rfl ?_
  have hs0 : SH w w [] [] := SH.refl w []
  have hxs_m : xs.length ≤ 9223372036854775807 := Nat.le_trans hxs.cap hxs.capMax
  refine sq ?_
  refine rg ?_
  refine bx (v := .agg #[.slice Axs xs.length cxs, .int .i64 ni, .bool eb]) (cs := [.slice Axs xs.length cxs, .int .i64 ni, .bool eb]) hs0 rfl rfl trivial rfl (fun b1 w1 (hs1 : SH w w1 [] [.blk b1 29 [.slice Axs xs.length cxs, .int .i64 ni, .bool eb]]) => ?_)
  refine q trivial rfl rfl (asg (v := .bool false) rfl) ?_
  refine nl ?_
  refine nN ?_
  refine sq ?_
  refine rg ?_
  refine q trivial rfl rfl (asg (v := .int .i64 1048576) rfl) ?_
  refine nl ?_
  refine nN ?_
  refine sq ?_
  refine rg ?_
  refine q trivial rfl rfl (ldg (vs := [.slice Axs xs.length cxs, .int .i64 ni, .bool eb]) hs1 0 rfl rfl rfl rfl ag29) ?_
  refine q trivial rfl rfl (mv (v := .int .i64 1048576) rfl) ?_
  refine cl trivial rfl (szPipe (Axs := Axs) (cxs := cxs) (xs := xs) (ni := ni) (eb := eb) (z := 1048576) (w := _) (hxs := (hxs.up0 hs1)) (hz := (by first | (first | omega | assumption | (simp; done) | (simp; omega)) | (have hsz := szI_nn (by assumption); have hpl := pipeEnd_len xs ni; first | omega | assumption | (simp; done) | (simp; omega))))) ?_
  rintro _ w2 ⟨rfl, hs2'⟩
  have hs2 : SH w w2 [] [.blk b1 29 [.slice Axs xs.length cxs, .int .i64 ni, .bool eb]] := hs1.call0 hs2'
  clear hs2'
  refine q trivial rfl rfl (asg (v := .int .i64 (szI xs.length 1048576)) rfl) ?_
  refine nl ?_
  refine nN ?_
  refine sq ?_
  refine sq ?_
  refine rg ?_
  refine q trivial rfl rfl (mv (v := .int .i64 (szI xs.length 1048576)) rfl) ?_
  refine q trivial rfl rfl (lss (k := .i64) (a := szI xs.length 1048576) (b := 0) rfl rfl) ?_
  refine nl ?_
  refine nN ?_
  refine cdd (p := (szI xs.length 1048576) < 0) rfl (fun h1 => ?_) (fun h1 => ?_)
  · refine sq ?_
    refine rg ?_
    refine q trivial rfl rfl (asg (v := .bool true) rfl) ?_
    refine nl ?_
    refine nN ?_
    refine rt (tR ?_)
    refine fret (v := .bool true) (.tmp .nil) rfl ?_
    exact ⟨rfl, (hs2.pick [] rfl (by decide))⟩
  · refine sk ?_
    refine nN ?_
    refine sq ?_
    refine rg ?_
    refine q trivial rfl rfl (ldg (vs := [.slice Axs xs.length cxs, .int .i64 ni, .bool eb]) hs2 0 rfl rfl rfl rfl ag29) ?_
    refine cl trivial rfl (toPipe (Axs := Axs) (cxs := cxs) (xs := xs) (ni := ni) (eb := eb) (w := _) (hxs := (hxs.up0 hs2)) (hxs_n := (by first | (first | omega | (simp; omega)) | (have hsz := szI_nn (by assumption); have hpl := pipeEnd_len xs ni; first | omega | (simp; omega))))) ?_
    rintro _ w3 ⟨A1, c1, rfl, hs3'⟩
    have hs3 : SH w w3 [] [.blk b1 29 [.slice Axs xs.length cxs, .int .i64 ni, .bool eb], .own A1 xs.length c1 3 1 (xs.map I)] := hs2.call0 hs3'
    clear hs3'
    refine cl trivial rfl (sPipeEnd (Axs := A1) (cxs := c1) (xs := xs) (ni := ni) (eb := eb) (w := _) (hxs := (hs3.sl0 1 rfl))) ?_
    rintro _ w4 ⟨A2, c2, rfl, hs4'⟩
    have hs4 : SH w w4 [] [.blk b1 29 [.slice Axs xs.length cxs, .int .i64 ni, .bool eb], .own A1 xs.length c1 3 1 (xs.map I), .own A2 (((pipeEnd xs ni).1).length) c2 3 1 (((pipeEnd xs ni).1).map I)] := hs3.call0 hs4'
    clear hs4'
    refine q trivial rfl rfl (mv (v := .tuple #[.agg #[.slice A2 (((pipeEnd xs ni).1).length) c2, .int .i64 ((pipeEnd xs ni).2), .bool (pipeOk xs ni)], .bool (pipeOk xs ni)]) rfl) ?_
    refine q trivial rfl rfl (xt 0 (v := .agg #[.slice A2 (((pipeEnd xs ni).1).length) c2, .int .i64 ((pipeEnd xs ni).2), .bool (pipeOk xs ni)]) rfl rfl) ?_
    refine q trivial rfl rfl (xt 1 (v := .bool (pipeOk xs ni)) rfl rfl) ?_
    refine al (v := .agg #[.slice none 0 0, .int .i64 0, .bool false]) (cs := [.slice none 0 0, .int .i64 0, .bool false]) hs4 tz25 rfl trivial rfl (fun b2 w5 (hs5 : SH w w5 [] [.blk b1 29 [.slice Axs xs.length cxs, .int .i64 ni, .bool eb], .own A1 xs.length c1 3 1 (xs.map I), .own A2 (((pipeEnd xs ni).1).length) c2 3 1 (((pipeEnd xs ni).1).map I), .blk b2 25 [.slice none 0 0, .int .i64 0, .bool false]]) => ?_)
    refine stg (vs := [.slice A2 (((pipeEnd xs ni).1).length) c2, .int .i64 ((pipeEnd xs ni).2), .bool (pipeOk xs ni)]) hs5 3 rfl rfl rfl rfl rfl rfl rfl ag25 trivial (fun w6 (hs6 : SH w w6 [] [.blk b1 29 [.slice Axs xs.length cxs, .int .i64 ni, .bool eb], .own A1 xs.length c1 3 1 (xs.map I), .own A2 (((pipeEnd xs ni).1).length) c2 3 1 (((pipeEnd xs ni).1).map I), .blk b2 25 [.slice A2 (((pipeEnd xs ni).1).length) c2, .int .i64 ((pipeEnd xs ni).2), .bool (pipeOk xs ni)]]) => ?_)
    refine q trivial rfl rfl (asg (v := .bool (pipeOk xs ni)) rfl) ?_
    refine nl ?_
    refine nN ?_
    refine sq ?_
    refine rg ?_
    refine q trivial rfl rfl (ldg (vs := [.slice Axs xs.length cxs, .int .i64 ni, .bool eb]) hs6 0 rfl rfl rfl rfl ag29) ?_
    refine cl trivial rfl (toPipe (Axs := Axs) (cxs := cxs) (xs := xs) (ni := ni) (eb := eb) (w := _) (hxs := (hxs.up0 hs6)) (hxs_n := (by first | (first | omega | (simp; omega)) | (have hsz := szI_nn (by assumption); have hpl := pipeEnd_len xs ni; first | omega | (simp; omega))))) ?_
    rintro _ w7 ⟨A3, c3, rfl, hs7'⟩
    have hs7 : SH w w7 [] [.blk b1 29 [.slice Axs xs.length cxs, .int .i64 ni, .bool eb], .own A1 xs.length c1 3 1 (xs.map I), .own A2 (((pipeEnd xs ni).1).length) c2 3 1 (((pipeEnd xs ni).1).map I), .blk b2 25 [.slice A2 (((pipeEnd xs ni).1).length) c2, .int .i64 ((pipeEnd xs ni).2), .bool (pipeOk xs ni)], .own A3 xs.length c3 3 1 (xs.map I)] := hs6.call0 hs7'
    clear hs7'
    refine al (v := .agg #[.slice none 0 0, .int .i64 0, .bool false]) (cs := [.slice none 0 0, .int .i64 0, .bool false]) hs7 tz25 rfl trivial rfl (fun b3 w8 (hs8 : SH w w8 [] [.blk b1 29 [.slice Axs xs.length cxs, .int .i64 ni, .bool eb], .own A1 xs.length c1 3 1 (xs.map I), .own A2 (((pipeEnd xs ni).1).length) c2 3 1 (((pipeEnd xs ni).1).map I), .blk b2 25 [.slice A2 (((pipeEnd xs ni).1).length) c2, .int .i64 ((pipeEnd xs ni).2), .bool (pipeOk xs ni)], .own A3 xs.length c3 3 1 (xs.map I), .blk b3 25 [.slice none 0 0, .int .i64 0, .bool false]]) => ?_)
    refine stg (vs := [.slice A3 xs.length c3, .int .i64 ni, .bool eb]) hs8 5 rfl rfl rfl rfl rfl rfl rfl ag25 trivial (fun w9 (hs9 : SH w w9 [] [.blk b1 29 [.slice Axs xs.length cxs, .int .i64 ni, .bool eb], .own A1 xs.length c1 3 1 (xs.map I), .own A2 (((pipeEnd xs ni).1).length) c2 3 1 (((pipeEnd xs ni).1).map I), .blk b2 25 [.slice A2 (((pipeEnd xs ni).1).length) c2, .int .i64 ((pipeEnd xs ni).2), .bool (pipeOk xs ni)], .own A3 xs.length c3 3 1 (xs.map I), .blk b3 25 [.slice A3 xs.length c3, .int .i64 ni, .bool eb]]) => ?_)
    refine nl ?_
    refine nN ?_
    refine sq ?_
    refine rg ?_
    refine q trivial rfl rfl (ldg (vs := [.slice A3 xs.length c3, .int .i64 ni, .bool eb]) hs9 5 rfl rfl rfl rfl ag25) ?_
    refine cl trivial rfl (iPipeEnd (Axs := A3) (cxs := c3) (xs := xs) (ni := ni) (eb := eb) (w := _) (hxs := (hs9.sl0 4 rfl))) ?_
    rintro _ w10 ⟨A4, c4, rfl, hs10'⟩
    have hs10 : SH w w10 [] [.blk b1 29 [.slice Axs xs.length cxs, .int .i64 ni, .bool eb], .own A1 xs.length c1 3 1 (xs.map I), .own A2 (((pipeEnd xs ni).1).length) c2 3 1 (((pipeEnd xs ni).1).map I), .blk b2 25 [.slice A2 (((pipeEnd xs ni).1).length) c2, .int .i64 ((pipeEnd xs ni).2), .bool (pipeOk xs ni)], .own A3 xs.length c3 3 1 (xs.map I), .blk b3 25 [.slice A3 xs.length c3, .int .i64 ni, .bool eb], .own A4 (((pipeEnd xs ni).1).length) c4 3 1 (((pipeEnd xs ni).1).map I)] := hs9.call0 hs10'
    clear hs10'
    refine q trivial rfl rfl (mv (v := .tuple #[.agg #[.slice A4 (((pipeEnd xs ni).1).length) c4, .int .i64 ((pipeEnd xs ni).2), .bool (pipeOk xs ni)], .bool (pipeOk xs ni)]) rfl) ?_
    refine q trivial rfl rfl (xt 0 (v := .agg #[.slice A4 (((pipeEnd xs ni).1).length) c4, .int .i64 ((pipeEnd xs ni).2), .bool (pipeOk xs ni)]) rfl rfl) ?_
    refine q trivial rfl rfl (xt 1 (v := .bool (pipeOk xs ni)) rfl rfl) ?_
    refine al (v := .agg #[.slice none 0 0, .int .i64 0, .bool false]) (cs := [.slice none 0 0, .int .i64 0, .bool false]) hs10 tz25 rfl trivial rfl (fun b4 w11 (hs11 : SH w w11 [] [.blk b1 29 [.slice Axs xs.length cxs, .int .i64 ni, .bool eb], .own A1 xs.length c1 3 1 (xs.map I), .own A2 (((pipeEnd xs ni).1).length) c2 3 1 (((pipeEnd xs ni).1).map I), .blk b2 25 [.slice A2 (((pipeEnd xs ni).1).length) c2, .int .i64 ((pipeEnd xs ni).2), .bool (pipeOk xs ni)], .own A3 xs.length c3 3 1 (xs.map I), .blk b3 25 [.slice A3 xs.length c3, .int .i64 ni, .bool eb], .own A4 (((pipeEnd xs ni).1).length) c4 3 1 (((pipeEnd xs ni).1).map I), .blk b4 25 [.slice none 0 0, .int .i64 0, .bool false]]) => ?_)
    refine stg (vs := [.slice A4 (((pipeEnd xs ni).1).length) c4, .int .i64 ((pipeEnd xs ni).2), .bool (pipeOk xs ni)]) hs11 7 rfl rfl rfl rfl rfl rfl rfl ag25 trivial (fun w12 (hs12 : SH w w12 [] [.blk b1 29 [.slice Axs xs.length cxs, .int .i64 ni, .bool eb], .own A1 xs.length c1 3 1 (xs.map I), .own A2 (((pipeEnd xs ni).1).length) c2 3 1 (((pipeEnd xs ni).1).map I), .blk b2 25 [.slice A2 (((pipeEnd xs ni).1).length) c2, .int .i64 ((pipeEnd xs ni).2), .bool (pipeOk xs ni)], .own A3 xs.length c3 3 1 (xs.map I), .blk b3 25 [.slice A3 xs.length c3, .int .i64 ni, .bool eb], .own A4 (((pipeEnd xs ni).1).length) c4 3 1 (((pipeEnd xs ni).1).map I), .blk b4 25 [.slice A4 (((pipeEnd xs ni).1).length) c4, .int .i64 ((pipeEnd xs ni).2), .bool (pipeOk xs ni)]]) => ?_)
    refine q trivial rfl rfl (asg (v := .bool (pipeOk xs ni)) rfl) ?_
    refine nl ?_
    refine nN ?_
    refine sq ?_
    refine sq ?_
    refine rg ?_
    refine q trivial rfl rfl (ldg (vs := [.slice A4 (((pipeEnd xs ni).1).length) c4, .int .i64 ((pipeEnd xs ni).2), .bool (pipeOk xs ni)]) hs12 7 rfl rfl rfl rfl ag25) ?_
    refine q trivial rfl rfl (ldg (vs := [.slice A2 (((pipeEnd xs ni).1).length) c2, .int .i64 ((pipeEnd xs ni).2), .bool (pipeOk xs ni)]) hs12 3 rfl rfl rfl rfl ag25) ?_
    refine cl trivial rfl (eqPipe (Axs := A4) (cxs := c4) (xs := (pipeEnd xs ni).1) (n1 := (pipeEnd xs ni).2) (e1 := (pipeOk xs ni)) (Ays := A2) (cys := c2) (ys := (pipeEnd xs ni).1) (n2 := (pipeEnd xs ni).2) (e2 := (pipeOk xs ni)) (w := _) (hxs := (hs12.sl0 6 rfl)) (hys := (hs12.sl0 2 rfl))) ?_
    rintro _ w13 ⟨rfl, hs13'⟩
    have hs13 : SH w w13 [] [.blk b1 29 [.slice Axs xs.length cxs, .int .i64 ni, .bool eb], .own A1 xs.length c1 3 1 (xs.map I), .own A2 (((pipeEnd xs ni).1).length) c2 3 1 (((pipeEnd xs ni).1).map I), .blk b2 25 [.slice A2 (((pipeEnd xs ni).1).length) c2, .int .i64 ((pipeEnd xs ni).2), .bool (pipeOk xs ni)], .own A3 xs.length c3 3 1 (xs.map I), .blk b3 25 [.slice A3 xs.length c3, .int .i64 ni, .bool eb], .own A4 (((pipeEnd xs ni).1).length) c4 3 1 (((pipeEnd xs ni).1).map I), .blk b4 25 [.slice A4 (((pipeEnd xs ni).1).length) c4, .int .i64 ((pipeEnd xs ni).2), .bool (pipeOk xs ni)]] := hs12.call0 hs13'
    clear hs13'
    refine q trivial rfl rfl (nd (p := ((pipeEnd xs ni).1) = ((pipeEnd xs ni).1) ∧ ((pipeEnd xs ni).2) = ((pipeEnd xs ni).2) ∧ (pipeOk xs ni) = (pipeOk xs ni)) rfl) ?_
    refine q trivial rfl rfl (mv (v := .bool (decide (¬ (((pipeEnd xs ni).1) = ((pipeEnd xs ni).1) ∧ ((pipeEnd xs ni).2) = ((pipeEnd xs ni).2) ∧ (pipeOk xs ni) = (pipeOk xs ni))))) rfl) ?_
    refine spd (p := ¬ (((pipeEnd xs ni).1) = ((pipeEnd xs ni).1) ∧ ((pipeEnd xs ni).2) = ((pipeEnd xs ni).2) ∧ (pipeOk xs ni) = (pipeOk xs ni))) 36 rfl (fun h2 => absurd h2 (by exact fun h => h ⟨rfl, rfl, rfl⟩)) (fun h2 => ?_)
    refine q ⟨_, rfl, rfl⟩ rfl rfl (mv (v := .bool (pipeOk xs ni)) rfl) ?_
    refine q ⟨_, rfl, rfl⟩ rfl rfl (mv (v := .bool (pipeOk xs ni)) rfl) ?_
    refine q ⟨_, rfl, rfl⟩ rfl rfl (neb (a := (pipeOk xs ni)) (b := (pipeOk xs ni)) tb4 rfl rfl) ?_
    refine q trivial rfl rfl (pf (v := .bool (decide ((pipeOk xs ni) ≠ (pipeOk xs ni)))) rfl rfl) ?_
    refine nl ?_
    refine nN ?_
    refine cdd (p := (pipeOk xs ni) ≠ (pipeOk xs ni)) rfl (fun h3 => absurd h3 (by exact fun h => h rfl)) (fun h3 => ?_)
    refine sk ?_
    refine nN ?_
    refine sq ?_
    refine sq ?_
    refine ra (fun w' => ∃ L, SH w w' [] L ∧ (.blk b1 29 [.slice Axs xs.length cxs, .int .i64 ni, .bool eb]) ∈ L ∧ (.blk b2 25 [.slice A2 (((pipeEnd xs ni).1).length) c2, .int .i64 ((pipeEnd xs ni).2), .bool (pipeOk xs ni)]) ∈ L ∧ (.blk b3 25 [.slice A3 xs.length c3, .int .i64 ni, .bool eb]) ∈ L ∧ (.blk b4 25 [.slice A4 (((pipeEnd xs ni).1).length) c4, .int .i64 ((pipeEnd xs ni).2), .bool (pipeOk xs ni)]) ∈ L ∧ True) mixed ?_
    have hs14 := hs13.drew
    refine tk (fuel := 3) (is := [0, 1]) (.cons rfl (.cons rfl (.nil))) (by kernel_rfl) (by kernel_rfl) ⟨_, hs14, memi 0 rfl, memi 3 rfl, memi 5 rfl, memi 7 rfl, trivial⟩ ?_
    refine .op trivial rfl rfl (fun wq ⟨Lq, hsq, mh0, mh1, mh2, mh3, _⟩ => ldgm (vs := [.slice A3 xs.length c3, .int .i64 ni, .bool eb]) hsq mh2 rfl rfl rfl ag25) ?_
    refine .op trivial rfl rfl (fun wq ⟨Lq, hsq, mh0, mh1, mh2, mh3, _⟩ => ldgm (vs := [.slice Axs xs.length cxs, .int .i64 ni, .bool eb]) hsq mh0 rfl rfl rfl ag29) ?_
    refine .nil ?_
    refine a1 (i := 2) (by kernel_rfl) ?_
    refine one_ rfl ?_
    refine cl trivial rfl (toPipe (Axs := Axs) (cxs := cxs) (xs := xs) (ni := ni) (eb := eb) (w := _) (hxs := (hxs.up0 hs14)) (hxs_n := (by first | (first | omega | (simp; omega)) | (have hsz := szI_nn (by assumption); have hpl := pipeEnd_len xs ni; first | omega | (simp; omega))))) ?_
    rintro _ w14 ⟨A_10_2, c_10_2, rfl, hs15'⟩
    have hs15 : SH w w14 [] [.blk b1 29 [.slice Axs xs.length cxs, .int .i64 ni, .bool eb], .own A1 xs.length c1 3 1 (xs.map I), .own A2 (((pipeEnd xs ni).1).length) c2 3 1 (((pipeEnd xs ni).1).map I), .blk b2 25 [.slice A2 (((pipeEnd xs ni).1).length) c2, .int .i64 ((pipeEnd xs ni).2), .bool (pipeOk xs ni)], .own A3 xs.length c3 3 1 (xs.map I), .blk b3 25 [.slice A3 xs.length c3, .int .i64 ni, .bool eb], .own A4 (((pipeEnd xs ni).1).length) c4 3 1 (((pipeEnd xs ni).1).map I), .blk b4 25 [.slice A4 (((pipeEnd xs ni).1).length) c4, .int .i64 ((pipeEnd xs ni).2), .bool (pipeOk xs ni)], .own A_10_2 xs.length c_10_2 3 1 (xs.map I)] := hs14.call0 hs15'
    clear hs15'
    refine nl (kq ⟨_, hs15, memi 0 rfl, memi 3 rfl, memi 5 rfl, memi 7 rfl, trivial⟩ ?_)
    refine a1 (i := 3) (by kernel_rfl) ?_
    refine one_ rfl ?_
    refine cl trivial rfl (eqPipe (Axs := A3) (cxs := c3) (xs := xs) (n1 := ni) (e1 := eb) (Ays := A_10_2) (cys := c_10_2) (ys := xs) (n2 := ni) (e2 := eb) (w := _) (hxs := (hs15.sl0 4 rfl)) (hys := (hs15.sl0 8 rfl))) ?_
    rintro _ w15 ⟨rfl, hs16'⟩
    have hs16 : SH w w15 [] [.blk b1 29 [.slice Axs xs.length cxs, .int .i64 ni, .bool eb], .own A1 xs.length c1 3 1 (xs.map I), .own A2 (((pipeEnd xs ni).1).length) c2 3 1 (((pipeEnd xs ni).1).map I), .blk b2 25 [.slice A2 (((pipeEnd xs ni).1).length) c2, .int .i64 ((pipeEnd xs ni).2), .bool (pipeOk xs ni)], .own A3 xs.length c3 3 1 (xs.map I), .blk b3 25 [.slice A3 xs.length c3, .int .i64 ni, .bool eb], .own A4 (((pipeEnd xs ni).1).length) c4 3 1 (((pipeEnd xs ni).1).map I), .blk b4 25 [.slice A4 (((pipeEnd xs ni).1).length) c4, .int .i64 ((pipeEnd xs ni).2), .bool (pipeOk xs ni)], .own A_10_2 xs.length c_10_2 3 1 (xs.map I)] := hs15.call0 hs16'
    clear hs16'
    refine nl (kq ⟨_, hs16, memi 0 rfl, memi 3 rfl, memi 5 rfl, memi 7 rfl, trivial⟩ ?_)
    refine tk (fuel := 0) (is := [4]) (.cons rfl (.nil)) (by kernel_rfl) (by kernel_rfl) ⟨_, hs16, memi 0 rfl, memi 3 rfl, memi 5 rfl, memi 7 rfl, trivial⟩ ?_
    refine .op trivial rfl rfl (fun wq _ => nd (p := xs = xs ∧ ni = ni ∧ eb = eb) rfl) ?_
    refine .nil ?_
    refine ad (by kernel_rfl) ?_
    refine nN ?_
    have hs17 : SH w w15 [] [.blk b1 29 [.slice Axs xs.length cxs, .int .i64 ni, .bool eb], .own A2 (((pipeEnd xs ni).1).length) c2 3 1 (((pipeEnd xs ni).1).map I), .blk b2 25 [.slice A2 (((pipeEnd xs ni).1).length) c2, .int .i64 ((pipeEnd xs ni).2), .bool (pipeOk xs ni)], .own A3 xs.length c3 3 1 (xs.map I), .blk b3 25 [.slice A3 xs.length c3, .int .i64 ni, .bool eb], .own A4 (((pipeEnd xs ni).1).length) c4 3 1 (((pipeEnd xs ni).1).map I), .blk b4 25 [.slice A4 (((pipeEnd xs ni).1).length) c4, .int .i64 ((pipeEnd xs ni).2), .bool (pipeOk xs ni)]] := hs16.pick [0, 2, 3, 4, 5, 6, 7] rfl (by decide)
    refine cdd (p := ¬ (xs = xs ∧ ni = ni ∧ eb = eb)) rfl (fun h4 => absurd h4 (by exact fun h => h ⟨rfl, rfl, rfl⟩)) (fun h4 => ?_)
    refine sk ?_
    refine nN ?_
    refine sq ?_
    refine rg ?_
    refine q trivial rfl rfl (asg (v := .int .i64 1) rfl) ?_
    refine nl ?_
    refine nN ?_
    refine sq ?_
    refine rg ?_
    refine q trivial rfl rfl (ldg (vs := [.slice A3 xs.length c3, .int .i64 ni, .bool eb]) hs17 4 rfl rfl rfl rfl ag25) ?_
    refine q trivial rfl rfl (mv (v := .int .i64 1) rfl) ?_
    refine cl trivial rfl (markPipe (Axs := A3) (cxs := c3) (xs := xs) (ni := ni) (eb := eb) (k0 := 1) (w := _) (hxs := (own_ok hs17 3 rfl)) (hxs_n := (by first | (first | omega | (simp; omega)) | (have hsz := szI_nn (by assumption); have hpl := pipeEnd_len xs ni; first | omega | (simp; omega)))) (hk0 := (by first | (first | omega | assumption | (simp; done) | (simp; omega)) | (have hsz := szI_nn (by assumption); have hpl := pipeEnd_len xs ni; first | omega | assumption | (simp; done) | (simp; omega))))) ?_
    rintro _ w16 ⟨rfl, hs18'⟩
    have hs18 : SH w w16 [] [.blk b1 29 [.slice Axs xs.length cxs, .int .i64 ni, .bool eb], .own A2 (((pipeEnd xs ni).1).length) c2 3 1 (((pipeEnd xs ni).1).map I), .blk b2 25 [.slice A2 (((pipeEnd xs ni).1).length) c2, .int .i64 ((pipeEnd xs ni).2), .bool (pipeOk xs ni)], .blk b3 25 [.slice A3 xs.length c3, .int .i64 ni, .bool eb], .own A4 (((pipeEnd xs ni).1).length) c4 3 1 (((pipeEnd xs ni).1).map I), .blk b4 25 [.slice A4 (((pipeEnd xs ni).1).length) c4, .int .i64 ((pipeEnd xs ni).2), .bool (pipeOk xs ni)], .own A3 xs.length c3 3 1 ((marks 1 xs.length).map I)] := SH.callK (K := [.own A3 xs.length c3 3 1 (xs.map I)]) (R := [.blk b1 29 [.slice Axs xs.length cxs, .int .i64 ni, .bool eb], .own A2 (((pipeEnd xs ni).1).length) c2 3 1 (((pipeEnd xs ni).1).map I), .blk b2 25 [.slice A2 (((pipeEnd xs ni).1).length) c2, .int .i64 ((pipeEnd xs ni).2), .bool (pipeOk xs ni)], .blk b3 25 [.slice A3 xs.length c3, .int .i64 ni, .bool eb], .own A4 (((pipeEnd xs ni).1).length) c4 3 1 (((pipeEnd xs ni).1).map I), .blk b4 25 [.slice A4 (((pipeEnd xs ni).1).length) c4, .int .i64 ((pipeEnd xs ni).2), .bool (pipeOk xs ni)]]) (hs17.pick [3, 0, 1, 2, 4, 5, 6] rfl (by decide)) hs18' rfl
    clear hs18'
    have e1 : xs.length = (marks 1 xs.length).length := by first | rfl | (simp; done) | (simp; omega)
    have hs19 : SH w w16 [] [.blk b1 29 [.slice Axs xs.length cxs, .int .i64 ni, .bool eb], .own A2 (((pipeEnd xs ni).1).length) c2 3 1 (((pipeEnd xs ni).1).map I), .blk b2 25 [.slice A2 (((pipeEnd xs ni).1).length) c2, .int .i64 ((pipeEnd xs ni).2), .bool (pipeOk xs ni)], .blk b3 25 [.slice A3 xs.length c3, .int .i64 ni, .bool eb], .own A4 (((pipeEnd xs ni).1).length) c4 3 1 (((pipeEnd xs ni).1).map I), .blk b4 25 [.slice A4 (((pipeEnd xs ni).1).length) c4, .int .i64 ((pipeEnd xs ni).2), .bool (pipeOk xs ni)], .own A3 ((marks 1 xs.length).length) c3 3 1 ((marks 1 xs.length).map I)] := (hs18.cast (lc rfl (lc rfl (lc rfl (lc rfl (lc rfl (lc rfl (lc (own_eq (g := I) rfl e1 rfl rfl) rfl))))))))
    clear hs18
    refine q trivial rfl rfl (asg (v := .int .i64 (1 + ((xs.length : Nat) : Int))) rfl) ?_
    refine nl ?_
    refine nN ?_
    have hs20 : SH w w16 [] [.blk b1 29 [.slice Axs xs.length cxs, .int .i64 ni, .bool eb], .own A2 (((pipeEnd xs ni).1).length) c2 3 1 (((pipeEnd xs ni).1).map I), .blk b2 25 [.slice A2 (((pipeEnd xs ni).1).length) c2, .int .i64 ((pipeEnd xs ni).2), .bool (pipeOk xs ni)], .own A4 (((pipeEnd xs ni).1).length) c4 3 1 (((pipeEnd xs ni).1).map I), .blk b4 25 [.slice A4 (((pipeEnd xs ni).1).length) c4, .int .i64 ((pipeEnd xs ni).2), .bool (pipeOk xs ni)]] := hs19.pick [0, 1, 2, 4, 5] rfl (by decide)
    refine sq ?_
    refine sq ?_
    refine rg ?_
    refine q trivial rfl rfl (mv (v := .int .i64 (1 + ((xs.length : Nat) : Int))) rfl) ?_
    refine q trivial rfl rfl (lss (k := .i64) (a := 1 + ((xs.length : Nat) : Int)) (b := 0) rfl rfl) ?_
    refine q trivial rfl rfl (mv (v := .bool (decide ((1 + ((xs.length : Nat) : Int)) < 0))) rfl) ?_
    refine spd (p := (1 + ((xs.length : Nat) : Int)) < 0) 51 rfl (fun h5 => absurd h5 (by omega)) (fun h5 => ?_)
    refine q ⟨_, rfl, rfl⟩ rfl rfl (ldg (vs := [.slice A4 (((pipeEnd xs ni).1).length) c4, .int .i64 ((pipeEnd xs ni).2), .bool (pipeOk xs ni)]) hs20 4 rfl rfl rfl rfl ag25) ?_
    refine q ⟨_, rfl, rfl⟩ rfl rfl (ldg (vs := [.slice A2 (((pipeEnd xs ni).1).length) c2, .int .i64 ((pipeEnd xs ni).2), .bool (pipeOk xs ni)]) hs20 2 rfl rfl rfl rfl ag25) ?_
    refine cl ⟨_, rfl, rfl⟩ rfl (eqPipe (Axs := A4) (cxs := c4) (xs := (pipeEnd xs ni).1) (n1 := (pipeEnd xs ni).2) (e1 := (pipeOk xs ni)) (Ays := A2) (cys := c2) (ys := (pipeEnd xs ni).1) (n2 := (pipeEnd xs ni).2) (e2 := (pipeOk xs ni)) (w := _) (hxs := (hs20.sl0 3 rfl)) (hys := (hs20.sl0 1 rfl))) ?_
    rintro _ w17 ⟨rfl, hs21'⟩
    have hs21 : SH w w17 [] [.blk b1 29 [.slice Axs xs.length cxs, .int .i64 ni, .bool eb], .own A2 (((pipeEnd xs ni).1).length) c2 3 1 (((pipeEnd xs ni).1).map I), .blk b2 25 [.slice A2 (((pipeEnd xs ni).1).length) c2, .int .i64 ((pipeEnd xs ni).2), .bool (pipeOk xs ni)], .own A4 (((pipeEnd xs ni).1).length) c4 3 1 (((pipeEnd xs ni).1).map I), .blk b4 25 [.slice A4 (((pipeEnd xs ni).1).length) c4, .int .i64 ((pipeEnd xs ni).2), .bool (pipeOk xs ni)]] := hs20.call0 hs21'
    clear hs21'
    refine q ⟨_, rfl, rfl⟩ rfl rfl (nd (p := ((pipeEnd xs ni).1) = ((pipeEnd xs ni).1) ∧ ((pipeEnd xs ni).2) = ((pipeEnd xs ni).2) ∧ (pipeOk xs ni) = (pipeOk xs ni)) rfl) ?_
    refine q trivial rfl rfl (pf (v := .bool (decide (¬ (((pipeEnd xs ni).1) = ((pipeEnd xs ni).1) ∧ ((pipeEnd xs ni).2) = ((pipeEnd xs ni).2) ∧ (pipeOk xs ni) = (pipeOk xs ni))))) rfl rfl) ?_
    refine q trivial rfl rfl (mv (v := .bool (decide (¬ (((pipeEnd xs ni).1) = ((pipeEnd xs ni).1) ∧ ((pipeEnd xs ni).2) = ((pipeEnd xs ni).2) ∧ (pipeOk xs ni) = (pipeOk xs ni))))) rfl) ?_
    refine spd (p := ¬ (((pipeEnd xs ni).1) = ((pipeEnd xs ni).1) ∧ ((pipeEnd xs ni).2) = ((pipeEnd xs ni).2) ∧ (pipeOk xs ni) = (pipeOk xs ni))) 57 rfl (fun h6 => absurd h6 (by exact fun h => h ⟨rfl, rfl, rfl⟩)) (fun h6 => ?_)
    refine q ⟨_, rfl, rfl⟩ rfl rfl (mv (v := .bool (pipeOk xs ni)) rfl) ?_
    refine q ⟨_, rfl, rfl⟩ rfl rfl (mv (v := .bool (pipeOk xs ni)) rfl) ?_
    refine q ⟨_, rfl, rfl⟩ rfl rfl (neb (a := (pipeOk xs ni)) (b := (pipeOk xs ni)) tb4 rfl rfl) ?_
    refine q trivial rfl rfl (pf (v := .bool (decide ((pipeOk xs ni) ≠ (pipeOk xs ni)))) rfl rfl) ?_
    refine nl ?_
    refine nN ?_
    refine cdd (p := (pipeOk xs ni) ≠ (pipeOk xs ni)) rfl (fun h7 => absurd h7 (by exact fun h => h rfl)) (fun h7 => ?_)
    refine sk ?_
    refine nN ?_
    refine sq ?_
    refine rg ?_
    refine q trivial rfl rfl (asg (v := .int .i64 1) rfl) ?_
    refine nl ?_
    refine nN ?_
    refine sq ?_
    refine rg ?_
    refine q trivial rfl rfl (ldg (vs := [.slice A4 (((pipeEnd xs ni).1).length) c4, .int .i64 ((pipeEnd xs ni).2), .bool (pipeOk xs ni)]) hs21 4 rfl rfl rfl rfl ag25) ?_
    refine q trivial rfl rfl (mv (v := .int .i64 1) rfl) ?_
    refine cl trivial rfl (markPipe (Axs := A4) (cxs := c4) (xs := (pipeEnd xs ni).1) (ni := (pipeEnd xs ni).2) (eb := (pipeOk xs ni)) (k0 := 1) (w := _) (hxs := (own_ok hs21 3 rfl)) (hxs_n := (by first | (first | omega | (simp; omega)) | (have hsz := szI_nn (by assumption); have hpl := pipeEnd_len xs ni; first | omega | (simp; omega)))) (hk0 := (by first | (first | omega | assumption | (simp; done) | (simp; omega)) | (have hsz := szI_nn (by assumption); have hpl := pipeEnd_len xs ni; first | omega | assumption | (simp; done) | (simp; omega))))) ?_
    rintro _ w18 ⟨rfl, hs22'⟩
    have hs22 : SH w w18 [] [.blk b1 29 [.slice Axs xs.length cxs, .int .i64 ni, .bool eb], .own A2 (((pipeEnd xs ni).1).length) c2 3 1 (((pipeEnd xs ni).1).map I), .blk b2 25 [.slice A2 (((pipeEnd xs ni).1).length) c2, .int .i64 ((pipeEnd xs ni).2), .bool (pipeOk xs ni)], .blk b4 25 [.slice A4 (((pipeEnd xs ni).1).length) c4, .int .i64 ((pipeEnd xs ni).2), .bool (pipeOk xs ni)], .own A4 (((pipeEnd xs ni).1).length) c4 3 1 ((marks 1 ((pipeEnd xs ni).1).length).map I)] := SH.callK (K := [.own A4 (((pipeEnd xs ni).1).length) c4 3 1 (((pipeEnd xs ni).1).map I)]) (R := [.blk b1 29 [.slice Axs xs.length cxs, .int .i64 ni, .bool eb], .own A2 (((pipeEnd xs ni).1).length) c2 3 1 (((pipeEnd xs ni).1).map I), .blk b2 25 [.slice A2 (((pipeEnd xs ni).1).length) c2, .int .i64 ((pipeEnd xs ni).2), .bool (pipeOk xs ni)], .blk b4 25 [.slice A4 (((pipeEnd xs ni).1).length) c4, .int .i64 ((pipeEnd xs ni).2), .bool (pipeOk xs ni)]]) (hs21.pick [3, 0, 1, 2, 4] rfl (by decide)) hs22' rfl
    clear hs22'
    have e2 : ((pipeEnd xs ni).1).length = (marks 1 ((pipeEnd xs ni).1).length).length := by first | rfl | (simp; done) | (simp; omega)
    have hs23 : SH w w18 [] [.blk b1 29 [.slice Axs xs.length cxs, .int .i64 ni, .bool eb], .own A2 (((pipeEnd xs ni).1).length) c2 3 1 (((pipeEnd xs ni).1).map I), .blk b2 25 [.slice A2 (((pipeEnd xs ni).1).length) c2, .int .i64 ((pipeEnd xs ni).2), .bool (pipeOk xs ni)], .blk b4 25 [.slice A4 (((pipeEnd xs ni).1).length) c4, .int .i64 ((pipeEnd xs ni).2), .bool (pipeOk xs ni)], .own A4 ((marks 1 ((pipeEnd xs ni).1).length).length) c4 3 1 ((marks 1 ((pipeEnd xs ni).1).length).map I)] := (hs22.cast (lc rfl (lc rfl (lc rfl (lc rfl (lc (own_eq (g := I) rfl e2 rfl rfl) rfl))))))
    clear hs22
    refine q trivial rfl rfl (asg (v := .int .i64 (1 + ((((pipeEnd xs ni).1).length : Nat) : Int))) rfl) ?_
    refine nl ?_
    refine nN ?_
    refine sq ?_
    refine rg ?_
    refine q trivial rfl rfl (asg (v := .int .i64 1) rfl) ?_
    refine nl ?_
    refine nN ?_
    refine sq ?_
    refine rg ?_
    refine q trivial rfl rfl (ldg (vs := [.slice A4 (((pipeEnd xs ni).1).length) c4, .int .i64 ((pipeEnd xs ni).2), .bool (pipeOk xs ni)]) hs23 3 rfl rfl rfl rfl ag25) ?_
    refine q trivial rfl rfl (mv (v := .int .i64 1) rfl) ?_
    refine cl trivial rfl (Does.castA (lc (aggv (lc (slv rfl e2.symm rfl) (lc rfl (lc rfl rfl)))) (lc rfl rfl)) (heldPipe (Axs := A4) (cxs := c4) (xs := marks 1 ((pipeEnd xs ni).1).length) (ni := (pipeEnd xs ni).2) (eb := (pipeOk xs ni)) (k0 := 1) (w := _) (hxs := (hs23.sl0 4 rfl)) (hxs_n := (by first | (first | omega | (simp; omega)) | (have hsz := szI_nn (by assumption); have hpl := pipeEnd_len xs ni; first | omega | (simp; omega)))) (hk0 := (by first | (first | omega | assumption | (simp; done) | (simp; omega)) | (have hsz := szI_nn (by assumption); have hpl := pipeEnd_len xs ni; first | omega | assumption | (simp; done) | (simp; omega)))))) ?_
    rintro _ w19 ⟨rfl, hs24'⟩
    have hs24 : SH w w19 [] [.blk b1 29 [.slice Axs xs.length cxs, .int .i64 ni, .bool eb], .own A2 (((pipeEnd xs ni).1).length) c2 3 1 (((pipeEnd xs ni).1).map I), .blk b2 25 [.slice A2 (((pipeEnd xs ni).1).length) c2, .int .i64 ((pipeEnd xs ni).2), .bool (pipeOk xs ni)], .blk b4 25 [.slice A4 (((pipeEnd xs ni).1).length) c4, .int .i64 ((pipeEnd xs ni).2), .bool (pipeOk xs ni)], .own A4 ((marks 1 ((pipeEnd xs ni).1).length).length) c4 3 1 ((marks 1 ((pipeEnd xs ni).1).length).map I)] := hs23.call0 hs24'
    clear hs24'
    refine q trivial rfl rfl (asg (v := .int .i64 (heldI (marks 1 ((pipeEnd xs ni).1).length) 1)) rfl) ?_
    have e3 : heldI (marks 1 ((pipeEnd xs ni).1).length) 1 = 1 + ((((pipeEnd xs ni).1).length : Nat) : Int) := by exact held_marks _ _
    refine re 11 (v := .int .i64 (1 + ((((pipeEnd xs ni).1).length : Nat) : Int))) (congrArg (Value.int .i64) e3) ?_
    refine nl ?_
    refine nN ?_
    refine sq ?_
    refine sq ?_
    refine rg ?_
    refine q trivial rfl rfl (mv (v := .int .i64 (1 + ((((pipeEnd xs ni).1).length : Nat) : Int))) rfl) ?_
    refine q trivial rfl rfl (lss (k := .i64) (a := 1 + ((((pipeEnd xs ni).1).length : Nat) : Int)) (b := 0) rfl rfl) ?_
    refine nl ?_
    refine nN ?_
    refine cdd (p := (1 + ((((pipeEnd xs ni).1).length : Nat) : Int)) < 0) rfl (fun h8 => absurd h8 (by omega)) (fun h8 => ?_)
    refine sk ?_
    refine nN ?_
    refine sq ?_
    refine sq ?_
    refine rg ?_
    refine q trivial rfl rfl (mv (v := .int .i64 (1 + ((((pipeEnd xs ni).1).length : Nat) : Int))) rfl) ?_
    refine q trivial rfl rfl (mv (v := .int .i64 (1 + ((((pipeEnd xs ni).1).length : Nat) : Int))) rfl) ?_
    refine q trivial rfl rfl (nei (k := .i64) (a := 1 + ((((pipeEnd xs ni).1).length : Nat) : Int)) (b := 1 + ((((pipeEnd xs ni).1).length : Nat) : Int)) rfl rfl) ?_
    refine nl ?_
    refine nN ?_
    refine cdd (p := (1 + ((((pipeEnd xs ni).1).length : Nat) : Int)) ≠ (1 + ((((pipeEnd xs ni).1).length : Nat) : Int))) rfl (fun h9 => absurd h9 (by exact fun h => h rfl)) (fun h9 => ?_)
    refine sk ?_
    refine nN ?_
    refine sq ?_
    refine rg ?_
    refine q trivial rfl rfl (ldg (vs := [.slice Axs xs.length cxs, .int .i64 ni, .bool eb]) hs24 0 rfl rfl rfl rfl ag29) ?_
    refine cl trivial rfl (toPipe (Axs := Axs) (cxs := cxs) (xs := xs) (ni := ni) (eb := eb) (w := _) (hxs := (hxs.up0 hs24)) (hxs_n := (by first | (first | omega | (simp; omega)) | (have hsz := szI_nn (by assumption); have hpl := pipeEnd_len xs ni; first | omega | (simp; omega))))) ?_
    rintro _ w20 ⟨A5, c5, rfl, hs25'⟩
    have hs25 : SH w w20 [] [.blk b1 29 [.slice Axs xs.length cxs, .int .i64 ni, .bool eb], .own A2 (((pipeEnd xs ni).1).length) c2 3 1 (((pipeEnd xs ni).1).map I), .blk b2 25 [.slice A2 (((pipeEnd xs ni).1).length) c2, .int .i64 ((pipeEnd xs ni).2), .bool (pipeOk xs ni)], .blk b4 25 [.slice A4 (((pipeEnd xs ni).1).length) c4, .int .i64 ((pipeEnd xs ni).2), .bool (pipeOk xs ni)], .own A4 ((marks 1 ((pipeEnd xs ni).1).length).length) c4 3 1 ((marks 1 ((pipeEnd xs ni).1).length).map I), .own A5 xs.length c5 3 1 (xs.map I)] := hs24.call0 hs25'
    clear hs25'
    refine cl trivial rfl (iPipeEnd (Axs := A5) (cxs := c5) (xs := xs) (ni := ni) (eb := eb) (w := _) (hxs := (hs25.sl0 5 rfl))) ?_
    rintro _ w21 ⟨A6, c6, rfl, hs26'⟩
    have hs26 : SH w w21 [] [.blk b1 29 [.slice Axs xs.length cxs, .int .i64 ni, .bool eb], .own A2 (((pipeEnd xs ni).1).length) c2 3 1 (((pipeEnd xs ni).1).map I), .blk b2 25 [.slice A2 (((pipeEnd xs ni).1).length) c2, .int .i64 ((pipeEnd xs ni).2), .bool (pipeOk xs ni)], .blk b4 25 [.slice A4 (((pipeEnd xs ni).1).length) c4, .int .i64 ((pipeEnd xs ni).2), .bool (pipeOk xs ni)], .own A4 ((marks 1 ((pipeEnd xs ni).1).length).length) c4 3 1 ((marks 1 ((pipeEnd xs ni).1).length).map I), .own A5 xs.length c5 3 1 (xs.map I), .own A6 (((pipeEnd xs ni).1).length) c6 3 1 (((pipeEnd xs ni).1).map I)] := hs25.call0 hs26'
    clear hs26'
    refine q trivial rfl rfl (mv (v := .tuple #[.agg #[.slice A6 (((pipeEnd xs ni).1).length) c6, .int .i64 ((pipeEnd xs ni).2), .bool (pipeOk xs ni)], .bool (pipeOk xs ni)]) rfl) ?_
    refine q trivial rfl rfl (xt 0 (v := .agg #[.slice A6 (((pipeEnd xs ni).1).length) c6, .int .i64 ((pipeEnd xs ni).2), .bool (pipeOk xs ni)]) rfl rfl) ?_
    refine q trivial rfl rfl (xt 1 (v := .bool (pipeOk xs ni)) rfl rfl) ?_
    refine al (v := .agg #[.slice none 0 0, .int .i64 0, .bool false]) (cs := [.slice none 0 0, .int .i64 0, .bool false]) hs26 tz25 rfl trivial rfl (fun b5 w22 (hs27 : SH w w22 [] [.blk b1 29 [.slice Axs xs.length cxs, .int .i64 ni, .bool eb], .own A2 (((pipeEnd xs ni).1).length) c2 3 1 (((pipeEnd xs ni).1).map I), .blk b2 25 [.slice A2 (((pipeEnd xs ni).1).length) c2, .int .i64 ((pipeEnd xs ni).2), .bool (pipeOk xs ni)], .blk b4 25 [.slice A4 (((pipeEnd xs ni).1).length) c4, .int .i64 ((pipeEnd xs ni).2), .bool (pipeOk xs ni)], .own A4 ((marks 1 ((pipeEnd xs ni).1).length).length) c4 3 1 ((marks 1 ((pipeEnd xs ni).1).length).map I), .own A5 xs.length c5 3 1 (xs.map I), .own A6 (((pipeEnd xs ni).1).length) c6 3 1 (((pipeEnd xs ni).1).map I), .blk b5 25 [.slice none 0 0, .int .i64 0, .bool false]]) => ?_)
    refine stg (vs := [.slice A6 (((pipeEnd xs ni).1).length) c6, .int .i64 ((pipeEnd xs ni).2), .bool (pipeOk xs ni)]) hs27 7 rfl rfl rfl rfl rfl rfl rfl ag25 trivial (fun w23 (hs28 : SH w w23 [] [.blk b1 29 [.slice Axs xs.length cxs, .int .i64 ni, .bool eb], .own A2 (((pipeEnd xs ni).1).length) c2 3 1 (((pipeEnd xs ni).1).map I), .blk b2 25 [.slice A2 (((pipeEnd xs ni).1).length) c2, .int .i64 ((pipeEnd xs ni).2), .bool (pipeOk xs ni)], .blk b4 25 [.slice A4 (((pipeEnd xs ni).1).length) c4, .int .i64 ((pipeEnd xs ni).2), .bool (pipeOk xs ni)], .own A4 ((marks 1 ((pipeEnd xs ni).1).length).length) c4 3 1 ((marks 1 ((pipeEnd xs ni).1).length).map I), .own A5 xs.length c5 3 1 (xs.map I), .own A6 (((pipeEnd xs ni).1).length) c6 3 1 (((pipeEnd xs ni).1).map I), .blk b5 25 [.slice A6 (((pipeEnd xs ni).1).length) c6, .int .i64 ((pipeEnd xs ni).2), .bool (pipeOk xs ni)]]) => ?_)
    refine q trivial rfl rfl (asg (v := .bool (pipeOk xs ni)) rfl) ?_
    refine nl ?_
    refine nN ?_
    have hs29 : SH w w23 [] [.own A2 (((pipeEnd xs ni).1).length) c2 3 1 (((pipeEnd xs ni).1).map I), .blk b2 25 [.slice A2 (((pipeEnd xs ni).1).length) c2, .int .i64 ((pipeEnd xs ni).2), .bool (pipeOk xs ni)], .blk b4 25 [.slice A4 (((pipeEnd xs ni).1).length) c4, .int .i64 ((pipeEnd xs ni).2), .bool (pipeOk xs ni)], .own A4 ((marks 1 ((pipeEnd xs ni).1).length).length) c4 3 1 ((marks 1 ((pipeEnd xs ni).1).length).map I), .own A6 (((pipeEnd xs ni).1).length) c6 3 1 (((pipeEnd xs ni).1).map I), .blk b5 25 [.slice A6 (((pipeEnd xs ni).1).length) c6, .int .i64 ((pipeEnd xs ni).2), .bool (pipeOk xs ni)]] := hs28.pick [1, 2, 3, 4, 6, 7] rfl (by decide)
    refine sq ?_
    refine sq ?_
    refine rg ?_
    refine q trivial rfl rfl (ldg (vs := [.slice A6 (((pipeEnd xs ni).1).length) c6, .int .i64 ((pipeEnd xs ni).2), .bool (pipeOk xs ni)]) hs29 5 rfl rfl rfl rfl ag25) ?_
    refine q trivial rfl rfl (ldg (vs := [.slice A2 (((pipeEnd xs ni).1).length) c2, .int .i64 ((pipeEnd xs ni).2), .bool (pipeOk xs ni)]) hs29 1 rfl rfl rfl rfl ag25) ?_
    refine cl trivial rfl (eqPipe (Axs := A6) (cxs := c6) (xs := (pipeEnd xs ni).1) (n1 := (pipeEnd xs ni).2) (e1 := (pipeOk xs ni)) (Ays := A2) (cys := c2) (ys := (pipeEnd xs ni).1) (n2 := (pipeEnd xs ni).2) (e2 := (pipeOk xs ni)) (w := _) (hxs := (hs29.sl0 4 rfl)) (hys := (hs29.sl0 0 rfl))) ?_
    rintro _ w24 ⟨rfl, hs30'⟩
    have hs30 : SH w w24 [] [.own A2 (((pipeEnd xs ni).1).length) c2 3 1 (((pipeEnd xs ni).1).map I), .blk b2 25 [.slice A2 (((pipeEnd xs ni).1).length) c2, .int .i64 ((pipeEnd xs ni).2), .bool (pipeOk xs ni)], .blk b4 25 [.slice A4 (((pipeEnd xs ni).1).length) c4, .int .i64 ((pipeEnd xs ni).2), .bool (pipeOk xs ni)], .own A4 ((marks 1 ((pipeEnd xs ni).1).length).length) c4 3 1 ((marks 1 ((pipeEnd xs ni).1).length).map I), .own A6 (((pipeEnd xs ni).1).length) c6 3 1 (((pipeEnd xs ni).1).map I), .blk b5 25 [.slice A6 (((pipeEnd xs ni).1).length) c6, .int .i64 ((pipeEnd xs ni).2), .bool (pipeOk xs ni)]] := hs29.call0 hs30'
    clear hs30'
    refine q trivial rfl rfl (nd (p := ((pipeEnd xs ni).1) = ((pipeEnd xs ni).1) ∧ ((pipeEnd xs ni).2) = ((pipeEnd xs ni).2) ∧ (pipeOk xs ni) = (pipeOk xs ni)) rfl) ?_
    refine q trivial rfl rfl (mv (v := .bool (decide (¬ (((pipeEnd xs ni).1) = ((pipeEnd xs ni).1) ∧ ((pipeEnd xs ni).2) = ((pipeEnd xs ni).2) ∧ (pipeOk xs ni) = (pipeOk xs ni))))) rfl) ?_
    refine spd (p := ¬ (((pipeEnd xs ni).1) = ((pipeEnd xs ni).1) ∧ ((pipeEnd xs ni).2) = ((pipeEnd xs ni).2) ∧ (pipeOk xs ni) = (pipeOk xs ni))) 83 rfl (fun h10 => absurd h10 (by exact fun h => h ⟨rfl, rfl, rfl⟩)) (fun h10 => ?_)
    refine q ⟨_, rfl, rfl⟩ rfl rfl (mv (v := .bool (pipeOk xs ni)) rfl) ?_
    refine q ⟨_, rfl, rfl⟩ rfl rfl (mv (v := .bool (pipeOk xs ni)) rfl) ?_
    refine q ⟨_, rfl, rfl⟩ rfl rfl (neb (a := (pipeOk xs ni)) (b := (pipeOk xs ni)) tb4 rfl rfl) ?_
    refine q trivial rfl rfl (pf (v := .bool (decide ((pipeOk xs ni) ≠ (pipeOk xs ni)))) rfl rfl) ?_
    refine nl ?_
    refine nN ?_
    have hs31 : SH w w24 [] [.blk b4 25 [.slice A4 (((pipeEnd xs ni).1).length) c4, .int .i64 ((pipeEnd xs ni).2), .bool (pipeOk xs ni)], .own A4 ((marks 1 ((pipeEnd xs ni).1).length).length) c4 3 1 ((marks 1 ((pipeEnd xs ni).1).length).map I)] := hs30.pick [2, 3] rfl (by decide)
    refine cdd (p := (pipeOk xs ni) ≠ (pipeOk xs ni)) rfl (fun h11 => absurd h11 (by exact fun h => h rfl)) (fun h11 => ?_)
    refine sk ?_
    refine nN ?_
    refine sq ?_
    refine rg ?_
    refine q trivial rfl rfl (asg (v := .int .i64 1) rfl) ?_
    refine nl ?_
    refine nN ?_
    refine sq ?_
    refine rg ?_
    refine q trivial rfl rfl (ldg (vs := [.slice A4 (((pipeEnd xs ni).1).length) c4, .int .i64 ((pipeEnd xs ni).2), .bool (pipeOk xs ni)]) hs31 0 rfl rfl rfl rfl ag25) ?_
    refine q trivial rfl rfl (mv (v := .int .i64 1) rfl) ?_
    refine cl trivial rfl (Does.castA (lc (aggv (lc (slv rfl e2.symm rfl) (lc rfl (lc rfl rfl)))) (lc rfl rfl)) (heldPipe (Axs := A4) (cxs := c4) (xs := marks 1 ((pipeEnd xs ni).1).length) (ni := (pipeEnd xs ni).2) (eb := (pipeOk xs ni)) (k0 := 1) (w := _) (hxs := (hs31.sl0 1 rfl)) (hxs_n := (by first | (first | omega | (simp; omega)) | (have hsz := szI_nn (by assumption); have hpl := pipeEnd_len xs ni; first | omega | (simp; omega)))) (hk0 := (by first | (first | omega | assumption | (simp; done) | (simp; omega)) | (have hsz := szI_nn (by assumption); have hpl := pipeEnd_len xs ni; first | omega | assumption | (simp; done) | (simp; omega)))))) ?_
    rintro _ w25 ⟨rfl, hs32'⟩
    have hs32 : SH w w25 [] [.blk b4 25 [.slice A4 (((pipeEnd xs ni).1).length) c4, .int .i64 ((pipeEnd xs ni).2), .bool (pipeOk xs ni)], .own A4 ((marks 1 ((pipeEnd xs ni).1).length).length) c4 3 1 ((marks 1 ((pipeEnd xs ni).1).length).map I)] := hs31.call0 hs32'
    clear hs32'
    refine q trivial rfl rfl (asg (v := .int .i64 (heldI (marks 1 ((pipeEnd xs ni).1).length) 1)) rfl) ?_
    have e4 : heldI (marks 1 ((pipeEnd xs ni).1).length) 1 = 1 + ((((pipeEnd xs ni).1).length : Nat) : Int) := by exact held_marks _ _
    refine re 11 (v := .int .i64 (1 + ((((pipeEnd xs ni).1).length : Nat) : Int))) (congrArg (Value.int .i64) e4) ?_
    refine nl ?_
    refine nN ?_
    refine sq ?_
    refine sq ?_
    refine rg ?_
    refine q trivial rfl rfl (mv (v := .int .i64 (1 + ((((pipeEnd xs ni).1).length : Nat) : Int))) rfl) ?_
    refine q trivial rfl rfl (lss (k := .i64) (a := 1 + ((((pipeEnd xs ni).1).length : Nat) : Int)) (b := 0) rfl rfl) ?_
    refine nl ?_
    refine nN ?_
    refine cdd (p := (1 + ((((pipeEnd xs ni).1).length : Nat) : Int)) < 0) rfl (fun h12 => absurd h12 (by omega)) (fun h12 => ?_)
    refine sk ?_
    refine nN ?_
    refine sq ?_
    refine sq ?_
    refine rg ?_
    refine q trivial rfl rfl (mv (v := .int .i64 (1 + ((((pipeEnd xs ni).1).length : Nat) : Int))) rfl) ?_
    refine q trivial rfl rfl (mv (v := .int .i64 (1 + ((((pipeEnd xs ni).1).length : Nat) : Int))) rfl) ?_
    refine q trivial rfl rfl (nei (k := .i64) (a := 1 + ((((pipeEnd xs ni).1).length : Nat) : Int)) (b := 1 + ((((pipeEnd xs ni).1).length : Nat) : Int)) rfl rfl) ?_
    refine nl ?_
    refine nN ?_
    refine cdd (p := (1 + ((((pipeEnd xs ni).1).length : Nat) : Int)) ≠ (1 + ((((pipeEnd xs ni).1).length : Nat) : Int))) rfl (fun h13 => absurd h13 (by exact fun h => h rfl)) (fun h13 => ?_)
    refine sk ?_
    refine nN ?_
    refine sq ?_
    refine rg ?_
    refine q trivial rfl rfl (asg (v := .bool true) rfl) ?_
    refine nl ?_
    refine nN ?_
    refine rt ?_
    refine fret (v := .bool true) (.tmp .nil) rfl ?_
    exact ⟨rfl, (hs32.pick [] rfl (by decide))⟩

end Go.Proofs.Ytgefaejgkcbkpaa
