/-
  Part of the proofs over this seat: what each function of the program computes, function by function (the text is written by a program of this hand-in's own).
  Conditions: each theorem states its own.
-/
import Derived.Test.YtgefaejgkcbkpaaPfWalks2
namespace Go.Proofs.Ytgefaejgkcbkpaa
open Go.PF
set_option maxRecDepth 100000
set_option linter.unusedSimpArgs false
set_option linter.unusedVariables false

theorem lExactPipeValid {Axs : Option Addr} {cxs : Nat} (xs : List Int) (ni : Int) (eb : Bool) (w : World) (hxs : Sl w [] 1 Axs xs.length cxs (xs.map I)) : Does Try.prog 4 [.agg #[.slice Axs xs.length cxs, .int .i64 ni, .bool eb]] w (fun v w' => v = .bool true ∧ SH w w' [] []) := by
  refine fn_enter (N := 27) Try.func4 rfl (by kernel_rfl) rfl rfl rfl ?_
  have hs0 : SH w w [] [] := SH.refl w []
  have hxs_m : xs.length ≤ 9223372036854775807 := Nat.le_trans hxs.cap hxs.capMax
  refine sq ?_
  refine rg ?_
  refine bx (v := .agg #[.slice Axs xs.length cxs, .int .i64 ni, .bool eb]) (cs := [.slice Axs xs.length cxs, .int .i64 ni, .bool eb]) hs0 rfl rfl trivial rfl (fun b1 w1 (hs1 : SH w w1 [] [.blk b1 29 [.slice Axs xs.length cxs, .int .i64 ni, .bool eb]]) => ?_)
  refine q trivial rfl rfl (asg (v := .bool false) rfl) ?_
  refine nl ?_
  refine nN ?_
  refine sq ?_
  refine rg ?_
  refine q trivial rfl rfl (asg (v := .int .i64 1048576) rfl) ?_
  refine nl ?_
  refine nN ?_
  refine sq ?_
  refine rg ?_
  refine q trivial rfl rfl (ldg (vs := [.slice Axs xs.length cxs, .int .i64 ni, .bool eb]) hs1 0 rfl rfl rfl rfl ag29) ?_
  refine q trivial rfl rfl (mv (v := .int .i64 1048576) rfl) ?_
  refine cl trivial rfl (szPipe (Axs := Axs) (cxs := cxs) (xs := xs) (ni := ni) (eb := eb) (z := 1048576) (w := _) (hxs := (hxs.up0 hs1)) (hz := (by first | (first | omega | assumption | (simp; done) | (simp; omega)) | (have hsz := szI_nn (by assumption); first | omega | assumption | (simp; done) | (simp; omega))))) ?_
  rintro _ w2 ⟨rfl, hs2'⟩
  have hs2 : SH w w2 [] [.blk b1 29 [.slice Axs xs.length cxs, .int .i64 ni, .bool eb]] := hs1.call0 hs2'
  clear hs2'
  refine q trivial rfl rfl (asg (v := .int .i64 (szI xs.length 1048576)) rfl) ?_
  refine nl ?_
  refine nN ?_
  refine sq ?_
  refine sq ?_
  refine rg ?_
  refine q trivial rfl rfl (mv (v := .int .i64 (szI xs.length 1048576)) rfl) ?_
  refine q trivial rfl rfl (lss (k := .i64) (a := szI xs.length 1048576) (b := 0) rfl rfl) ?_
  refine nl ?_
  refine nN ?_
  refine cdd (p := (szI xs.length 1048576) < 0) rfl (fun h1 => ?_) (fun h1 => ?_)
  · refine sq ?_
    refine rg ?_
    refine q trivial rfl rfl (asg (v := .bool true) rfl) ?_
    refine nl ?_
    refine nN ?_
    refine rt (tR ?_)
    refine fret (v := .bool true) (.tmp .nil) rfl ?_
    exact ⟨rfl, (hs2.pick [] rfl (by decide))⟩
  · refine sk ?_
    refine nN ?_
    refine sq ?_
    refine rg ?_
    refine q trivial rfl rfl (ldg (vs := [.slice Axs xs.length cxs, .int .i64 ni, .bool eb]) hs2 0 rfl rfl rfl rfl ag29) ?_
    refine cl trivial rfl (toPipe (Axs := Axs) (cxs := cxs) (xs := xs) (ni := ni) (eb := eb) (w := _) (hxs := (hxs.up0 hs2)) (hxs_n := (by first | (first | omega | (simp; omega)) | (have hsz := szI_nn (by assumption); first | omega | (simp; omega))))) ?_
    rintro _ w3 ⟨A1, c1, rfl, hs3'⟩
    have hs3 : SH w w3 [] [.blk b1 29 [.slice Axs xs.length cxs, .int .i64 ni, .bool eb], .own A1 xs.length c1 3 1 (xs.map I)] := hs2.call0 hs3'
    clear hs3'
    refine cl trivial rfl (sPipeValid (Axs := A1) (cxs := c1) (xs := xs) (ni := ni) (eb := eb) (w := _) (hxs := (hs3.sl0 1 rfl))) ?_
    rintro _ w4 ⟨rfl, hs4'⟩
    have hs4 : SH w w4 [] [.blk b1 29 [.slice Axs xs.length cxs, .int .i64 ni, .bool eb], .own A1 xs.length c1 3 1 (xs.map I)] := hs3.call0 hs4'
    clear hs4'
    refine q trivial rfl rfl (asg (v := .bool (pipeOk xs ni)) rfl) ?_
    refine nl ?_
    refine nN ?_
    refine sq ?_
    refine rg ?_
    refine q trivial rfl rfl (ldg (vs := [.slice Axs xs.length cxs, .int .i64 ni, .bool eb]) hs4 0 rfl rfl rfl rfl ag29) ?_
    refine cl trivial rfl (toPipe (Axs := Axs) (cxs := cxs) (xs := xs) (ni := ni) (eb := eb) (w := _) (hxs := (hxs.up0 hs4)) (hxs_n := (by first | (first | omega | (simp; omega)) | (have hsz := szI_nn (by assumption); first | omega | (simp; omega))))) ?_
    rintro _ w5 ⟨A2, c2, rfl, hs5'⟩
    have hs5 : SH w w5 [] [.blk b1 29 [.slice Axs xs.length cxs, .int .i64 ni, .bool eb], .own A1 xs.length c1 3 1 (xs.map I), .own A2 xs.length c2 3 1 (xs.map I)] := hs4.call0 hs5'
    clear hs5'
    refine al (v := .agg #[.slice none 0 0, .int .i64 0, .bool false]) (cs := [.slice none 0 0, .int .i64 0, .bool false]) hs5 tz25 rfl trivial rfl (fun b2 w6 (hs6 : SH w w6 [] [.blk b1 29 [.slice Axs xs.length cxs, .int .i64 ni, .bool eb], .own A1 xs.length c1 3 1 (xs.map I), .own A2 xs.length c2 3 1 (xs.map I), .blk b2 25 [.slice none 0 0, .int .i64 0, .bool false]]) => ?_)
    refine stg (vs := [.slice A2 xs.length c2, .int .i64 ni, .bool eb]) hs6 3 rfl rfl rfl rfl rfl rfl rfl ag25 trivial (fun w7 (hs7 : SH w w7 [] [.blk b1 29 [.slice Axs xs.length cxs, .int .i64 ni, .bool eb], .own A1 xs.length c1 3 1 (xs.map I), .own A2 xs.length c2 3 1 (xs.map I), .blk b2 25 [.slice A2 xs.length c2, .int .i64 ni, .bool eb]]) => ?_)
    refine nl ?_
    refine nN ?_
    refine sq ?_
    refine rg ?_
    refine q trivial rfl rfl (ldg (vs := [.slice A2 xs.length c2, .int .i64 ni, .bool eb]) hs7 3 rfl rfl rfl rfl ag25) ?_
    refine cl trivial rfl (iPipeValid (Axs := A2) (cxs := c2) (xs := xs) (ni := ni) (eb := eb) (w := _) (hxs := (hs7.sl0 2 rfl))) ?_
    rintro _ w8 ⟨rfl, hs8'⟩
    have hs8 : SH w w8 [] [.blk b1 29 [.slice Axs xs.length cxs, .int .i64 ni, .bool eb], .own A1 xs.length c1 3 1 (xs.map I), .own A2 xs.length c2 3 1 (xs.map I), .blk b2 25 [.slice A2 xs.length c2, .int .i64 ni, .bool eb]] := hs7.call0 hs8'
    clear hs8'
    refine q trivial rfl rfl (asg (v := .bool (pipeOk xs ni)) rfl) ?_
    refine nl ?_
    refine nN ?_
    refine sq ?_
    refine sq ?_
    refine rg ?_
    refine q trivial rfl rfl (mv (v := .bool (pipeOk xs ni)) rfl) ?_
    refine q trivial rfl rfl (mv (v := .bool (pipeOk xs ni)) rfl) ?_
    refine q trivial rfl rfl (neb (a := (pipeOk xs ni)) (b := (pipeOk xs ni)) tb4 rfl rfl) ?_
    refine nl ?_
    refine nN ?_
    refine cdd (p := (pipeOk xs ni) ≠ (pipeOk xs ni)) rfl (fun h2 => absurd h2 (by exact fun h => h rfl)) (fun h2 => ?_)
    refine sk ?_
    refine nN ?_
    refine sq ?_
    refine sq ?_
    refine ra (fun w' => ∃ L, SH w w' [] L ∧ (.blk b1 29 [.slice Axs xs.length cxs, .int .i64 ni, .bool eb]) ∈ L ∧ (.blk b2 25 [.slice A2 xs.length c2, .int .i64 ni, .bool eb]) ∈ L ∧ True) mixed ?_
    have hs9 := hs8.drew
    refine tk (fuel := 3) (is := [0, 1]) (.cons rfl (.cons rfl (.nil))) (by kernel_rfl) (by kernel_rfl) ⟨_, hs9, memi 0 rfl, memi 3 rfl, trivial⟩ ?_
    refine .op trivial rfl rfl (fun wq ⟨Lq, hsq, mh0, mh1, _⟩ => ldgm (vs := [.slice A2 xs.length c2, .int .i64 ni, .bool eb]) hsq mh1 rfl rfl rfl ag25) ?_
    refine .op trivial rfl rfl (fun wq ⟨Lq, hsq, mh0, mh1, _⟩ => ldgm (vs := [.slice Axs xs.length cxs, .int .i64 ni, .bool eb]) hsq mh0 rfl rfl rfl ag29) ?_
    refine .nil ?_
    refine a1 (i := 2) (by kernel_rfl) ?_
    refine one_ rfl ?_
    refine cl trivial rfl (toPipe (Axs := Axs) (cxs := cxs) (xs := xs) (ni := ni) (eb := eb) (w := _) (hxs := (hxs.up0 hs9)) (hxs_n := (by first | (first | omega | (simp; omega)) | (have hsz := szI_nn (by assumption); first | omega | (simp; omega))))) ?_
    rintro _ w9 ⟨A_10_2, c_10_2, rfl, hs10'⟩
    have hs10 : SH w w9 [] [.blk b1 29 [.slice Axs xs.length cxs, .int .i64 ni, .bool eb], .own A1 xs.length c1 3 1 (xs.map I), .own A2 xs.length c2 3 1 (xs.map I), .blk b2 25 [.slice A2 xs.length c2, .int .i64 ni, .bool eb], .own A_10_2 xs.length c_10_2 3 1 (xs.map I)] := hs9.call0 hs10'
    clear hs10'
    refine nl (kq ⟨_, hs10, memi 0 rfl, memi 3 rfl, trivial⟩ ?_)
    refine a1 (i := 3) (by kernel_rfl) ?_
    refine one_ rfl ?_
    refine cl trivial rfl (eqPipe (Axs := A2) (cxs := c2) (xs := xs) (n1 := ni) (e1 := eb) (Ays := A_10_2) (cys := c_10_2) (ys := xs) (n2 := ni) (e2 := eb) (w := _) (hxs := (hs10.sl0 2 rfl)) (hys := (hs10.sl0 4 rfl))) ?_
    rintro _ w10 ⟨rfl, hs11'⟩
    have hs11 : SH w w10 [] [.blk b1 29 [.slice Axs xs.length cxs, .int .i64 ni, .bool eb], .own A1 xs.length c1 3 1 (xs.map I), .own A2 xs.length c2 3 1 (xs.map I), .blk b2 25 [.slice A2 xs.length c2, .int .i64 ni, .bool eb], .own A_10_2 xs.length c_10_2 3 1 (xs.map I)] := hs10.call0 hs11'
    clear hs11'
    refine nl (kq ⟨_, hs11, memi 0 rfl, memi 3 rfl, trivial⟩ ?_)
    refine tk (fuel := 0) (is := [4]) (.cons rfl (.nil)) (by kernel_rfl) (by kernel_rfl) ⟨_, hs11, memi 0 rfl, memi 3 rfl, trivial⟩ ?_
    refine .op trivial rfl rfl (fun wq _ => nd (p := xs = xs ∧ ni = ni ∧ eb = eb) rfl) ?_
    refine .nil ?_
    refine ad (by kernel_rfl) ?_
    refine nN ?_
    have hs12 : SH w w10 [] [] := hs11.pick [] rfl (by decide)
    refine cdd (p := ¬ (xs = xs ∧ ni = ni ∧ eb = eb)) rfl (fun h3 => absurd h3 (by exact fun h => h ⟨rfl, rfl, rfl⟩)) (fun h3 => ?_)
    refine sk ?_
    refine nN ?_
    refine sq ?_
    refine rg ?_
    refine q trivial rfl rfl (asg (v := .bool true) rfl) ?_
    refine nl ?_
    refine nN ?_
    refine rt ?_
    refine fret (v := .bool true) (.tmp .nil) rfl ?_
    exact ⟨rfl, hs12⟩

end Go.Proofs.Ytgefaejgkcbkpaa
