/-
  Part of the proofs over this seat: what each function of the program computes, function by function (the text is written by a program of this hand-in's own).
  Conditions: each theorem states its own.
-/
import Derived.Test.YtgefaejgkcbkpaaPfWalks2
namespace Go.Proofs.Ytgefaejgkcbkpaa
open Go.PF
set_option maxRecDepth 100000
set_option linter.unusedSimpArgs false
set_option linter.unusedVariables false

theorem lPipeGetMost {Acs : Option Addr} {ccs : Nat} (cs : List UInt8) (w : World) (hcs : Sl w [] 1 Acs cs.length ccs (cs.map U)) : Does Try.prog 6 [.slice Acs cs.length ccs] w (fun v w' => v = .bool true ∧ SH w w' [] []) := by
  refine fn_enter (N := 81) Try.func6 rfl (by kernel_rfl) rfl rfl rfl ?_
  have hs0 : SH w w [] [] := SH.refl w []
  have hcs_m : cs.length ≤ 9223372036854775807 := Nat.le_trans hcs.cap hcs.capMax
  refine sq ?_
  refine rg ?_
  refine q trivial rfl rfl (asg (v := .bool false) rfl) ?_
  refine nl ?_
  refine nN ?_
  refine sq ?_
  refine sq ?_
  refine rg ?_
  refine q trivial rfl rfl (mv (v := .slice Acs cs.length ccs) rfl) ?_
  refine q trivial rfl rfl (lnA (n := cs.length) sl22 rfl) ?_
  refine q trivial rfl rfl (gtr (k := .i64) (a := ((cs.length : Nat) : Int)) (b := 1048576) rfl rfl) ?_
  refine nl ?_
  refine nN ?_
  refine cdd (p := (1048576 : Int) < ((cs.length : Nat) : Int)) rfl (fun h1 => ?_) (fun h1 => ?_)
  · refine sq ?_
    refine rg ?_
    refine q trivial rfl rfl (asg (v := .bool true) rfl) ?_
    refine nl ?_
    refine nN ?_
    refine rt (tR ?_)
    refine fret (v := .bool true) (.tmp .nil) rfl ?_
    exact ⟨rfl, hs0⟩
  · refine sk ?_
    refine nN ?_
    refine sq ?_
    refine rg ?_
    refine q trivial rfl rfl (mv (v := .slice Acs cs.length ccs) rfl) ?_
    refine cl trivial rfl (drawPipeGet (Acs := Acs) (ccs := ccs) (cs := cs) (w := _) (hcs := (hcs.up0 hs0))) ?_
    rintro _ w1 ⟨A1, c1, r1, ni1, eb1, m1, rfl, p1, p2, hs1'⟩
    have hs1 : SH w w1 [] [.own A1 r1.length c1 3 1 (r1.map I)] := hs0.call0 hs1'
    clear hs1'
    refine q trivial rfl rfl (mv (v := .tuple #[.agg #[.slice A1 r1.length c1, .int .i64 ni1, .bool eb1], .int .i64 m1]) rfl) ?_
    refine q trivial rfl rfl (xt 0 (v := .agg #[.slice A1 r1.length c1, .int .i64 ni1, .bool eb1]) rfl rfl) ?_
    refine q trivial rfl rfl (xt 1 (v := .int .i64 m1) rfl rfl) ?_
    refine al (v := .agg #[.slice none 0 0, .int .i64 0, .bool false]) (cs := [.slice none 0 0, .int .i64 0, .bool false]) hs1 tz25 rfl trivial rfl (fun b1 w2 (hs2 : SH w w2 [] [.own A1 r1.length c1 3 1 (r1.map I), .blk b1 25 [.slice none 0 0, .int .i64 0, .bool false]]) => ?_)
    refine stg (vs := [.slice A1 r1.length c1, .int .i64 ni1, .bool eb1]) hs2 1 rfl rfl rfl rfl rfl rfl rfl ag25 trivial (fun w3 (hs3 : SH w w3 [] [.own A1 r1.length c1 3 1 (r1.map I), .blk b1 25 [.slice A1 r1.length c1, .int .i64 ni1, .bool eb1]]) => ?_)
    refine q trivial rfl rfl (asg (v := .int .i64 m1) rfl) ?_
    refine nl ?_
    refine nN ?_
    refine sq ?_
    refine rg ?_
    refine q trivial rfl rfl (ldg (vs := [.slice A1 r1.length c1, .int .i64 ni1, .bool eb1]) hs3 1 rfl rfl rfl rfl ag25) ?_
    refine q trivial rfl rfl (mv (v := .int .i64 m1) rfl) ?_
    refine cl trivial rfl (iPipeGet (Axs := A1) (cxs := c1) (xs := r1) (ni := ni1) (eb := eb1) (m := m1) (w := _) (hxs := (hs3.sl0 0 rfl))) ?_
    rintro _ w4 ⟨A2, c2, Ag1, cg1, rfl, hs4'⟩
    have hs4 : SH w w4 [] [.own A1 r1.length c1 3 1 (r1.map I), .blk b1 25 [.slice A1 r1.length c1, .int .i64 ni1, .bool eb1], .own A2 (((pipeGet r1 ni1 eb1 m1).1).length) c2 3 1 (((pipeGet r1 ni1 eb1 m1).1).map I), .own Ag1 (((pipeGet r1 ni1 eb1 m1).2.2.2.1).length) cg1 3 1 (((pipeGet r1 ni1 eb1 m1).2.2.2.1).map I)] := hs3.call0 hs4'
    clear hs4'
    refine q trivial rfl rfl (mv (v := .tuple #[.agg #[.slice A2 (((pipeGet r1 ni1 eb1 m1).1).length) c2, .int .i64 ((pipeGet r1 ni1 eb1 m1).2.1), .bool ((pipeGet r1 ni1 eb1 m1).2.2.1)], .slice Ag1 (((pipeGet r1 ni1 eb1 m1).2.2.2.1).length) cg1, .bool ((pipeGet r1 ni1 eb1 m1).2.2.2.2)]) rfl) ?_
    refine q trivial rfl rfl (xt 0 (v := .agg #[.slice A2 (((pipeGet r1 ni1 eb1 m1).1).length) c2, .int .i64 ((pipeGet r1 ni1 eb1 m1).2.1), .bool ((pipeGet r1 ni1 eb1 m1).2.2.1)]) rfl rfl) ?_
    refine q trivial rfl rfl (xt 1 (v := .slice Ag1 (((pipeGet r1 ni1 eb1 m1).2.2.2.1).length) cg1) rfl rfl) ?_
    refine q trivial rfl rfl (xt 2 (v := .bool ((pipeGet r1 ni1 eb1 m1).2.2.2.2)) rfl rfl) ?_
    refine al (v := .agg #[.slice none 0 0, .int .i64 0, .bool false]) (cs := [.slice none 0 0, .int .i64 0, .bool false]) hs4 tz25 rfl trivial rfl (fun b2 w5 (hs5 : SH w w5 [] [.own A1 r1.length c1 3 1 (r1.map I), .blk b1 25 [.slice A1 r1.length c1, .int .i64 ni1, .bool eb1], .own A2 (((pipeGet r1 ni1 eb1 m1).1).length) c2 3 1 (((pipeGet r1 ni1 eb1 m1).1).map I), .own Ag1 (((pipeGet r1 ni1 eb1 m1).2.2.2.1).length) cg1 3 1 (((pipeGet r1 ni1 eb1 m1).2.2.2.1).map I), .blk b2 25 [.slice none 0 0, .int .i64 0, .bool false]]) => ?_)
    refine stg (vs := [.slice A2 (((pipeGet r1 ni1 eb1 m1).1).length) c2, .int .i64 ((pipeGet r1 ni1 eb1 m1).2.1), .bool ((pipeGet r1 ni1 eb1 m1).2.2.1)]) hs5 4 rfl rfl rfl rfl rfl rfl rfl ag25 trivial (fun w6 (hs6 : SH w w6 [] [.own A1 r1.length c1 3 1 (r1.map I), .blk b1 25 [.slice A1 r1.length c1, .int .i64 ni1, .bool eb1], .own A2 (((pipeGet r1 ni1 eb1 m1).1).length) c2 3 1 (((pipeGet r1 ni1 eb1 m1).1).map I), .own Ag1 (((pipeGet r1 ni1 eb1 m1).2.2.2.1).length) cg1 3 1 (((pipeGet r1 ni1 eb1 m1).2.2.2.1).map I), .blk b2 25 [.slice A2 (((pipeGet r1 ni1 eb1 m1).1).length) c2, .int .i64 ((pipeGet r1 ni1 eb1 m1).2.1), .bool ((pipeGet r1 ni1 eb1 m1).2.2.1)]]) => ?_)
    refine q trivial rfl rfl (asg (v := .slice Ag1 (((pipeGet r1 ni1 eb1 m1).2.2.2.1).length) cg1) rfl) ?_
    refine q trivial rfl rfl (asg (v := .bool ((pipeGet r1 ni1 eb1 m1).2.2.2.2)) rfl) ?_
    refine nl ?_
    refine nN ?_
    refine sq ?_
    refine rg ?_
    refine q trivial rfl rfl (ldg (vs := [.slice A1 r1.length c1, .int .i64 ni1, .bool eb1]) hs6 1 rfl rfl rfl rfl ag25) ?_
    refine q trivial rfl rfl (mv (v := .int .i64 m1) rfl) ?_
    refine cl trivial rfl (sPipeGet (Axs := A1) (cxs := c1) (xs := r1) (ni := ni1) (eb := eb1) (m := m1) (w := _) (hxs := (hs6.sl0 0 rfl))) ?_
    rintro _ w7 ⟨A3, c3, Ag2, cg2, rfl, hs7'⟩
    have hs7 : SH w w7 [] [.own A1 r1.length c1 3 1 (r1.map I), .blk b1 25 [.slice A1 r1.length c1, .int .i64 ni1, .bool eb1], .own A2 (((pipeGet r1 ni1 eb1 m1).1).length) c2 3 1 (((pipeGet r1 ni1 eb1 m1).1).map I), .own Ag1 (((pipeGet r1 ni1 eb1 m1).2.2.2.1).length) cg1 3 1 (((pipeGet r1 ni1 eb1 m1).2.2.2.1).map I), .blk b2 25 [.slice A2 (((pipeGet r1 ni1 eb1 m1).1).length) c2, .int .i64 ((pipeGet r1 ni1 eb1 m1).2.1), .bool ((pipeGet r1 ni1 eb1 m1).2.2.1)], .own A3 (((pipeGet r1 ni1 eb1 m1).1).length) c3 3 1 (((pipeGet r1 ni1 eb1 m1).1).map I), .own Ag2 (((pipeGet r1 ni1 eb1 m1).2.2.2.1).length) cg2 3 1 (((pipeGet r1 ni1 eb1 m1).2.2.2.1).map I)] := hs6.call0 hs7'
    clear hs7'
    refine q trivial rfl rfl (mv (v := .tuple #[.agg #[.slice A3 (((pipeGet r1 ni1 eb1 m1).1).length) c3, .int .i64 ((pipeGet r1 ni1 eb1 m1).2.1), .bool ((pipeGet r1 ni1 eb1 m1).2.2.1)], .slice Ag2 (((pipeGet r1 ni1 eb1 m1).2.2.2.1).length) cg2, .bool ((pipeGet r1 ni1 eb1 m1).2.2.2.2)]) rfl) ?_
    refine q trivial rfl rfl (xt 0 (v := .agg #[.slice A3 (((pipeGet r1 ni1 eb1 m1).1).length) c3, .int .i64 ((pipeGet r1 ni1 eb1 m1).2.1), .bool ((pipeGet r1 ni1 eb1 m1).2.2.1)]) rfl rfl) ?_
    refine q trivial rfl rfl (xt 1 (v := .slice Ag2 (((pipeGet r1 ni1 eb1 m1).2.2.2.1).length) cg2) rfl rfl) ?_
    refine q trivial rfl rfl (xt 2 (v := .bool ((pipeGet r1 ni1 eb1 m1).2.2.2.2)) rfl rfl) ?_
    refine al (v := .agg #[.slice none 0 0, .int .i64 0, .bool false]) (cs := [.slice none 0 0, .int .i64 0, .bool false]) hs7 tz25 rfl trivial rfl (fun b3 w8 (hs8 : SH w w8 [] [.own A1 r1.length c1 3 1 (r1.map I), .blk b1 25 [.slice A1 r1.length c1, .int .i64 ni1, .bool eb1], .own A2 (((pipeGet r1 ni1 eb1 m1).1).length) c2 3 1 (((pipeGet r1 ni1 eb1 m1).1).map I), .own Ag1 (((pipeGet r1 ni1 eb1 m1).2.2.2.1).length) cg1 3 1 (((pipeGet r1 ni1 eb1 m1).2.2.2.1).map I), .blk b2 25 [.slice A2 (((pipeGet r1 ni1 eb1 m1).1).length) c2, .int .i64 ((pipeGet r1 ni1 eb1 m1).2.1), .bool ((pipeGet r1 ni1 eb1 m1).2.2.1)], .own A3 (((pipeGet r1 ni1 eb1 m1).1).length) c3 3 1 (((pipeGet r1 ni1 eb1 m1).1).map I), .own Ag2 (((pipeGet r1 ni1 eb1 m1).2.2.2.1).length) cg2 3 1 (((pipeGet r1 ni1 eb1 m1).2.2.2.1).map I), .blk b3 25 [.slice none 0 0, .int .i64 0, .bool false]]) => ?_)
    refine stg (vs := [.slice A3 (((pipeGet r1 ni1 eb1 m1).1).length) c3, .int .i64 ((pipeGet r1 ni1 eb1 m1).2.1), .bool ((pipeGet r1 ni1 eb1 m1).2.2.1)]) hs8 7 rfl rfl rfl rfl rfl rfl rfl ag25 trivial (fun w9 (hs9 : SH w w9 [] [.own A1 r1.length c1 3 1 (r1.map I), .blk b1 25 [.slice A1 r1.length c1, .int .i64 ni1, .bool eb1], .own A2 (((pipeGet r1 ni1 eb1 m1).1).length) c2 3 1 (((pipeGet r1 ni1 eb1 m1).1).map I), .own Ag1 (((pipeGet r1 ni1 eb1 m1).2.2.2.1).length) cg1 3 1 (((pipeGet r1 ni1 eb1 m1).2.2.2.1).map I), .blk b2 25 [.slice A2 (((pipeGet r1 ni1 eb1 m1).1).length) c2, .int .i64 ((pipeGet r1 ni1 eb1 m1).2.1), .bool ((pipeGet r1 ni1 eb1 m1).2.2.1)], .own A3 (((pipeGet r1 ni1 eb1 m1).1).length) c3 3 1 (((pipeGet r1 ni1 eb1 m1).1).map I), .own Ag2 (((pipeGet r1 ni1 eb1 m1).2.2.2.1).length) cg2 3 1 (((pipeGet r1 ni1 eb1 m1).2.2.2.1).map I), .blk b3 25 [.slice A3 (((pipeGet r1 ni1 eb1 m1).1).length) c3, .int .i64 ((pipeGet r1 ni1 eb1 m1).2.1), .bool ((pipeGet r1 ni1 eb1 m1).2.2.1)]]) => ?_)
    refine q trivial rfl rfl (asg (v := .slice Ag2 (((pipeGet r1 ni1 eb1 m1).2.2.2.1).length) cg2) rfl) ?_
    refine q trivial rfl rfl (asg (v := .bool ((pipeGet r1 ni1 eb1 m1).2.2.2.2)) rfl) ?_
    refine nl ?_
    refine nN ?_
    have hs10 : SH w w9 [] [.own A2 (((pipeGet r1 ni1 eb1 m1).1).length) c2 3 1 (((pipeGet r1 ni1 eb1 m1).1).map I), .own Ag1 (((pipeGet r1 ni1 eb1 m1).2.2.2.1).length) cg1 3 1 (((pipeGet r1 ni1 eb1 m1).2.2.2.1).map I), .blk b2 25 [.slice A2 (((pipeGet r1 ni1 eb1 m1).1).length) c2, .int .i64 ((pipeGet r1 ni1 eb1 m1).2.1), .bool ((pipeGet r1 ni1 eb1 m1).2.2.1)], .own A3 (((pipeGet r1 ni1 eb1 m1).1).length) c3 3 1 (((pipeGet r1 ni1 eb1 m1).1).map I), .own Ag2 (((pipeGet r1 ni1 eb1 m1).2.2.2.1).length) cg2 3 1 (((pipeGet r1 ni1 eb1 m1).2.2.2.1).map I), .blk b3 25 [.slice A3 (((pipeGet r1 ni1 eb1 m1).1).length) c3, .int .i64 ((pipeGet r1 ni1 eb1 m1).2.1), .bool ((pipeGet r1 ni1 eb1 m1).2.2.1)]] := hs9.pick [2, 3, 4, 5, 6, 7] rfl (by decide)
    refine sq ?_
    refine sq ?_
    refine rg ?_
    refine q trivial rfl rfl (mv (v := .bool ((pipeGet r1 ni1 eb1 m1).2.2.2.2)) rfl) ?_
    refine q trivial rfl rfl (mv (v := .bool ((pipeGet r1 ni1 eb1 m1).2.2.2.2)) rfl) ?_
    refine q trivial rfl rfl (neb (a := ((pipeGet r1 ni1 eb1 m1).2.2.2.2)) (b := ((pipeGet r1 ni1 eb1 m1).2.2.2.2)) tb4 rfl rfl) ?_
    refine q trivial rfl rfl (mv (v := .bool (decide (((pipeGet r1 ni1 eb1 m1).2.2.2.2) ≠ ((pipeGet r1 ni1 eb1 m1).2.2.2.2)))) rfl) ?_
    refine spd (p := ((pipeGet r1 ni1 eb1 m1).2.2.2.2) ≠ ((pipeGet r1 ni1 eb1 m1).2.2.2.2)) 36 rfl (fun h2 => absurd h2 (by exact fun h => h rfl)) (fun h2 => ?_)
    refine q ⟨_, rfl, rfl⟩ rfl rfl (mv (v := .slice Ag1 (((pipeGet r1 ni1 eb1 m1).2.2.2.1).length) cg1) rfl) ?_
    refine q ⟨_, rfl, rfl⟩ rfl rfl (mv (v := .slice Ag2 (((pipeGet r1 ni1 eb1 m1).2.2.2.1).length) cg2) rfl) ?_
    refine cl ⟨_, rfl, rfl⟩ rfl (sameBytes (Axs := Ag1) (cxs := cg1) (xs := (pipeGet r1 ni1 eb1 m1).2.2.2.1) (Abs := Ag2) (cbs := cg2) (bs := (pipeGet r1 ni1 eb1 m1).2.2.2.1) (w := _) (hxs := (hs10.sl0 1 rfl)) (hbs := (hs10.sl0 4 rfl))) ?_
    rintro _ w10 ⟨rfl, hs11'⟩
    have hs11 : SH w w10 [] [.own A2 (((pipeGet r1 ni1 eb1 m1).1).length) c2 3 1 (((pipeGet r1 ni1 eb1 m1).1).map I), .own Ag1 (((pipeGet r1 ni1 eb1 m1).2.2.2.1).length) cg1 3 1 (((pipeGet r1 ni1 eb1 m1).2.2.2.1).map I), .blk b2 25 [.slice A2 (((pipeGet r1 ni1 eb1 m1).1).length) c2, .int .i64 ((pipeGet r1 ni1 eb1 m1).2.1), .bool ((pipeGet r1 ni1 eb1 m1).2.2.1)], .own A3 (((pipeGet r1 ni1 eb1 m1).1).length) c3 3 1 (((pipeGet r1 ni1 eb1 m1).1).map I), .own Ag2 (((pipeGet r1 ni1 eb1 m1).2.2.2.1).length) cg2 3 1 (((pipeGet r1 ni1 eb1 m1).2.2.2.1).map I), .blk b3 25 [.slice A3 (((pipeGet r1 ni1 eb1 m1).1).length) c3, .int .i64 ((pipeGet r1 ni1 eb1 m1).2.1), .bool ((pipeGet r1 ni1 eb1 m1).2.2.1)]] := hs10.call0 hs11'
    clear hs11'
    refine q ⟨_, rfl, rfl⟩ rfl rfl (nd (p := ((pipeGet r1 ni1 eb1 m1).2.2.2.1) = ((pipeGet r1 ni1 eb1 m1).2.2.2.1)) rfl) ?_
    refine q trivial rfl rfl (pf (v := .bool (decide (¬ (((pipeGet r1 ni1 eb1 m1).2.2.2.1) = ((pipeGet r1 ni1 eb1 m1).2.2.2.1))))) rfl rfl) ?_
    refine q trivial rfl rfl (mv (v := .bool (decide (¬ (((pipeGet r1 ni1 eb1 m1).2.2.2.1) = ((pipeGet r1 ni1 eb1 m1).2.2.2.1))))) rfl) ?_
    refine spd (p := ¬ (((pipeGet r1 ni1 eb1 m1).2.2.2.1) = ((pipeGet r1 ni1 eb1 m1).2.2.2.1))) 42 rfl (fun h3 => absurd h3 (by exact fun h => h rfl)) (fun h3 => ?_)
    refine q ⟨_, rfl, rfl⟩ rfl rfl (ldg (vs := [.slice A2 (((pipeGet r1 ni1 eb1 m1).1).length) c2, .int .i64 ((pipeGet r1 ni1 eb1 m1).2.1), .bool ((pipeGet r1 ni1 eb1 m1).2.2.1)]) hs11 2 rfl rfl rfl rfl ag25) ?_
    refine q ⟨_, rfl, rfl⟩ rfl rfl (ldg (vs := [.slice A3 (((pipeGet r1 ni1 eb1 m1).1).length) c3, .int .i64 ((pipeGet r1 ni1 eb1 m1).2.1), .bool ((pipeGet r1 ni1 eb1 m1).2.2.1)]) hs11 5 rfl rfl rfl rfl ag25) ?_
    refine cl ⟨_, rfl, rfl⟩ rfl (samePipe (Axs := A2) (cxs := c2) (xs := (pipeGet r1 ni1 eb1 m1).1) (n1 := (pipeGet r1 ni1 eb1 m1).2.1) (e1 := ((pipeGet r1 ni1 eb1 m1).2.2.1)) (Ays := A3) (cys := c3) (ys := (pipeGet r1 ni1 eb1 m1).1) (n2 := (pipeGet r1 ni1 eb1 m1).2.1) (e2 := ((pipeGet r1 ni1 eb1 m1).2.2.1)) (w := _) (hxs := (hs11.sl0 0 rfl)) (hys := (hs11.sl0 3 rfl))) ?_
    rintro _ w11 ⟨rfl, hs12'⟩
    have hs12 : SH w w11 [] [.own A2 (((pipeGet r1 ni1 eb1 m1).1).length) c2 3 1 (((pipeGet r1 ni1 eb1 m1).1).map I), .own Ag1 (((pipeGet r1 ni1 eb1 m1).2.2.2.1).length) cg1 3 1 (((pipeGet r1 ni1 eb1 m1).2.2.2.1).map I), .blk b2 25 [.slice A2 (((pipeGet r1 ni1 eb1 m1).1).length) c2, .int .i64 ((pipeGet r1 ni1 eb1 m1).2.1), .bool ((pipeGet r1 ni1 eb1 m1).2.2.1)], .own A3 (((pipeGet r1 ni1 eb1 m1).1).length) c3 3 1 (((pipeGet r1 ni1 eb1 m1).1).map I), .own Ag2 (((pipeGet r1 ni1 eb1 m1).2.2.2.1).length) cg2 3 1 (((pipeGet r1 ni1 eb1 m1).2.2.2.1).map I), .blk b3 25 [.slice A3 (((pipeGet r1 ni1 eb1 m1).1).length) c3, .int .i64 ((pipeGet r1 ni1 eb1 m1).2.1), .bool ((pipeGet r1 ni1 eb1 m1).2.2.1)]] := hs11.call0 hs12'
    clear hs12'
    refine q ⟨_, rfl, rfl⟩ rfl rfl (nd (p := ((pipeGet r1 ni1 eb1 m1).1) = ((pipeGet r1 ni1 eb1 m1).1) ∧ ((pipeGet r1 ni1 eb1 m1).2.1) = ((pipeGet r1 ni1 eb1 m1).2.1) ∧ ((pipeGet r1 ni1 eb1 m1).2.2.1) = ((pipeGet r1 ni1 eb1 m1).2.2.1)) rfl) ?_
    refine q trivial rfl rfl (pf (v := .bool (decide (¬ (((pipeGet r1 ni1 eb1 m1).1) = ((pipeGet r1 ni1 eb1 m1).1) ∧ ((pipeGet r1 ni1 eb1 m1).2.1) = ((pipeGet r1 ni1 eb1 m1).2.1) ∧ ((pipeGet r1 ni1 eb1 m1).2.2.1) = ((pipeGet r1 ni1 eb1 m1).2.2.1))))) rfl rfl) ?_
    refine q trivial rfl rfl (mv (v := .bool (decide (¬ (((pipeGet r1 ni1 eb1 m1).1) = ((pipeGet r1 ni1 eb1 m1).1) ∧ ((pipeGet r1 ni1 eb1 m1).2.1) = ((pipeGet r1 ni1 eb1 m1).2.1) ∧ ((pipeGet r1 ni1 eb1 m1).2.2.1) = ((pipeGet r1 ni1 eb1 m1).2.2.1))))) rfl) ?_
    refine spd (p := ¬ (((pipeGet r1 ni1 eb1 m1).1) = ((pipeGet r1 ni1 eb1 m1).1) ∧ ((pipeGet r1 ni1 eb1 m1).2.1) = ((pipeGet r1 ni1 eb1 m1).2.1) ∧ ((pipeGet r1 ni1 eb1 m1).2.2.1) = ((pipeGet r1 ni1 eb1 m1).2.2.1))) 48 rfl (fun h4 => absurd h4 (by exact fun h => h ⟨rfl, rfl, rfl⟩)) (fun h4 => ?_)
    refine q ⟨_, rfl, rfl⟩ rfl rfl (mv (v := .bool ((pipeGet r1 ni1 eb1 m1).2.2.2.2)) rfl) ?_
    refine q ⟨_, rfl, rfl⟩ rfl rfl (nt (b := (pipeGet r1 ni1 eb1 m1).2.2.2.2) rfl) ?_
    refine q trivial rfl rfl (pf (v := .bool (!((pipeGet r1 ni1 eb1 m1).2.2.2.2))) rfl rfl) ?_
    refine nl ?_
    refine nN ?_
    refine cd (b := !((pipeGet r1 ni1 eb1 m1).2.2.2.2)) rfl (fun h5 => ?_) (fun h5 => ?_)
    · have h6 : ((pipeGet r1 ni1 eb1 m1).2.2.2.2) = false := by simpa using h5
      refine sq ?_
      refine rg ?_
      refine q trivial rfl rfl (mv (v := .bool ((pipeGet r1 ni1 eb1 m1).2.2.2.2)) rfl) ?_
      refine q trivial rfl rfl (mv (v := .bool ((pipeGet r1 ni1 eb1 m1).2.2.2.2)) rfl) ?_
      refine q trivial rfl rfl (eqb (a := ((pipeGet r1 ni1 eb1 m1).2.2.2.2)) (b := ((pipeGet r1 ni1 eb1 m1).2.2.2.2)) tb4 rfl rfl) ?_
      refine q trivial rfl rfl (mv (v := .bool (decide (((pipeGet r1 ni1 eb1 m1).2.2.2.2) = ((pipeGet r1 ni1 eb1 m1).2.2.2.2)))) rfl) ?_
      refine spd (p := ((pipeGet r1 ni1 eb1 m1).2.2.2.2) = ((pipeGet r1 ni1 eb1 m1).2.2.2.2)) 55 rfl (fun h7 => ?_) (fun h7 => absurd (by rfl) h7)
      refine q ⟨_, rfl, rfl⟩ rfl rfl (mv (v := .slice Ag1 (((pipeGet r1 ni1 eb1 m1).2.2.2.1).length) cg1) rfl) ?_
      refine q ⟨_, rfl, rfl⟩ rfl rfl (mv (v := .slice Ag2 (((pipeGet r1 ni1 eb1 m1).2.2.2.1).length) cg2) rfl) ?_
      refine cl ⟨_, rfl, rfl⟩ rfl (sameBytes (Axs := Ag1) (cxs := cg1) (xs := (pipeGet r1 ni1 eb1 m1).2.2.2.1) (Abs := Ag2) (cbs := cg2) (bs := (pipeGet r1 ni1 eb1 m1).2.2.2.1) (w := _) (hxs := (hs12.sl0 1 rfl)) (hbs := (hs12.sl0 4 rfl))) ?_
      rintro _ w12 ⟨rfl, hs13'⟩
      have hs13 : SH w w12 [] [.own A2 (((pipeGet r1 ni1 eb1 m1).1).length) c2 3 1 (((pipeGet r1 ni1 eb1 m1).1).map I), .own Ag1 (((pipeGet r1 ni1 eb1 m1).2.2.2.1).length) cg1 3 1 (((pipeGet r1 ni1 eb1 m1).2.2.2.1).map I), .blk b2 25 [.slice A2 (((pipeGet r1 ni1 eb1 m1).1).length) c2, .int .i64 ((pipeGet r1 ni1 eb1 m1).2.1), .bool ((pipeGet r1 ni1 eb1 m1).2.2.1)], .own A3 (((pipeGet r1 ni1 eb1 m1).1).length) c3 3 1 (((pipeGet r1 ni1 eb1 m1).1).map I), .own Ag2 (((pipeGet r1 ni1 eb1 m1).2.2.2.1).length) cg2 3 1 (((pipeGet r1 ni1 eb1 m1).2.2.2.1).map I), .blk b3 25 [.slice A3 (((pipeGet r1 ni1 eb1 m1).1).length) c3, .int .i64 ((pipeGet r1 ni1 eb1 m1).2.1), .bool ((pipeGet r1 ni1 eb1 m1).2.2.1)]] := hs12.call0 hs13'
      clear hs13'
      refine q trivial rfl rfl (pt (v := .bool (decide (((pipeGet r1 ni1 eb1 m1).2.2.2.1) = ((pipeGet r1 ni1 eb1 m1).2.2.2.1)))) rfl rfl) ?_
      refine q trivial rfl rfl (mv (v := .bool (decide (((pipeGet r1 ni1 eb1 m1).2.2.2.1) = ((pipeGet r1 ni1 eb1 m1).2.2.2.1)))) rfl) ?_
      refine spd (p := ((pipeGet r1 ni1 eb1 m1).2.2.2.1) = ((pipeGet r1 ni1 eb1 m1).2.2.2.1)) 60 rfl (fun h8 => ?_) (fun h8 => absurd (by rfl) h8)
      refine q ⟨_, rfl, rfl⟩ rfl rfl (ldg (vs := [.slice A2 (((pipeGet r1 ni1 eb1 m1).1).length) c2, .int .i64 ((pipeGet r1 ni1 eb1 m1).2.1), .bool ((pipeGet r1 ni1 eb1 m1).2.2.1)]) hs13 2 rfl rfl rfl rfl ag25) ?_
      refine q ⟨_, rfl, rfl⟩ rfl rfl (ldg (vs := [.slice A3 (((pipeGet r1 ni1 eb1 m1).1).length) c3, .int .i64 ((pipeGet r1 ni1 eb1 m1).2.1), .bool ((pipeGet r1 ni1 eb1 m1).2.2.1)]) hs13 5 rfl rfl rfl rfl ag25) ?_
      refine cl ⟨_, rfl, rfl⟩ rfl (samePipe (Axs := A2) (cxs := c2) (xs := (pipeGet r1 ni1 eb1 m1).1) (n1 := (pipeGet r1 ni1 eb1 m1).2.1) (e1 := ((pipeGet r1 ni1 eb1 m1).2.2.1)) (Ays := A3) (cys := c3) (ys := (pipeGet r1 ni1 eb1 m1).1) (n2 := (pipeGet r1 ni1 eb1 m1).2.1) (e2 := ((pipeGet r1 ni1 eb1 m1).2.2.1)) (w := _) (hxs := (hs13.sl0 0 rfl)) (hys := (hs13.sl0 3 rfl))) ?_
      rintro _ w13 ⟨rfl, hs14'⟩
      have hs14 : SH w w13 [] [.own A2 (((pipeGet r1 ni1 eb1 m1).1).length) c2 3 1 (((pipeGet r1 ni1 eb1 m1).1).map I), .own Ag1 (((pipeGet r1 ni1 eb1 m1).2.2.2.1).length) cg1 3 1 (((pipeGet r1 ni1 eb1 m1).2.2.2.1).map I), .blk b2 25 [.slice A2 (((pipeGet r1 ni1 eb1 m1).1).length) c2, .int .i64 ((pipeGet r1 ni1 eb1 m1).2.1), .bool ((pipeGet r1 ni1 eb1 m1).2.2.1)], .own A3 (((pipeGet r1 ni1 eb1 m1).1).length) c3 3 1 (((pipeGet r1 ni1 eb1 m1).1).map I), .own Ag2 (((pipeGet r1 ni1 eb1 m1).2.2.2.1).length) cg2 3 1 (((pipeGet r1 ni1 eb1 m1).2.2.2.1).map I), .blk b3 25 [.slice A3 (((pipeGet r1 ni1 eb1 m1).1).length) c3, .int .i64 ((pipeGet r1 ni1 eb1 m1).2.1), .bool ((pipeGet r1 ni1 eb1 m1).2.2.1)]] := hs13.call0 hs14'
      clear hs14'
      refine q trivial rfl rfl (pt (v := .bool (decide (((pipeGet r1 ni1 eb1 m1).1) = ((pipeGet r1 ni1 eb1 m1).1) ∧ ((pipeGet r1 ni1 eb1 m1).2.1) = ((pipeGet r1 ni1 eb1 m1).2.1) ∧ ((pipeGet r1 ni1 eb1 m1).2.2.1) = ((pipeGet r1 ni1 eb1 m1).2.2.1)))) rfl rfl) ?_
      refine q trivial rfl rfl (asg (v := .bool (decide (((pipeGet r1 ni1 eb1 m1).1) = ((pipeGet r1 ni1 eb1 m1).1) ∧ ((pipeGet r1 ni1 eb1 m1).2.1) = ((pipeGet r1 ni1 eb1 m1).2.1) ∧ ((pipeGet r1 ni1 eb1 m1).2.2.1) = ((pipeGet r1 ni1 eb1 m1).2.2.1)))) rfl) ?_
      refine nl ?_
      refine nN ?_
      have hs15 : SH w w13 [] [] := hs14.pick [] rfl (by decide)
      refine rt (tR ?_)
      refine fret (v := .bool (decide (((pipeGet r1 ni1 eb1 m1).1) = ((pipeGet r1 ni1 eb1 m1).1) ∧ ((pipeGet r1 ni1 eb1 m1).2.1) = ((pipeGet r1 ni1 eb1 m1).2.1) ∧ ((pipeGet r1 ni1 eb1 m1).2.2.1) = ((pipeGet r1 ni1 eb1 m1).2.2.1)))) (.tmp .nil) rfl ?_
      have e1 : (decide (((pipeGet r1 ni1 eb1 m1).1) = ((pipeGet r1 ni1 eb1 m1).1) ∧ ((pipeGet r1 ni1 eb1 m1).2.1) = ((pipeGet r1 ni1 eb1 m1).2.1) ∧ ((pipeGet r1 ni1 eb1 m1).2.2.1) = ((pipeGet r1 ni1 eb1 m1).2.2.1))) = true := by first | rfl | (simp; done) | (have hx := pipeGet_most (by assumption) (by assumption); omega) | (have hx := pipeGet_most (by assumption) (by assumption); simp [hx] at h1 h6 ⊢; try omega)
      exact ⟨(congrArg (Value.bool) e1), hs15⟩
    · have h9 : ((pipeGet r1 ni1 eb1 m1).2.2.2.2) = true := by simpa using h5
      refine sk ?_
      refine nN ?_
      have hs16 : SH w w11 [] [.own A2 (((pipeGet r1 ni1 eb1 m1).1).length) c2 3 1 (((pipeGet r1 ni1 eb1 m1).1).map I), .own Ag1 (((pipeGet r1 ni1 eb1 m1).2.2.2.1).length) cg1 3 1 (((pipeGet r1 ni1 eb1 m1).2.2.2.1).map I), .blk b2 25 [.slice A2 (((pipeGet r1 ni1 eb1 m1).1).length) c2, .int .i64 ((pipeGet r1 ni1 eb1 m1).2.1), .bool ((pipeGet r1 ni1 eb1 m1).2.2.1)]] := hs12.pick [0, 1, 2] rfl (by decide)
      refine sq ?_
      refine rg ?_
      refine q trivial rfl rfl (mv (v := .slice Ag1 (((pipeGet r1 ni1 eb1 m1).2.2.2.1).length) cg1) rfl) ?_
      refine q trivial rfl rfl (lnA (n := ((pipeGet r1 ni1 eb1 m1).2.2.2.1).length) sl23 rfl) ?_
      refine q trivial rfl rfl (mv (v := .int .i64 m1) rfl) ?_
      refine q trivial rfl rfl (eqi (k := .i64) (a := ((((pipeGet r1 ni1 eb1 m1).2.2.2.1).length : Nat) : Int)) (b := m1) rfl rfl) ?_
      refine q trivial rfl rfl (mv (v := .bool (decide (((((pipeGet r1 ni1 eb1 m1).2.2.2.1).length : Nat) : Int) = m1))) rfl) ?_
      refine spd (p := ((((pipeGet r1 ni1 eb1 m1).2.2.2.1).length : Nat) : Int) = m1) 69 rfl (fun h10 => ?_) (fun h10 => ?_)
      · refine gk true rfl rfl rfl rfl rfl ?_
        refine gk true rfl rfl rfl rfl rfl ?_
        refine gk true rfl rfl rfl rfl rfl ?_
        refine gk true rfl rfl rfl rfl rfl ?_
        refine gk true rfl rfl rfl rfl rfl ?_
        refine gku rfl rfl rfl rfl rfl ?_
        refine gku rfl rfl rfl rfl rfl ?_
        refine gku rfl rfl rfl rfl rfl ?_
        refine gku rfl rfl rfl rfl rfl ?_
        refine gk true rfl rfl rfl rfl rfl ?_
        refine q trivial rfl rfl (pt (v := .bool true) rfl rfl) ?_
        refine q trivial rfl rfl (asg (v := .bool true) rfl) ?_
        refine nl ?_
        refine nN ?_
        refine rt ?_
        refine fret (v := .bool true) (.tmp .nil) rfl ?_
        exact ⟨rfl, (hs16.pick [] rfl (by decide))⟩
      · refine q ⟨_, rfl, rfl⟩ rfl rfl (mv (v := .slice Ag1 (((pipeGet r1 ni1 eb1 m1).2.2.2.1).length) cg1) rfl) ?_
        refine q ⟨_, rfl, rfl⟩ rfl rfl (lnA (n := ((pipeGet r1 ni1 eb1 m1).2.2.2.1).length) sl23 rfl) ?_
        refine q ⟨_, rfl, rfl⟩ rfl rfl (mv (v := .int .i64 m1) rfl) ?_
        refine q ⟨_, rfl, rfl⟩ rfl rfl (lss (k := .i64) (a := ((((pipeGet r1 ni1 eb1 m1).2.2.2.1).length : Nat) : Int)) (b := m1) rfl rfl) ?_
        refine q ⟨_, rfl, rfl⟩ rfl rfl (mv (v := .bool (decide (((((pipeGet r1 ni1 eb1 m1).2.2.2.1).length : Nat) : Int) < m1))) rfl) ?_
        refine spd (p := ((((pipeGet r1 ni1 eb1 m1).2.2.2.1).length : Nat) : Int) < m1) 74 rfl (fun h11 => ?_) (fun h11 => ?_)
        · refine q ⟨_, rfl, rfl⟩ rfl rfl (fa 0 fo25_0 rfl) ?_
          refine q ⟨_, rfl, rfl⟩ rfl rfl (ld (v := .slice A2 (((pipeGet r1 ni1 eb1 m1).1).length) c2) hs16 2 rfl rfl rfl one23) ?_
          refine q ⟨_, rfl, rfl⟩ rfl rfl (lnA (n := ((pipeGet r1 ni1 eb1 m1).1).length) sl23 rfl) ?_
          refine q ⟨_, rfl, rfl⟩ rfl rfl (eqi (k := .i64) (a := ((((pipeGet r1 ni1 eb1 m1).1).length : Nat) : Int)) (b := 0) rfl rfl) ?_
          refine q ⟨_, rfl, rfl⟩ rfl rfl (pt (v := .bool (decide (((((pipeGet r1 ni1 eb1 m1).1).length : Nat) : Int) = 0))) rfl rfl) ?_
          refine q trivial rfl rfl (pf (v := .bool (decide (((((pipeGet r1 ni1 eb1 m1).1).length : Nat) : Int) = 0))) rfl rfl) ?_
          refine q trivial rfl rfl (asg (v := .bool (decide (((((pipeGet r1 ni1 eb1 m1).1).length : Nat) : Int) = 0))) rfl) ?_
          refine nl ?_
          refine nN ?_
          refine rt ?_
          refine fret (v := .bool (decide (((((pipeGet r1 ni1 eb1 m1).1).length : Nat) : Int) = 0))) (.tmp .nil) rfl ?_
          have e2 : (decide (((((pipeGet r1 ni1 eb1 m1).1).length : Nat) : Int) = 0)) = true := by first | rfl | (simp; done) | (have hx := pipeGet_most (by assumption) (by assumption); omega) | (have hx := pipeGet_most (by assumption) (by assumption); simp [hx] at h1 h9 h10 h11 ⊢; try omega)
          exact ⟨(congrArg (Value.bool) e2), (hs16.pick [] rfl (by decide))⟩
        · refine gk false rfl rfl rfl rfl rfl ?_
          refine gk false rfl rfl rfl rfl rfl ?_
          refine gk false rfl rfl rfl rfl rfl ?_
          refine gk false rfl rfl rfl rfl rfl ?_
          refine q ⟨_, rfl, rfl⟩ rfl rfl (pf (v := .bool false) rfl rfl) ?_
          refine q trivial rfl rfl (pf (v := .bool false) rfl rfl) ?_
          refine q trivial rfl rfl (asg (v := .bool false) rfl) ?_
          refine nl ?_
          refine nN ?_
          refine rt ?_
          refine fret (v := .bool false) (.tmp .nil) rfl ?_
          have e3 : false = true := by first | rfl | (simp; done) | (have hx := pipeGet_most (by assumption) (by assumption); omega) | (have hx := pipeGet_most (by assumption) (by assumption); simp [hx] at h1 h9 h10 h11 ⊢; try omega)
          exact ⟨(congrArg (Value.bool) e3), (hs16.pick [] rfl (by decide))⟩

end Go.Proofs.Ytgefaejgkcbkpaa
