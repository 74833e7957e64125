/-
  Part of the proofs over this seat: what each function of the program computes, function by function (the text is written by a program of this hand-in's own).
  Conditions: each theorem states its own.
-/
import Derived.Test.YtgefaejgkcbkpaaPfWalks2
namespace Go.Proofs.Ytgefaejgkcbkpaa
open Go.PF
set_option maxRecDepth 100000
set_option linter.unusedSimpArgs false
set_option linter.unusedVariables false

theorem lPipeGet {Acs : Option Addr} {ccs : Nat} (cs : List UInt8) (w : World) (hcs : Sl w [] 1 Acs cs.length ccs (cs.map U)) : Does Try.prog 5 [.slice Acs cs.length ccs] w (fun v w' => v = .bool true ∧ SH w w' [] []) := by
  refine fn_enter (N := 92) Try.func5 rfl (by kernel_rfl) rfl rfl rfl ?_
  have hs0 : SH w w [] [] := SH.refl w []
  have hcs_m : cs.length ≤ 9223372036854775807 := Nat.le_trans hcs.cap hcs.capMax
  refine sq ?_
  refine rg ?_
  refine q trivial rfl rfl (asg (v := .bool false) rfl) ?_
  refine nl ?_
  refine nN ?_
  refine sq ?_
  refine sq ?_
  refine rg ?_
  refine q trivial rfl rfl (mv (v := .slice Acs cs.length ccs) rfl) ?_
  refine q trivial rfl rfl (lnA (n := cs.length) sl22 rfl) ?_
  refine q trivial rfl rfl (gtr (k := .i64) (a := ((cs.length : Nat) : Int)) (b := 1048576) rfl rfl) ?_
  refine nl ?_
  refine nN ?_
  refine cdd (p := (1048576 : Int) < ((cs.length : Nat) : Int)) rfl (fun h1 => ?_) (fun h1 => ?_)
  · refine sq ?_
    refine rg ?_
    refine q trivial rfl rfl (asg (v := .bool true) rfl) ?_
    refine nl ?_
    refine nN ?_
    refine rt (tR ?_)
    refine fret (v := .bool true) (.tmp .nil) rfl ?_
    exact ⟨rfl, hs0⟩
  · refine sk ?_
    refine nN ?_
    refine sq ?_
    refine rg ?_
    refine q trivial rfl rfl (mv (v := .slice Acs cs.length ccs) rfl) ?_
    refine cl trivial rfl (drawPipeGet (Acs := Acs) (ccs := ccs) (cs := cs) (w := _) (hcs := (hcs.up0 hs0))) ?_
    rintro _ w1 ⟨A1, c1, r1, ni1, eb1, m1, rfl, p1, p2, hs1'⟩
    have hs1 : SH w w1 [] [.own A1 r1.length c1 3 1 (r1.map I)] := hs0.call0 hs1'
    clear hs1'
    refine q trivial rfl rfl (mv (v := .tuple #[.agg #[.slice A1 r1.length c1, .int .i64 ni1, .bool eb1], .int .i64 m1]) rfl) ?_
    refine q trivial rfl rfl (xt 0 (v := .agg #[.slice A1 r1.length c1, .int .i64 ni1, .bool eb1]) rfl rfl) ?_
    refine q trivial rfl rfl (xt 1 (v := .int .i64 m1) rfl rfl) ?_
    refine al (v := .agg #[.slice none 0 0, .int .i64 0, .bool false]) (cs := [.slice none 0 0, .int .i64 0, .bool false]) hs1 tz25 rfl trivial rfl (fun b1 w2 (hs2 : SH w w2 [] [.own A1 r1.length c1 3 1 (r1.map I), .blk b1 25 [.slice none 0 0, .int .i64 0, .bool false]]) => ?_)
    refine stg (vs := [.slice A1 r1.length c1, .int .i64 ni1, .bool eb1]) hs2 1 rfl rfl rfl rfl rfl rfl rfl ag25 trivial (fun w3 (hs3 : SH w w3 [] [.own A1 r1.length c1 3 1 (r1.map I), .blk b1 25 [.slice A1 r1.length c1, .int .i64 ni1, .bool eb1]]) => ?_)
    refine q trivial rfl rfl (asg (v := .int .i64 m1) rfl) ?_
    refine nl ?_
    refine nN ?_
    refine sq ?_
    refine rg ?_
    refine q trivial rfl rfl (ldg (vs := [.slice A1 r1.length c1, .int .i64 ni1, .bool eb1]) hs3 1 rfl rfl rfl rfl ag25) ?_
    refine q trivial rfl rfl (mv (v := .int .i64 m1) rfl) ?_
    refine cl trivial rfl (iPipeGet (Axs := A1) (cxs := c1) (xs := r1) (ni := ni1) (eb := eb1) (m := m1) (w := _) (hxs := (hs3.sl0 0 rfl))) ?_
    rintro _ w4 ⟨A2, c2, Ag1, cg1, rfl, hs4'⟩
    have hs4 : SH w w4 [] [.own A1 r1.length c1 3 1 (r1.map I), .blk b1 25 [.slice A1 r1.length c1, .int .i64 ni1, .bool eb1], .own A2 (((pipeGet r1 ni1 eb1 m1).1).length) c2 3 1 (((pipeGet r1 ni1 eb1 m1).1).map I), .own Ag1 (((pipeGet r1 ni1 eb1 m1).2.2.2.1).length) cg1 3 1 (((pipeGet r1 ni1 eb1 m1).2.2.2.1).map I)] := hs3.call0 hs4'
    clear hs4'
    refine q trivial rfl rfl (mv (v := .tuple #[.agg #[.slice A2 (((pipeGet r1 ni1 eb1 m1).1).length) c2, .int .i64 ((pipeGet r1 ni1 eb1 m1).2.1), .bool ((pipeGet r1 ni1 eb1 m1).2.2.1)], .slice Ag1 (((pipeGet r1 ni1 eb1 m1).2.2.2.1).length) cg1, .bool ((pipeGet r1 ni1 eb1 m1).2.2.2.2)]) rfl) ?_
    refine q trivial rfl rfl (xt 0 (v := .agg #[.slice A2 (((pipeGet r1 ni1 eb1 m1).1).length) c2, .int .i64 ((pipeGet r1 ni1 eb1 m1).2.1), .bool ((pipeGet r1 ni1 eb1 m1).2.2.1)]) rfl rfl) ?_
    refine q trivial rfl rfl (xt 1 (v := .slice Ag1 (((pipeGet r1 ni1 eb1 m1).2.2.2.1).length) cg1) rfl rfl) ?_
    refine q trivial rfl rfl (xt 2 (v := .bool ((pipeGet r1 ni1 eb1 m1).2.2.2.2)) rfl rfl) ?_
    refine al (v := .agg #[.slice none 0 0, .int .i64 0, .bool false]) (cs := [.slice none 0 0, .int .i64 0, .bool false]) hs4 tz25 rfl trivial rfl (fun b2 w5 (hs5 : SH w w5 [] [.own A1 r1.length c1 3 1 (r1.map I), .blk b1 25 [.slice A1 r1.length c1, .int .i64 ni1, .bool eb1], .own A2 (((pipeGet r1 ni1 eb1 m1).1).length) c2 3 1 (((pipeGet r1 ni1 eb1 m1).1).map I), .own Ag1 (((pipeGet r1 ni1 eb1 m1).2.2.2.1).length) cg1 3 1 (((pipeGet r1 ni1 eb1 m1).2.2.2.1).map I), .blk b2 25 [.slice none 0 0, .int .i64 0, .bool false]]) => ?_)
    refine stg (vs := [.slice A2 (((pipeGet r1 ni1 eb1 m1).1).length) c2, .int .i64 ((pipeGet r1 ni1 eb1 m1).2.1), .bool ((pipeGet r1 ni1 eb1 m1).2.2.1)]) hs5 4 rfl rfl rfl rfl rfl rfl rfl ag25 trivial (fun w6 (hs6 : SH w w6 [] [.own A1 r1.length c1 3 1 (r1.map I), .blk b1 25 [.slice A1 r1.length c1, .int .i64 ni1, .bool eb1], .own A2 (((pipeGet r1 ni1 eb1 m1).1).length) c2 3 1 (((pipeGet r1 ni1 eb1 m1).1).map I), .own Ag1 (((pipeGet r1 ni1 eb1 m1).2.2.2.1).length) cg1 3 1 (((pipeGet r1 ni1 eb1 m1).2.2.2.1).map I), .blk b2 25 [.slice A2 (((pipeGet r1 ni1 eb1 m1).1).length) c2, .int .i64 ((pipeGet r1 ni1 eb1 m1).2.1), .bool ((pipeGet r1 ni1 eb1 m1).2.2.1)]]) => ?_)
    refine q trivial rfl rfl (asg (v := .slice Ag1 (((pipeGet r1 ni1 eb1 m1).2.2.2.1).length) cg1) rfl) ?_
    refine q trivial rfl rfl (asg (v := .bool ((pipeGet r1 ni1 eb1 m1).2.2.2.2)) rfl) ?_
    refine nl ?_
    refine nN ?_
    refine sq ?_
    refine rg ?_
    refine q trivial rfl rfl (ldg (vs := [.slice A1 r1.length c1, .int .i64 ni1, .bool eb1]) hs6 1 rfl rfl rfl rfl ag25) ?_
    refine q trivial rfl rfl (mv (v := .int .i64 m1) rfl) ?_
    refine cl trivial rfl (sPipeGet (Axs := A1) (cxs := c1) (xs := r1) (ni := ni1) (eb := eb1) (m := m1) (w := _) (hxs := (hs6.sl0 0 rfl))) ?_
    rintro _ w7 ⟨A3, c3, Ag2, cg2, rfl, hs7'⟩
    have hs7 : SH w w7 [] [.own A1 r1.length c1 3 1 (r1.map I), .blk b1 25 [.slice A1 r1.length c1, .int .i64 ni1, .bool eb1], .own A2 (((pipeGet r1 ni1 eb1 m1).1).length) c2 3 1 (((pipeGet r1 ni1 eb1 m1).1).map I), .own Ag1 (((pipeGet r1 ni1 eb1 m1).2.2.2.1).length) cg1 3 1 (((pipeGet r1 ni1 eb1 m1).2.2.2.1).map I), .blk b2 25 [.slice A2 (((pipeGet r1 ni1 eb1 m1).1).length) c2, .int .i64 ((pipeGet r1 ni1 eb1 m1).2.1), .bool ((pipeGet r1 ni1 eb1 m1).2.2.1)], .own A3 (((pipeGet r1 ni1 eb1 m1).1).length) c3 3 1 (((pipeGet r1 ni1 eb1 m1).1).map I), .own Ag2 (((pipeGet r1 ni1 eb1 m1).2.2.2.1).length) cg2 3 1 (((pipeGet r1 ni1 eb1 m1).2.2.2.1).map I)] := hs6.call0 hs7'
    clear hs7'
    refine q trivial rfl rfl (mv (v := .tuple #[.agg #[.slice A3 (((pipeGet r1 ni1 eb1 m1).1).length) c3, .int .i64 ((pipeGet r1 ni1 eb1 m1).2.1), .bool ((pipeGet r1 ni1 eb1 m1).2.2.1)], .slice Ag2 (((pipeGet r1 ni1 eb1 m1).2.2.2.1).length) cg2, .bool ((pipeGet r1 ni1 eb1 m1).2.2.2.2)]) rfl) ?_
    refine q trivial rfl rfl (xt 0 (v := .agg #[.slice A3 (((pipeGet r1 ni1 eb1 m1).1).length) c3, .int .i64 ((pipeGet r1 ni1 eb1 m1).2.1), .bool ((pipeGet r1 ni1 eb1 m1).2.2.1)]) rfl rfl) ?_
    refine q trivial rfl rfl (xt 1 (v := .slice Ag2 (((pipeGet r1 ni1 eb1 m1).2.2.2.1).length) cg2) rfl rfl) ?_
    refine q trivial rfl rfl (xt 2 (v := .bool ((pipeGet r1 ni1 eb1 m1).2.2.2.2)) rfl rfl) ?_
    refine al (v := .agg #[.slice none 0 0, .int .i64 0, .bool false]) (cs := [.slice none 0 0, .int .i64 0, .bool false]) hs7 tz25 rfl trivial rfl (fun b3 w8 (hs8 : SH w w8 [] [.own A1 r1.length c1 3 1 (r1.map I), .blk b1 25 [.slice A1 r1.length c1, .int .i64 ni1, .bool eb1], .own A2 (((pipeGet r1 ni1 eb1 m1).1).length) c2 3 1 (((pipeGet r1 ni1 eb1 m1).1).map I), .own Ag1 (((pipeGet r1 ni1 eb1 m1).2.2.2.1).length) cg1 3 1 (((pipeGet r1 ni1 eb1 m1).2.2.2.1).map I), .blk b2 25 [.slice A2 (((pipeGet r1 ni1 eb1 m1).1).length) c2, .int .i64 ((pipeGet r1 ni1 eb1 m1).2.1), .bool ((pipeGet r1 ni1 eb1 m1).2.2.1)], .own A3 (((pipeGet r1 ni1 eb1 m1).1).length) c3 3 1 (((pipeGet r1 ni1 eb1 m1).1).map I), .own Ag2 (((pipeGet r1 ni1 eb1 m1).2.2.2.1).length) cg2 3 1 (((pipeGet r1 ni1 eb1 m1).2.2.2.1).map I), .blk b3 25 [.slice none 0 0, .int .i64 0, .bool false]]) => ?_)
    refine stg (vs := [.slice A3 (((pipeGet r1 ni1 eb1 m1).1).length) c3, .int .i64 ((pipeGet r1 ni1 eb1 m1).2.1), .bool ((pipeGet r1 ni1 eb1 m1).2.2.1)]) hs8 7 rfl rfl rfl rfl rfl rfl rfl ag25 trivial (fun w9 (hs9 : SH w w9 [] [.own A1 r1.length c1 3 1 (r1.map I), .blk b1 25 [.slice A1 r1.length c1, .int .i64 ni1, .bool eb1], .own A2 (((pipeGet r1 ni1 eb1 m1).1).length) c2 3 1 (((pipeGet r1 ni1 eb1 m1).1).map I), .own Ag1 (((pipeGet r1 ni1 eb1 m1).2.2.2.1).length) cg1 3 1 (((pipeGet r1 ni1 eb1 m1).2.2.2.1).map I), .blk b2 25 [.slice A2 (((pipeGet r1 ni1 eb1 m1).1).length) c2, .int .i64 ((pipeGet r1 ni1 eb1 m1).2.1), .bool ((pipeGet r1 ni1 eb1 m1).2.2.1)], .own A3 (((pipeGet r1 ni1 eb1 m1).1).length) c3 3 1 (((pipeGet r1 ni1 eb1 m1).1).map I), .own Ag2 (((pipeGet r1 ni1 eb1 m1).2.2.2.1).length) cg2 3 1 (((pipeGet r1 ni1 eb1 m1).2.2.2.1).map I), .blk b3 25 [.slice A3 (((pipeGet r1 ni1 eb1 m1).1).length) c3, .int .i64 ((pipeGet r1 ni1 eb1 m1).2.1), .bool ((pipeGet r1 ni1 eb1 m1).2.2.1)]]) => ?_)
    refine q trivial rfl rfl (asg (v := .slice Ag2 (((pipeGet r1 ni1 eb1 m1).2.2.2.1).length) cg2) rfl) ?_
    refine q trivial rfl rfl (asg (v := .bool ((pipeGet r1 ni1 eb1 m1).2.2.2.2)) rfl) ?_
    refine nl ?_
    refine nN ?_
    refine sq ?_
    refine sq ?_
    refine rg ?_
    refine q trivial rfl rfl (mv (v := .bool ((pipeGet r1 ni1 eb1 m1).2.2.2.2)) rfl) ?_
    refine q trivial rfl rfl (mv (v := .bool ((pipeGet r1 ni1 eb1 m1).2.2.2.2)) rfl) ?_
    refine q trivial rfl rfl (neb (a := ((pipeGet r1 ni1 eb1 m1).2.2.2.2)) (b := ((pipeGet r1 ni1 eb1 m1).2.2.2.2)) tb4 rfl rfl) ?_
    refine q trivial rfl rfl (mv (v := .bool (decide (((pipeGet r1 ni1 eb1 m1).2.2.2.2) ≠ ((pipeGet r1 ni1 eb1 m1).2.2.2.2)))) rfl) ?_
    refine spd (p := ((pipeGet r1 ni1 eb1 m1).2.2.2.2) ≠ ((pipeGet r1 ni1 eb1 m1).2.2.2.2)) 36 rfl (fun h2 => absurd h2 (by exact fun h => h rfl)) (fun h2 => ?_)
    refine q ⟨_, rfl, rfl⟩ rfl rfl (mv (v := .slice Ag1 (((pipeGet r1 ni1 eb1 m1).2.2.2.1).length) cg1) rfl) ?_
    refine q ⟨_, rfl, rfl⟩ rfl rfl (mv (v := .slice Ag2 (((pipeGet r1 ni1 eb1 m1).2.2.2.1).length) cg2) rfl) ?_
    refine cl ⟨_, rfl, rfl⟩ rfl (sameBytes (Axs := Ag1) (cxs := cg1) (xs := (pipeGet r1 ni1 eb1 m1).2.2.2.1) (Abs := Ag2) (cbs := cg2) (bs := (pipeGet r1 ni1 eb1 m1).2.2.2.1) (w := _) (hxs := (hs9.sl0 3 rfl)) (hbs := (hs9.sl0 6 rfl))) ?_
    rintro _ w10 ⟨rfl, hs10'⟩
    have hs10 : SH w w10 [] [.own A1 r1.length c1 3 1 (r1.map I), .blk b1 25 [.slice A1 r1.length c1, .int .i64 ni1, .bool eb1], .own A2 (((pipeGet r1 ni1 eb1 m1).1).length) c2 3 1 (((pipeGet r1 ni1 eb1 m1).1).map I), .own Ag1 (((pipeGet r1 ni1 eb1 m1).2.2.2.1).length) cg1 3 1 (((pipeGet r1 ni1 eb1 m1).2.2.2.1).map I), .blk b2 25 [.slice A2 (((pipeGet r1 ni1 eb1 m1).1).length) c2, .int .i64 ((pipeGet r1 ni1 eb1 m1).2.1), .bool ((pipeGet r1 ni1 eb1 m1).2.2.1)], .own A3 (((pipeGet r1 ni1 eb1 m1).1).length) c3 3 1 (((pipeGet r1 ni1 eb1 m1).1).map I), .own Ag2 (((pipeGet r1 ni1 eb1 m1).2.2.2.1).length) cg2 3 1 (((pipeGet r1 ni1 eb1 m1).2.2.2.1).map I), .blk b3 25 [.slice A3 (((pipeGet r1 ni1 eb1 m1).1).length) c3, .int .i64 ((pipeGet r1 ni1 eb1 m1).2.1), .bool ((pipeGet r1 ni1 eb1 m1).2.2.1)]] := hs9.call0 hs10'
    clear hs10'
    refine q ⟨_, rfl, rfl⟩ rfl rfl (nd (p := ((pipeGet r1 ni1 eb1 m1).2.2.2.1) = ((pipeGet r1 ni1 eb1 m1).2.2.2.1)) rfl) ?_
    refine q trivial rfl rfl (pf (v := .bool (decide (¬ (((pipeGet r1 ni1 eb1 m1).2.2.2.1) = ((pipeGet r1 ni1 eb1 m1).2.2.2.1))))) rfl rfl) ?_
    refine q trivial rfl rfl (mv (v := .bool (decide (¬ (((pipeGet r1 ni1 eb1 m1).2.2.2.1) = ((pipeGet r1 ni1 eb1 m1).2.2.2.1))))) rfl) ?_
    refine spd (p := ¬ (((pipeGet r1 ni1 eb1 m1).2.2.2.1) = ((pipeGet r1 ni1 eb1 m1).2.2.2.1))) 42 rfl (fun h3 => absurd h3 (by exact fun h => h rfl)) (fun h3 => ?_)
    refine q ⟨_, rfl, rfl⟩ rfl rfl (ldg (vs := [.slice A2 (((pipeGet r1 ni1 eb1 m1).1).length) c2, .int .i64 ((pipeGet r1 ni1 eb1 m1).2.1), .bool ((pipeGet r1 ni1 eb1 m1).2.2.1)]) hs10 4 rfl rfl rfl rfl ag25) ?_
    refine q ⟨_, rfl, rfl⟩ rfl rfl (ldg (vs := [.slice A3 (((pipeGet r1 ni1 eb1 m1).1).length) c3, .int .i64 ((pipeGet r1 ni1 eb1 m1).2.1), .bool ((pipeGet r1 ni1 eb1 m1).2.2.1)]) hs10 7 rfl rfl rfl rfl ag25) ?_
    refine cl ⟨_, rfl, rfl⟩ rfl (samePipe (Axs := A2) (cxs := c2) (xs := (pipeGet r1 ni1 eb1 m1).1) (n1 := (pipeGet r1 ni1 eb1 m1).2.1) (e1 := ((pipeGet r1 ni1 eb1 m1).2.2.1)) (Ays := A3) (cys := c3) (ys := (pipeGet r1 ni1 eb1 m1).1) (n2 := (pipeGet r1 ni1 eb1 m1).2.1) (e2 := ((pipeGet r1 ni1 eb1 m1).2.2.1)) (w := _) (hxs := (hs10.sl0 2 rfl)) (hys := (hs10.sl0 5 rfl))) ?_
    rintro _ w11 ⟨rfl, hs11'⟩
    have hs11 : SH w w11 [] [.own A1 r1.length c1 3 1 (r1.map I), .blk b1 25 [.slice A1 r1.length c1, .int .i64 ni1, .bool eb1], .own A2 (((pipeGet r1 ni1 eb1 m1).1).length) c2 3 1 (((pipeGet r1 ni1 eb1 m1).1).map I), .own Ag1 (((pipeGet r1 ni1 eb1 m1).2.2.2.1).length) cg1 3 1 (((pipeGet r1 ni1 eb1 m1).2.2.2.1).map I), .blk b2 25 [.slice A2 (((pipeGet r1 ni1 eb1 m1).1).length) c2, .int .i64 ((pipeGet r1 ni1 eb1 m1).2.1), .bool ((pipeGet r1 ni1 eb1 m1).2.2.1)], .own A3 (((pipeGet r1 ni1 eb1 m1).1).length) c3 3 1 (((pipeGet r1 ni1 eb1 m1).1).map I), .own Ag2 (((pipeGet r1 ni1 eb1 m1).2.2.2.1).length) cg2 3 1 (((pipeGet r1 ni1 eb1 m1).2.2.2.1).map I), .blk b3 25 [.slice A3 (((pipeGet r1 ni1 eb1 m1).1).length) c3, .int .i64 ((pipeGet r1 ni1 eb1 m1).2.1), .bool ((pipeGet r1 ni1 eb1 m1).2.2.1)]] := hs10.call0 hs11'
    clear hs11'
    refine q ⟨_, rfl, rfl⟩ rfl rfl (nd (p := ((pipeGet r1 ni1 eb1 m1).1) = ((pipeGet r1 ni1 eb1 m1).1) ∧ ((pipeGet r1 ni1 eb1 m1).2.1) = ((pipeGet r1 ni1 eb1 m1).2.1) ∧ ((pipeGet r1 ni1 eb1 m1).2.2.1) = ((pipeGet r1 ni1 eb1 m1).2.2.1)) rfl) ?_
    refine q trivial rfl rfl (pf (v := .bool (decide (¬ (((pipeGet r1 ni1 eb1 m1).1) = ((pipeGet r1 ni1 eb1 m1).1) ∧ ((pipeGet r1 ni1 eb1 m1).2.1) = ((pipeGet r1 ni1 eb1 m1).2.1) ∧ ((pipeGet r1 ni1 eb1 m1).2.2.1) = ((pipeGet r1 ni1 eb1 m1).2.2.1))))) rfl rfl) ?_
    refine q trivial rfl rfl (mv (v := .bool (decide (¬ (((pipeGet r1 ni1 eb1 m1).1) = ((pipeGet r1 ni1 eb1 m1).1) ∧ ((pipeGet r1 ni1 eb1 m1).2.1) = ((pipeGet r1 ni1 eb1 m1).2.1) ∧ ((pipeGet r1 ni1 eb1 m1).2.2.1) = ((pipeGet r1 ni1 eb1 m1).2.2.1))))) rfl) ?_
    refine spd (p := ¬ (((pipeGet r1 ni1 eb1 m1).1) = ((pipeGet r1 ni1 eb1 m1).1) ∧ ((pipeGet r1 ni1 eb1 m1).2.1) = ((pipeGet r1 ni1 eb1 m1).2.1) ∧ ((pipeGet r1 ni1 eb1 m1).2.2.1) = ((pipeGet r1 ni1 eb1 m1).2.2.1))) 48 rfl (fun h4 => absurd h4 (by exact fun h => h ⟨rfl, rfl, rfl⟩)) (fun h4 => ?_)
    refine q ⟨_, rfl, rfl⟩ rfl rfl (mv (v := .bool ((pipeGet r1 ni1 eb1 m1).2.2.2.2)) rfl) ?_
    refine q ⟨_, rfl, rfl⟩ rfl rfl (nt (b := (pipeGet r1 ni1 eb1 m1).2.2.2.2) rfl) ?_
    refine q trivial rfl rfl (pf (v := .bool (!((pipeGet r1 ni1 eb1 m1).2.2.2.2))) rfl rfl) ?_
    refine nl ?_
    refine nN ?_
    refine cd (b := !((pipeGet r1 ni1 eb1 m1).2.2.2.2)) rfl (fun h5 => ?_) (fun h5 => ?_)
    · have h6 : ((pipeGet r1 ni1 eb1 m1).2.2.2.2) = false := by simpa using h5
      refine sq ?_
      refine rg ?_
      refine q trivial rfl rfl (mv (v := .bool ((pipeGet r1 ni1 eb1 m1).2.2.2.2)) rfl) ?_
      refine q trivial rfl rfl (mv (v := .bool ((pipeGet r1 ni1 eb1 m1).2.2.2.2)) rfl) ?_
      refine q trivial rfl rfl (eqb (a := ((pipeGet r1 ni1 eb1 m1).2.2.2.2)) (b := ((pipeGet r1 ni1 eb1 m1).2.2.2.2)) tb4 rfl rfl) ?_
      refine q trivial rfl rfl (mv (v := .bool (decide (((pipeGet r1 ni1 eb1 m1).2.2.2.2) = ((pipeGet r1 ni1 eb1 m1).2.2.2.2)))) rfl) ?_
      refine spd (p := ((pipeGet r1 ni1 eb1 m1).2.2.2.2) = ((pipeGet r1 ni1 eb1 m1).2.2.2.2)) 55 rfl (fun h7 => ?_) (fun h7 => absurd (by rfl) h7)
      refine q ⟨_, rfl, rfl⟩ rfl rfl (mv (v := .slice Ag1 (((pipeGet r1 ni1 eb1 m1).2.2.2.1).length) cg1) rfl) ?_
      refine q ⟨_, rfl, rfl⟩ rfl rfl (mv (v := .slice Ag2 (((pipeGet r1 ni1 eb1 m1).2.2.2.1).length) cg2) rfl) ?_
      refine cl ⟨_, rfl, rfl⟩ rfl (sameBytes (Axs := Ag1) (cxs := cg1) (xs := (pipeGet r1 ni1 eb1 m1).2.2.2.1) (Abs := Ag2) (cbs := cg2) (bs := (pipeGet r1 ni1 eb1 m1).2.2.2.1) (w := _) (hxs := (hs11.sl0 3 rfl)) (hbs := (hs11.sl0 6 rfl))) ?_
      rintro _ w12 ⟨rfl, hs12'⟩
      have hs12 : SH w w12 [] [.own A1 r1.length c1 3 1 (r1.map I), .blk b1 25 [.slice A1 r1.length c1, .int .i64 ni1, .bool eb1], .own A2 (((pipeGet r1 ni1 eb1 m1).1).length) c2 3 1 (((pipeGet r1 ni1 eb1 m1).1).map I), .own Ag1 (((pipeGet r1 ni1 eb1 m1).2.2.2.1).length) cg1 3 1 (((pipeGet r1 ni1 eb1 m1).2.2.2.1).map I), .blk b2 25 [.slice A2 (((pipeGet r1 ni1 eb1 m1).1).length) c2, .int .i64 ((pipeGet r1 ni1 eb1 m1).2.1), .bool ((pipeGet r1 ni1 eb1 m1).2.2.1)], .own A3 (((pipeGet r1 ni1 eb1 m1).1).length) c3 3 1 (((pipeGet r1 ni1 eb1 m1).1).map I), .own Ag2 (((pipeGet r1 ni1 eb1 m1).2.2.2.1).length) cg2 3 1 (((pipeGet r1 ni1 eb1 m1).2.2.2.1).map I), .blk b3 25 [.slice A3 (((pipeGet r1 ni1 eb1 m1).1).length) c3, .int .i64 ((pipeGet r1 ni1 eb1 m1).2.1), .bool ((pipeGet r1 ni1 eb1 m1).2.2.1)]] := hs11.call0 hs12'
      clear hs12'
      refine q trivial rfl rfl (pt (v := .bool (decide (((pipeGet r1 ni1 eb1 m1).2.2.2.1) = ((pipeGet r1 ni1 eb1 m1).2.2.2.1)))) rfl rfl) ?_
      refine q trivial rfl rfl (mv (v := .bool (decide (((pipeGet r1 ni1 eb1 m1).2.2.2.1) = ((pipeGet r1 ni1 eb1 m1).2.2.2.1)))) rfl) ?_
      refine spd (p := ((pipeGet r1 ni1 eb1 m1).2.2.2.1) = ((pipeGet r1 ni1 eb1 m1).2.2.2.1)) 60 rfl (fun h8 => ?_) (fun h8 => absurd (by rfl) h8)
      refine q ⟨_, rfl, rfl⟩ rfl rfl (ldg (vs := [.slice A2 (((pipeGet r1 ni1 eb1 m1).1).length) c2, .int .i64 ((pipeGet r1 ni1 eb1 m1).2.1), .bool ((pipeGet r1 ni1 eb1 m1).2.2.1)]) hs12 4 rfl rfl rfl rfl ag25) ?_
      refine q ⟨_, rfl, rfl⟩ rfl rfl (ldg (vs := [.slice A3 (((pipeGet r1 ni1 eb1 m1).1).length) c3, .int .i64 ((pipeGet r1 ni1 eb1 m1).2.1), .bool ((pipeGet r1 ni1 eb1 m1).2.2.1)]) hs12 7 rfl rfl rfl rfl ag25) ?_
      refine cl ⟨_, rfl, rfl⟩ rfl (samePipe (Axs := A2) (cxs := c2) (xs := (pipeGet r1 ni1 eb1 m1).1) (n1 := (pipeGet r1 ni1 eb1 m1).2.1) (e1 := ((pipeGet r1 ni1 eb1 m1).2.2.1)) (Ays := A3) (cys := c3) (ys := (pipeGet r1 ni1 eb1 m1).1) (n2 := (pipeGet r1 ni1 eb1 m1).2.1) (e2 := ((pipeGet r1 ni1 eb1 m1).2.2.1)) (w := _) (hxs := (hs12.sl0 2 rfl)) (hys := (hs12.sl0 5 rfl))) ?_
      rintro _ w13 ⟨rfl, hs13'⟩
      have hs13 : SH w w13 [] [.own A1 r1.length c1 3 1 (r1.map I), .blk b1 25 [.slice A1 r1.length c1, .int .i64 ni1, .bool eb1], .own A2 (((pipeGet r1 ni1 eb1 m1).1).length) c2 3 1 (((pipeGet r1 ni1 eb1 m1).1).map I), .own Ag1 (((pipeGet r1 ni1 eb1 m1).2.2.2.1).length) cg1 3 1 (((pipeGet r1 ni1 eb1 m1).2.2.2.1).map I), .blk b2 25 [.slice A2 (((pipeGet r1 ni1 eb1 m1).1).length) c2, .int .i64 ((pipeGet r1 ni1 eb1 m1).2.1), .bool ((pipeGet r1 ni1 eb1 m1).2.2.1)], .own A3 (((pipeGet r1 ni1 eb1 m1).1).length) c3 3 1 (((pipeGet r1 ni1 eb1 m1).1).map I), .own Ag2 (((pipeGet r1 ni1 eb1 m1).2.2.2.1).length) cg2 3 1 (((pipeGet r1 ni1 eb1 m1).2.2.2.1).map I), .blk b3 25 [.slice A3 (((pipeGet r1 ni1 eb1 m1).1).length) c3, .int .i64 ((pipeGet r1 ni1 eb1 m1).2.1), .bool ((pipeGet r1 ni1 eb1 m1).2.2.1)]] := hs12.call0 hs13'
      clear hs13'
      refine q trivial rfl rfl (pt (v := .bool (decide (((pipeGet r1 ni1 eb1 m1).1) = ((pipeGet r1 ni1 eb1 m1).1) ∧ ((pipeGet r1 ni1 eb1 m1).2.1) = ((pipeGet r1 ni1 eb1 m1).2.1) ∧ ((pipeGet r1 ni1 eb1 m1).2.2.1) = ((pipeGet r1 ni1 eb1 m1).2.2.1)))) rfl rfl) ?_
      refine q trivial rfl rfl (asg (v := .bool (decide (((pipeGet r1 ni1 eb1 m1).1) = ((pipeGet r1 ni1 eb1 m1).1) ∧ ((pipeGet r1 ni1 eb1 m1).2.1) = ((pipeGet r1 ni1 eb1 m1).2.1) ∧ ((pipeGet r1 ni1 eb1 m1).2.2.1) = ((pipeGet r1 ni1 eb1 m1).2.2.1)))) rfl) ?_
      refine nl ?_
      refine nN ?_
      have hs14 : SH w w13 [] [] := hs13.pick [] rfl (by decide)
      refine rt (tR ?_)
      refine fret (v := .bool (decide (((pipeGet r1 ni1 eb1 m1).1) = ((pipeGet r1 ni1 eb1 m1).1) ∧ ((pipeGet r1 ni1 eb1 m1).2.1) = ((pipeGet r1 ni1 eb1 m1).2.1) ∧ ((pipeGet r1 ni1 eb1 m1).2.2.1) = ((pipeGet r1 ni1 eb1 m1).2.2.1)))) (.tmp .nil) rfl ?_
      have e1 : (decide (((pipeGet r1 ni1 eb1 m1).1) = ((pipeGet r1 ni1 eb1 m1).1) ∧ ((pipeGet r1 ni1 eb1 m1).2.1) = ((pipeGet r1 ni1 eb1 m1).2.1) ∧ ((pipeGet r1 ni1 eb1 m1).2.2.1) = ((pipeGet r1 ni1 eb1 m1).2.2.1))) = true := by first | rfl | (simp; done) | (have hx := pipeGet_ok (by assumption); have hz := pipeOk_sub hx.1 (List.drop_sublist (min m1.toNat r1.length) r1); simp [hx.2.2, hz] at h1 h6 ⊢)
      exact ⟨(congrArg (Value.bool) e1), hs14⟩
    · have h9 : ((pipeGet r1 ni1 eb1 m1).2.2.2.2) = true := by simpa using h5
      refine sk ?_
      refine nN ?_
      have hs15 : SH w w11 [] [.own A1 r1.length c1 3 1 (r1.map I), .blk b1 25 [.slice A1 r1.length c1, .int .i64 ni1, .bool eb1], .own A2 (((pipeGet r1 ni1 eb1 m1).1).length) c2 3 1 (((pipeGet r1 ni1 eb1 m1).1).map I), .own Ag1 (((pipeGet r1 ni1 eb1 m1).2.2.2.1).length) cg1 3 1 (((pipeGet r1 ni1 eb1 m1).2.2.2.1).map I), .blk b2 25 [.slice A2 (((pipeGet r1 ni1 eb1 m1).1).length) c2, .int .i64 ((pipeGet r1 ni1 eb1 m1).2.1), .bool ((pipeGet r1 ni1 eb1 m1).2.2.1)]] := hs11.pick [0, 1, 2, 3, 4] rfl (by decide)
      refine sq ?_
      refine ra (fun w' => ∃ L, SH w w' [] L ∧ (.blk b1 25 [.slice A1 r1.length c1, .int .i64 ni1, .bool eb1]) ∈ L ∧ (.blk b2 25 [.slice A2 (((pipeGet r1 ni1 eb1 m1).1).length) c2, .int .i64 ((pipeGet r1 ni1 eb1 m1).2.1), .bool ((pipeGet r1 ni1 eb1 m1).2.2.1)]) ∈ L ∧ True) mixed ?_
      have hs16 := hs15.drew
      refine tk (fuel := 27) (is := [0]) (.cons rfl (.nil)) (by kernel_rfl) (by kernel_rfl) ⟨_, hs16, memi 1 rfl, memi 4 rfl, trivial⟩ ?_
      refine .op trivial rfl rfl (fun wq ⟨Lq, hsq, mh0, mh1, _⟩ => ldgm (vs := [.slice A2 (((pipeGet r1 ni1 eb1 m1).1).length) c2, .int .i64 ((pipeGet r1 ni1 eb1 m1).2.1), .bool ((pipeGet r1 ni1 eb1 m1).2.2.1)]) hsq mh1 rfl rfl rfl ag25) ?_
      refine .nil ?_
      refine a1 (i := 1) (by kernel_rfl) ?_
      refine one_ rfl ?_
      refine cl trivial rfl (iPipeValid (Axs := A2) (cxs := c2) (xs := (pipeGet r1 ni1 eb1 m1).1) (ni := (pipeGet r1 ni1 eb1 m1).2.1) (eb := ((pipeGet r1 ni1 eb1 m1).2.2.1)) (w := _) (hxs := (hs16.sl0 2 rfl))) ?_
      rintro _ w14 ⟨rfl, hs17'⟩
      have hs17 : SH w w14 [] [.own A1 r1.length c1 3 1 (r1.map I), .blk b1 25 [.slice A1 r1.length c1, .int .i64 ni1, .bool eb1], .own A2 (((pipeGet r1 ni1 eb1 m1).1).length) c2 3 1 (((pipeGet r1 ni1 eb1 m1).1).map I), .own Ag1 (((pipeGet r1 ni1 eb1 m1).2.2.2.1).length) cg1 3 1 (((pipeGet r1 ni1 eb1 m1).2.2.2.1).map I), .blk b2 25 [.slice A2 (((pipeGet r1 ni1 eb1 m1).1).length) c2, .int .i64 ((pipeGet r1 ni1 eb1 m1).2.1), .bool ((pipeGet r1 ni1 eb1 m1).2.2.1)]] := hs16.call0 hs17'
      clear hs17'
      refine nl (kq ⟨_, hs17, memi 1 rfl, memi 4 rfl, trivial⟩ ?_)
      refine tk (fuel := 25) (is := [2]) (.cons rfl (.nil)) (by kernel_rfl) (by kernel_rfl) ⟨_, hs17, memi 1 rfl, memi 4 rfl, trivial⟩ ?_
      refine .op trivial rfl rfl (fun wq _ => mv (v := .bool (pipeOk ((pipeGet r1 ni1 eb1 m1).1) ((pipeGet r1 ni1 eb1 m1).2.1))) rfl) ?_
      refine .nil ?_
      refine aspl (b := pipeOk ((pipeGet r1 ni1 eb1 m1).1) ((pipeGet r1 ni1 eb1 m1).2.1)) 67 rfl (fun h10 => ?_) (fun h10 => ?_)
      · refine tk (fuel := 20) (is := [4, 6, 7, 9, 10]) (.cons rfl (.cons rfl (.cons rfl (.cons rfl (.cons rfl (.nil)))))) (by kernel_rfl) (by kernel_rfl) ⟨_, hs17, memi 1 rfl, memi 4 rfl, trivial⟩ ?_
        refine .op ⟨_, rfl, rfl⟩ rfl rfl (fun wq _ => mv (v := .slice Ag1 (((pipeGet r1 ni1 eb1 m1).2.2.2.1).length) cg1) rfl) ?_
        refine .op ⟨_, rfl, rfl⟩ rfl rfl (fun wq _ => fa 0 fo25_0 rfl) ?_
        refine .op ⟨_, rfl, rfl⟩ rfl rfl (fun wq ⟨Lq, hsq, mh0, mh1, _⟩ => ldm (v := .slice A2 (((pipeGet r1 ni1 eb1 m1).1).length) c2) hsq mh1 rfl rfl one23) ?_
        refine .op ⟨_, rfl, rfl⟩ rfl rfl (fun wq _ => fa 0 fo25_0 rfl) ?_
        refine .op ⟨_, rfl, rfl⟩ rfl rfl (fun wq ⟨Lq, hsq, mh0, mh1, _⟩ => ldm (v := .slice A1 r1.length c1) hsq mh0 rfl rfl one23) ?_
        refine .nil ?_
        refine a1 (i := 3) (by kernel_rfl) ?_
        refine one_ rfl ?_
        refine Go.PF.bs hs17 sl23 [] rfl (cs := []) (by kernel_rfl) rfl (by decide) (by decide) ⟨_, rfl, rfl⟩ rfl (fun b_8_3 w15 (hs18 : SH w w15 [] [.own A1 r1.length c1 3 1 (r1.map I), .blk b1 25 [.slice A1 r1.length c1, .int .i64 ni1, .bool eb1], .own A2 (((pipeGet r1 ni1 eb1 m1).1).length) c2 3 1 (((pipeGet r1 ni1 eb1 m1).1).map I), .own Ag1 (((pipeGet r1 ni1 eb1 m1).2.2.2.1).length) cg1 3 1 (((pipeGet r1 ni1 eb1 m1).2.2.2.1).map I), .blk b2 25 [.slice A2 (((pipeGet r1 ni1 eb1 m1).1).length) c2, .int .i64 ((pipeGet r1 ni1 eb1 m1).2.1), .bool ((pipeGet r1 ni1 eb1 m1).2.2.1)], .own (some ⟨b_8_3, 0, none⟩) (([] : List Int).length) 0 3 1 (([] : List Int).map I)]) => ?_)
        refine nl (kq ⟨_, hs18, memi 1 rfl, memi 4 rfl, trivial⟩ ?_)
        refine a1 (i := 5) (by kernel_rfl) ?_
        refine one_ rfl ?_
        refine apm (g := I) (ys := ([] : List Int)) (zs := (pipeGet r1 ni1 eb1 m1).2.2.2.1) hs18 5 rfl sl23 rfl rfl rfl (hs18.sl0 3 rfl) (fun _ => rfl) (by unfold maxLen; first | (first | omega | (simp; omega)) | (have hgo := pipeGet_len r1 ni1 eb1 m1; have hgm := (pipeGet_ok (by assumption)).2.1; first | omega | (simp; omega))) (by first | (first | omega | (simp; omega)) | (have hgo := pipeGet_len r1 ni1 eb1 m1; have hgm := (pipeGet_ok (by assumption)).2.1; first | omega | (simp; omega))) ⟨_, rfl, rfl⟩ rfl (fun A_8_5 c_8_5 w16 (hs19 : SH w w16 [] [.own A1 r1.length c1 3 1 (r1.map I), .blk b1 25 [.slice A1 r1.length c1, .int .i64 ni1, .bool eb1], .own A2 (((pipeGet r1 ni1 eb1 m1).1).length) c2 3 1 (((pipeGet r1 ni1 eb1 m1).1).map I), .own Ag1 (((pipeGet r1 ni1 eb1 m1).2.2.2.1).length) cg1 3 1 (((pipeGet r1 ni1 eb1 m1).2.2.2.1).map I), .blk b2 25 [.slice A2 (((pipeGet r1 ni1 eb1 m1).1).length) c2, .int .i64 ((pipeGet r1 ni1 eb1 m1).2.1), .bool ((pipeGet r1 ni1 eb1 m1).2.2.1)], .own A_8_5 (((pipeGet r1 ni1 eb1 m1).2.2.2.1).length) c_8_5 3 1 (((pipeGet r1 ni1 eb1 m1).2.2.2.1).map I)]) => ?_)
        refine nl (kq ⟨_, hs19, memi 1 rfl, memi 4 rfl, trivial⟩ ?_)
        refine a1 (i := 8) (by kernel_rfl) ?_
        refine one_ rfl ?_
        refine apm (g := I) (ys := (pipeGet r1 ni1 eb1 m1).2.2.2.1) (zs := (pipeGet r1 ni1 eb1 m1).1) hs19 5 rfl sl23 rfl rfl rfl (hs19.sl0 2 rfl) (fun _ => rfl) (by unfold maxLen; first | (first | omega | (simp; omega)) | (have hgo := pipeGet_len r1 ni1 eb1 m1; have hgm := (pipeGet_ok (by assumption)).2.1; first | omega | (simp; omega))) (by first | (first | omega | (simp; omega)) | (have hgo := pipeGet_len r1 ni1 eb1 m1; have hgm := (pipeGet_ok (by assumption)).2.1; first | omega | (simp; omega))) ⟨_, rfl, rfl⟩ rfl (fun A_8_8 c_8_8 w17 (hs20 : SH w w17 [] [.own A1 r1.length c1 3 1 (r1.map I), .blk b1 25 [.slice A1 r1.length c1, .int .i64 ni1, .bool eb1], .own A2 (((pipeGet r1 ni1 eb1 m1).1).length) c2 3 1 (((pipeGet r1 ni1 eb1 m1).1).map I), .own Ag1 (((pipeGet r1 ni1 eb1 m1).2.2.2.1).length) cg1 3 1 (((pipeGet r1 ni1 eb1 m1).2.2.2.1).map I), .blk b2 25 [.slice A2 (((pipeGet r1 ni1 eb1 m1).1).length) c2, .int .i64 ((pipeGet r1 ni1 eb1 m1).2.1), .bool ((pipeGet r1 ni1 eb1 m1).2.2.1)], .own A_8_8 ((((pipeGet r1 ni1 eb1 m1).2.2.2.1) ++ ((pipeGet r1 ni1 eb1 m1).1)).length) c_8_8 3 1 ((((pipeGet r1 ni1 eb1 m1).2.2.2.1) ++ ((pipeGet r1 ni1 eb1 m1).1)).map I)]) => ?_)
        refine nl (kq ⟨_, hs20, memi 1 rfl, memi 4 rfl, trivial⟩ ?_)
        refine a1 (i := 11) (by kernel_rfl) ?_
        refine one_ rfl ?_
        refine cl ⟨_, rfl, rfl⟩ rfl (sameBytes (Axs := A_8_8) (cxs := c_8_8) (xs := ((pipeGet r1 ni1 eb1 m1).2.2.2.1) ++ ((pipeGet r1 ni1 eb1 m1).1)) (Abs := A1) (cbs := c1) (bs := r1) (w := _) (hxs := (hs20.sl0 5 rfl)) (hbs := (hs20.sl0 0 rfl))) ?_
        rintro _ w18 ⟨rfl, hs21'⟩
        have hs21 : SH w w18 [] [.own A1 r1.length c1 3 1 (r1.map I), .blk b1 25 [.slice A1 r1.length c1, .int .i64 ni1, .bool eb1], .own A2 (((pipeGet r1 ni1 eb1 m1).1).length) c2 3 1 (((pipeGet r1 ni1 eb1 m1).1).map I), .own Ag1 (((pipeGet r1 ni1 eb1 m1).2.2.2.1).length) cg1 3 1 (((pipeGet r1 ni1 eb1 m1).2.2.2.1).map I), .blk b2 25 [.slice A2 (((pipeGet r1 ni1 eb1 m1).1).length) c2, .int .i64 ((pipeGet r1 ni1 eb1 m1).2.1), .bool ((pipeGet r1 ni1 eb1 m1).2.2.1)], .own A_8_8 ((((pipeGet r1 ni1 eb1 m1).2.2.2.1) ++ ((pipeGet r1 ni1 eb1 m1).1)).length) c_8_8 3 1 ((((pipeGet r1 ni1 eb1 m1).2.2.2.1) ++ ((pipeGet r1 ni1 eb1 m1).1)).map I)] := hs20.call0 hs21'
        clear hs21'
        refine nl (kq ⟨_, hs21, memi 1 rfl, memi 4 rfl, trivial⟩ ?_)
        refine tk (fuel := 14) (is := [12, 13]) (.cons rfl (.cons rfl (.nil))) (by kernel_rfl) (by kernel_rfl) ⟨_, hs21, memi 1 rfl, memi 4 rfl, trivial⟩ ?_
        refine .op trivial rfl rfl (fun wq _ => pt (v := .bool (decide ((((pipeGet r1 ni1 eb1 m1).2.2.2.1) ++ ((pipeGet r1 ni1 eb1 m1).1)) = r1))) rfl rfl) ?_
        refine .op trivial rfl rfl (fun wq _ => mv (v := .bool (decide ((((pipeGet r1 ni1 eb1 m1).2.2.2.1) ++ ((pipeGet r1 ni1 eb1 m1).1)) = r1))) rfl) ?_
        refine .nil ?_
        refine aspd (p := (((pipeGet r1 ni1 eb1 m1).2.2.2.1) ++ ((pipeGet r1 ni1 eb1 m1).1)) = r1) 78 rfl (fun h11 => ?_) (fun h11 => ?_)
        · refine tk (fuel := 7) (is := [14, 15, 16, 17, 18, 19, 20]) (.cons rfl (.cons rfl (.cons rfl (.cons rfl (.cons rfl (.cons rfl (.cons rfl (.nil)))))))) (by kernel_rfl) (by kernel_rfl) ⟨_, hs21, memi 1 rfl, memi 4 rfl, trivial⟩ ?_
          refine .op ⟨_, rfl, rfl⟩ rfl rfl (fun wq _ => fa 1 fo25_1 rfl) ?_
          refine .op ⟨_, rfl, rfl⟩ rfl rfl (fun wq ⟨Lq, hsq, mh0, mh1, _⟩ => ldm (v := .int .i64 ((pipeGet r1 ni1 eb1 m1).2.1)) hsq mh1 rfl rfl one3) ?_
          refine .op ⟨_, rfl, rfl⟩ rfl rfl (fun wq _ => fa 1 fo25_1 rfl) ?_
          refine .op ⟨_, rfl, rfl⟩ rfl rfl (fun wq ⟨Lq, hsq, mh0, mh1, _⟩ => ldm (v := .int .i64 ni1) hsq mh0 rfl rfl one3) ?_
          refine .op ⟨_, rfl, rfl⟩ rfl rfl (fun wq _ => eqi (k := .i64) (a := (pipeGet r1 ni1 eb1 m1).2.1) (b := ni1) rfl rfl) ?_
          refine .op trivial rfl rfl (fun wq _ => pt (v := .bool (decide (((pipeGet r1 ni1 eb1 m1).2.1) = ni1))) rfl rfl) ?_
          refine .op trivial rfl rfl (fun wq _ => mv (v := .bool (decide (((pipeGet r1 ni1 eb1 m1).2.1) = ni1))) rfl) ?_
          refine .nil ?_
          refine aspd (p := ((pipeGet r1 ni1 eb1 m1).2.1) = ni1) 85 rfl (fun h12 => ?_) (fun h12 => ?_)
          · refine tk (fuel := 0) (is := [21, 22, 23, 24, 25, 26, 27]) (.cons rfl (.cons rfl (.cons rfl (.cons rfl (.cons rfl (.cons rfl (.cons rfl (.nil)))))))) (by kernel_rfl) (by kernel_rfl) ⟨_, hs21, memi 1 rfl, memi 4 rfl, trivial⟩ ?_
            refine .op ⟨_, rfl, rfl⟩ rfl rfl (fun wq _ => fa 2 fo25_2 rfl) ?_
            refine .op ⟨_, rfl, rfl⟩ rfl rfl (fun wq ⟨Lq, hsq, mh0, mh1, _⟩ => ldm (v := .bool ((pipeGet r1 ni1 eb1 m1).2.2.1)) hsq mh1 rfl rfl one4) ?_
            refine .op ⟨_, rfl, rfl⟩ rfl rfl (fun wq _ => fa 2 fo25_2 rfl) ?_
            refine .op ⟨_, rfl, rfl⟩ rfl rfl (fun wq ⟨Lq, hsq, mh0, mh1, _⟩ => ldm (v := .bool eb1) hsq mh0 rfl rfl one4) ?_
            refine .op ⟨_, rfl, rfl⟩ rfl rfl (fun wq _ => eqb (a := ((pipeGet r1 ni1 eb1 m1).2.2.1)) (b := eb1) tb4 rfl rfl) ?_
            refine .op trivial rfl rfl (fun wq _ => pt (v := .bool (decide (((pipeGet r1 ni1 eb1 m1).2.2.1) = eb1))) rfl rfl) ?_
            refine .op trivial rfl rfl (fun wq _ => asg (v := .bool (decide (((pipeGet r1 ni1 eb1 m1).2.2.1) = eb1))) rfl) ?_
            refine .nil ?_
            refine ad (by kernel_rfl) ?_
            refine nN ?_
            have hs22 : SH w w18 [] [] := hs21.pick [] rfl (by decide)
            refine rt ?_
            refine fret (v := .bool (decide (((pipeGet r1 ni1 eb1 m1).2.2.1) = eb1))) (.tmp .nil) rfl ?_
            have e2 : (decide (((pipeGet r1 ni1 eb1 m1).2.2.1) = eb1)) = true := by first | rfl | (simp; done) | (have hx := pipeGet_ok (by assumption); have hz := pipeOk_sub hx.1 (List.drop_sublist (min m1.toNat r1.length) r1); simp [hx.2.2, hz] at h1 h9 h10 h11 h12 ⊢)
            exact ⟨(congrArg (Value.bool) e2), hs22⟩
          · refine tk (fuel := 0) (is := [21, 22, 23, 24, 25, 26, 27]) (.cons rfl (.cons rfl (.cons rfl (.cons rfl (.cons rfl (.cons rfl (.cons rfl (.nil)))))))) (by kernel_rfl) (by kernel_rfl) ⟨_, hs21, memi 1 rfl, memi 4 rfl, trivial⟩ ?_
            refine .skip (b := false) rfl rfl rfl rfl rfl ?_
            refine .skip (b := false) rfl rfl rfl rfl rfl ?_
            refine .skip (b := false) rfl rfl rfl rfl rfl ?_
            refine .skip (b := false) rfl rfl rfl rfl rfl ?_
            refine .skip (b := false) rfl rfl rfl rfl rfl ?_
            refine .op trivial rfl rfl (fun wq _ => pf (v := .bool false) rfl rfl) ?_
            refine .op trivial rfl rfl (fun wq _ => asg (v := .bool false) rfl) ?_
            refine .nil ?_
            refine ad (by kernel_rfl) ?_
            refine nN ?_
            have hs23 : SH w w18 [] [] := hs21.pick [] rfl (by decide)
            refine rt ?_
            refine fret (v := .bool false) (.tmp .nil) rfl ?_
            have e3 : false = true := by first | rfl | (simp; done) | (have hx := pipeGet_ok (by assumption); have hz := pipeOk_sub hx.1 (List.drop_sublist (min m1.toNat r1.length) r1); simp [hx.2.2, hz] at h1 h9 h10 h11 h12 ⊢)
            exact ⟨(congrArg (Value.bool) e3), hs23⟩
        · refine tk (fuel := 0) (is := [14, 15, 16, 17, 18, 19, 20, 21, 22, 23, 24, 25, 26, 27]) (.cons rfl (.cons rfl (.cons rfl (.cons rfl (.cons rfl (.cons rfl (.cons rfl (.cons rfl (.cons rfl (.cons rfl (.cons rfl (.cons rfl (.cons rfl (.cons rfl (.nil))))))))))))))) (by kernel_rfl) (by kernel_rfl) ⟨_, hs21, memi 1 rfl, memi 4 rfl, trivial⟩ ?_
          refine .skip (b := false) rfl rfl rfl rfl rfl ?_
          refine .skip (b := false) rfl rfl rfl rfl rfl ?_
          refine .skip (b := false) rfl rfl rfl rfl rfl ?_
          refine .skip (b := false) rfl rfl rfl rfl rfl ?_
          refine .skip (b := false) rfl rfl rfl rfl rfl ?_
          refine .op trivial rfl rfl (fun wq _ => pf (v := .bool false) rfl rfl) ?_
          refine .op trivial rfl rfl (fun wq _ => mv (v := .bool false) rfl) ?_
          refine .skip (b := false) rfl rfl rfl rfl rfl ?_
          refine .skip (b := false) rfl rfl rfl rfl rfl ?_
          refine .skip (b := false) rfl rfl rfl rfl rfl ?_
          refine .skip (b := false) rfl rfl rfl rfl rfl ?_
          refine .skip (b := false) rfl rfl rfl rfl rfl ?_
          refine .op trivial rfl rfl (fun wq _ => pf (v := .bool false) rfl rfl) ?_
          refine .op trivial rfl rfl (fun wq _ => asg (v := .bool false) rfl) ?_
          refine .nil ?_
          refine ad (by kernel_rfl) ?_
          refine nN ?_
          have hs24 : SH w w18 [] [] := hs21.pick [] rfl (by decide)
          refine rt ?_
          refine fret (v := .bool false) (.tmp .nil) rfl ?_
          have e4 : false = true := by first | rfl | (simp; done) | (have hx := pipeGet_ok (by assumption); have hz := pipeOk_sub hx.1 (List.drop_sublist (min m1.toNat r1.length) r1); simp [hx.2.2, hz] at h1 h9 h10 h11 ⊢)
          exact ⟨(congrArg (Value.bool) e4), hs24⟩
      · refine tk (fuel := 0) (is := [3, 4, 5, 6, 7, 8, 9, 10, 11, 12, 13, 14, 15, 16, 17, 18, 19, 20, 21, 22, 23, 24, 25, 26, 27]) (.cons rfl (.cons rfl (.cons rfl (.cons rfl (.cons rfl (.cons rfl (.cons rfl (.cons rfl (.cons rfl (.cons rfl (.cons rfl (.cons rfl (.cons rfl (.cons rfl (.cons rfl (.cons rfl (.cons rfl (.cons rfl (.cons rfl (.cons rfl (.cons rfl (.cons rfl (.cons rfl (.cons rfl (.cons rfl (.nil)))))))))))))))))))))))))) (by kernel_rfl) (by kernel_rfl) ⟨_, hs17, memi 1 rfl, memi 4 rfl, trivial⟩ ?_
        refine .skip (b := false) rfl rfl rfl rfl rfl ?_
        refine .skip (b := false) rfl rfl rfl rfl rfl ?_
        refine .skip (b := false) rfl rfl rfl rfl rfl ?_
        refine .skip (b := false) rfl rfl rfl rfl rfl ?_
        refine .skip (b := false) rfl rfl rfl rfl rfl ?_
        refine .skip (b := false) rfl rfl rfl rfl rfl ?_
        refine .skip (b := false) rfl rfl rfl rfl rfl ?_
        refine .skip (b := false) rfl rfl rfl rfl rfl ?_
        refine .skip (b := false) rfl rfl rfl rfl rfl ?_
        refine .op trivial rfl rfl (fun wq _ => pf (v := .bool false) rfl rfl) ?_
        refine .op trivial rfl rfl (fun wq _ => mv (v := .bool false) rfl) ?_
        refine .skip (b := false) rfl rfl rfl rfl rfl ?_
        refine .skip (b := false) rfl rfl rfl rfl rfl ?_
        refine .skip (b := false) rfl rfl rfl rfl rfl ?_
        refine .skip (b := false) rfl rfl rfl rfl rfl ?_
        refine .skip (b := false) rfl rfl rfl rfl rfl ?_
        refine .op trivial rfl rfl (fun wq _ => pf (v := .bool false) rfl rfl) ?_
        refine .op trivial rfl rfl (fun wq _ => mv (v := .bool false) rfl) ?_
        refine .skip (b := false) rfl rfl rfl rfl rfl ?_
        refine .skip (b := false) rfl rfl rfl rfl rfl ?_
        refine .skip (b := false) rfl rfl rfl rfl rfl ?_
        refine .skip (b := false) rfl rfl rfl rfl rfl ?_
        refine .skip (b := false) rfl rfl rfl rfl rfl ?_
        refine .op trivial rfl rfl (fun wq _ => pf (v := .bool false) rfl rfl) ?_
        refine .op trivial rfl rfl (fun wq _ => asg (v := .bool false) rfl) ?_
        refine .nil ?_
        refine ad (by kernel_rfl) ?_
        refine nN ?_
        have hs25 : SH w w14 [] [] := hs17.pick [] rfl (by decide)
        refine rt ?_
        refine fret (v := .bool false) (.tmp .nil) rfl ?_
        have e5 : false = true := by first | rfl | (simp; done) | (have hx := pipeGet_ok (by assumption); have hz := pipeOk_sub hx.1 (List.drop_sublist (min m1.toNat r1.length) r1); simp [hx.2.2, hz] at h1 h9 h10 ⊢)
        exact ⟨(congrArg (Value.bool) e5), hs25⟩

end Go.Proofs.Ytgefaejgkcbkpaa
