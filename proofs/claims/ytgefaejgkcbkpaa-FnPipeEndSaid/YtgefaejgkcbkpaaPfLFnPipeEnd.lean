/-
  Part of the proofs over this seat: what each function of the program computes, function by function (the text is written by a program of this hand-in's own).
  Conditions: each theorem states its own.
-/
import Derived.Test.YtgefaejgkcbkpaaPfWalks2
namespace Go.Proofs.Ytgefaejgkcbkpaa
open Go.PF
set_option maxRecDepth 100000
set_option linter.unusedSimpArgs false
set_option linter.unusedVariables false

theorem lPipeEnd {Acs : Option Addr} {ccs : Nat} (cs : List UInt8) (w : World) (hcs : Sl w [] 1 Acs cs.length ccs (cs.map U)) : Does Try.prog 13 [.slice Acs cs.length ccs] w (fun v w' => v = .bool true ∧ SH w w' [] []) := by
  refine fn_enter (N := 93) Try.func13 rfl (by kernel_rfl) rfl rfl rfl ?_
  have hs0 : SH w w [] [] := SH.refl w []
  have hcs_m : cs.length ≤ 9223372036854775807 := Nat.le_trans hcs.cap hcs.capMax
  refine sq ?_
  refine rg ?_
  refine q trivial rfl rfl (asg (v := .bool false) rfl) ?_
  refine nl ?_
  refine nN ?_
  refine sq ?_
  refine sq ?_
  refine rg ?_
  refine q trivial rfl rfl (mv (v := .slice Acs cs.length ccs) rfl) ?_
  refine q trivial rfl rfl (lnA (n := cs.length) sl22 rfl) ?_
  refine q trivial rfl rfl (gtr (k := .i64) (a := ((cs.length : Nat) : Int)) (b := 1048576) rfl rfl) ?_
  refine nl ?_
  refine nN ?_
  refine cdd (p := (1048576 : Int) < ((cs.length : Nat) : Int)) rfl (fun h1 => ?_) (fun h1 => ?_)
  · refine sq ?_
    refine rg ?_
    refine q trivial rfl rfl (asg (v := .bool true) rfl) ?_
    refine nl ?_
    refine nN ?_
    refine rt (tR ?_)
    refine fret (v := .bool true) (.tmp .nil) rfl ?_
    exact ⟨rfl, hs0⟩
  · refine sk ?_
    refine nN ?_
    refine sq ?_
    refine rg ?_
    refine q trivial rfl rfl (mv (v := .slice Acs cs.length ccs) rfl) ?_
    refine cl trivial rfl (drawPipeEnd (Acs := Acs) (ccs := ccs) (cs := cs) (w := _) (hcs := (hcs.up0 hs0))) ?_
    rintro _ w1 ⟨A1, c1, r1, ni1, eb1, rfl, p1, hs1'⟩
    have hs1 : SH w w1 [] [.own A1 r1.length c1 3 1 (r1.map I)] := hs0.call0 hs1'
    clear hs1'
    refine al (v := .agg #[.slice none 0 0, .int .i64 0, .bool false]) (cs := [.slice none 0 0, .int .i64 0, .bool false]) hs1 tz25 rfl trivial rfl (fun b1 w2 (hs2 : SH w w2 [] [.own A1 r1.length c1 3 1 (r1.map I), .blk b1 25 [.slice none 0 0, .int .i64 0, .bool false]]) => ?_)
    refine stg (vs := [.slice A1 r1.length c1, .int .i64 ni1, .bool eb1]) hs2 1 rfl rfl rfl rfl rfl rfl rfl ag25 trivial (fun w3 (hs3 : SH w w3 [] [.own A1 r1.length c1 3 1 (r1.map I), .blk b1 25 [.slice A1 r1.length c1, .int .i64 ni1, .bool eb1]]) => ?_)
    refine nl ?_
    refine nN ?_
    refine sq ?_
    refine rg ?_
    refine q trivial rfl rfl (ldg (vs := [.slice A1 r1.length c1, .int .i64 ni1, .bool eb1]) hs3 1 rfl rfl rfl rfl ag25) ?_
    refine cl trivial rfl (iPipeEnd (Axs := A1) (cxs := c1) (xs := r1) (ni := ni1) (eb := eb1) (w := _) (hxs := (hs3.sl0 0 rfl))) ?_
    rintro _ w4 ⟨A2, c2, rfl, hs4'⟩
    have hs4 : SH w w4 [] [.own A1 r1.length c1 3 1 (r1.map I), .blk b1 25 [.slice A1 r1.length c1, .int .i64 ni1, .bool eb1], .own A2 (((pipeEnd r1 ni1).1).length) c2 3 1 (((pipeEnd r1 ni1).1).map I)] := hs3.call0 hs4'
    clear hs4'
    refine q trivial rfl rfl (mv (v := .tuple #[.agg #[.slice A2 (((pipeEnd r1 ni1).1).length) c2, .int .i64 ((pipeEnd r1 ni1).2), .bool (pipeOk r1 ni1)], .bool (pipeOk r1 ni1)]) rfl) ?_
    refine q trivial rfl rfl (xt 0 (v := .agg #[.slice A2 (((pipeEnd r1 ni1).1).length) c2, .int .i64 ((pipeEnd r1 ni1).2), .bool (pipeOk r1 ni1)]) rfl rfl) ?_
    refine q trivial rfl rfl (xt 1 (v := .bool (pipeOk r1 ni1)) rfl rfl) ?_
    refine al (v := .agg #[.slice none 0 0, .int .i64 0, .bool false]) (cs := [.slice none 0 0, .int .i64 0, .bool false]) hs4 tz25 rfl trivial rfl (fun b2 w5 (hs5 : SH w w5 [] [.own A1 r1.length c1 3 1 (r1.map I), .blk b1 25 [.slice A1 r1.length c1, .int .i64 ni1, .bool eb1], .own A2 (((pipeEnd r1 ni1).1).length) c2 3 1 (((pipeEnd r1 ni1).1).map I), .blk b2 25 [.slice none 0 0, .int .i64 0, .bool false]]) => ?_)
    refine stg (vs := [.slice A2 (((pipeEnd r1 ni1).1).length) c2, .int .i64 ((pipeEnd r1 ni1).2), .bool (pipeOk r1 ni1)]) hs5 3 rfl rfl rfl rfl rfl rfl rfl ag25 trivial (fun w6 (hs6 : SH w w6 [] [.own A1 r1.length c1 3 1 (r1.map I), .blk b1 25 [.slice A1 r1.length c1, .int .i64 ni1, .bool eb1], .own A2 (((pipeEnd r1 ni1).1).length) c2 3 1 (((pipeEnd r1 ni1).1).map I), .blk b2 25 [.slice A2 (((pipeEnd r1 ni1).1).length) c2, .int .i64 ((pipeEnd r1 ni1).2), .bool (pipeOk r1 ni1)]]) => ?_)
    refine q trivial rfl rfl (asg (v := .bool (pipeOk r1 ni1)) rfl) ?_
    refine nl ?_
    refine nN ?_
    refine sq ?_
    refine rg ?_
    refine q trivial rfl rfl (ldg (vs := [.slice A1 r1.length c1, .int .i64 ni1, .bool eb1]) hs6 1 rfl rfl rfl rfl ag25) ?_
    refine cl trivial rfl (sPipeEnd (Axs := A1) (cxs := c1) (xs := r1) (ni := ni1) (eb := eb1) (w := _) (hxs := (hs6.sl0 0 rfl))) ?_
    rintro _ w7 ⟨A3, c3, rfl, hs7'⟩
    have hs7 : SH w w7 [] [.own A1 r1.length c1 3 1 (r1.map I), .blk b1 25 [.slice A1 r1.length c1, .int .i64 ni1, .bool eb1], .own A2 (((pipeEnd r1 ni1).1).length) c2 3 1 (((pipeEnd r1 ni1).1).map I), .blk b2 25 [.slice A2 (((pipeEnd r1 ni1).1).length) c2, .int .i64 ((pipeEnd r1 ni1).2), .bool (pipeOk r1 ni1)], .own A3 (((pipeEnd r1 ni1).1).length) c3 3 1 (((pipeEnd r1 ni1).1).map I)] := hs6.call0 hs7'
    clear hs7'
    refine q trivial rfl rfl (mv (v := .tuple #[.agg #[.slice A3 (((pipeEnd r1 ni1).1).length) c3, .int .i64 ((pipeEnd r1 ni1).2), .bool (pipeOk r1 ni1)], .bool (pipeOk r1 ni1)]) rfl) ?_
    refine q trivial rfl rfl (xt 0 (v := .agg #[.slice A3 (((pipeEnd r1 ni1).1).length) c3, .int .i64 ((pipeEnd r1 ni1).2), .bool (pipeOk r1 ni1)]) rfl rfl) ?_
    refine q trivial rfl rfl (xt 1 (v := .bool (pipeOk r1 ni1)) rfl rfl) ?_
    refine al (v := .agg #[.slice none 0 0, .int .i64 0, .bool false]) (cs := [.slice none 0 0, .int .i64 0, .bool false]) hs7 tz25 rfl trivial rfl (fun b3 w8 (hs8 : SH w w8 [] [.own A1 r1.length c1 3 1 (r1.map I), .blk b1 25 [.slice A1 r1.length c1, .int .i64 ni1, .bool eb1], .own A2 (((pipeEnd r1 ni1).1).length) c2 3 1 (((pipeEnd r1 ni1).1).map I), .blk b2 25 [.slice A2 (((pipeEnd r1 ni1).1).length) c2, .int .i64 ((pipeEnd r1 ni1).2), .bool (pipeOk r1 ni1)], .own A3 (((pipeEnd r1 ni1).1).length) c3 3 1 (((pipeEnd r1 ni1).1).map I), .blk b3 25 [.slice none 0 0, .int .i64 0, .bool false]]) => ?_)
    refine stg (vs := [.slice A3 (((pipeEnd r1 ni1).1).length) c3, .int .i64 ((pipeEnd r1 ni1).2), .bool (pipeOk r1 ni1)]) hs8 5 rfl rfl rfl rfl rfl rfl rfl ag25 trivial (fun w9 (hs9 : SH w w9 [] [.own A1 r1.length c1 3 1 (r1.map I), .blk b1 25 [.slice A1 r1.length c1, .int .i64 ni1, .bool eb1], .own A2 (((pipeEnd r1 ni1).1).length) c2 3 1 (((pipeEnd r1 ni1).1).map I), .blk b2 25 [.slice A2 (((pipeEnd r1 ni1).1).length) c2, .int .i64 ((pipeEnd r1 ni1).2), .bool (pipeOk r1 ni1)], .own A3 (((pipeEnd r1 ni1).1).length) c3 3 1 (((pipeEnd r1 ni1).1).map I), .blk b3 25 [.slice A3 (((pipeEnd r1 ni1).1).length) c3, .int .i64 ((pipeEnd r1 ni1).2), .bool (pipeOk r1 ni1)]]) => ?_)
    refine q trivial rfl rfl (asg (v := .bool (pipeOk r1 ni1)) rfl) ?_
    refine nl ?_
    refine nN ?_
    refine sq ?_
    refine sq ?_
    refine rg ?_
    refine q trivial rfl rfl (mv (v := .bool (pipeOk r1 ni1)) rfl) ?_
    refine q trivial rfl rfl (mv (v := .bool (pipeOk r1 ni1)) rfl) ?_
    refine q trivial rfl rfl (neb (a := (pipeOk r1 ni1)) (b := (pipeOk r1 ni1)) tb4 rfl rfl) ?_
    refine q trivial rfl rfl (mv (v := .bool (decide ((pipeOk r1 ni1) ≠ (pipeOk r1 ni1)))) rfl) ?_
    refine spd (p := (pipeOk r1 ni1) ≠ (pipeOk r1 ni1)) 34 rfl (fun h2 => absurd h2 (by exact fun h => h rfl)) (fun h2 => ?_)
    refine q ⟨_, rfl, rfl⟩ rfl rfl (ldg (vs := [.slice A2 (((pipeEnd r1 ni1).1).length) c2, .int .i64 ((pipeEnd r1 ni1).2), .bool (pipeOk r1 ni1)]) hs9 3 rfl rfl rfl rfl ag25) ?_
    refine q ⟨_, rfl, rfl⟩ rfl rfl (ldg (vs := [.slice A3 (((pipeEnd r1 ni1).1).length) c3, .int .i64 ((pipeEnd r1 ni1).2), .bool (pipeOk r1 ni1)]) hs9 5 rfl rfl rfl rfl ag25) ?_
    refine cl ⟨_, rfl, rfl⟩ rfl (samePipe (Axs := A2) (cxs := c2) (xs := (pipeEnd r1 ni1).1) (n1 := (pipeEnd r1 ni1).2) (e1 := (pipeOk r1 ni1)) (Ays := A3) (cys := c3) (ys := (pipeEnd r1 ni1).1) (n2 := (pipeEnd r1 ni1).2) (e2 := (pipeOk r1 ni1)) (w := _) (hxs := (hs9.sl0 2 rfl)) (hys := (hs9.sl0 4 rfl))) ?_
    rintro _ w10 ⟨rfl, hs10'⟩
    have hs10 : SH w w10 [] [.own A1 r1.length c1 3 1 (r1.map I), .blk b1 25 [.slice A1 r1.length c1, .int .i64 ni1, .bool eb1], .own A2 (((pipeEnd r1 ni1).1).length) c2 3 1 (((pipeEnd r1 ni1).1).map I), .blk b2 25 [.slice A2 (((pipeEnd r1 ni1).1).length) c2, .int .i64 ((pipeEnd r1 ni1).2), .bool (pipeOk r1 ni1)], .own A3 (((pipeEnd r1 ni1).1).length) c3 3 1 (((pipeEnd r1 ni1).1).map I), .blk b3 25 [.slice A3 (((pipeEnd r1 ni1).1).length) c3, .int .i64 ((pipeEnd r1 ni1).2), .bool (pipeOk r1 ni1)]] := hs9.call0 hs10'
    clear hs10'
    refine q ⟨_, rfl, rfl⟩ rfl rfl (nd (p := ((pipeEnd r1 ni1).1) = ((pipeEnd r1 ni1).1) ∧ ((pipeEnd r1 ni1).2) = ((pipeEnd r1 ni1).2) ∧ (pipeOk r1 ni1) = (pipeOk r1 ni1)) rfl) ?_
    refine q trivial rfl rfl (pf (v := .bool (decide (¬ (((pipeEnd r1 ni1).1) = ((pipeEnd r1 ni1).1) ∧ ((pipeEnd r1 ni1).2) = ((pipeEnd r1 ni1).2) ∧ (pipeOk r1 ni1) = (pipeOk r1 ni1))))) rfl rfl) ?_
    refine q trivial rfl rfl (mv (v := .bool (decide (¬ (((pipeEnd r1 ni1).1) = ((pipeEnd r1 ni1).1) ∧ ((pipeEnd r1 ni1).2) = ((pipeEnd r1 ni1).2) ∧ (pipeOk r1 ni1) = (pipeOk r1 ni1))))) rfl) ?_
    refine spd (p := ¬ (((pipeEnd r1 ni1).1) = ((pipeEnd r1 ni1).1) ∧ ((pipeEnd r1 ni1).2) = ((pipeEnd r1 ni1).2) ∧ (pipeOk r1 ni1) = (pipeOk r1 ni1))) 40 rfl (fun h3 => absurd h3 (by exact fun h => h ⟨rfl, rfl, rfl⟩)) (fun h3 => ?_)
    refine q ⟨_, rfl, rfl⟩ rfl rfl (mv (v := .bool (pipeOk r1 ni1)) rfl) ?_
    refine q ⟨_, rfl, rfl⟩ rfl rfl (nt (b := pipeOk r1 ni1) rfl) ?_
    refine q trivial rfl rfl (pf (v := .bool (!(pipeOk r1 ni1))) rfl rfl) ?_
    refine nl ?_
    refine nN ?_
    refine cd (b := !(pipeOk r1 ni1)) rfl (fun h4 => ?_) (fun h4 => ?_)
    · have h5 : (pipeOk r1 ni1) = false := by simpa using h4
      refine sq ?_
      refine rg ?_
      refine q trivial rfl rfl (mv (v := .bool (pipeOk r1 ni1)) rfl) ?_
      refine q trivial rfl rfl (mv (v := .bool (pipeOk r1 ni1)) rfl) ?_
      refine q trivial rfl rfl (eqb (a := (pipeOk r1 ni1)) (b := (pipeOk r1 ni1)) tb4 rfl rfl) ?_
      refine q trivial rfl rfl (mv (v := .bool (decide ((pipeOk r1 ni1) = (pipeOk r1 ni1)))) rfl) ?_
      refine spd (p := (pipeOk r1 ni1) = (pipeOk r1 ni1)) 47 rfl (fun h6 => ?_) (fun h6 => absurd (by rfl) h6)
      refine q ⟨_, rfl, rfl⟩ rfl rfl (ldg (vs := [.slice A2 (((pipeEnd r1 ni1).1).length) c2, .int .i64 ((pipeEnd r1 ni1).2), .bool (pipeOk r1 ni1)]) hs10 3 rfl rfl rfl rfl ag25) ?_
      refine q ⟨_, rfl, rfl⟩ rfl rfl (ldg (vs := [.slice A3 (((pipeEnd r1 ni1).1).length) c3, .int .i64 ((pipeEnd r1 ni1).2), .bool (pipeOk r1 ni1)]) hs10 5 rfl rfl rfl rfl ag25) ?_
      refine cl ⟨_, rfl, rfl⟩ rfl (samePipe (Axs := A2) (cxs := c2) (xs := (pipeEnd r1 ni1).1) (n1 := (pipeEnd r1 ni1).2) (e1 := (pipeOk r1 ni1)) (Ays := A3) (cys := c3) (ys := (pipeEnd r1 ni1).1) (n2 := (pipeEnd r1 ni1).2) (e2 := (pipeOk r1 ni1)) (w := _) (hxs := (hs10.sl0 2 rfl)) (hys := (hs10.sl0 4 rfl))) ?_
      rintro _ w11 ⟨rfl, hs11'⟩
      have hs11 : SH w w11 [] [.own A1 r1.length c1 3 1 (r1.map I), .blk b1 25 [.slice A1 r1.length c1, .int .i64 ni1, .bool eb1], .own A2 (((pipeEnd r1 ni1).1).length) c2 3 1 (((pipeEnd r1 ni1).1).map I), .blk b2 25 [.slice A2 (((pipeEnd r1 ni1).1).length) c2, .int .i64 ((pipeEnd r1 ni1).2), .bool (pipeOk r1 ni1)], .own A3 (((pipeEnd r1 ni1).1).length) c3 3 1 (((pipeEnd r1 ni1).1).map I), .blk b3 25 [.slice A3 (((pipeEnd r1 ni1).1).length) c3, .int .i64 ((pipeEnd r1 ni1).2), .bool (pipeOk r1 ni1)]] := hs10.call0 hs11'
      clear hs11'
      refine q trivial rfl rfl (pt (v := .bool (decide (((pipeEnd r1 ni1).1) = ((pipeEnd r1 ni1).1) ∧ ((pipeEnd r1 ni1).2) = ((pipeEnd r1 ni1).2) ∧ (pipeOk r1 ni1) = (pipeOk r1 ni1)))) rfl rfl) ?_
      refine q trivial rfl rfl (asg (v := .bool (decide (((pipeEnd r1 ni1).1) = ((pipeEnd r1 ni1).1) ∧ ((pipeEnd r1 ni1).2) = ((pipeEnd r1 ni1).2) ∧ (pipeOk r1 ni1) = (pipeOk r1 ni1)))) rfl) ?_
      refine nl ?_
      refine nN ?_
      have hs12 : SH w w11 [] [] := hs11.pick [] rfl (by decide)
      refine rt (tR ?_)
      refine fret (v := .bool (decide (((pipeEnd r1 ni1).1) = ((pipeEnd r1 ni1).1) ∧ ((pipeEnd r1 ni1).2) = ((pipeEnd r1 ni1).2) ∧ (pipeOk r1 ni1) = (pipeOk r1 ni1)))) (.tmp .nil) rfl ?_
      have e1 : (decide (((pipeEnd r1 ni1).1) = ((pipeEnd r1 ni1).1) ∧ ((pipeEnd r1 ni1).2) = ((pipeEnd r1 ni1).2) ∧ (pipeOk r1 ni1) = (pipeOk r1 ni1))) = true := by first | rfl | (simp; done) | (have hok : pipeOk r1 ni1 = true := (by assumption); have hx := pipe_end hok; have hy := pipeEnd_yes hok; simp [hx, hy, hok] at h1 h5 ⊢)
      exact ⟨(congrArg (Value.bool) e1), hs12⟩
    · have h7 : (pipeOk r1 ni1) = true := by simpa using h4
      refine sk ?_
      refine nN ?_
      have hs13 : SH w w10 [] [.own A1 r1.length c1 3 1 (r1.map I), .blk b1 25 [.slice A1 r1.length c1, .int .i64 ni1, .bool eb1], .own A2 (((pipeEnd r1 ni1).1).length) c2 3 1 (((pipeEnd r1 ni1).1).map I), .blk b2 25 [.slice A2 (((pipeEnd r1 ni1).1).length) c2, .int .i64 ((pipeEnd r1 ni1).2), .bool (pipeOk r1 ni1)]] := hs10.pick [0, 1, 2, 3] rfl (by decide)
      refine sq ?_
      refine rg ?_
      refine q trivial rfl rfl (ldg (vs := [.slice A2 (((pipeEnd r1 ni1).1).length) c2, .int .i64 ((pipeEnd r1 ni1).2), .bool (pipeOk r1 ni1)]) hs13 3 rfl rfl rfl rfl ag25) ?_
      refine Go.PF.bs hs13 sl23 [(0, .int .i64 1)] rfl (cs := [.int .i64 1]) (by kernel_rfl) rfl (by decide) (by decide) trivial rfl (fun b4 w12 (hs14 : SH w w12 [] [.own A1 r1.length c1 3 1 (r1.map I), .blk b1 25 [.slice A1 r1.length c1, .int .i64 ni1, .bool eb1], .own A2 (((pipeEnd r1 ni1).1).length) c2 3 1 (((pipeEnd r1 ni1).1).map I), .blk b2 25 [.slice A2 (((pipeEnd r1 ni1).1).length) c2, .int .i64 ((pipeEnd r1 ni1).2), .bool (pipeOk r1 ni1)], .own (some ⟨b4, 0, none⟩) ([1].length) 1 3 1 ([1].map I)]) => ?_)
      refine cl trivial rfl (iPipePut (Axs := A2) (cxs := c2) (xs := (pipeEnd r1 ni1).1) (ni := (pipeEnd r1 ni1).2) (eb := (pipeOk r1 ni1)) (Abs := (some ⟨b4, 0, none⟩)) (cbs := 1) (bs := [1]) (w := _) (hxs := (hs14.sl0 2 rfl)) (hbs := (hs14.sl0 4 rfl))) ?_
      rintro _ w13 ⟨A4, c4, rfl, hs15'⟩
      have hs15 : SH w w13 [] [.own A1 r1.length c1 3 1 (r1.map I), .blk b1 25 [.slice A1 r1.length c1, .int .i64 ni1, .bool eb1], .own A2 (((pipeEnd r1 ni1).1).length) c2 3 1 (((pipeEnd r1 ni1).1).map I), .blk b2 25 [.slice A2 (((pipeEnd r1 ni1).1).length) c2, .int .i64 ((pipeEnd r1 ni1).2), .bool (pipeOk r1 ni1)], .own (some ⟨b4, 0, none⟩) ([1].length) 1 3 1 ([1].map I), .own A4 (((pipePut ((pipeEnd r1 ni1).1) ((pipeEnd r1 ni1).2) (pipeOk r1 ni1) [1]).1).length) c4 3 1 (((pipePut ((pipeEnd r1 ni1).1) ((pipeEnd r1 ni1).2) (pipeOk r1 ni1) [1]).1).map I)] := hs14.call0 hs15'
      clear hs15'
      refine q trivial rfl rfl (mv (v := .tuple #[.agg #[.slice A4 (((pipePut ((pipeEnd r1 ni1).1) ((pipeEnd r1 ni1).2) (pipeOk r1 ni1) [1]).1).length) c4, .int .i64 ((pipePut ((pipeEnd r1 ni1).1) ((pipeEnd r1 ni1).2) (pipeOk r1 ni1) [1]).2.1), .bool false], .int .i64 ((pipePut ((pipeEnd r1 ni1).1) ((pipeEnd r1 ni1).2) (pipeOk r1 ni1) [1]).2.2.1), .bool ((pipePut ((pipeEnd r1 ni1).1) ((pipeEnd r1 ni1).2) (pipeOk r1 ni1) [1]).2.2.2)]) rfl) ?_
      refine q trivial rfl rfl (xt 0 (v := .agg #[.slice A4 (((pipePut ((pipeEnd r1 ni1).1) ((pipeEnd r1 ni1).2) (pipeOk r1 ni1) [1]).1).length) c4, .int .i64 ((pipePut ((pipeEnd r1 ni1).1) ((pipeEnd r1 ni1).2) (pipeOk r1 ni1) [1]).2.1), .bool false]) rfl rfl) ?_
      refine q trivial rfl rfl (xt 1 (v := .int .i64 ((pipePut ((pipeEnd r1 ni1).1) ((pipeEnd r1 ni1).2) (pipeOk r1 ni1) [1]).2.2.1)) rfl rfl) ?_
      refine q trivial rfl rfl (xt 2 (v := .bool ((pipePut ((pipeEnd r1 ni1).1) ((pipeEnd r1 ni1).2) (pipeOk r1 ni1) [1]).2.2.2)) rfl rfl) ?_
      refine al (v := .agg #[.slice none 0 0, .int .i64 0, .bool false]) (cs := [.slice none 0 0, .int .i64 0, .bool false]) hs15 tz25 rfl trivial rfl (fun b5 w14 (hs16 : SH w w14 [] [.own A1 r1.length c1 3 1 (r1.map I), .blk b1 25 [.slice A1 r1.length c1, .int .i64 ni1, .bool eb1], .own A2 (((pipeEnd r1 ni1).1).length) c2 3 1 (((pipeEnd r1 ni1).1).map I), .blk b2 25 [.slice A2 (((pipeEnd r1 ni1).1).length) c2, .int .i64 ((pipeEnd r1 ni1).2), .bool (pipeOk r1 ni1)], .own (some ⟨b4, 0, none⟩) ([1].length) 1 3 1 ([1].map I), .own A4 (((pipePut ((pipeEnd r1 ni1).1) ((pipeEnd r1 ni1).2) (pipeOk r1 ni1) [1]).1).length) c4 3 1 (((pipePut ((pipeEnd r1 ni1).1) ((pipeEnd r1 ni1).2) (pipeOk r1 ni1) [1]).1).map I), .blk b5 25 [.slice none 0 0, .int .i64 0, .bool false]]) => ?_)
      refine stg (vs := [.slice A4 (((pipePut ((pipeEnd r1 ni1).1) ((pipeEnd r1 ni1).2) (pipeOk r1 ni1) [1]).1).length) c4, .int .i64 ((pipePut ((pipeEnd r1 ni1).1) ((pipeEnd r1 ni1).2) (pipeOk r1 ni1) [1]).2.1), .bool false]) hs16 6 rfl rfl rfl rfl rfl rfl rfl ag25 trivial (fun w15 (hs17 : SH w w15 [] [.own A1 r1.length c1 3 1 (r1.map I), .blk b1 25 [.slice A1 r1.length c1, .int .i64 ni1, .bool eb1], .own A2 (((pipeEnd r1 ni1).1).length) c2 3 1 (((pipeEnd r1 ni1).1).map I), .blk b2 25 [.slice A2 (((pipeEnd r1 ni1).1).length) c2, .int .i64 ((pipeEnd r1 ni1).2), .bool (pipeOk r1 ni1)], .own (some ⟨b4, 0, none⟩) ([1].length) 1 3 1 ([1].map I), .own A4 (((pipePut ((pipeEnd r1 ni1).1) ((pipeEnd r1 ni1).2) (pipeOk r1 ni1) [1]).1).length) c4 3 1 (((pipePut ((pipeEnd r1 ni1).1) ((pipeEnd r1 ni1).2) (pipeOk r1 ni1) [1]).1).map I), .blk b5 25 [.slice A4 (((pipePut ((pipeEnd r1 ni1).1) ((pipeEnd r1 ni1).2) (pipeOk r1 ni1) [1]).1).length) c4, .int .i64 ((pipePut ((pipeEnd r1 ni1).1) ((pipeEnd r1 ni1).2) (pipeOk r1 ni1) [1]).2.1), .bool false]]) => ?_)
      refine q trivial rfl rfl (asg (v := .int .i64 ((pipePut ((pipeEnd r1 ni1).1) ((pipeEnd r1 ni1).2) (pipeOk r1 ni1) [1]).2.2.1)) rfl) ?_
      refine q trivial rfl rfl (asg (v := .bool ((pipePut ((pipeEnd r1 ni1).1) ((pipeEnd r1 ni1).2) (pipeOk r1 ni1) [1]).2.2.2)) rfl) ?_
      refine nl ?_
      refine nN ?_
      have hs18 : SH w w15 [] [.own A1 r1.length c1 3 1 (r1.map I), .blk b1 25 [.slice A1 r1.length c1, .int .i64 ni1, .bool eb1], .own A2 (((pipeEnd r1 ni1).1).length) c2 3 1 (((pipeEnd r1 ni1).1).map I), .blk b2 25 [.slice A2 (((pipeEnd r1 ni1).1).length) c2, .int .i64 ((pipeEnd r1 ni1).2), .bool (pipeOk r1 ni1)]] := hs17.pick [0, 1, 2, 3] rfl (by decide)
      refine sq ?_
      refine rg ?_
      refine q trivial rfl rfl (ldg (vs := [.slice A2 (((pipeEnd r1 ni1).1).length) c2, .int .i64 ((pipeEnd r1 ni1).2), .bool (pipeOk r1 ni1)]) hs18 3 rfl rfl rfl rfl ag25) ?_
      refine cl trivial rfl (iPipeGet (Axs := A2) (cxs := c2) (xs := (pipeEnd r1 ni1).1) (ni := (pipeEnd r1 ni1).2) (eb := (pipeOk r1 ni1)) (m := 16) (w := _) (hxs := (hs18.sl0 2 rfl))) ?_
      rintro _ w16 ⟨A5, c5, Ag1, cg1, rfl, hs19'⟩
      have hs19 : SH w w16 [] [.own A1 r1.length c1 3 1 (r1.map I), .blk b1 25 [.slice A1 r1.length c1, .int .i64 ni1, .bool eb1], .own A2 (((pipeEnd r1 ni1).1).length) c2 3 1 (((pipeEnd r1 ni1).1).map I), .blk b2 25 [.slice A2 (((pipeEnd r1 ni1).1).length) c2, .int .i64 ((pipeEnd r1 ni1).2), .bool (pipeOk r1 ni1)], .own A5 (((pipeGet ((pipeEnd r1 ni1).1) ((pipeEnd r1 ni1).2) (pipeOk r1 ni1) 16).1).length) c5 3 1 (((pipeGet ((pipeEnd r1 ni1).1) ((pipeEnd r1 ni1).2) (pipeOk r1 ni1) 16).1).map I), .own Ag1 (((pipeGet ((pipeEnd r1 ni1).1) ((pipeEnd r1 ni1).2) (pipeOk r1 ni1) 16).2.2.2.1).length) cg1 3 1 (((pipeGet ((pipeEnd r1 ni1).1) ((pipeEnd r1 ni1).2) (pipeOk r1 ni1) 16).2.2.2.1).map I)] := hs18.call0 hs19'
      clear hs19'
      refine q trivial rfl rfl (mv (v := .tuple #[.agg #[.slice A5 (((pipeGet ((pipeEnd r1 ni1).1) ((pipeEnd r1 ni1).2) (pipeOk r1 ni1) 16).1).length) c5, .int .i64 ((pipeGet ((pipeEnd r1 ni1).1) ((pipeEnd r1 ni1).2) (pipeOk r1 ni1) 16).2.1), .bool ((pipeGet ((pipeEnd r1 ni1).1) ((pipeEnd r1 ni1).2) (pipeOk r1 ni1) 16).2.2.1)], .slice Ag1 (((pipeGet ((pipeEnd r1 ni1).1) ((pipeEnd r1 ni1).2) (pipeOk r1 ni1) 16).2.2.2.1).length) cg1, .bool ((pipeGet ((pipeEnd r1 ni1).1) ((pipeEnd r1 ni1).2) (pipeOk r1 ni1) 16).2.2.2.2)]) rfl) ?_
      refine q trivial rfl rfl (xt 0 (v := .agg #[.slice A5 (((pipeGet ((pipeEnd r1 ni1).1) ((pipeEnd r1 ni1).2) (pipeOk r1 ni1) 16).1).length) c5, .int .i64 ((pipeGet ((pipeEnd r1 ni1).1) ((pipeEnd r1 ni1).2) (pipeOk r1 ni1) 16).2.1), .bool ((pipeGet ((pipeEnd r1 ni1).1) ((pipeEnd r1 ni1).2) (pipeOk r1 ni1) 16).2.2.1)]) rfl rfl) ?_
      refine q trivial rfl rfl (xt 1 (v := .slice Ag1 (((pipeGet ((pipeEnd r1 ni1).1) ((pipeEnd r1 ni1).2) (pipeOk r1 ni1) 16).2.2.2.1).length) cg1) rfl rfl) ?_
      refine q trivial rfl rfl (xt 2 (v := .bool ((pipeGet ((pipeEnd r1 ni1).1) ((pipeEnd r1 ni1).2) (pipeOk r1 ni1) 16).2.2.2.2)) rfl rfl) ?_
      refine al (v := .agg #[.slice none 0 0, .int .i64 0, .bool false]) (cs := [.slice none 0 0, .int .i64 0, .bool false]) hs19 tz25 rfl trivial rfl (fun b6 w17 (hs20 : SH w w17 [] [.own A1 r1.length c1 3 1 (r1.map I), .blk b1 25 [.slice A1 r1.length c1, .int .i64 ni1, .bool eb1], .own A2 (((pipeEnd r1 ni1).1).length) c2 3 1 (((pipeEnd r1 ni1).1).map I), .blk b2 25 [.slice A2 (((pipeEnd r1 ni1).1).length) c2, .int .i64 ((pipeEnd r1 ni1).2), .bool (pipeOk r1 ni1)], .own A5 (((pipeGet ((pipeEnd r1 ni1).1) ((pipeEnd r1 ni1).2) (pipeOk r1 ni1) 16).1).length) c5 3 1 (((pipeGet ((pipeEnd r1 ni1).1) ((pipeEnd r1 ni1).2) (pipeOk r1 ni1) 16).1).map I), .own Ag1 (((pipeGet ((pipeEnd r1 ni1).1) ((pipeEnd r1 ni1).2) (pipeOk r1 ni1) 16).2.2.2.1).length) cg1 3 1 (((pipeGet ((pipeEnd r1 ni1).1) ((pipeEnd r1 ni1).2) (pipeOk r1 ni1) 16).2.2.2.1).map I), .blk b6 25 [.slice none 0 0, .int .i64 0, .bool false]]) => ?_)
      refine stg (vs := [.slice A5 (((pipeGet ((pipeEnd r1 ni1).1) ((pipeEnd r1 ni1).2) (pipeOk r1 ni1) 16).1).length) c5, .int .i64 ((pipeGet ((pipeEnd r1 ni1).1) ((pipeEnd r1 ni1).2) (pipeOk r1 ni1) 16).2.1), .bool ((pipeGet ((pipeEnd r1 ni1).1) ((pipeEnd r1 ni1).2) (pipeOk r1 ni1) 16).2.2.1)]) hs20 6 rfl rfl rfl rfl rfl rfl rfl ag25 trivial (fun w18 (hs21 : SH w w18 [] [.own A1 r1.length c1 3 1 (r1.map I), .blk b1 25 [.slice A1 r1.length c1, .int .i64 ni1, .bool eb1], .own A2 (((pipeEnd r1 ni1).1).length) c2 3 1 (((pipeEnd r1 ni1).1).map I), .blk b2 25 [.slice A2 (((pipeEnd r1 ni1).1).length) c2, .int .i64 ((pipeEnd r1 ni1).2), .bool (pipeOk r1 ni1)], .own A5 (((pipeGet ((pipeEnd r1 ni1).1) ((pipeEnd r1 ni1).2) (pipeOk r1 ni1) 16).1).length) c5 3 1 (((pipeGet ((pipeEnd r1 ni1).1) ((pipeEnd r1 ni1).2) (pipeOk r1 ni1) 16).1).map I), .own Ag1 (((pipeGet ((pipeEnd r1 ni1).1) ((pipeEnd r1 ni1).2) (pipeOk r1 ni1) 16).2.2.2.1).length) cg1 3 1 (((pipeGet ((pipeEnd r1 ni1).1) ((pipeEnd r1 ni1).2) (pipeOk r1 ni1) 16).2.2.2.1).map I), .blk b6 25 [.slice A5 (((pipeGet ((pipeEnd r1 ni1).1) ((pipeEnd r1 ni1).2) (pipeOk r1 ni1) 16).1).length) c5, .int .i64 ((pipeGet ((pipeEnd r1 ni1).1) ((pipeEnd r1 ni1).2) (pipeOk r1 ni1) 16).2.1), .bool ((pipeGet ((pipeEnd r1 ni1).1) ((pipeEnd r1 ni1).2) (pipeOk r1 ni1) 16).2.2.1)]]) => ?_)
      refine q trivial rfl rfl (asg (v := .slice Ag1 (((pipeGet ((pipeEnd r1 ni1).1) ((pipeEnd r1 ni1).2) (pipeOk r1 ni1) 16).2.2.2.1).length) cg1) rfl) ?_
      refine q trivial rfl rfl (asg (v := .bool ((pipeGet ((pipeEnd r1 ni1).1) ((pipeEnd r1 ni1).2) (pipeOk r1 ni1) 16).2.2.2.2)) rfl) ?_
      refine nl ?_
      refine nN ?_
      have hs22 : SH w w18 [] [.own A1 r1.length c1 3 1 (r1.map I), .blk b1 25 [.slice A1 r1.length c1, .int .i64 ni1, .bool eb1], .own A2 (((pipeEnd r1 ni1).1).length) c2 3 1 (((pipeEnd r1 ni1).1).map I), .blk b2 25 [.slice A2 (((pipeEnd r1 ni1).1).length) c2, .int .i64 ((pipeEnd r1 ni1).2), .bool (pipeOk r1 ni1)], .own Ag1 (((pipeGet ((pipeEnd r1 ni1).1) ((pipeEnd r1 ni1).2) (pipeOk r1 ni1) 16).2.2.2.1).length) cg1 3 1 (((pipeGet ((pipeEnd r1 ni1).1) ((pipeEnd r1 ni1).2) (pipeOk r1 ni1) 16).2.2.2.1).map I)] := hs21.pick [0, 1, 2, 3, 5] rfl (by decide)
      refine sq ?_
      refine rg ?_
      refine q trivial rfl rfl (ldg (vs := [.slice A2 (((pipeEnd r1 ni1).1).length) c2, .int .i64 ((pipeEnd r1 ni1).2), .bool (pipeOk r1 ni1)]) hs22 3 rfl rfl rfl rfl ag25) ?_
      refine cl trivial rfl (iPipeEnd (Axs := A2) (cxs := c2) (xs := (pipeEnd r1 ni1).1) (ni := (pipeEnd r1 ni1).2) (eb := (pipeOk r1 ni1)) (w := _) (hxs := (hs22.sl0 2 rfl))) ?_
      rintro _ w19 ⟨A6, c6, rfl, hs23'⟩
      have hs23 : SH w w19 [] [.own A1 r1.length c1 3 1 (r1.map I), .blk b1 25 [.slice A1 r1.length c1, .int .i64 ni1, .bool eb1], .own A2 (((pipeEnd r1 ni1).1).length) c2 3 1 (((pipeEnd r1 ni1).1).map I), .blk b2 25 [.slice A2 (((pipeEnd r1 ni1).1).length) c2, .int .i64 ((pipeEnd r1 ni1).2), .bool (pipeOk r1 ni1)], .own Ag1 (((pipeGet ((pipeEnd r1 ni1).1) ((pipeEnd r1 ni1).2) (pipeOk r1 ni1) 16).2.2.2.1).length) cg1 3 1 (((pipeGet ((pipeEnd r1 ni1).1) ((pipeEnd r1 ni1).2) (pipeOk r1 ni1) 16).2.2.2.1).map I), .own A6 (((pipeEnd ((pipeEnd r1 ni1).1) ((pipeEnd r1 ni1).2)).1).length) c6 3 1 (((pipeEnd ((pipeEnd r1 ni1).1) ((pipeEnd r1 ni1).2)).1).map I)] := hs22.call0 hs23'
      clear hs23'
      refine q trivial rfl rfl (mv (v := .tuple #[.agg #[.slice A6 (((pipeEnd ((pipeEnd r1 ni1).1) ((pipeEnd r1 ni1).2)).1).length) c6, .int .i64 ((pipeEnd ((pipeEnd r1 ni1).1) ((pipeEnd r1 ni1).2)).2), .bool (pipeOk ((pipeEnd r1 ni1).1) ((pipeEnd r1 ni1).2))], .bool (pipeOk ((pipeEnd r1 ni1).1) ((pipeEnd r1 ni1).2))]) rfl) ?_
      refine q trivial rfl rfl (xt 0 (v := .agg #[.slice A6 (((pipeEnd ((pipeEnd r1 ni1).1) ((pipeEnd r1 ni1).2)).1).length) c6, .int .i64 ((pipeEnd ((pipeEnd r1 ni1).1) ((pipeEnd r1 ni1).2)).2), .bool (pipeOk ((pipeEnd r1 ni1).1) ((pipeEnd r1 ni1).2))]) rfl rfl) ?_
      refine q trivial rfl rfl (xt 1 (v := .bool (pipeOk ((pipeEnd r1 ni1).1) ((pipeEnd r1 ni1).2))) rfl rfl) ?_
      refine al (v := .agg #[.slice none 0 0, .int .i64 0, .bool false]) (cs := [.slice none 0 0, .int .i64 0, .bool false]) hs23 tz25 rfl trivial rfl (fun b7 w20 (hs24 : SH w w20 [] [.own A1 r1.length c1 3 1 (r1.map I), .blk b1 25 [.slice A1 r1.length c1, .int .i64 ni1, .bool eb1], .own A2 (((pipeEnd r1 ni1).1).length) c2 3 1 (((pipeEnd r1 ni1).1).map I), .blk b2 25 [.slice A2 (((pipeEnd r1 ni1).1).length) c2, .int .i64 ((pipeEnd r1 ni1).2), .bool (pipeOk r1 ni1)], .own Ag1 (((pipeGet ((pipeEnd r1 ni1).1) ((pipeEnd r1 ni1).2) (pipeOk r1 ni1) 16).2.2.2.1).length) cg1 3 1 (((pipeGet ((pipeEnd r1 ni1).1) ((pipeEnd r1 ni1).2) (pipeOk r1 ni1) 16).2.2.2.1).map I), .own A6 (((pipeEnd ((pipeEnd r1 ni1).1) ((pipeEnd r1 ni1).2)).1).length) c6 3 1 (((pipeEnd ((pipeEnd r1 ni1).1) ((pipeEnd r1 ni1).2)).1).map I), .blk b7 25 [.slice none 0 0, .int .i64 0, .bool false]]) => ?_)
      refine stg (vs := [.slice A6 (((pipeEnd ((pipeEnd r1 ni1).1) ((pipeEnd r1 ni1).2)).1).length) c6, .int .i64 ((pipeEnd ((pipeEnd r1 ni1).1) ((pipeEnd r1 ni1).2)).2), .bool (pipeOk ((pipeEnd r1 ni1).1) ((pipeEnd r1 ni1).2))]) hs24 6 rfl rfl rfl rfl rfl rfl rfl ag25 trivial (fun w21 (hs25 : SH w w21 [] [.own A1 r1.length c1 3 1 (r1.map I), .blk b1 25 [.slice A1 r1.length c1, .int .i64 ni1, .bool eb1], .own A2 (((pipeEnd r1 ni1).1).length) c2 3 1 (((pipeEnd r1 ni1).1).map I), .blk b2 25 [.slice A2 (((pipeEnd r1 ni1).1).length) c2, .int .i64 ((pipeEnd r1 ni1).2), .bool (pipeOk r1 ni1)], .own Ag1 (((pipeGet ((pipeEnd r1 ni1).1) ((pipeEnd r1 ni1).2) (pipeOk r1 ni1) 16).2.2.2.1).length) cg1 3 1 (((pipeGet ((pipeEnd r1 ni1).1) ((pipeEnd r1 ni1).2) (pipeOk r1 ni1) 16).2.2.2.1).map I), .own A6 (((pipeEnd ((pipeEnd r1 ni1).1) ((pipeEnd r1 ni1).2)).1).length) c6 3 1 (((pipeEnd ((pipeEnd r1 ni1).1) ((pipeEnd r1 ni1).2)).1).map I), .blk b7 25 [.slice A6 (((pipeEnd ((pipeEnd r1 ni1).1) ((pipeEnd r1 ni1).2)).1).length) c6, .int .i64 ((pipeEnd ((pipeEnd r1 ni1).1) ((pipeEnd r1 ni1).2)).2), .bool (pipeOk ((pipeEnd r1 ni1).1) ((pipeEnd r1 ni1).2))]]) => ?_)
      refine q trivial rfl rfl (asg (v := .bool (pipeOk ((pipeEnd r1 ni1).1) ((pipeEnd r1 ni1).2))) rfl) ?_
      refine nl ?_
      refine nN ?_
      refine sq ?_
      refine rg ?_
      refine q trivial rfl rfl (mv (v := .bool ((pipePut ((pipeEnd r1 ni1).1) ((pipeEnd r1 ni1).2) (pipeOk r1 ni1) [1]).2.2.2)) rfl) ?_
      refine q trivial rfl rfl (nt (b := (pipePut ((pipeEnd r1 ni1).1) ((pipeEnd r1 ni1).2) (pipeOk r1 ni1) [1]).2.2.2) rfl) ?_
      refine q trivial rfl rfl (mv (v := .bool (!((pipePut ((pipeEnd r1 ni1).1) ((pipeEnd r1 ni1).2) (pipeOk r1 ni1) [1]).2.2.2))) rfl) ?_
      refine spl (b := !((pipePut ((pipeEnd r1 ni1).1) ((pipeEnd r1 ni1).2) (pipeOk r1 ni1) [1]).2.2.2)) 72 rfl (fun h8 => ?_) (fun h8 => ?_)
      · have h9 : ((pipePut ((pipeEnd r1 ni1).1) ((pipeEnd r1 ni1).2) (pipeOk r1 ni1) [1]).2.2.2) = false := by simpa using h8
        refine q ⟨_, rfl, rfl⟩ rfl rfl (mv (v := .bool ((pipeGet ((pipeEnd r1 ni1).1) ((pipeEnd r1 ni1).2) (pipeOk r1 ni1) 16).2.2.2.2)) rfl) ?_
        refine q trivial rfl rfl (pt (v := .bool ((pipeGet ((pipeEnd r1 ni1).1) ((pipeEnd r1 ni1).2) (pipeOk r1 ni1) 16).2.2.2.2)) rfl rfl) ?_
        refine q trivial rfl rfl (mv (v := .bool ((pipeGet ((pipeEnd r1 ni1).1) ((pipeEnd r1 ni1).2) (pipeOk r1 ni1) 16).2.2.2.2)) rfl) ?_
        refine spl (b := (pipeGet ((pipeEnd r1 ni1).1) ((pipeEnd r1 ni1).2) (pipeOk r1 ni1) 16).2.2.2.2) 75 rfl (fun h10 => ?_) (fun h10 => ?_)
        · refine q ⟨_, rfl, rfl⟩ rfl rfl (mv (v := .slice Ag1 (((pipeGet ((pipeEnd r1 ni1).1) ((pipeEnd r1 ni1).2) (pipeOk r1 ni1) 16).2.2.2.1).length) cg1) rfl) ?_
          refine q ⟨_, rfl, rfl⟩ rfl rfl (fa 0 fo25_0 rfl) ?_
          refine q ⟨_, rfl, rfl⟩ rfl rfl (ld (v := .slice A1 r1.length c1) hs25 1 rfl rfl rfl one23) ?_
          refine cl ⟨_, rfl, rfl⟩ rfl (sameBytes (Axs := Ag1) (cxs := cg1) (xs := (pipeGet ((pipeEnd r1 ni1).1) ((pipeEnd r1 ni1).2) (pipeOk r1 ni1) 16).2.2.2.1) (Abs := A1) (cbs := c1) (bs := r1) (w := _) (hxs := (hs25.sl0 4 rfl)) (hbs := (hs25.sl0 0 rfl))) ?_
          rintro _ w22 ⟨rfl, hs26'⟩
          have hs26 : SH w w22 [] [.own A1 r1.length c1 3 1 (r1.map I), .blk b1 25 [.slice A1 r1.length c1, .int .i64 ni1, .bool eb1], .own A2 (((pipeEnd r1 ni1).1).length) c2 3 1 (((pipeEnd r1 ni1).1).map I), .blk b2 25 [.slice A2 (((pipeEnd r1 ni1).1).length) c2, .int .i64 ((pipeEnd r1 ni1).2), .bool (pipeOk r1 ni1)], .own Ag1 (((pipeGet ((pipeEnd r1 ni1).1) ((pipeEnd r1 ni1).2) (pipeOk r1 ni1) 16).2.2.2.1).length) cg1 3 1 (((pipeGet ((pipeEnd r1 ni1).1) ((pipeEnd r1 ni1).2) (pipeOk r1 ni1) 16).2.2.2.1).map I), .own A6 (((pipeEnd ((pipeEnd r1 ni1).1) ((pipeEnd r1 ni1).2)).1).length) c6 3 1 (((pipeEnd ((pipeEnd r1 ni1).1) ((pipeEnd r1 ni1).2)).1).map I), .blk b7 25 [.slice A6 (((pipeEnd ((pipeEnd r1 ni1).1) ((pipeEnd r1 ni1).2)).1).length) c6, .int .i64 ((pipeEnd ((pipeEnd r1 ni1).1) ((pipeEnd r1 ni1).2)).2), .bool (pipeOk ((pipeEnd r1 ni1).1) ((pipeEnd r1 ni1).2))]] := hs25.call0 hs26'
          clear hs26'
          refine q trivial rfl rfl (pt (v := .bool (decide (((pipeGet ((pipeEnd r1 ni1).1) ((pipeEnd r1 ni1).2) (pipeOk r1 ni1) 16).2.2.2.1) = r1))) rfl rfl) ?_
          refine q trivial rfl rfl (mv (v := .bool (decide (((pipeGet ((pipeEnd r1 ni1).1) ((pipeEnd r1 ni1).2) (pipeOk r1 ni1) 16).2.2.2.1) = r1))) rfl) ?_
          refine spd (p := ((pipeGet ((pipeEnd r1 ni1).1) ((pipeEnd r1 ni1).2) (pipeOk r1 ni1) 16).2.2.2.1) = r1) 81 rfl (fun h11 => ?_) (fun h11 => ?_)
          · refine q ⟨_, rfl, rfl⟩ rfl rfl (mv (v := .bool (pipeOk ((pipeEnd r1 ni1).1) ((pipeEnd r1 ni1).2))) rfl) ?_
            refine q trivial rfl rfl (pt (v := .bool (pipeOk ((pipeEnd r1 ni1).1) ((pipeEnd r1 ni1).2))) rfl rfl) ?_
            refine q trivial rfl rfl (mv (v := .bool (pipeOk ((pipeEnd r1 ni1).1) ((pipeEnd r1 ni1).2))) rfl) ?_
            refine spl (b := pipeOk ((pipeEnd r1 ni1).1) ((pipeEnd r1 ni1).2)) 84 rfl (fun h12 => ?_) (fun h12 => ?_)
            · refine q ⟨_, rfl, rfl⟩ rfl rfl (ldg (vs := [.slice A6 (((pipeEnd ((pipeEnd r1 ni1).1) ((pipeEnd r1 ni1).2)).1).length) c6, .int .i64 ((pipeEnd ((pipeEnd r1 ni1).1) ((pipeEnd r1 ni1).2)).2), .bool (pipeOk ((pipeEnd r1 ni1).1) ((pipeEnd r1 ni1).2))]) hs26 6 rfl rfl rfl rfl ag25) ?_
              refine q ⟨_, rfl, rfl⟩ rfl rfl (ldg (vs := [.slice A2 (((pipeEnd r1 ni1).1).length) c2, .int .i64 ((pipeEnd r1 ni1).2), .bool (pipeOk r1 ni1)]) hs26 3 rfl rfl rfl rfl ag25) ?_
              refine cl ⟨_, rfl, rfl⟩ rfl (samePipe (Axs := A6) (cxs := c6) (xs := (pipeEnd ((pipeEnd r1 ni1).1) ((pipeEnd r1 ni1).2)).1) (n1 := (pipeEnd ((pipeEnd r1 ni1).1) ((pipeEnd r1 ni1).2)).2) (e1 := (pipeOk ((pipeEnd r1 ni1).1) ((pipeEnd r1 ni1).2))) (Ays := A2) (cys := c2) (ys := (pipeEnd r1 ni1).1) (n2 := (pipeEnd r1 ni1).2) (e2 := (pipeOk r1 ni1)) (w := _) (hxs := (hs26.sl0 5 rfl)) (hys := (hs26.sl0 2 rfl))) ?_
              rintro _ w23 ⟨rfl, hs27'⟩
              have hs27 : SH w w23 [] [.own A1 r1.length c1 3 1 (r1.map I), .blk b1 25 [.slice A1 r1.length c1, .int .i64 ni1, .bool eb1], .own A2 (((pipeEnd r1 ni1).1).length) c2 3 1 (((pipeEnd r1 ni1).1).map I), .blk b2 25 [.slice A2 (((pipeEnd r1 ni1).1).length) c2, .int .i64 ((pipeEnd r1 ni1).2), .bool (pipeOk r1 ni1)], .own Ag1 (((pipeGet ((pipeEnd r1 ni1).1) ((pipeEnd r1 ni1).2) (pipeOk r1 ni1) 16).2.2.2.1).length) cg1 3 1 (((pipeGet ((pipeEnd r1 ni1).1) ((pipeEnd r1 ni1).2) (pipeOk r1 ni1) 16).2.2.2.1).map I), .own A6 (((pipeEnd ((pipeEnd r1 ni1).1) ((pipeEnd r1 ni1).2)).1).length) c6 3 1 (((pipeEnd ((pipeEnd r1 ni1).1) ((pipeEnd r1 ni1).2)).1).map I), .blk b7 25 [.slice A6 (((pipeEnd ((pipeEnd r1 ni1).1) ((pipeEnd r1 ni1).2)).1).length) c6, .int .i64 ((pipeEnd ((pipeEnd r1 ni1).1) ((pipeEnd r1 ni1).2)).2), .bool (pipeOk ((pipeEnd r1 ni1).1) ((pipeEnd r1 ni1).2))]] := hs26.call0 hs27'
              clear hs27'
              refine q trivial rfl rfl (pt (v := .bool (decide (((pipeEnd ((pipeEnd r1 ni1).1) ((pipeEnd r1 ni1).2)).1) = ((pipeEnd r1 ni1).1) ∧ ((pipeEnd ((pipeEnd r1 ni1).1) ((pipeEnd r1 ni1).2)).2) = ((pipeEnd r1 ni1).2) ∧ (pipeOk ((pipeEnd r1 ni1).1) ((pipeEnd r1 ni1).2)) = (pipeOk r1 ni1)))) rfl rfl) ?_
              refine q trivial rfl rfl (mv (v := .bool (decide (((pipeEnd ((pipeEnd r1 ni1).1) ((pipeEnd r1 ni1).2)).1) = ((pipeEnd r1 ni1).1) ∧ ((pipeEnd ((pipeEnd r1 ni1).1) ((pipeEnd r1 ni1).2)).2) = ((pipeEnd r1 ni1).2) ∧ (pipeOk ((pipeEnd r1 ni1).1) ((pipeEnd r1 ni1).2)) = (pipeOk r1 ni1)))) rfl) ?_
              refine spd (p := ((pipeEnd ((pipeEnd r1 ni1).1) ((pipeEnd r1 ni1).2)).1) = ((pipeEnd r1 ni1).1) ∧ ((pipeEnd ((pipeEnd r1 ni1).1) ((pipeEnd r1 ni1).2)).2) = ((pipeEnd r1 ni1).2) ∧ (pipeOk ((pipeEnd r1 ni1).1) ((pipeEnd r1 ni1).2)) = (pipeOk r1 ni1)) 89 rfl (fun h13 => ?_) (fun h13 => ?_)
              · refine q ⟨_, rfl, rfl⟩ rfl rfl (fa 2 fo25_2 rfl) ?_
                refine q ⟨_, rfl, rfl⟩ rfl rfl (ld (v := .bool (pipeOk r1 ni1)) hs27 3 rfl rfl rfl one4) ?_
                refine q trivial rfl rfl (pt (v := .bool (pipeOk r1 ni1)) rfl rfl) ?_
                refine q trivial rfl rfl (asg (v := .bool (pipeOk r1 ni1)) rfl) ?_
                refine nl ?_
                refine nN ?_
                have hs28 : SH w w23 [] [] := hs27.pick [] rfl (by decide)
                refine rt ?_
                refine fret (v := .bool (pipeOk r1 ni1)) (.tmp .nil) rfl ?_
                have e2 : (pipeOk r1 ni1) = true := by first | rfl | (simp; done) | (have hok : pipeOk r1 ni1 = true := (by assumption); have hx := pipe_end hok; have hy := pipeEnd_yes hok; simp [hx, hy, hok] at h1 h7 h9 h10 h11 h12 h13 ⊢)
                exact ⟨(congrArg (Value.bool) e2), hs28⟩
              · refine gk false rfl rfl rfl rfl rfl ?_
                refine gk false rfl rfl rfl rfl rfl ?_
                refine q trivial rfl rfl (pf (v := .bool false) rfl rfl) ?_
                refine q trivial rfl rfl (asg (v := .bool false) rfl) ?_
                refine nl ?_
                refine nN ?_
                have hs29 : SH w w23 [] [] := hs27.pick [] rfl (by decide)
                refine rt ?_
                refine fret (v := .bool false) (.tmp .nil) rfl ?_
                have e3 : false = true := by first | rfl | (simp; done) | (have hok : pipeOk r1 ni1 = true := (by assumption); have hx := pipe_end hok; have hy := pipeEnd_yes hok; simp [hx, hy, hok] at h1 h7 h9 h10 h11 h12 h13 ⊢)
                exact ⟨(congrArg (Value.bool) e3), hs29⟩
            · refine gk false rfl rfl rfl rfl rfl ?_
              refine gk false rfl rfl rfl rfl rfl ?_
              refine gk false rfl rfl rfl rfl rfl ?_
              refine q trivial rfl rfl (pf (v := .bool false) rfl rfl) ?_
              refine q trivial rfl rfl (mv (v := .bool false) rfl) ?_
              refine gk false rfl rfl rfl rfl rfl ?_
              refine gk false rfl rfl rfl rfl rfl ?_
              refine q trivial rfl rfl (pf (v := .bool false) rfl rfl) ?_
              refine q trivial rfl rfl (asg (v := .bool false) rfl) ?_
              refine nl ?_
              refine nN ?_
              have hs30 : SH w w22 [] [] := hs26.pick [] rfl (by decide)
              refine rt ?_
              refine fret (v := .bool false) (.tmp .nil) rfl ?_
              have e4 : false = true := by first | rfl | (simp; done) | (have hok : pipeOk r1 ni1 = true := (by assumption); have hx := pipe_end hok; have hy := pipeEnd_yes hok; simp [hx, hy, hok] at h1 h7 h9 h10 h11 h12 ⊢)
              exact ⟨(congrArg (Value.bool) e4), hs30⟩
          · refine gk false rfl rfl rfl rfl rfl ?_
            refine q trivial rfl rfl (pf (v := .bool false) rfl rfl) ?_
            refine q trivial rfl rfl (mv (v := .bool false) rfl) ?_
            refine gk false rfl rfl rfl rfl rfl ?_
            refine gk false rfl rfl rfl rfl rfl ?_
            refine gk false rfl rfl rfl rfl rfl ?_
            refine q trivial rfl rfl (pf (v := .bool false) rfl rfl) ?_
            refine q trivial rfl rfl (mv (v := .bool false) rfl) ?_
            refine gk false rfl rfl rfl rfl rfl ?_
            refine gk false rfl rfl rfl rfl rfl ?_
            refine q trivial rfl rfl (pf (v := .bool false) rfl rfl) ?_
            refine q trivial rfl rfl (asg (v := .bool false) rfl) ?_
            refine nl ?_
            refine nN ?_
            have hs31 : SH w w22 [] [] := hs26.pick [] rfl (by decide)
            refine rt ?_
            refine fret (v := .bool false) (.tmp .nil) rfl ?_
            have e5 : false = true := by first | rfl | (simp; done) | (have hok : pipeOk r1 ni1 = true := (by assumption); have hx := pipe_end hok; have hy := pipeEnd_yes hok; simp [hx, hy, hok] at h1 h7 h9 h10 h11 ⊢)
            exact ⟨(congrArg (Value.bool) e5), hs31⟩
        · refine gk false rfl rfl rfl rfl rfl ?_
          refine gk false rfl rfl rfl rfl rfl ?_
          refine gk false rfl rfl rfl rfl rfl ?_
          refine gk false rfl rfl rfl rfl rfl ?_
          refine q trivial rfl rfl (pf (v := .bool false) rfl rfl) ?_
          refine q trivial rfl rfl (mv (v := .bool false) rfl) ?_
          refine gk false rfl rfl rfl rfl rfl ?_
          refine q trivial rfl rfl (pf (v := .bool false) rfl rfl) ?_
          refine q trivial rfl rfl (mv (v := .bool false) rfl) ?_
          refine gk false rfl rfl rfl rfl rfl ?_
          refine gk false rfl rfl rfl rfl rfl ?_
          refine gk false rfl rfl rfl rfl rfl ?_
          refine q trivial rfl rfl (pf (v := .bool false) rfl rfl) ?_
          refine q trivial rfl rfl (mv (v := .bool false) rfl) ?_
          refine gk false rfl rfl rfl rfl rfl ?_
          refine gk false rfl rfl rfl rfl rfl ?_
          refine q trivial rfl rfl (pf (v := .bool false) rfl rfl) ?_
          refine q trivial rfl rfl (asg (v := .bool false) rfl) ?_
          refine nl ?_
          refine nN ?_
          have hs32 : SH w w21 [] [] := hs25.pick [] rfl (by decide)
          refine rt ?_
          refine fret (v := .bool false) (.tmp .nil) rfl ?_
          have e6 : false = true := by first | rfl | (simp; done) | (have hok : pipeOk r1 ni1 = true := (by assumption); have hx := pipe_end hok; have hy := pipeEnd_yes hok; simp [hx, hy, hok] at h1 h7 h9 h10 ⊢)
          exact ⟨(congrArg (Value.bool) e6), hs32⟩
      · have h14 : ((pipePut ((pipeEnd r1 ni1).1) ((pipeEnd r1 ni1).2) (pipeOk r1 ni1) [1]).2.2.2) = true := by simpa using h8
        refine gk false rfl rfl rfl rfl rfl ?_
        refine q trivial rfl rfl (pf (v := .bool false) rfl rfl) ?_
        refine q trivial rfl rfl (mv (v := .bool false) rfl) ?_
        refine gk false rfl rfl rfl rfl rfl ?_
        refine gk false rfl rfl rfl rfl rfl ?_
        refine gk false rfl rfl rfl rfl rfl ?_
        refine gk false rfl rfl rfl rfl rfl ?_
        refine q trivial rfl rfl (pf (v := .bool false) rfl rfl) ?_
        refine q trivial rfl rfl (mv (v := .bool false) rfl) ?_
        refine gk false rfl rfl rfl rfl rfl ?_
        refine q trivial rfl rfl (pf (v := .bool false) rfl rfl) ?_
        refine q trivial rfl rfl (mv (v := .bool false) rfl) ?_
        refine gk false rfl rfl rfl rfl rfl ?_
        refine gk false rfl rfl rfl rfl rfl ?_
        refine gk false rfl rfl rfl rfl rfl ?_
        refine q trivial rfl rfl (pf (v := .bool false) rfl rfl) ?_
        refine q trivial rfl rfl (mv (v := .bool false) rfl) ?_
        refine gk false rfl rfl rfl rfl rfl ?_
        refine gk false rfl rfl rfl rfl rfl ?_
        refine q trivial rfl rfl (pf (v := .bool false) rfl rfl) ?_
        refine q trivial rfl rfl (asg (v := .bool false) rfl) ?_
        refine nl ?_
        refine nN ?_
        have hs33 : SH w w21 [] [] := hs25.pick [] rfl (by decide)
        refine rt ?_
        refine fret (v := .bool false) (.tmp .nil) rfl ?_
        have e7 : false = true := by first | rfl | (simp; done) | (have hok : pipeOk r1 ni1 = true := (by assumption); have hx := pipe_end hok; have hy := pipeEnd_yes hok; simp [hx, hy, hok] at h1 h7 h14 ⊢)
        exact ⟨(congrArg (Value.bool) e7), hs33⟩

end Go.Proofs.Ytgefaejgkcbkpaa
