/-
  Part of the proofs over this seat: what each function of the program computes, function by function (the text is written by a program of this hand-in's own).
  Conditions: each theorem states its own.
-/
import Derived.Test.YtgefaejgkcbkpaaPfWalks2
namespace Go.Proofs.Ytgefaejgkcbkpaa
open Go.PF
set_option maxRecDepth 100000
set_option linter.unusedSimpArgs false
set_option linter.unusedVariables false

theorem lPipePut {Acs : Option Addr} {ccs : Nat} (cs : List UInt8) (w : World) (hcs : Sl w [] 1 Acs cs.length ccs (cs.map U)) : Does Try.prog 12 [.slice Acs cs.length ccs] w (fun v w' => v = .bool true ∧ SH w w' [] []) := by
  refine fn_enter (N := 99) Try.func12 rfl (by kernel_rfl) rfl rfl rfl ?_
  have hs0 : SH w w [] [] := SH.refl w []
  have hcs_m : cs.length ≤ 9223372036854775807 := Nat.le_trans hcs.cap hcs.capMax
  refine sq ?_
  refine rg ?_
  refine q trivial rfl rfl (asg (v := .bool false) rfl) ?_
  refine nl ?_
  refine nN ?_
  refine sq ?_
  refine sq ?_
  refine rg ?_
  refine q trivial rfl rfl (mv (v := .slice Acs cs.length ccs) rfl) ?_
  refine q trivial rfl rfl (lnA (n := cs.length) sl22 rfl) ?_
  refine q trivial rfl rfl (gtr (k := .i64) (a := ((cs.length : Nat) : Int)) (b := 1048576) rfl rfl) ?_
  refine nl ?_
  refine nN ?_
  refine cdd (p := (1048576 : Int) < ((cs.length : Nat) : Int)) rfl (fun h1 => ?_) (fun h1 => ?_)
  · refine sq ?_
    refine rg ?_
    refine q trivial rfl rfl (asg (v := .bool true) rfl) ?_
    refine nl ?_
    refine nN ?_
    refine rt (tR ?_)
    refine fret (v := .bool true) (.tmp .nil) rfl ?_
    exact ⟨rfl, hs0⟩
  · refine sk ?_
    refine nN ?_
    refine sq ?_
    refine rg ?_
    refine q trivial rfl rfl (mv (v := .slice Acs cs.length ccs) rfl) ?_
    refine cl trivial rfl (drawPipePut (Acs := Acs) (ccs := ccs) (cs := cs) (w := _) (hcs := (hcs.up0 hs0))) ?_
    rintro _ w1 ⟨A1, c1, Ab1, cb1, r1, ni1, eb1, b1, rfl, p1, p2, hs1'⟩
    have hs1 : SH w w1 [] [.own A1 r1.length c1 3 1 (r1.map I), .own Ab1 b1.length cb1 3 1 (b1.map I)] := hs0.call0 hs1'
    clear hs1'
    refine q trivial rfl rfl (mv (v := .tuple #[.agg #[.slice A1 r1.length c1, .int .i64 ni1, .bool eb1], .slice Ab1 b1.length cb1]) rfl) ?_
    refine q trivial rfl rfl (xt 0 (v := .agg #[.slice A1 r1.length c1, .int .i64 ni1, .bool eb1]) rfl rfl) ?_
    refine q trivial rfl rfl (xt 1 (v := .slice Ab1 b1.length cb1) rfl rfl) ?_
    refine al (v := .agg #[.slice none 0 0, .int .i64 0, .bool false]) (cs := [.slice none 0 0, .int .i64 0, .bool false]) hs1 tz25 rfl trivial rfl (fun b2 w2 (hs2 : SH w w2 [] [.own A1 r1.length c1 3 1 (r1.map I), .own Ab1 b1.length cb1 3 1 (b1.map I), .blk b2 25 [.slice none 0 0, .int .i64 0, .bool false]]) => ?_)
    refine stg (vs := [.slice A1 r1.length c1, .int .i64 ni1, .bool eb1]) hs2 2 rfl rfl rfl rfl rfl rfl rfl ag25 trivial (fun w3 (hs3 : SH w w3 [] [.own A1 r1.length c1 3 1 (r1.map I), .own Ab1 b1.length cb1 3 1 (b1.map I), .blk b2 25 [.slice A1 r1.length c1, .int .i64 ni1, .bool eb1]]) => ?_)
    refine q trivial rfl rfl (asg (v := .slice Ab1 b1.length cb1) rfl) ?_
    refine nl ?_
    refine nN ?_
    refine sq ?_
    refine rg ?_
    refine q trivial rfl rfl (ldg (vs := [.slice A1 r1.length c1, .int .i64 ni1, .bool eb1]) hs3 2 rfl rfl rfl rfl ag25) ?_
    refine q trivial rfl rfl (mv (v := .slice Ab1 b1.length cb1) rfl) ?_
    refine cl trivial rfl (iPipePut (Axs := A1) (cxs := c1) (xs := r1) (ni := ni1) (eb := eb1) (Abs := Ab1) (cbs := cb1) (bs := b1) (w := _) (hxs := (hs3.sl0 0 rfl)) (hbs := (hs3.sl0 1 rfl))) ?_
    rintro _ w4 ⟨A2, c2, rfl, hs4'⟩
    have hs4 : SH w w4 [] [.own A1 r1.length c1 3 1 (r1.map I), .own Ab1 b1.length cb1 3 1 (b1.map I), .blk b2 25 [.slice A1 r1.length c1, .int .i64 ni1, .bool eb1], .own A2 (((pipePut r1 ni1 eb1 b1).1).length) c2 3 1 (((pipePut r1 ni1 eb1 b1).1).map I)] := hs3.call0 hs4'
    clear hs4'
    refine q trivial rfl rfl (mv (v := .tuple #[.agg #[.slice A2 (((pipePut r1 ni1 eb1 b1).1).length) c2, .int .i64 ((pipePut r1 ni1 eb1 b1).2.1), .bool false], .int .i64 ((pipePut r1 ni1 eb1 b1).2.2.1), .bool ((pipePut r1 ni1 eb1 b1).2.2.2)]) rfl) ?_
    refine q trivial rfl rfl (xt 0 (v := .agg #[.slice A2 (((pipePut r1 ni1 eb1 b1).1).length) c2, .int .i64 ((pipePut r1 ni1 eb1 b1).2.1), .bool false]) rfl rfl) ?_
    refine q trivial rfl rfl (xt 1 (v := .int .i64 ((pipePut r1 ni1 eb1 b1).2.2.1)) rfl rfl) ?_
    refine q trivial rfl rfl (xt 2 (v := .bool ((pipePut r1 ni1 eb1 b1).2.2.2)) rfl rfl) ?_
    refine al (v := .agg #[.slice none 0 0, .int .i64 0, .bool false]) (cs := [.slice none 0 0, .int .i64 0, .bool false]) hs4 tz25 rfl trivial rfl (fun b3 w5 (hs5 : SH w w5 [] [.own A1 r1.length c1 3 1 (r1.map I), .own Ab1 b1.length cb1 3 1 (b1.map I), .blk b2 25 [.slice A1 r1.length c1, .int .i64 ni1, .bool eb1], .own A2 (((pipePut r1 ni1 eb1 b1).1).length) c2 3 1 (((pipePut r1 ni1 eb1 b1).1).map I), .blk b3 25 [.slice none 0 0, .int .i64 0, .bool false]]) => ?_)
    refine stg (vs := [.slice A2 (((pipePut r1 ni1 eb1 b1).1).length) c2, .int .i64 ((pipePut r1 ni1 eb1 b1).2.1), .bool false]) hs5 4 rfl rfl rfl rfl rfl rfl rfl ag25 trivial (fun w6 (hs6 : SH w w6 [] [.own A1 r1.length c1 3 1 (r1.map I), .own Ab1 b1.length cb1 3 1 (b1.map I), .blk b2 25 [.slice A1 r1.length c1, .int .i64 ni1, .bool eb1], .own A2 (((pipePut r1 ni1 eb1 b1).1).length) c2 3 1 (((pipePut r1 ni1 eb1 b1).1).map I), .blk b3 25 [.slice A2 (((pipePut r1 ni1 eb1 b1).1).length) c2, .int .i64 ((pipePut r1 ni1 eb1 b1).2.1), .bool false]]) => ?_)
    refine q trivial rfl rfl (asg (v := .int .i64 ((pipePut r1 ni1 eb1 b1).2.2.1)) rfl) ?_
    refine q trivial rfl rfl (asg (v := .bool ((pipePut r1 ni1 eb1 b1).2.2.2)) rfl) ?_
    refine nl ?_
    refine nN ?_
    refine sq ?_
    refine rg ?_
    refine q trivial rfl rfl (ldg (vs := [.slice A1 r1.length c1, .int .i64 ni1, .bool eb1]) hs6 2 rfl rfl rfl rfl ag25) ?_
    refine q trivial rfl rfl (mv (v := .slice Ab1 b1.length cb1) rfl) ?_
    refine cl trivial rfl (sPipePut (Axs := A1) (cxs := c1) (xs := r1) (ni := ni1) (eb := eb1) (Abs := Ab1) (cbs := cb1) (bs := b1) (w := _) (hxs := (hs6.sl0 0 rfl)) (hbs := (hs6.sl0 1 rfl))) ?_
    rintro _ w7 ⟨A3, c3, rfl, hs7'⟩
    have hs7 : SH w w7 [] [.own A1 r1.length c1 3 1 (r1.map I), .own Ab1 b1.length cb1 3 1 (b1.map I), .blk b2 25 [.slice A1 r1.length c1, .int .i64 ni1, .bool eb1], .own A2 (((pipePut r1 ni1 eb1 b1).1).length) c2 3 1 (((pipePut r1 ni1 eb1 b1).1).map I), .blk b3 25 [.slice A2 (((pipePut r1 ni1 eb1 b1).1).length) c2, .int .i64 ((pipePut r1 ni1 eb1 b1).2.1), .bool false], .own A3 (((pipePut r1 ni1 eb1 b1).1).length) c3 3 1 (((pipePut r1 ni1 eb1 b1).1).map I)] := hs6.call0 hs7'
    clear hs7'
    refine q trivial rfl rfl (mv (v := .tuple #[.agg #[.slice A3 (((pipePut r1 ni1 eb1 b1).1).length) c3, .int .i64 ((pipePut r1 ni1 eb1 b1).2.1), .bool false], .int .i64 ((pipePut r1 ni1 eb1 b1).2.2.1), .bool ((pipePut r1 ni1 eb1 b1).2.2.2)]) rfl) ?_
    refine q trivial rfl rfl (xt 0 (v := .agg #[.slice A3 (((pipePut r1 ni1 eb1 b1).1).length) c3, .int .i64 ((pipePut r1 ni1 eb1 b1).2.1), .bool false]) rfl rfl) ?_
    refine q trivial rfl rfl (xt 1 (v := .int .i64 ((pipePut r1 ni1 eb1 b1).2.2.1)) rfl rfl) ?_
    refine q trivial rfl rfl (xt 2 (v := .bool ((pipePut r1 ni1 eb1 b1).2.2.2)) rfl rfl) ?_
    refine al (v := .agg #[.slice none 0 0, .int .i64 0, .bool false]) (cs := [.slice none 0 0, .int .i64 0, .bool false]) hs7 tz25 rfl trivial rfl (fun b4 w8 (hs8 : SH w w8 [] [.own A1 r1.length c1 3 1 (r1.map I), .own Ab1 b1.length cb1 3 1 (b1.map I), .blk b2 25 [.slice A1 r1.length c1, .int .i64 ni1, .bool eb1], .own A2 (((pipePut r1 ni1 eb1 b1).1).length) c2 3 1 (((pipePut r1 ni1 eb1 b1).1).map I), .blk b3 25 [.slice A2 (((pipePut r1 ni1 eb1 b1).1).length) c2, .int .i64 ((pipePut r1 ni1 eb1 b1).2.1), .bool false], .own A3 (((pipePut r1 ni1 eb1 b1).1).length) c3 3 1 (((pipePut r1 ni1 eb1 b1).1).map I), .blk b4 25 [.slice none 0 0, .int .i64 0, .bool false]]) => ?_)
    refine stg (vs := [.slice A3 (((pipePut r1 ni1 eb1 b1).1).length) c3, .int .i64 ((pipePut r1 ni1 eb1 b1).2.1), .bool false]) hs8 6 rfl rfl rfl rfl rfl rfl rfl ag25 trivial (fun w9 (hs9 : SH w w9 [] [.own A1 r1.length c1 3 1 (r1.map I), .own Ab1 b1.length cb1 3 1 (b1.map I), .blk b2 25 [.slice A1 r1.length c1, .int .i64 ni1, .bool eb1], .own A2 (((pipePut r1 ni1 eb1 b1).1).length) c2 3 1 (((pipePut r1 ni1 eb1 b1).1).map I), .blk b3 25 [.slice A2 (((pipePut r1 ni1 eb1 b1).1).length) c2, .int .i64 ((pipePut r1 ni1 eb1 b1).2.1), .bool false], .own A3 (((pipePut r1 ni1 eb1 b1).1).length) c3 3 1 (((pipePut r1 ni1 eb1 b1).1).map I), .blk b4 25 [.slice A3 (((pipePut r1 ni1 eb1 b1).1).length) c3, .int .i64 ((pipePut r1 ni1 eb1 b1).2.1), .bool false]]) => ?_)
    refine q trivial rfl rfl (asg (v := .int .i64 ((pipePut r1 ni1 eb1 b1).2.2.1)) rfl) ?_
    refine q trivial rfl rfl (asg (v := .bool ((pipePut r1 ni1 eb1 b1).2.2.2)) rfl) ?_
    refine nl ?_
    refine nN ?_
    refine sq ?_
    refine sq ?_
    refine rg ?_
    refine q trivial rfl rfl (mv (v := .bool ((pipePut r1 ni1 eb1 b1).2.2.2)) rfl) ?_
    refine q trivial rfl rfl (mv (v := .bool ((pipePut r1 ni1 eb1 b1).2.2.2)) rfl) ?_
    refine q trivial rfl rfl (neb (a := ((pipePut r1 ni1 eb1 b1).2.2.2)) (b := ((pipePut r1 ni1 eb1 b1).2.2.2)) tb4 rfl rfl) ?_
    refine q trivial rfl rfl (mv (v := .bool (decide (((pipePut r1 ni1 eb1 b1).2.2.2) ≠ ((pipePut r1 ni1 eb1 b1).2.2.2)))) rfl) ?_
    refine spd (p := ((pipePut r1 ni1 eb1 b1).2.2.2) ≠ ((pipePut r1 ni1 eb1 b1).2.2.2)) 36 rfl (fun h2 => absurd h2 (by exact fun h => h rfl)) (fun h2 => ?_)
    refine q ⟨_, rfl, rfl⟩ rfl rfl (mv (v := .int .i64 ((pipePut r1 ni1 eb1 b1).2.2.1)) rfl) ?_
    refine q ⟨_, rfl, rfl⟩ rfl rfl (mv (v := .int .i64 ((pipePut r1 ni1 eb1 b1).2.2.1)) rfl) ?_
    refine q ⟨_, rfl, rfl⟩ rfl rfl (nei (k := .i64) (a := (pipePut r1 ni1 eb1 b1).2.2.1) (b := (pipePut r1 ni1 eb1 b1).2.2.1) rfl rfl) ?_
    refine q trivial rfl rfl (pf (v := .bool (decide (((pipePut r1 ni1 eb1 b1).2.2.1) ≠ ((pipePut r1 ni1 eb1 b1).2.2.1)))) rfl rfl) ?_
    refine q trivial rfl rfl (mv (v := .bool (decide (((pipePut r1 ni1 eb1 b1).2.2.1) ≠ ((pipePut r1 ni1 eb1 b1).2.2.1)))) rfl) ?_
    refine spd (p := ((pipePut r1 ni1 eb1 b1).2.2.1) ≠ ((pipePut r1 ni1 eb1 b1).2.2.1)) 41 rfl (fun h3 => absurd h3 (by exact fun h => h rfl)) (fun h3 => ?_)
    refine q ⟨_, rfl, rfl⟩ rfl rfl (ldg (vs := [.slice A2 (((pipePut r1 ni1 eb1 b1).1).length) c2, .int .i64 ((pipePut r1 ni1 eb1 b1).2.1), .bool false]) hs9 4 rfl rfl rfl rfl ag25) ?_
    refine q ⟨_, rfl, rfl⟩ rfl rfl (ldg (vs := [.slice A3 (((pipePut r1 ni1 eb1 b1).1).length) c3, .int .i64 ((pipePut r1 ni1 eb1 b1).2.1), .bool false]) hs9 6 rfl rfl rfl rfl ag25) ?_
    refine cl ⟨_, rfl, rfl⟩ rfl (samePipe (Axs := A2) (cxs := c2) (xs := (pipePut r1 ni1 eb1 b1).1) (n1 := (pipePut r1 ni1 eb1 b1).2.1) (e1 := false) (Ays := A3) (cys := c3) (ys := (pipePut r1 ni1 eb1 b1).1) (n2 := (pipePut r1 ni1 eb1 b1).2.1) (e2 := false) (w := _) (hxs := (hs9.sl0 3 rfl)) (hys := (hs9.sl0 5 rfl))) ?_
    rintro _ w10 ⟨rfl, hs10'⟩
    have hs10 : SH w w10 [] [.own A1 r1.length c1 3 1 (r1.map I), .own Ab1 b1.length cb1 3 1 (b1.map I), .blk b2 25 [.slice A1 r1.length c1, .int .i64 ni1, .bool eb1], .own A2 (((pipePut r1 ni1 eb1 b1).1).length) c2 3 1 (((pipePut r1 ni1 eb1 b1).1).map I), .blk b3 25 [.slice A2 (((pipePut r1 ni1 eb1 b1).1).length) c2, .int .i64 ((pipePut r1 ni1 eb1 b1).2.1), .bool false], .own A3 (((pipePut r1 ni1 eb1 b1).1).length) c3 3 1 (((pipePut r1 ni1 eb1 b1).1).map I), .blk b4 25 [.slice A3 (((pipePut r1 ni1 eb1 b1).1).length) c3, .int .i64 ((pipePut r1 ni1 eb1 b1).2.1), .bool false]] := hs9.call0 hs10'
    clear hs10'
    refine q ⟨_, rfl, rfl⟩ rfl rfl (nd (p := ((pipePut r1 ni1 eb1 b1).1) = ((pipePut r1 ni1 eb1 b1).1) ∧ ((pipePut r1 ni1 eb1 b1).2.1) = ((pipePut r1 ni1 eb1 b1).2.1) ∧ false = false) rfl) ?_
    refine q trivial rfl rfl (pf (v := .bool (decide (¬ (((pipePut r1 ni1 eb1 b1).1) = ((pipePut r1 ni1 eb1 b1).1) ∧ ((pipePut r1 ni1 eb1 b1).2.1) = ((pipePut r1 ni1 eb1 b1).2.1) ∧ false = false)))) rfl rfl) ?_
    refine q trivial rfl rfl (mv (v := .bool (decide (¬ (((pipePut r1 ni1 eb1 b1).1) = ((pipePut r1 ni1 eb1 b1).1) ∧ ((pipePut r1 ni1 eb1 b1).2.1) = ((pipePut r1 ni1 eb1 b1).2.1) ∧ false = false)))) rfl) ?_
    refine spd (p := ¬ (((pipePut r1 ni1 eb1 b1).1) = ((pipePut r1 ni1 eb1 b1).1) ∧ ((pipePut r1 ni1 eb1 b1).2.1) = ((pipePut r1 ni1 eb1 b1).2.1) ∧ false = false)) 47 rfl (fun h4 => absurd h4 (by exact fun h => h ⟨rfl, rfl, rfl⟩)) (fun h4 => ?_)
    refine q ⟨_, rfl, rfl⟩ rfl rfl (mv (v := .bool ((pipePut r1 ni1 eb1 b1).2.2.2)) rfl) ?_
    refine q ⟨_, rfl, rfl⟩ rfl rfl (nt (b := (pipePut r1 ni1 eb1 b1).2.2.2) rfl) ?_
    refine q trivial rfl rfl (pf (v := .bool (!((pipePut r1 ni1 eb1 b1).2.2.2))) rfl rfl) ?_
    refine nl ?_
    refine nN ?_
    refine cd (b := !((pipePut r1 ni1 eb1 b1).2.2.2)) rfl (fun h5 => ?_) (fun h5 => ?_)
    · have h6 : ((pipePut r1 ni1 eb1 b1).2.2.2) = false := by simpa using h5
      refine sq ?_
      refine rg ?_
      refine q trivial rfl rfl (mv (v := .bool ((pipePut r1 ni1 eb1 b1).2.2.2)) rfl) ?_
      refine q trivial rfl rfl (mv (v := .bool ((pipePut r1 ni1 eb1 b1).2.2.2)) rfl) ?_
      refine q trivial rfl rfl (eqb (a := ((pipePut r1 ni1 eb1 b1).2.2.2)) (b := ((pipePut r1 ni1 eb1 b1).2.2.2)) tb4 rfl rfl) ?_
      refine q trivial rfl rfl (mv (v := .bool (decide (((pipePut r1 ni1 eb1 b1).2.2.2) = ((pipePut r1 ni1 eb1 b1).2.2.2)))) rfl) ?_
      refine spd (p := ((pipePut r1 ni1 eb1 b1).2.2.2) = ((pipePut r1 ni1 eb1 b1).2.2.2)) 54 rfl (fun h7 => ?_) (fun h7 => absurd (by rfl) h7)
      refine q ⟨_, rfl, rfl⟩ rfl rfl (mv (v := .int .i64 ((pipePut r1 ni1 eb1 b1).2.2.1)) rfl) ?_
      refine q ⟨_, rfl, rfl⟩ rfl rfl (mv (v := .int .i64 ((pipePut r1 ni1 eb1 b1).2.2.1)) rfl) ?_
      refine q ⟨_, rfl, rfl⟩ rfl rfl (eqi (k := .i64) (a := (pipePut r1 ni1 eb1 b1).2.2.1) (b := (pipePut r1 ni1 eb1 b1).2.2.1) rfl rfl) ?_
      refine q trivial rfl rfl (pt (v := .bool (decide (((pipePut r1 ni1 eb1 b1).2.2.1) = ((pipePut r1 ni1 eb1 b1).2.2.1)))) rfl rfl) ?_
      refine q trivial rfl rfl (mv (v := .bool (decide (((pipePut r1 ni1 eb1 b1).2.2.1) = ((pipePut r1 ni1 eb1 b1).2.2.1)))) rfl) ?_
      refine spd (p := ((pipePut r1 ni1 eb1 b1).2.2.1) = ((pipePut r1 ni1 eb1 b1).2.2.1)) 59 rfl (fun h8 => ?_) (fun h8 => absurd (by rfl) h8)
      refine q ⟨_, rfl, rfl⟩ rfl rfl (ldg (vs := [.slice A2 (((pipePut r1 ni1 eb1 b1).1).length) c2, .int .i64 ((pipePut r1 ni1 eb1 b1).2.1), .bool false]) hs10 4 rfl rfl rfl rfl ag25) ?_
      refine q ⟨_, rfl, rfl⟩ rfl rfl (ldg (vs := [.slice A3 (((pipePut r1 ni1 eb1 b1).1).length) c3, .int .i64 ((pipePut r1 ni1 eb1 b1).2.1), .bool false]) hs10 6 rfl rfl rfl rfl ag25) ?_
      refine cl ⟨_, rfl, rfl⟩ rfl (samePipe (Axs := A2) (cxs := c2) (xs := (pipePut r1 ni1 eb1 b1).1) (n1 := (pipePut r1 ni1 eb1 b1).2.1) (e1 := false) (Ays := A3) (cys := c3) (ys := (pipePut r1 ni1 eb1 b1).1) (n2 := (pipePut r1 ni1 eb1 b1).2.1) (e2 := false) (w := _) (hxs := (hs10.sl0 3 rfl)) (hys := (hs10.sl0 5 rfl))) ?_
      rintro _ w11 ⟨rfl, hs11'⟩
      have hs11 : SH w w11 [] [.own A1 r1.length c1 3 1 (r1.map I), .own Ab1 b1.length cb1 3 1 (b1.map I), .blk b2 25 [.slice A1 r1.length c1, .int .i64 ni1, .bool eb1], .own A2 (((pipePut r1 ni1 eb1 b1).1).length) c2 3 1 (((pipePut r1 ni1 eb1 b1).1).map I), .blk b3 25 [.slice A2 (((pipePut r1 ni1 eb1 b1).1).length) c2, .int .i64 ((pipePut r1 ni1 eb1 b1).2.1), .bool false], .own A3 (((pipePut r1 ni1 eb1 b1).1).length) c3 3 1 (((pipePut r1 ni1 eb1 b1).1).map I), .blk b4 25 [.slice A3 (((pipePut r1 ni1 eb1 b1).1).length) c3, .int .i64 ((pipePut r1 ni1 eb1 b1).2.1), .bool false]] := hs10.call0 hs11'
      clear hs11'
      refine q trivial rfl rfl (pt (v := .bool (decide (((pipePut r1 ni1 eb1 b1).1) = ((pipePut r1 ni1 eb1 b1).1) ∧ ((pipePut r1 ni1 eb1 b1).2.1) = ((pipePut r1 ni1 eb1 b1).2.1) ∧ false = false))) rfl rfl) ?_
      refine q trivial rfl rfl (asg (v := .bool (decide (((pipePut r1 ni1 eb1 b1).1) = ((pipePut r1 ni1 eb1 b1).1) ∧ ((pipePut r1 ni1 eb1 b1).2.1) = ((pipePut r1 ni1 eb1 b1).2.1) ∧ false = false))) rfl) ?_
      refine nl ?_
      refine nN ?_
      have hs12 : SH w w11 [] [] := hs11.pick [] rfl (by decide)
      refine rt (tR ?_)
      refine fret (v := .bool (decide (((pipePut r1 ni1 eb1 b1).1) = ((pipePut r1 ni1 eb1 b1).1) ∧ ((pipePut r1 ni1 eb1 b1).2.1) = ((pipePut r1 ni1 eb1 b1).2.1) ∧ false = false))) (.tmp .nil) rfl ?_
      have e1 : (decide (((pipePut r1 ni1 eb1 b1).1) = ((pipePut r1 ni1 eb1 b1).1) ∧ ((pipePut r1 ni1 eb1 b1).2.1) = ((pipePut r1 ni1 eb1 b1).2.1) ∧ false = false)) = true := by first | rfl | (simp; done) | (obtain ⟨⟨hx1, hx2, hx3, hx4⟩, hx5⟩ := pipePut_ok (by assumption); subst hx3; simp [hx1, hx2, hx4, hx5] at h1 h6 ⊢; try omega)
      exact ⟨(congrArg (Value.bool) e1), hs12⟩
    · have h9 : ((pipePut r1 ni1 eb1 b1).2.2.2) = true := by simpa using h5
      refine sk ?_
      refine nN ?_
      have hs13 : SH w w10 [] [.own A1 r1.length c1 3 1 (r1.map I), .own Ab1 b1.length cb1 3 1 (b1.map I), .blk b2 25 [.slice A1 r1.length c1, .int .i64 ni1, .bool eb1], .own A2 (((pipePut r1 ni1 eb1 b1).1).length) c2 3 1 (((pipePut r1 ni1 eb1 b1).1).map I), .blk b3 25 [.slice A2 (((pipePut r1 ni1 eb1 b1).1).length) c2, .int .i64 ((pipePut r1 ni1 eb1 b1).2.1), .bool false]] := hs10.pick [0, 1, 2, 3, 4] rfl (by decide)
      refine sq ?_
      refine rq (fun w' => SH w w' [] [.own A1 r1.length c1 3 1 (r1.map I), .own Ab1 b1.length cb1 3 1 (b1.map I), .blk b2 25 [.slice A1 r1.length c1, .int .i64 ni1, .bool eb1], .own A2 (((pipePut r1 ni1 eb1 b1).1).length) c2 3 1 (((pipePut r1 ni1 eb1 b1).1).map I), .blk b3 25 [.slice A2 (((pipePut r1 ni1 eb1 b1).1).length) c2, .int .i64 ((pipePut r1 ni1 eb1 b1).2.1), .bool false]]) mixed (by kernel_rfl) hs13.drew ?_
      refine qq trivial rfl rfl (fun wq hsq => ldg (vs := [.slice A2 (((pipePut r1 ni1 eb1 b1).1).length) c2, .int .i64 ((pipePut r1 ni1 eb1 b1).2.1), .bool false]) hsq 4 rfl rfl rfl rfl ag25) ?_
      refine qc (.bool (pipeOk ((pipePut r1 ni1 eb1 b1).1) ((pipePut r1 ni1 eb1 b1).2.1))) trivial rfl (fun wq hsq => (iPipeValid (Axs := A2) (cxs := c2) (xs := (pipePut r1 ni1 eb1 b1).1) (ni := (pipePut r1 ni1 eb1 b1).2.1) (eb := false) (w := _) (hxs := (hsq.sl0 3 rfl))).mono (fun v w' h => ⟨h.1, by simpa using hsq.call0 h.2⟩)) ?_
      refine qq trivial rfl rfl (fun wq hsq => mv (v := .bool (pipeOk ((pipePut r1 ni1 eb1 b1).1) ((pipePut r1 ni1 eb1 b1).2.1))) rfl) ?_
      refine qspl (b := pipeOk ((pipePut r1 ni1 eb1 b1).1) ((pipePut r1 ni1 eb1 b1).2.1)) 66 rfl (fun h10 => ?_) (fun h10 => ?_)
      · refine qq ⟨_, rfl, rfl⟩ rfl rfl (fun wq hsq => fa 0 fo25_0 rfl) ?_
        refine qq ⟨_, rfl, rfl⟩ rfl rfl (fun wq hsq => ld (v := .slice A2 (((pipePut r1 ni1 eb1 b1).1).length) c2) hsq 4 rfl rfl rfl one23) ?_
        refine qq ⟨_, rfl, rfl⟩ rfl rfl (fun wq hsq => fa 0 fo25_0 rfl) ?_
        refine qq ⟨_, rfl, rfl⟩ rfl rfl (fun wq hsq => ld (v := .slice A1 r1.length c1) hsq 2 rfl rfl rfl one23) ?_
        refine qc (.bool (decide (r1.length ≤ ((pipePut r1 ni1 eb1 b1).1).length ∧ ((pipePut r1 ni1 eb1 b1).1).take r1.length = r1))) ⟨_, rfl, rfl⟩ rfl (fun wq hsq => (isBegin (Axs := A2) (cxs := c2) (xs := (pipePut r1 ni1 eb1 b1).1) (Abs := A1) (cbs := c1) (bs := r1) (w := _) (hxs := (hsq.sl0 3 rfl)) (hbs := (hsq.sl0 0 rfl))).mono (fun v w' h => ⟨h.1, by simpa using hsq.call0 h.2⟩)) ?_
        refine qq trivial rfl rfl (fun wq hsq => pt (v := .bool (decide (r1.length ≤ ((pipePut r1 ni1 eb1 b1).1).length ∧ ((pipePut r1 ni1 eb1 b1).1).take r1.length = r1))) rfl rfl) ?_
        refine qq trivial rfl rfl (fun wq hsq => mv (v := .bool (decide (r1.length ≤ ((pipePut r1 ni1 eb1 b1).1).length ∧ ((pipePut r1 ni1 eb1 b1).1).take r1.length = r1))) rfl) ?_
        refine qspl (b := decide (r1.length ≤ ((pipePut r1 ni1 eb1 b1).1).length ∧ ((pipePut r1 ni1 eb1 b1).1).take r1.length = r1)) 73 rfl (fun h11 => ?_) (fun h11 => ?_)
        · refine qq ⟨_, rfl, rfl⟩ rfl rfl (fun wq hsq => fa 0 fo25_0 rfl) ?_
          refine qq ⟨_, rfl, rfl⟩ rfl rfl (fun wq hsq => ld (v := .slice A2 (((pipePut r1 ni1 eb1 b1).1).length) c2) hsq 4 rfl rfl rfl one23) ?_
          refine qq ⟨_, rfl, rfl⟩ rfl rfl (fun wq hsq => fa 0 fo25_0 rfl) ?_
          refine qq ⟨_, rfl, rfl⟩ rfl rfl (fun wq hsq => ld (v := .slice A1 r1.length c1) hsq 2 rfl rfl rfl one23) ?_
          refine qq ⟨_, rfl, rfl⟩ rfl rfl (fun wq hsq => lnA (n := r1.length) sl23 rfl) ?_
          refine qq ⟨_, rfl, rfl⟩ rfl rfl (fun wq hsq => culm (zs := (pipePut r1 ni1 eb1 b1).1) r1.length sl23 rfl rfl (by first | (first | omega | (simp; omega)) | (have hpo := pipePut_len r1 ni1 eb1 b1; have hpw := (pipePut_law (by assumption)); have hpx := pipeOk_len hpw.2.1; first | omega | (simp; omega)))) ?_
          refine qq ⟨_, rfl, rfl⟩ rfl rfl (fun wq hsq => mv (v := .slice Ab1 b1.length cb1) rfl) ?_
          refine qq ⟨_, rfl, rfl⟩ rfl rfl (fun wq hsq => mv (v := .int .i64 ((pipePut r1 ni1 eb1 b1).2.2.1)) rfl) ?_
          refine qq ⟨_, rfl, rfl⟩ rfl rfl (fun wq hsq => cuhm_ (zs := b1) (((pipePut r1 ni1 eb1 b1).2.2.1).toNat) sl23 rfl (ieq (x := (pipePut r1 ni1 eb1 b1).2.2.1) (by first | (omega) | (have hpo := pipePut_len r1 ni1 eb1 b1; have hpw := (pipePut_law (by assumption)); have hpx := pipeOk_len hpw.2.1; omega))) (by first | (first | omega | (simp; omega)) | (have hpo := pipePut_len r1 ni1 eb1 b1; have hpw := (pipePut_law (by assumption)); have hpx := pipeOk_len hpw.2.1; first | omega | (simp; omega))) (own_cap hsq 1 rfl).1) ?_
          refine qc (.bool (decide ((((pipePut r1 ni1 eb1 b1).1).drop r1.length) = (b1.take (((pipePut r1 ni1 eb1 b1).2.2.1).toNat))))) ⟨_, rfl, rfl⟩ rfl (fun wq hsq => (sameBytes (Axs := if c2 = r1.length then A2 else A2.map (·.add (r1.length * 1))) (cxs := c2 - r1.length) (xs := ((pipePut r1 ni1 eb1 b1).1).drop r1.length) (Abs := Ab1) (cbs := cb1) (bs := b1.take (((pipePut r1 ni1 eb1 b1).2.2.1).toNat)) (w := _) (hxs := (Sl.cutlm (hsq.sl0 3 rfl) (by first | (first | omega | (simp; omega)) | (have hpo := pipePut_len r1 ni1 eb1 b1; have hpw := (pipePut_law (by assumption)); have hpx := pipeOk_len hpw.2.1; first | omega | (simp; omega))))) (hbs := (Sl.cuthm (hsq.sl0 1 rfl) (by first | (first | omega | (simp; omega)) | (have hpo := pipePut_len r1 ni1 eb1 b1; have hpw := (pipePut_law (by assumption)); have hpx := pipeOk_len hpw.2.1; first | omega | (simp; omega)))))).mono (fun v w' h => ⟨h.1, by simpa using hsq.call0 h.2⟩)) ?_
          refine qq trivial rfl rfl (fun wq hsq => pt (v := .bool (decide ((((pipePut r1 ni1 eb1 b1).1).drop r1.length) = (b1.take (((pipePut r1 ni1 eb1 b1).2.2.1).toNat))))) rfl rfl) ?_
          refine qq trivial rfl rfl (fun wq hsq => mv (v := .bool (decide ((((pipePut r1 ni1 eb1 b1).1).drop r1.length) = (b1.take (((pipePut r1 ni1 eb1 b1).2.2.1).toNat))))) rfl) ?_
          refine qspd (p := (((pipePut r1 ni1 eb1 b1).1).drop r1.length) = (b1.take (((pipePut r1 ni1 eb1 b1).2.2.1).toNat))) 85 rfl (fun h12 => ?_) (fun h12 => ?_)
          · refine qq ⟨_, rfl, rfl⟩ rfl rfl (fun wq hsq => fa 1 fo25_1 rfl) ?_
            refine qq ⟨_, rfl, rfl⟩ rfl rfl (fun wq hsq => ld (v := .int .i64 ((pipePut r1 ni1 eb1 b1).2.1)) hsq 4 rfl rfl rfl one3) ?_
            refine qq ⟨_, rfl, rfl⟩ rfl rfl (fun wq hsq => fa 1 fo25_1 rfl) ?_
            refine qq ⟨_, rfl, rfl⟩ rfl rfl (fun wq hsq => ld (v := .int .i64 ni1) hsq 2 rfl rfl rfl one3) ?_
            refine qq ⟨_, rfl, rfl⟩ rfl rfl (fun wq hsq => mv (v := .int .i64 ((pipePut r1 ni1 eb1 b1).2.2.1)) rfl) ?_
            refine qq ⟨_, rfl, rfl⟩ rfl rfl (fun wq hsq => add (a := ni1) (b := (pipePut r1 ni1 eb1 b1).2.2.1) rfl rfl (by first | (exact ⟨by omega, by omega⟩) | (have hpo := pipePut_len r1 ni1 eb1 b1; have hpw := (pipePut_law (by assumption)); have hpx := pipeOk_len hpw.2.1; exact ⟨by omega, by omega⟩))) ?_
            refine qq ⟨_, rfl, rfl⟩ rfl rfl (fun wq hsq => eqi (k := .i64) (a := (pipePut r1 ni1 eb1 b1).2.1) (b := ni1 + ((pipePut r1 ni1 eb1 b1).2.2.1)) rfl rfl) ?_
            refine qq trivial rfl rfl (fun wq hsq => pt (v := .bool (decide (((pipePut r1 ni1 eb1 b1).2.1) = (ni1 + ((pipePut r1 ni1 eb1 b1).2.2.1))))) rfl rfl) ?_
            refine qq trivial rfl rfl (fun wq hsq => mv (v := .bool (decide (((pipePut r1 ni1 eb1 b1).2.1) = (ni1 + ((pipePut r1 ni1 eb1 b1).2.2.1))))) rfl) ?_
            refine qspd (p := ((pipePut r1 ni1 eb1 b1).2.1) = (ni1 + ((pipePut r1 ni1 eb1 b1).2.2.1))) 94 rfl (fun h13 => ?_) (fun h13 => ?_)
            · refine qq ⟨_, rfl, rfl⟩ rfl rfl (fun wq hsq => fa 2 fo25_2 rfl) ?_
              refine qq ⟨_, rfl, rfl⟩ rfl rfl (fun wq hsq => ld (v := .bool false) hsq 4 rfl rfl rfl one4) ?_
              refine qq ⟨_, rfl, rfl⟩ rfl rfl (fun wq hsq => nt (b := false) rfl) ?_
              refine qq trivial rfl rfl (fun wq hsq => pt (v := .bool true) rfl rfl) ?_
              refine qq trivial rfl rfl (fun wq hsq => asg (v := .bool true) rfl) ?_
              refine qn (fun w12 hs14 => ?_)
              refine nN ?_
              have hs15 : SH w w12 [] [] := hs14.pick [] rfl (by decide)
              refine rt ?_
              refine fret (v := .bool true) (.tmp .nil) rfl ?_
              exact ⟨rfl, hs15⟩
            · refine qk false rfl rfl rfl rfl rfl ?_
              refine qk false rfl rfl rfl rfl rfl ?_
              refine qk false rfl rfl rfl rfl rfl ?_
              refine qq trivial rfl rfl (fun wq hsq => pf (v := .bool false) rfl rfl) ?_
              refine qq trivial rfl rfl (fun wq hsq => asg (v := .bool false) rfl) ?_
              refine qn (fun w13 hs16 => ?_)
              refine nN ?_
              have hs17 : SH w w13 [] [] := hs16.pick [] rfl (by decide)
              refine rt ?_
              refine fret (v := .bool false) (.tmp .nil) rfl ?_
              have e2 : false = true := by first | rfl | (simp; done) | (obtain ⟨⟨hx1, hx2, hx3, hx4⟩, hx5⟩ := pipePut_ok (by assumption); subst hx3; simp [hx1, hx2, hx4, hx5] at h1 h9 h10 h11 h12 h13 ⊢; try omega)
              exact ⟨(congrArg (Value.bool) e2), hs17⟩
          · refine qk false rfl rfl rfl rfl rfl ?_
            refine qk false rfl rfl rfl rfl rfl ?_
            refine qk false rfl rfl rfl rfl rfl ?_
            refine qk false rfl rfl rfl rfl rfl ?_
            refine qk false rfl rfl rfl rfl rfl ?_
            refine qk false rfl rfl rfl rfl rfl ?_
            refine qk false rfl rfl rfl rfl rfl ?_
            refine qq trivial rfl rfl (fun wq hsq => pf (v := .bool false) rfl rfl) ?_
            refine qq trivial rfl rfl (fun wq hsq => mv (v := .bool false) rfl) ?_
            refine qk false rfl rfl rfl rfl rfl ?_
            refine qk false rfl rfl rfl rfl rfl ?_
            refine qk false rfl rfl rfl rfl rfl ?_
            refine qq trivial rfl rfl (fun wq hsq => pf (v := .bool false) rfl rfl) ?_
            refine qq trivial rfl rfl (fun wq hsq => asg (v := .bool false) rfl) ?_
            refine qn (fun w14 hs18 => ?_)
            refine nN ?_
            have hs19 : SH w w14 [] [] := hs18.pick [] rfl (by decide)
            refine rt ?_
            refine fret (v := .bool false) (.tmp .nil) rfl ?_
            have e3 : false = true := by first | rfl | (simp; done) | (obtain ⟨⟨hx1, hx2, hx3, hx4⟩, hx5⟩ := pipePut_ok (by assumption); subst hx3; simp [hx1, hx2, hx4, hx5] at h1 h9 h10 h11 h12 ⊢; try omega)
            exact ⟨(congrArg (Value.bool) e3), hs19⟩
        · refine qk false rfl rfl rfl rfl rfl ?_
          refine qk false rfl rfl rfl rfl rfl ?_
          refine qk false rfl rfl rfl rfl rfl ?_
          refine qk false rfl rfl rfl rfl rfl ?_
          refine qk false rfl rfl rfl rfl rfl ?_
          refine qk false rfl rfl rfl rfl rfl ?_
          refine qk false rfl rfl rfl rfl rfl ?_
          refine qk false rfl rfl rfl rfl rfl ?_
          refine qk false rfl rfl rfl rfl rfl ?_
          refine qk false rfl rfl rfl rfl rfl ?_
          refine qq trivial rfl rfl (fun wq hsq => pf (v := .bool false) rfl rfl) ?_
          refine qq trivial rfl rfl (fun wq hsq => mv (v := .bool false) rfl) ?_
          refine qk false rfl rfl rfl rfl rfl ?_
          refine qk false rfl rfl rfl rfl rfl ?_
          refine qk false rfl rfl rfl rfl rfl ?_
          refine qk false rfl rfl rfl rfl rfl ?_
          refine qk false rfl rfl rfl rfl rfl ?_
          refine qk false rfl rfl rfl rfl rfl ?_
          refine qk false rfl rfl rfl rfl rfl ?_
          refine qq trivial rfl rfl (fun wq hsq => pf (v := .bool false) rfl rfl) ?_
          refine qq trivial rfl rfl (fun wq hsq => mv (v := .bool false) rfl) ?_
          refine qk false rfl rfl rfl rfl rfl ?_
          refine qk false rfl rfl rfl rfl rfl ?_
          refine qk false rfl rfl rfl rfl rfl ?_
          refine qq trivial rfl rfl (fun wq hsq => pf (v := .bool false) rfl rfl) ?_
          refine qq trivial rfl rfl (fun wq hsq => asg (v := .bool false) rfl) ?_
          refine qn (fun w15 hs20 => ?_)
          refine nN ?_
          have hs21 : SH w w15 [] [] := hs20.pick [] rfl (by decide)
          refine rt ?_
          refine fret (v := .bool false) (.tmp .nil) rfl ?_
          have e4 : false = true := by first | rfl | (simp; done) | (obtain ⟨⟨hx1, hx2, hx3, hx4⟩, hx5⟩ := pipePut_ok (by assumption); subst hx3; simp [hx1, hx2, hx4, hx5] at h1 h9 h10 h11 ⊢; try omega)
          exact ⟨(congrArg (Value.bool) e4), hs21⟩
      · refine qk false rfl rfl rfl rfl rfl ?_
        refine qk false rfl rfl rfl rfl rfl ?_
        refine qk false rfl rfl rfl rfl rfl ?_
        refine qk false rfl rfl rfl rfl rfl ?_
        refine qk false rfl rfl rfl rfl rfl ?_
        refine qq trivial rfl rfl (fun wq hsq => pf (v := .bool false) rfl rfl) ?_
        refine qq trivial rfl rfl (fun wq hsq => mv (v := .bool false) rfl) ?_
        refine qk false rfl rfl rfl rfl rfl ?_
        refine qk false rfl rfl rfl rfl rfl ?_
        refine qk false rfl rfl rfl rfl rfl ?_
        refine qk false rfl rfl rfl rfl rfl ?_
        refine qk false rfl rfl rfl rfl rfl ?_
        refine qk false rfl rfl rfl rfl rfl ?_
        refine qk false rfl rfl rfl rfl rfl ?_
        refine qk false rfl rfl rfl rfl rfl ?_
        refine qk false rfl rfl rfl rfl rfl ?_
        refine qk false rfl rfl rfl rfl rfl ?_
        refine qq trivial rfl rfl (fun wq hsq => pf (v := .bool false) rfl rfl) ?_
        refine qq trivial rfl rfl (fun wq hsq => mv (v := .bool false) rfl) ?_
        refine qk false rfl rfl rfl rfl rfl ?_
        refine qk false rfl rfl rfl rfl rfl ?_
        refine qk false rfl rfl rfl rfl rfl ?_
        refine qk false rfl rfl rfl rfl rfl ?_
        refine qk false rfl rfl rfl rfl rfl ?_
        refine qk false rfl rfl rfl rfl rfl ?_
        refine qk false rfl rfl rfl rfl rfl ?_
        refine qq trivial rfl rfl (fun wq hsq => pf (v := .bool false) rfl rfl) ?_
        refine qq trivial rfl rfl (fun wq hsq => mv (v := .bool false) rfl) ?_
        refine qk false rfl rfl rfl rfl rfl ?_
        refine qk false rfl rfl rfl rfl rfl ?_
        refine qk false rfl rfl rfl rfl rfl ?_
        refine qq trivial rfl rfl (fun wq hsq => pf (v := .bool false) rfl rfl) ?_
        refine qq trivial rfl rfl (fun wq hsq => asg (v := .bool false) rfl) ?_
        refine qn (fun w16 hs22 => ?_)
        refine nN ?_
        have hs23 : SH w w16 [] [] := hs22.pick [] rfl (by decide)
        refine rt ?_
        refine fret (v := .bool false) (.tmp .nil) rfl ?_
        have e5 : false = true := by first | rfl | (simp; done) | (obtain ⟨⟨hx1, hx2, hx3, hx4⟩, hx5⟩ := pipePut_ok (by assumption); subst hx3; simp [hx1, hx2, hx4, hx5] at h1 h9 h10 ⊢; try omega)
        exact ⟨(congrArg (Value.bool) e5), hs23⟩

end Go.Proofs.Ytgefaejgkcbkpaa
