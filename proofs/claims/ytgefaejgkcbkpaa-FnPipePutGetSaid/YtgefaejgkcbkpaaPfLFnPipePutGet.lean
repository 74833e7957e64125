/-
  Part of the proofs over this seat: what each function of the program computes, function by function (the text is written by a program of this hand-in's own).
  Conditions: each theorem states its own.
-/
import Derived.Test.YtgefaejgkcbkpaaPfWalks2
namespace Go.Proofs.Ytgefaejgkcbkpaa
open Go.PF
set_option maxRecDepth 100000
set_option linter.unusedSimpArgs false
set_option linter.unusedVariables false

theorem lPipePutGet {Acs : Option Addr} {ccs : Nat} (cs : List UInt8) (w : World) (hcs : Sl w [] 1 Acs cs.length ccs (cs.map U)) : Does Try.prog 14 [.slice Acs cs.length ccs] w (fun v w' => v = .bool true ∧ SH w w' [] []) := by
  refine fn_enter (N := 92) Try.func14 rfl (by kernel_rfl) rfl rfl rfl ?_
  have hs0 : SH w w [] [] := SH.refl w []
  have hcs_m : cs.length ≤ 9223372036854775807 := Nat.le_trans hcs.cap hcs.capMax
  refine sq ?_
  refine rg ?_
  refine q trivial rfl rfl (asg (v := .bool false) rfl) ?_
  refine nl ?_
  refine nN ?_
  refine sq ?_
  refine sq ?_
  refine rg ?_
  refine q trivial rfl rfl (mv (v := .slice Acs cs.length ccs) rfl) ?_
  refine q trivial rfl rfl (lnA (n := cs.length) sl22 rfl) ?_
  refine q trivial rfl rfl (gtr (k := .i64) (a := ((cs.length : Nat) : Int)) (b := 1048576) rfl rfl) ?_
  refine nl ?_
  refine nN ?_
  refine cdd (p := (1048576 : Int) < ((cs.length : Nat) : Int)) rfl (fun h1 => ?_) (fun h1 => ?_)
  · refine sq ?_
    refine rg ?_
    refine q trivial rfl rfl (asg (v := .bool true) rfl) ?_
    refine nl ?_
    refine nN ?_
    refine rt (tR ?_)
    refine fret (v := .bool true) (.tmp .nil) rfl ?_
    exact ⟨rfl, hs0⟩
  · refine sk ?_
    refine nN ?_
    refine sq ?_
    refine rg ?_
    refine q trivial rfl rfl (mv (v := .slice Acs cs.length ccs) rfl) ?_
    refine cl trivial rfl (drawPipePut (Acs := Acs) (ccs := ccs) (cs := cs) (w := _) (hcs := (hcs.up0 hs0))) ?_
    rintro _ w1 ⟨A1, c1, Ab1, cb1, r1, ni1, eb1, b1, rfl, p1, p2, hs1'⟩
    have hs1 : SH w w1 [] [.own A1 r1.length c1 3 1 (r1.map I), .own Ab1 b1.length cb1 3 1 (b1.map I)] := hs0.call0 hs1'
    clear hs1'
    refine q trivial rfl rfl (mv (v := .tuple #[.agg #[.slice A1 r1.length c1, .int .i64 ni1, .bool eb1], .slice Ab1 b1.length cb1]) rfl) ?_
    refine q trivial rfl rfl (xt 0 (v := .agg #[.slice A1 r1.length c1, .int .i64 ni1, .bool eb1]) rfl rfl) ?_
    refine q trivial rfl rfl (xt 1 (v := .slice Ab1 b1.length cb1) rfl rfl) ?_
    refine al (v := .agg #[.slice none 0 0, .int .i64 0, .bool false]) (cs := [.slice none 0 0, .int .i64 0, .bool false]) hs1 tz25 rfl trivial rfl (fun b2 w2 (hs2 : SH w w2 [] [.own A1 r1.length c1 3 1 (r1.map I), .own Ab1 b1.length cb1 3 1 (b1.map I), .blk b2 25 [.slice none 0 0, .int .i64 0, .bool false]]) => ?_)
    refine stg (vs := [.slice A1 r1.length c1, .int .i64 ni1, .bool eb1]) hs2 2 rfl rfl rfl rfl rfl rfl rfl ag25 trivial (fun w3 (hs3 : SH w w3 [] [.own A1 r1.length c1 3 1 (r1.map I), .own Ab1 b1.length cb1 3 1 (b1.map I), .blk b2 25 [.slice A1 r1.length c1, .int .i64 ni1, .bool eb1]]) => ?_)
    refine q trivial rfl rfl (asg (v := .slice Ab1 b1.length cb1) rfl) ?_
    refine nl ?_
    refine nN ?_
    refine sq ?_
    refine rg ?_
    refine q trivial rfl rfl (ldg (vs := [.slice A1 r1.length c1, .int .i64 ni1, .bool eb1]) hs3 2 rfl rfl rfl rfl ag25) ?_
    refine q trivial rfl rfl (mv (v := .slice Ab1 b1.length cb1) rfl) ?_
    refine cl trivial rfl (iPipePut (Axs := A1) (cxs := c1) (xs := r1) (ni := ni1) (eb := eb1) (Abs := Ab1) (cbs := cb1) (bs := b1) (w := _) (hxs := (hs3.sl0 0 rfl)) (hbs := (hs3.sl0 1 rfl))) ?_
    rintro _ w4 ⟨A2, c2, rfl, hs4'⟩
    have hs4 : SH w w4 [] [.own A1 r1.length c1 3 1 (r1.map I), .own Ab1 b1.length cb1 3 1 (b1.map I), .blk b2 25 [.slice A1 r1.length c1, .int .i64 ni1, .bool eb1], .own A2 (((pipePut r1 ni1 eb1 b1).1).length) c2 3 1 (((pipePut r1 ni1 eb1 b1).1).map I)] := hs3.call0 hs4'
    clear hs4'
    refine q trivial rfl rfl (mv (v := .tuple #[.agg #[.slice A2 (((pipePut r1 ni1 eb1 b1).1).length) c2, .int .i64 ((pipePut r1 ni1 eb1 b1).2.1), .bool false], .int .i64 ((pipePut r1 ni1 eb1 b1).2.2.1), .bool ((pipePut r1 ni1 eb1 b1).2.2.2)]) rfl) ?_
    refine q trivial rfl rfl (xt 0 (v := .agg #[.slice A2 (((pipePut r1 ni1 eb1 b1).1).length) c2, .int .i64 ((pipePut r1 ni1 eb1 b1).2.1), .bool false]) rfl rfl) ?_
    refine q trivial rfl rfl (xt 1 (v := .int .i64 ((pipePut r1 ni1 eb1 b1).2.2.1)) rfl rfl) ?_
    refine q trivial rfl rfl (xt 2 (v := .bool ((pipePut r1 ni1 eb1 b1).2.2.2)) rfl rfl) ?_
    refine al (v := .agg #[.slice none 0 0, .int .i64 0, .bool false]) (cs := [.slice none 0 0, .int .i64 0, .bool false]) hs4 tz25 rfl trivial rfl (fun b3 w5 (hs5 : SH w w5 [] [.own A1 r1.length c1 3 1 (r1.map I), .own Ab1 b1.length cb1 3 1 (b1.map I), .blk b2 25 [.slice A1 r1.length c1, .int .i64 ni1, .bool eb1], .own A2 (((pipePut r1 ni1 eb1 b1).1).length) c2 3 1 (((pipePut r1 ni1 eb1 b1).1).map I), .blk b3 25 [.slice none 0 0, .int .i64 0, .bool false]]) => ?_)
    refine stg (vs := [.slice A2 (((pipePut r1 ni1 eb1 b1).1).length) c2, .int .i64 ((pipePut r1 ni1 eb1 b1).2.1), .bool false]) hs5 4 rfl rfl rfl rfl rfl rfl rfl ag25 trivial (fun w6 (hs6 : SH w w6 [] [.own A1 r1.length c1 3 1 (r1.map I), .own Ab1 b1.length cb1 3 1 (b1.map I), .blk b2 25 [.slice A1 r1.length c1, .int .i64 ni1, .bool eb1], .own A2 (((pipePut r1 ni1 eb1 b1).1).length) c2 3 1 (((pipePut r1 ni1 eb1 b1).1).map I), .blk b3 25 [.slice A2 (((pipePut r1 ni1 eb1 b1).1).length) c2, .int .i64 ((pipePut r1 ni1 eb1 b1).2.1), .bool false]]) => ?_)
    refine q trivial rfl rfl (asg (v := .int .i64 ((pipePut r1 ni1 eb1 b1).2.2.1)) rfl) ?_
    refine q trivial rfl rfl (asg (v := .bool ((pipePut r1 ni1 eb1 b1).2.2.2)) rfl) ?_
    refine nl ?_
    refine nN ?_
    refine sq ?_
    refine rg ?_
    refine q trivial rfl rfl (ldg (vs := [.slice A1 r1.length c1, .int .i64 ni1, .bool eb1]) hs6 2 rfl rfl rfl rfl ag25) ?_
    refine q trivial rfl rfl (mv (v := .slice Ab1 b1.length cb1) rfl) ?_
    refine cl trivial rfl (sPipePut (Axs := A1) (cxs := c1) (xs := r1) (ni := ni1) (eb := eb1) (Abs := Ab1) (cbs := cb1) (bs := b1) (w := _) (hxs := (hs6.sl0 0 rfl)) (hbs := (hs6.sl0 1 rfl))) ?_
    rintro _ w7 ⟨A3, c3, rfl, hs7'⟩
    have hs7 : SH w w7 [] [.own A1 r1.length c1 3 1 (r1.map I), .own Ab1 b1.length cb1 3 1 (b1.map I), .blk b2 25 [.slice A1 r1.length c1, .int .i64 ni1, .bool eb1], .own A2 (((pipePut r1 ni1 eb1 b1).1).length) c2 3 1 (((pipePut r1 ni1 eb1 b1).1).map I), .blk b3 25 [.slice A2 (((pipePut r1 ni1 eb1 b1).1).length) c2, .int .i64 ((pipePut r1 ni1 eb1 b1).2.1), .bool false], .own A3 (((pipePut r1 ni1 eb1 b1).1).length) c3 3 1 (((pipePut r1 ni1 eb1 b1).1).map I)] := hs6.call0 hs7'
    clear hs7'
    refine q trivial rfl rfl (mv (v := .tuple #[.agg #[.slice A3 (((pipePut r1 ni1 eb1 b1).1).length) c3, .int .i64 ((pipePut r1 ni1 eb1 b1).2.1), .bool false], .int .i64 ((pipePut r1 ni1 eb1 b1).2.2.1), .bool ((pipePut r1 ni1 eb1 b1).2.2.2)]) rfl) ?_
    refine q trivial rfl rfl (xt 0 (v := .agg #[.slice A3 (((pipePut r1 ni1 eb1 b1).1).length) c3, .int .i64 ((pipePut r1 ni1 eb1 b1).2.1), .bool false]) rfl rfl) ?_
    refine q trivial rfl rfl (xt 1 (v := .int .i64 ((pipePut r1 ni1 eb1 b1).2.2.1)) rfl rfl) ?_
    refine q trivial rfl rfl (xt 2 (v := .bool ((pipePut r1 ni1 eb1 b1).2.2.2)) rfl rfl) ?_
    refine al (v := .agg #[.slice none 0 0, .int .i64 0, .bool false]) (cs := [.slice none 0 0, .int .i64 0, .bool false]) hs7 tz25 rfl trivial rfl (fun b4 w8 (hs8 : SH w w8 [] [.own A1 r1.length c1 3 1 (r1.map I), .own Ab1 b1.length cb1 3 1 (b1.map I), .blk b2 25 [.slice A1 r1.length c1, .int .i64 ni1, .bool eb1], .own A2 (((pipePut r1 ni1 eb1 b1).1).length) c2 3 1 (((pipePut r1 ni1 eb1 b1).1).map I), .blk b3 25 [.slice A2 (((pipePut r1 ni1 eb1 b1).1).length) c2, .int .i64 ((pipePut r1 ni1 eb1 b1).2.1), .bool false], .own A3 (((pipePut r1 ni1 eb1 b1).1).length) c3 3 1 (((pipePut r1 ni1 eb1 b1).1).map I), .blk b4 25 [.slice none 0 0, .int .i64 0, .bool false]]) => ?_)
    refine stg (vs := [.slice A3 (((pipePut r1 ni1 eb1 b1).1).length) c3, .int .i64 ((pipePut r1 ni1 eb1 b1).2.1), .bool false]) hs8 6 rfl rfl rfl rfl rfl rfl rfl ag25 trivial (fun w9 (hs9 : SH w w9 [] [.own A1 r1.length c1 3 1 (r1.map I), .own Ab1 b1.length cb1 3 1 (b1.map I), .blk b2 25 [.slice A1 r1.length c1, .int .i64 ni1, .bool eb1], .own A2 (((pipePut r1 ni1 eb1 b1).1).length) c2 3 1 (((pipePut r1 ni1 eb1 b1).1).map I), .blk b3 25 [.slice A2 (((pipePut r1 ni1 eb1 b1).1).length) c2, .int .i64 ((pipePut r1 ni1 eb1 b1).2.1), .bool false], .own A3 (((pipePut r1 ni1 eb1 b1).1).length) c3 3 1 (((pipePut r1 ni1 eb1 b1).1).map I), .blk b4 25 [.slice A3 (((pipePut r1 ni1 eb1 b1).1).length) c3, .int .i64 ((pipePut r1 ni1 eb1 b1).2.1), .bool false]]) => ?_)
    refine q trivial rfl rfl (asg (v := .int .i64 ((pipePut r1 ni1 eb1 b1).2.2.1)) rfl) ?_
    refine q trivial rfl rfl (asg (v := .bool ((pipePut r1 ni1 eb1 b1).2.2.2)) rfl) ?_
    refine nl ?_
    refine nN ?_
    refine sq ?_
    refine sq ?_
    refine rg ?_
    refine q trivial rfl rfl (mv (v := .bool ((pipePut r1 ni1 eb1 b1).2.2.2)) rfl) ?_
    refine q trivial rfl rfl (mv (v := .bool ((pipePut r1 ni1 eb1 b1).2.2.2)) rfl) ?_
    refine q trivial rfl rfl (neb (a := ((pipePut r1 ni1 eb1 b1).2.2.2)) (b := ((pipePut r1 ni1 eb1 b1).2.2.2)) tb4 rfl rfl) ?_
    refine q trivial rfl rfl (mv (v := .bool (decide (((pipePut r1 ni1 eb1 b1).2.2.2) ≠ ((pipePut r1 ni1 eb1 b1).2.2.2)))) rfl) ?_
    refine spd (p := ((pipePut r1 ni1 eb1 b1).2.2.2) ≠ ((pipePut r1 ni1 eb1 b1).2.2.2)) 39 rfl (fun h2 => absurd h2 (by exact fun h => h rfl)) (fun h2 => ?_)
    refine q ⟨_, rfl, rfl⟩ rfl rfl (mv (v := .int .i64 ((pipePut r1 ni1 eb1 b1).2.2.1)) rfl) ?_
    refine q ⟨_, rfl, rfl⟩ rfl rfl (mv (v := .int .i64 ((pipePut r1 ni1 eb1 b1).2.2.1)) rfl) ?_
    refine q ⟨_, rfl, rfl⟩ rfl rfl (nei (k := .i64) (a := (pipePut r1 ni1 eb1 b1).2.2.1) (b := (pipePut r1 ni1 eb1 b1).2.2.1) rfl rfl) ?_
    refine q trivial rfl rfl (pf (v := .bool (decide (((pipePut r1 ni1 eb1 b1).2.2.1) ≠ ((pipePut r1 ni1 eb1 b1).2.2.1)))) rfl rfl) ?_
    refine q trivial rfl rfl (mv (v := .bool (decide (((pipePut r1 ni1 eb1 b1).2.2.1) ≠ ((pipePut r1 ni1 eb1 b1).2.2.1)))) rfl) ?_
    refine spd (p := ((pipePut r1 ni1 eb1 b1).2.2.1) ≠ ((pipePut r1 ni1 eb1 b1).2.2.1)) 44 rfl (fun h3 => absurd h3 (by exact fun h => h rfl)) (fun h3 => ?_)
    refine q ⟨_, rfl, rfl⟩ rfl rfl (ldg (vs := [.slice A2 (((pipePut r1 ni1 eb1 b1).1).length) c2, .int .i64 ((pipePut r1 ni1 eb1 b1).2.1), .bool false]) hs9 4 rfl rfl rfl rfl ag25) ?_
    refine q ⟨_, rfl, rfl⟩ rfl rfl (ldg (vs := [.slice A3 (((pipePut r1 ni1 eb1 b1).1).length) c3, .int .i64 ((pipePut r1 ni1 eb1 b1).2.1), .bool false]) hs9 6 rfl rfl rfl rfl ag25) ?_
    refine cl ⟨_, rfl, rfl⟩ rfl (samePipe (Axs := A2) (cxs := c2) (xs := (pipePut r1 ni1 eb1 b1).1) (n1 := (pipePut r1 ni1 eb1 b1).2.1) (e1 := false) (Ays := A3) (cys := c3) (ys := (pipePut r1 ni1 eb1 b1).1) (n2 := (pipePut r1 ni1 eb1 b1).2.1) (e2 := false) (w := _) (hxs := (hs9.sl0 3 rfl)) (hys := (hs9.sl0 5 rfl))) ?_
    rintro _ w10 ⟨rfl, hs10'⟩
    have hs10 : SH w w10 [] [.own A1 r1.length c1 3 1 (r1.map I), .own Ab1 b1.length cb1 3 1 (b1.map I), .blk b2 25 [.slice A1 r1.length c1, .int .i64 ni1, .bool eb1], .own A2 (((pipePut r1 ni1 eb1 b1).1).length) c2 3 1 (((pipePut r1 ni1 eb1 b1).1).map I), .blk b3 25 [.slice A2 (((pipePut r1 ni1 eb1 b1).1).length) c2, .int .i64 ((pipePut r1 ni1 eb1 b1).2.1), .bool false], .own A3 (((pipePut r1 ni1 eb1 b1).1).length) c3 3 1 (((pipePut r1 ni1 eb1 b1).1).map I), .blk b4 25 [.slice A3 (((pipePut r1 ni1 eb1 b1).1).length) c3, .int .i64 ((pipePut r1 ni1 eb1 b1).2.1), .bool false]] := hs9.call0 hs10'
    clear hs10'
    refine q ⟨_, rfl, rfl⟩ rfl rfl (nd (p := ((pipePut r1 ni1 eb1 b1).1) = ((pipePut r1 ni1 eb1 b1).1) ∧ ((pipePut r1 ni1 eb1 b1).2.1) = ((pipePut r1 ni1 eb1 b1).2.1) ∧ false = false) rfl) ?_
    refine q trivial rfl rfl (pf (v := .bool (decide (¬ (((pipePut r1 ni1 eb1 b1).1) = ((pipePut r1 ni1 eb1 b1).1) ∧ ((pipePut r1 ni1 eb1 b1).2.1) = ((pipePut r1 ni1 eb1 b1).2.1) ∧ false = false)))) rfl rfl) ?_
    refine q trivial rfl rfl (mv (v := .bool (decide (¬ (((pipePut r1 ni1 eb1 b1).1) = ((pipePut r1 ni1 eb1 b1).1) ∧ ((pipePut r1 ni1 eb1 b1).2.1) = ((pipePut r1 ni1 eb1 b1).2.1) ∧ false = false)))) rfl) ?_
    refine spd (p := ¬ (((pipePut r1 ni1 eb1 b1).1) = ((pipePut r1 ni1 eb1 b1).1) ∧ ((pipePut r1 ni1 eb1 b1).2.1) = ((pipePut r1 ni1 eb1 b1).2.1) ∧ false = false)) 50 rfl (fun h4 => absurd h4 (by exact fun h => h ⟨rfl, rfl, rfl⟩)) (fun h4 => ?_)
    refine q ⟨_, rfl, rfl⟩ rfl rfl (mv (v := .bool ((pipePut r1 ni1 eb1 b1).2.2.2)) rfl) ?_
    refine q ⟨_, rfl, rfl⟩ rfl rfl (nt (b := (pipePut r1 ni1 eb1 b1).2.2.2) rfl) ?_
    refine q trivial rfl rfl (pf (v := .bool (!((pipePut r1 ni1 eb1 b1).2.2.2))) rfl rfl) ?_
    refine nl ?_
    refine nN ?_
    refine cd (b := !((pipePut r1 ni1 eb1 b1).2.2.2)) rfl (fun h5 => ?_) (fun h5 => ?_)
    · have h6 : ((pipePut r1 ni1 eb1 b1).2.2.2) = false := by simpa using h5
      refine sq ?_
      refine rg ?_
      refine q trivial rfl rfl (mv (v := .bool ((pipePut r1 ni1 eb1 b1).2.2.2)) rfl) ?_
      refine q trivial rfl rfl (mv (v := .bool ((pipePut r1 ni1 eb1 b1).2.2.2)) rfl) ?_
      refine q trivial rfl rfl (eqb (a := ((pipePut r1 ni1 eb1 b1).2.2.2)) (b := ((pipePut r1 ni1 eb1 b1).2.2.2)) tb4 rfl rfl) ?_
      refine q trivial rfl rfl (mv (v := .bool (decide (((pipePut r1 ni1 eb1 b1).2.2.2) = ((pipePut r1 ni1 eb1 b1).2.2.2)))) rfl) ?_
      refine spd (p := ((pipePut r1 ni1 eb1 b1).2.2.2) = ((pipePut r1 ni1 eb1 b1).2.2.2)) 57 rfl (fun h7 => ?_) (fun h7 => absurd (by rfl) h7)
      refine q ⟨_, rfl, rfl⟩ rfl rfl (mv (v := .int .i64 ((pipePut r1 ni1 eb1 b1).2.2.1)) rfl) ?_
      refine q ⟨_, rfl, rfl⟩ rfl rfl (mv (v := .int .i64 ((pipePut r1 ni1 eb1 b1).2.2.1)) rfl) ?_
      refine q ⟨_, rfl, rfl⟩ rfl rfl (eqi (k := .i64) (a := (pipePut r1 ni1 eb1 b1).2.2.1) (b := (pipePut r1 ni1 eb1 b1).2.2.1) rfl rfl) ?_
      refine q trivial rfl rfl (pt (v := .bool (decide (((pipePut r1 ni1 eb1 b1).2.2.1) = ((pipePut r1 ni1 eb1 b1).2.2.1)))) rfl rfl) ?_
      refine q trivial rfl rfl (mv (v := .bool (decide (((pipePut r1 ni1 eb1 b1).2.2.1) = ((pipePut r1 ni1 eb1 b1).2.2.1)))) rfl) ?_
      refine spd (p := ((pipePut r1 ni1 eb1 b1).2.2.1) = ((pipePut r1 ni1 eb1 b1).2.2.1)) 62 rfl (fun h8 => ?_) (fun h8 => absurd (by rfl) h8)
      refine q ⟨_, rfl, rfl⟩ rfl rfl (ldg (vs := [.slice A2 (((pipePut r1 ni1 eb1 b1).1).length) c2, .int .i64 ((pipePut r1 ni1 eb1 b1).2.1), .bool false]) hs10 4 rfl rfl rfl rfl ag25) ?_
      refine q ⟨_, rfl, rfl⟩ rfl rfl (ldg (vs := [.slice A3 (((pipePut r1 ni1 eb1 b1).1).length) c3, .int .i64 ((pipePut r1 ni1 eb1 b1).2.1), .bool false]) hs10 6 rfl rfl rfl rfl ag25) ?_
      refine cl ⟨_, rfl, rfl⟩ rfl (samePipe (Axs := A2) (cxs := c2) (xs := (pipePut r1 ni1 eb1 b1).1) (n1 := (pipePut r1 ni1 eb1 b1).2.1) (e1 := false) (Ays := A3) (cys := c3) (ys := (pipePut r1 ni1 eb1 b1).1) (n2 := (pipePut r1 ni1 eb1 b1).2.1) (e2 := false) (w := _) (hxs := (hs10.sl0 3 rfl)) (hys := (hs10.sl0 5 rfl))) ?_
      rintro _ w11 ⟨rfl, hs11'⟩
      have hs11 : SH w w11 [] [.own A1 r1.length c1 3 1 (r1.map I), .own Ab1 b1.length cb1 3 1 (b1.map I), .blk b2 25 [.slice A1 r1.length c1, .int .i64 ni1, .bool eb1], .own A2 (((pipePut r1 ni1 eb1 b1).1).length) c2 3 1 (((pipePut r1 ni1 eb1 b1).1).map I), .blk b3 25 [.slice A2 (((pipePut r1 ni1 eb1 b1).1).length) c2, .int .i64 ((pipePut r1 ni1 eb1 b1).2.1), .bool false], .own A3 (((pipePut r1 ni1 eb1 b1).1).length) c3 3 1 (((pipePut r1 ni1 eb1 b1).1).map I), .blk b4 25 [.slice A3 (((pipePut r1 ni1 eb1 b1).1).length) c3, .int .i64 ((pipePut r1 ni1 eb1 b1).2.1), .bool false]] := hs10.call0 hs11'
      clear hs11'
      refine q trivial rfl rfl (pt (v := .bool (decide (((pipePut r1 ni1 eb1 b1).1) = ((pipePut r1 ni1 eb1 b1).1) ∧ ((pipePut r1 ni1 eb1 b1).2.1) = ((pipePut r1 ni1 eb1 b1).2.1) ∧ false = false))) rfl rfl) ?_
      refine q trivial rfl rfl (asg (v := .bool (decide (((pipePut r1 ni1 eb1 b1).1) = ((pipePut r1 ni1 eb1 b1).1) ∧ ((pipePut r1 ni1 eb1 b1).2.1) = ((pipePut r1 ni1 eb1 b1).2.1) ∧ false = false))) rfl) ?_
      refine nl ?_
      refine nN ?_
      have hs12 : SH w w11 [] [] := hs11.pick [] rfl (by decide)
      refine rt (tR ?_)
      refine fret (v := .bool (decide (((pipePut r1 ni1 eb1 b1).1) = ((pipePut r1 ni1 eb1 b1).1) ∧ ((pipePut r1 ni1 eb1 b1).2.1) = ((pipePut r1 ni1 eb1 b1).2.1) ∧ false = false))) (.tmp .nil) rfl ?_
      have e1 : (decide (((pipePut r1 ni1 eb1 b1).1) = ((pipePut r1 ni1 eb1 b1).1) ∧ ((pipePut r1 ni1 eb1 b1).2.1) = ((pipePut r1 ni1 eb1 b1).2.1) ∧ false = false)) = true := by first | rfl | (simp; done) | (have hx := pipeGet_put (e' := false) (by assumption); simp [hx] at h1 h6 ⊢)
      exact ⟨(congrArg (Value.bool) e1), hs12⟩
    · have h9 : ((pipePut r1 ni1 eb1 b1).2.2.2) = true := by simpa using h5
      refine sk ?_
      refine nN ?_
      have hs13 : SH w w10 [] [.own A1 r1.length c1 3 1 (r1.map I), .own Ab1 b1.length cb1 3 1 (b1.map I), .blk b2 25 [.slice A1 r1.length c1, .int .i64 ni1, .bool eb1], .own A2 (((pipePut r1 ni1 eb1 b1).1).length) c2 3 1 (((pipePut r1 ni1 eb1 b1).1).map I), .blk b3 25 [.slice A2 (((pipePut r1 ni1 eb1 b1).1).length) c2, .int .i64 ((pipePut r1 ni1 eb1 b1).2.1), .bool false]] := hs10.pick [0, 1, 2, 3, 4] rfl (by decide)
      refine sq ?_
      refine rg ?_
      refine q trivial rfl rfl (ldg (vs := [.slice A2 (((pipePut r1 ni1 eb1 b1).1).length) c2, .int .i64 ((pipePut r1 ni1 eb1 b1).2.1), .bool false]) hs13 4 rfl rfl rfl rfl ag25) ?_
      refine cl trivial rfl (iPipeGet (Axs := A2) (cxs := c2) (xs := (pipePut r1 ni1 eb1 b1).1) (ni := (pipePut r1 ni1 eb1 b1).2.1) (eb := false) (m := 16) (w := _) (hxs := (hs13.sl0 3 rfl))) ?_
      rintro _ w12 ⟨A4, c4, Ag1, cg1, rfl, hs14'⟩
      have hs14 : SH w w12 [] [.own A1 r1.length c1 3 1 (r1.map I), .own Ab1 b1.length cb1 3 1 (b1.map I), .blk b2 25 [.slice A1 r1.length c1, .int .i64 ni1, .bool eb1], .own A2 (((pipePut r1 ni1 eb1 b1).1).length) c2 3 1 (((pipePut r1 ni1 eb1 b1).1).map I), .blk b3 25 [.slice A2 (((pipePut r1 ni1 eb1 b1).1).length) c2, .int .i64 ((pipePut r1 ni1 eb1 b1).2.1), .bool false], .own A4 (((pipeGet ((pipePut r1 ni1 eb1 b1).1) ((pipePut r1 ni1 eb1 b1).2.1) false 16).1).length) c4 3 1 (((pipeGet ((pipePut r1 ni1 eb1 b1).1) ((pipePut r1 ni1 eb1 b1).2.1) false 16).1).map I), .own Ag1 (((pipeGet ((pipePut r1 ni1 eb1 b1).1) ((pipePut r1 ni1 eb1 b1).2.1) false 16).2.2.2.1).length) cg1 3 1 (((pipeGet ((pipePut r1 ni1 eb1 b1).1) ((pipePut r1 ni1 eb1 b1).2.1) false 16).2.2.2.1).map I)] := hs13.call0 hs14'
      clear hs14'
      refine q trivial rfl rfl (mv (v := .tuple #[.agg #[.slice A4 (((pipeGet ((pipePut r1 ni1 eb1 b1).1) ((pipePut r1 ni1 eb1 b1).2.1) false 16).1).length) c4, .int .i64 ((pipeGet ((pipePut r1 ni1 eb1 b1).1) ((pipePut r1 ni1 eb1 b1).2.1) false 16).2.1), .bool ((pipeGet ((pipePut r1 ni1 eb1 b1).1) ((pipePut r1 ni1 eb1 b1).2.1) false 16).2.2.1)], .slice Ag1 (((pipeGet ((pipePut r1 ni1 eb1 b1).1) ((pipePut r1 ni1 eb1 b1).2.1) false 16).2.2.2.1).length) cg1, .bool ((pipeGet ((pipePut r1 ni1 eb1 b1).1) ((pipePut r1 ni1 eb1 b1).2.1) false 16).2.2.2.2)]) rfl) ?_
      refine q trivial rfl rfl (xt 0 (v := .agg #[.slice A4 (((pipeGet ((pipePut r1 ni1 eb1 b1).1) ((pipePut r1 ni1 eb1 b1).2.1) false 16).1).length) c4, .int .i64 ((pipeGet ((pipePut r1 ni1 eb1 b1).1) ((pipePut r1 ni1 eb1 b1).2.1) false 16).2.1), .bool ((pipeGet ((pipePut r1 ni1 eb1 b1).1) ((pipePut r1 ni1 eb1 b1).2.1) false 16).2.2.1)]) rfl rfl) ?_
      refine q trivial rfl rfl (xt 1 (v := .slice Ag1 (((pipeGet ((pipePut r1 ni1 eb1 b1).1) ((pipePut r1 ni1 eb1 b1).2.1) false 16).2.2.2.1).length) cg1) rfl rfl) ?_
      refine q trivial rfl rfl (xt 2 (v := .bool ((pipeGet ((pipePut r1 ni1 eb1 b1).1) ((pipePut r1 ni1 eb1 b1).2.1) false 16).2.2.2.2)) rfl rfl) ?_
      refine al (v := .agg #[.slice none 0 0, .int .i64 0, .bool false]) (cs := [.slice none 0 0, .int .i64 0, .bool false]) hs14 tz25 rfl trivial rfl (fun b5 w13 (hs15 : SH w w13 [] [.own A1 r1.length c1 3 1 (r1.map I), .own Ab1 b1.length cb1 3 1 (b1.map I), .blk b2 25 [.slice A1 r1.length c1, .int .i64 ni1, .bool eb1], .own A2 (((pipePut r1 ni1 eb1 b1).1).length) c2 3 1 (((pipePut r1 ni1 eb1 b1).1).map I), .blk b3 25 [.slice A2 (((pipePut r1 ni1 eb1 b1).1).length) c2, .int .i64 ((pipePut r1 ni1 eb1 b1).2.1), .bool false], .own A4 (((pipeGet ((pipePut r1 ni1 eb1 b1).1) ((pipePut r1 ni1 eb1 b1).2.1) false 16).1).length) c4 3 1 (((pipeGet ((pipePut r1 ni1 eb1 b1).1) ((pipePut r1 ni1 eb1 b1).2.1) false 16).1).map I), .own Ag1 (((pipeGet ((pipePut r1 ni1 eb1 b1).1) ((pipePut r1 ni1 eb1 b1).2.1) false 16).2.2.2.1).length) cg1 3 1 (((pipeGet ((pipePut r1 ni1 eb1 b1).1) ((pipePut r1 ni1 eb1 b1).2.1) false 16).2.2.2.1).map I), .blk b5 25 [.slice none 0 0, .int .i64 0, .bool false]]) => ?_)
      refine stg (vs := [.slice A4 (((pipeGet ((pipePut r1 ni1 eb1 b1).1) ((pipePut r1 ni1 eb1 b1).2.1) false 16).1).length) c4, .int .i64 ((pipeGet ((pipePut r1 ni1 eb1 b1).1) ((pipePut r1 ni1 eb1 b1).2.1) false 16).2.1), .bool ((pipeGet ((pipePut r1 ni1 eb1 b1).1) ((pipePut r1 ni1 eb1 b1).2.1) false 16).2.2.1)]) hs15 7 rfl rfl rfl rfl rfl rfl rfl ag25 trivial (fun w14 (hs16 : SH w w14 [] [.own A1 r1.length c1 3 1 (r1.map I), .own Ab1 b1.length cb1 3 1 (b1.map I), .blk b2 25 [.slice A1 r1.length c1, .int .i64 ni1, .bool eb1], .own A2 (((pipePut r1 ni1 eb1 b1).1).length) c2 3 1 (((pipePut r1 ni1 eb1 b1).1).map I), .blk b3 25 [.slice A2 (((pipePut r1 ni1 eb1 b1).1).length) c2, .int .i64 ((pipePut r1 ni1 eb1 b1).2.1), .bool false], .own A4 (((pipeGet ((pipePut r1 ni1 eb1 b1).1) ((pipePut r1 ni1 eb1 b1).2.1) false 16).1).length) c4 3 1 (((pipeGet ((pipePut r1 ni1 eb1 b1).1) ((pipePut r1 ni1 eb1 b1).2.1) false 16).1).map I), .own Ag1 (((pipeGet ((pipePut r1 ni1 eb1 b1).1) ((pipePut r1 ni1 eb1 b1).2.1) false 16).2.2.2.1).length) cg1 3 1 (((pipeGet ((pipePut r1 ni1 eb1 b1).1) ((pipePut r1 ni1 eb1 b1).2.1) false 16).2.2.2.1).map I), .blk b5 25 [.slice A4 (((pipeGet ((pipePut r1 ni1 eb1 b1).1) ((pipePut r1 ni1 eb1 b1).2.1) false 16).1).length) c4, .int .i64 ((pipeGet ((pipePut r1 ni1 eb1 b1).1) ((pipePut r1 ni1 eb1 b1).2.1) false 16).2.1), .bool ((pipeGet ((pipePut r1 ni1 eb1 b1).1) ((pipePut r1 ni1 eb1 b1).2.1) false 16).2.2.1)]]) => ?_)
      refine q trivial rfl rfl (asg (v := .slice Ag1 (((pipeGet ((pipePut r1 ni1 eb1 b1).1) ((pipePut r1 ni1 eb1 b1).2.1) false 16).2.2.2.1).length) cg1) rfl) ?_
      refine q trivial rfl rfl (asg (v := .bool ((pipeGet ((pipePut r1 ni1 eb1 b1).1) ((pipePut r1 ni1 eb1 b1).2.1) false 16).2.2.2.2)) rfl) ?_
      refine nl ?_
      refine nN ?_
      have hs17 : SH w w14 [] [.own A1 r1.length c1 3 1 (r1.map I), .own Ab1 b1.length cb1 3 1 (b1.map I), .blk b2 25 [.slice A1 r1.length c1, .int .i64 ni1, .bool eb1], .own A4 (((pipeGet ((pipePut r1 ni1 eb1 b1).1) ((pipePut r1 ni1 eb1 b1).2.1) false 16).1).length) c4 3 1 (((pipeGet ((pipePut r1 ni1 eb1 b1).1) ((pipePut r1 ni1 eb1 b1).2.1) false 16).1).map I), .own Ag1 (((pipeGet ((pipePut r1 ni1 eb1 b1).1) ((pipePut r1 ni1 eb1 b1).2.1) false 16).2.2.2.1).length) cg1 3 1 (((pipeGet ((pipePut r1 ni1 eb1 b1).1) ((pipePut r1 ni1 eb1 b1).2.1) false 16).2.2.2.1).map I), .blk b5 25 [.slice A4 (((pipeGet ((pipePut r1 ni1 eb1 b1).1) ((pipePut r1 ni1 eb1 b1).2.1) false 16).1).length) c4, .int .i64 ((pipeGet ((pipePut r1 ni1 eb1 b1).1) ((pipePut r1 ni1 eb1 b1).2.1) false 16).2.1), .bool ((pipeGet ((pipePut r1 ni1 eb1 b1).1) ((pipePut r1 ni1 eb1 b1).2.1) false 16).2.2.1)]] := hs16.pick [0, 1, 2, 5, 6, 7] rfl (by decide)
      refine sq ?_
      refine ra (fun w' => ∃ L, SH w w' [] L ∧ (.blk b2 25 [.slice A1 r1.length c1, .int .i64 ni1, .bool eb1]) ∈ L ∧ (.blk b5 25 [.slice A4 (((pipeGet ((pipePut r1 ni1 eb1 b1).1) ((pipePut r1 ni1 eb1 b1).2.1) false 16).1).length) c4, .int .i64 ((pipeGet ((pipePut r1 ni1 eb1 b1).1) ((pipePut r1 ni1 eb1 b1).2.1) false 16).2.1), .bool ((pipeGet ((pipePut r1 ni1 eb1 b1).1) ((pipePut r1 ni1 eb1 b1).2.1) false 16).2.2.1)]) ∈ L ∧ True) mixed ?_
      have hs18 := hs17.drew
      refine tk (fuel := 18) (is := [0, 1]) (.cons rfl (.cons rfl (.nil))) (by kernel_rfl) (by kernel_rfl) ⟨_, hs18, memi 2 rfl, memi 5 rfl, trivial⟩ ?_
      refine .op trivial rfl rfl (fun wq _ => mv (v := .bool ((pipeGet ((pipePut r1 ni1 eb1 b1).1) ((pipePut r1 ni1 eb1 b1).2.1) false 16).2.2.2.2)) rfl) ?_
      refine .op trivial rfl rfl (fun wq _ => mv (v := .bool ((pipeGet ((pipePut r1 ni1 eb1 b1).1) ((pipePut r1 ni1 eb1 b1).2.1) false 16).2.2.2.2)) rfl) ?_
      refine .nil ?_
      refine aspl (b := (pipeGet ((pipePut r1 ni1 eb1 b1).1) ((pipePut r1 ni1 eb1 b1).2.1) false 16).2.2.2.2) 74 rfl (fun h10 => ?_) (fun h10 => ?_)
      · refine tk (fuel := 12) (is := [2, 3, 4, 5, 6, 7]) (.cons rfl (.cons rfl (.cons rfl (.cons rfl (.cons rfl (.cons rfl (.nil))))))) (by kernel_rfl) (by kernel_rfl) ⟨_, hs18, memi 2 rfl, memi 5 rfl, trivial⟩ ?_
        refine .op ⟨_, rfl, rfl⟩ rfl rfl (fun wq _ => fa 0 fo25_0 rfl) ?_
        refine .op ⟨_, rfl, rfl⟩ rfl rfl (fun wq ⟨Lq, hsq, mh0, mh1, _⟩ => ldm (v := .slice A4 (((pipeGet ((pipePut r1 ni1 eb1 b1).1) ((pipePut r1 ni1 eb1 b1).2.1) false 16).1).length) c4) hsq mh1 rfl rfl one23) ?_
        refine .op ⟨_, rfl, rfl⟩ rfl rfl (fun wq _ => lnA (n := ((pipeGet ((pipePut r1 ni1 eb1 b1).1) ((pipePut r1 ni1 eb1 b1).2.1) false 16).1).length) sl23 rfl) ?_
        refine .op ⟨_, rfl, rfl⟩ rfl rfl (fun wq _ => eqi (k := .i64) (a := ((((pipeGet ((pipePut r1 ni1 eb1 b1).1) ((pipePut r1 ni1 eb1 b1).2.1) false 16).1).length : Nat) : Int)) (b := 0) rfl rfl) ?_
        refine .op trivial rfl rfl (fun wq _ => pt (v := .bool (decide (((((pipeGet ((pipePut r1 ni1 eb1 b1).1) ((pipePut r1 ni1 eb1 b1).2.1) false 16).1).length : Nat) : Int) = 0))) rfl rfl) ?_
        refine .op trivial rfl rfl (fun wq _ => mv (v := .bool (decide (((((pipeGet ((pipePut r1 ni1 eb1 b1).1) ((pipePut r1 ni1 eb1 b1).2.1) false 16).1).length : Nat) : Int) = 0))) rfl) ?_
        refine .nil ?_
        refine aspd (p := ((((pipeGet ((pipePut r1 ni1 eb1 b1).1) ((pipePut r1 ni1 eb1 b1).2.1) false 16).1).length : Nat) : Int) = 0) 80 rfl (fun h11 => ?_) (fun h11 => ?_)
        · refine tk (fuel := 6) (is := [8, 10, 11, 13, 14, 15]) (.cons rfl (.cons rfl (.cons rfl (.cons rfl (.cons rfl (.cons rfl (.nil))))))) (by kernel_rfl) (by kernel_rfl) ⟨_, hs18, memi 2 rfl, memi 5 rfl, trivial⟩ ?_
          refine .op ⟨_, rfl, rfl⟩ rfl rfl (fun wq _ => mv (v := .slice Ag1 (((pipeGet ((pipePut r1 ni1 eb1 b1).1) ((pipePut r1 ni1 eb1 b1).2.1) false 16).2.2.2.1).length) cg1) rfl) ?_
          refine .op ⟨_, rfl, rfl⟩ rfl rfl (fun wq _ => fa 0 fo25_0 rfl) ?_
          refine .op ⟨_, rfl, rfl⟩ rfl rfl (fun wq ⟨Lq, hsq, mh0, mh1, _⟩ => ldm (v := .slice A1 r1.length c1) hsq mh0 rfl rfl one23) ?_
          refine .op ⟨_, rfl, rfl⟩ rfl rfl (fun wq _ => mv (v := .slice Ab1 b1.length cb1) rfl) ?_
          refine .op ⟨_, rfl, rfl⟩ rfl rfl (fun wq _ => mv (v := .int .i64 ((pipePut r1 ni1 eb1 b1).2.2.1)) rfl) ?_
          refine .op ⟨_, rfl, rfl⟩ rfl rfl (fun wq _ => cuhm_ (zs := b1) (((pipePut r1 ni1 eb1 b1).2.2.1).toNat) sl23 rfl (ieq (x := (pipePut r1 ni1 eb1 b1).2.2.1) (by first | (omega) | (have hpo := pipePut_len r1 ni1 eb1 b1; omega))) (by first | (first | omega | (simp; omega)) | (have hpo := pipePut_len r1 ni1 eb1 b1; first | omega | (simp; omega))) (own_cap hs18 1 rfl).1) ?_
          refine .nil ?_
          refine a1 (i := 9) (by kernel_rfl) ?_
          refine one_ rfl ?_
          refine Go.PF.bs hs18 sl23 [] rfl (cs := []) (by kernel_rfl) rfl (by decide) (by decide) ⟨_, rfl, rfl⟩ rfl (fun b_9_9 w15 (hs19 : SH w w15 [] [.own A1 r1.length c1 3 1 (r1.map I), .own Ab1 b1.length cb1 3 1 (b1.map I), .blk b2 25 [.slice A1 r1.length c1, .int .i64 ni1, .bool eb1], .own A4 (((pipeGet ((pipePut r1 ni1 eb1 b1).1) ((pipePut r1 ni1 eb1 b1).2.1) false 16).1).length) c4 3 1 (((pipeGet ((pipePut r1 ni1 eb1 b1).1) ((pipePut r1 ni1 eb1 b1).2.1) false 16).1).map I), .own Ag1 (((pipeGet ((pipePut r1 ni1 eb1 b1).1) ((pipePut r1 ni1 eb1 b1).2.1) false 16).2.2.2.1).length) cg1 3 1 (((pipeGet ((pipePut r1 ni1 eb1 b1).1) ((pipePut r1 ni1 eb1 b1).2.1) false 16).2.2.2.1).map I), .blk b5 25 [.slice A4 (((pipeGet ((pipePut r1 ni1 eb1 b1).1) ((pipePut r1 ni1 eb1 b1).2.1) false 16).1).length) c4, .int .i64 ((pipeGet ((pipePut r1 ni1 eb1 b1).1) ((pipePut r1 ni1 eb1 b1).2.1) false 16).2.1), .bool ((pipeGet ((pipePut r1 ni1 eb1 b1).1) ((pipePut r1 ni1 eb1 b1).2.1) false 16).2.2.1)], .own (some ⟨b_9_9, 0, none⟩) (([] : List Int).length) 0 3 1 (([] : List Int).map I)]) => ?_)
          refine nl (kq ⟨_, hs19, memi 2 rfl, memi 5 rfl, trivial⟩ ?_)
          refine a1 (i := 12) (by kernel_rfl) ?_
          refine one_ rfl ?_
          refine apm (g := I) (ys := ([] : List Int)) (zs := r1) hs19 6 rfl sl23 rfl rfl rfl (hs19.sl0 0 rfl) (fun _ => rfl) (by unfold maxLen; first | (first | omega | (simp; omega)) | (have hpo := pipePut_len r1 ni1 eb1 b1; first | omega | (simp; omega))) (by first | (first | omega | (simp; omega)) | (have hpo := pipePut_len r1 ni1 eb1 b1; first | omega | (simp; omega))) ⟨_, rfl, rfl⟩ rfl (fun A_9_12 c_9_12 w16 (hs20 : SH w w16 [] [.own A1 r1.length c1 3 1 (r1.map I), .own Ab1 b1.length cb1 3 1 (b1.map I), .blk b2 25 [.slice A1 r1.length c1, .int .i64 ni1, .bool eb1], .own A4 (((pipeGet ((pipePut r1 ni1 eb1 b1).1) ((pipePut r1 ni1 eb1 b1).2.1) false 16).1).length) c4 3 1 (((pipeGet ((pipePut r1 ni1 eb1 b1).1) ((pipePut r1 ni1 eb1 b1).2.1) false 16).1).map I), .own Ag1 (((pipeGet ((pipePut r1 ni1 eb1 b1).1) ((pipePut r1 ni1 eb1 b1).2.1) false 16).2.2.2.1).length) cg1 3 1 (((pipeGet ((pipePut r1 ni1 eb1 b1).1) ((pipePut r1 ni1 eb1 b1).2.1) false 16).2.2.2.1).map I), .blk b5 25 [.slice A4 (((pipeGet ((pipePut r1 ni1 eb1 b1).1) ((pipePut r1 ni1 eb1 b1).2.1) false 16).1).length) c4, .int .i64 ((pipeGet ((pipePut r1 ni1 eb1 b1).1) ((pipePut r1 ni1 eb1 b1).2.1) false 16).2.1), .bool ((pipeGet ((pipePut r1 ni1 eb1 b1).1) ((pipePut r1 ni1 eb1 b1).2.1) false 16).2.2.1)], .own A_9_12 r1.length c_9_12 3 1 (r1.map I)]) => ?_)
          refine nl (kq ⟨_, hs20, memi 2 rfl, memi 5 rfl, trivial⟩ ?_)
          refine a1 (i := 16) (by kernel_rfl) ?_
          refine one_ rfl ?_
          refine apm (g := I) (ys := r1) (zs := b1.take (((pipePut r1 ni1 eb1 b1).2.2.1).toNat)) hs20 6 rfl sl23 rfl rfl rfl (Sl.cuthm (hs20.sl0 1 rfl) (by first | (first | omega | (simp; omega)) | (have hpo := pipePut_len r1 ni1 eb1 b1; first | omega | (simp; omega)))) (fun _ => rfl) (by unfold maxLen; first | (first | omega | (simp; omega)) | (have hpo := pipePut_len r1 ni1 eb1 b1; first | omega | (simp; omega))) (by first | (first | omega | (simp; omega)) | (have hpo := pipePut_len r1 ni1 eb1 b1; first | omega | (simp; omega))) ⟨_, rfl, rfl⟩ rfl (fun A_9_16 c_9_16 w17 (hs21 : SH w w17 [] [.own A1 r1.length c1 3 1 (r1.map I), .own Ab1 b1.length cb1 3 1 (b1.map I), .blk b2 25 [.slice A1 r1.length c1, .int .i64 ni1, .bool eb1], .own A4 (((pipeGet ((pipePut r1 ni1 eb1 b1).1) ((pipePut r1 ni1 eb1 b1).2.1) false 16).1).length) c4 3 1 (((pipeGet ((pipePut r1 ni1 eb1 b1).1) ((pipePut r1 ni1 eb1 b1).2.1) false 16).1).map I), .own Ag1 (((pipeGet ((pipePut r1 ni1 eb1 b1).1) ((pipePut r1 ni1 eb1 b1).2.1) false 16).2.2.2.1).length) cg1 3 1 (((pipeGet ((pipePut r1 ni1 eb1 b1).1) ((pipePut r1 ni1 eb1 b1).2.1) false 16).2.2.2.1).map I), .blk b5 25 [.slice A4 (((pipeGet ((pipePut r1 ni1 eb1 b1).1) ((pipePut r1 ni1 eb1 b1).2.1) false 16).1).length) c4, .int .i64 ((pipeGet ((pipePut r1 ni1 eb1 b1).1) ((pipePut r1 ni1 eb1 b1).2.1) false 16).2.1), .bool ((pipeGet ((pipePut r1 ni1 eb1 b1).1) ((pipePut r1 ni1 eb1 b1).2.1) false 16).2.2.1)], .own A_9_16 ((r1 ++ (b1.take (((pipePut r1 ni1 eb1 b1).2.2.1).toNat))).length) c_9_16 3 1 ((r1 ++ (b1.take (((pipePut r1 ni1 eb1 b1).2.2.1).toNat))).map I)]) => ?_)
          refine nl (kq ⟨_, hs21, memi 2 rfl, memi 5 rfl, trivial⟩ ?_)
          refine a1 (i := 17) (by kernel_rfl) ?_
          refine one_ rfl ?_
          refine cl ⟨_, rfl, rfl⟩ rfl (sameBytes (Axs := Ag1) (cxs := cg1) (xs := (pipeGet ((pipePut r1 ni1 eb1 b1).1) ((pipePut r1 ni1 eb1 b1).2.1) false 16).2.2.2.1) (Abs := A_9_16) (cbs := c_9_16) (bs := r1 ++ (b1.take (((pipePut r1 ni1 eb1 b1).2.2.1).toNat))) (w := _) (hxs := (hs21.sl0 4 rfl)) (hbs := (hs21.sl0 6 rfl))) ?_
          rintro _ w18 ⟨rfl, hs22'⟩
          have hs22 : SH w w18 [] [.own A1 r1.length c1 3 1 (r1.map I), .own Ab1 b1.length cb1 3 1 (b1.map I), .blk b2 25 [.slice A1 r1.length c1, .int .i64 ni1, .bool eb1], .own A4 (((pipeGet ((pipePut r1 ni1 eb1 b1).1) ((pipePut r1 ni1 eb1 b1).2.1) false 16).1).length) c4 3 1 (((pipeGet ((pipePut r1 ni1 eb1 b1).1) ((pipePut r1 ni1 eb1 b1).2.1) false 16).1).map I), .own Ag1 (((pipeGet ((pipePut r1 ni1 eb1 b1).1) ((pipePut r1 ni1 eb1 b1).2.1) false 16).2.2.2.1).length) cg1 3 1 (((pipeGet ((pipePut r1 ni1 eb1 b1).1) ((pipePut r1 ni1 eb1 b1).2.1) false 16).2.2.2.1).map I), .blk b5 25 [.slice A4 (((pipeGet ((pipePut r1 ni1 eb1 b1).1) ((pipePut r1 ni1 eb1 b1).2.1) false 16).1).length) c4, .int .i64 ((pipeGet ((pipePut r1 ni1 eb1 b1).1) ((pipePut r1 ni1 eb1 b1).2.1) false 16).2.1), .bool ((pipeGet ((pipePut r1 ni1 eb1 b1).1) ((pipePut r1 ni1 eb1 b1).2.1) false 16).2.2.1)], .own A_9_16 ((r1 ++ (b1.take (((pipePut r1 ni1 eb1 b1).2.2.1).toNat))).length) c_9_16 3 1 ((r1 ++ (b1.take (((pipePut r1 ni1 eb1 b1).2.2.1).toNat))).map I)] := hs21.call0 hs22'
          clear hs22'
          refine nl (kq ⟨_, hs22, memi 2 rfl, memi 5 rfl, trivial⟩ ?_)
          refine tk (fuel := 0) (is := [18, 19]) (.cons rfl (.cons rfl (.nil))) (by kernel_rfl) (by kernel_rfl) ⟨_, hs22, memi 2 rfl, memi 5 rfl, trivial⟩ ?_
          refine .op trivial rfl rfl (fun wq _ => pt (v := .bool (decide (((pipeGet ((pipePut r1 ni1 eb1 b1).1) ((pipePut r1 ni1 eb1 b1).2.1) false 16).2.2.2.1) = (r1 ++ (b1.take (((pipePut r1 ni1 eb1 b1).2.2.1).toNat)))))) rfl rfl) ?_
          refine .op trivial rfl rfl (fun wq _ => asg (v := .bool (decide (((pipeGet ((pipePut r1 ni1 eb1 b1).1) ((pipePut r1 ni1 eb1 b1).2.1) false 16).2.2.2.1) = (r1 ++ (b1.take (((pipePut r1 ni1 eb1 b1).2.2.1).toNat)))))) rfl) ?_
          refine .nil ?_
          refine ad (by kernel_rfl) ?_
          refine nN ?_
          have hs23 : SH w w18 [] [] := hs22.pick [] rfl (by decide)
          refine rt ?_
          refine fret (v := .bool (decide (((pipeGet ((pipePut r1 ni1 eb1 b1).1) ((pipePut r1 ni1 eb1 b1).2.1) false 16).2.2.2.1) = (r1 ++ (b1.take (((pipePut r1 ni1 eb1 b1).2.2.1).toNat)))))) (.tmp .nil) rfl ?_
          have e2 : (decide (((pipeGet ((pipePut r1 ni1 eb1 b1).1) ((pipePut r1 ni1 eb1 b1).2.1) false 16).2.2.2.1) = (r1 ++ (b1.take (((pipePut r1 ni1 eb1 b1).2.2.1).toNat))))) = true := by first | rfl | (simp; done) | (have hx := pipeGet_put (e' := false) (by assumption); simp [hx] at h1 h9 h10 h11 ⊢)
          exact ⟨(congrArg (Value.bool) e2), hs23⟩
        · refine tk (fuel := 0) (is := [8, 9, 10, 11, 12, 13, 14, 15, 16, 17, 18, 19]) (.cons rfl (.cons rfl (.cons rfl (.cons rfl (.cons rfl (.cons rfl (.cons rfl (.cons rfl (.cons rfl (.cons rfl (.cons rfl (.cons rfl (.nil))))))))))))) (by kernel_rfl) (by kernel_rfl) ⟨_, hs18, memi 2 rfl, memi 5 rfl, trivial⟩ ?_
          refine .skip (b := false) rfl rfl rfl rfl rfl ?_
          refine .skip (b := false) rfl rfl rfl rfl rfl ?_
          refine .skip (b := false) rfl rfl rfl rfl rfl ?_
          refine .skip (b := false) rfl rfl rfl rfl rfl ?_
          refine .skip (b := false) rfl rfl rfl rfl rfl ?_
          refine .skip (b := false) rfl rfl rfl rfl rfl ?_
          refine .skip (b := false) rfl rfl rfl rfl rfl ?_
          refine .skip (b := false) rfl rfl rfl rfl rfl ?_
          refine .skip (b := false) rfl rfl rfl rfl rfl ?_
          refine .skip (b := false) rfl rfl rfl rfl rfl ?_
          refine .op trivial rfl rfl (fun wq _ => pf (v := .bool false) rfl rfl) ?_
          refine .op trivial rfl rfl (fun wq _ => asg (v := .bool false) rfl) ?_
          refine .nil ?_
          refine ad (by kernel_rfl) ?_
          refine nN ?_
          have hs24 : SH w w14.drew [] [] := hs18.pick [] rfl (by decide)
          refine rt ?_
          refine fret (v := .bool false) (.tmp .nil) rfl ?_
          have e3 : false = true := by first | rfl | (simp; done) | (have hx := pipeGet_put (e' := false) (by assumption); simp [hx] at h1 h9 h10 h11 ⊢)
          exact ⟨(congrArg (Value.bool) e3), hs24⟩
      · refine tk (fuel := 0) (is := [2, 3, 4, 5, 6, 7, 8, 9, 10, 11, 12, 13, 14, 15, 16, 17, 18, 19]) (.cons rfl (.cons rfl (.cons rfl (.cons rfl (.cons rfl (.cons rfl (.cons rfl (.cons rfl (.cons rfl (.cons rfl (.cons rfl (.cons rfl (.cons rfl (.cons rfl (.cons rfl (.cons rfl (.cons rfl (.cons rfl (.nil))))))))))))))))))) (by kernel_rfl) (by kernel_rfl) ⟨_, hs18, memi 2 rfl, memi 5 rfl, trivial⟩ ?_
        refine .skip (b := false) rfl rfl rfl rfl rfl ?_
        refine .skip (b := false) rfl rfl rfl rfl rfl ?_
        refine .skip (b := false) rfl rfl rfl rfl rfl ?_
        refine .skip (b := false) rfl rfl rfl rfl rfl ?_
        refine .op trivial rfl rfl (fun wq _ => pf (v := .bool false) rfl rfl) ?_
        refine .op trivial rfl rfl (fun wq _ => mv (v := .bool false) rfl) ?_
        refine .skip (b := false) rfl rfl rfl rfl rfl ?_
        refine .skip (b := false) rfl rfl rfl rfl rfl ?_
        refine .skip (b := false) rfl rfl rfl rfl rfl ?_
        refine .skip (b := false) rfl rfl rfl rfl rfl ?_
        refine .skip (b := false) rfl rfl rfl rfl rfl ?_
        refine .skip (b := false) rfl rfl rfl rfl rfl ?_
        refine .skip (b := false) rfl rfl rfl rfl rfl ?_
        refine .skip (b := false) rfl rfl rfl rfl rfl ?_
        refine .skip (b := false) rfl rfl rfl rfl rfl ?_
        refine .skip (b := false) rfl rfl rfl rfl rfl ?_
        refine .op trivial rfl rfl (fun wq _ => pf (v := .bool false) rfl rfl) ?_
        refine .op trivial rfl rfl (fun wq _ => asg (v := .bool false) rfl) ?_
        refine .nil ?_
        refine ad (by kernel_rfl) ?_
        refine nN ?_
        have hs25 : SH w w14.drew [] [] := hs18.pick [] rfl (by decide)
        refine rt ?_
        refine fret (v := .bool false) (.tmp .nil) rfl ?_
        have e4 : false = true := by first | rfl | (simp; done) | (have hx := pipeGet_put (e' := false) (by assumption); simp [hx] at h1 h9 h10 ⊢)
        exact ⟨(congrArg (Value.bool) e4), hs25⟩

end Go.Proofs.Ytgefaejgkcbkpaa
