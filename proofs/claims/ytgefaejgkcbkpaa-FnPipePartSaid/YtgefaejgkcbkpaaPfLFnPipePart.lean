/-
  Part of the proofs over this seat: what each function of the program computes, function by function (the text is written by a program of this hand-in's own).
  Conditions: each theorem states its own.
-/
import Derived.Test.YtgefaejgkcbkpaaPfWalks
namespace Go.Proofs.Ytgefaejgkcbkpaa
open Go.PF
set_option maxRecDepth 100000
set_option linter.unusedSimpArgs false
set_option linter.unusedVariables false

theorem lPipePart {Acs : Option Addr} {ccs : Nat} (cs : List UInt8) (w : World) (hcs : Sl w [] 1 Acs cs.length ccs (cs.map U)) : Does Try.prog 3 [.slice Acs cs.length ccs] w (fun v w' => v = .bool true ∧ SH w w' [] []) := by
  refine fn_enter (N := 48) Try.func3 rfl (by kernel_rfl) rfl rfl rfl ?_
  have hs0 : SH w w [] [] := SH.refl w []
  have hcs_m : cs.length ≤ 9223372036854775807 := Nat.le_trans hcs.cap hcs.capMax
  refine sq ?_
  refine rg ?_
  refine q trivial rfl rfl (asg (v := .bool false) rfl) ?_
  refine nl ?_
  refine nN ?_
  refine sq ?_
  refine sq ?_
  refine rg ?_
  refine q trivial rfl rfl (mv (v := .slice Acs cs.length ccs) rfl) ?_
  refine q trivial rfl rfl (lnA (n := cs.length) sl22 rfl) ?_
  refine q trivial rfl rfl (gtr (k := .i64) (a := ((cs.length : Nat) : Int)) (b := 1048576) rfl rfl) ?_
  refine nl ?_
  refine nN ?_
  refine cdd (p := (1048576 : Int) < ((cs.length : Nat) : Int)) rfl (fun h1 => ?_) (fun h1 => ?_)
  · refine sq ?_
    refine rg ?_
    refine q trivial rfl rfl (asg (v := .bool true) rfl) ?_
    refine nl ?_
    refine nN ?_
    refine rt (tR ?_)
    refine fret (v := .bool true) (.tmp .nil) rfl ?_
    exact ⟨rfl, hs0⟩
  · refine sk ?_
    refine nN ?_
    refine sq ?_
    refine rg ?_
    refine q trivial rfl rfl (mv (v := .slice Acs cs.length ccs) rfl) ?_
    refine cl trivial rfl (drawPipeValid (Acs := Acs) (ccs := ccs) (cs := cs) (w := _) (hcs := (hcs.up0 hs0))) ?_
    rintro _ w1 ⟨A1, c1, r1, ni1, eb1, rfl, p1, hs1'⟩
    have hs1 : SH w w1 [] [.own A1 r1.length c1 3 1 (r1.map I)] := hs0.call0 hs1'
    clear hs1'
    refine al (v := .agg #[.slice none 0 0, .int .i64 0, .bool false]) (cs := [.slice none 0 0, .int .i64 0, .bool false]) hs1 tz25 rfl trivial rfl (fun b1 w2 (hs2 : SH w w2 [] [.own A1 r1.length c1 3 1 (r1.map I), .blk b1 25 [.slice none 0 0, .int .i64 0, .bool false]]) => ?_)
    refine stg (vs := [.slice A1 r1.length c1, .int .i64 ni1, .bool eb1]) hs2 1 rfl rfl rfl rfl rfl rfl rfl ag25 trivial (fun w3 (hs3 : SH w w3 [] [.own A1 r1.length c1 3 1 (r1.map I), .blk b1 25 [.slice A1 r1.length c1, .int .i64 ni1, .bool eb1]]) => ?_)
    refine nl ?_
    refine nN ?_
    refine sq ?_
    refine rg ?_
    refine q trivial rfl rfl (ldg (vs := [.slice A1 r1.length c1, .int .i64 ni1, .bool eb1]) hs3 1 rfl rfl rfl rfl ag25) ?_
    refine cl trivial rfl (iPipeValid (Axs := A1) (cxs := c1) (xs := r1) (ni := ni1) (eb := eb1) (w := _) (hxs := (hs3.sl0 0 rfl))) ?_
    rintro _ w4 ⟨rfl, hs4'⟩
    have hs4 : SH w w4 [] [.own A1 r1.length c1 3 1 (r1.map I), .blk b1 25 [.slice A1 r1.length c1, .int .i64 ni1, .bool eb1]] := hs3.call0 hs4'
    clear hs4'
    refine q trivial rfl rfl (asg (v := .bool (pipeOk r1 ni1)) rfl) ?_
    refine nl ?_
    refine nN ?_
    refine sq ?_
    refine rg ?_
    refine q trivial rfl rfl (ldg (vs := [.slice A1 r1.length c1, .int .i64 ni1, .bool eb1]) hs4 1 rfl rfl rfl rfl ag25) ?_
    refine cl trivial rfl (sPipeValid (Axs := A1) (cxs := c1) (xs := r1) (ni := ni1) (eb := eb1) (w := _) (hxs := (hs4.sl0 0 rfl))) ?_
    rintro _ w5 ⟨rfl, hs5'⟩
    have hs5 : SH w w5 [] [.own A1 r1.length c1 3 1 (r1.map I), .blk b1 25 [.slice A1 r1.length c1, .int .i64 ni1, .bool eb1]] := hs4.call0 hs5'
    clear hs5'
    refine q trivial rfl rfl (asg (v := .bool (pipeOk r1 ni1)) rfl) ?_
    refine nl ?_
    refine nN ?_
    refine sq ?_
    refine sq ?_
    refine rg ?_
    refine q trivial rfl rfl (mv (v := .bool (pipeOk r1 ni1)) rfl) ?_
    refine q trivial rfl rfl (mv (v := .bool (pipeOk r1 ni1)) rfl) ?_
    refine q trivial rfl rfl (neb (a := (pipeOk r1 ni1)) (b := (pipeOk r1 ni1)) tb4 rfl rfl) ?_
    refine q trivial rfl rfl (mv (v := .bool (decide ((pipeOk r1 ni1) ≠ (pipeOk r1 ni1)))) rfl) ?_
    refine spd (p := (pipeOk r1 ni1) ≠ (pipeOk r1 ni1)) 20 rfl (fun h2 => absurd h2 (by exact fun h => h rfl)) (fun h2 => ?_)
    refine q ⟨_, rfl, rfl⟩ rfl rfl (mv (v := .bool (pipeOk r1 ni1)) rfl) ?_
    refine q ⟨_, rfl, rfl⟩ rfl rfl (nt (b := pipeOk r1 ni1) rfl) ?_
    refine q trivial rfl rfl (pf (v := .bool (!(pipeOk r1 ni1))) rfl rfl) ?_
    refine nl ?_
    refine nN ?_
    refine cd (b := !(pipeOk r1 ni1)) rfl (fun h3 => ?_) (fun h3 => ?_)
    · have h4 : (pipeOk r1 ni1) = false := by simpa using h3
      refine sq ?_
      refine rg ?_
      refine q trivial rfl rfl (mv (v := .bool (pipeOk r1 ni1)) rfl) ?_
      refine q trivial rfl rfl (mv (v := .bool (pipeOk r1 ni1)) rfl) ?_
      refine q trivial rfl rfl (eqb (a := (pipeOk r1 ni1)) (b := (pipeOk r1 ni1)) tb4 rfl rfl) ?_
      refine q trivial rfl rfl (asg (v := .bool (decide ((pipeOk r1 ni1) = (pipeOk r1 ni1)))) rfl) ?_
      refine nl ?_
      refine nN ?_
      refine rt (tR ?_)
      refine fret (v := .bool (decide ((pipeOk r1 ni1) = (pipeOk r1 ni1)))) (.tmp .nil) rfl ?_
      have e1 : (decide ((pipeOk r1 ni1) = (pipeOk r1 ni1))) = true := by first | rfl | (simp; done) | (refine pipe_part1 _ (by rw [List.length_append, List.length_replicate]; omega)) | (exfalso; exact pipe_part2 (by assumption))
      exact ⟨(congrArg (Value.bool) e1), (hs5.pick [] rfl (by decide))⟩
    · have h5 : (pipeOk r1 ni1) = true := by simpa using h3
      refine sk ?_
      refine nN ?_
      refine sq ?_
      refine rg ?_
      refine q trivial rfl rfl (ldg (vs := [.slice A1 r1.length c1, .int .i64 ni1, .bool eb1]) hs5 1 rfl rfl rfl rfl ag25) ?_
      refine al (v := .agg #[.slice none 0 0, .int .i64 0, .bool false]) (cs := [.slice none 0 0, .int .i64 0, .bool false]) hs5 tz25 rfl trivial rfl (fun b2 w6 (hs6 : SH w w6 [] [.own A1 r1.length c1 3 1 (r1.map I), .blk b1 25 [.slice A1 r1.length c1, .int .i64 ni1, .bool eb1], .blk b2 25 [.slice none 0 0, .int .i64 0, .bool false]]) => ?_)
      refine stg (vs := [.slice A1 r1.length c1, .int .i64 ni1, .bool eb1]) hs6 2 rfl rfl rfl rfl rfl rfl rfl ag25 trivial (fun w7 (hs7 : SH w w7 [] [.own A1 r1.length c1 3 1 (r1.map I), .blk b1 25 [.slice A1 r1.length c1, .int .i64 ni1, .bool eb1], .blk b2 25 [.slice A1 r1.length c1, .int .i64 ni1, .bool eb1]]) => ?_)
      refine nl ?_
      refine nN ?_
      refine sq ?_
      refine rg ?_
      refine q trivial rfl rfl (fa 0 fo25_0 rfl) ?_
      refine q trivial rfl rfl (ld (v := .slice A1 r1.length c1) hs7 1 rfl rfl rfl one23) ?_
      refine q trivial rfl rfl (lnA (n := r1.length) sl23 rfl) ?_
      refine q trivial rfl rfl (sub (a := ((r1.length : Nat) : Int)) (b := 1) rfl rfl (by exact ⟨by omega, by omega⟩)) ?_
      refine q trivial rfl rfl (fa 1 fo25_1 rfl) ?_
      refine st (v := .int .i64 (((r1.length : Nat) : Int) - 1)) hs7 2 rfl rfl rfl rfl rfl one3 trivial (fun w8 (hs8 : SH w w8 [] [.own A1 r1.length c1 3 1 (r1.map I), .blk b1 25 [.slice A1 r1.length c1, .int .i64 ni1, .bool eb1], .blk b2 25 [.slice A1 r1.length c1, .int .i64 (((r1.length : Nat) : Int) - 1), .bool eb1]]) => ?_)
      refine nl ?_
      refine nN ?_
      refine sq ?_
      refine rg ?_
      refine q trivial rfl rfl (ldg (vs := [.slice A1 r1.length c1, .int .i64 ni1, .bool eb1]) hs8 1 rfl rfl rfl rfl ag25) ?_
      refine al (v := .agg #[.slice none 0 0, .int .i64 0, .bool false]) (cs := [.slice none 0 0, .int .i64 0, .bool false]) hs8 tz25 rfl trivial rfl (fun b3 w9 (hs9 : SH w w9 [] [.own A1 r1.length c1 3 1 (r1.map I), .blk b1 25 [.slice A1 r1.length c1, .int .i64 ni1, .bool eb1], .blk b2 25 [.slice A1 r1.length c1, .int .i64 (((r1.length : Nat) : Int) - 1), .bool eb1], .blk b3 25 [.slice none 0 0, .int .i64 0, .bool false]]) => ?_)
      refine stg (vs := [.slice A1 r1.length c1, .int .i64 ni1, .bool eb1]) hs9 3 rfl rfl rfl rfl rfl rfl rfl ag25 trivial (fun w10 (hs10 : SH w w10 [] [.own A1 r1.length c1 3 1 (r1.map I), .blk b1 25 [.slice A1 r1.length c1, .int .i64 ni1, .bool eb1], .blk b2 25 [.slice A1 r1.length c1, .int .i64 (((r1.length : Nat) : Int) - 1), .bool eb1], .blk b3 25 [.slice A1 r1.length c1, .int .i64 ni1, .bool eb1]]) => ?_)
      refine nl ?_
      refine nN ?_
      refine sq ?_
      refine rg ?_
      refine Go.PF.bs hs10 sl23 [] rfl (cs := []) (by kernel_rfl) rfl (by decide) (by decide) trivial rfl (fun b4 w11 (hs11 : SH w w11 [] [.own A1 r1.length c1 3 1 (r1.map I), .blk b1 25 [.slice A1 r1.length c1, .int .i64 ni1, .bool eb1], .blk b2 25 [.slice A1 r1.length c1, .int .i64 (((r1.length : Nat) : Int) - 1), .bool eb1], .blk b3 25 [.slice A1 r1.length c1, .int .i64 ni1, .bool eb1], .own (some ⟨b4, 0, none⟩) (([] : List Int).length) 0 3 1 (([] : List Int).map I)]) => ?_)
      refine q trivial rfl rfl (fa 0 fo25_0 rfl) ?_
      refine q trivial rfl rfl (ld (v := .slice A1 r1.length c1) hs11 1 rfl rfl rfl one23) ?_
      refine apm (g := I) (ys := ([] : List Int)) (zs := r1) hs11 4 rfl sl23 rfl rfl rfl (hs11.sl0 0 rfl) (fun _ => rfl) (by unfold maxLen; first | omega | (simp; omega)) (by first | omega | (simp; omega)) trivial rfl (fun A2 c2 w12 (hs12 : SH w w12 [] [.own A1 r1.length c1 3 1 (r1.map I), .blk b1 25 [.slice A1 r1.length c1, .int .i64 ni1, .bool eb1], .blk b2 25 [.slice A1 r1.length c1, .int .i64 (((r1.length : Nat) : Int) - 1), .bool eb1], .blk b3 25 [.slice A1 r1.length c1, .int .i64 ni1, .bool eb1], .own A2 r1.length c2 3 1 (r1.map I)]) => ?_)
      refine apzo (g := I) (zz := (0 : Int)) (ys := r1) (m := 17) hs12 4 rfl sl23 rfl rfl ti3 rfl rfl (by first | omega | (simp; omega)) (by unfold maxLen; first | omega | (simp; omega)) (by first | omega | (simp; omega)) trivial rfl (fun A3 c3 w13 (hs13 : SH w w13 [] [.own A1 r1.length c1 3 1 (r1.map I), .blk b1 25 [.slice A1 r1.length c1, .int .i64 ni1, .bool eb1], .blk b2 25 [.slice A1 r1.length c1, .int .i64 (((r1.length : Nat) : Int) - 1), .bool eb1], .blk b3 25 [.slice A1 r1.length c1, .int .i64 ni1, .bool eb1], .own A3 ((r1 ++ List.replicate 17 (0 : Int)).length) c3 3 1 ((r1 ++ List.replicate 17 (0 : Int)).map I)]) => ?_)
      refine q trivial rfl rfl (fa 0 fo25_0 rfl) ?_
      refine st (v := .slice A3 ((r1 ++ List.replicate 17 (0 : Int)).length) c3) hs13 3 rfl rfl rfl rfl rfl one23 trivial (fun w14 (hs14 : SH w w14 [] [.own A1 r1.length c1 3 1 (r1.map I), .blk b1 25 [.slice A1 r1.length c1, .int .i64 ni1, .bool eb1], .blk b2 25 [.slice A1 r1.length c1, .int .i64 (((r1.length : Nat) : Int) - 1), .bool eb1], .own A3 ((r1 ++ List.replicate 17 (0 : Int)).length) c3 3 1 ((r1 ++ List.replicate 17 (0 : Int)).map I), .blk b3 25 [.slice A3 ((r1 ++ List.replicate 17 (0 : Int)).length) c3, .int .i64 ni1, .bool eb1]]) => ?_)
      refine nl ?_
      refine nN ?_
      refine sq ?_
      refine rg ?_
      refine q trivial rfl rfl (ldg (vs := [.slice A1 r1.length c1, .int .i64 (((r1.length : Nat) : Int) - 1), .bool eb1]) hs14 2 rfl rfl rfl rfl ag25) ?_
      refine cl trivial rfl (iPipeValid (Axs := A1) (cxs := c1) (xs := r1) (ni := ((r1.length : Nat) : Int) - 1) (eb := eb1) (w := _) (hxs := (hs14.sl0 0 rfl))) ?_
      rintro _ w15 ⟨rfl, hs15'⟩
      have hs15 : SH w w15 [] [.own A1 r1.length c1 3 1 (r1.map I), .blk b1 25 [.slice A1 r1.length c1, .int .i64 ni1, .bool eb1], .blk b2 25 [.slice A1 r1.length c1, .int .i64 (((r1.length : Nat) : Int) - 1), .bool eb1], .own A3 ((r1 ++ List.replicate 17 (0 : Int)).length) c3 3 1 ((r1 ++ List.replicate 17 (0 : Int)).map I), .blk b3 25 [.slice A3 ((r1 ++ List.replicate 17 (0 : Int)).length) c3, .int .i64 ni1, .bool eb1]] := hs14.call0 hs15'
      clear hs15'
      refine q trivial rfl rfl (nt (b := pipeOk r1 (((r1.length : Nat) : Int) - 1)) rfl) ?_
      refine q trivial rfl rfl (mv (v := .bool (!(pipeOk r1 (((r1.length : Nat) : Int) - 1)))) rfl) ?_
      refine spl (b := !(pipeOk r1 (((r1.length : Nat) : Int) - 1))) 43 rfl (fun h6 => ?_) (fun h6 => ?_)
      · have h7 : (pipeOk r1 (((r1.length : Nat) : Int) - 1)) = false := by simpa using h6
        refine q ⟨_, rfl, rfl⟩ rfl rfl (ldg (vs := [.slice A3 ((r1 ++ List.replicate 17 (0 : Int)).length) c3, .int .i64 ni1, .bool eb1]) hs15 4 rfl rfl rfl rfl ag25) ?_
        refine cl ⟨_, rfl, rfl⟩ rfl (iPipeValid (Axs := A3) (cxs := c3) (xs := r1 ++ List.replicate 17 (0 : Int)) (ni := ni1) (eb := eb1) (w := _) (hxs := (hs15.sl0 3 rfl))) ?_
        rintro _ w16 ⟨rfl, hs16'⟩
        have hs16 : SH w w16 [] [.own A1 r1.length c1 3 1 (r1.map I), .blk b1 25 [.slice A1 r1.length c1, .int .i64 ni1, .bool eb1], .blk b2 25 [.slice A1 r1.length c1, .int .i64 (((r1.length : Nat) : Int) - 1), .bool eb1], .own A3 ((r1 ++ List.replicate 17 (0 : Int)).length) c3 3 1 ((r1 ++ List.replicate 17 (0 : Int)).map I), .blk b3 25 [.slice A3 ((r1 ++ List.replicate 17 (0 : Int)).length) c3, .int .i64 ni1, .bool eb1]] := hs15.call0 hs16'
        clear hs16'
        refine q ⟨_, rfl, rfl⟩ rfl rfl (nt (b := pipeOk (r1 ++ List.replicate 17 (0 : Int)) ni1) rfl) ?_
        refine q trivial rfl rfl (pt (v := .bool (!(pipeOk (r1 ++ List.replicate 17 (0 : Int)) ni1))) rfl rfl) ?_
        refine q trivial rfl rfl (asg (v := .bool (!(pipeOk (r1 ++ List.replicate 17 (0 : Int)) ni1))) rfl) ?_
        refine nl ?_
        refine nN ?_
        have hs17 : SH w w16 [] [] := hs16.pick [] rfl (by decide)
        refine rt ?_
        refine fret (v := .bool (!(pipeOk (r1 ++ List.replicate 17 (0 : Int)) ni1))) (.tmp .nil) rfl ?_
        have e2 : (!(pipeOk (r1 ++ List.replicate 17 (0 : Int)) ni1)) = true := by first | rfl | (simp; done) | (refine pipe_part1 _ (by rw [List.length_append, List.length_replicate]; omega)) | (exfalso; exact pipe_part2 (by assumption))
        exact ⟨(congrArg (Value.bool) e2), hs17⟩
      · have h8 : (pipeOk r1 (((r1.length : Nat) : Int) - 1)) = true := by simpa using h6
        refine gk false rfl rfl rfl rfl rfl ?_
        refine gk false rfl rfl rfl rfl rfl ?_
        refine gk false rfl rfl rfl rfl rfl ?_
        refine q trivial rfl rfl (pf (v := .bool false) rfl rfl) ?_
        refine q trivial rfl rfl (asg (v := .bool false) rfl) ?_
        refine nl ?_
        refine nN ?_
        have hs18 : SH w w15 [] [] := hs15.pick [] rfl (by decide)
        refine rt ?_
        refine fret (v := .bool false) (.tmp .nil) rfl ?_
        have e3 : false = true := by first | rfl | (simp; done) | (refine pipe_part1 _ (by rw [List.length_append, List.length_replicate]; omega)) | (exfalso; exact pipe_part2 (by assumption))
        exact ⟨(congrArg (Value.bool) e3), hs18⟩

end Go.Proofs.Ytgefaejgkcbkpaa
