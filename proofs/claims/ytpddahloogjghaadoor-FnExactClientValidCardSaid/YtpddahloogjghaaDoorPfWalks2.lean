/-
  Part of the proofs over this seat: what each function of the program computes, function by function (the text is written by a program of this hand-in's own).
  Conditions: each theorem states its own.
-/
import Derived.Test.YtpddahloogjghaaDoorPfWalks
namespace Go.Proofs.YtpddahloogjghaaDoor
open Go.PF
set_option maxRecDepth 100000
set_option linter.unusedSimpArgs false
set_option linter.unusedVariables false

theorem eqAddress (ka : Int) {Aqa : Option Addr} {cqa : Nat} (qa : List Int) (na : List UInt8) (pa : Int) (kb : Int) {Aqb : Option Addr} {cqb : Nat} (qb : List Int) (nb : List UInt8) (pb : Int) (w : World) (hqa : Sl w [] 1 Aqa qa.length cqa (qa.map I)) (hqb : Sl w [] 1 Aqb qb.length cqb (qb.map I)) : Does Tryd.prog 42 [.agg #[.int .i64 ka, .slice Aqa qa.length cqa, Str na, .int .i64 pa], .agg #[.int .i64 kb, .slice Aqb qb.length cqb, Str nb, .int .i64 pb]] w (fun v w' => v = .bool (decide (ka = kb ∧ qa = qb ∧ na = nb ∧ pa = pb)) ∧ SH w w' [] []) := by
  refine fn_enter (N := 26) Tryd.func42 rfl (by kernel_rfl) rfl rfl rfl ?_
  have hs0 : SH w w [] [] := SH.refl w []
  have hqa_m : qa.length ≤ 9223372036854775807 := Nat.le_trans hqa.cap hqa.capMax
  have hqb_m : qb.length ≤ 9223372036854775807 := Nat.le_trans hqb.cap hqb.capMax
  refine sq ?_
  refine rg ?_
  refine bx (v := .agg #[.int .i64 ka, .slice Aqa qa.length cqa, Str na, .int .i64 pa]) (cs := [.int .i64 ka, .slice Aqa qa.length cqa, Str na, .int .i64 pa]) hs0 rfl rfl trivial rfl (fun b1 w1 (hs1 : SH w w1 [] [.blk b1 27 [.int .i64 ka, .slice Aqa qa.length cqa, Str na, .int .i64 pa]]) => ?_)
  refine bx (v := .agg #[.int .i64 kb, .slice Aqb qb.length cqb, Str nb, .int .i64 pb]) (cs := [.int .i64 kb, .slice Aqb qb.length cqb, Str nb, .int .i64 pb]) hs1 rfl rfl trivial rfl (fun b2 w2 (hs2 : SH w w2 [] [.blk b1 27 [.int .i64 ka, .slice Aqa qa.length cqa, Str na, .int .i64 pa], .blk b2 27 [.int .i64 kb, .slice Aqb qb.length cqb, Str nb, .int .i64 pb]]) => ?_)
  refine q trivial rfl rfl (asg (v := .bool false) rfl) ?_
  refine nl ?_
  refine nN ?_
  refine sq ?_
  refine sq ?_
  refine rg ?_
  refine q trivial rfl rfl (fa 0 fo27_0 rfl) ?_
  refine q trivial rfl rfl (ld (v := .int .i64 ka) hs2 0 rfl rfl rfl one3) ?_
  refine q trivial rfl rfl (fa 0 fo27_0 rfl) ?_
  refine q trivial rfl rfl (ld (v := .int .i64 kb) hs2 1 rfl rfl rfl one3) ?_
  refine q trivial rfl rfl (nei (k := .i64) (a := ka) (b := kb) rfl rfl) ?_
  refine nl ?_
  refine nN ?_
  refine cdd (p := ka ≠ kb) rfl (fun h1 => ?_) (fun h1 => ?_)
  · refine sq ?_
    refine rg ?_
    refine q trivial rfl rfl (asg (v := .bool false) rfl) ?_
    refine nl ?_
    refine nN ?_
    refine rt (tR ?_)
    refine fret (v := .bool false) (.tmp .nil) rfl ?_
    have e1 : false = (decide (ka = kb ∧ qa = qb ∧ na = nb ∧ pa = pb)) := by simp [h1] <;> simp_all
    exact ⟨(congrArg (Value.bool) e1), (hs2.pick [] rfl (by decide))⟩
  · refine sk ?_
    refine nN ?_
    refine sq ?_
    refine sq ?_
    refine rg ?_
    refine q trivial rfl rfl (fa 1 fo27_1 rfl) ?_
    refine q trivial rfl rfl (ld (v := .slice Aqa qa.length cqa) hs2 0 rfl rfl rfl one23) ?_
    refine q trivial rfl rfl (fa 1 fo27_1 rfl) ?_
    refine q trivial rfl rfl (ld (v := .slice Aqb qb.length cqb) hs2 1 rfl rfl rfl one23) ?_
    refine cl trivial rfl (eqIntS (Axs := Aqa) (cxs := cqa) (xs := qa) (Abs := Aqb) (cbs := cqb) (bs := qb) (w := _) (hxs := (hqa.up0 hs2)) (hbs := (hqb.up0 hs2))) ?_
    rintro _ w3 ⟨rfl, hs3'⟩
    have hs3 : SH w w3 [] [.blk b1 27 [.int .i64 ka, .slice Aqa qa.length cqa, Str na, .int .i64 pa], .blk b2 27 [.int .i64 kb, .slice Aqb qb.length cqb, Str nb, .int .i64 pb]] := hs2.call0 hs3'
    clear hs3'
    refine q trivial rfl rfl (nd (p := qa = qb) rfl) ?_
    refine nl ?_
    refine nN ?_
    refine cdd (p := ¬ (qa = qb)) rfl (fun h2 => ?_) (fun h2 => ?_)
    · refine sq ?_
      refine rg ?_
      refine q trivial rfl rfl (asg (v := .bool false) rfl) ?_
      refine nl ?_
      refine nN ?_
      refine rt (tR ?_)
      refine fret (v := .bool false) (.tmp .nil) rfl ?_
      have e2 : false = (decide (ka = kb ∧ qa = qb ∧ na = nb ∧ pa = pb)) := by simp [h1, h2] <;> simp_all
      exact ⟨(congrArg (Value.bool) e2), (hs3.pick [] rfl (by decide))⟩
    · refine sk ?_
      refine nN ?_
      refine sq ?_
      refine sq ?_
      refine rg ?_
      refine q trivial rfl rfl (fa 2 fo27_2 rfl) ?_
      refine q trivial rfl rfl (ld (v := Str na) hs3 0 rfl rfl rfl one9) ?_
      refine q trivial rfl rfl (fa 2 fo27_2 rfl) ?_
      refine q trivial rfl rfl (ld (v := Str nb) hs3 1 rfl rfl rfl one9) ?_
      refine q trivial rfl rfl (nes (l := na) (m := nb) rfl rfl) ?_
      refine nl ?_
      refine nN ?_
      refine cdd (p := na ≠ nb) rfl (fun h3 => ?_) (fun h3 => ?_)
      · refine sq ?_
        refine rg ?_
        refine q trivial rfl rfl (asg (v := .bool false) rfl) ?_
        refine nl ?_
        refine nN ?_
        refine rt (tR ?_)
        refine fret (v := .bool false) (.tmp .nil) rfl ?_
        have e3 : false = (decide (ka = kb ∧ qa = qb ∧ na = nb ∧ pa = pb)) := by simp [h1, h2, h3] <;> simp_all
        exact ⟨(congrArg (Value.bool) e3), (hs3.pick [] rfl (by decide))⟩
      · refine sk ?_
        refine nN ?_
        refine sq ?_
        refine sq ?_
        refine rg ?_
        refine q trivial rfl rfl (fa 3 fo27_3 rfl) ?_
        refine q trivial rfl rfl (ld (v := .int .i64 pa) hs3 0 rfl rfl rfl one3) ?_
        refine q trivial rfl rfl (fa 3 fo27_3 rfl) ?_
        refine q trivial rfl rfl (ld (v := .int .i64 pb) hs3 1 rfl rfl rfl one3) ?_
        refine q trivial rfl rfl (nei (k := .i64) (a := pa) (b := pb) rfl rfl) ?_
        refine nl ?_
        refine nN ?_
        refine cdd (p := pa ≠ pb) rfl (fun h4 => ?_) (fun h4 => ?_)
        · refine sq ?_
          refine rg ?_
          refine q trivial rfl rfl (asg (v := .bool false) rfl) ?_
          refine nl ?_
          refine nN ?_
          refine rt (tR ?_)
          refine fret (v := .bool false) (.tmp .nil) rfl ?_
          have e4 : false = (decide (ka = kb ∧ qa = qb ∧ na = nb ∧ pa = pb)) := by simp [h1, h2, h3, h4] <;> simp_all
          exact ⟨(congrArg (Value.bool) e4), (hs3.pick [] rfl (by decide))⟩
        · refine sk ?_
          refine nN ?_
          refine sq ?_
          refine rg ?_
          refine q trivial rfl rfl (asg (v := .bool true) rfl) ?_
          refine nl ?_
          refine nN ?_
          refine rt ?_
          refine fret (v := .bool true) (.tmp .nil) rfl ?_
          have e5 : true = (decide (ka = kb ∧ qa = qb ∧ na = nb ∧ pa = pb)) := by simp [h1, h2, h3, h4] <;> simp_all
          exact ⟨(congrArg (Value.bool) e5), (hs3.pick [] rfl (by decide))⟩

theorem eqClient {Ama : Option Addr} {cma : Nat} (ma : List Int) (ua : List UInt8) (wa : List UInt8) (ka : Int) {Aqa : Option Addr} {cqa : Nat} (qa : List Int) (na : List UInt8) (pa : Int) {Amb : Option Addr} {cmb : Nat} (mb : List Int) (ub : List UInt8) (wb : List UInt8) (kb : Int) {Aqb : Option Addr} {cqb : Nat} (qb : List Int) (nb : List UInt8) (pb : Int) (w : World) (hma : Sl w [] 1 Ama ma.length cma (ma.map I)) (hqa : Sl w [] 1 Aqa qa.length cqa (qa.map I)) (hmb : Sl w [] 1 Amb mb.length cmb (mb.map I)) (hqb : Sl w [] 1 Aqb qb.length cqb (qb.map I)) : Does Tryd.prog 13 [.agg #[.slice Ama ma.length cma, Str ua, Str wa, .int .i64 ka, .slice Aqa qa.length cqa, Str na, .int .i64 pa], .agg #[.slice Amb mb.length cmb, Str ub, Str wb, .int .i64 kb, .slice Aqb qb.length cqb, Str nb, .int .i64 pb]] w (fun v w' => v = .bool (decide (ma = mb ∧ (ua = ub ∧ wa = wb) ∧ (ka = kb ∧ qa = qb ∧ na = nb ∧ pa = pb))) ∧ SH w w' [] []) := by
  refine fn_enter (N := 23) Tryd.func13 rfl (by kernel_rfl) rfl rfl rfl ?_
  have hs0 : SH w w [] [] := SH.refl w []
  have hma_m : ma.length ≤ 9223372036854775807 := Nat.le_trans hma.cap hma.capMax
  have hqa_m : qa.length ≤ 9223372036854775807 := Nat.le_trans hqa.cap hqa.capMax
  have hmb_m : mb.length ≤ 9223372036854775807 := Nat.le_trans hmb.cap hmb.capMax
  have hqb_m : qb.length ≤ 9223372036854775807 := Nat.le_trans hqb.cap hqb.capMax
  refine sq ?_
  refine rg ?_
  refine bx (v := .agg #[.slice Ama ma.length cma, Str ua, Str wa, .int .i64 ka, .slice Aqa qa.length cqa, Str na, .int .i64 pa]) (cs := [.slice Ama ma.length cma, Str ua, Str wa, .int .i64 ka, .slice Aqa qa.length cqa, Str na, .int .i64 pa]) hs0 rfl rfl trivial rfl (fun b1 w1 (hs1 : SH w w1 [] [.blk b1 29 [.slice Ama ma.length cma, Str ua, Str wa, .int .i64 ka, .slice Aqa qa.length cqa, Str na, .int .i64 pa]]) => ?_)
  refine bx (v := .agg #[.slice Amb mb.length cmb, Str ub, Str wb, .int .i64 kb, .slice Aqb qb.length cqb, Str nb, .int .i64 pb]) (cs := [.slice Amb mb.length cmb, Str ub, Str wb, .int .i64 kb, .slice Aqb qb.length cqb, Str nb, .int .i64 pb]) hs1 rfl rfl trivial rfl (fun b2 w2 (hs2 : SH w w2 [] [.blk b1 29 [.slice Ama ma.length cma, Str ua, Str wa, .int .i64 ka, .slice Aqa qa.length cqa, Str na, .int .i64 pa], .blk b2 29 [.slice Amb mb.length cmb, Str ub, Str wb, .int .i64 kb, .slice Aqb qb.length cqb, Str nb, .int .i64 pb]]) => ?_)
  refine q trivial rfl rfl (asg (v := .bool false) rfl) ?_
  refine nl ?_
  refine nN ?_
  refine sq ?_
  refine sq ?_
  refine rg ?_
  refine q trivial rfl rfl (fa 0 fo29_0 rfl) ?_
  refine q trivial rfl rfl (ld (v := .slice Ama ma.length cma) hs2 0 rfl rfl rfl one23) ?_
  refine q trivial rfl rfl (fa 0 fo29_0 rfl) ?_
  refine q trivial rfl rfl (ld (v := .slice Amb mb.length cmb) hs2 1 rfl rfl rfl one23) ?_
  refine cl trivial rfl (eqIntS (Axs := Ama) (cxs := cma) (xs := ma) (Abs := Amb) (cbs := cmb) (bs := mb) (w := _) (hxs := (hma.up0 hs2)) (hbs := (hmb.up0 hs2))) ?_
  rintro _ w3 ⟨rfl, hs3'⟩
  have hs3 : SH w w3 [] [.blk b1 29 [.slice Ama ma.length cma, Str ua, Str wa, .int .i64 ka, .slice Aqa qa.length cqa, Str na, .int .i64 pa], .blk b2 29 [.slice Amb mb.length cmb, Str ub, Str wb, .int .i64 kb, .slice Aqb qb.length cqb, Str nb, .int .i64 pb]] := hs2.call0 hs3'
  clear hs3'
  refine q trivial rfl rfl (nd (p := ma = mb) rfl) ?_
  refine nl ?_
  refine nN ?_
  refine cdd (p := ¬ (ma = mb)) rfl (fun h1 => ?_) (fun h1 => ?_)
  · refine sq ?_
    refine rg ?_
    refine q trivial rfl rfl (asg (v := .bool false) rfl) ?_
    refine nl ?_
    refine nN ?_
    refine rt (tR ?_)
    refine fret (v := .bool false) (.tmp .nil) rfl ?_
    have e1 : false = (decide (ma = mb ∧ (ua = ub ∧ wa = wb) ∧ (ka = kb ∧ qa = qb ∧ na = nb ∧ pa = pb))) := by simp [h1] <;> simp_all
    exact ⟨(congrArg (Value.bool) e1), (hs3.pick [] rfl (by decide))⟩
  · refine sk ?_
    refine nN ?_
    refine sq ?_
    refine sq ?_
    refine rg ?_
    refine q trivial rfl rfl (fa 1 fo29_1 rfl) ?_
    refine q trivial rfl rfl (ldg (vs := [Str ua, Str wa]) hs3 0 rfl rfl rfl rfl ag25) ?_
    refine q trivial rfl rfl (fa 1 fo29_1 rfl) ?_
    refine q trivial rfl rfl (ldg (vs := [Str ub, Str wb]) hs3 1 rfl rfl rfl rfl ag25) ?_
    refine cl trivial rfl (eqLogin (u1 := ua) (p1 := wa) (u2 := ub) (p2 := wb) (w := _)) ?_
    rintro _ w4 ⟨rfl, hs4'⟩
    have hs4 : SH w w4 [] [.blk b1 29 [.slice Ama ma.length cma, Str ua, Str wa, .int .i64 ka, .slice Aqa qa.length cqa, Str na, .int .i64 pa], .blk b2 29 [.slice Amb mb.length cmb, Str ub, Str wb, .int .i64 kb, .slice Aqb qb.length cqb, Str nb, .int .i64 pb]] := hs3.call0 hs4'
    clear hs4'
    refine q trivial rfl rfl (nd (p := ua = ub ∧ wa = wb) rfl) ?_
    refine nl ?_
    refine nN ?_
    refine cdd (p := ¬ (ua = ub ∧ wa = wb)) rfl (fun h2 => ?_) (fun h2 => ?_)
    · refine sq ?_
      refine rg ?_
      refine q trivial rfl rfl (asg (v := .bool false) rfl) ?_
      refine nl ?_
      refine nN ?_
      refine rt (tR ?_)
      refine fret (v := .bool false) (.tmp .nil) rfl ?_
      have e2 : false = (decide (ma = mb ∧ (ua = ub ∧ wa = wb) ∧ (ka = kb ∧ qa = qb ∧ na = nb ∧ pa = pb))) := by simp [h1, h2] <;> simp_all
      exact ⟨(congrArg (Value.bool) e2), (hs4.pick [] rfl (by decide))⟩
    · refine sk ?_
      refine nN ?_
      refine sq ?_
      refine sq ?_
      refine rg ?_
      refine q trivial rfl rfl (fa 3 fo29_2 rfl) ?_
      refine q trivial rfl rfl (ldg (vs := [.int .i64 ka, .slice Aqa qa.length cqa, Str na, .int .i64 pa]) hs4 0 rfl rfl rfl rfl ag27) ?_
      refine q trivial rfl rfl (fa 3 fo29_2 rfl) ?_
      refine q trivial rfl rfl (ldg (vs := [.int .i64 kb, .slice Aqb qb.length cqb, Str nb, .int .i64 pb]) hs4 1 rfl rfl rfl rfl ag27) ?_
      refine cl trivial rfl (eqAddress (ka := ka) (Aqa := Aqa) (cqa := cqa) (qa := qa) (na := na) (pa := pa) (kb := kb) (Aqb := Aqb) (cqb := cqb) (qb := qb) (nb := nb) (pb := pb) (w := _) (hqa := (hqa.up0 hs4)) (hqb := (hqb.up0 hs4))) ?_
      rintro _ w5 ⟨rfl, hs5'⟩
      have hs5 : SH w w5 [] [.blk b1 29 [.slice Ama ma.length cma, Str ua, Str wa, .int .i64 ka, .slice Aqa qa.length cqa, Str na, .int .i64 pa], .blk b2 29 [.slice Amb mb.length cmb, Str ub, Str wb, .int .i64 kb, .slice Aqb qb.length cqb, Str nb, .int .i64 pb]] := hs4.call0 hs5'
      clear hs5'
      refine q trivial rfl rfl (nd (p := ka = kb ∧ qa = qb ∧ na = nb ∧ pa = pb) rfl) ?_
      refine nl ?_
      refine nN ?_
      refine cdd (p := ¬ (ka = kb ∧ qa = qb ∧ na = nb ∧ pa = pb)) rfl (fun h3 => ?_) (fun h3 => ?_)
      · refine sq ?_
        refine rg ?_
        refine q trivial rfl rfl (asg (v := .bool false) rfl) ?_
        refine nl ?_
        refine nN ?_
        refine rt (tR ?_)
        refine fret (v := .bool false) (.tmp .nil) rfl ?_
        have e3 : false = (decide (ma = mb ∧ (ua = ub ∧ wa = wb) ∧ (ka = kb ∧ qa = qb ∧ na = nb ∧ pa = pb))) := by simp [h1, h2, h3] <;> simp_all
        exact ⟨(congrArg (Value.bool) e3), (hs5.pick [] rfl (by decide))⟩
      · refine sk ?_
        refine nN ?_
        refine sq ?_
        refine rg ?_
        refine q trivial rfl rfl (asg (v := .bool true) rfl) ?_
        refine nl ?_
        refine nN ?_
        refine rt ?_
        refine fret (v := .bool true) (.tmp .nil) rfl ?_
        have e4 : true = (decide (ma = mb ∧ (ua = ub ∧ wa = wb) ∧ (ka = kb ∧ qa = qb ∧ na = nb ∧ pa = pb))) := by simp [h1, h2, h3] <;> simp_all
        exact ⟨(congrArg (Value.bool) e4), (hs5.pick [] rfl (by decide))⟩


end Go.Proofs.YtpddahloogjghaaDoor
