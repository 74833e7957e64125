/-
  Part of the proofs over this seat: what each function of the program computes, function by function (the text is written by a program of this hand-in's own).
  Conditions: each theorem states its own.
-/
import Derived.Test.YtpddahloogjghaaDoorPfWalks2
namespace Go.Proofs.YtpddahloogjghaaDoor
open Go.PF
set_option maxRecDepth 100000
set_option linter.unusedSimpArgs false
set_option linter.unusedVariables false

theorem lExactClientValid {Ams : Option Addr} {cms : Nat} (ms : List Int) (lu : List UInt8) (lw : List UInt8) (ak : Int) {Aaq : Option Addr} {caq : Nat} (aq : List Int) (an : List UInt8) (apt : Int) (w : World) (hms : Sl w [] 1 Ams ms.length cms (ms.map I)) (hlu_n : lu.length ≤ 9223372036854775807) (hlw_n : lw.length ≤ 9223372036854775807) (haq : Sl w [] 1 Aaq aq.length caq (aq.map I)) (han_n : an.length ≤ 9223372036854775807) : Does Tryd.prog 4 [.agg #[.slice Ams ms.length cms, Str lu, Str lw, .int .i64 ak, .slice Aaq aq.length caq, Str an, .int .i64 apt]] w (fun v w' => v = .bool true ∧ SH w w' [] []) := by
  refine fn_enter (N := 27) Tryd.func4 rfl (by kernel_rfl) rfl rfl rfl ?_
  have hs0 : SH w w [] [] := SH.refl w []
  have hms_m : ms.length ≤ 9223372036854775807 := Nat.le_trans hms.cap hms.capMax
  have haq_m : aq.length ≤ 9223372036854775807 := Nat.le_trans haq.cap haq.capMax
  refine sq ?_
  refine rg ?_
  refine bx (v := .agg #[.slice Ams ms.length cms, Str lu, Str lw, .int .i64 ak, .slice Aaq aq.length caq, Str an, .int .i64 apt]) (cs := [.slice Ams ms.length cms, Str lu, Str lw, .int .i64 ak, .slice Aaq aq.length caq, Str an, .int .i64 apt]) hs0 rfl rfl trivial rfl (fun b1 w1 (hs1 : SH w w1 [] [.blk b1 36 [.slice Ams ms.length cms, Str lu, Str lw, .int .i64 ak, .slice Aaq aq.length caq, Str an, .int .i64 apt]]) => ?_)
  refine q trivial rfl rfl (asg (v := .bool false) rfl) ?_
  refine nl ?_
  refine nN ?_
  refine sq ?_
  refine rg ?_
  refine q trivial rfl rfl (asg (v := .int .i64 1048576) rfl) ?_
  refine nl ?_
  refine nN ?_
  refine sq ?_
  refine rg ?_
  refine q trivial rfl rfl (ldg (vs := [.slice Ams ms.length cms, Str lu, Str lw, .int .i64 ak, .slice Aaq aq.length caq, Str an, .int .i64 apt]) hs1 0 rfl rfl rfl rfl ag36) ?_
  refine q trivial rfl rfl (mv (v := .int .i64 1048576) rfl) ?_
  refine cl trivial rfl (szClient (Ams := Ams) (cms := cms) (ms := ms) (lu := lu) (lw := lw) (ak := ak) (Aaq := Aaq) (caq := caq) (aq := aq) (an := an) (apt := apt) (z := 1048576) (w := _) (hms := (hms.up0 hs1)) (hlu_n := (by first | omega | (simp; omega))) (hlw_n := (by first | omega | (simp; omega))) (haq := (haq.up0 hs1)) (han_n := (by first | omega | (simp; omega))) (hz := (by first | omega | assumption | (simp; done) | (simp; omega)))) ?_
  rintro _ w2 ⟨r1, rfl, p1, hs2'⟩
  have hs2 : SH w w2 [] [.blk b1 36 [.slice Ams ms.length cms, Str lu, Str lw, .int .i64 ak, .slice Aaq aq.length caq, Str an, .int .i64 apt]] := hs1.call0 hs2'
  clear hs2'
  refine q trivial rfl rfl (asg (v := .int .i64 r1) rfl) ?_
  refine nl ?_
  refine nN ?_
  refine sq ?_
  refine sq ?_
  refine rg ?_
  refine q trivial rfl rfl (mv (v := .int .i64 r1) rfl) ?_
  refine q trivial rfl rfl (lss (k := .i64) (a := r1) (b := 0) rfl rfl) ?_
  refine nl ?_
  refine nN ?_
  refine cdd (p := r1 < 0) rfl (fun h1 => ?_) (fun h1 => ?_)
  · refine sq ?_
    refine rg ?_
    refine q trivial rfl rfl (asg (v := .bool true) rfl) ?_
    refine nl ?_
    refine nN ?_
    refine rt (tR ?_)
    refine fret (v := .bool true) (.tmp .nil) rfl ?_
    exact ⟨rfl, (hs2.pick [] rfl (by decide))⟩
  · refine sk ?_
    refine nN ?_
    refine sq ?_
    refine rg ?_
    refine q trivial rfl rfl (ldg (vs := [.slice Ams ms.length cms, Str lu, Str lw, .int .i64 ak, .slice Aaq aq.length caq, Str an, .int .i64 apt]) hs2 0 rfl rfl rfl rfl ag36) ?_
    refine cl trivial rfl (toClient (Ams := Ams) (cms := cms) (ms := ms) (lu := lu) (lw := lw) (ak := ak) (Aaq := Aaq) (caq := caq) (aq := aq) (an := an) (apt := apt) (w := _) (hms := (hms.up0 hs2)) (hms_n := (by first | omega | (simp; omega))) (haq := (haq.up0 hs2)) (haq_n := (by first | omega | (simp; omega)))) ?_
    rintro _ w3 ⟨Am1, cm1, Aq1, cq1, rfl, hs3'⟩
    have hs3 : SH w w3 [] [.blk b1 36 [.slice Ams ms.length cms, Str lu, Str lw, .int .i64 ak, .slice Aaq aq.length caq, Str an, .int .i64 apt], .own Am1 ms.length cm1 3 1 (ms.map I), .own Aq1 aq.length cq1 3 1 (aq.map I)] := hs2.call0 hs3'
    clear hs3'
    refine cl trivial rfl (sClientValid (Ams := Am1) (cms := cm1) (ms := ms) (lu := lu) (lw := lw) (ak := ak) (Aaq := Aq1) (caq := cq1) (aq := aq) (an := an) (apt := apt) (w := _) (hms := (hs3.sl0 1 rfl)) (hlu_n := (by first | omega | (simp; omega))) (hlw_n := (by first | omega | (simp; omega))) (haq := (hs3.sl0 2 rfl)) (han_n := (by first | omega | (simp; omega)))) ?_
    rintro _ w4 ⟨rfl, hs4'⟩
    have hs4 : SH w w4 [] [.blk b1 36 [.slice Ams ms.length cms, Str lu, Str lw, .int .i64 ak, .slice Aaq aq.length caq, Str an, .int .i64 apt], .own Am1 ms.length cm1 3 1 (ms.map I), .own Aq1 aq.length cq1 3 1 (aq.map I)] := hs3.call0 hs4'
    clear hs4'
    refine q trivial rfl rfl (asg (v := .bool (clientOk ms lu lw ak aq an apt)) rfl) ?_
    refine nl ?_
    refine nN ?_
    refine sq ?_
    refine rg ?_
    refine q trivial rfl rfl (ldg (vs := [.slice Ams ms.length cms, Str lu, Str lw, .int .i64 ak, .slice Aaq aq.length caq, Str an, .int .i64 apt]) hs4 0 rfl rfl rfl rfl ag36) ?_
    refine cl trivial rfl (toClient (Ams := Ams) (cms := cms) (ms := ms) (lu := lu) (lw := lw) (ak := ak) (Aaq := Aaq) (caq := caq) (aq := aq) (an := an) (apt := apt) (w := _) (hms := (hms.up0 hs4)) (hms_n := (by first | omega | (simp; omega))) (haq := (haq.up0 hs4)) (haq_n := (by first | omega | (simp; omega)))) ?_
    rintro _ w5 ⟨Am2, cm2, Aq2, cq2, rfl, hs5'⟩
    have hs5 : SH w w5 [] [.blk b1 36 [.slice Ams ms.length cms, Str lu, Str lw, .int .i64 ak, .slice Aaq aq.length caq, Str an, .int .i64 apt], .own Am1 ms.length cm1 3 1 (ms.map I), .own Aq1 aq.length cq1 3 1 (aq.map I), .own Am2 ms.length cm2 3 1 (ms.map I), .own Aq2 aq.length cq2 3 1 (aq.map I)] := hs4.call0 hs5'
    clear hs5'
    refine al (v := .agg #[.slice none 0 0, Str [], Str [], .int .i64 0, .slice none 0 0, Str [], .int .i64 0]) (cs := [.slice none 0 0, Str [], Str [], .int .i64 0, .slice none 0 0, Str [], .int .i64 0]) hs5 tz29 rfl trivial rfl (fun b2 w6 (hs6 : SH w w6 [] [.blk b1 36 [.slice Ams ms.length cms, Str lu, Str lw, .int .i64 ak, .slice Aaq aq.length caq, Str an, .int .i64 apt], .own Am1 ms.length cm1 3 1 (ms.map I), .own Aq1 aq.length cq1 3 1 (aq.map I), .own Am2 ms.length cm2 3 1 (ms.map I), .own Aq2 aq.length cq2 3 1 (aq.map I), .blk b2 29 [.slice none 0 0, Str [], Str [], .int .i64 0, .slice none 0 0, Str [], .int .i64 0]]) => ?_)
    refine stg (vs := [.slice Am2 ms.length cm2, Str lu, Str lw, .int .i64 ak, .slice Aq2 aq.length cq2, Str an, .int .i64 apt]) hs6 5 rfl rfl rfl rfl rfl rfl rfl ag29 trivial (fun w7 (hs7 : SH w w7 [] [.blk b1 36 [.slice Ams ms.length cms, Str lu, Str lw, .int .i64 ak, .slice Aaq aq.length caq, Str an, .int .i64 apt], .own Am1 ms.length cm1 3 1 (ms.map I), .own Aq1 aq.length cq1 3 1 (aq.map I), .own Am2 ms.length cm2 3 1 (ms.map I), .own Aq2 aq.length cq2 3 1 (aq.map I), .blk b2 29 [.slice Am2 ms.length cm2, Str lu, Str lw, .int .i64 ak, .slice Aq2 aq.length cq2, Str an, .int .i64 apt]]) => ?_)
    refine nl ?_
    refine nN ?_
    have hs8 : SH w w7 [] [.blk b1 36 [.slice Ams ms.length cms, Str lu, Str lw, .int .i64 ak, .slice Aaq aq.length caq, Str an, .int .i64 apt], .own Am2 ms.length cm2 3 1 (ms.map I), .own Aq2 aq.length cq2 3 1 (aq.map I), .blk b2 29 [.slice Am2 ms.length cm2, Str lu, Str lw, .int .i64 ak, .slice Aq2 aq.length cq2, Str an, .int .i64 apt]] := hs7.pick [0, 3, 4, 5] rfl (by decide)
    refine sq ?_
    refine rg ?_
    refine q trivial rfl rfl (ldg (vs := [.slice Am2 ms.length cm2, Str lu, Str lw, .int .i64 ak, .slice Aq2 aq.length cq2, Str an, .int .i64 apt]) hs8 3 rfl rfl rfl rfl ag29) ?_
    refine cl trivial rfl (iClientValid (Ams := Am2) (cms := cm2) (ms := ms) (lu := lu) (lw := lw) (ak := ak) (Aaq := Aq2) (caq := cq2) (aq := aq) (an := an) (apt := apt) (w := _) (hms := (hs8.sl0 1 rfl)) (hlu_n := (by first | omega | (simp; omega))) (hlw_n := (by first | omega | (simp; omega))) (haq := (hs8.sl0 2 rfl)) (han_n := (by first | omega | (simp; omega)))) ?_
    rintro _ w8 ⟨rfl, hs9'⟩
    have hs9 : SH w w8 [] [.blk b1 36 [.slice Ams ms.length cms, Str lu, Str lw, .int .i64 ak, .slice Aaq aq.length caq, Str an, .int .i64 apt], .own Am2 ms.length cm2 3 1 (ms.map I), .own Aq2 aq.length cq2 3 1 (aq.map I), .blk b2 29 [.slice Am2 ms.length cm2, Str lu, Str lw, .int .i64 ak, .slice Aq2 aq.length cq2, Str an, .int .i64 apt]] := hs8.call0 hs9'
    clear hs9'
    refine q trivial rfl rfl (asg (v := .bool (clientOk ms lu lw ak aq an apt)) rfl) ?_
    refine nl ?_
    refine nN ?_
    refine sq ?_
    refine sq ?_
    refine rg ?_
    refine q trivial rfl rfl (mv (v := .bool (clientOk ms lu lw ak aq an apt)) rfl) ?_
    refine q trivial rfl rfl (mv (v := .bool (clientOk ms lu lw ak aq an apt)) rfl) ?_
    refine q trivial rfl rfl (neb (a := (clientOk ms lu lw ak aq an apt)) (b := (clientOk ms lu lw ak aq an apt)) tb4 rfl rfl) ?_
    refine nl ?_
    refine nN ?_
    refine cdd (p := (clientOk ms lu lw ak aq an apt) ≠ (clientOk ms lu lw ak aq an apt)) rfl (fun h2 => absurd h2 (by exact fun h => h rfl)) (fun h2 => ?_)
    refine sk ?_
    refine nN ?_
    refine sq ?_
    refine sq ?_
    refine ra (fun w' => ∃ L, SH w w' [] L ∧ (.blk b1 36 [.slice Ams ms.length cms, Str lu, Str lw, .int .i64 ak, .slice Aaq aq.length caq, Str an, .int .i64 apt]) ∈ L ∧ (.blk b2 29 [.slice Am2 ms.length cm2, Str lu, Str lw, .int .i64 ak, .slice Aq2 aq.length cq2, Str an, .int .i64 apt]) ∈ L ∧ True) mixed ?_
    have hs10 := hs9.drew
    refine tk (fuel := 3) (is := [0, 1]) (.cons rfl (.cons rfl (.nil))) (by kernel_rfl) (by kernel_rfl) ⟨_, hs10, memi 0 rfl, memi 3 rfl, trivial⟩ ?_
    refine .op trivial rfl rfl (fun wq ⟨Lq, hsq, mh0, mh1, _⟩ => ldgm (vs := [.slice Am2 ms.length cm2, Str lu, Str lw, .int .i64 ak, .slice Aq2 aq.length cq2, Str an, .int .i64 apt]) hsq mh1 rfl rfl rfl ag29) ?_
    refine .op trivial rfl rfl (fun wq ⟨Lq, hsq, mh0, mh1, _⟩ => ldgm (vs := [.slice Ams ms.length cms, Str lu, Str lw, .int .i64 ak, .slice Aaq aq.length caq, Str an, .int .i64 apt]) hsq mh0 rfl rfl rfl ag36) ?_
    refine .nil ?_
    refine a1 (i := 2) (by kernel_rfl) ?_
    refine one_ rfl ?_
    refine cl trivial rfl (toClient (Ams := Ams) (cms := cms) (ms := ms) (lu := lu) (lw := lw) (ak := ak) (Aaq := Aaq) (caq := caq) (aq := aq) (an := an) (apt := apt) (w := _) (hms := (hms.up0 hs10)) (hms_n := (by first | omega | (simp; omega))) (haq := (haq.up0 hs10)) (haq_n := (by first | omega | (simp; omega)))) ?_
    rintro _ w9 ⟨Am_10_2, cm_10_2, Aq_10_2, cq_10_2, rfl, hs11'⟩
    have hs11 : SH w w9 [] [.blk b1 36 [.slice Ams ms.length cms, Str lu, Str lw, .int .i64 ak, .slice Aaq aq.length caq, Str an, .int .i64 apt], .own Am2 ms.length cm2 3 1 (ms.map I), .own Aq2 aq.length cq2 3 1 (aq.map I), .blk b2 29 [.slice Am2 ms.length cm2, Str lu, Str lw, .int .i64 ak, .slice Aq2 aq.length cq2, Str an, .int .i64 apt], .own Am_10_2 ms.length cm_10_2 3 1 (ms.map I), .own Aq_10_2 aq.length cq_10_2 3 1 (aq.map I)] := hs10.call0 hs11'
    clear hs11'
    refine nl (kq ⟨_, hs11, memi 0 rfl, memi 3 rfl, trivial⟩ ?_)
    refine a1 (i := 3) (by kernel_rfl) ?_
    refine one_ rfl ?_
    refine cl trivial rfl (eqClient (Ama := Am2) (cma := cm2) (ma := ms) (ua := lu) (wa := lw) (ka := ak) (Aqa := Aq2) (cqa := cq2) (qa := aq) (na := an) (pa := apt) (Amb := Am_10_2) (cmb := cm_10_2) (mb := ms) (ub := lu) (wb := lw) (kb := ak) (Aqb := Aq_10_2) (cqb := cq_10_2) (qb := aq) (nb := an) (pb := apt) (w := _) (hma := (hs11.sl0 1 rfl)) (hqa := (hs11.sl0 2 rfl)) (hmb := (hs11.sl0 4 rfl)) (hqb := (hs11.sl0 5 rfl))) ?_
    rintro _ w10 ⟨rfl, hs12'⟩
    have hs12 : SH w w10 [] [.blk b1 36 [.slice Ams ms.length cms, Str lu, Str lw, .int .i64 ak, .slice Aaq aq.length caq, Str an, .int .i64 apt], .own Am2 ms.length cm2 3 1 (ms.map I), .own Aq2 aq.length cq2 3 1 (aq.map I), .blk b2 29 [.slice Am2 ms.length cm2, Str lu, Str lw, .int .i64 ak, .slice Aq2 aq.length cq2, Str an, .int .i64 apt], .own Am_10_2 ms.length cm_10_2 3 1 (ms.map I), .own Aq_10_2 aq.length cq_10_2 3 1 (aq.map I)] := hs11.call0 hs12'
    clear hs12'
    refine nl (kq ⟨_, hs12, memi 0 rfl, memi 3 rfl, trivial⟩ ?_)
    refine tk (fuel := 0) (is := [4]) (.cons rfl (.nil)) (by kernel_rfl) (by kernel_rfl) ⟨_, hs12, memi 0 rfl, memi 3 rfl, trivial⟩ ?_
    refine .op trivial rfl rfl (fun wq _ => nd (p := ms = ms ∧ (lu = lu ∧ lw = lw) ∧ (ak = ak ∧ aq = aq ∧ an = an ∧ apt = apt)) rfl) ?_
    refine .nil ?_
    refine ad (by kernel_rfl) ?_
    refine nN ?_
    have hs13 : SH w w10 [] [] := hs12.pick [] rfl (by decide)
    refine cdd (p := ¬ (ms = ms ∧ (lu = lu ∧ lw = lw) ∧ (ak = ak ∧ aq = aq ∧ an = an ∧ apt = apt))) rfl (fun h3 => ?_) (fun h3 => ?_)
    · refine sq ?_
      refine rg ?_
      refine q trivial rfl rfl (asg (v := .bool false) rfl) ?_
      refine nl ?_
      refine nN ?_
      refine rt (tR ?_)
      refine fret (v := .bool false) (.tmp .nil) rfl ?_
      have e1 : false = true := by first | rfl | (simp; done) | (simp_all; done) | omega
      exact ⟨(congrArg (Value.bool) e1), hs13⟩
    · refine sk ?_
      refine nN ?_
      refine sq ?_
      refine rg ?_
      refine q trivial rfl rfl (asg (v := .bool true) rfl) ?_
      refine nl ?_
      refine nN ?_
      refine rt ?_
      refine fret (v := .bool true) (.tmp .nil) rfl ?_
      exact ⟨rfl, hs13⟩

end Go.Proofs.YtpddahloogjghaaDoor
