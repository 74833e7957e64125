/-
  Part of the proofs over this seat: what each function of the program computes, function by function (the text is written by a program of this hand-in's own).
  Conditions: each theorem states its own.
-/
import Derived.Test.YtpddahloogjghaaDoorPfWalks4
namespace Go.Proofs.YtpddahloogjghaaDoor
open Go.PF
set_option maxRecDepth 100000
set_option linter.unusedSimpArgs false
set_option linter.unusedVariables false

theorem lExactClientSay {Ams : Option Addr} {cms : Nat} (ms : List Int) (lu : List UInt8) (lw : List UInt8) (ak : Int) {Aaq : Option Addr} {caq : Nat} (aq : List Int) (an : List UInt8) (apt : Int) (n : Int) (w : World) (hms : Sl w [] 1 Ams ms.length cms (ms.map I)) (hlu_n : lu.length ≤ 9223372036854775807) (hlw_n : lw.length ≤ 9223372036854775807) (haq : Sl w [] 1 Aaq aq.length caq (aq.map I)) (han_n : an.length ≤ 9223372036854775807) : Does Tryd.prog 7 [.agg #[.slice Ams ms.length cms, Str lu, Str lw, I ak, .slice Aaq aq.length caq, Str an, I apt], I n] w (fun v w' => v = .bool true ∧ SH w w' [] []) := by
 refine fn_enter (N := 101) Tryd.func7 rfl (by kernel_rfl) rfl rfl rfl ?_
 have hs0 : SH w w [] [] := SH.refl w []
 have hms_m : ms.length ≤ 9223372036854775807 := Nat.le_trans hms.cap hms.capMax
 have haq_m : aq.length ≤ 9223372036854775807 := Nat.le_trans haq.cap haq.capMax
 refine sq ?_
 refine rg ?_
 refine bx (v := .agg #[.slice Ams ms.length cms, Str lu, Str lw, I ak, .slice Aaq aq.length caq, Str an, I apt]) (cs := [.slice Ams ms.length cms, Str lu, Str lw, I ak, .slice Aaq aq.length caq, Str an, I apt]) hs0 rfl rfl trivial rfl (fun b1 w1 (hs1 : SH w w1 [] [.blk b1 36 [.slice Ams ms.length cms, Str lu, Str lw, I ak, .slice Aaq aq.length caq, Str an, I apt]]) => ?_)
 refine q trivial rfl rfl (asg (v := .bool false) rfl) ?_
 refine nl ?_
 refine nN ?_
 refine sq ?_
 refine rg ?_
 refine q trivial rfl rfl (asg (v := I 1048576) rfl) ?_
 refine nl ?_
 refine nN ?_
 refine sq ?_
 refine rg ?_
 refine q trivial rfl rfl (ldg (vs := [.slice Ams ms.length cms, Str lu, Str lw, I ak, .slice Aaq aq.length caq, Str an, I apt]) hs1 0 rfl rfl rfl rfl ag36) ?_
 refine q trivial rfl rfl (mv (v := I 1048576) rfl) ?_
 refine cl trivial rfl (szClient (Ams := Ams) (cms := cms) (ms := ms) (lu := lu) (lw := lw) (ak := ak) (Aaq := Aaq) (caq := caq) (aq := aq) (an := an) (apt := apt) (z := 1048576) (w := _) (hms := (hms.up0 hs1)) (hlu_n := (by first | (first | omega | (simp; done) | (simp; omega)) | (have hsy := sayP_len ms lu lw ak aq an apt n; first | omega | (simp; done) | (simp; omega)))) (hlw_n := (by first | (first | omega | (simp; done) | (simp; omega)) | (have hsy := sayP_len ms lu lw ak aq an apt n; first | omega | (simp; done) | (simp; omega)))) (haq := (haq.up0 hs1)) (han_n := (by first | (first | omega | (simp; done) | (simp; omega)) | (have hsy := sayP_len ms lu lw ak aq an apt n; first | omega | (simp; done) | (simp; omega)))) (hz := (by first | (first | omega | assumption | (simp; done) | (simp; omega)) | (have hsy := sayP_len ms lu lw ak aq an apt n; first | omega | assumption | (simp; done) | (simp; omega))))) ?_
 rintro _ w2 ⟨r1, rfl, p1, hs2'⟩
 have hs2 : SH w w2 [] [.blk b1 36 [.slice Ams ms.length cms, Str lu, Str lw, I ak, .slice Aaq aq.length caq, Str an, I apt]] := hs1.call0 hs2'
 clear hs2'
 refine q trivial rfl rfl (asg (v := I r1) rfl) ?_
 refine nl ?_
 refine nN ?_
 refine sq ?_
 refine sq ?_
 refine rg ?_
 refine q trivial rfl rfl (mv (v := I r1) rfl) ?_
 refine q trivial rfl rfl (lss (k := .i64) (a := r1) (b := 0) rfl rfl) ?_
 refine nl ?_
 refine nN ?_
 refine cdd (p := r1 < 0) rfl (fun h1 => ?_) (fun h1 => ?_)
 · refine sq ?_
   refine rg ?_
   refine q trivial rfl rfl (asg (v := .bool true) rfl) ?_
   refine nl ?_
   refine nN ?_
   refine rt (tR ?_)
   refine fret (v := .bool true) (.tmp .nil) rfl ?_
   exact ⟨rfl, (hs2.pick [] rfl (by decide))⟩
 · refine sk ?_
   refine nN ?_
   refine sq ?_
   refine rg ?_
   refine q trivial rfl rfl (ldg (vs := [.slice Ams ms.length cms, Str lu, Str lw, I ak, .slice Aaq aq.length caq, Str an, I apt]) hs2 0 rfl rfl rfl rfl ag36) ?_
   refine cl trivial rfl (toClient (Ams := Ams) (cms := cms) (ms := ms) (lu := lu) (lw := lw) (ak := ak) (Aaq := Aaq) (caq := caq) (aq := aq) (an := an) (apt := apt) (w := _) (hms := (hms.up0 hs2)) (hms_n := (by first | (first | omega | (simp; done) | (simp; omega)) | (have hsy := sayP_len ms lu lw ak aq an apt n; first | omega | (simp; done) | (simp; omega)))) (haq := (haq.up0 hs2)) (haq_n := (by first | (first | omega | (simp; done) | (simp; omega)) | (have hsy := sayP_len ms lu lw ak aq an apt n; first | omega | (simp; done) | (simp; omega))))) ?_
   rintro _ w3 ⟨Am1, cm1, Aq1, cq1, rfl, hs3'⟩
   have hs3 : SH w w3 [] [.blk b1 36 [.slice Ams ms.length cms, Str lu, Str lw, I ak, .slice Aaq aq.length caq, Str an, I apt], .own Am1 ms.length cm1 3 1 (ms.map I), .own Aq1 aq.length cq1 3 1 (aq.map I)] := hs2.call0 hs3'
   clear hs3'
   refine q trivial rfl rfl (mv (v := I n) rfl) ?_
   refine cl trivial rfl (sClientSay (Ams := Am1) (cms := cm1) (ms := ms) (lu := lu) (lw := lw) (ak := ak) (Aaq := Aq1) (caq := cq1) (aq := aq) (an := an) (apt := apt) (n := n) (w := _) (hms := (hs3.sl0 1 rfl)) (hlu_n := (by first | (first | omega | (simp; done) | (simp; omega)) | (have hsy := sayP_len ms lu lw ak aq an apt n; first | omega | (simp; done) | (simp; omega)))) (hlw_n := (by first | (first | omega | (simp; done) | (simp; omega)) | (have hsy := sayP_len ms lu lw ak aq an apt n; first | omega | (simp; done) | (simp; omega)))) (haq := (hs3.sl0 2 rfl)) (han_n := (by first | (first | omega | (simp; done) | (simp; omega)) | (have hsy := sayP_len ms lu lw ak aq an apt n; first | omega | (simp; done) | (simp; omega))))) ?_
   rintro _ w4 ⟨A1, c1, rfl, hs4'⟩
   have hs4 : SH w w4 [] [.blk b1 36 [.slice Ams ms.length cms, Str lu, Str lw, I ak, .slice Aaq aq.length caq, Str an, I apt], .own Am1 ms.length cm1 3 1 (ms.map I), .own Aq1 aq.length cq1 3 1 (aq.map I), .own A1 (((sayP ms lu lw ak aq an apt n).1).length) c1 3 1 (((sayP ms lu lw ak aq an apt n).1).map I)] := hs3.call0 hs4'
   clear hs4'
   refine q trivial rfl rfl (mv (v := .tuple #[.slice A1 (((sayP ms lu lw ak aq an apt n).1).length) c1, .bool ((sayP ms lu lw ak aq an apt n).2)]) rfl) ?_
   refine q trivial rfl rfl (xt 0 (v := .slice A1 (((sayP ms lu lw ak aq an apt n).1).length) c1) rfl rfl) ?_
   refine q trivial rfl rfl (xt 1 (v := .bool ((sayP ms lu lw ak aq an apt n).2)) rfl rfl) ?_
   refine q trivial rfl rfl (asg (v := .slice A1 (((sayP ms lu lw ak aq an apt n).1).length) c1) rfl) ?_
   refine q trivial rfl rfl (asg (v := .bool ((sayP ms lu lw ak aq an apt n).2)) rfl) ?_
   refine nl ?_
   refine nN ?_
   have hs5 : SH w w4 [] [.blk b1 36 [.slice Ams ms.length cms, Str lu, Str lw, I ak, .slice Aaq aq.length caq, Str an, I apt], .own A1 (((sayP ms lu lw ak aq an apt n).1).length) c1 3 1 (((sayP ms lu lw ak aq an apt n).1).map I)] := hs4.pick [0, 3] rfl (by decide)
   refine sq ?_
   refine rg ?_
   refine q trivial rfl rfl (ldg (vs := [.slice Ams ms.length cms, Str lu, Str lw, I ak, .slice Aaq aq.length caq, Str an, I apt]) hs5 0 rfl rfl rfl rfl ag36) ?_
   refine cl trivial rfl (toClient (Ams := Ams) (cms := cms) (ms := ms) (lu := lu) (lw := lw) (ak := ak) (Aaq := Aaq) (caq := caq) (aq := aq) (an := an) (apt := apt) (w := _) (hms := (hms.up0 hs5)) (hms_n := (by first | (first | omega | (simp; done) | (simp; omega)) | (have hsy := sayP_len ms lu lw ak aq an apt n; first | omega | (simp; done) | (simp; omega)))) (haq := (haq.up0 hs5)) (haq_n := (by first | (first | omega | (simp; done) | (simp; omega)) | (have hsy := sayP_len ms lu lw ak aq an apt n; first | omega | (simp; done) | (simp; omega))))) ?_
   rintro _ w5 ⟨Am2, cm2, Aq2, cq2, rfl, hs6'⟩
   have hs6 : SH w w5 [] [.blk b1 36 [.slice Ams ms.length cms, Str lu, Str lw, I ak, .slice Aaq aq.length caq, Str an, I apt], .own A1 (((sayP ms lu lw ak aq an apt n).1).length) c1 3 1 (((sayP ms lu lw ak aq an apt n).1).map I), .own Am2 ms.length cm2 3 1 (ms.map I), .own Aq2 aq.length cq2 3 1 (aq.map I)] := hs5.call0 hs6'
   clear hs6'
   refine al (v := .agg #[ns, Str [], Str [], I 0, ns, Str [], I 0]) (cs := [ns, Str [], Str [], I 0, ns, Str [], I 0]) hs6 tz29 rfl trivial rfl (fun b2 w6 (hs7 : SH w w6 [] [.blk b1 36 [.slice Ams ms.length cms, Str lu, Str lw, I ak, .slice Aaq aq.length caq, Str an, I apt], .own A1 (((sayP ms lu lw ak aq an apt n).1).length) c1 3 1 (((sayP ms lu lw ak aq an apt n).1).map I), .own Am2 ms.length cm2 3 1 (ms.map I), .own Aq2 aq.length cq2 3 1 (aq.map I), .blk b2 29 [ns, Str [], Str [], I 0, ns, Str [], I 0]]) => ?_)
   refine stg (vs := [.slice Am2 ms.length cm2, Str lu, Str lw, I ak, .slice Aq2 aq.length cq2, Str an, I apt]) hs7 4 rfl rfl rfl rfl rfl rfl rfl ag29 trivial (fun w7 (hs8 : SH w w7 [] [.blk b1 36 [.slice Ams ms.length cms, Str lu, Str lw, I ak, .slice Aaq aq.length caq, Str an, I apt], .own A1 (((sayP ms lu lw ak aq an apt n).1).length) c1 3 1 (((sayP ms lu lw ak aq an apt n).1).map I), .own Am2 ms.length cm2 3 1 (ms.map I), .own Aq2 aq.length cq2 3 1 (aq.map I), .blk b2 29 [.slice Am2 ms.length cm2, Str lu, Str lw, I ak, .slice Aq2 aq.length cq2, Str an, I apt]]) => ?_)
   refine nl ?_
   refine nN ?_
   refine sq ?_
   refine rg ?_
   refine q trivial rfl rfl (ldg (vs := [.slice Am2 ms.length cm2, Str lu, Str lw, I ak, .slice Aq2 aq.length cq2, Str an, I apt]) hs8 4 rfl rfl rfl rfl ag29) ?_
   refine q trivial rfl rfl (mv (v := I n) rfl) ?_
   refine cl trivial rfl (iClientSay (Ams := Am2) (cms := cm2) (ms := ms) (lu := lu) (lw := lw) (ak := ak) (Aaq := Aq2) (caq := cq2) (aq := aq) (an := an) (apt := apt) (n := n) (w := _) (hms := (hs8.sl0 2 rfl)) (hlu_n := (by first | (first | omega | (simp; done) | (simp; omega)) | (have hsy := sayP_len ms lu lw ak aq an apt n; first | omega | (simp; done) | (simp; omega)))) (hlw_n := (by first | (first | omega | (simp; done) | (simp; omega)) | (have hsy := sayP_len ms lu lw ak aq an apt n; first | omega | (simp; done) | (simp; omega)))) (haq := (hs8.sl0 3 rfl)) (han_n := (by first | (first | omega | (simp; done) | (simp; omega)) | (have hsy := sayP_len ms lu lw ak aq an apt n; first | omega | (simp; done) | (simp; omega))))) ?_
   rintro _ w8 ⟨A2, c2, rfl, hs9'⟩
   have hs9 : SH w w8 [] [.blk b1 36 [.slice Ams ms.length cms, Str lu, Str lw, I ak, .slice Aaq aq.length caq, Str an, I apt], .own A1 (((sayP ms lu lw ak aq an apt n).1).length) c1 3 1 (((sayP ms lu lw ak aq an apt n).1).map I), .own Am2 ms.length cm2 3 1 (ms.map I), .own Aq2 aq.length cq2 3 1 (aq.map I), .blk b2 29 [.slice Am2 ms.length cm2, Str lu, Str lw, I ak, .slice Aq2 aq.length cq2, Str an, I apt], .own A2 (((sayP ms lu lw ak aq an apt n).1).length) c2 3 1 (((sayP ms lu lw ak aq an apt n).1).map I)] := hs8.call0 hs9'
   clear hs9'
   refine q trivial rfl rfl (mv (v := .tuple #[.slice A2 (((sayP ms lu lw ak aq an apt n).1).length) c2, .bool ((sayP ms lu lw ak aq an apt n).2)]) rfl) ?_
   refine q trivial rfl rfl (xt 0 (v := .slice A2 (((sayP ms lu lw ak aq an apt n).1).length) c2) rfl rfl) ?_
   refine q trivial rfl rfl (xt 1 (v := .bool ((sayP ms lu lw ak aq an apt n).2)) rfl rfl) ?_
   refine q trivial rfl rfl (asg (v := .slice A2 (((sayP ms lu lw ak aq an apt n).1).length) c2) rfl) ?_
   refine q trivial rfl rfl (asg (v := .bool ((sayP ms lu lw ak aq an apt n).2)) rfl) ?_
   refine nl ?_
   refine nN ?_
   refine sq ?_
   refine sq ?_
   refine rg ?_
   refine q trivial rfl rfl (mv (v := .slice A2 (((sayP ms lu lw ak aq an apt n).1).length) c2) rfl) ?_
   refine q trivial rfl rfl (mv (v := .slice A1 (((sayP ms lu lw ak aq an apt n).1).length) c1) rfl) ?_
   refine cl trivial rfl (eqIntS (Axs := A2) (cxs := c2) (xs := (sayP ms lu lw ak aq an apt n).1) (Abs := A1) (cbs := c1) (bs := (sayP ms lu lw ak aq an apt n).1) (w := _) (hxs := (hs9.sl0 5 rfl)) (hbs := (hs9.sl0 1 rfl))) ?_
   rintro _ w9 ⟨rfl, hs10'⟩
   have hs10 : SH w w9 [] [.blk b1 36 [.slice Ams ms.length cms, Str lu, Str lw, I ak, .slice Aaq aq.length caq, Str an, I apt], .own A1 (((sayP ms lu lw ak aq an apt n).1).length) c1 3 1 (((sayP ms lu lw ak aq an apt n).1).map I), .own Am2 ms.length cm2 3 1 (ms.map I), .own Aq2 aq.length cq2 3 1 (aq.map I), .blk b2 29 [.slice Am2 ms.length cm2, Str lu, Str lw, I ak, .slice Aq2 aq.length cq2, Str an, I apt], .own A2 (((sayP ms lu lw ak aq an apt n).1).length) c2 3 1 (((sayP ms lu lw ak aq an apt n).1).map I)] := hs9.call0 hs10'
   clear hs10'
   refine q trivial rfl rfl (nd (p := ((sayP ms lu lw ak aq an apt n).1) = ((sayP ms lu lw ak aq an apt n).1)) rfl) ?_
   refine q trivial rfl rfl (mv (v := .bool (decide (¬ (((sayP ms lu lw ak aq an apt n).1) = ((sayP ms lu lw ak aq an apt n).1))))) rfl) ?_
   refine spd (p := ¬ (((sayP ms lu lw ak aq an apt n).1) = ((sayP ms lu lw ak aq an apt n).1))) 40 rfl (fun h2 => absurd h2 (by exact fun h => h rfl)) (fun h2 => ?_)
   refine q ⟨_, rfl, rfl⟩ rfl rfl (mv (v := .bool ((sayP ms lu lw ak aq an apt n).2)) rfl) ?_
   refine q ⟨_, rfl, rfl⟩ rfl rfl (mv (v := .bool ((sayP ms lu lw ak aq an apt n).2)) rfl) ?_
   refine q ⟨_, rfl, rfl⟩ rfl rfl (neb (a := ((sayP ms lu lw ak aq an apt n).2)) (b := ((sayP ms lu lw ak aq an apt n).2)) tb4 rfl rfl) ?_
   refine q trivial rfl rfl (pf (v := .bool (decide (((sayP ms lu lw ak aq an apt n).2) ≠ ((sayP ms lu lw ak aq an apt n).2)))) rfl rfl) ?_
   refine nl ?_
   refine nN ?_
   refine cdd (p := ((sayP ms lu lw ak aq an apt n).2) ≠ ((sayP ms lu lw ak aq an apt n).2)) rfl (fun h3 => absurd h3 (by exact fun h => h rfl)) (fun h3 => ?_)
   refine sk ?_
   refine nN ?_
   refine sq ?_
   refine sq ?_
   refine ra (fun w' => ∃ L, SH w w' [] L ∧ (.blk b1 36 [.slice Ams ms.length cms, Str lu, Str lw, I ak, .slice Aaq aq.length caq, Str an, I apt]) ∈ L ∧ (.blk b2 29 [.slice Am2 ms.length cm2, Str lu, Str lw, I ak, .slice Aq2 aq.length cq2, Str an, I apt]) ∈ L ∧ True) mixed ?_
   have hs11 := hs10.drew
   refine tk (fuel := 3) (is := [0, 1]) (.cons rfl (.cons rfl (.nil))) (by kernel_rfl) (by kernel_rfl) ⟨_, hs11, memi 0 rfl, memi 4 rfl, trivial⟩ ?_
   refine .op trivial rfl rfl (fun wq ⟨Lq, hsq, mh0, mh1, _⟩ => ldgm (vs := [.slice Am2 ms.length cm2, Str lu, Str lw, I ak, .slice Aq2 aq.length cq2, Str an, I apt]) hsq mh1 rfl rfl rfl ag29) ?_
   refine .op trivial rfl rfl (fun wq ⟨Lq, hsq, mh0, mh1, _⟩ => ldgm (vs := [.slice Ams ms.length cms, Str lu, Str lw, I ak, .slice Aaq aq.length caq, Str an, I apt]) hsq mh0 rfl rfl rfl ag36) ?_
   refine .nil ?_
   refine a1 (i := 2) (by kernel_rfl) ?_
   refine one_ rfl ?_
   refine cl trivial rfl (toClient (Ams := Ams) (cms := cms) (ms := ms) (lu := lu) (lw := lw) (ak := ak) (Aaq := Aaq) (caq := caq) (aq := aq) (an := an) (apt := apt) (w := _) (hms := (hms.up0 hs11)) (hms_n := (by first | (first | omega | (simp; done) | (simp; omega)) | (have hsy := sayP_len ms lu lw ak aq an apt n; first | omega | (simp; done) | (simp; omega)))) (haq := (haq.up0 hs11)) (haq_n := (by first | (first | omega | (simp; done) | (simp; omega)) | (have hsy := sayP_len ms lu lw ak aq an apt n; first | omega | (simp; done) | (simp; omega))))) ?_
   rintro _ w10 ⟨Am_10_2, cm_10_2, Aq_10_2, cq_10_2, rfl, hs12'⟩
   have hs12 : SH w w10 [] [.blk b1 36 [.slice Ams ms.length cms, Str lu, Str lw, I ak, .slice Aaq aq.length caq, Str an, I apt], .own A1 (((sayP ms lu lw ak aq an apt n).1).length) c1 3 1 (((sayP ms lu lw ak aq an apt n).1).map I), .own Am2 ms.length cm2 3 1 (ms.map I), .own Aq2 aq.length cq2 3 1 (aq.map I), .blk b2 29 [.slice Am2 ms.length cm2, Str lu, Str lw, I ak, .slice Aq2 aq.length cq2, Str an, I apt], .own A2 (((sayP ms lu lw ak aq an apt n).1).length) c2 3 1 (((sayP ms lu lw ak aq an apt n).1).map I), .own Am_10_2 ms.length cm_10_2 3 1 (ms.map I), .own Aq_10_2 aq.length cq_10_2 3 1 (aq.map I)] := hs11.call0 hs12'
   clear hs12'
   refine nl (kq ⟨_, hs12, memi 0 rfl, memi 4 rfl, trivial⟩ ?_)
   refine a1 (i := 3) (by kernel_rfl) ?_
   refine one_ rfl ?_
   refine cl trivial rfl (eqClient (Ama := Am2) (cma := cm2) (ma := ms) (ua := lu) (wa := lw) (ka := ak) (Aqa := Aq2) (cqa := cq2) (qa := aq) (na := an) (pa := apt) (Amb := Am_10_2) (cmb := cm_10_2) (mb := ms) (ub := lu) (wb := lw) (kb := ak) (Aqb := Aq_10_2) (cqb := cq_10_2) (qb := aq) (nb := an) (pb := apt) (w := _) (hma := (hs12.sl0 2 rfl)) (hqa := (hs12.sl0 3 rfl)) (hmb := (hs12.sl0 6 rfl)) (hqb := (hs12.sl0 7 rfl))) ?_
   rintro _ w11 ⟨rfl, hs13'⟩
   have hs13 : SH w w11 [] [.blk b1 36 [.slice Ams ms.length cms, Str lu, Str lw, I ak, .slice Aaq aq.length caq, Str an, I apt], .own A1 (((sayP ms lu lw ak aq an apt n).1).length) c1 3 1 (((sayP ms lu lw ak aq an apt n).1).map I), .own Am2 ms.length cm2 3 1 (ms.map I), .own Aq2 aq.length cq2 3 1 (aq.map I), .blk b2 29 [.slice Am2 ms.length cm2, Str lu, Str lw, I ak, .slice Aq2 aq.length cq2, Str an, I apt], .own A2 (((sayP ms lu lw ak aq an apt n).1).length) c2 3 1 (((sayP ms lu lw ak aq an apt n).1).map I), .own Am_10_2 ms.length cm_10_2 3 1 (ms.map I), .own Aq_10_2 aq.length cq_10_2 3 1 (aq.map I)] := hs12.call0 hs13'
   clear hs13'
   refine nl (kq ⟨_, hs13, memi 0 rfl, memi 4 rfl, trivial⟩ ?_)
   refine tk (fuel := 0) (is := [4]) (.cons rfl (.nil)) (by kernel_rfl) (by kernel_rfl) ⟨_, hs13, memi 0 rfl, memi 4 rfl, trivial⟩ ?_
   refine .op trivial rfl rfl (fun wq _ => nd (p := ms = ms ∧ (lu = lu ∧ lw = lw) ∧ (ak = ak ∧ aq = aq ∧ an = an ∧ apt = apt)) rfl) ?_
   refine .nil ?_
   refine ad (by kernel_rfl) ?_
   refine nN ?_
   have hs14 : SH w w11 [] [.blk b1 36 [.slice Ams ms.length cms, Str lu, Str lw, I ak, .slice Aaq aq.length caq, Str an, I apt], .own A1 (((sayP ms lu lw ak aq an apt n).1).length) c1 3 1 (((sayP ms lu lw ak aq an apt n).1).map I), .own Am2 ms.length cm2 3 1 (ms.map I), .own Aq2 aq.length cq2 3 1 (aq.map I), .blk b2 29 [.slice Am2 ms.length cm2, Str lu, Str lw, I ak, .slice Aq2 aq.length cq2, Str an, I apt], .own A2 (((sayP ms lu lw ak aq an apt n).1).length) c2 3 1 (((sayP ms lu lw ak aq an apt n).1).map I)] := hs13.pick [0, 1, 2, 3, 4, 5] rfl (by decide)
   refine cdd (p := ¬ (ms = ms ∧ (lu = lu ∧ lw = lw) ∧ (ak = ak ∧ aq = aq ∧ an = an ∧ apt = apt))) rfl (fun h4 => ?_) (fun h4 => ?_)
   · refine sq ?_
     refine rg ?_
     refine q trivial rfl rfl (asg (v := .bool false) rfl) ?_
     refine nl ?_
     refine nN ?_
     have hs15 : SH w w11 [] [] := hs14.pick [] rfl (by decide)
     refine rt (tR ?_)
     refine fret (v := .bool false) (.tmp .nil) rfl ?_
     have e1 : false = true := by first | rfl | (simp; done) | (simp_all; done) | omega
     exact ⟨(congrArg (Value.bool) e1), hs15⟩
   · refine sk ?_
     refine nN ?_
     refine sq ?_
     refine rg ?_
     refine q trivial rfl rfl (asg (v := I 1) rfl) ?_
     refine nl ?_
     refine nN ?_
     refine sq ?_
     refine rg ?_
     refine q trivial rfl rfl (ldg (vs := [.slice Am2 ms.length cm2, Str lu, Str lw, I ak, .slice Aq2 aq.length cq2, Str an, I apt]) hs14 4 rfl rfl rfl rfl ag29) ?_
     refine q trivial rfl rfl (mv (v := I 1) rfl) ?_
     refine cl trivial rfl (markClient (Ams := Am2) (cms := cm2) (ms := ms) (lu := lu) (lw := lw) (ak := ak) (Aaq := Aq2) (caq := cq2) (aq := aq) (an := an) (apt := apt) (k0 := 1) (w := _) (hms := (own_ok hs14 2 rfl)) (hms_n := (by first | (first | omega | (simp; done) | (simp; omega)) | (have hsy := sayP_len ms lu lw ak aq an apt n; first | omega | (simp; done) | (simp; omega)))) (haq := (own_ok hs14 3 rfl)) (haq_n := (by first | (first | omega | (simp; done) | (simp; omega)) | (have hsy := sayP_len ms lu lw ak aq an apt n; first | omega | (simp; done) | (simp; omega)))) (hk0 := (by first | (first | omega | assumption | (simp; done) | (simp; omega)) | (have hsy := sayP_len ms lu lw ak aq an apt n; first | omega | assumption | (simp; done) | (simp; omega)))) (hx_ms_aq := (it_dis hs14 2 3 (by decide) rfl rfl))) ?_
     rintro _ w12 ⟨rfl, hs16'⟩
     have hs16 : SH w w12 [] [.blk b1 36 [.slice Ams ms.length cms, Str lu, Str lw, I ak, .slice Aaq aq.length caq, Str an, I apt], .own A1 (((sayP ms lu lw ak aq an apt n).1).length) c1 3 1 (((sayP ms lu lw ak aq an apt n).1).map I), .blk b2 29 [.slice Am2 ms.length cm2, Str lu, Str lw, I ak, .slice Aq2 aq.length cq2, Str an, I apt], .own A2 (((sayP ms lu lw ak aq an apt n).1).length) c2 3 1 (((sayP ms lu lw ak aq an apt n).1).map I), .own Am2 ms.length cm2 3 1 ((marks 1 ms.length).map I), .own Aq2 aq.length cq2 3 1 ((marks (1 + ((ms.length : Nat) : Int)) aq.length).map I)] := SH.callK (K := [.own Am2 ms.length cm2 3 1 (ms.map I), .own Aq2 aq.length cq2 3 1 (aq.map I)]) (R := [.blk b1 36 [.slice Ams ms.length cms, Str lu, Str lw, I ak, .slice Aaq aq.length caq, Str an, I apt], .own A1 (((sayP ms lu lw ak aq an apt n).1).length) c1 3 1 (((sayP ms lu lw ak aq an apt n).1).map I), .blk b2 29 [.slice Am2 ms.length cm2, Str lu, Str lw, I ak, .slice Aq2 aq.length cq2, Str an, I apt], .own A2 (((sayP ms lu lw ak aq an apt n).1).length) c2 3 1 (((sayP ms lu lw ak aq an apt n).1).map I)]) (hs14.pick [2, 3, 0, 1, 4, 5] rfl (by decide)) hs16' rfl
     clear hs16'
     have e2 : ms.length = (marks 1 ms.length).length := by first | rfl | (simp; done) | (simp; omega)
     have e3 : aq.length = (marks (1 + ((ms.length : Nat) : Int)) aq.length).length := by first | rfl | (simp; done) | (simp; omega)
     have hs17 : SH w w12 [] [.blk b1 36 [.slice Ams ms.length cms, Str lu, Str lw, I ak, .slice Aaq aq.length caq, Str an, I apt], .own A1 (((sayP ms lu lw ak aq an apt n).1).length) c1 3 1 (((sayP ms lu lw ak aq an apt n).1).map I), .blk b2 29 [.slice Am2 ms.length cm2, Str lu, Str lw, I ak, .slice Aq2 aq.length cq2, Str an, I apt], .own A2 (((sayP ms lu lw ak aq an apt n).1).length) c2 3 1 (((sayP ms lu lw ak aq an apt n).1).map I), .own Am2 ((marks 1 ms.length).length) cm2 3 1 ((marks 1 ms.length).map I), .own Aq2 ((marks (1 + ((ms.length : Nat) : Int)) aq.length).length) cq2 3 1 ((marks (1 + ((ms.length : Nat) : Int)) aq.length).map I)] := (hs16.cast (lc rfl (lc rfl (lc rfl (lc rfl (lc (own_eq (g := I) rfl e2 rfl rfl) (lc (own_eq (g := I) rfl e3 rfl rfl) rfl)))))))
     clear hs16
     refine q trivial rfl rfl (asg (v := I (1 + ((ms.length : Nat) : Int) + ((aq.length : Nat) : Int))) rfl) ?_
     refine nl ?_
     refine nN ?_
     have hs18 : SH w w12 [] [.blk b1 36 [.slice Ams ms.length cms, Str lu, Str lw, I ak, .slice Aaq aq.length caq, Str an, I apt], .own A1 (((sayP ms lu lw ak aq an apt n).1).length) c1 3 1 (((sayP ms lu lw ak aq an apt n).1).map I), .own A2 (((sayP ms lu lw ak aq an apt n).1).length) c2 3 1 (((sayP ms lu lw ak aq an apt n).1).map I)] := hs17.pick [0, 1, 3] rfl (by decide)
     refine sq ?_
     refine sq ?_
     refine rg ?_
     refine q trivial rfl rfl (mv (v := I (1 + ((ms.length : Nat) : Int) + ((aq.length : Nat) : Int))) rfl) ?_
     refine q trivial rfl rfl (lss (k := .i64) (a := 1 + ((ms.length : Nat) : Int) + ((aq.length : Nat) : Int)) (b := 0) rfl rfl) ?_
     refine q trivial rfl rfl (mv (v := .bool (decide ((1 + ((ms.length : Nat) : Int) + ((aq.length : Nat) : Int)) < 0))) rfl) ?_
     refine spd (p := (1 + ((ms.length : Nat) : Int) + ((aq.length : Nat) : Int)) < 0) 55 rfl (fun h5 => absurd h5 (by omega)) (fun h5 => ?_)
     refine q ⟨_, rfl, rfl⟩ rfl rfl (mv (v := .slice A2 (((sayP ms lu lw ak aq an apt n).1).length) c2) rfl) ?_
     refine q ⟨_, rfl, rfl⟩ rfl rfl (mv (v := .slice A1 (((sayP ms lu lw ak aq an apt n).1).length) c1) rfl) ?_
     refine cl ⟨_, rfl, rfl⟩ rfl (eqIntS (Axs := A2) (cxs := c2) (xs := (sayP ms lu lw ak aq an apt n).1) (Abs := A1) (cbs := c1) (bs := (sayP ms lu lw ak aq an apt n).1) (w := _) (hxs := (hs18.sl0 2 rfl)) (hbs := (hs18.sl0 1 rfl))) ?_
     rintro _ w13 ⟨rfl, hs19'⟩
     have hs19 : SH w w13 [] [.blk b1 36 [.slice Ams ms.length cms, Str lu, Str lw, I ak, .slice Aaq aq.length caq, Str an, I apt], .own A1 (((sayP ms lu lw ak aq an apt n).1).length) c1 3 1 (((sayP ms lu lw ak aq an apt n).1).map I), .own A2 (((sayP ms lu lw ak aq an apt n).1).length) c2 3 1 (((sayP ms lu lw ak aq an apt n).1).map I)] := hs18.call0 hs19'
     clear hs19'
     refine q ⟨_, rfl, rfl⟩ rfl rfl (nd (p := ((sayP ms lu lw ak aq an apt n).1) = ((sayP ms lu lw ak aq an apt n).1)) rfl) ?_
     refine q trivial rfl rfl (pf (v := .bool (decide (¬ (((sayP ms lu lw ak aq an apt n).1) = ((sayP ms lu lw ak aq an apt n).1))))) rfl rfl) ?_
     refine q trivial rfl rfl (mv (v := .bool (decide (¬ (((sayP ms lu lw ak aq an apt n).1) = ((sayP ms lu lw ak aq an apt n).1))))) rfl) ?_
     refine spd (p := ¬ (((sayP ms lu lw ak aq an apt n).1) = ((sayP ms lu lw ak aq an apt n).1))) 61 rfl (fun h6 => absurd h6 (by exact fun h => h rfl)) (fun h6 => ?_)
     refine q ⟨_, rfl, rfl⟩ rfl rfl (mv (v := .bool ((sayP ms lu lw ak aq an apt n).2)) rfl) ?_
     refine q ⟨_, rfl, rfl⟩ rfl rfl (mv (v := .bool ((sayP ms lu lw ak aq an apt n).2)) rfl) ?_
     refine q ⟨_, rfl, rfl⟩ rfl rfl (neb (a := ((sayP ms lu lw ak aq an apt n).2)) (b := ((sayP ms lu lw ak aq an apt n).2)) tb4 rfl rfl) ?_
     refine q trivial rfl rfl (pf (v := .bool (decide (((sayP ms lu lw ak aq an apt n).2) ≠ ((sayP ms lu lw ak aq an apt n).2)))) rfl rfl) ?_
     refine nl ?_
     refine nN ?_
     refine cdd (p := ((sayP ms lu lw ak aq an apt n).2) ≠ ((sayP ms lu lw ak aq an apt n).2)) rfl (fun h7 => absurd h7 (by exact fun h => h rfl)) (fun h7 => ?_)
     refine sk ?_
     refine nN ?_
     refine sq ?_
     refine rg ?_
     refine q trivial rfl rfl (asg (v := I 1) rfl) ?_
     refine nl ?_
     refine nN ?_
     refine sq ?_
     refine rg ?_
     refine q trivial rfl rfl (mv (v := .slice A2 (((sayP ms lu lw ak aq an apt n).1).length) c2) rfl) ?_
     refine q trivial rfl rfl (mv (v := I 1) rfl) ?_
     refine cl trivial rfl (markIntS (Axs := A2) (cxs := c2) (xs := (sayP ms lu lw ak aq an apt n).1) (k0 := 1) (w := _) (hxs := (own_ok hs19 2 rfl)) (hxs_n := (by first | (first | omega | (simp; done) | (simp; omega)) | (have hsy := sayP_len ms lu lw ak aq an apt n; first | omega | (simp; done) | (simp; omega)))) (hk0 := (by first | (first | omega | assumption | (simp; done) | (simp; omega)) | (have hsy := sayP_len ms lu lw ak aq an apt n; first | omega | assumption | (simp; done) | (simp; omega))))) ?_
     rintro _ w14 ⟨rfl, hs20'⟩
     have hs20 : SH w w14 [] [.blk b1 36 [.slice Ams ms.length cms, Str lu, Str lw, I ak, .slice Aaq aq.length caq, Str an, I apt], .own A1 (((sayP ms lu lw ak aq an apt n).1).length) c1 3 1 (((sayP ms lu lw ak aq an apt n).1).map I), .own A2 (((sayP ms lu lw ak aq an apt n).1).length) c2 3 1 ((marks 1 ((sayP ms lu lw ak aq an apt n).1).length).map I)] := SH.callK (K := [.own A2 (((sayP ms lu lw ak aq an apt n).1).length) c2 3 1 (((sayP ms lu lw ak aq an apt n).1).map I)]) (R := [.blk b1 36 [.slice Ams ms.length cms, Str lu, Str lw, I ak, .slice Aaq aq.length caq, Str an, I apt], .own A1 (((sayP ms lu lw ak aq an apt n).1).length) c1 3 1 (((sayP ms lu lw ak aq an apt n).1).map I)]) (hs19.pick [2, 0, 1] rfl (by decide)) hs20' rfl
     clear hs20'
     have e4 : ((sayP ms lu lw ak aq an apt n).1).length = (marks 1 ((sayP ms lu lw ak aq an apt n).1).length).length := by first | rfl | (simp; done) | (simp; omega)
     have hs21 : SH w w14 [] [.blk b1 36 [.slice Ams ms.length cms, Str lu, Str lw, I ak, .slice Aaq aq.length caq, Str an, I apt], .own A1 (((sayP ms lu lw ak aq an apt n).1).length) c1 3 1 (((sayP ms lu lw ak aq an apt n).1).map I), .own A2 ((marks 1 ((sayP ms lu lw ak aq an apt n).1).length).length) c2 3 1 ((marks 1 ((sayP ms lu lw ak aq an apt n).1).length).map I)] := (hs20.cast (lc rfl (lc rfl (lc (own_eq (g := I) rfl e4 rfl rfl) rfl))))
     clear hs20
     refine q trivial rfl rfl (asg (v := I (1 + ((((sayP ms lu lw ak aq an apt n).1).length : Nat) : Int))) rfl) ?_
     refine nl ?_
     refine nN ?_
     refine sq ?_
     refine rg ?_
     refine q trivial rfl rfl (asg (v := I 1) rfl) ?_
     refine nl ?_
     refine nN ?_
     refine sq ?_
     refine rg ?_
     refine q trivial rfl rfl (mv (v := .slice A2 (((sayP ms lu lw ak aq an apt n).1).length) c2) rfl) ?_
     refine q trivial rfl rfl (mv (v := I 1) rfl) ?_
     refine cl trivial rfl (Does.castA (lc (slv rfl e4.symm rfl) (lc rfl rfl)) (heldIntS (Axs := A2) (cxs := c2) (xs := marks 1 ((sayP ms lu lw ak aq an apt n).1).length) (k0 := 1) (w := _) (hxs := (hs21.sl0 2 rfl)) (hxs_n := (by first | (first | omega | (simp; done) | (simp; omega)) | (have hsy := sayP_len ms lu lw ak aq an apt n; first | omega | (simp; done) | (simp; omega)))) (hk0 := (by first | (first | omega | assumption | (simp; done) | (simp; omega)) | (have hsy := sayP_len ms lu lw ak aq an apt n; first | omega | assumption | (simp; done) | (simp; omega)))))) ?_
     rintro _ w15 ⟨rfl, hs22'⟩
     have hs22 : SH w w15 [] [.blk b1 36 [.slice Ams ms.length cms, Str lu, Str lw, I ak, .slice Aaq aq.length caq, Str an, I apt], .own A1 (((sayP ms lu lw ak aq an apt n).1).length) c1 3 1 (((sayP ms lu lw ak aq an apt n).1).map I), .own A2 ((marks 1 ((sayP ms lu lw ak aq an apt n).1).length).length) c2 3 1 ((marks 1 ((sayP ms lu lw ak aq an apt n).1).length).map I)] := hs21.call0 hs22'
     clear hs22'
     refine q trivial rfl rfl (asg (v := I (heldI (marks 1 ((sayP ms lu lw ak aq an apt n).1).length) 1)) rfl) ?_
     have e5 : heldI (marks 1 ((sayP ms lu lw ak aq an apt n).1).length) 1 = 1 + ((((sayP ms lu lw ak aq an apt n).1).length : Nat) : Int) := by exact held_marks _ _
     refine re 13 (v := I (1 + ((((sayP ms lu lw ak aq an apt n).1).length : Nat) : Int))) (congrArg (Value.int .i64) e5) ?_
     refine nl ?_
     refine nN ?_
     refine sq ?_
     refine sq ?_
     refine rg ?_
     refine q trivial rfl rfl (mv (v := I (1 + ((((sayP ms lu lw ak aq an apt n).1).length : Nat) : Int))) rfl) ?_
     refine q trivial rfl rfl (lss (k := .i64) (a := 1 + ((((sayP ms lu lw ak aq an apt n).1).length : Nat) : Int)) (b := 0) rfl rfl) ?_
     refine nl ?_
     refine nN ?_
     refine cdd (p := (1 + ((((sayP ms lu lw ak aq an apt n).1).length : Nat) : Int)) < 0) rfl (fun h8 => absurd h8 (by omega)) (fun h8 => ?_)
     refine sk ?_
     refine nN ?_
     refine sq ?_
     refine sq ?_
     refine rg ?_
     refine q trivial rfl rfl (mv (v := I (1 + ((((sayP ms lu lw ak aq an apt n).1).length : Nat) : Int))) rfl) ?_
     refine q trivial rfl rfl (mv (v := I (1 + ((((sayP ms lu lw ak aq an apt n).1).length : Nat) : Int))) rfl) ?_
     refine q trivial rfl rfl (nei (k := .i64) (a := 1 + ((((sayP ms lu lw ak aq an apt n).1).length : Nat) : Int)) (b := 1 + ((((sayP ms lu lw ak aq an apt n).1).length : Nat) : Int)) rfl rfl) ?_
     refine nl ?_
     refine nN ?_
     refine cdd (p := (1 + ((((sayP ms lu lw ak aq an apt n).1).length : Nat) : Int)) ≠ (1 + ((((sayP ms lu lw ak aq an apt n).1).length : Nat) : Int))) rfl (fun h9 => absurd h9 (by exact fun h => h rfl)) (fun h9 => ?_)
     refine sk ?_
     refine nN ?_
     refine sq ?_
     refine rg ?_
     refine q trivial rfl rfl (ldg (vs := [.slice Ams ms.length cms, Str lu, Str lw, I ak, .slice Aaq aq.length caq, Str an, I apt]) hs22 0 rfl rfl rfl rfl ag36) ?_
     refine cl trivial rfl (toClient (Ams := Ams) (cms := cms) (ms := ms) (lu := lu) (lw := lw) (ak := ak) (Aaq := Aaq) (caq := caq) (aq := aq) (an := an) (apt := apt) (w := _) (hms := (hms.up0 hs22)) (hms_n := (by first | (first | omega | (simp; done) | (simp; omega)) | (have hsy := sayP_len ms lu lw ak aq an apt n; first | omega | (simp; done) | (simp; omega)))) (haq := (haq.up0 hs22)) (haq_n := (by first | (first | omega | (simp; done) | (simp; omega)) | (have hsy := sayP_len ms lu lw ak aq an apt n; first | omega | (simp; done) | (simp; omega))))) ?_
     rintro _ w16 ⟨Am3, cm3, Aq3, cq3, rfl, hs23'⟩
     have hs23 : SH w w16 [] [.blk b1 36 [.slice Ams ms.length cms, Str lu, Str lw, I ak, .slice Aaq aq.length caq, Str an, I apt], .own A1 (((sayP ms lu lw ak aq an apt n).1).length) c1 3 1 (((sayP ms lu lw ak aq an apt n).1).map I), .own A2 ((marks 1 ((sayP ms lu lw ak aq an apt n).1).length).length) c2 3 1 ((marks 1 ((sayP ms lu lw ak aq an apt n).1).length).map I), .own Am3 ms.length cm3 3 1 (ms.map I), .own Aq3 aq.length cq3 3 1 (aq.map I)] := hs22.call0 hs23'
     clear hs23'
     refine q trivial rfl rfl (mv (v := I n) rfl) ?_
     refine cl trivial rfl (iClientSay (Ams := Am3) (cms := cm3) (ms := ms) (lu := lu) (lw := lw) (ak := ak) (Aaq := Aq3) (caq := cq3) (aq := aq) (an := an) (apt := apt) (n := n) (w := _) (hms := (hs23.sl0 3 rfl)) (hlu_n := (by first | (first | omega | (simp; done) | (simp; omega)) | (have hsy := sayP_len ms lu lw ak aq an apt n; first | omega | (simp; done) | (simp; omega)))) (hlw_n := (by first | (first | omega | (simp; done) | (simp; omega)) | (have hsy := sayP_len ms lu lw ak aq an apt n; first | omega | (simp; done) | (simp; omega)))) (haq := (hs23.sl0 4 rfl)) (han_n := (by first | (first | omega | (simp; done) | (simp; omega)) | (have hsy := sayP_len ms lu lw ak aq an apt n; first | omega | (simp; done) | (simp; omega))))) ?_
     rintro _ w17 ⟨A3, c3, rfl, hs24'⟩
     have hs24 : SH w w17 [] [.blk b1 36 [.slice Ams ms.length cms, Str lu, Str lw, I ak, .slice Aaq aq.length caq, Str an, I apt], .own A1 (((sayP ms lu lw ak aq an apt n).1).length) c1 3 1 (((sayP ms lu lw ak aq an apt n).1).map I), .own A2 ((marks 1 ((sayP ms lu lw ak aq an apt n).1).length).length) c2 3 1 ((marks 1 ((sayP ms lu lw ak aq an apt n).1).length).map I), .own Am3 ms.length cm3 3 1 (ms.map I), .own Aq3 aq.length cq3 3 1 (aq.map I), .own A3 (((sayP ms lu lw ak aq an apt n).1).length) c3 3 1 (((sayP ms lu lw ak aq an apt n).1).map I)] := hs23.call0 hs24'
     clear hs24'
     refine q trivial rfl rfl (mv (v := .tuple #[.slice A3 (((sayP ms lu lw ak aq an apt n).1).length) c3, .bool ((sayP ms lu lw ak aq an apt n).2)]) rfl) ?_
     refine q trivial rfl rfl (xt 0 (v := .slice A3 (((sayP ms lu lw ak aq an apt n).1).length) c3) rfl rfl) ?_
     refine q trivial rfl rfl (xt 1 (v := .bool ((sayP ms lu lw ak aq an apt n).2)) rfl rfl) ?_
     refine q trivial rfl rfl (asg (v := .slice A3 (((sayP ms lu lw ak aq an apt n).1).length) c3) rfl) ?_
     refine q trivial rfl rfl (asg (v := .bool ((sayP ms lu lw ak aq an apt n).2)) rfl) ?_
     refine nl ?_
     refine nN ?_
     have hs25 : SH w w17 [] [.own A1 (((sayP ms lu lw ak aq an apt n).1).length) c1 3 1 (((sayP ms lu lw ak aq an apt n).1).map I), .own A2 ((marks 1 ((sayP ms lu lw ak aq an apt n).1).length).length) c2 3 1 ((marks 1 ((sayP ms lu lw ak aq an apt n).1).length).map I), .own A3 (((sayP ms lu lw ak aq an apt n).1).length) c3 3 1 (((sayP ms lu lw ak aq an apt n).1).map I)] := hs24.pick [1, 2, 5] rfl (by decide)
     refine sq ?_
     refine sq ?_
     refine rg ?_
     refine q trivial rfl rfl (mv (v := .slice A3 (((sayP ms lu lw ak aq an apt n).1).length) c3) rfl) ?_
     refine q trivial rfl rfl (mv (v := .slice A1 (((sayP ms lu lw ak aq an apt n).1).length) c1) rfl) ?_
     refine cl trivial rfl (eqIntS (Axs := A3) (cxs := c3) (xs := (sayP ms lu lw ak aq an apt n).1) (Abs := A1) (cbs := c1) (bs := (sayP ms lu lw ak aq an apt n).1) (w := _) (hxs := (hs25.sl0 2 rfl)) (hbs := (hs25.sl0 0 rfl))) ?_
     rintro _ w18 ⟨rfl, hs26'⟩
     have hs26 : SH w w18 [] [.own A1 (((sayP ms lu lw ak aq an apt n).1).length) c1 3 1 (((sayP ms lu lw ak aq an apt n).1).map I), .own A2 ((marks 1 ((sayP ms lu lw ak aq an apt n).1).length).length) c2 3 1 ((marks 1 ((sayP ms lu lw ak aq an apt n).1).length).map I), .own A3 (((sayP ms lu lw ak aq an apt n).1).length) c3 3 1 (((sayP ms lu lw ak aq an apt n).1).map I)] := hs25.call0 hs26'
     clear hs26'
     refine q trivial rfl rfl (nd (p := ((sayP ms lu lw ak aq an apt n).1) = ((sayP ms lu lw ak aq an apt n).1)) rfl) ?_
     refine q trivial rfl rfl (mv (v := .bool (decide (¬ (((sayP ms lu lw ak aq an apt n).1) = ((sayP ms lu lw ak aq an apt n).1))))) rfl) ?_
     refine spd (p := ¬ (((sayP ms lu lw ak aq an apt n).1) = ((sayP ms lu lw ak aq an apt n).1))) 88 rfl (fun h10 => absurd h10 (by exact fun h => h rfl)) (fun h10 => ?_)
     refine q ⟨_, rfl, rfl⟩ rfl rfl (mv (v := .bool ((sayP ms lu lw ak aq an apt n).2)) rfl) ?_
     refine q ⟨_, rfl, rfl⟩ rfl rfl (mv (v := .bool ((sayP ms lu lw ak aq an apt n).2)) rfl) ?_
     refine q ⟨_, rfl, rfl⟩ rfl rfl (neb (a := ((sayP ms lu lw ak aq an apt n).2)) (b := ((sayP ms lu lw ak aq an apt n).2)) tb4 rfl rfl) ?_
     refine q trivial rfl rfl (pf (v := .bool (decide (((sayP ms lu lw ak aq an apt n).2) ≠ ((sayP ms lu lw ak aq an apt n).2)))) rfl rfl) ?_
     refine nl ?_
     refine nN ?_
     refine cdd (p := ((sayP ms lu lw ak aq an apt n).2) ≠ ((sayP ms lu lw ak aq an apt n).2)) rfl (fun h11 => absurd h11 (by exact fun h => h rfl)) (fun h11 => ?_)
     refine sk ?_
     refine nN ?_
     refine sq ?_
     refine rg ?_
     refine q trivial rfl rfl (asg (v := I 1) rfl) ?_
     refine nl ?_
     refine nN ?_
     refine sq ?_
     refine rg ?_
     refine q trivial rfl rfl (mv (v := .slice A2 (((sayP ms lu lw ak aq an apt n).1).length) c2) rfl) ?_
     refine q trivial rfl rfl (mv (v := I 1) rfl) ?_
     refine cl trivial rfl (Does.castA (lc (slv rfl e4.symm rfl) (lc rfl rfl)) (heldIntS (Axs := A2) (cxs := c2) (xs := marks 1 ((sayP ms lu lw ak aq an apt n).1).length) (k0 := 1) (w := _) (hxs := (hs26.sl0 1 rfl)) (hxs_n := (by first | (first | omega | (simp; done) | (simp; omega)) | (have hsy := sayP_len ms lu lw ak aq an apt n; first | omega | (simp; done) | (simp; omega)))) (hk0 := (by first | (first | omega | assumption | (simp; done) | (simp; omega)) | (have hsy := sayP_len ms lu lw ak aq an apt n; first | omega | assumption | (simp; done) | (simp; omega)))))) ?_
     rintro _ w19 ⟨rfl, hs27'⟩
     have hs27 : SH w w19 [] [.own A1 (((sayP ms lu lw ak aq an apt n).1).length) c1 3 1 (((sayP ms lu lw ak aq an apt n).1).map I), .own A2 ((marks 1 ((sayP ms lu lw ak aq an apt n).1).length).length) c2 3 1 ((marks 1 ((sayP ms lu lw ak aq an apt n).1).length).map I), .own A3 (((sayP ms lu lw ak aq an apt n).1).length) c3 3 1 (((sayP ms lu lw ak aq an apt n).1).map I)] := hs26.call0 hs27'
     clear hs27'
     refine q trivial rfl rfl (asg (v := I (heldI (marks 1 ((sayP ms lu lw ak aq an apt n).1).length) 1)) rfl) ?_
     have e6 : heldI (marks 1 ((sayP ms lu lw ak aq an apt n).1).length) 1 = 1 + ((((sayP ms lu lw ak aq an apt n).1).length : Nat) : Int) := by exact held_marks _ _
     refine re 13 (v := I (1 + ((((sayP ms lu lw ak aq an apt n).1).length : Nat) : Int))) (congrArg (Value.int .i64) e6) ?_
     refine nl ?_
     refine nN ?_
     refine sq ?_
     refine sq ?_
     refine rg ?_
     refine q trivial rfl rfl (mv (v := I (1 + ((((sayP ms lu lw ak aq an apt n).1).length : Nat) : Int))) rfl) ?_
     refine q trivial rfl rfl (lss (k := .i64) (a := 1 + ((((sayP ms lu lw ak aq an apt n).1).length : Nat) : Int)) (b := 0) rfl rfl) ?_
     refine nl ?_
     refine nN ?_
     refine cdd (p := (1 + ((((sayP ms lu lw ak aq an apt n).1).length : Nat) : Int)) < 0) rfl (fun h12 => absurd h12 (by omega)) (fun h12 => ?_)
     refine sk ?_
     refine nN ?_
     refine sq ?_
     refine sq ?_
     refine rg ?_
     refine q trivial rfl rfl (mv (v := I (1 + ((((sayP ms lu lw ak aq an apt n).1).length : Nat) : Int))) rfl) ?_
     refine q trivial rfl rfl (mv (v := I (1 + ((((sayP ms lu lw ak aq an apt n).1).length : Nat) : Int))) rfl) ?_
     refine q trivial rfl rfl (nei (k := .i64) (a := 1 + ((((sayP ms lu lw ak aq an apt n).1).length : Nat) : Int)) (b := 1 + ((((sayP ms lu lw ak aq an apt n).1).length : Nat) : Int)) rfl rfl) ?_
     refine nl ?_
     refine nN ?_
     refine cdd (p := (1 + ((((sayP ms lu lw ak aq an apt n).1).length : Nat) : Int)) ≠ (1 + ((((sayP ms lu lw ak aq an apt n).1).length : Nat) : Int))) rfl (fun h13 => absurd h13 (by exact fun h => h rfl)) (fun h13 => ?_)
     refine sk ?_
     refine nN ?_
     refine sq ?_
     refine rg ?_
     refine q trivial rfl rfl (asg (v := .bool true) rfl) ?_
     refine nl ?_
     refine nN ?_
     refine rt ?_
     refine fret (v := .bool true) (.tmp .nil) rfl ?_
     exact ⟨rfl, (hs27.pick [] rfl (by decide))⟩

end Go.Proofs.YtpddahloogjghaaDoor
