/-
  Part of the proofs over this seat: what each function of the program computes, function by function (the text is written by a program of this hand-in's own).
  Conditions: each theorem states its own.
-/
import Derived.Test.YtpddahloogjghaaDoorPfWalks4
namespace Go.Proofs.YtpddahloogjghaaDoor
open Go.PF
set_option maxRecDepth 100000
set_option linter.unusedSimpArgs false
set_option linter.unusedVariables false

theorem lClientSayStates {Acs : Option Addr} {ccs : Nat} (cs : List UInt8) (w : World) (hcs : Sl w [] 1 Acs cs.length ccs (cs.map U)) : Does Tryd.prog 6 [.slice Acs cs.length ccs] w (fun v w' => v = .bool true ∧ SH w w' [] []) := by
 refine fn_enter (N := 90) Tryd.func6 rfl (by kernel_rfl) rfl rfl rfl ?_
 have hs0 : SH w w [] [] := SH.refl w []
 have hcs_m : cs.length ≤ 9223372036854775807 := Nat.le_trans hcs.cap hcs.capMax
 refine sq ?_
 refine rg ?_
 refine q trivial rfl rfl (asg (v := .bool false) rfl) ?_
 refine nl ?_
 refine nN ?_
 refine sq ?_
 refine sq ?_
 refine rg ?_
 refine q trivial rfl rfl (mv (v := .slice Acs cs.length ccs) rfl) ?_
 refine q trivial rfl rfl (lnA (n := cs.length) sl22 rfl) ?_
 refine q trivial rfl rfl (gtr (k := .i64) (a := ((cs.length : Nat) : Int)) (b := 1048576) rfl rfl) ?_
 refine nl ?_
 refine nN ?_
 refine cdd (p := (1048576 : Int) < ((cs.length : Nat) : Int)) rfl (fun h1 => ?_) (fun h1 => ?_)
 · refine sq ?_
   refine rg ?_
   refine q trivial rfl rfl (asg (v := .bool true) rfl) ?_
   refine nl ?_
   refine nN ?_
   refine rt (tR ?_)
   refine fret (v := .bool true) (.tmp .nil) rfl ?_
   exact ⟨rfl, hs0⟩
 · refine sk ?_
   refine nN ?_
   refine sq ?_
   refine rg ?_
   refine q trivial rfl rfl (mv (v := .slice Acs cs.length ccs) rfl) ?_
   refine cl trivial rfl (drawClientSay (Acs := Acs) (ccs := ccs) (cs := cs) (w := _) (hcs := (hcs.up0 hs0))) ?_
   rintro _ w1 ⟨Am1, cm1, Aq1, cq1, ms1, lu1, lw1, ak1, aq1, an1, apt1, n1, rfl, p1, p2, p3, p4, p5, hs1'⟩
   have hs1 : SH w w1 [] [.own Am1 ms1.length cm1 3 1 (ms1.map I), .own Aq1 aq1.length cq1 3 1 (aq1.map I)] := hs0.call0 hs1'
   clear hs1'
   refine q trivial rfl rfl (mv (v := .tuple #[.agg #[.slice Am1 ms1.length cm1, Str lu1, Str lw1, I ak1, .slice Aq1 aq1.length cq1, Str an1, I apt1], I n1]) rfl) ?_
   refine q trivial rfl rfl (xt 0 (v := .agg #[.slice Am1 ms1.length cm1, Str lu1, Str lw1, I ak1, .slice Aq1 aq1.length cq1, Str an1, I apt1]) rfl rfl) ?_
   refine q trivial rfl rfl (xt 1 (v := I n1) rfl rfl) ?_
   refine al (v := .agg #[ns, Str [], Str [], I 0, ns, Str [], I 0]) (cs := [ns, Str [], Str [], I 0, ns, Str [], I 0]) hs1 tz29 rfl trivial rfl (fun b1 w2 (hs2 : SH w w2 [] [.own Am1 ms1.length cm1 3 1 (ms1.map I), .own Aq1 aq1.length cq1 3 1 (aq1.map I), .blk b1 29 [ns, Str [], Str [], I 0, ns, Str [], I 0]]) => ?_)
   refine stg (vs := [.slice Am1 ms1.length cm1, Str lu1, Str lw1, I ak1, .slice Aq1 aq1.length cq1, Str an1, I apt1]) hs2 2 rfl rfl rfl rfl rfl rfl rfl ag29 trivial (fun w3 (hs3 : SH w w3 [] [.own Am1 ms1.length cm1 3 1 (ms1.map I), .own Aq1 aq1.length cq1 3 1 (aq1.map I), .blk b1 29 [.slice Am1 ms1.length cm1, Str lu1, Str lw1, I ak1, .slice Aq1 aq1.length cq1, Str an1, I apt1]]) => ?_)
   refine q trivial rfl rfl (asg (v := I n1) rfl) ?_
   refine nl ?_
   refine nN ?_
   refine sq ?_
   refine rg ?_
   refine q trivial rfl rfl (ldg (vs := [.slice Am1 ms1.length cm1, Str lu1, Str lw1, I ak1, .slice Aq1 aq1.length cq1, Str an1, I apt1]) hs3 2 rfl rfl rfl rfl ag29) ?_
   refine q trivial rfl rfl (mv (v := I n1) rfl) ?_
   refine cl trivial rfl (iClientSay (Ams := Am1) (cms := cm1) (ms := ms1) (lu := lu1) (lw := lw1) (ak := ak1) (Aaq := Aq1) (caq := cq1) (aq := aq1) (an := an1) (apt := apt1) (n := n1) (w := _) (hms := (hs3.sl0 0 rfl)) (hlu_n := (by first | (first | omega | (simp; done) | (simp; omega)) | (have hsy := sayP_len ms1 lu1 lw1 ak1 aq1 an1 apt1 n1; have hhl := helloP_len ms1; have hll := loginP_len lu1 lw1; have hrl := reqP_len 1 ak1 aq1 an1 apt1; first | omega | (simp; done) | (simp; omega)))) (hlw_n := (by first | (first | omega | (simp; done) | (simp; omega)) | (have hsy := sayP_len ms1 lu1 lw1 ak1 aq1 an1 apt1 n1; have hhl := helloP_len ms1; have hll := loginP_len lu1 lw1; have hrl := reqP_len 1 ak1 aq1 an1 apt1; first | omega | (simp; done) | (simp; omega)))) (haq := (hs3.sl0 1 rfl)) (han_n := (by first | (first | omega | (simp; done) | (simp; omega)) | (have hsy := sayP_len ms1 lu1 lw1 ak1 aq1 an1 apt1 n1; have hhl := helloP_len ms1; have hll := loginP_len lu1 lw1; have hrl := reqP_len 1 ak1 aq1 an1 apt1; first | omega | (simp; done) | (simp; omega))))) ?_
   rintro _ w4 ⟨A1, c1, rfl, hs4'⟩
   have hs4 : SH w w4 [] [.own Am1 ms1.length cm1 3 1 (ms1.map I), .own Aq1 aq1.length cq1 3 1 (aq1.map I), .blk b1 29 [.slice Am1 ms1.length cm1, Str lu1, Str lw1, I ak1, .slice Aq1 aq1.length cq1, Str an1, I apt1], .own A1 (((sayP ms1 lu1 lw1 ak1 aq1 an1 apt1 n1).1).length) c1 3 1 (((sayP ms1 lu1 lw1 ak1 aq1 an1 apt1 n1).1).map I)] := hs3.call0 hs4'
   clear hs4'
   refine q trivial rfl rfl (mv (v := .tuple #[.slice A1 (((sayP ms1 lu1 lw1 ak1 aq1 an1 apt1 n1).1).length) c1, .bool ((sayP ms1 lu1 lw1 ak1 aq1 an1 apt1 n1).2)]) rfl) ?_
   refine q trivial rfl rfl (xt 0 (v := .slice A1 (((sayP ms1 lu1 lw1 ak1 aq1 an1 apt1 n1).1).length) c1) rfl rfl) ?_
   refine q trivial rfl rfl (xt 1 (v := .bool ((sayP ms1 lu1 lw1 ak1 aq1 an1 apt1 n1).2)) rfl rfl) ?_
   refine q trivial rfl rfl (asg (v := .slice A1 (((sayP ms1 lu1 lw1 ak1 aq1 an1 apt1 n1).1).length) c1) rfl) ?_
   refine q trivial rfl rfl (asg (v := .bool ((sayP ms1 lu1 lw1 ak1 aq1 an1 apt1 n1).2)) rfl) ?_
   refine nl ?_
   refine nN ?_
   refine sq ?_
   refine rg ?_
   refine q trivial rfl rfl (ldg (vs := [.slice Am1 ms1.length cm1, Str lu1, Str lw1, I ak1, .slice Aq1 aq1.length cq1, Str an1, I apt1]) hs4 2 rfl rfl rfl rfl ag29) ?_
   refine q trivial rfl rfl (mv (v := I n1) rfl) ?_
   refine cl trivial rfl (sClientSay (Ams := Am1) (cms := cm1) (ms := ms1) (lu := lu1) (lw := lw1) (ak := ak1) (Aaq := Aq1) (caq := cq1) (aq := aq1) (an := an1) (apt := apt1) (n := n1) (w := _) (hms := (hs4.sl0 0 rfl)) (hlu_n := (by first | (first | omega | (simp; done) | (simp; omega)) | (have hsy := sayP_len ms1 lu1 lw1 ak1 aq1 an1 apt1 n1; have hhl := helloP_len ms1; have hll := loginP_len lu1 lw1; have hrl := reqP_len 1 ak1 aq1 an1 apt1; first | omega | (simp; done) | (simp; omega)))) (hlw_n := (by first | (first | omega | (simp; done) | (simp; omega)) | (have hsy := sayP_len ms1 lu1 lw1 ak1 aq1 an1 apt1 n1; have hhl := helloP_len ms1; have hll := loginP_len lu1 lw1; have hrl := reqP_len 1 ak1 aq1 an1 apt1; first | omega | (simp; done) | (simp; omega)))) (haq := (hs4.sl0 1 rfl)) (han_n := (by first | (first | omega | (simp; done) | (simp; omega)) | (have hsy := sayP_len ms1 lu1 lw1 ak1 aq1 an1 apt1 n1; have hhl := helloP_len ms1; have hll := loginP_len lu1 lw1; have hrl := reqP_len 1 ak1 aq1 an1 apt1; first | omega | (simp; done) | (simp; omega))))) ?_
   rintro _ w5 ⟨A2, c2, rfl, hs5'⟩
   have hs5 : SH w w5 [] [.own Am1 ms1.length cm1 3 1 (ms1.map I), .own Aq1 aq1.length cq1 3 1 (aq1.map I), .blk b1 29 [.slice Am1 ms1.length cm1, Str lu1, Str lw1, I ak1, .slice Aq1 aq1.length cq1, Str an1, I apt1], .own A1 (((sayP ms1 lu1 lw1 ak1 aq1 an1 apt1 n1).1).length) c1 3 1 (((sayP ms1 lu1 lw1 ak1 aq1 an1 apt1 n1).1).map I), .own A2 (((sayP ms1 lu1 lw1 ak1 aq1 an1 apt1 n1).1).length) c2 3 1 (((sayP ms1 lu1 lw1 ak1 aq1 an1 apt1 n1).1).map I)] := hs4.call0 hs5'
   clear hs5'
   refine q trivial rfl rfl (mv (v := .tuple #[.slice A2 (((sayP ms1 lu1 lw1 ak1 aq1 an1 apt1 n1).1).length) c2, .bool ((sayP ms1 lu1 lw1 ak1 aq1 an1 apt1 n1).2)]) rfl) ?_
   refine q trivial rfl rfl (xt 0 (v := .slice A2 (((sayP ms1 lu1 lw1 ak1 aq1 an1 apt1 n1).1).length) c2) rfl rfl) ?_
   refine q trivial rfl rfl (xt 1 (v := .bool ((sayP ms1 lu1 lw1 ak1 aq1 an1 apt1 n1).2)) rfl rfl) ?_
   refine q trivial rfl rfl (asg (v := .slice A2 (((sayP ms1 lu1 lw1 ak1 aq1 an1 apt1 n1).1).length) c2) rfl) ?_
   refine q trivial rfl rfl (asg (v := .bool ((sayP ms1 lu1 lw1 ak1 aq1 an1 apt1 n1).2)) rfl) ?_
   refine nl ?_
   refine nN ?_
   refine sq ?_
   refine sq ?_
   refine rg ?_
   refine q trivial rfl rfl (mv (v := .bool ((sayP ms1 lu1 lw1 ak1 aq1 an1 apt1 n1).2)) rfl) ?_
   refine q trivial rfl rfl (mv (v := .bool ((sayP ms1 lu1 lw1 ak1 aq1 an1 apt1 n1).2)) rfl) ?_
   refine q trivial rfl rfl (neb (a := ((sayP ms1 lu1 lw1 ak1 aq1 an1 apt1 n1).2)) (b := ((sayP ms1 lu1 lw1 ak1 aq1 an1 apt1 n1).2)) tb4 rfl rfl) ?_
   refine q trivial rfl rfl (mv (v := .bool (decide (((sayP ms1 lu1 lw1 ak1 aq1 an1 apt1 n1).2) ≠ ((sayP ms1 lu1 lw1 ak1 aq1 an1 apt1 n1).2)))) rfl) ?_
   refine spd (p := ((sayP ms1 lu1 lw1 ak1 aq1 an1 apt1 n1).2) ≠ ((sayP ms1 lu1 lw1 ak1 aq1 an1 apt1 n1).2)) 40 rfl (fun h2 => absurd h2 (by exact fun h => h rfl)) (fun h2 => ?_)
   refine q ⟨_, rfl, rfl⟩ rfl rfl (mv (v := .slice A1 (((sayP ms1 lu1 lw1 ak1 aq1 an1 apt1 n1).1).length) c1) rfl) ?_
   refine q ⟨_, rfl, rfl⟩ rfl rfl (mv (v := .slice A2 (((sayP ms1 lu1 lw1 ak1 aq1 an1 apt1 n1).1).length) c2) rfl) ?_
   refine cl ⟨_, rfl, rfl⟩ rfl (sameBytes (Axs := A1) (cxs := c1) (xs := (sayP ms1 lu1 lw1 ak1 aq1 an1 apt1 n1).1) (Abs := A2) (cbs := c2) (bs := (sayP ms1 lu1 lw1 ak1 aq1 an1 apt1 n1).1) (w := _) (hxs := (hs5.sl0 3 rfl)) (hbs := (hs5.sl0 4 rfl))) ?_
   rintro _ w6 ⟨rfl, hs6'⟩
   have hs6 : SH w w6 [] [.own Am1 ms1.length cm1 3 1 (ms1.map I), .own Aq1 aq1.length cq1 3 1 (aq1.map I), .blk b1 29 [.slice Am1 ms1.length cm1, Str lu1, Str lw1, I ak1, .slice Aq1 aq1.length cq1, Str an1, I apt1], .own A1 (((sayP ms1 lu1 lw1 ak1 aq1 an1 apt1 n1).1).length) c1 3 1 (((sayP ms1 lu1 lw1 ak1 aq1 an1 apt1 n1).1).map I), .own A2 (((sayP ms1 lu1 lw1 ak1 aq1 an1 apt1 n1).1).length) c2 3 1 (((sayP ms1 lu1 lw1 ak1 aq1 an1 apt1 n1).1).map I)] := hs5.call0 hs6'
   clear hs6'
   refine q ⟨_, rfl, rfl⟩ rfl rfl (nd (p := ((sayP ms1 lu1 lw1 ak1 aq1 an1 apt1 n1).1) = ((sayP ms1 lu1 lw1 ak1 aq1 an1 apt1 n1).1)) rfl) ?_
   refine q trivial rfl rfl (pf (v := .bool (decide (¬ (((sayP ms1 lu1 lw1 ak1 aq1 an1 apt1 n1).1) = ((sayP ms1 lu1 lw1 ak1 aq1 an1 apt1 n1).1))))) rfl rfl) ?_
   refine q trivial rfl rfl (mv (v := .bool (decide (¬ (((sayP ms1 lu1 lw1 ak1 aq1 an1 apt1 n1).1) = ((sayP ms1 lu1 lw1 ak1 aq1 an1 apt1 n1).1))))) rfl) ?_
   refine spd (p := ¬ (((sayP ms1 lu1 lw1 ak1 aq1 an1 apt1 n1).1) = ((sayP ms1 lu1 lw1 ak1 aq1 an1 apt1 n1).1))) 46 rfl (fun h3 => absurd h3 (by exact fun h => h rfl)) (fun h3 => ?_)
   refine q ⟨_, rfl, rfl⟩ rfl rfl (mv (v := .bool ((sayP ms1 lu1 lw1 ak1 aq1 an1 apt1 n1).2)) rfl) ?_
   refine q ⟨_, rfl, rfl⟩ rfl rfl (nt (b := (sayP ms1 lu1 lw1 ak1 aq1 an1 apt1 n1).2) rfl) ?_
   refine q trivial rfl rfl (pf (v := .bool (!((sayP ms1 lu1 lw1 ak1 aq1 an1 apt1 n1).2))) rfl rfl) ?_
   refine nl ?_
   refine nN ?_
   refine cd (b := !((sayP ms1 lu1 lw1 ak1 aq1 an1 apt1 n1).2)) rfl (fun h4 => ?_) (fun h4 => ?_)
   · have h5 : ((sayP ms1 lu1 lw1 ak1 aq1 an1 apt1 n1).2) = false := by simpa using h4
     refine sq ?_
     refine rg ?_
     refine q trivial rfl rfl (mv (v := .bool ((sayP ms1 lu1 lw1 ak1 aq1 an1 apt1 n1).2)) rfl) ?_
     refine q trivial rfl rfl (mv (v := .bool ((sayP ms1 lu1 lw1 ak1 aq1 an1 apt1 n1).2)) rfl) ?_
     refine q trivial rfl rfl (eqb (a := ((sayP ms1 lu1 lw1 ak1 aq1 an1 apt1 n1).2)) (b := ((sayP ms1 lu1 lw1 ak1 aq1 an1 apt1 n1).2)) tb4 rfl rfl) ?_
     refine q trivial rfl rfl (mv (v := .bool (decide (((sayP ms1 lu1 lw1 ak1 aq1 an1 apt1 n1).2) = ((sayP ms1 lu1 lw1 ak1 aq1 an1 apt1 n1).2)))) rfl) ?_
     refine spd (p := ((sayP ms1 lu1 lw1 ak1 aq1 an1 apt1 n1).2) = ((sayP ms1 lu1 lw1 ak1 aq1 an1 apt1 n1).2)) 53 rfl (fun h6 => ?_) (fun h6 => absurd (by rfl) h6)
     refine q ⟨_, rfl, rfl⟩ rfl rfl (mv (v := .slice A1 (((sayP ms1 lu1 lw1 ak1 aq1 an1 apt1 n1).1).length) c1) rfl) ?_
     refine q ⟨_, rfl, rfl⟩ rfl rfl (mv (v := .slice A2 (((sayP ms1 lu1 lw1 ak1 aq1 an1 apt1 n1).1).length) c2) rfl) ?_
     refine cl ⟨_, rfl, rfl⟩ rfl (sameBytes (Axs := A1) (cxs := c1) (xs := (sayP ms1 lu1 lw1 ak1 aq1 an1 apt1 n1).1) (Abs := A2) (cbs := c2) (bs := (sayP ms1 lu1 lw1 ak1 aq1 an1 apt1 n1).1) (w := _) (hxs := (hs6.sl0 3 rfl)) (hbs := (hs6.sl0 4 rfl))) ?_
     rintro _ w7 ⟨rfl, hs7'⟩
     have hs7 : SH w w7 [] [.own Am1 ms1.length cm1 3 1 (ms1.map I), .own Aq1 aq1.length cq1 3 1 (aq1.map I), .blk b1 29 [.slice Am1 ms1.length cm1, Str lu1, Str lw1, I ak1, .slice Aq1 aq1.length cq1, Str an1, I apt1], .own A1 (((sayP ms1 lu1 lw1 ak1 aq1 an1 apt1 n1).1).length) c1 3 1 (((sayP ms1 lu1 lw1 ak1 aq1 an1 apt1 n1).1).map I), .own A2 (((sayP ms1 lu1 lw1 ak1 aq1 an1 apt1 n1).1).length) c2 3 1 (((sayP ms1 lu1 lw1 ak1 aq1 an1 apt1 n1).1).map I)] := hs6.call0 hs7'
     clear hs7'
     refine q trivial rfl rfl (pt (v := .bool (decide (((sayP ms1 lu1 lw1 ak1 aq1 an1 apt1 n1).1) = ((sayP ms1 lu1 lw1 ak1 aq1 an1 apt1 n1).1)))) rfl rfl) ?_
     refine q trivial rfl rfl (asg (v := .bool (decide (((sayP ms1 lu1 lw1 ak1 aq1 an1 apt1 n1).1) = ((sayP ms1 lu1 lw1 ak1 aq1 an1 apt1 n1).1)))) rfl) ?_
     refine nl ?_
     refine nN ?_
     have hs8 : SH w w7 [] [] := hs7.pick [] rfl (by decide)
     refine rt (tR ?_)
     refine fret (v := .bool (decide (((sayP ms1 lu1 lw1 ak1 aq1 an1 apt1 n1).1) = ((sayP ms1 lu1 lw1 ak1 aq1 an1 apt1 n1).1)))) (.tmp .nil) rfl ?_
     have e1 : (decide (((sayP ms1 lu1 lw1 ak1 aq1 an1 apt1 n1).1) = ((sayP ms1 lu1 lw1 ak1 aq1 an1 apt1 n1).1))) = true := by first | rfl | (simp; done) | (obtain ⟨y1, y2, y3, y4, y5, y6, y7, y8⟩ := say_laws (n := n1) (by assumption); rcases y1 with rfl | rfl | rfl <;> simp_all; done)
     exact ⟨(congrArg (Value.bool) e1), hs8⟩
   · have h7 : ((sayP ms1 lu1 lw1 ak1 aq1 an1 apt1 n1).2) = true := by simpa using h4
     refine sk ?_
     refine nN ?_
     have hs9 : SH w w6 [] [.own Am1 ms1.length cm1 3 1 (ms1.map I), .own Aq1 aq1.length cq1 3 1 (aq1.map I), .blk b1 29 [.slice Am1 ms1.length cm1, Str lu1, Str lw1, I ak1, .slice Aq1 aq1.length cq1, Str an1, I apt1]] := hs6.pick [0, 1, 2] rfl (by decide)
     refine sq ?_
     refine rg ?_
     refine q trivial rfl rfl (ldg (vs := [.slice Am1 ms1.length cm1, Str lu1, Str lw1, I ak1, .slice Aq1 aq1.length cq1, Str an1, I apt1]) hs9 2 rfl rfl rfl rfl ag29) ?_
     refine cl trivial rfl (iClientSay (Ams := Am1) (cms := cm1) (ms := ms1) (lu := lu1) (lw := lw1) (ak := ak1) (Aaq := Aq1) (caq := cq1) (aq := aq1) (an := an1) (apt := apt1) (n := 3) (w := _) (hms := (hs9.sl0 0 rfl)) (hlu_n := (by first | (first | omega | (simp; done) | (simp; omega)) | (have hsy := sayP_len ms1 lu1 lw1 ak1 aq1 an1 apt1 n1; have hhl := helloP_len ms1; have hll := loginP_len lu1 lw1; have hrl := reqP_len 1 ak1 aq1 an1 apt1; first | omega | (simp; done) | (simp; omega)))) (hlw_n := (by first | (first | omega | (simp; done) | (simp; omega)) | (have hsy := sayP_len ms1 lu1 lw1 ak1 aq1 an1 apt1 n1; have hhl := helloP_len ms1; have hll := loginP_len lu1 lw1; have hrl := reqP_len 1 ak1 aq1 an1 apt1; first | omega | (simp; done) | (simp; omega)))) (haq := (hs9.sl0 1 rfl)) (han_n := (by first | (first | omega | (simp; done) | (simp; omega)) | (have hsy := sayP_len ms1 lu1 lw1 ak1 aq1 an1 apt1 n1; have hhl := helloP_len ms1; have hll := loginP_len lu1 lw1; have hrl := reqP_len 1 ak1 aq1 an1 apt1; first | omega | (simp; done) | (simp; omega))))) ?_
     rintro _ w8 ⟨A3, c3, rfl, hs10'⟩
     have hs10 : SH w w8 [] [.own Am1 ms1.length cm1 3 1 (ms1.map I), .own Aq1 aq1.length cq1 3 1 (aq1.map I), .blk b1 29 [.slice Am1 ms1.length cm1, Str lu1, Str lw1, I ak1, .slice Aq1 aq1.length cq1, Str an1, I apt1], .own A3 (((sayP ms1 lu1 lw1 ak1 aq1 an1 apt1 3).1).length) c3 3 1 (((sayP ms1 lu1 lw1 ak1 aq1 an1 apt1 3).1).map I)] := hs9.call0 hs10'
     clear hs10'
     refine q trivial rfl rfl (mv (v := .tuple #[.slice A3 (((sayP ms1 lu1 lw1 ak1 aq1 an1 apt1 3).1).length) c3, .bool ((sayP ms1 lu1 lw1 ak1 aq1 an1 apt1 3).2)]) rfl) ?_
     refine q trivial rfl rfl (xt 0 (v := .slice A3 (((sayP ms1 lu1 lw1 ak1 aq1 an1 apt1 3).1).length) c3) rfl rfl) ?_
     refine q trivial rfl rfl (xt 1 (v := .bool ((sayP ms1 lu1 lw1 ak1 aq1 an1 apt1 3).2)) rfl rfl) ?_
     refine q trivial rfl rfl (asg (v := .slice A3 (((sayP ms1 lu1 lw1 ak1 aq1 an1 apt1 3).1).length) c3) rfl) ?_
     refine q trivial rfl rfl (asg (v := .bool ((sayP ms1 lu1 lw1 ak1 aq1 an1 apt1 3).2)) rfl) ?_
     refine nl ?_
     refine nN ?_
     refine sq ?_
     refine rg ?_
     refine q trivial rfl rfl (ldg (vs := [.slice Am1 ms1.length cm1, Str lu1, Str lw1, I ak1, .slice Aq1 aq1.length cq1, Str an1, I apt1]) hs10 2 rfl rfl rfl rfl ag29) ?_
     refine cl trivial rfl (iClientSay (Ams := Am1) (cms := cm1) (ms := ms1) (lu := lu1) (lw := lw1) (ak := ak1) (Aaq := Aq1) (caq := cq1) (aq := aq1) (an := an1) (apt := apt1) (n := 4) (w := _) (hms := (hs10.sl0 0 rfl)) (hlu_n := (by first | (first | omega | (simp; done) | (simp; omega)) | (have hsy := sayP_len ms1 lu1 lw1 ak1 aq1 an1 apt1 n1; have hhl := helloP_len ms1; have hll := loginP_len lu1 lw1; have hrl := reqP_len 1 ak1 aq1 an1 apt1; first | omega | (simp; done) | (simp; omega)))) (hlw_n := (by first | (first | omega | (simp; done) | (simp; omega)) | (have hsy := sayP_len ms1 lu1 lw1 ak1 aq1 an1 apt1 n1; have hhl := helloP_len ms1; have hll := loginP_len lu1 lw1; have hrl := reqP_len 1 ak1 aq1 an1 apt1; first | omega | (simp; done) | (simp; omega)))) (haq := (hs10.sl0 1 rfl)) (han_n := (by first | (first | omega | (simp; done) | (simp; omega)) | (have hsy := sayP_len ms1 lu1 lw1 ak1 aq1 an1 apt1 n1; have hhl := helloP_len ms1; have hll := loginP_len lu1 lw1; have hrl := reqP_len 1 ak1 aq1 an1 apt1; first | omega | (simp; done) | (simp; omega))))) ?_
     rintro _ w9 ⟨A4, c4, rfl, hs11'⟩
     have hs11 : SH w w9 [] [.own Am1 ms1.length cm1 3 1 (ms1.map I), .own Aq1 aq1.length cq1 3 1 (aq1.map I), .blk b1 29 [.slice Am1 ms1.length cm1, Str lu1, Str lw1, I ak1, .slice Aq1 aq1.length cq1, Str an1, I apt1], .own A3 (((sayP ms1 lu1 lw1 ak1 aq1 an1 apt1 3).1).length) c3 3 1 (((sayP ms1 lu1 lw1 ak1 aq1 an1 apt1 3).1).map I), .own A4 (((sayP ms1 lu1 lw1 ak1 aq1 an1 apt1 4).1).length) c4 3 1 (((sayP ms1 lu1 lw1 ak1 aq1 an1 apt1 4).1).map I)] := hs10.call0 hs11'
     clear hs11'
     refine q trivial rfl rfl (mv (v := .tuple #[.slice A4 (((sayP ms1 lu1 lw1 ak1 aq1 an1 apt1 4).1).length) c4, .bool ((sayP ms1 lu1 lw1 ak1 aq1 an1 apt1 4).2)]) rfl) ?_
     refine q trivial rfl rfl (xt 0 (v := .slice A4 (((sayP ms1 lu1 lw1 ak1 aq1 an1 apt1 4).1).length) c4) rfl rfl) ?_
     refine q trivial rfl rfl (xt 1 (v := .bool ((sayP ms1 lu1 lw1 ak1 aq1 an1 apt1 4).2)) rfl rfl) ?_
     refine q trivial rfl rfl (asg (v := .slice A4 (((sayP ms1 lu1 lw1 ak1 aq1 an1 apt1 4).1).length) c4) rfl) ?_
     refine q trivial rfl rfl (asg (v := .bool ((sayP ms1 lu1 lw1 ak1 aq1 an1 apt1 4).2)) rfl) ?_
     refine nl ?_
     refine nN ?_
     have hs12 : SH w w9 [] [.own Am1 ms1.length cm1 3 1 (ms1.map I), .own Aq1 aq1.length cq1 3 1 (aq1.map I), .blk b1 29 [.slice Am1 ms1.length cm1, Str lu1, Str lw1, I ak1, .slice Aq1 aq1.length cq1, Str an1, I apt1]] := hs11.pick [0, 1, 2] rfl (by decide)
     refine sq ?_
     refine rg ?_
     refine q trivial rfl rfl (ldg (vs := [.slice Am1 ms1.length cm1, Str lu1, Str lw1, I ak1, .slice Aq1 aq1.length cq1, Str an1, I apt1]) hs12 2 rfl rfl rfl rfl ag29) ?_
     refine cl trivial rfl (iClientSay (Ams := Am1) (cms := cm1) (ms := ms1) (lu := lu1) (lw := lw1) (ak := ak1) (Aaq := Aq1) (caq := cq1) (aq := aq1) (an := an1) (apt := apt1) (n := 0) (w := _) (hms := (hs12.sl0 0 rfl)) (hlu_n := (by first | (first | omega | (simp; done) | (simp; omega)) | (have hsy := sayP_len ms1 lu1 lw1 ak1 aq1 an1 apt1 n1; have hhl := helloP_len ms1; have hll := loginP_len lu1 lw1; have hrl := reqP_len 1 ak1 aq1 an1 apt1; first | omega | (simp; done) | (simp; omega)))) (hlw_n := (by first | (first | omega | (simp; done) | (simp; omega)) | (have hsy := sayP_len ms1 lu1 lw1 ak1 aq1 an1 apt1 n1; have hhl := helloP_len ms1; have hll := loginP_len lu1 lw1; have hrl := reqP_len 1 ak1 aq1 an1 apt1; first | omega | (simp; done) | (simp; omega)))) (haq := (hs12.sl0 1 rfl)) (han_n := (by first | (first | omega | (simp; done) | (simp; omega)) | (have hsy := sayP_len ms1 lu1 lw1 ak1 aq1 an1 apt1 n1; have hhl := helloP_len ms1; have hll := loginP_len lu1 lw1; have hrl := reqP_len 1 ak1 aq1 an1 apt1; first | omega | (simp; done) | (simp; omega))))) ?_
     rintro _ w10 ⟨A5, c5, rfl, hs13'⟩
     have hs13 : SH w w10 [] [.own Am1 ms1.length cm1 3 1 (ms1.map I), .own Aq1 aq1.length cq1 3 1 (aq1.map I), .blk b1 29 [.slice Am1 ms1.length cm1, Str lu1, Str lw1, I ak1, .slice Aq1 aq1.length cq1, Str an1, I apt1], .own A5 (((sayP ms1 lu1 lw1 ak1 aq1 an1 apt1 0).1).length) c5 3 1 (((sayP ms1 lu1 lw1 ak1 aq1 an1 apt1 0).1).map I)] := hs12.call0 hs13'
     clear hs13'
     refine q trivial rfl rfl (mv (v := .tuple #[.slice A5 (((sayP ms1 lu1 lw1 ak1 aq1 an1 apt1 0).1).length) c5, .bool ((sayP ms1 lu1 lw1 ak1 aq1 an1 apt1 0).2)]) rfl) ?_
     refine q trivial rfl rfl (xt 0 (v := .slice A5 (((sayP ms1 lu1 lw1 ak1 aq1 an1 apt1 0).1).length) c5) rfl rfl) ?_
     refine q trivial rfl rfl (xt 1 (v := .bool ((sayP ms1 lu1 lw1 ak1 aq1 an1 apt1 0).2)) rfl rfl) ?_
     refine q trivial rfl rfl (asg (v := .slice A5 (((sayP ms1 lu1 lw1 ak1 aq1 an1 apt1 0).1).length) c5) rfl) ?_
     refine q trivial rfl rfl (asg (v := .bool ((sayP ms1 lu1 lw1 ak1 aq1 an1 apt1 0).2)) rfl) ?_
     refine nl ?_
     refine nN ?_
     refine sq ?_
     refine rg ?_
     refine q trivial rfl rfl (ldg (vs := [.slice Am1 ms1.length cm1, Str lu1, Str lw1, I ak1, .slice Aq1 aq1.length cq1, Str an1, I apt1]) hs13 2 rfl rfl rfl rfl ag29) ?_
     refine cl trivial rfl (iClientSay (Ams := Am1) (cms := cm1) (ms := ms1) (lu := lu1) (lw := lw1) (ak := ak1) (Aaq := Aq1) (caq := cq1) (aq := aq1) (an := an1) (apt := apt1) (n := 2) (w := _) (hms := (hs13.sl0 0 rfl)) (hlu_n := (by first | (first | omega | (simp; done) | (simp; omega)) | (have hsy := sayP_len ms1 lu1 lw1 ak1 aq1 an1 apt1 n1; have hhl := helloP_len ms1; have hll := loginP_len lu1 lw1; have hrl := reqP_len 1 ak1 aq1 an1 apt1; first | omega | (simp; done) | (simp; omega)))) (hlw_n := (by first | (first | omega | (simp; done) | (simp; omega)) | (have hsy := sayP_len ms1 lu1 lw1 ak1 aq1 an1 apt1 n1; have hhl := helloP_len ms1; have hll := loginP_len lu1 lw1; have hrl := reqP_len 1 ak1 aq1 an1 apt1; first | omega | (simp; done) | (simp; omega)))) (haq := (hs13.sl0 1 rfl)) (han_n := (by first | (first | omega | (simp; done) | (simp; omega)) | (have hsy := sayP_len ms1 lu1 lw1 ak1 aq1 an1 apt1 n1; have hhl := helloP_len ms1; have hll := loginP_len lu1 lw1; have hrl := reqP_len 1 ak1 aq1 an1 apt1; first | omega | (simp; done) | (simp; omega))))) ?_
     rintro _ w11 ⟨A6, c6, rfl, hs14'⟩
     have hs14 : SH w w11 [] [.own Am1 ms1.length cm1 3 1 (ms1.map I), .own Aq1 aq1.length cq1 3 1 (aq1.map I), .blk b1 29 [.slice Am1 ms1.length cm1, Str lu1, Str lw1, I ak1, .slice Aq1 aq1.length cq1, Str an1, I apt1], .own A5 (((sayP ms1 lu1 lw1 ak1 aq1 an1 apt1 0).1).length) c5 3 1 (((sayP ms1 lu1 lw1 ak1 aq1 an1 apt1 0).1).map I), .own A6 (((sayP ms1 lu1 lw1 ak1 aq1 an1 apt1 2).1).length) c6 3 1 (((sayP ms1 lu1 lw1 ak1 aq1 an1 apt1 2).1).map I)] := hs13.call0 hs14'
     clear hs14'
     refine q trivial rfl rfl (mv (v := .tuple #[.slice A6 (((sayP ms1 lu1 lw1 ak1 aq1 an1 apt1 2).1).length) c6, .bool ((sayP ms1 lu1 lw1 ak1 aq1 an1 apt1 2).2)]) rfl) ?_
     refine q trivial rfl rfl (xt 0 (v := .slice A6 (((sayP ms1 lu1 lw1 ak1 aq1 an1 apt1 2).1).length) c6) rfl rfl) ?_
     refine q trivial rfl rfl (xt 1 (v := .bool ((sayP ms1 lu1 lw1 ak1 aq1 an1 apt1 2).2)) rfl rfl) ?_
     refine q trivial rfl rfl (asg (v := .slice A6 (((sayP ms1 lu1 lw1 ak1 aq1 an1 apt1 2).1).length) c6) rfl) ?_
     refine q trivial rfl rfl (asg (v := .bool ((sayP ms1 lu1 lw1 ak1 aq1 an1 apt1 2).2)) rfl) ?_
     refine nl ?_
     refine nN ?_
     have hs15 : SH w w11 [] [] := hs14.pick [] rfl (by decide)
     refine sq ?_
     refine rg ?_
     refine q trivial rfl rfl (mv (v := .bool ((sayP ms1 lu1 lw1 ak1 aq1 an1 apt1 3).2)) rfl) ?_
     refine q trivial rfl rfl (nt (b := (sayP ms1 lu1 lw1 ak1 aq1 an1 apt1 3).2) rfl) ?_
     refine q trivial rfl rfl (mv (v := .bool (!((sayP ms1 lu1 lw1 ak1 aq1 an1 apt1 3).2))) rfl) ?_
     refine spl (b := !((sayP ms1 lu1 lw1 ak1 aq1 an1 apt1 3).2)) 80 rfl (fun h8 => ?_) (fun h8 => ?_)
     · have h9 : ((sayP ms1 lu1 lw1 ak1 aq1 an1 apt1 3).2) = false := by simpa using h8
       refine q ⟨_, rfl, rfl⟩ rfl rfl (mv (v := .bool ((sayP ms1 lu1 lw1 ak1 aq1 an1 apt1 4).2)) rfl) ?_
       refine q ⟨_, rfl, rfl⟩ rfl rfl (nt (b := (sayP ms1 lu1 lw1 ak1 aq1 an1 apt1 4).2) rfl) ?_
       refine q trivial rfl rfl (pt (v := .bool (!((sayP ms1 lu1 lw1 ak1 aq1 an1 apt1 4).2))) rfl rfl) ?_
       refine q trivial rfl rfl (mv (v := .bool (!((sayP ms1 lu1 lw1 ak1 aq1 an1 apt1 4).2))) rfl) ?_
       refine spl (b := !((sayP ms1 lu1 lw1 ak1 aq1 an1 apt1 4).2)) 84 rfl (fun h10 => ?_) (fun h10 => ?_)
       · have h11 : ((sayP ms1 lu1 lw1 ak1 aq1 an1 apt1 4).2) = false := by simpa using h10
         refine q ⟨_, rfl, rfl⟩ rfl rfl (mv (v := .bool ((sayP ms1 lu1 lw1 ak1 aq1 an1 apt1 0).2)) rfl) ?_
         refine q trivial rfl rfl (pt (v := .bool ((sayP ms1 lu1 lw1 ak1 aq1 an1 apt1 0).2)) rfl rfl) ?_
         refine q trivial rfl rfl (mv (v := .bool ((sayP ms1 lu1 lw1 ak1 aq1 an1 apt1 0).2)) rfl) ?_
         refine spl (b := (sayP ms1 lu1 lw1 ak1 aq1 an1 apt1 0).2) 87 rfl (fun h12 => ?_) (fun h12 => ?_)
         · refine q ⟨_, rfl, rfl⟩ rfl rfl (mv (v := .bool ((sayP ms1 lu1 lw1 ak1 aq1 an1 apt1 2).2)) rfl) ?_
           refine q trivial rfl rfl (pt (v := .bool ((sayP ms1 lu1 lw1 ak1 aq1 an1 apt1 2).2)) rfl rfl) ?_
           refine q trivial rfl rfl (asg (v := .bool ((sayP ms1 lu1 lw1 ak1 aq1 an1 apt1 2).2)) rfl) ?_
           refine nl ?_
           refine nN ?_
           refine rt ?_
           refine fret (v := .bool ((sayP ms1 lu1 lw1 ak1 aq1 an1 apt1 2).2)) (.tmp .nil) rfl ?_
           have e2 : ((sayP ms1 lu1 lw1 ak1 aq1 an1 apt1 2).2) = true := by first | rfl | (simp; done) | (obtain ⟨y1, y2, y3, y4, y5, y6, y7, y8⟩ := say_laws (n := n1) (by assumption); rcases y1 with rfl | rfl | rfl <;> simp_all; done)
           exact ⟨(congrArg (Value.bool) e2), hs15⟩
         · refine gk false rfl rfl rfl rfl rfl ?_
           refine q trivial rfl rfl (pf (v := .bool false) rfl rfl) ?_
           refine q trivial rfl rfl (asg (v := .bool false) rfl) ?_
           refine nl ?_
           refine nN ?_
           refine rt ?_
           refine fret (v := .bool false) (.tmp .nil) rfl ?_
           have e3 : false = true := by first | rfl | (simp; done) | (obtain ⟨y1, y2, y3, y4, y5, y6, y7, y8⟩ := say_laws (n := n1) (by assumption); rcases y1 with rfl | rfl | rfl <;> simp_all; done)
           exact ⟨(congrArg (Value.bool) e3), hs15⟩
       · have h13 : ((sayP ms1 lu1 lw1 ak1 aq1 an1 apt1 4).2) = true := by simpa using h10
         refine gk false rfl rfl rfl rfl rfl ?_
         refine q trivial rfl rfl (pf (v := .bool false) rfl rfl) ?_
         refine q trivial rfl rfl (mv (v := .bool false) rfl) ?_
         refine gk false rfl rfl rfl rfl rfl ?_
         refine q trivial rfl rfl (pf (v := .bool false) rfl rfl) ?_
         refine q trivial rfl rfl (asg (v := .bool false) rfl) ?_
         refine nl ?_
         refine nN ?_
         refine rt ?_
         refine fret (v := .bool false) (.tmp .nil) rfl ?_
         have e4 : false = true := by first | rfl | (simp; done) | (obtain ⟨y1, y2, y3, y4, y5, y6, y7, y8⟩ := say_laws (n := n1) (by assumption); rcases y1 with rfl | rfl | rfl <;> simp_all; done)
         exact ⟨(congrArg (Value.bool) e4), hs15⟩
     · have h14 : ((sayP ms1 lu1 lw1 ak1 aq1 an1 apt1 3).2) = true := by simpa using h8
       refine gk false rfl rfl rfl rfl rfl ?_
       refine gk false rfl rfl rfl rfl rfl ?_
       refine q trivial rfl rfl (pf (v := .bool false) rfl rfl) ?_
       refine q trivial rfl rfl (mv (v := .bool false) rfl) ?_
       refine gk false rfl rfl rfl rfl rfl ?_
       refine q trivial rfl rfl (pf (v := .bool false) rfl rfl) ?_
       refine q trivial rfl rfl (mv (v := .bool false) rfl) ?_
       refine gk false rfl rfl rfl rfl rfl ?_
       refine q trivial rfl rfl (pf (v := .bool false) rfl rfl) ?_
       refine q trivial rfl rfl (asg (v := .bool false) rfl) ?_
       refine nl ?_
       refine nN ?_
       refine rt ?_
       refine fret (v := .bool false) (.tmp .nil) rfl ?_
       have e5 : false = true := by first | rfl | (simp; done) | (obtain ⟨y1, y2, y3, y4, y5, y6, y7, y8⟩ := say_laws (n := n1) (by assumption); rcases y1 with rfl | rfl | rfl <;> simp_all; done)
       exact ⟨(congrArg (Value.bool) e5), hs15⟩

end Go.Proofs.YtpddahloogjghaaDoor
