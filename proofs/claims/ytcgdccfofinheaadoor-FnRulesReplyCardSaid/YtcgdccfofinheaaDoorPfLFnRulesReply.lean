/-
  Part of the proofs over this seat: what each function of the program computes, function by function (the text is written by a program of this hand-in's own).
  Conditions: each theorem states its own.
-/
import Derived.Test.YtcgdccfofinheaaDoorPfWalks5
namespace Go.Proofs.YtcgdccfofinheaaDoor
open Go.PF
set_option maxRecDepth 100000
set_option linter.unusedSimpArgs false
set_option linter.unusedVariables false

theorem lRulesReply {Acs : Option Addr} {ccs : Nat} (cs : List UInt8) (w : World) (hcs : Sl w [] 1 Acs cs.length ccs (cs.map U)) (hGp : Lib.TabIs Tryd.prog w "internal/strconv.uint64pow10" .u64 Lib.pow10Tab) : Does Tryd.prog 8 [.slice Acs cs.length ccs] w (fun v w' => v = .bool true ∧ SH w w' [] []) := by
 refine fn_enter (N := 70) Tryd.func8 rfl (by kernel_rfl) rfl rfl rfl ?_
 have hs0 : SH w w [] [] := SH.refl w []
 have hcs_m : cs.length ≤ 9223372036854775807 := Nat.le_trans hcs.cap hcs.capMax
 refine sq ?_
 refine rg ?_
 refine q trivial rfl rfl (asg (v := .bool false) rfl) ?_
 refine nl ?_
 refine nN ?_
 refine sq ?_
 refine sq ?_
 refine rg ?_
 refine q trivial rfl rfl (mv (v := .slice Acs cs.length ccs) rfl) ?_
 refine q trivial rfl rfl (lnA (n := cs.length) sl22 rfl) ?_
 refine q trivial rfl rfl (gtr (k := .i64) (a := ((cs.length : Nat) : Int)) (b := 1048576) rfl rfl) ?_
 refine nl ?_
 refine nN ?_
 refine cdd (p := (1048576 : Int) < ((cs.length : Nat) : Int)) rfl (fun h1 => ?_) (fun h1 => ?_)
 · refine sq ?_
   refine rg ?_
   refine q trivial rfl rfl (asg (v := .bool true) rfl) ?_
   refine nl ?_
   refine nN ?_
   refine rt (tR ?_)
   refine fret (v := .bool true) (.tmp .nil) rfl ?_
   exact ⟨rfl, hs0⟩
 · refine sk ?_
   refine nN ?_
   refine sq ?_
   refine rg ?_
   refine q trivial rfl rfl (mv (v := .slice Acs cs.length ccs) rfl) ?_
   refine cl trivial rfl (drawRulesReply (Acs := Acs) (ccs := ccs) (cs := cs) (w := _) (hcs := (hcs.up0 hs0))) ?_
   rintro _ w1 ⟨A1, c1, Aq1, cq1, r1, cm1, ak1, aq1, an1, apt1, rfl, p1, p2, p3, p4, hs1'⟩
   have hs1 : SH w w1 [] [.own A1 r1.length c1 83 3 (r1.flatMap gRule), .own Aq1 aq1.length cq1 3 1 (aq1.map I)] := hs0.call0 hs1'
   clear hs1'
   refine q trivial rfl rfl (mv (v := .tuple #[.slice A1 r1.length c1, .agg #[I cm1, I ak1, .slice Aq1 aq1.length cq1, Str an1, I apt1]]) rfl) ?_
   refine q trivial rfl rfl (xt 0 (v := .slice A1 r1.length c1) rfl rfl) ?_
   refine q trivial rfl rfl (xt 1 (v := .agg #[I cm1, I ak1, .slice Aq1 aq1.length cq1, Str an1, I apt1]) rfl rfl) ?_
   refine al (v := .agg #[I 0, I 0, ns, Str [], I 0]) (cs := [I 0, I 0, ns, Str [], I 0]) hs1 tz44 rfl trivial rfl (fun b1 w2 (hs2 : SH w w2 [] [.own A1 r1.length c1 83 3 (r1.flatMap gRule), .own Aq1 aq1.length cq1 3 1 (aq1.map I), .blk b1 44 [I 0, I 0, ns, Str [], I 0]]) => ?_)
   refine q trivial rfl rfl (asg (v := .slice A1 r1.length c1) rfl) ?_
   refine stg (vs := [I cm1, I ak1, .slice Aq1 aq1.length cq1, Str an1, I apt1]) hs2 2 rfl rfl rfl rfl rfl rfl rfl ag44 trivial (fun w3 (hs3 : SH w w3 [] [.own A1 r1.length c1 83 3 (r1.flatMap gRule), .own Aq1 aq1.length cq1 3 1 (aq1.map I), .blk b1 44 [I cm1, I ak1, .slice Aq1 aq1.length cq1, Str an1, I apt1]]) => ?_)
   refine nl ?_
   refine nN ?_
   refine sq ?_
   refine rg ?_
   refine q trivial rfl rfl (mv (v := .slice A1 r1.length c1) rfl) ?_
   refine q trivial rfl rfl (ldg (vs := [I cm1, I ak1, .slice Aq1 aq1.length cq1, Str an1, I apt1]) hs3 2 rfl rfl rfl rfl ag44) ?_
   refine cl trivial rfl (iRulesReply (Azs := A1) (czs := c1) (zs := r1) (c := cm1) (ak := ak1) (Aaq := Aq1) (caq := cq1) (aq := aq1) (an := an1) (apt := apt1) (w := _) (hzs := (hs3.sl0 0 rfl)) (hzs_e := (by exact fun u hu => Nat.le_trans (p2 u hu) (by decide))) (haq := (hs3.sl0 1 rfl)) (han_n := (by first | omega | (simp; done) | (simp; omega))) (hGp := (tab_up hGp hs3))) ?_
   rintro _ w4 ⟨A2, c2, rfl, hs4'⟩
   have hs4 : SH w w4 [] [.own A1 r1.length c1 83 3 (r1.flatMap gRule), .own Aq1 aq1.length cq1 3 1 (aq1.map I), .blk b1 44 [I cm1, I ak1, .slice Aq1 aq1.length cq1, Str an1, I apt1], .own A2 (((ruleReply r1 cm1 ak1 aq1 an1 apt1).1).length) c2 3 1 (((ruleReply r1 cm1 ak1 aq1 an1 apt1).1).map I)] := hs3.call0 hs4'
   clear hs4'
   refine q trivial rfl rfl (mv (v := .tuple #[.slice A2 (((ruleReply r1 cm1 ak1 aq1 an1 apt1).1).length) c2, .bool ((ruleReply r1 cm1 ak1 aq1 an1 apt1).2)]) rfl) ?_
   refine q trivial rfl rfl (xt 0 (v := .slice A2 (((ruleReply r1 cm1 ak1 aq1 an1 apt1).1).length) c2) rfl rfl) ?_
   refine q trivial rfl rfl (xt 1 (v := .bool ((ruleReply r1 cm1 ak1 aq1 an1 apt1).2)) rfl rfl) ?_
   refine q trivial rfl rfl (asg (v := .slice A2 (((ruleReply r1 cm1 ak1 aq1 an1 apt1).1).length) c2) rfl) ?_
   refine q trivial rfl rfl (asg (v := .bool ((ruleReply r1 cm1 ak1 aq1 an1 apt1).2)) rfl) ?_
   refine nl ?_
   refine nN ?_
   refine sq ?_
   refine rg ?_
   refine q trivial rfl rfl (mv (v := .slice A1 r1.length c1) rfl) ?_
   refine q trivial rfl rfl (ldg (vs := [I cm1, I ak1, .slice Aq1 aq1.length cq1, Str an1, I apt1]) hs4 2 rfl rfl rfl rfl ag44) ?_
   refine cl trivial rfl (sRulesReply (Azs := A1) (czs := c1) (zs := r1) (c := cm1) (ak := ak1) (Aaq := Aq1) (caq := cq1) (aq := aq1) (an := an1) (apt := apt1) (w := _) (hzs := (hs4.sl0 0 rfl)) (hzs_e := (by exact fun u hu => Nat.le_trans (p2 u hu) (by decide))) (haq := (hs4.sl0 1 rfl)) (han_n := (by first | omega | (simp; done) | (simp; omega)))) ?_
   rintro _ w5 ⟨A3, c3, rfl, hs5'⟩
   have hs5 : SH w w5 [] [.own A1 r1.length c1 83 3 (r1.flatMap gRule), .own Aq1 aq1.length cq1 3 1 (aq1.map I), .blk b1 44 [I cm1, I ak1, .slice Aq1 aq1.length cq1, Str an1, I apt1], .own A2 (((ruleReply r1 cm1 ak1 aq1 an1 apt1).1).length) c2 3 1 (((ruleReply r1 cm1 ak1 aq1 an1 apt1).1).map I), .own A3 (((ruleReply r1 cm1 ak1 aq1 an1 apt1).1).length) c3 3 1 (((ruleReply r1 cm1 ak1 aq1 an1 apt1).1).map I)] := hs4.call0 hs5'
   clear hs5'
   refine q trivial rfl rfl (mv (v := .tuple #[.slice A3 (((ruleReply r1 cm1 ak1 aq1 an1 apt1).1).length) c3, .bool ((ruleReply r1 cm1 ak1 aq1 an1 apt1).2)]) rfl) ?_
   refine q trivial rfl rfl (xt 0 (v := .slice A3 (((ruleReply r1 cm1 ak1 aq1 an1 apt1).1).length) c3) rfl rfl) ?_
   refine q trivial rfl rfl (xt 1 (v := .bool ((ruleReply r1 cm1 ak1 aq1 an1 apt1).2)) rfl rfl) ?_
   refine q trivial rfl rfl (asg (v := .slice A3 (((ruleReply r1 cm1 ak1 aq1 an1 apt1).1).length) c3) rfl) ?_
   refine q trivial rfl rfl (asg (v := .bool ((ruleReply r1 cm1 ak1 aq1 an1 apt1).2)) rfl) ?_
   refine nl ?_
   refine nN ?_
   refine sq ?_
   refine sq ?_
   refine rg ?_
   refine q trivial rfl rfl (mv (v := .bool ((ruleReply r1 cm1 ak1 aq1 an1 apt1).2)) rfl) ?_
   refine q trivial rfl rfl (mv (v := .bool ((ruleReply r1 cm1 ak1 aq1 an1 apt1).2)) rfl) ?_
   refine q trivial rfl rfl (neb (a := ((ruleReply r1 cm1 ak1 aq1 an1 apt1).2)) (b := ((ruleReply r1 cm1 ak1 aq1 an1 apt1).2)) tb4 rfl rfl) ?_
   refine q trivial rfl rfl (mv (v := .bool (decide (((ruleReply r1 cm1 ak1 aq1 an1 apt1).2) ≠ ((ruleReply r1 cm1 ak1 aq1 an1 apt1).2)))) rfl) ?_
   refine spd (p := ((ruleReply r1 cm1 ak1 aq1 an1 apt1).2) ≠ ((ruleReply r1 cm1 ak1 aq1 an1 apt1).2)) 35 rfl (fun h2 => absurd h2 (by exact fun h => h rfl)) (fun h2 => ?_)
   refine q ⟨_, rfl, rfl⟩ rfl rfl (mv (v := .slice A2 (((ruleReply r1 cm1 ak1 aq1 an1 apt1).1).length) c2) rfl) ?_
   refine q ⟨_, rfl, rfl⟩ rfl rfl (mv (v := .slice A3 (((ruleReply r1 cm1 ak1 aq1 an1 apt1).1).length) c3) rfl) ?_
   refine cl ⟨_, rfl, rfl⟩ rfl (sameBytes (Axs := A2) (cxs := c2) (xs := (ruleReply r1 cm1 ak1 aq1 an1 apt1).1) (Abs := A3) (cbs := c3) (bs := (ruleReply r1 cm1 ak1 aq1 an1 apt1).1) (w := _) (hxs := (hs5.sl0 3 rfl)) (hbs := (hs5.sl0 4 rfl))) ?_
   rintro _ w6 ⟨rfl, hs6'⟩
   have hs6 : SH w w6 [] [.own A1 r1.length c1 83 3 (r1.flatMap gRule), .own Aq1 aq1.length cq1 3 1 (aq1.map I), .blk b1 44 [I cm1, I ak1, .slice Aq1 aq1.length cq1, Str an1, I apt1], .own A2 (((ruleReply r1 cm1 ak1 aq1 an1 apt1).1).length) c2 3 1 (((ruleReply r1 cm1 ak1 aq1 an1 apt1).1).map I), .own A3 (((ruleReply r1 cm1 ak1 aq1 an1 apt1).1).length) c3 3 1 (((ruleReply r1 cm1 ak1 aq1 an1 apt1).1).map I)] := hs5.call0 hs6'
   clear hs6'
   refine q ⟨_, rfl, rfl⟩ rfl rfl (nd (p := ((ruleReply r1 cm1 ak1 aq1 an1 apt1).1) = ((ruleReply r1 cm1 ak1 aq1 an1 apt1).1)) rfl) ?_
   refine q trivial rfl rfl (pf (v := .bool (decide (¬ (((ruleReply r1 cm1 ak1 aq1 an1 apt1).1) = ((ruleReply r1 cm1 ak1 aq1 an1 apt1).1))))) rfl rfl) ?_
   refine q trivial rfl rfl (mv (v := .bool (decide (¬ (((ruleReply r1 cm1 ak1 aq1 an1 apt1).1) = ((ruleReply r1 cm1 ak1 aq1 an1 apt1).1))))) rfl) ?_
   refine spd (p := ¬ (((ruleReply r1 cm1 ak1 aq1 an1 apt1).1) = ((ruleReply r1 cm1 ak1 aq1 an1 apt1).1))) 41 rfl (fun h3 => absurd h3 (by exact fun h => h rfl)) (fun h3 => ?_)
   refine q ⟨_, rfl, rfl⟩ rfl rfl (mv (v := .bool ((ruleReply r1 cm1 ak1 aq1 an1 apt1).2)) rfl) ?_
   refine q ⟨_, rfl, rfl⟩ rfl rfl (nt (b := (ruleReply r1 cm1 ak1 aq1 an1 apt1).2) rfl) ?_
   refine q trivial rfl rfl (pf (v := .bool (!((ruleReply r1 cm1 ak1 aq1 an1 apt1).2))) rfl rfl) ?_
   refine nl ?_
   refine nN ?_
   refine cd (b := !((ruleReply r1 cm1 ak1 aq1 an1 apt1).2)) rfl (fun h4 => ?_) (fun h4 => ?_)
   · have h5 : ((ruleReply r1 cm1 ak1 aq1 an1 apt1).2) = false := by simpa using h4
     refine sq ?_
     refine rg ?_
     refine q trivial rfl rfl (mv (v := .bool ((ruleReply r1 cm1 ak1 aq1 an1 apt1).2)) rfl) ?_
     refine q trivial rfl rfl (mv (v := .bool ((ruleReply r1 cm1 ak1 aq1 an1 apt1).2)) rfl) ?_
     refine q trivial rfl rfl (eqb (a := ((ruleReply r1 cm1 ak1 aq1 an1 apt1).2)) (b := ((ruleReply r1 cm1 ak1 aq1 an1 apt1).2)) tb4 rfl rfl) ?_
     refine q trivial rfl rfl (mv (v := .bool (decide (((ruleReply r1 cm1 ak1 aq1 an1 apt1).2) = ((ruleReply r1 cm1 ak1 aq1 an1 apt1).2)))) rfl) ?_
     refine spd (p := ((ruleReply r1 cm1 ak1 aq1 an1 apt1).2) = ((ruleReply r1 cm1 ak1 aq1 an1 apt1).2)) 48 rfl (fun h6 => ?_) (fun h6 => absurd (by rfl) h6)
     refine q ⟨_, rfl, rfl⟩ rfl rfl (mv (v := .slice A2 (((ruleReply r1 cm1 ak1 aq1 an1 apt1).1).length) c2) rfl) ?_
     refine q ⟨_, rfl, rfl⟩ rfl rfl (mv (v := .slice A3 (((ruleReply r1 cm1 ak1 aq1 an1 apt1).1).length) c3) rfl) ?_
     refine cl ⟨_, rfl, rfl⟩ rfl (sameBytes (Axs := A2) (cxs := c2) (xs := (ruleReply r1 cm1 ak1 aq1 an1 apt1).1) (Abs := A3) (cbs := c3) (bs := (ruleReply r1 cm1 ak1 aq1 an1 apt1).1) (w := _) (hxs := (hs6.sl0 3 rfl)) (hbs := (hs6.sl0 4 rfl))) ?_
     rintro _ w7 ⟨rfl, hs7'⟩
     have hs7 : SH w w7 [] [.own A1 r1.length c1 83 3 (r1.flatMap gRule), .own Aq1 aq1.length cq1 3 1 (aq1.map I), .blk b1 44 [I cm1, I ak1, .slice Aq1 aq1.length cq1, Str an1, I apt1], .own A2 (((ruleReply r1 cm1 ak1 aq1 an1 apt1).1).length) c2 3 1 (((ruleReply r1 cm1 ak1 aq1 an1 apt1).1).map I), .own A3 (((ruleReply r1 cm1 ak1 aq1 an1 apt1).1).length) c3 3 1 (((ruleReply r1 cm1 ak1 aq1 an1 apt1).1).map I)] := hs6.call0 hs7'
     clear hs7'
     refine q trivial rfl rfl (pt (v := .bool (decide (((ruleReply r1 cm1 ak1 aq1 an1 apt1).1) = ((ruleReply r1 cm1 ak1 aq1 an1 apt1).1)))) rfl rfl) ?_
     refine q trivial rfl rfl (asg (v := .bool (decide (((ruleReply r1 cm1 ak1 aq1 an1 apt1).1) = ((ruleReply r1 cm1 ak1 aq1 an1 apt1).1)))) rfl) ?_
     refine nl ?_
     refine nN ?_
     have hs8 : SH w w7 [] [] := hs7.pick [] rfl (by decide)
     refine rt (tR ?_)
     refine fret (v := .bool (decide (((ruleReply r1 cm1 ak1 aq1 an1 apt1).1) = ((ruleReply r1 cm1 ak1 aq1 an1 apt1).1)))) (.tmp .nil) rfl ?_
     have e1 : (decide (((ruleReply r1 cm1 ak1 aq1 an1 apt1).1) = ((ruleReply r1 cm1 ak1 aq1 an1 apt1).1))) = true := by first | rfl | (simp; done) | (have hok := ruleReply_ok (by assumption : (ruleReply r1 cm1 ak1 aq1 an1 apt1).2 = true); have h5 := hok.2.2.2.1; have h6 := hok.2.2.2.2.2.1; have h7 := hok.2.2.2.2.2.2; simp_all; done)
     exact ⟨(congrArg (Value.bool) e1), hs8⟩
   · have h7 : ((ruleReply r1 cm1 ak1 aq1 an1 apt1).2) = true := by simpa using h4
     refine sk ?_
     refine nN ?_
     refine sq ?_
     refine rg ?_
     refine q trivial rfl rfl (asg (v := I 2) rfl) ?_
     refine nl ?_
     refine nN ?_
     refine sq ?_
     refine sq ?_
     refine rg ?_
     refine q trivial rfl rfl (mv (v := .slice A1 r1.length c1) rfl) ?_
     refine q trivial rfl rfl (fa 1 fo44_1 rfl) ?_
     refine q trivial rfl rfl (ldg (vs := [I ak1, .slice Aq1 aq1.length cq1, Str an1, I apt1]) hs6 2 rfl rfl rfl rfl ag25) ?_
     refine cl trivial rfl (iRulesAllow (Azs := A1) (czs := c1) (zs := r1) (ak := ak1) (Aaq := Aq1) (caq := cq1) (aq := aq1) (an := an1) (apt := apt1) (w := _) (hzs := (hs6.sl0 0 rfl)) (hzs_e := (by exact fun u hu => Nat.le_trans (p2 u hu) (by decide))) (haq := (hs6.sl0 1 rfl)) (han_n := (by first | omega | (simp; done) | (simp; omega))) (hGp := (tab_up hGp hs6))) ?_
     rintro _ w8 ⟨rfl, hs9'⟩
     have hs9 : SH w w8 [] [.own A1 r1.length c1 83 3 (r1.flatMap gRule), .own Aq1 aq1.length cq1 3 1 (aq1.map I), .blk b1 44 [I cm1, I ak1, .slice Aq1 aq1.length cq1, Str an1, I apt1], .own A2 (((ruleReply r1 cm1 ak1 aq1 an1 apt1).1).length) c2 3 1 (((ruleReply r1 cm1 ak1 aq1 an1 apt1).1).map I), .own A3 (((ruleReply r1 cm1 ak1 aq1 an1 apt1).1).length) c3 3 1 (((ruleReply r1 cm1 ak1 aq1 an1 apt1).1).map I)] := hs6.call0 hs9'
     clear hs9'
     refine nl ?_
     refine nN ?_
     have hs10 : SH w w8 [] [.own Aq1 aq1.length cq1 3 1 (aq1.map I), .blk b1 44 [I cm1, I ak1, .slice Aq1 aq1.length cq1, Str an1, I apt1], .own A2 (((ruleReply r1 cm1 ak1 aq1 an1 apt1).1).length) c2 3 1 (((ruleReply r1 cm1 ak1 aq1 an1 apt1).1).map I)] := hs9.pick [1, 2, 3] rfl (by decide)
     refine cd (b := rulesAllow r1 ak1 aq1 an1 apt1) rfl (fun h8 => ?_) (fun h8 => ?_)
     · refine rg ?_
       refine q trivial rfl rfl (asg (v := I 0) rfl) ?_
       refine nl ?_
       refine nN ?_
       refine sq ?_
       refine rg ?_
       refine q trivial rfl rfl (mv (v := I 0) rfl) ?_
       refine q trivial rfl rfl (fa 1 fo44_1 rfl) ?_
       refine q trivial rfl rfl (ldg (vs := [I ak1, .slice Aq1 aq1.length cq1, Str an1, I apt1]) hs10 1 rfl rfl rfl rfl ag25) ?_
       refine cl trivial rfl (iReplyBytes (c := 0) (ak := ak1) (Aaq := Aq1) (caq := cq1) (aq := aq1) (an := an1) (apt := apt1) (w := _) (haq := (hs10.sl0 0 rfl)) (han_n := (by first | omega | (simp; done) | (simp; omega)))) ?_
       rintro _ w9 ⟨A4, c4, rfl, hs11'⟩
       have hs11 : SH w w9 [] [.own Aq1 aq1.length cq1 3 1 (aq1.map I), .blk b1 44 [I cm1, I ak1, .slice Aq1 aq1.length cq1, Str an1, I apt1], .own A2 (((ruleReply r1 cm1 ak1 aq1 an1 apt1).1).length) c2 3 1 (((ruleReply r1 cm1 ak1 aq1 an1 apt1).1).map I), .own A4 (((replyP 0 ak1 aq1 an1 apt1).1).length) c4 3 1 (((replyP 0 ak1 aq1 an1 apt1).1).map I)] := hs10.call0 hs11'
       clear hs11'
       refine q trivial rfl rfl (mv (v := .tuple #[.slice A4 (((replyP 0 ak1 aq1 an1 apt1).1).length) c4, .bool ((replyP 0 ak1 aq1 an1 apt1).2)]) rfl) ?_
       refine q trivial rfl rfl (xt 0 (v := .slice A4 (((replyP 0 ak1 aq1 an1 apt1).1).length) c4) rfl rfl) ?_
       refine q trivial rfl rfl (xt 1 (v := .bool ((replyP 0 ak1 aq1 an1 apt1).2)) rfl rfl) ?_
       refine q trivial rfl rfl (asg (v := .slice A4 (((replyP 0 ak1 aq1 an1 apt1).1).length) c4) rfl) ?_
       refine q trivial rfl rfl (asg (v := .bool ((replyP 0 ak1 aq1 an1 apt1).2)) rfl) ?_
       refine nl ?_
       refine nN ?_
       have hs12 : SH w w9 [] [.own A2 (((ruleReply r1 cm1 ak1 aq1 an1 apt1).1).length) c2 3 1 (((ruleReply r1 cm1 ak1 aq1 an1 apt1).1).map I), .own A4 (((replyP 0 ak1 aq1 an1 apt1).1).length) c4 3 1 (((replyP 0 ak1 aq1 an1 apt1).1).map I)] := hs11.pick [2, 3] rfl (by decide)
       refine sq ?_
       refine rg ?_
       refine q trivial rfl rfl (mv (v := .bool ((replyP 0 ak1 aq1 an1 apt1).2)) rfl) ?_
       refine q trivial rfl rfl (mv (v := .bool ((replyP 0 ak1 aq1 an1 apt1).2)) rfl) ?_
       refine spl (b := (replyP 0 ak1 aq1 an1 apt1).2) 65 rfl (fun h9 => ?_) (fun h9 => ?_)
       · refine q ⟨_, rfl, rfl⟩ rfl rfl (mv (v := .slice A4 (((replyP 0 ak1 aq1 an1 apt1).1).length) c4) rfl) ?_
         refine q ⟨_, rfl, rfl⟩ rfl rfl (mv (v := .slice A2 (((ruleReply r1 cm1 ak1 aq1 an1 apt1).1).length) c2) rfl) ?_
         refine cl ⟨_, rfl, rfl⟩ rfl (sameBytes (Axs := A4) (cxs := c4) (xs := (replyP 0 ak1 aq1 an1 apt1).1) (Abs := A2) (cbs := c2) (bs := (ruleReply r1 cm1 ak1 aq1 an1 apt1).1) (w := _) (hxs := (hs12.sl0 1 rfl)) (hbs := (hs12.sl0 0 rfl))) ?_
         rintro _ w10 ⟨rfl, hs13'⟩
         have hs13 : SH w w10 [] [.own A2 (((ruleReply r1 cm1 ak1 aq1 an1 apt1).1).length) c2 3 1 (((ruleReply r1 cm1 ak1 aq1 an1 apt1).1).map I), .own A4 (((replyP 0 ak1 aq1 an1 apt1).1).length) c4 3 1 (((replyP 0 ak1 aq1 an1 apt1).1).map I)] := hs12.call0 hs13'
         clear hs13'
         refine q trivial rfl rfl (pt (v := .bool (decide (((replyP 0 ak1 aq1 an1 apt1).1) = ((ruleReply r1 cm1 ak1 aq1 an1 apt1).1)))) rfl rfl) ?_
         refine q trivial rfl rfl (asg (v := .bool (decide (((replyP 0 ak1 aq1 an1 apt1).1) = ((ruleReply r1 cm1 ak1 aq1 an1 apt1).1)))) rfl) ?_
         refine nl ?_
         refine nN ?_
         refine rt ?_
         refine fret (v := .bool (decide (((replyP 0 ak1 aq1 an1 apt1).1) = ((ruleReply r1 cm1 ak1 aq1 an1 apt1).1)))) (.tmp .nil) rfl ?_
         have e2 : (decide (((replyP 0 ak1 aq1 an1 apt1).1) = ((ruleReply r1 cm1 ak1 aq1 an1 apt1).1))) = true := by first | rfl | (simp; done) | (have hok := ruleReply_ok (by assumption : (ruleReply r1 cm1 ak1 aq1 an1 apt1).2 = true); have h5 := hok.2.2.2.1; have h6 := hok.2.2.2.2.2.1; have h7 := hok.2.2.2.2.2.2; simp_all; done)
         exact ⟨(congrArg (Value.bool) e2), (hs13.pick [] rfl (by decide))⟩
       · refine gk false rfl rfl rfl rfl rfl ?_
         refine gk false rfl rfl rfl rfl rfl ?_
         refine gk false rfl rfl rfl rfl rfl ?_
         refine q trivial rfl rfl (pf (v := .bool false) rfl rfl) ?_
         refine q trivial rfl rfl (asg (v := .bool false) rfl) ?_
         refine nl ?_
         refine nN ?_
         refine rt ?_
         refine fret (v := .bool false) (.tmp .nil) rfl ?_
         have e3 : false = true := by first | rfl | (simp; done) | (have hok := ruleReply_ok (by assumption : (ruleReply r1 cm1 ak1 aq1 an1 apt1).2 = true); have h5 := hok.2.2.2.1; have h6 := hok.2.2.2.2.2.1; have h7 := hok.2.2.2.2.2.2; simp_all; done)
         exact ⟨(congrArg (Value.bool) e3), (hs12.pick [] rfl (by decide))⟩
     · refine sk ?_
       refine nN ?_
       refine sq ?_
       refine rg ?_
       refine q trivial rfl rfl (mv (v := I 2) rfl) ?_
       refine q trivial rfl rfl (fa 1 fo44_1 rfl) ?_
       refine q trivial rfl rfl (ldg (vs := [I ak1, .slice Aq1 aq1.length cq1, Str an1, I apt1]) hs10 1 rfl rfl rfl rfl ag25) ?_
       refine cl trivial rfl (iReplyBytes (c := 2) (ak := ak1) (Aaq := Aq1) (caq := cq1) (aq := aq1) (an := an1) (apt := apt1) (w := _) (haq := (hs10.sl0 0 rfl)) (han_n := (by first | omega | (simp; done) | (simp; omega)))) ?_
       rintro _ w11 ⟨A5, c5, rfl, hs14'⟩
       have hs14 : SH w w11 [] [.own Aq1 aq1.length cq1 3 1 (aq1.map I), .blk b1 44 [I cm1, I ak1, .slice Aq1 aq1.length cq1, Str an1, I apt1], .own A2 (((ruleReply r1 cm1 ak1 aq1 an1 apt1).1).length) c2 3 1 (((ruleReply r1 cm1 ak1 aq1 an1 apt1).1).map I), .own A5 (((replyP 2 ak1 aq1 an1 apt1).1).length) c5 3 1 (((replyP 2 ak1 aq1 an1 apt1).1).map I)] := hs10.call0 hs14'
       clear hs14'
       refine q trivial rfl rfl (mv (v := .tuple #[.slice A5 (((replyP 2 ak1 aq1 an1 apt1).1).length) c5, .bool ((replyP 2 ak1 aq1 an1 apt1).2)]) rfl) ?_
       refine q trivial rfl rfl (xt 0 (v := .slice A5 (((replyP 2 ak1 aq1 an1 apt1).1).length) c5) rfl rfl) ?_
       refine q trivial rfl rfl (xt 1 (v := .bool ((replyP 2 ak1 aq1 an1 apt1).2)) rfl rfl) ?_
       refine q trivial rfl rfl (asg (v := .slice A5 (((replyP 2 ak1 aq1 an1 apt1).1).length) c5) rfl) ?_
       refine q trivial rfl rfl (asg (v := .bool ((replyP 2 ak1 aq1 an1 apt1).2)) rfl) ?_
       refine nl ?_
       refine nN ?_
       have hs15 : SH w w11 [] [.own A2 (((ruleReply r1 cm1 ak1 aq1 an1 apt1).1).length) c2 3 1 (((ruleReply r1 cm1 ak1 aq1 an1 apt1).1).map I), .own A5 (((replyP 2 ak1 aq1 an1 apt1).1).length) c5 3 1 (((replyP 2 ak1 aq1 an1 apt1).1).map I)] := hs14.pick [2, 3] rfl (by decide)
       refine sq ?_
       refine rg ?_
       refine q trivial rfl rfl (mv (v := .bool ((replyP 2 ak1 aq1 an1 apt1).2)) rfl) ?_
       refine q trivial rfl rfl (mv (v := .bool ((replyP 2 ak1 aq1 an1 apt1).2)) rfl) ?_
       refine spl (b := (replyP 2 ak1 aq1 an1 apt1).2) 65 rfl (fun h10 => ?_) (fun h10 => ?_)
       · refine q ⟨_, rfl, rfl⟩ rfl rfl (mv (v := .slice A5 (((replyP 2 ak1 aq1 an1 apt1).1).length) c5) rfl) ?_
         refine q ⟨_, rfl, rfl⟩ rfl rfl (mv (v := .slice A2 (((ruleReply r1 cm1 ak1 aq1 an1 apt1).1).length) c2) rfl) ?_
         refine cl ⟨_, rfl, rfl⟩ rfl (sameBytes (Axs := A5) (cxs := c5) (xs := (replyP 2 ak1 aq1 an1 apt1).1) (Abs := A2) (cbs := c2) (bs := (ruleReply r1 cm1 ak1 aq1 an1 apt1).1) (w := _) (hxs := (hs15.sl0 1 rfl)) (hbs := (hs15.sl0 0 rfl))) ?_
         rintro _ w12 ⟨rfl, hs16'⟩
         have hs16 : SH w w12 [] [.own A2 (((ruleReply r1 cm1 ak1 aq1 an1 apt1).1).length) c2 3 1 (((ruleReply r1 cm1 ak1 aq1 an1 apt1).1).map I), .own A5 (((replyP 2 ak1 aq1 an1 apt1).1).length) c5 3 1 (((replyP 2 ak1 aq1 an1 apt1).1).map I)] := hs15.call0 hs16'
         clear hs16'
         refine q trivial rfl rfl (pt (v := .bool (decide (((replyP 2 ak1 aq1 an1 apt1).1) = ((ruleReply r1 cm1 ak1 aq1 an1 apt1).1)))) rfl rfl) ?_
         refine q trivial rfl rfl (asg (v := .bool (decide (((replyP 2 ak1 aq1 an1 apt1).1) = ((ruleReply r1 cm1 ak1 aq1 an1 apt1).1)))) rfl) ?_
         refine nl ?_
         refine nN ?_
         refine rt ?_
         refine fret (v := .bool (decide (((replyP 2 ak1 aq1 an1 apt1).1) = ((ruleReply r1 cm1 ak1 aq1 an1 apt1).1)))) (.tmp .nil) rfl ?_
         have e4 : (decide (((replyP 2 ak1 aq1 an1 apt1).1) = ((ruleReply r1 cm1 ak1 aq1 an1 apt1).1))) = true := by first | rfl | (simp; done) | (have hok := ruleReply_ok (by assumption : (ruleReply r1 cm1 ak1 aq1 an1 apt1).2 = true); have h5 := hok.2.2.2.1; have h6 := hok.2.2.2.2.2.1; have h7 := hok.2.2.2.2.2.2; simp_all; done)
         exact ⟨(congrArg (Value.bool) e4), (hs16.pick [] rfl (by decide))⟩
       · refine gk false rfl rfl rfl rfl rfl ?_
         refine gk false rfl rfl rfl rfl rfl ?_
         refine gk false rfl rfl rfl rfl rfl ?_
         refine q trivial rfl rfl (pf (v := .bool false) rfl rfl) ?_
         refine q trivial rfl rfl (asg (v := .bool false) rfl) ?_
         refine nl ?_
         refine nN ?_
         refine rt ?_
         refine fret (v := .bool false) (.tmp .nil) rfl ?_
         have e5 : false = true := by first | rfl | (simp; done) | (have hok := ruleReply_ok (by assumption : (ruleReply r1 cm1 ak1 aq1 an1 apt1).2 = true); have h5 := hok.2.2.2.1; have h6 := hok.2.2.2.2.2.1; have h7 := hok.2.2.2.2.2.2; simp_all; done)
         exact ⟨(congrArg (Value.bool) e5), (hs15.pick [] rfl (by decide))⟩

end Go.Proofs.YtcgdccfofinheaaDoor
