/-
  Part of the proofs over this seat: what each function of the program computes, function by function (the text is written by a program of this hand-in's own).
  Conditions: each theorem states its own.
-/
import Derived.Test.YtogejeniggngjaaDoorPfWalks3
namespace Go.Proofs.YtogejeniggngjaaDoor
open Go.PF
set_option maxRecDepth 100000
set_option linter.unusedSimpArgs false
set_option linter.unusedVariables false

theorem lExactRulesAllow {Azs : Option Addr} {czs : Nat} (zs : List (List UInt8 × Int × Bool)) (ak : Int) {Aaq : Option Addr} {caq : Nat} (aq : List Int) (an : List UInt8) (apt : Int) (w : World) (hzs : Sl w [] 3 Azs zs.length czs (zs.flatMap gRule)) (hzs_e : ∀ u ∈ zs, u.1.length ≤ 9223372036854775807) (haq : Sl w [] 1 Aaq aq.length caq (aq.map I)) (han_n : an.length ≤ 9223372036854775807) (hGp : Lib.TabIs Tryd.prog w "internal/strconv.uint64pow10" .u64 Lib.pow10Tab) : Does Tryd.prog 9 [.slice Azs zs.length czs, .agg #[I ak, .slice Aaq aq.length caq, Str an, I apt]] w (fun v w' => v = .bool true ∧ SH w w' [] []) := by
 refine fn_enter (N := 45) Tryd.func9 rfl (by kernel_rfl) rfl rfl rfl ?_
 have hs0 : SH w w [] [] := SH.refl w []
 have hzs_m : zs.length ≤ 9223372036854775807 := Nat.le_trans hzs.cap hzs.capMax
 have haq_m : aq.length ≤ 9223372036854775807 := Nat.le_trans haq.cap haq.capMax
 refine sq ?_
 refine rg ?_
 refine bx (v := .agg #[I ak, .slice Aaq aq.length caq, Str an, I apt]) (cs := [I ak, .slice Aaq aq.length caq, Str an, I apt]) hs0 rfl rfl trivial rfl (fun b1 w1 (hs1 : SH w w1 [] [.blk b1 37 [I ak, .slice Aaq aq.length caq, Str an, I apt]]) => ?_)
 refine q trivial rfl rfl (asg (v := .bool false) rfl) ?_
 refine nl ?_
 refine nN ?_
 refine sq ?_
 refine rg ?_
 refine q trivial rfl rfl (asg (v := I 1048576) rfl) ?_
 refine nl ?_
 refine nN ?_
 refine sq ?_
 refine rg ?_
 refine q trivial rfl rfl (mv (v := .slice Azs zs.length czs) rfl) ?_
 refine q trivial rfl rfl (mv (v := I 1048576) rfl) ?_
 refine cl trivial rfl (szRuleS (Axs := Azs) (cxs := czs) (xs := zs) (z := 1048576) (w := _) (hxs := (hzs.up0 hs1)) (hxs_e := hzs_e) (hz := (by first | omega | assumption | (simp; done) | (simp; omega)))) ?_
 rintro _ w2 ⟨r1, rfl, p1, p2, hs2'⟩
 have hs2 : SH w w2 [] [.blk b1 37 [I ak, .slice Aaq aq.length caq, Str an, I apt]] := hs1.call0 hs2'
 clear hs2'
 refine q trivial rfl rfl (asg (v := I r1) rfl) ?_
 refine nl ?_
 refine nN ?_
 refine sq ?_
 refine sq ?_
 refine rg ?_
 refine q trivial rfl rfl (mv (v := I r1) rfl) ?_
 refine q trivial rfl rfl (lss (k := .i64) (a := r1) (b := 0) rfl rfl) ?_
 refine nl ?_
 refine nN ?_
 refine cdd (p := r1 < 0) rfl (fun h1 => ?_) (fun h1 => ?_)
 · refine sq ?_
   refine rg ?_
   refine q trivial rfl rfl (asg (v := .bool true) rfl) ?_
   refine nl ?_
   refine nN ?_
   refine rt (tR ?_)
   refine fret (v := .bool true) (.tmp .nil) rfl ?_
   exact ⟨rfl, (hs2.pick [] rfl (by decide))⟩
 · refine sk ?_
   refine nN ?_
   refine sq ?_
   refine rg ?_
   refine q trivial rfl rfl (ldg (vs := [I ak, .slice Aaq aq.length caq, Str an, I apt]) hs2 0 rfl rfl rfl rfl ag37) ?_
   refine q trivial rfl rfl (mv (v := I r1) rfl) ?_
   refine cl trivial rfl (szAddress (ak := ak) (Aaq := Aaq) (caq := caq) (aq := aq) (an := an) (apt := apt) (z := r1) (w := _) (haq := (haq.up0 hs2)) (han_n := (by first | omega | (simp; done) | (simp; omega))) (hz := (by first | omega | assumption | (simp; done) | (simp; omega)))) ?_
   rintro _ w3 ⟨r2, rfl, p3, p4, hs3'⟩
   have hs3 : SH w w3 [] [.blk b1 37 [I ak, .slice Aaq aq.length caq, Str an, I apt]] := hs2.call0 hs3'
   clear hs3'
   refine q trivial rfl rfl (asg (v := I r2) rfl) ?_
   refine nl ?_
   refine nN ?_
   refine sq ?_
   refine sq ?_
   refine rg ?_
   refine q trivial rfl rfl (mv (v := I r2) rfl) ?_
   refine q trivial rfl rfl (lss (k := .i64) (a := r2) (b := 0) rfl rfl) ?_
   refine nl ?_
   refine nN ?_
   refine cdd (p := r2 < 0) rfl (fun h2 => ?_) (fun h2 => ?_)
   · refine sq ?_
     refine rg ?_
     refine q trivial rfl rfl (asg (v := .bool true) rfl) ?_
     refine nl ?_
     refine nN ?_
     refine rt (tR ?_)
     refine fret (v := .bool true) (.tmp .nil) rfl ?_
     exact ⟨rfl, (hs3.pick [] rfl (by decide))⟩
   · refine sk ?_
     refine nN ?_
     refine sq ?_
     refine ra (fun w' => ∃ L, SH w w' [] L ∧ (.blk b1 37 [I ak, .slice Aaq aq.length caq, Str an, I apt]) ∈ L ∧ True) mixed ?_
     have hs4 := hs3.drew
     refine tk (fuel := 4) (is := [0, 2]) (.cons rfl (.cons rfl (.nil))) (by kernel_rfl) (by kernel_rfl) ⟨_, hs4, memi 0 rfl, trivial⟩ ?_
     refine .op trivial rfl rfl (fun wq _ => mv (v := .slice Azs zs.length czs) rfl) ?_
     refine .op trivial rfl rfl (fun wq ⟨Lq, hsq, mh0, _⟩ => ldgm (vs := [I ak, .slice Aaq aq.length caq, Str an, I apt]) hsq mh0 rfl rfl rfl ag37) ?_
     refine .nil ?_
     refine a1 (i := 1) (by kernel_rfl) ?_
     refine one_ rfl ?_
     refine cl trivial rfl (toRuleS (Axs := Azs) (cxs := czs) (xs := zs) (w := _) (hxs := (hzs.up0 hs4)) (hxs_e := hzs_e) (hxs_n := (by first | omega | (simp; done) | (simp; omega)))) ?_
     rintro _ w4 ⟨A_8_1, c_8_1, rfl, hs5'⟩
     have hs5 : SH w w4 [] [.blk b1 37 [I ak, .slice Aaq aq.length caq, Str an, I apt], .own A_8_1 zs.length c_8_1 33 3 (zs.flatMap gRule)] := hs4.call0 hs5'
     clear hs5'
     refine nl (kq ⟨_, hs5, memi 0 rfl, trivial⟩ ?_)
     refine a1 (i := 3) (by kernel_rfl) ?_
     refine one_ rfl ?_
     refine cl trivial rfl (toAddress (ak := ak) (Aaq := Aaq) (caq := caq) (aq := aq) (an := an) (apt := apt) (w := _) (haq := (haq.up0 hs5)) (haq_n := (by first | omega | (simp; done) | (simp; omega)))) ?_
     rintro _ w5 ⟨Aq_8_3, cq_8_3, rfl, hs6'⟩
     have hs6 : SH w w5 [] [.blk b1 37 [I ak, .slice Aaq aq.length caq, Str an, I apt], .own A_8_1 zs.length c_8_1 33 3 (zs.flatMap gRule), .own Aq_8_3 aq.length cq_8_3 3 1 (aq.map I)] := hs5.call0 hs6'
     clear hs6'
     refine nl (kq ⟨_, hs6, memi 0 rfl, trivial⟩ ?_)
     refine a1 (i := 4) (by kernel_rfl) ?_
     refine one_ rfl ?_
     refine cl trivial rfl (sRulesAllow (Azs := A_8_1) (czs := c_8_1) (zs := zs) (ak := ak) (Aaq := Aq_8_3) (caq := cq_8_3) (aq := aq) (an := an) (apt := apt) (w := _) (hzs := (hs6.sl0 1 rfl)) (hzs_e := (by first | assumption | (simp; done) | exact fun u hu => Nat.le_trans (by first | exact p1 u hu | exact p2 u hu | exact p3 u hu) (by decide) | (intro u hu; simp at hu; simp [hu]))) (haq := (hs6.sl0 2 rfl)) (han_n := (by first | omega | (simp; done) | (simp; omega)))) ?_
     rintro _ w6 ⟨rfl, hs7'⟩
     have hs7 : SH w w6 [] [.blk b1 37 [I ak, .slice Aaq aq.length caq, Str an, I apt], .own A_8_1 zs.length c_8_1 33 3 (zs.flatMap gRule), .own Aq_8_3 aq.length cq_8_3 3 1 (aq.map I)] := hs6.call0 hs7'
     clear hs7'
     refine nl (kq ⟨_, hs7, memi 0 rfl, trivial⟩ ?_)
     refine tk (fuel := 0) (is := [5]) (.cons rfl (.nil)) (by kernel_rfl) (by kernel_rfl) ⟨_, hs7, memi 0 rfl, trivial⟩ ?_
     refine .op trivial rfl rfl (fun wq _ => asg (v := .bool (rulesAllow zs ak aq an apt)) rfl) ?_
     refine .nil ?_
     refine ad (by kernel_rfl) ?_
     refine nN ?_
     refine sq ?_
     refine rg ?_
     refine q trivial rfl rfl (mv (v := .slice Azs zs.length czs) rfl) ?_
     refine cl trivial rfl (toRuleS (Axs := Azs) (cxs := czs) (xs := zs) (w := _) (hxs := (hzs.up0 hs7)) (hxs_e := hzs_e) (hxs_n := (by first | omega | (simp; done) | (simp; omega)))) ?_
     rintro _ w7 ⟨A1, c1, rfl, hs8'⟩
     have hs8 : SH w w7 [] [.blk b1 37 [I ak, .slice Aaq aq.length caq, Str an, I apt], .own A_8_1 zs.length c_8_1 33 3 (zs.flatMap gRule), .own Aq_8_3 aq.length cq_8_3 3 1 (aq.map I), .own A1 zs.length c1 33 3 (zs.flatMap gRule)] := hs7.call0 hs8'
     clear hs8'
     refine q trivial rfl rfl (asg (v := .slice A1 zs.length c1) rfl) ?_
     refine nl ?_
     refine nN ?_
     have hs9 : SH w w7 [] [.blk b1 37 [I ak, .slice Aaq aq.length caq, Str an, I apt], .own A1 zs.length c1 33 3 (zs.flatMap gRule)] := hs8.pick [0, 3] rfl (by decide)
     refine sq ?_
     refine rg ?_
     refine q trivial rfl rfl (ldg (vs := [I ak, .slice Aaq aq.length caq, Str an, I apt]) hs9 0 rfl rfl rfl rfl ag37) ?_
     refine cl trivial rfl (toAddress (ak := ak) (Aaq := Aaq) (caq := caq) (aq := aq) (an := an) (apt := apt) (w := _) (haq := (haq.up0 hs9)) (haq_n := (by first | omega | (simp; done) | (simp; omega)))) ?_
     rintro _ w8 ⟨Aq1, cq1, rfl, hs10'⟩
     have hs10 : SH w w8 [] [.blk b1 37 [I ak, .slice Aaq aq.length caq, Str an, I apt], .own A1 zs.length c1 33 3 (zs.flatMap gRule), .own Aq1 aq.length cq1 3 1 (aq.map I)] := hs9.call0 hs10'
     clear hs10'
     refine al (v := .agg #[I 0, ns, Str [], I 0]) (cs := [I 0, ns, Str [], I 0]) hs10 tz26 rfl trivial rfl (fun b2 w9 (hs11 : SH w w9 [] [.blk b1 37 [I ak, .slice Aaq aq.length caq, Str an, I apt], .own A1 zs.length c1 33 3 (zs.flatMap gRule), .own Aq1 aq.length cq1 3 1 (aq.map I), .blk b2 26 [I 0, ns, Str [], I 0]]) => ?_)
     refine stg (vs := [I ak, .slice Aq1 aq.length cq1, Str an, I apt]) hs11 3 rfl rfl rfl rfl rfl rfl rfl ag26 trivial (fun w10 (hs12 : SH w w10 [] [.blk b1 37 [I ak, .slice Aaq aq.length caq, Str an, I apt], .own A1 zs.length c1 33 3 (zs.flatMap gRule), .own Aq1 aq.length cq1 3 1 (aq.map I), .blk b2 26 [I ak, .slice Aq1 aq.length cq1, Str an, I apt]]) => ?_)
     refine nl ?_
     refine nN ?_
     refine sq ?_
     refine rg ?_
     refine q trivial rfl rfl (mv (v := .slice A1 zs.length c1) rfl) ?_
     refine q trivial rfl rfl (ldg (vs := [I ak, .slice Aq1 aq.length cq1, Str an, I apt]) hs12 3 rfl rfl rfl rfl ag26) ?_
     refine cl trivial rfl (iRulesAllow (Azs := A1) (czs := c1) (zs := zs) (ak := ak) (Aaq := Aq1) (caq := cq1) (aq := aq) (an := an) (apt := apt) (w := _) (hzs := (hs12.sl0 1 rfl)) (hzs_e := (by first | assumption | (simp; done) | exact fun u hu => Nat.le_trans (by first | exact p1 u hu | exact p2 u hu | exact p3 u hu) (by decide) | (intro u hu; simp at hu; simp [hu]))) (haq := (hs12.sl0 2 rfl)) (han_n := (by first | omega | (simp; done) | (simp; omega))) (hGp := (tab_up hGp hs12))) ?_
     rintro _ w11 ⟨rfl, hs13'⟩
     have hs13 : SH w w11 [] [.blk b1 37 [I ak, .slice Aaq aq.length caq, Str an, I apt], .own A1 zs.length c1 33 3 (zs.flatMap gRule), .own Aq1 aq.length cq1 3 1 (aq.map I), .blk b2 26 [I ak, .slice Aq1 aq.length cq1, Str an, I apt]] := hs12.call0 hs13'
     clear hs13'
     refine q trivial rfl rfl (asg (v := .bool (rulesAllow zs ak aq an apt)) rfl) ?_
     refine nl ?_
     refine nN ?_
     refine sq ?_
     refine sq ?_
     refine rg ?_
     refine q trivial rfl rfl (mv (v := .bool (rulesAllow zs ak aq an apt)) rfl) ?_
     refine q trivial rfl rfl (mv (v := .bool (rulesAllow zs ak aq an apt)) rfl) ?_
     refine q trivial rfl rfl (neb (a := (rulesAllow zs ak aq an apt)) (b := (rulesAllow zs ak aq an apt)) tb4 rfl rfl) ?_
     refine nl ?_
     refine nN ?_
     refine cdd (p := (rulesAllow zs ak aq an apt) ≠ (rulesAllow zs ak aq an apt)) rfl (fun h3 => absurd h3 (by exact fun h => h rfl)) (fun h3 => ?_)
     refine sk ?_
     refine nN ?_
     refine sq ?_
     refine sq ?_
     refine rg ?_
     refine q trivial rfl rfl (mv (v := .slice A1 zs.length c1) rfl) ?_
     refine q trivial rfl rfl (mv (v := .slice Azs zs.length czs) rfl) ?_
     refine cl trivial rfl (toRuleS (Axs := Azs) (cxs := czs) (xs := zs) (w := _) (hxs := (hzs.up0 hs13)) (hxs_e := hzs_e) (hxs_n := (by first | omega | (simp; done) | (simp; omega)))) ?_
     rintro _ w12 ⟨A2, c2, rfl, hs14'⟩
     have hs14 : SH w w12 [] [.blk b1 37 [I ak, .slice Aaq aq.length caq, Str an, I apt], .own A1 zs.length c1 33 3 (zs.flatMap gRule), .own Aq1 aq.length cq1 3 1 (aq.map I), .blk b2 26 [I ak, .slice Aq1 aq.length cq1, Str an, I apt], .own A2 zs.length c2 33 3 (zs.flatMap gRule)] := hs13.call0 hs14'
     clear hs14'
     refine cl trivial rfl (eqRuleS (Axs := A1) (cxs := c1) (xs := zs) (Ays := A2) (cys := c2) (ys := zs) (w := _) (hxs := (hs14.sl0 1 rfl)) (hxs_e := (by first | assumption | (simp; done) | exact fun u hu => Nat.le_trans (by first | exact p1 u hu | exact p2 u hu | exact p3 u hu) (by decide) | (intro u hu; simp at hu; simp [hu]))) (hys := (hs14.sl0 4 rfl)) (hys_e := (by first | assumption | (simp; done) | exact fun u hu => Nat.le_trans (by first | exact p1 u hu | exact p2 u hu | exact p3 u hu) (by decide) | (intro u hu; simp at hu; simp [hu])))) ?_
     rintro _ w13 ⟨rfl, hs15'⟩
     have hs15 : SH w w13 [] [.blk b1 37 [I ak, .slice Aaq aq.length caq, Str an, I apt], .own A1 zs.length c1 33 3 (zs.flatMap gRule), .own Aq1 aq.length cq1 3 1 (aq.map I), .blk b2 26 [I ak, .slice Aq1 aq.length cq1, Str an, I apt], .own A2 zs.length c2 33 3 (zs.flatMap gRule)] := hs14.call0 hs15'
     clear hs15'
     refine q trivial rfl rfl (nd (p := zs = zs) rfl) ?_
     refine nl ?_
     refine nN ?_
     have hs16 : SH w w13 [] [.blk b1 37 [I ak, .slice Aaq aq.length caq, Str an, I apt], .own Aq1 aq.length cq1 3 1 (aq.map I), .blk b2 26 [I ak, .slice Aq1 aq.length cq1, Str an, I apt]] := hs15.pick [0, 2, 3] rfl (by decide)
     refine cdd (p := ¬ (zs = zs)) rfl (fun h4 => absurd h4 (by exact fun h => h rfl)) (fun h4 => ?_)
     refine sk ?_
     refine nN ?_
     refine sq ?_
     refine sq ?_
     refine ra (fun w' => ∃ L, SH w w' [] L ∧ (.blk b1 37 [I ak, .slice Aaq aq.length caq, Str an, I apt]) ∈ L ∧ (.blk b2 26 [I ak, .slice Aq1 aq.length cq1, Str an, I apt]) ∈ L ∧ True) mixed ?_
     have hs17 := hs16.drew
     refine tk (fuel := 3) (is := [0, 1]) (.cons rfl (.cons rfl (.nil))) (by kernel_rfl) (by kernel_rfl) ⟨_, hs17, memi 0 rfl, memi 2 rfl, trivial⟩ ?_
     refine .op trivial rfl rfl (fun wq ⟨Lq, hsq, mh0, mh1, _⟩ => ldgm (vs := [I ak, .slice Aq1 aq.length cq1, Str an, I apt]) hsq mh1 rfl rfl rfl ag26) ?_
     refine .op trivial rfl rfl (fun wq ⟨Lq, hsq, mh0, mh1, _⟩ => ldgm (vs := [I ak, .slice Aaq aq.length caq, Str an, I apt]) hsq mh0 rfl rfl rfl ag37) ?_
     refine .nil ?_
     refine a1 (i := 2) (by kernel_rfl) ?_
     refine one_ rfl ?_
     refine cl trivial rfl (toAddress (ak := ak) (Aaq := Aaq) (caq := caq) (aq := aq) (an := an) (apt := apt) (w := _) (haq := (haq.up0 hs17)) (haq_n := (by first | omega | (simp; done) | (simp; omega)))) ?_
     rintro _ w14 ⟨Aq_16_2, cq_16_2, rfl, hs18'⟩
     have hs18 : SH w w14 [] [.blk b1 37 [I ak, .slice Aaq aq.length caq, Str an, I apt], .own Aq1 aq.length cq1 3 1 (aq.map I), .blk b2 26 [I ak, .slice Aq1 aq.length cq1, Str an, I apt], .own Aq_16_2 aq.length cq_16_2 3 1 (aq.map I)] := hs17.call0 hs18'
     clear hs18'
     refine nl (kq ⟨_, hs18, memi 0 rfl, memi 2 rfl, trivial⟩ ?_)
     refine a1 (i := 3) (by kernel_rfl) ?_
     refine one_ rfl ?_
     refine cl trivial rfl (eqAddress (ka := ak) (Aqa := Aq1) (cqa := cq1) (qa := aq) (na := an) (pa := apt) (kb := ak) (Aqb := Aq_16_2) (cqb := cq_16_2) (qb := aq) (nb := an) (pb := apt) (w := _) (hqa := (hs18.sl0 1 rfl)) (hqb := (hs18.sl0 3 rfl))) ?_
     rintro _ w15 ⟨rfl, hs19'⟩
     have hs19 : SH w w15 [] [.blk b1 37 [I ak, .slice Aaq aq.length caq, Str an, I apt], .own Aq1 aq.length cq1 3 1 (aq.map I), .blk b2 26 [I ak, .slice Aq1 aq.length cq1, Str an, I apt], .own Aq_16_2 aq.length cq_16_2 3 1 (aq.map I)] := hs18.call0 hs19'
     clear hs19'
     refine nl (kq ⟨_, hs19, memi 0 rfl, memi 2 rfl, trivial⟩ ?_)
     refine tk (fuel := 0) (is := [4]) (.cons rfl (.nil)) (by kernel_rfl) (by kernel_rfl) ⟨_, hs19, memi 0 rfl, memi 2 rfl, trivial⟩ ?_
     refine .op trivial rfl rfl (fun wq _ => nd (p := ak = ak ∧ aq = aq ∧ an = an ∧ apt = apt) rfl) ?_
     refine .nil ?_
     refine ad (by kernel_rfl) ?_
     refine nN ?_
     have hs20 : SH w w15 [] [] := hs19.pick [] rfl (by decide)
     refine cdd (p := ¬ (ak = ak ∧ aq = aq ∧ an = an ∧ apt = apt)) rfl (fun h5 => absurd h5 (by exact fun h => h ⟨rfl, rfl, rfl, rfl⟩)) (fun h5 => ?_)
     refine sk ?_
     refine nN ?_
     refine sq ?_
     refine rg ?_
     refine q trivial rfl rfl (asg (v := .bool true) rfl) ?_
     refine nl ?_
     refine nN ?_
     refine rt ?_
     refine fret (v := .bool true) (.tmp .nil) rfl ?_
     exact ⟨rfl, hs20⟩

end Go.Proofs.YtogejeniggngjaaDoor
