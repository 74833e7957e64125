/-
  Part of the proofs over this seat: what each function of the program computes, function by function (the text is written by a program of this hand-in's own).
  Conditions: each theorem states its own.
-/
import Derived.Test.YtcgdccfofinheaaGreatDoorPfWalks2
namespace Go.Proofs.YtcgdccfofinheaaGreatDoor
open Go.PF
set_option maxRecDepth 100000
set_option linter.unusedSimpArgs false
set_option linter.unusedVariables false

theorem lExactRulesReply {Azs : Option Addr} {czs : Nat} (zs : List (List UInt8 × Int × Bool)) (cm : Int) (ak : Int) {Aaq : Option Addr} {caq : Nat} (aq : List Int) (an : List UInt8) (apt : Int) (w : World) (hzs : Sl w [] 3 Azs zs.length czs (zs.flatMap gRule)) (hzs_e : ∀ u ∈ zs, u.1.length ≤ 9223372036854775807) (haq : Sl w [] 1 Aaq aq.length caq (aq.map I)) (han_n : an.length ≤ 9223372036854775807) (hGp : Lib.TabIs Tryz.prog w "internal/strconv.uint64pow10" .u64 Lib.pow10Tab) : Does Tryz.prog 3 [.slice Azs zs.length czs, .agg #[I cm, I ak, .slice Aaq aq.length caq, Str an, I apt]] w (fun v w' => v = .bool true ∧ SH w w' [] []) := by
 refine fn_enter (N := 119) Tryz.func3 rfl (by kernel_rfl) rfl rfl rfl ?_
 have hs0 : SH w w [] [] := SH.refl w []
 have hzs_m : zs.length ≤ 9223372036854775807 := Nat.le_trans hzs.cap hzs.capMax
 have haq_m : aq.length ≤ 9223372036854775807 := Nat.le_trans haq.cap haq.capMax
 refine sq ?_
 refine rg ?_
 refine bx (v := .agg #[I cm, I ak, .slice Aaq aq.length caq, Str an, I apt]) (cs := [I cm, I ak, .slice Aaq aq.length caq, Str an, I apt]) hs0 rfl rfl trivial rfl (fun b1 w1 (hs1 : SH w w1 [] [.blk b1 27 [I cm, I ak, .slice Aaq aq.length caq, Str an, I apt]]) => ?_)
 refine q trivial rfl rfl (asg (v := .bool false) rfl) ?_
 refine nl ?_
 refine nN ?_
 refine sq ?_
 refine rg ?_
 refine q trivial rfl rfl (asg (v := I 1048576) rfl) ?_
 refine nl ?_
 refine nN ?_
 refine sq ?_
 refine rg ?_
 refine q trivial rfl rfl (mv (v := .slice Azs zs.length czs) rfl) ?_
 refine q trivial rfl rfl (mv (v := I 1048576) rfl) ?_
 refine cl trivial rfl (szRuleS (Axs := Azs) (cxs := czs) (xs := zs) (z := 1048576) (w := _) (hxs := (hzs.up0 hs1)) (hxs_e := hzs_e) (hz := (by first | (first | omega | assumption | (simp; done) | (simp; omega)) | (have hrl := ruleReply_len zs cm ak aq an apt; first | omega | assumption | (simp; done) | (simp; omega))))) ?_
 rintro _ w2 ⟨r1, rfl, p1, p2, hs2'⟩
 have hs2 : SH w w2 [] [.blk b1 27 [I cm, I ak, .slice Aaq aq.length caq, Str an, I apt]] := hs1.call0 hs2'
 clear hs2'
 refine q trivial rfl rfl (asg (v := I r1) rfl) ?_
 refine nl ?_
 refine nN ?_
 refine sq ?_
 refine sq ?_
 refine rg ?_
 refine q trivial rfl rfl (mv (v := I r1) rfl) ?_
 refine q trivial rfl rfl (lss (k := .i64) (a := r1) (b := 0) rfl rfl) ?_
 refine nl ?_
 refine nN ?_
 refine cdd (p := r1 < 0) rfl (fun h1 => ?_) (fun h1 => ?_)
 · refine sq ?_
   refine rg ?_
   refine q trivial rfl rfl (asg (v := .bool true) rfl) ?_
   refine nl ?_
   refine nN ?_
   refine rt (tR ?_)
   refine fret (v := .bool true) (.tmp .nil) rfl ?_
   exact ⟨rfl, (hs2.pick [] rfl (by decide))⟩
 · refine sk ?_
   refine nN ?_
   refine sq ?_
   refine rg ?_
   refine q trivial rfl rfl (ldg (vs := [I cm, I ak, .slice Aaq aq.length caq, Str an, I apt]) hs2 0 rfl rfl rfl rfl ag27) ?_
   refine q trivial rfl rfl (mv (v := I r1) rfl) ?_
   refine cl trivial rfl (szRequest (cm := cm) (ak := ak) (Aaq := Aaq) (caq := caq) (aq := aq) (an := an) (apt := apt) (z := r1) (w := _) (haq := (haq.up0 hs2)) (han_n := (by first | (first | omega | (simp; done) | (simp; omega)) | (have hrl := ruleReply_len zs cm ak aq an apt; first | omega | (simp; done) | (simp; omega)))) (hz := (by first | (first | omega | assumption | (simp; done) | (simp; omega)) | (have hrl := ruleReply_len zs cm ak aq an apt; first | omega | assumption | (simp; done) | (simp; omega))))) ?_
   rintro _ w3 ⟨r2, rfl, p3, p4, hs3'⟩
   have hs3 : SH w w3 [] [.blk b1 27 [I cm, I ak, .slice Aaq aq.length caq, Str an, I apt]] := hs2.call0 hs3'
   clear hs3'
   refine q trivial rfl rfl (asg (v := I r2) rfl) ?_
   refine nl ?_
   refine nN ?_
   refine sq ?_
   refine sq ?_
   refine rg ?_
   refine q trivial rfl rfl (mv (v := I r2) rfl) ?_
   refine q trivial rfl rfl (lss (k := .i64) (a := r2) (b := 0) rfl rfl) ?_
   refine nl ?_
   refine nN ?_
   refine cdd (p := r2 < 0) rfl (fun h2 => ?_) (fun h2 => ?_)
   · refine sq ?_
     refine rg ?_
     refine q trivial rfl rfl (asg (v := .bool true) rfl) ?_
     refine nl ?_
     refine nN ?_
     refine rt (tR ?_)
     refine fret (v := .bool true) (.tmp .nil) rfl ?_
     exact ⟨rfl, (hs3.pick [] rfl (by decide))⟩
   · refine sk ?_
     refine nN ?_
     refine sq ?_
     refine ra (fun w' => ∃ L, SH w w' [] L ∧ (.blk b1 27 [I cm, I ak, .slice Aaq aq.length caq, Str an, I apt]) ∈ L ∧ True) mixed ?_
     have hs4 := hs3.drew
     refine tk (fuel := 8) (is := [0, 2]) (.cons rfl (.cons rfl (.nil))) (by kernel_rfl) (by kernel_rfl) ⟨_, hs4, memi 0 rfl, trivial⟩ ?_
     refine .op trivial rfl rfl (fun wq _ => mv (v := .slice Azs zs.length czs) rfl) ?_
     refine .op trivial rfl rfl (fun wq ⟨Lq, hsq, mh0, _⟩ => ldgm (vs := [I cm, I ak, .slice Aaq aq.length caq, Str an, I apt]) hsq mh0 rfl rfl rfl ag27) ?_
     refine .nil ?_
     refine a1 (i := 1) (by kernel_rfl) ?_
     refine one_ rfl ?_
     refine cl trivial rfl (toRuleS (Axs := Azs) (cxs := czs) (xs := zs) (w := _) (hxs := (hzs.up0 hs4)) (hxs_e := hzs_e) (hxs_n := (by first | (first | omega | (simp; done) | (simp; omega)) | (have hrl := ruleReply_len zs cm ak aq an apt; first | omega | (simp; done) | (simp; omega))))) ?_
     rintro _ w4 ⟨A_8_1, c_8_1, rfl, hs5'⟩
     have hs5 : SH w w4 [] [.blk b1 27 [I cm, I ak, .slice Aaq aq.length caq, Str an, I apt], .own A_8_1 zs.length c_8_1 53 3 (zs.flatMap gRule)] := hs4.call0 hs5'
     clear hs5'
     refine nl (kq ⟨_, hs5, memi 0 rfl, trivial⟩ ?_)
     refine a1 (i := 3) (by kernel_rfl) ?_
     refine one_ rfl ?_
     refine cl trivial rfl (toRequest (cm := cm) (ak := ak) (Aaq := Aaq) (caq := caq) (aq := aq) (an := an) (apt := apt) (w := _) (haq := (haq.up0 hs5)) (haq_n := (by first | (first | omega | (simp; done) | (simp; omega)) | (have hrl := ruleReply_len zs cm ak aq an apt; first | omega | (simp; done) | (simp; omega))))) ?_
     rintro _ w5 ⟨Aq_8_3, cq_8_3, rfl, hs6'⟩
     have hs6 : SH w w5 [] [.blk b1 27 [I cm, I ak, .slice Aaq aq.length caq, Str an, I apt], .own A_8_1 zs.length c_8_1 53 3 (zs.flatMap gRule), .own Aq_8_3 aq.length cq_8_3 3 1 (aq.map I)] := hs5.call0 hs6'
     clear hs6'
     refine nl (kq ⟨_, hs6, memi 0 rfl, trivial⟩ ?_)
     refine a1 (i := 4) (by kernel_rfl) ?_
     refine one_ rfl ?_
     refine cl trivial rfl (sRulesReply (Azs := A_8_1) (czs := c_8_1) (zs := zs) (c := cm) (ak := ak) (Aaq := Aq_8_3) (caq := cq_8_3) (aq := aq) (an := an) (apt := apt) (w := _) (hzs := (hs6.sl0 1 rfl)) (hzs_e := (by first | (first | assumption | (simp; done) | exact fun u hu => Nat.le_trans (by first | exact p1 u hu | exact p2 u hu | exact p3 u hu) (by decide) | (intro u hu; simp at hu; simp [hu])) | (have hrl := ruleReply_len zs cm ak aq an apt; first | assumption | (simp; done) | exact fun u hu => Nat.le_trans (by first | exact p1 u hu | exact p2 u hu | exact p3 u hu) (by decide) | (intro u hu; simp at hu; simp [hu])))) (haq := (hs6.sl0 2 rfl)) (han_n := (by first | (first | omega | (simp; done) | (simp; omega)) | (have hrl := ruleReply_len zs cm ak aq an apt; first | omega | (simp; done) | (simp; omega))))) ?_
     rintro _ w6 ⟨A_8_4, c_8_4, rfl, hs7'⟩
     have hs7 : SH w w6 [] [.blk b1 27 [I cm, I ak, .slice Aaq aq.length caq, Str an, I apt], .own A_8_1 zs.length c_8_1 53 3 (zs.flatMap gRule), .own Aq_8_3 aq.length cq_8_3 3 1 (aq.map I), .own A_8_4 (((ruleReply zs cm ak aq an apt).1).length) c_8_4 3 1 (((ruleReply zs cm ak aq an apt).1).map I)] := hs6.call0 hs7'
     clear hs7'
     refine nl (kq ⟨_, hs7, memi 0 rfl, trivial⟩ ?_)
     refine tk (fuel := 0) (is := [5, 6, 7, 8, 9]) (.cons rfl (.cons rfl (.cons rfl (.cons rfl (.cons rfl (.nil)))))) (by kernel_rfl) (by kernel_rfl) ⟨_, hs7, memi 0 rfl, trivial⟩ ?_
     refine .op trivial rfl rfl (fun wq _ => mv (v := .tuple #[.slice A_8_4 (((ruleReply zs cm ak aq an apt).1).length) c_8_4, .bool ((ruleReply zs cm ak aq an apt).2)]) rfl) ?_
     refine .op trivial rfl rfl (fun wq _ => xt 0 (v := .slice A_8_4 (((ruleReply zs cm ak aq an apt).1).length) c_8_4) rfl rfl) ?_
     refine .op trivial rfl rfl (fun wq _ => xt 1 (v := .bool ((ruleReply zs cm ak aq an apt).2)) rfl rfl) ?_
     refine .op trivial rfl rfl (fun wq _ => asg (v := .slice A_8_4 (((ruleReply zs cm ak aq an apt).1).length) c_8_4) rfl) ?_
     refine .op trivial rfl rfl (fun wq _ => asg (v := .bool ((ruleReply zs cm ak aq an apt).2)) rfl) ?_
     refine .nil ?_
     refine ad (by kernel_rfl) ?_
     refine nN ?_
     have hs8 : SH w w6 [] [.blk b1 27 [I cm, I ak, .slice Aaq aq.length caq, Str an, I apt], .own A_8_4 (((ruleReply zs cm ak aq an apt).1).length) c_8_4 3 1 (((ruleReply zs cm ak aq an apt).1).map I)] := hs7.pick [0, 3] rfl (by decide)
     refine sq ?_
     refine rg ?_
     refine q trivial rfl rfl (mv (v := .slice Azs zs.length czs) rfl) ?_
     refine cl trivial rfl (toRuleS (Axs := Azs) (cxs := czs) (xs := zs) (w := _) (hxs := (hzs.up0 hs8)) (hxs_e := hzs_e) (hxs_n := (by first | (first | omega | (simp; done) | (simp; omega)) | (have hrl := ruleReply_len zs cm ak aq an apt; first | omega | (simp; done) | (simp; omega))))) ?_
     rintro _ w7 ⟨A1, c1, rfl, hs9'⟩
     have hs9 : SH w w7 [] [.blk b1 27 [I cm, I ak, .slice Aaq aq.length caq, Str an, I apt], .own A_8_4 (((ruleReply zs cm ak aq an apt).1).length) c_8_4 3 1 (((ruleReply zs cm ak aq an apt).1).map I), .own A1 zs.length c1 53 3 (zs.flatMap gRule)] := hs8.call0 hs9'
     clear hs9'
     refine q trivial rfl rfl (asg (v := .slice A1 zs.length c1) rfl) ?_
     refine nl ?_
     refine nN ?_
     refine sq ?_
     refine rg ?_
     refine q trivial rfl rfl (ldg (vs := [I cm, I ak, .slice Aaq aq.length caq, Str an, I apt]) hs9 0 rfl rfl rfl rfl ag27) ?_
     refine cl trivial rfl (toRequest (cm := cm) (ak := ak) (Aaq := Aaq) (caq := caq) (aq := aq) (an := an) (apt := apt) (w := _) (haq := (haq.up0 hs9)) (haq_n := (by first | (first | omega | (simp; done) | (simp; omega)) | (have hrl := ruleReply_len zs cm ak aq an apt; first | omega | (simp; done) | (simp; omega))))) ?_
     rintro _ w8 ⟨Aq1, cq1, rfl, hs10'⟩
     have hs10 : SH w w8 [] [.blk b1 27 [I cm, I ak, .slice Aaq aq.length caq, Str an, I apt], .own A_8_4 (((ruleReply zs cm ak aq an apt).1).length) c_8_4 3 1 (((ruleReply zs cm ak aq an apt).1).map I), .own A1 zs.length c1 53 3 (zs.flatMap gRule), .own Aq1 aq.length cq1 3 1 (aq.map I)] := hs9.call0 hs10'
     clear hs10'
     refine al (v := .agg #[I 0, I 0, ns, Str [], I 0]) (cs := [I 0, I 0, ns, Str [], I 0]) hs10 tz36 rfl trivial rfl (fun b2 w9 (hs11 : SH w w9 [] [.blk b1 27 [I cm, I ak, .slice Aaq aq.length caq, Str an, I apt], .own A_8_4 (((ruleReply zs cm ak aq an apt).1).length) c_8_4 3 1 (((ruleReply zs cm ak aq an apt).1).map I), .own A1 zs.length c1 53 3 (zs.flatMap gRule), .own Aq1 aq.length cq1 3 1 (aq.map I), .blk b2 36 [I 0, I 0, ns, Str [], I 0]]) => ?_)
     refine stg (vs := [I cm, I ak, .slice Aq1 aq.length cq1, Str an, I apt]) hs11 4 rfl rfl rfl rfl rfl rfl rfl ag36 trivial (fun w10 (hs12 : SH w w10 [] [.blk b1 27 [I cm, I ak, .slice Aaq aq.length caq, Str an, I apt], .own A_8_4 (((ruleReply zs cm ak aq an apt).1).length) c_8_4 3 1 (((ruleReply zs cm ak aq an apt).1).map I), .own A1 zs.length c1 53 3 (zs.flatMap gRule), .own Aq1 aq.length cq1 3 1 (aq.map I), .blk b2 36 [I cm, I ak, .slice Aq1 aq.length cq1, Str an, I apt]]) => ?_)
     refine nl ?_
     refine nN ?_
     refine sq ?_
     refine rg ?_
     refine q trivial rfl rfl (mv (v := .slice A1 zs.length c1) rfl) ?_
     refine q trivial rfl rfl (ldg (vs := [I cm, I ak, .slice Aq1 aq.length cq1, Str an, I apt]) hs12 4 rfl rfl rfl rfl ag36) ?_
     refine cl trivial rfl (iRulesReply (Azs := A1) (czs := c1) (zs := zs) (c := cm) (ak := ak) (Aaq := Aq1) (caq := cq1) (aq := aq) (an := an) (apt := apt) (w := _) (hzs := (hs12.sl0 2 rfl)) (hzs_e := (by first | (first | assumption | (simp; done) | exact fun u hu => Nat.le_trans (by first | exact p1 u hu | exact p2 u hu | exact p3 u hu) (by decide) | (intro u hu; simp at hu; simp [hu])) | (have hrl := ruleReply_len zs cm ak aq an apt; first | assumption | (simp; done) | exact fun u hu => Nat.le_trans (by first | exact p1 u hu | exact p2 u hu | exact p3 u hu) (by decide) | (intro u hu; simp at hu; simp [hu])))) (haq := (hs12.sl0 3 rfl)) (han_n := (by first | (first | omega | (simp; done) | (simp; omega)) | (have hrl := ruleReply_len zs cm ak aq an apt; first | omega | (simp; done) | (simp; omega)))) (hGp := (tab_up hGp hs12))) ?_
     rintro _ w11 ⟨A2, c2, rfl, hs13'⟩
     have hs13 : SH w w11 [] [.blk b1 27 [I cm, I ak, .slice Aaq aq.length caq, Str an, I apt], .own A_8_4 (((ruleReply zs cm ak aq an apt).1).length) c_8_4 3 1 (((ruleReply zs cm ak aq an apt).1).map I), .own A1 zs.length c1 53 3 (zs.flatMap gRule), .own Aq1 aq.length cq1 3 1 (aq.map I), .blk b2 36 [I cm, I ak, .slice Aq1 aq.length cq1, Str an, I apt], .own A2 (((ruleReply zs cm ak aq an apt).1).length) c2 3 1 (((ruleReply zs cm ak aq an apt).1).map I)] := hs12.call0 hs13'
     clear hs13'
     refine q trivial rfl rfl (mv (v := .tuple #[.slice A2 (((ruleReply zs cm ak aq an apt).1).length) c2, .bool ((ruleReply zs cm ak aq an apt).2)]) rfl) ?_
     refine q trivial rfl rfl (xt 0 (v := .slice A2 (((ruleReply zs cm ak aq an apt).1).length) c2) rfl rfl) ?_
     refine q trivial rfl rfl (xt 1 (v := .bool ((ruleReply zs cm ak aq an apt).2)) rfl rfl) ?_
     refine q trivial rfl rfl (asg (v := .slice A2 (((ruleReply zs cm ak aq an apt).1).length) c2) rfl) ?_
     refine q trivial rfl rfl (asg (v := .bool ((ruleReply zs cm ak aq an apt).2)) rfl) ?_
     refine nl ?_
     refine nN ?_
     refine sq ?_
     refine sq ?_
     refine rg ?_
     refine q trivial rfl rfl (mv (v := .slice A2 (((ruleReply zs cm ak aq an apt).1).length) c2) rfl) ?_
     refine q trivial rfl rfl (mv (v := .slice A_8_4 (((ruleReply zs cm ak aq an apt).1).length) c_8_4) rfl) ?_
     refine cl trivial rfl (eqIntS (Axs := A2) (cxs := c2) (xs := (ruleReply zs cm ak aq an apt).1) (Abs := A_8_4) (cbs := c_8_4) (bs := (ruleReply zs cm ak aq an apt).1) (w := _) (hxs := (hs13.sl0 5 rfl)) (hbs := (hs13.sl0 1 rfl))) ?_
     rintro _ w12 ⟨rfl, hs14'⟩
     have hs14 : SH w w12 [] [.blk b1 27 [I cm, I ak, .slice Aaq aq.length caq, Str an, I apt], .own A_8_4 (((ruleReply zs cm ak aq an apt).1).length) c_8_4 3 1 (((ruleReply zs cm ak aq an apt).1).map I), .own A1 zs.length c1 53 3 (zs.flatMap gRule), .own Aq1 aq.length cq1 3 1 (aq.map I), .blk b2 36 [I cm, I ak, .slice Aq1 aq.length cq1, Str an, I apt], .own A2 (((ruleReply zs cm ak aq an apt).1).length) c2 3 1 (((ruleReply zs cm ak aq an apt).1).map I)] := hs13.call0 hs14'
     clear hs14'
     refine q trivial rfl rfl (nd (p := ((ruleReply zs cm ak aq an apt).1) = ((ruleReply zs cm ak aq an apt).1)) rfl) ?_
     refine q trivial rfl rfl (mv (v := .bool (decide (¬ (((ruleReply zs cm ak aq an apt).1) = ((ruleReply zs cm ak aq an apt).1))))) rfl) ?_
     refine spd (p := ¬ (((ruleReply zs cm ak aq an apt).1) = ((ruleReply zs cm ak aq an apt).1))) 49 rfl (fun h3 => absurd h3 (by exact fun h => h rfl)) (fun h3 => ?_)
     refine q ⟨_, rfl, rfl⟩ rfl rfl (mv (v := .bool ((ruleReply zs cm ak aq an apt).2)) rfl) ?_
     refine q ⟨_, rfl, rfl⟩ rfl rfl (mv (v := .bool ((ruleReply zs cm ak aq an apt).2)) rfl) ?_
     refine q ⟨_, rfl, rfl⟩ rfl rfl (neb (a := ((ruleReply zs cm ak aq an apt).2)) (b := ((ruleReply zs cm ak aq an apt).2)) tb4 rfl rfl) ?_
     refine q trivial rfl rfl (pf (v := .bool (decide (((ruleReply zs cm ak aq an apt).2) ≠ ((ruleReply zs cm ak aq an apt).2)))) rfl rfl) ?_
     refine nl ?_
     refine nN ?_
     refine cdd (p := ((ruleReply zs cm ak aq an apt).2) ≠ ((ruleReply zs cm ak aq an apt).2)) rfl (fun h4 => absurd h4 (by exact fun h => h rfl)) (fun h4 => ?_)
     refine sk ?_
     refine nN ?_
     refine sq ?_
     refine sq ?_
     refine rg ?_
     refine q trivial rfl rfl (mv (v := .slice A1 zs.length c1) rfl) ?_
     refine q trivial rfl rfl (mv (v := .slice Azs zs.length czs) rfl) ?_
     refine cl trivial rfl (toRuleS (Axs := Azs) (cxs := czs) (xs := zs) (w := _) (hxs := (hzs.up0 hs14)) (hxs_e := hzs_e) (hxs_n := (by first | (first | omega | (simp; done) | (simp; omega)) | (have hrl := ruleReply_len zs cm ak aq an apt; first | omega | (simp; done) | (simp; omega))))) ?_
     rintro _ w13 ⟨A3, c3, rfl, hs15'⟩
     have hs15 : SH w w13 [] [.blk b1 27 [I cm, I ak, .slice Aaq aq.length caq, Str an, I apt], .own A_8_4 (((ruleReply zs cm ak aq an apt).1).length) c_8_4 3 1 (((ruleReply zs cm ak aq an apt).1).map I), .own A1 zs.length c1 53 3 (zs.flatMap gRule), .own Aq1 aq.length cq1 3 1 (aq.map I), .blk b2 36 [I cm, I ak, .slice Aq1 aq.length cq1, Str an, I apt], .own A2 (((ruleReply zs cm ak aq an apt).1).length) c2 3 1 (((ruleReply zs cm ak aq an apt).1).map I), .own A3 zs.length c3 53 3 (zs.flatMap gRule)] := hs14.call0 hs15'
     clear hs15'
     refine cl trivial rfl (eqRuleS (Axs := A1) (cxs := c1) (xs := zs) (Ays := A3) (cys := c3) (ys := zs) (w := _) (hxs := (hs15.sl0 2 rfl)) (hxs_e := (by first | (first | assumption | (simp; done) | exact fun u hu => Nat.le_trans (by first | exact p1 u hu | exact p2 u hu | exact p3 u hu) (by decide) | (intro u hu; simp at hu; simp [hu])) | (have hrl := ruleReply_len zs cm ak aq an apt; first | assumption | (simp; done) | exact fun u hu => Nat.le_trans (by first | exact p1 u hu | exact p2 u hu | exact p3 u hu) (by decide) | (intro u hu; simp at hu; simp [hu])))) (hys := (hs15.sl0 6 rfl)) (hys_e := (by first | (first | assumption | (simp; done) | exact fun u hu => Nat.le_trans (by first | exact p1 u hu | exact p2 u hu | exact p3 u hu) (by decide) | (intro u hu; simp at hu; simp [hu])) | (have hrl := ruleReply_len zs cm ak aq an apt; first | assumption | (simp; done) | exact fun u hu => Nat.le_trans (by first | exact p1 u hu | exact p2 u hu | exact p3 u hu) (by decide) | (intro u hu; simp at hu; simp [hu]))))) ?_
     rintro _ w14 ⟨rfl, hs16'⟩
     have hs16 : SH w w14 [] [.blk b1 27 [I cm, I ak, .slice Aaq aq.length caq, Str an, I apt], .own A_8_4 (((ruleReply zs cm ak aq an apt).1).length) c_8_4 3 1 (((ruleReply zs cm ak aq an apt).1).map I), .own A1 zs.length c1 53 3 (zs.flatMap gRule), .own Aq1 aq.length cq1 3 1 (aq.map I), .blk b2 36 [I cm, I ak, .slice Aq1 aq.length cq1, Str an, I apt], .own A2 (((ruleReply zs cm ak aq an apt).1).length) c2 3 1 (((ruleReply zs cm ak aq an apt).1).map I), .own A3 zs.length c3 53 3 (zs.flatMap gRule)] := hs15.call0 hs16'
     clear hs16'
     refine q trivial rfl rfl (nd (p := zs = zs) rfl) ?_
     refine nl ?_
     refine nN ?_
     refine cdd (p := ¬ (zs = zs)) rfl (fun h5 => absurd h5 (by exact fun h => h rfl)) (fun h5 => ?_)
     refine sk ?_
     refine nN ?_
     refine sq ?_
     refine sq ?_
     refine ra (fun w' => ∃ L, SH w w' [] L ∧ (.blk b1 27 [I cm, I ak, .slice Aaq aq.length caq, Str an, I apt]) ∈ L ∧ (.blk b2 36 [I cm, I ak, .slice Aq1 aq.length cq1, Str an, I apt]) ∈ L ∧ True) mixed ?_
     have hs17 := hs16.drew
     refine tk (fuel := 3) (is := [0, 1]) (.cons rfl (.cons rfl (.nil))) (by kernel_rfl) (by kernel_rfl) ⟨_, hs17, memi 0 rfl, memi 4 rfl, trivial⟩ ?_
     refine .op trivial rfl rfl (fun wq ⟨Lq, hsq, mh0, mh1, _⟩ => ldgm (vs := [I cm, I ak, .slice Aq1 aq.length cq1, Str an, I apt]) hsq mh1 rfl rfl rfl ag36) ?_
     refine .op trivial rfl rfl (fun wq ⟨Lq, hsq, mh0, mh1, _⟩ => ldgm (vs := [I cm, I ak, .slice Aaq aq.length caq, Str an, I apt]) hsq mh0 rfl rfl rfl ag27) ?_
     refine .nil ?_
     refine a1 (i := 2) (by kernel_rfl) ?_
     refine one_ rfl ?_
     refine cl trivial rfl (toRequest (cm := cm) (ak := ak) (Aaq := Aaq) (caq := caq) (aq := aq) (an := an) (apt := apt) (w := _) (haq := (haq.up0 hs17)) (haq_n := (by first | (first | omega | (simp; done) | (simp; omega)) | (have hrl := ruleReply_len zs cm ak aq an apt; first | omega | (simp; done) | (simp; omega))))) ?_
     rintro _ w15 ⟨Aq_16_2, cq_16_2, rfl, hs18'⟩
     have hs18 : SH w w15 [] [.blk b1 27 [I cm, I ak, .slice Aaq aq.length caq, Str an, I apt], .own A_8_4 (((ruleReply zs cm ak aq an apt).1).length) c_8_4 3 1 (((ruleReply zs cm ak aq an apt).1).map I), .own A1 zs.length c1 53 3 (zs.flatMap gRule), .own Aq1 aq.length cq1 3 1 (aq.map I), .blk b2 36 [I cm, I ak, .slice Aq1 aq.length cq1, Str an, I apt], .own A2 (((ruleReply zs cm ak aq an apt).1).length) c2 3 1 (((ruleReply zs cm ak aq an apt).1).map I), .own A3 zs.length c3 53 3 (zs.flatMap gRule), .own Aq_16_2 aq.length cq_16_2 3 1 (aq.map I)] := hs17.call0 hs18'
     clear hs18'
     refine nl (kq ⟨_, hs18, memi 0 rfl, memi 4 rfl, trivial⟩ ?_)
     refine a1 (i := 3) (by kernel_rfl) ?_
     refine one_ rfl ?_
     refine cl trivial rfl (eqRequest (ca := cm) (ka := ak) (Aqa := Aq1) (cqa := cq1) (qa := aq) (na := an) (pa := apt) (cb := cm) (kb := ak) (Aqb := Aq_16_2) (cqb := cq_16_2) (qb := aq) (nb := an) (pb := apt) (w := _) (hqa := (hs18.sl0 3 rfl)) (hqb := (hs18.sl0 7 rfl))) ?_
     rintro _ w16 ⟨rfl, hs19'⟩
     have hs19 : SH w w16 [] [.blk b1 27 [I cm, I ak, .slice Aaq aq.length caq, Str an, I apt], .own A_8_4 (((ruleReply zs cm ak aq an apt).1).length) c_8_4 3 1 (((ruleReply zs cm ak aq an apt).1).map I), .own A1 zs.length c1 53 3 (zs.flatMap gRule), .own Aq1 aq.length cq1 3 1 (aq.map I), .blk b2 36 [I cm, I ak, .slice Aq1 aq.length cq1, Str an, I apt], .own A2 (((ruleReply zs cm ak aq an apt).1).length) c2 3 1 (((ruleReply zs cm ak aq an apt).1).map I), .own A3 zs.length c3 53 3 (zs.flatMap gRule), .own Aq_16_2 aq.length cq_16_2 3 1 (aq.map I)] := hs18.call0 hs19'
     clear hs19'
     refine nl (kq ⟨_, hs19, memi 0 rfl, memi 4 rfl, trivial⟩ ?_)
     refine tk (fuel := 0) (is := [4]) (.cons rfl (.nil)) (by kernel_rfl) (by kernel_rfl) ⟨_, hs19, memi 0 rfl, memi 4 rfl, trivial⟩ ?_
     refine .op trivial rfl rfl (fun wq _ => nd (p := cm = cm ∧ (ak = ak ∧ aq = aq ∧ an = an ∧ apt = apt)) rfl) ?_
     refine .nil ?_
     refine ad (by kernel_rfl) ?_
     refine nN ?_
     have hs20 : SH w w16 [] [.blk b1 27 [I cm, I ak, .slice Aaq aq.length caq, Str an, I apt], .own A_8_4 (((ruleReply zs cm ak aq an apt).1).length) c_8_4 3 1 (((ruleReply zs cm ak aq an apt).1).map I), .own A1 zs.length c1 53 3 (zs.flatMap gRule), .own Aq1 aq.length cq1 3 1 (aq.map I), .blk b2 36 [I cm, I ak, .slice Aq1 aq.length cq1, Str an, I apt], .own A2 (((ruleReply zs cm ak aq an apt).1).length) c2 3 1 (((ruleReply zs cm ak aq an apt).1).map I)] := hs19.pick [0, 1, 2, 3, 4, 5] rfl (by decide)
     refine cdd (p := ¬ (cm = cm ∧ (ak = ak ∧ aq = aq ∧ an = an ∧ apt = apt))) rfl (fun h6 => ?_) (fun h6 => ?_)
     · refine sq ?_
       refine rg ?_
       refine q trivial rfl rfl (asg (v := .bool false) rfl) ?_
       refine nl ?_
       refine nN ?_
       have hs21 : SH w w16 [] [] := hs20.pick [] rfl (by decide)
       refine rt (tR ?_)
       refine fret (v := .bool false) (.tmp .nil) rfl ?_
       have e1 : false = true := by first | rfl | (simp; done) | (simp_all; done) | omega
       exact ⟨(congrArg (Value.bool) e1), hs21⟩
     · refine sk ?_
       refine nN ?_
       refine sq ?_
       refine rg ?_
       refine q trivial rfl rfl (asg (v := I 1) rfl) ?_
       refine nl ?_
       refine nN ?_
       refine sq ?_
       refine rg ?_
       refine q trivial rfl rfl (mv (v := .slice A1 zs.length c1) rfl) ?_
       refine q trivial rfl rfl (mv (v := I 1) rfl) ?_
       refine cl trivial rfl (markRuleS (Axs := A1) (cxs := c1) (xs := zs) (k0 := 1) (w := _) (hxs := (own_ok hs20 2 rfl)) (hxs_n := (by first | (first | omega | (simp; done) | (simp; omega)) | (have hrl := ruleReply_len zs cm ak aq an apt; first | omega | (simp; done) | (simp; omega)))) (hk0 := (by first | (first | omega | assumption | (simp; done) | (simp; omega)) | (have hrl := ruleReply_len zs cm ak aq an apt; first | omega | assumption | (simp; done) | (simp; omega))))) ?_
       rintro _ w17 ⟨rfl, hs22'⟩
       have hs22 : SH w w17 [] [.blk b1 27 [I cm, I ak, .slice Aaq aq.length caq, Str an, I apt], .own A_8_4 (((ruleReply zs cm ak aq an apt).1).length) c_8_4 3 1 (((ruleReply zs cm ak aq an apt).1).map I), .own Aq1 aq.length cq1 3 1 (aq.map I), .blk b2 36 [I cm, I ak, .slice Aq1 aq.length cq1, Str an, I apt], .own A2 (((ruleReply zs cm ak aq an apt).1).length) c2 3 1 (((ruleReply zs cm ak aq an apt).1).map I), .own A1 zs.length c1 53 3 ((markR 1 zs.length).flatMap gRule)] := SH.callK (K := [.own A1 zs.length c1 53 3 (zs.flatMap gRule)]) (R := [.blk b1 27 [I cm, I ak, .slice Aaq aq.length caq, Str an, I apt], .own A_8_4 (((ruleReply zs cm ak aq an apt).1).length) c_8_4 3 1 (((ruleReply zs cm ak aq an apt).1).map I), .own Aq1 aq.length cq1 3 1 (aq.map I), .blk b2 36 [I cm, I ak, .slice Aq1 aq.length cq1, Str an, I apt], .own A2 (((ruleReply zs cm ak aq an apt).1).length) c2 3 1 (((ruleReply zs cm ak aq an apt).1).map I)]) (hs20.pick [2, 0, 1, 3, 4, 5] rfl (by decide)) hs22' rfl
       clear hs22'
       have e2 : zs.length = (markR 1 zs.length).length := by first | rfl | (simp; done) | (simp; omega)
       have hs23 : SH w w17 [] [.blk b1 27 [I cm, I ak, .slice Aaq aq.length caq, Str an, I apt], .own A_8_4 (((ruleReply zs cm ak aq an apt).1).length) c_8_4 3 1 (((ruleReply zs cm ak aq an apt).1).map I), .own Aq1 aq.length cq1 3 1 (aq.map I), .blk b2 36 [I cm, I ak, .slice Aq1 aq.length cq1, Str an, I apt], .own A2 (((ruleReply zs cm ak aq an apt).1).length) c2 3 1 (((ruleReply zs cm ak aq an apt).1).map I), .own A1 ((markR 1 zs.length).length) c1 53 3 ((markR 1 zs.length).flatMap gRule)] := (hs22.cast (lc rfl (lc rfl (lc rfl (lc rfl (lc rfl (lc (own_eqf (g := gRule) rfl e2 rfl rfl) rfl)))))))
       clear hs22
       refine q trivial rfl rfl (asg (v := I (1 + 3 * ((zs.length : Nat) : Int))) rfl) ?_
       refine nl ?_
       refine nN ?_
       refine sq ?_
       refine rg ?_
       refine q trivial rfl rfl (ldg (vs := [I cm, I ak, .slice Aq1 aq.length cq1, Str an, I apt]) hs23 3 rfl rfl rfl rfl ag36) ?_
       refine q trivial rfl rfl (mv (v := I (1 + 3 * ((zs.length : Nat) : Int))) rfl) ?_
       refine cl trivial rfl (markRequest (cm := cm) (ak := ak) (Aaq := Aq1) (caq := cq1) (aq := aq) (an := an) (apt := apt) (k0 := 1 + 3 * ((zs.length : Nat) : Int)) (w := _) (haq := (own_ok hs23 2 rfl)) (haq_n := (by first | (first | omega | (simp; done) | (simp; omega)) | (have hrl := ruleReply_len zs cm ak aq an apt; first | omega | (simp; done) | (simp; omega)))) (hk0 := (by first | (first | omega | assumption | (simp; done) | (simp; omega)) | (have hrl := ruleReply_len zs cm ak aq an apt; first | omega | assumption | (simp; done) | (simp; omega))))) ?_
       rintro _ w18 ⟨rfl, hs24'⟩
       have hs24 : SH w w18 [] [.blk b1 27 [I cm, I ak, .slice Aaq aq.length caq, Str an, I apt], .own A_8_4 (((ruleReply zs cm ak aq an apt).1).length) c_8_4 3 1 (((ruleReply zs cm ak aq an apt).1).map I), .blk b2 36 [I cm, I ak, .slice Aq1 aq.length cq1, Str an, I apt], .own A2 (((ruleReply zs cm ak aq an apt).1).length) c2 3 1 (((ruleReply zs cm ak aq an apt).1).map I), .own A1 ((markR 1 zs.length).length) c1 53 3 ((markR 1 zs.length).flatMap gRule), .own Aq1 aq.length cq1 3 1 ((marks (1 + 3 * ((zs.length : Nat) : Int)) aq.length).map I)] := SH.callK (K := [.own Aq1 aq.length cq1 3 1 (aq.map I)]) (R := [.blk b1 27 [I cm, I ak, .slice Aaq aq.length caq, Str an, I apt], .own A_8_4 (((ruleReply zs cm ak aq an apt).1).length) c_8_4 3 1 (((ruleReply zs cm ak aq an apt).1).map I), .blk b2 36 [I cm, I ak, .slice Aq1 aq.length cq1, Str an, I apt], .own A2 (((ruleReply zs cm ak aq an apt).1).length) c2 3 1 (((ruleReply zs cm ak aq an apt).1).map I), .own A1 ((markR 1 zs.length).length) c1 53 3 ((markR 1 zs.length).flatMap gRule)]) (hs23.pick [2, 0, 1, 3, 4, 5] rfl (by decide)) hs24' rfl
       clear hs24'
       have e3 : aq.length = (marks (1 + 3 * ((zs.length : Nat) : Int)) aq.length).length := by first | rfl | (simp; done) | (simp; omega)
       have hs25 : SH w w18 [] [.blk b1 27 [I cm, I ak, .slice Aaq aq.length caq, Str an, I apt], .own A_8_4 (((ruleReply zs cm ak aq an apt).1).length) c_8_4 3 1 (((ruleReply zs cm ak aq an apt).1).map I), .blk b2 36 [I cm, I ak, .slice Aq1 aq.length cq1, Str an, I apt], .own A2 (((ruleReply zs cm ak aq an apt).1).length) c2 3 1 (((ruleReply zs cm ak aq an apt).1).map I), .own A1 ((markR 1 zs.length).length) c1 53 3 ((markR 1 zs.length).flatMap gRule), .own Aq1 ((marks (1 + 3 * ((zs.length : Nat) : Int)) aq.length).length) cq1 3 1 ((marks (1 + 3 * ((zs.length : Nat) : Int)) aq.length).map I)] := (hs24.cast (lc rfl (lc rfl (lc rfl (lc rfl (lc rfl (lc (own_eq (g := I) rfl e3 rfl rfl) rfl)))))))
       clear hs24
       refine q trivial rfl rfl (asg (v := I ((1 + 3 * ((zs.length : Nat) : Int)) + ((aq.length : Nat) : Int))) rfl) ?_
       refine nl ?_
       refine nN ?_
       have hs26 : SH w w18 [] [.blk b1 27 [I cm, I ak, .slice Aaq aq.length caq, Str an, I apt], .own A_8_4 (((ruleReply zs cm ak aq an apt).1).length) c_8_4 3 1 (((ruleReply zs cm ak aq an apt).1).map I), .own A2 (((ruleReply zs cm ak aq an apt).1).length) c2 3 1 (((ruleReply zs cm ak aq an apt).1).map I)] := hs25.pick [0, 1, 3] rfl (by decide)
       refine sq ?_
       refine sq ?_
       refine rg ?_
       refine q trivial rfl rfl (mv (v := I ((1 + 3 * ((zs.length : Nat) : Int)) + ((aq.length : Nat) : Int))) rfl) ?_
       refine q trivial rfl rfl (lss (k := .i64) (a := (1 + 3 * ((zs.length : Nat) : Int)) + ((aq.length : Nat) : Int)) (b := 0) rfl rfl) ?_
       refine q trivial rfl rfl (mv (v := .bool (decide (((1 + 3 * ((zs.length : Nat) : Int)) + ((aq.length : Nat) : Int)) < 0))) rfl) ?_
       refine spd (p := ((1 + 3 * ((zs.length : Nat) : Int)) + ((aq.length : Nat) : Int)) < 0) 72 rfl (fun h7 => absurd h7 (by omega)) (fun h7 => ?_)
       refine q ⟨_, rfl, rfl⟩ rfl rfl (mv (v := .slice A2 (((ruleReply zs cm ak aq an apt).1).length) c2) rfl) ?_
       refine q ⟨_, rfl, rfl⟩ rfl rfl (mv (v := .slice A_8_4 (((ruleReply zs cm ak aq an apt).1).length) c_8_4) rfl) ?_
       refine cl ⟨_, rfl, rfl⟩ rfl (eqIntS (Axs := A2) (cxs := c2) (xs := (ruleReply zs cm ak aq an apt).1) (Abs := A_8_4) (cbs := c_8_4) (bs := (ruleReply zs cm ak aq an apt).1) (w := _) (hxs := (hs26.sl0 2 rfl)) (hbs := (hs26.sl0 1 rfl))) ?_
       rintro _ w19 ⟨rfl, hs27'⟩
       have hs27 : SH w w19 [] [.blk b1 27 [I cm, I ak, .slice Aaq aq.length caq, Str an, I apt], .own A_8_4 (((ruleReply zs cm ak aq an apt).1).length) c_8_4 3 1 (((ruleReply zs cm ak aq an apt).1).map I), .own A2 (((ruleReply zs cm ak aq an apt).1).length) c2 3 1 (((ruleReply zs cm ak aq an apt).1).map I)] := hs26.call0 hs27'
       clear hs27'
       refine q ⟨_, rfl, rfl⟩ rfl rfl (nd (p := ((ruleReply zs cm ak aq an apt).1) = ((ruleReply zs cm ak aq an apt).1)) rfl) ?_
       refine q trivial rfl rfl (pf (v := .bool (decide (¬ (((ruleReply zs cm ak aq an apt).1) = ((ruleReply zs cm ak aq an apt).1))))) rfl rfl) ?_
       refine q trivial rfl rfl (mv (v := .bool (decide (¬ (((ruleReply zs cm ak aq an apt).1) = ((ruleReply zs cm ak aq an apt).1))))) rfl) ?_
       refine spd (p := ¬ (((ruleReply zs cm ak aq an apt).1) = ((ruleReply zs cm ak aq an apt).1))) 78 rfl (fun h8 => absurd h8 (by exact fun h => h rfl)) (fun h8 => ?_)
       refine q ⟨_, rfl, rfl⟩ rfl rfl (mv (v := .bool ((ruleReply zs cm ak aq an apt).2)) rfl) ?_
       refine q ⟨_, rfl, rfl⟩ rfl rfl (mv (v := .bool ((ruleReply zs cm ak aq an apt).2)) rfl) ?_
       refine q ⟨_, rfl, rfl⟩ rfl rfl (neb (a := ((ruleReply zs cm ak aq an apt).2)) (b := ((ruleReply zs cm ak aq an apt).2)) tb4 rfl rfl) ?_
       refine q trivial rfl rfl (pf (v := .bool (decide (((ruleReply zs cm ak aq an apt).2) ≠ ((ruleReply zs cm ak aq an apt).2)))) rfl rfl) ?_
       refine nl ?_
       refine nN ?_
       refine cdd (p := ((ruleReply zs cm ak aq an apt).2) ≠ ((ruleReply zs cm ak aq an apt).2)) rfl (fun h9 => absurd h9 (by exact fun h => h rfl)) (fun h9 => ?_)
       refine sk ?_
       refine nN ?_
       refine sq ?_
       refine rg ?_
       refine q trivial rfl rfl (asg (v := I 1) rfl) ?_
       refine nl ?_
       refine nN ?_
       refine sq ?_
       refine rg ?_
       refine q trivial rfl rfl (mv (v := .slice A2 (((ruleReply zs cm ak aq an apt).1).length) c2) rfl) ?_
       refine q trivial rfl rfl (mv (v := I 1) rfl) ?_
       refine cl trivial rfl (markIntS (Axs := A2) (cxs := c2) (xs := (ruleReply zs cm ak aq an apt).1) (k0 := 1) (w := _) (hxs := (own_ok hs27 2 rfl)) (hxs_n := (by first | (first | omega | (simp; done) | (simp; omega)) | (have hrl := ruleReply_len zs cm ak aq an apt; first | omega | (simp; done) | (simp; omega)))) (hk0 := (by first | (first | omega | assumption | (simp; done) | (simp; omega)) | (have hrl := ruleReply_len zs cm ak aq an apt; first | omega | assumption | (simp; done) | (simp; omega))))) ?_
       rintro _ w20 ⟨rfl, hs28'⟩
       have hs28 : SH w w20 [] [.blk b1 27 [I cm, I ak, .slice Aaq aq.length caq, Str an, I apt], .own A_8_4 (((ruleReply zs cm ak aq an apt).1).length) c_8_4 3 1 (((ruleReply zs cm ak aq an apt).1).map I), .own A2 (((ruleReply zs cm ak aq an apt).1).length) c2 3 1 ((marks 1 ((ruleReply zs cm ak aq an apt).1).length).map I)] := SH.callK (K := [.own A2 (((ruleReply zs cm ak aq an apt).1).length) c2 3 1 (((ruleReply zs cm ak aq an apt).1).map I)]) (R := [.blk b1 27 [I cm, I ak, .slice Aaq aq.length caq, Str an, I apt], .own A_8_4 (((ruleReply zs cm ak aq an apt).1).length) c_8_4 3 1 (((ruleReply zs cm ak aq an apt).1).map I)]) (hs27.pick [2, 0, 1] rfl (by decide)) hs28' rfl
       clear hs28'
       have e4 : ((ruleReply zs cm ak aq an apt).1).length = (marks 1 ((ruleReply zs cm ak aq an apt).1).length).length := by first | rfl | (simp; done) | (simp; omega)
       have hs29 : SH w w20 [] [.blk b1 27 [I cm, I ak, .slice Aaq aq.length caq, Str an, I apt], .own A_8_4 (((ruleReply zs cm ak aq an apt).1).length) c_8_4 3 1 (((ruleReply zs cm ak aq an apt).1).map I), .own A2 ((marks 1 ((ruleReply zs cm ak aq an apt).1).length).length) c2 3 1 ((marks 1 ((ruleReply zs cm ak aq an apt).1).length).map I)] := (hs28.cast (lc rfl (lc rfl (lc (own_eq (g := I) rfl e4 rfl rfl) rfl))))
       clear hs28
       refine q trivial rfl rfl (asg (v := I (1 + ((((ruleReply zs cm ak aq an apt).1).length : Nat) : Int))) rfl) ?_
       refine nl ?_
       refine nN ?_
       refine sq ?_
       refine rg ?_
       refine q trivial rfl rfl (asg (v := I 1) rfl) ?_
       refine nl ?_
       refine nN ?_
       refine sq ?_
       refine rg ?_
       refine q trivial rfl rfl (mv (v := .slice A2 (((ruleReply zs cm ak aq an apt).1).length) c2) rfl) ?_
       refine q trivial rfl rfl (mv (v := I 1) rfl) ?_
       refine cl trivial rfl (Does.castA (lc (slv rfl e4.symm rfl) (lc rfl rfl)) (heldIntS (Axs := A2) (cxs := c2) (xs := marks 1 ((ruleReply zs cm ak aq an apt).1).length) (k0 := 1) (w := _) (hxs := (hs29.sl0 2 rfl)) (hxs_n := (by first | (first | omega | (simp; done) | (simp; omega)) | (have hrl := ruleReply_len zs cm ak aq an apt; first | omega | (simp; done) | (simp; omega)))) (hk0 := (by first | (first | omega | assumption | (simp; done) | (simp; omega)) | (have hrl := ruleReply_len zs cm ak aq an apt; first | omega | assumption | (simp; done) | (simp; omega)))))) ?_
       rintro _ w21 ⟨rfl, hs30'⟩
       have hs30 : SH w w21 [] [.blk b1 27 [I cm, I ak, .slice Aaq aq.length caq, Str an, I apt], .own A_8_4 (((ruleReply zs cm ak aq an apt).1).length) c_8_4 3 1 (((ruleReply zs cm ak aq an apt).1).map I), .own A2 ((marks 1 ((ruleReply zs cm ak aq an apt).1).length).length) c2 3 1 ((marks 1 ((ruleReply zs cm ak aq an apt).1).length).map I)] := hs29.call0 hs30'
       clear hs30'
       refine q trivial rfl rfl (asg (v := I (heldI (marks 1 ((ruleReply zs cm ak aq an apt).1).length) 1)) rfl) ?_
       have e5 : heldI (marks 1 ((ruleReply zs cm ak aq an apt).1).length) 1 = 1 + ((((ruleReply zs cm ak aq an apt).1).length : Nat) : Int) := by exact held_marks _ _
       refine re 14 (v := I (1 + ((((ruleReply zs cm ak aq an apt).1).length : Nat) : Int))) (congrArg (Value.int .i64) e5) ?_
       refine nl ?_
       refine nN ?_
       refine sq ?_
       refine sq ?_
       refine rg ?_
       refine q trivial rfl rfl (mv (v := I (1 + ((((ruleReply zs cm ak aq an apt).1).length : Nat) : Int))) rfl) ?_
       refine q trivial rfl rfl (lss (k := .i64) (a := 1 + ((((ruleReply zs cm ak aq an apt).1).length : Nat) : Int)) (b := 0) rfl rfl) ?_
       refine nl ?_
       refine nN ?_
       refine cdd (p := (1 + ((((ruleReply zs cm ak aq an apt).1).length : Nat) : Int)) < 0) rfl (fun h10 => absurd h10 (by omega)) (fun h10 => ?_)
       refine sk ?_
       refine nN ?_
       refine sq ?_
       refine sq ?_
       refine rg ?_
       refine q trivial rfl rfl (mv (v := I (1 + ((((ruleReply zs cm ak aq an apt).1).length : Nat) : Int))) rfl) ?_
       refine q trivial rfl rfl (mv (v := I (1 + ((((ruleReply zs cm ak aq an apt).1).length : Nat) : Int))) rfl) ?_
       refine q trivial rfl rfl (nei (k := .i64) (a := 1 + ((((ruleReply zs cm ak aq an apt).1).length : Nat) : Int)) (b := 1 + ((((ruleReply zs cm ak aq an apt).1).length : Nat) : Int)) rfl rfl) ?_
       refine nl ?_
       refine nN ?_
       refine cdd (p := (1 + ((((ruleReply zs cm ak aq an apt).1).length : Nat) : Int)) ≠ (1 + ((((ruleReply zs cm ak aq an apt).1).length : Nat) : Int))) rfl (fun h11 => absurd h11 (by exact fun h => h rfl)) (fun h11 => ?_)
       refine sk ?_
       refine nN ?_
       refine sq ?_
       refine ra (fun w' => ∃ L, SH w w' [] L ∧ (.blk b1 27 [I cm, I ak, .slice Aaq aq.length caq, Str an, I apt]) ∈ L ∧ True) mixed ?_
       have hs31 := hs30.drew
       refine tk (fuel := 8) (is := [0, 2]) (.cons rfl (.cons rfl (.nil))) (by kernel_rfl) (by kernel_rfl) ⟨_, hs31, memi 0 rfl, trivial⟩ ?_
       refine .op trivial rfl rfl (fun wq _ => mv (v := .slice Azs zs.length czs) rfl) ?_
       refine .op trivial rfl rfl (fun wq ⟨Lq, hsq, mh0, _⟩ => ldgm (vs := [I cm, I ak, .slice Aaq aq.length caq, Str an, I apt]) hsq mh0 rfl rfl rfl ag27) ?_
       refine .nil ?_
       refine a1 (i := 1) (by kernel_rfl) ?_
       refine one_ rfl ?_
       refine cl trivial rfl (toRuleS (Axs := Azs) (cxs := czs) (xs := zs) (w := _) (hxs := (hzs.up0 hs31)) (hxs_e := hzs_e) (hxs_n := (by first | (first | omega | (simp; done) | (simp; omega)) | (have hrl := ruleReply_len zs cm ak aq an apt; first | omega | (simp; done) | (simp; omega))))) ?_
       rintro _ w22 ⟨A_31_1, c_31_1, rfl, hs32'⟩
       have hs32 : SH w w22 [] [.blk b1 27 [I cm, I ak, .slice Aaq aq.length caq, Str an, I apt], .own A_8_4 (((ruleReply zs cm ak aq an apt).1).length) c_8_4 3 1 (((ruleReply zs cm ak aq an apt).1).map I), .own A2 ((marks 1 ((ruleReply zs cm ak aq an apt).1).length).length) c2 3 1 ((marks 1 ((ruleReply zs cm ak aq an apt).1).length).map I), .own A_31_1 zs.length c_31_1 53 3 (zs.flatMap gRule)] := hs31.call0 hs32'
       clear hs32'
       refine nl (kq ⟨_, hs32, memi 0 rfl, trivial⟩ ?_)
       refine a1 (i := 3) (by kernel_rfl) ?_
       refine one_ rfl ?_
       refine cl trivial rfl (toRequest (cm := cm) (ak := ak) (Aaq := Aaq) (caq := caq) (aq := aq) (an := an) (apt := apt) (w := _) (haq := (haq.up0 hs32)) (haq_n := (by first | (first | omega | (simp; done) | (simp; omega)) | (have hrl := ruleReply_len zs cm ak aq an apt; first | omega | (simp; done) | (simp; omega))))) ?_
       rintro _ w23 ⟨Aq_31_3, cq_31_3, rfl, hs33'⟩
       have hs33 : SH w w23 [] [.blk b1 27 [I cm, I ak, .slice Aaq aq.length caq, Str an, I apt], .own A_8_4 (((ruleReply zs cm ak aq an apt).1).length) c_8_4 3 1 (((ruleReply zs cm ak aq an apt).1).map I), .own A2 ((marks 1 ((ruleReply zs cm ak aq an apt).1).length).length) c2 3 1 ((marks 1 ((ruleReply zs cm ak aq an apt).1).length).map I), .own A_31_1 zs.length c_31_1 53 3 (zs.flatMap gRule), .own Aq_31_3 aq.length cq_31_3 3 1 (aq.map I)] := hs32.call0 hs33'
       clear hs33'
       refine nl (kq ⟨_, hs33, memi 0 rfl, trivial⟩ ?_)
       refine a1 (i := 4) (by kernel_rfl) ?_
       refine one_ rfl ?_
       refine cl trivial rfl (iRulesReply (Azs := A_31_1) (czs := c_31_1) (zs := zs) (c := cm) (ak := ak) (Aaq := Aq_31_3) (caq := cq_31_3) (aq := aq) (an := an) (apt := apt) (w := _) (hzs := (hs33.sl0 3 rfl)) (hzs_e := (by first | (first | assumption | (simp; done) | exact fun u hu => Nat.le_trans (by first | exact p1 u hu | exact p2 u hu | exact p3 u hu) (by decide) | (intro u hu; simp at hu; simp [hu])) | (have hrl := ruleReply_len zs cm ak aq an apt; first | assumption | (simp; done) | exact fun u hu => Nat.le_trans (by first | exact p1 u hu | exact p2 u hu | exact p3 u hu) (by decide) | (intro u hu; simp at hu; simp [hu])))) (haq := (hs33.sl0 4 rfl)) (han_n := (by first | (first | omega | (simp; done) | (simp; omega)) | (have hrl := ruleReply_len zs cm ak aq an apt; first | omega | (simp; done) | (simp; omega)))) (hGp := (tab_up hGp hs33))) ?_
       rintro _ w24 ⟨A_31_4, c_31_4, rfl, hs34'⟩
       have hs34 : SH w w24 [] [.blk b1 27 [I cm, I ak, .slice Aaq aq.length caq, Str an, I apt], .own A_8_4 (((ruleReply zs cm ak aq an apt).1).length) c_8_4 3 1 (((ruleReply zs cm ak aq an apt).1).map I), .own A2 ((marks 1 ((ruleReply zs cm ak aq an apt).1).length).length) c2 3 1 ((marks 1 ((ruleReply zs cm ak aq an apt).1).length).map I), .own A_31_1 zs.length c_31_1 53 3 (zs.flatMap gRule), .own Aq_31_3 aq.length cq_31_3 3 1 (aq.map I), .own A_31_4 (((ruleReply zs cm ak aq an apt).1).length) c_31_4 3 1 (((ruleReply zs cm ak aq an apt).1).map I)] := hs33.call0 hs34'
       clear hs34'
       refine nl (kq ⟨_, hs34, memi 0 rfl, trivial⟩ ?_)
       refine tk (fuel := 0) (is := [5, 6, 7, 8, 9]) (.cons rfl (.cons rfl (.cons rfl (.cons rfl (.cons rfl (.nil)))))) (by kernel_rfl) (by kernel_rfl) ⟨_, hs34, memi 0 rfl, trivial⟩ ?_
       refine .op trivial rfl rfl (fun wq _ => mv (v := .tuple #[.slice A_31_4 (((ruleReply zs cm ak aq an apt).1).length) c_31_4, .bool ((ruleReply zs cm ak aq an apt).2)]) rfl) ?_
       refine .op trivial rfl rfl (fun wq _ => xt 0 (v := .slice A_31_4 (((ruleReply zs cm ak aq an apt).1).length) c_31_4) rfl rfl) ?_
       refine .op trivial rfl rfl (fun wq _ => xt 1 (v := .bool ((ruleReply zs cm ak aq an apt).2)) rfl rfl) ?_
       refine .op trivial rfl rfl (fun wq _ => asg (v := .slice A_31_4 (((ruleReply zs cm ak aq an apt).1).length) c_31_4) rfl) ?_
       refine .op trivial rfl rfl (fun wq _ => asg (v := .bool ((ruleReply zs cm ak aq an apt).2)) rfl) ?_
       refine .nil ?_
       refine ad (by kernel_rfl) ?_
       refine nN ?_
       have hs35 : SH w w24 [] [.own A_8_4 (((ruleReply zs cm ak aq an apt).1).length) c_8_4 3 1 (((ruleReply zs cm ak aq an apt).1).map I), .own A2 ((marks 1 ((ruleReply zs cm ak aq an apt).1).length).length) c2 3 1 ((marks 1 ((ruleReply zs cm ak aq an apt).1).length).map I), .own A_31_4 (((ruleReply zs cm ak aq an apt).1).length) c_31_4 3 1 (((ruleReply zs cm ak aq an apt).1).map I)] := hs34.pick [1, 2, 5] rfl (by decide)
       refine sq ?_
       refine sq ?_
       refine rg ?_
       refine q trivial rfl rfl (mv (v := .slice A_31_4 (((ruleReply zs cm ak aq an apt).1).length) c_31_4) rfl) ?_
       refine q trivial rfl rfl (mv (v := .slice A_8_4 (((ruleReply zs cm ak aq an apt).1).length) c_8_4) rfl) ?_
       refine cl trivial rfl (eqIntS (Axs := A_31_4) (cxs := c_31_4) (xs := (ruleReply zs cm ak aq an apt).1) (Abs := A_8_4) (cbs := c_8_4) (bs := (ruleReply zs cm ak aq an apt).1) (w := _) (hxs := (hs35.sl0 2 rfl)) (hbs := (hs35.sl0 0 rfl))) ?_
       rintro _ w25 ⟨rfl, hs36'⟩
       have hs36 : SH w w25 [] [.own A_8_4 (((ruleReply zs cm ak aq an apt).1).length) c_8_4 3 1 (((ruleReply zs cm ak aq an apt).1).map I), .own A2 ((marks 1 ((ruleReply zs cm ak aq an apt).1).length).length) c2 3 1 ((marks 1 ((ruleReply zs cm ak aq an apt).1).length).map I), .own A_31_4 (((ruleReply zs cm ak aq an apt).1).length) c_31_4 3 1 (((ruleReply zs cm ak aq an apt).1).map I)] := hs35.call0 hs36'
       clear hs36'
       refine q trivial rfl rfl (nd (p := ((ruleReply zs cm ak aq an apt).1) = ((ruleReply zs cm ak aq an apt).1)) rfl) ?_
       refine q trivial rfl rfl (mv (v := .bool (decide (¬ (((ruleReply zs cm ak aq an apt).1) = ((ruleReply zs cm ak aq an apt).1))))) rfl) ?_
       refine spd (p := ¬ (((ruleReply zs cm ak aq an apt).1) = ((ruleReply zs cm ak aq an apt).1))) 106 rfl (fun h12 => absurd h12 (by exact fun h => h rfl)) (fun h12 => ?_)
       refine q ⟨_, rfl, rfl⟩ rfl rfl (mv (v := .bool ((ruleReply zs cm ak aq an apt).2)) rfl) ?_
       refine q ⟨_, rfl, rfl⟩ rfl rfl (mv (v := .bool ((ruleReply zs cm ak aq an apt).2)) rfl) ?_
       refine q ⟨_, rfl, rfl⟩ rfl rfl (neb (a := ((ruleReply zs cm ak aq an apt).2)) (b := ((ruleReply zs cm ak aq an apt).2)) tb4 rfl rfl) ?_
       refine q trivial rfl rfl (pf (v := .bool (decide (((ruleReply zs cm ak aq an apt).2) ≠ ((ruleReply zs cm ak aq an apt).2)))) rfl rfl) ?_
       refine nl ?_
       refine nN ?_
       refine cdd (p := ((ruleReply zs cm ak aq an apt).2) ≠ ((ruleReply zs cm ak aq an apt).2)) rfl (fun h13 => absurd h13 (by exact fun h => h rfl)) (fun h13 => ?_)
       refine sk ?_
       refine nN ?_
       refine sq ?_
       refine rg ?_
       refine q trivial rfl rfl (asg (v := I 1) rfl) ?_
       refine nl ?_
       refine nN ?_
       refine sq ?_
       refine rg ?_
       refine q trivial rfl rfl (mv (v := .slice A2 (((ruleReply zs cm ak aq an apt).1).length) c2) rfl) ?_
       refine q trivial rfl rfl (mv (v := I 1) rfl) ?_
       refine cl trivial rfl (Does.castA (lc (slv rfl e4.symm rfl) (lc rfl rfl)) (heldIntS (Axs := A2) (cxs := c2) (xs := marks 1 ((ruleReply zs cm ak aq an apt).1).length) (k0 := 1) (w := _) (hxs := (hs36.sl0 1 rfl)) (hxs_n := (by first | (first | omega | (simp; done) | (simp; omega)) | (have hrl := ruleReply_len zs cm ak aq an apt; first | omega | (simp; done) | (simp; omega)))) (hk0 := (by first | (first | omega | assumption | (simp; done) | (simp; omega)) | (have hrl := ruleReply_len zs cm ak aq an apt; first | omega | assumption | (simp; done) | (simp; omega)))))) ?_
       rintro _ w26 ⟨rfl, hs37'⟩
       have hs37 : SH w w26 [] [.own A_8_4 (((ruleReply zs cm ak aq an apt).1).length) c_8_4 3 1 (((ruleReply zs cm ak aq an apt).1).map I), .own A2 ((marks 1 ((ruleReply zs cm ak aq an apt).1).length).length) c2 3 1 ((marks 1 ((ruleReply zs cm ak aq an apt).1).length).map I), .own A_31_4 (((ruleReply zs cm ak aq an apt).1).length) c_31_4 3 1 (((ruleReply zs cm ak aq an apt).1).map I)] := hs36.call0 hs37'
       clear hs37'
       refine q trivial rfl rfl (asg (v := I (heldI (marks 1 ((ruleReply zs cm ak aq an apt).1).length) 1)) rfl) ?_
       have e6 : heldI (marks 1 ((ruleReply zs cm ak aq an apt).1).length) 1 = 1 + ((((ruleReply zs cm ak aq an apt).1).length : Nat) : Int) := by exact held_marks _ _
       refine re 14 (v := I (1 + ((((ruleReply zs cm ak aq an apt).1).length : Nat) : Int))) (congrArg (Value.int .i64) e6) ?_
       refine nl ?_
       refine nN ?_
       refine sq ?_
       refine sq ?_
       refine rg ?_
       refine q trivial rfl rfl (mv (v := I (1 + ((((ruleReply zs cm ak aq an apt).1).length : Nat) : Int))) rfl) ?_
       refine q trivial rfl rfl (lss (k := .i64) (a := 1 + ((((ruleReply zs cm ak aq an apt).1).length : Nat) : Int)) (b := 0) rfl rfl) ?_
       refine nl ?_
       refine nN ?_
       refine cdd (p := (1 + ((((ruleReply zs cm ak aq an apt).1).length : Nat) : Int)) < 0) rfl (fun h14 => absurd h14 (by omega)) (fun h14 => ?_)
       refine sk ?_
       refine nN ?_
       refine sq ?_
       refine sq ?_
       refine rg ?_
       refine q trivial rfl rfl (mv (v := I (1 + ((((ruleReply zs cm ak aq an apt).1).length : Nat) : Int))) rfl) ?_
       refine q trivial rfl rfl (mv (v := I (1 + ((((ruleReply zs cm ak aq an apt).1).length : Nat) : Int))) rfl) ?_
       refine q trivial rfl rfl (nei (k := .i64) (a := 1 + ((((ruleReply zs cm ak aq an apt).1).length : Nat) : Int)) (b := 1 + ((((ruleReply zs cm ak aq an apt).1).length : Nat) : Int)) rfl rfl) ?_
       refine nl ?_
       refine nN ?_
       refine cdd (p := (1 + ((((ruleReply zs cm ak aq an apt).1).length : Nat) : Int)) ≠ (1 + ((((ruleReply zs cm ak aq an apt).1).length : Nat) : Int))) rfl (fun h15 => absurd h15 (by exact fun h => h rfl)) (fun h15 => ?_)
       refine sk ?_
       refine nN ?_
       refine sq ?_
       refine rg ?_
       refine q trivial rfl rfl (asg (v := .bool true) rfl) ?_
       refine nl ?_
       refine nN ?_
       refine rt ?_
       refine fret (v := .bool true) (.tmp .nil) rfl ?_
       exact ⟨rfl, (hs37.pick [] rfl (by decide))⟩

end Go.Proofs.YtcgdccfofinheaaGreatDoor
