/-
  Part of the proofs over this seat: what each function of the program computes, function by function (the text is written by a program of this hand-in's own).
  Conditions: each theorem states its own.
-/
import Derived.Test.YtjehmnojfpedjaaGreatDoorPfWalks3
namespace Go.Proofs.YtjehmnojfpedjaaGreatDoor
open Go.PF
set_option maxRecDepth 100000
set_option linter.unusedSimpArgs false
set_option linter.unusedVariables false

set_option maxHeartbeats 8000000 in
theorem sClientRun {Ams:Option Addr} {cms:Nat} (ms:List Int) (lu:List UInt8) (lw:List UInt8) (ak:Int) {Aaq:Option Addr} {caq:Nat} (aq:List Int) (an:List UInt8) (apt:Int) (sx:Int) {Awt:Option Addr} {cwt:Nat} (wt:List Int) {Alg:Option Addr} {clg:Nat} (lg:List (List UInt8×List UInt8)) (to:List UInt8) (w:World) (hms:Sl w [] 1 Ams ms.length cms (ms.map I)) (hlu_n:lu.length≤2147483648) (hlw_n:lw.length≤2147483648) (haq:Sl w [] 1 Aaq aq.length caq (aq.map I)) (han_n:an.length≤1099511627776) (hwt:Sl w [] 1 Awt wt.length cwt (wt.map I)) (hlg:Sl w [] 2 Alg lg.length clg (lg.flatMap gLogin)) (hlg_e: ∀ u∈lg,u.1.length≤9223372036854775807∧u.2.length≤9223372036854775807) (hto_n:to.length≤1099511627776):Does Tryz.prog 29 [.agg #[.slice Ams ms.length cms,Str lu,Str lw,I ak,.slice Aaq aq.length caq,Str an,I apt],.agg #[I sx,.slice Awt wt.length cwt,.slice Alg lg.length clg,Str to]] w (fun v w'=>∃ Awr:Option Addr,∃ cwr:Nat,∃ Alr:Option Addr,∃ clr:Nat,v=.tuple #[.agg #[.int .i64 ((clRun ⟨ms,lu,lw,ak,aq,an,apt⟩ (sx,wt,lg,to)).1.1),.slice Awr ((clRun ⟨ms,lu,lw,ak,aq,an,apt⟩ (sx,wt,lg,to)).1.2.1).length cwr,.slice Alr ((clRun ⟨ms,lu,lw,ak,aq,an,apt⟩ (sx,wt,lg,to)).1.2.2.1).length clr,Str ((clRun ⟨ms,lu,lw,ak,aq,an,apt⟩ (sx,wt,lg,to)).1.2.2.2)],.bool ((clRun ⟨ms,lu,lw,ak,aq,an,apt⟩ (sx,wt,lg,to)).2)]∧SH w w' [] [.own Awr (((clRun ⟨ms,lu,lw,ak,aq,an,apt⟩ (sx,wt,lg,to)).1.2.1).length) cwr 3 1 (((clRun ⟨ms,lu,lw,ak,aq,an,apt⟩ (sx,wt,lg,to)).1.2.1).map I),.own Alr (((clRun ⟨ms,lu,lw,ak,aq,an,apt⟩ (sx,wt,lg,to)).1.2.2.1).length) clr 51 2 (((clRun ⟨ms,lu,lw,ak,aq,an,apt⟩ (sx,wt,lg,to)).1.2.2.1).flatMap gLogin)]):=by
 refine fE (N:=53) Tryz.func29 r0 (by kernel_rfl) r0 ?_
 have hs0:SH w w [] []:=SH.refl w []
 have hms_m:ms.length≤9223372036854775807:=Nat.le_trans hms.cap hms.capMax
 have haq_m:aq.length≤9223372036854775807:=Nat.le_trans haq.cap haq.capMax
 have hwt_m:wt.length≤9223372036854775807:=Nat.le_trans hwt.cap hwt.capMax
 have hlg_m:lg.length≤9223372036854775807:=Nat.le_trans hlg.cap hlg.capMax
 refine sr (bx (v:=.agg #[(Z7 Ams ms cms),Str lu,Str lw,I ak,(Z7 Aaq aq caq),Str an,I apt]) (cs:=(Z1 Ams ms cms lu lw ak Aaq aq caq an apt)) hs0 r0 r0 trivial r0 (fun b1 w1 (hs1:SH w w1 [] [.blk b1 53 (Z1 Ams ms cms lu lw ak Aaq aq caq an apt)])=>?_))
 refine bx (v:=.agg #[I sx,(Z7 Awt wt cwt),.slice Alg lg.length clg,Str to]) (cs:=(Z0 sx Awt wt cwt Alg lg clg to)) hs1 r0 r0 trivial r0 (fun b2 w2 (hs2:SH w w2 [] [.blk b1 53 (Z1 Ams ms cms lu lw ak Aaq aq caq an apt),.blk b2 29 (Z0 sx Awt wt cwt Alg lg clg to)])=>?_)
 refine al (v:=.agg #[I 0,ns,ns,Str []]) (cs:=[I 0,ns,ns,Str []]) hs2 tz29 r0 trivial r0 (fun b3 w3 (hs3:SH w w3 [] [.blk b1 53 (Z1 Ams ms cms lu lw ak Aaq aq caq an apt),.blk b2 29 (Z0 sx Awt wt cwt Alg lg clg to),(Z2 b3)])=>?_)
 refine tA (.bool false) r0 (nn (sq (sr (qt r0 (lG (Z1 Ams ms cms lu lw ak Aaq aq caq an apt) hs3 0 r0 ag53) (cL r0 (sClientValid (Ams:=Ams) (cms:=cms) (ms:=ms) (lu:=lu) (lw:=lw) (ak:=ak) (Aaq:=Aaq) (caq:=caq) (aq:=aq) (an:=an) (apt:=apt) (w:=_) (hms:=(hms.up0 hs3)) (hlu_n:=(by(first | omega | (simp; done) | (simp; omega)))) (hlw_n:=(by(first | omega | (simp; done) | (simp; omega)))) (haq:=(haq.up0 hs3)) (han_n:=(by(first | omega | (simp; done) | (simp; omega))))) ?_)))))
 rintro _ w4 ⟨rfl,hs4⟩
 replace hs4:=hs3.call0 hs4
 refine qt r0 (nt (b:=clientOk ms lu lw ak aq an apt) r0) (tm (.bool (!(clientOk ms lu lw ak aq an apt))) r0 ?_)
 refine spl (b:=!(clientOk ms lu lw ak aq an apt)) 17 r0 (fun h1=>?_) (fun h1=>?_)
 ·have h2:(clientOk ms lu lw ak aq an apt)=false:=by simpa using h1
  refine gt5 r0 (gt5 r0 (gt5 r0 (qt r0 (pt (v:=.bool true) r0 r0) (nn (cdt r0 (sq ?_))))))
  refine rg (qt r0 (bdv (v:=.agg #[I 0,ns,ns,Str []]) [] r0 (fun _=>by kernel_rfl)) (sG [I 0,ns,ns,Str []] hs4 2 r0 ag29 (fun w5 (hs5:SH w w5 [] [.blk b1 53 (Z1 Ams ms cms lu lw ak Aaq aq caq an apt),.blk b2 29 (Z0 sx Awt wt cwt Alg lg clg to),(Z2 b3)])=>?_)))
  refine tA (.bool false) r0 (nn (rt (tR ?_)))
  refine fret (v:=.tuple #[.agg #[I 0,ns,ns,Str []],.bool false]) (resC hs5 2 r0 r0 ag29 r0 (.tmp .nil)) r0 ?_
  have hs6:SH w w5 [] [.blk b1 53 (Z1 Ams ms cms lu lw ak Aaq aq caq an apt),.blk b2 29 (Z0 sx Awt wt cwt Alg lg clg to),(Z2 b3),.own none (([]:List Int).length) 0 3 1 (([]:List Int).map I)]:=SH.nils (by intro i hi; simp at hi; subst hi; exact nilItem) hs5
  have hs7:SH w w5 [] [.blk b1 53 (Z1 Ams ms cms lu lw ak Aaq aq caq an apt),.blk b2 29 (Z0 sx Awt wt cwt Alg lg clg to),(Z2 b3),.own none (([]:List Int).length) 0 3 1 (([]:List Int).map I),.own none (([]:List (List UInt8×List UInt8)).length) 0 51 2 (([]:List (List UInt8×List UInt8)).flatMap gLogin)]:=SH.nils (by intro i hi; simp at hi; subst hi; exact nilItemF) hs6
  have e1:clRun ⟨ms,lu,lw,ak,aq,an,apt⟩ (sx,wt,lg,to)=((0,([]:List Int),([]:List (List UInt8×List UInt8)),[]),false):=by exact cl_n (.inl (by assumption))
  have e2:=pj11 e1
  have e3:=pj121 e1
  have e4:=congrArg List.length e3
  have e5:=pj1221 e1
  have e6:=congrArg List.length e5
  have e7:=pj1222 e1
  have e8:=pj2 e1
  exact⟨none,0,none,0,(tup2 (aggv (lc (congrArg (Value.int .i64) e2) (lc (slv r0 e4 r0) (lc (slv r0 e6 r0) (lc (congrArg (Str) e7) r0))))) (congrArg (Value.bool) e8)),((hs7.pk [3,4] r0).cast (lc (own_eq (g:=I) r0 e4 r0 e3) (lc (own_eqf (g:=gLogin) r0 e6 r0 e5) r0)))⟩
 ·have h3:(clientOk ms lu lw ak aq an apt)=true:=by simpa using h1
  refine q ⟨_,rfl,rfl⟩ r0 r0 (lG (Z0 sx Awt wt cwt Alg lg clg to) hs4 1 r0 ag29) (cl ⟨_,rfl,rfl⟩ r0 (sTalkValid (sx:=sx) (Awt:=Awt) (cwt:=cwt) (wt:=wt) (Alg:=Alg) (clg:=clg) (lg:=lg) (to:=to) (w:=_) (hwt:=(hwt.up0 hs4)) (hlg:=(hlg.up0 hs4)) (hlg_e:=hlg_e) (hto_n:=(by(first | omega | (simp; done) | (simp; omega))))) ?_)
  rintro _ w6 ⟨rfl,hs8⟩
  replace hs8:=hs4.call0 hs8
  refine q ⟨_,rfl,rfl⟩ r0 r0 (nt (b:=talkOk sx wt lg to) r0) (qt r0 (pf (v:=.bool (!(talkOk sx wt lg to))) r0 r0) (nn ?_))
  refine cd (b:=!(talkOk sx wt lg to)) r0 (fun h4=>?_) (fun h4=>?_)
  ·have h5:(talkOk sx wt lg to)=false:=by simpa using h4
   refine sr (qt r0 (bdv (v:=.agg #[I 0,ns,ns,Str []]) [] r0 (fun _=>by kernel_rfl)) (sG [I 0,ns,ns,Str []] hs8 2 r0 ag29 (fun w7 (hs9:SH w w7 [] [.blk b1 53 (Z1 Ams ms cms lu lw ak Aaq aq caq an apt),.blk b2 29 (Z0 sx Awt wt cwt Alg lg clg to),(Z2 b3)])=>?_)))
   refine tA (.bool false) r0 (nn (rt (tR ?_)))
   refine fret (v:=.tuple #[.agg #[I 0,ns,ns,Str []],.bool false]) (resC hs9 2 r0 r0 ag29 r0 (.tmp .nil)) r0 ?_
   have hs10:SH w w7 [] [.blk b1 53 (Z1 Ams ms cms lu lw ak Aaq aq caq an apt),.blk b2 29 (Z0 sx Awt wt cwt Alg lg clg to),(Z2 b3),.own none (([]:List Int).length) 0 3 1 (([]:List Int).map I)]:=SH.nils (by intro i hi; simp at hi; subst hi; exact nilItem) hs9
   have hs11:SH w w7 [] [.blk b1 53 (Z1 Ams ms cms lu lw ak Aaq aq caq an apt),.blk b2 29 (Z0 sx Awt wt cwt Alg lg clg to),(Z2 b3),.own none (([]:List Int).length) 0 3 1 (([]:List Int).map I),.own none (([]:List (List UInt8×List UInt8)).length) 0 51 2 (([]:List (List UInt8×List UInt8)).flatMap gLogin)]:=SH.nils (by intro i hi; simp at hi; subst hi; exact nilItemF) hs10
   have e9:clRun ⟨ms,lu,lw,ak,aq,an,apt⟩ (sx,wt,lg,to)=((0,([]:List Int),([]:List (List UInt8×List UInt8)),[]),false):=by exact cl_n (.inr (by assumption))
   have e10:=pj11 e9
   have e11:=pj121 e9
   have e12:=congrArg List.length e11
   have e13:=pj1221 e9
   have e14:=congrArg List.length e13
   have e15:=pj1222 e9
   have e16:=pj2 e9
   exact⟨none,0,none,0,(tup2 (aggv (lc (congrArg (Value.int .i64) e10) (lc (slv r0 e12 r0) (lc (slv r0 e14 r0) (lc (congrArg (Str) e15) r0))))) (congrArg (Value.bool) e16)),((hs11.pk [3,4] r0).cast (lc (own_eq (g:=I) r0 e12 r0 e11) (lc (own_eqf (g:=gLogin) r0 e14 r0 e13) r0)))⟩
  ·have h6:(talkOk sx wt lg to)=true:=by simpa using h4
   refine sk (nN (sr (qt r0 (lG (Z0 sx Awt wt cwt Alg lg clg to) hs8 1 r0 ag29) (al (v:=.agg #[I 0,ns,ns,Str []]) (cs:=[I 0,ns,ns,Str []]) hs8 tz29 r0 trivial r0 (fun b4 w8 (hs12:SH w w8 [] [.blk b1 53 (Z1 Ams ms cms lu lw ak Aaq aq caq an apt),.blk b2 29 (Z0 sx Awt wt cwt Alg lg clg to),(Z2 b3),(Z2 b4)])=>?_)))))
   refine sG (Z0 sx Awt wt cwt Alg lg clg to) hs12 3 r0 ag29 (fun w9 (hs13:SH w w9 [] [.blk b1 53 (Z1 Ams ms cms lu lw ak Aaq aq caq an apt),.blk b2 29 (Z0 sx Awt wt cwt Alg lg clg to),(Z2 b3),.blk b4 29 (Z0 sx Awt wt cwt Alg lg clg to)])=>?_)
   refine nn (sq (sr (tA (I 0) r0 (nn ?_))))
   refine bl (ul0 (ulS ?_))
   refine sq (sr (tm (I 0) r0 (qt r0 (lss (k:=.i64) (a:=0) (b:=3) r0 r0) (nn ?_))))
   refine cdd (p:=0<3) r0 (fun h7=>?_) (fun h7=>absurd (by decide) h7)
   refine sk (nN (sq (bl (sr (qt r0 (lG (Z1 Ams ms cms lu lw ak Aaq aq caq an apt) hs13 0 r0 ag53) (qt r0 (fa 0 fo29_0 r0) ?_))))))
   refine qt r0 (lD (I sx) hs13 3 r0 one3) (cL r0 (sClientSay (Ams:=Ams) (cms:=cms) (ms:=ms) (lu:=lu) (lw:=lw) (ak:=ak) (Aaq:=Aaq) (caq:=caq) (aq:=aq) (an:=an) (apt:=apt) (n:=sx) (w:=_) (hms:=(hms.up0 hs13)) (hlu_n:=(by(first | omega | (simp; done) | (simp; omega)))) (hlw_n:=(by(first | omega | (simp; done) | (simp; omega)))) (haq:=(haq.up0 hs13)) (han_n:=(by(first | omega | (simp; done) | (simp; omega))))) ?_)
   rintro _ w10 ⟨A1,c1,rfl,hs14⟩
   replace hs14:=hs13.call0 hs14
   refine tm (.tuple #[.slice A1 (((sayP ms lu lw ak aq an apt sx).1).length) c1,.bool ((sayP ms lu lw ak aq an apt sx).2)]) r0 (qt r0 (xt 0 (v:=.slice A1 (((sayP ms lu lw ak aq an apt sx).1).length) c1) r0 r0) (qt r0 (xt 1 (v:=.bool ((sayP ms lu lw ak aq an apt sx).2)) r0 r0) (tA (.slice A1 (((sayP ms lu lw ak aq an apt sx).1).length) c1) r0 (tA (.bool ((sayP ms lu lw ak aq an apt sx).2)) r0 (nn (sq ?_))))))
   refine rg (tm (.bool ((sayP ms lu lw ak aq an apt sx).2)) r0 (nn ?_))
   refine cd (b:=(sayP ms lu lw ak aq an apt sx).2) r0 (fun h8=>?_) (fun h8=>?_)
   ·refine sr (qt r0 (lG (Z0 sx Awt wt cwt Alg lg clg to) hs14 3 r0 ag29) (tm (.slice A1 (((sayP ms lu lw ak aq an apt sx).1).length) c1) r0 (cL r0 (sTalkSayE (sx:=sx) (Awt:=Awt) (cwt:=cwt) (wt:=wt) (Alg:=Alg) (clg:=clg) (lg:=lg) (to:=to) (Abs:=A1) (cbs:=c1) (bs:=(sayP ms lu lw ak aq an apt sx).1) (w:=_) (hwt:=(hwt.up0 hs14)) (hlg:=(hlg.up0 hs14)) (hlg_e:=hlg_e) (hto_n:=(by(first | omega | (simp; done) | (simp; omega)))) (hbs:=(hs14.sl0 4 r0))) ?_)))
    rintro _ w11 ⟨Aw1,cw1,Al1,cl1,Ay1,cy1,ya1,yb1,yc1,yd1,rfl,p1,p2,p3,p4,p5,hs15⟩
    replace hs15:=hs14.call0 hs15
    refine tm (.tuple #[.agg #[I ya1,.slice Aw1 yb1.length cw1,.slice Al1 yc1.length cl1,Str yd1],.slice Ay1 (((talkSay sx wt lg to ((sayP ms lu lw ak aq an apt sx).1)).2.1).length) cy1,.bool ((talkSay sx wt lg to ((sayP ms lu lw ak aq an apt sx).1)).2.2)]) r0 (qt r0 (xt 0 (v:=.agg #[I ya1,.slice Aw1 yb1.length cw1,.slice Al1 yc1.length cl1,Str yd1]) r0 r0) (qt r0 (xt 1 (v:=.slice Ay1 (((talkSay sx wt lg to ((sayP ms lu lw ak aq an apt sx).1)).2.1).length) cy1) r0 r0) (qt r0 (xt 2 (v:=.bool ((talkSay sx wt lg to ((sayP ms lu lw ak aq an apt sx).1)).2.2)) r0 r0) (al (v:=.agg #[I 0,ns,ns,Str []]) (cs:=[I 0,ns,ns,Str []]) hs15 tz29 r0 trivial r0 (fun b5 w12 (hs16:SH w w12 [] [.blk b1 53 (Z1 Ams ms cms lu lw ak Aaq aq caq an apt),.blk b2 29 (Z0 sx Awt wt cwt Alg lg clg to),(Z2 b3),.blk b4 29 (Z0 sx Awt wt cwt Alg lg clg to),.own A1 (((sayP ms lu lw ak aq an apt sx).1).length) c1 3 1 (((sayP ms lu lw ak aq an apt sx).1).map I),.own Aw1 yb1.length cw1 3 1 (yb1.map I),.own Al1 yc1.length cl1 51 2 (yc1.flatMap gLogin),.own Ay1 (((talkSay sx wt lg to ((sayP ms lu lw ak aq an apt sx).1)).2.1).length) cy1 3 1 (((talkSay sx wt lg to ((sayP ms lu lw ak aq an apt sx).1)).2.1).map I),(Z2 b5)])=>?_)))))
    refine sG [I ya1,.slice Aw1 yb1.length cw1,.slice Al1 yc1.length cl1,Str yd1] hs16 8 r0 ag29 (fun w13 (hs17:SH w w13 [] [.blk b1 53 (Z1 Ams ms cms lu lw ak Aaq aq caq an apt),.blk b2 29 (Z0 sx Awt wt cwt Alg lg clg to),(Z2 b3),.blk b4 29 (Z0 sx Awt wt cwt Alg lg clg to),.own A1 (((sayP ms lu lw ak aq an apt sx).1).length) c1 3 1 (((sayP ms lu lw ak aq an apt sx).1).map I),.own Aw1 yb1.length cw1 3 1 (yb1.map I),.own Al1 yc1.length cl1 51 2 (yc1.flatMap gLogin),.own Ay1 (((talkSay sx wt lg to ((sayP ms lu lw ak aq an apt sx).1)).2.1).length) cy1 3 1 (((talkSay sx wt lg to ((sayP ms lu lw ak aq an apt sx).1)).2.1).map I),.blk b5 29 [I ya1,.slice Aw1 yb1.length cw1,.slice Al1 yc1.length cl1,Str yd1]])=>?_)
    refine tA (.slice Ay1 (((talkSay sx wt lg to ((sayP ms lu lw ak aq an apt sx).1)).2.1).length) cy1) r0 (tA (.bool ((talkSay sx wt lg to ((sayP ms lu lw ak aq an apt sx).1)).2.2)) r0 (nn ?_))
    have hs18:SH w w13 [] [.blk b1 53 (Z1 Ams ms cms lu lw ak Aaq aq caq an apt),(Z2 b3),.blk b4 29 (Z0 sx Awt wt cwt Alg lg clg to),.own Aw1 yb1.length cw1 3 1 (yb1.map I),.own Al1 yc1.length cl1 51 2 (yc1.flatMap gLogin),.blk b5 29 [I ya1,.slice Aw1 yb1.length cw1,.slice Al1 yc1.length cl1,Str yd1]]:=hs17.pk [0,2,3,5,6,8] r0
    refine sr (tm (.bool ((talkSay sx wt lg to ((sayP ms lu lw ak aq an apt sx).1)).2.2)) r0 (nn ?_))
    refine cd (b:=(talkSay sx wt lg to ((sayP ms lu lw ak aq an apt sx).1)).2.2) r0 (fun h9=>?_) (fun h9=>?_)
    ·refine rg (qt r0 (lG [I ya1,.slice Aw1 yb1.length cw1,.slice Al1 yc1.length cl1,Str yd1] hs18 5 r0 ag29) (sG [I ya1,.slice Aw1 yb1.length cw1,.slice Al1 yc1.length cl1,Str yd1] hs18 2 r0 ag29 (fun w14 (hs19:SH w w14 [] [.blk b1 53 (Z1 Ams ms cms lu lw ak Aaq aq caq an apt),(Z2 b3),.own Aw1 yb1.length cw1 3 1 (yb1.map I),.own Al1 yc1.length cl1 51 2 (yc1.flatMap gLogin),.blk b5 29 [I ya1,.slice Aw1 yb1.length cw1,.slice Al1 yc1.length cl1,Str yd1],.blk b4 29 [I ya1,.slice Aw1 yb1.length cw1,.slice Al1 yc1.length cl1,Str yd1]])=>?_)))
     refine nl (bN (nN (rg (tm (I 0) r0 (qt r0 (add (a:=0) (b:=1) r0 r0 (by(exact⟨by omega,by omega⟩))) (tA (I ((0:Int)+1)) r0 (nl ?_)))))))
     refine nN (ulS (sq (sr (tm (I ((0:Int)+1)) r0 (qt r0 (lss (k:=.i64) (a:=(0:Int)+1) (b:=3) r0 r0) (nl ?_))))))
     refine nN ?_
     refine cdd (p:=((0:Int)+1)<3) r0 (fun h10=>?_) (fun h10=>absurd (by decide) h10)
     refine sk (nN (sq (bl (sr (qt r0 (lG (Z1 Ams ms cms lu lw ak Aaq aq caq an apt) hs19 0 r0 ag53) (qt r0 (fa 0 fo29_0 r0) ?_))))))
     refine qt r0 (lD (I ya1) hs19 5 r0 one3) (cL r0 (sClientSay (Ams:=Ams) (cms:=cms) (ms:=ms) (lu:=lu) (lw:=lw) (ak:=ak) (Aaq:=Aaq) (caq:=caq) (aq:=aq) (an:=an) (apt:=apt) (n:=ya1) (w:=_) (hms:=(hms.up0 hs19)) (hlu_n:=(by(first | omega | (simp; done) | (simp; omega)))) (hlw_n:=(by(first | omega | (simp; done) | (simp; omega)))) (haq:=(haq.up0 hs19)) (han_n:=(by(first | omega | (simp; done) | (simp; omega))))) ?_)
     rintro _ w15 ⟨A2,c2,rfl,hs20⟩
     replace hs20:=hs19.call0 hs20
     refine tm (.tuple #[.slice A2 (((sayP ms lu lw ak aq an apt ya1).1).length) c2,.bool ((sayP ms lu lw ak aq an apt ya1).2)]) r0 (qt r0 (xt 0 (v:=.slice A2 (((sayP ms lu lw ak aq an apt ya1).1).length) c2) r0 r0) (qt r0 (xt 1 (v:=.bool ((sayP ms lu lw ak aq an apt ya1).2)) r0 r0) (tA (.slice A2 (((sayP ms lu lw ak aq an apt ya1).1).length) c2) r0 (tA (.bool ((sayP ms lu lw ak aq an apt ya1).2)) r0 (nn (sq ?_))))))
     refine rg (tm (.bool ((sayP ms lu lw ak aq an apt ya1).2)) r0 (nn ?_))
     refine cd (b:=(sayP ms lu lw ak aq an apt ya1).2) r0 (fun h11=>?_) (fun h11=>?_)
     ·refine sr (qt r0 (lG [I ya1,.slice Aw1 yb1.length cw1,.slice Al1 yc1.length cl1,Str yd1] hs20 5 r0 ag29) (tm (.slice A2 (((sayP ms lu lw ak aq an apt ya1).1).length) c2) r0 (cL r0 (sTalkSayE (sx:=ya1) (Awt:=Aw1) (cwt:=cw1) (wt:=yb1) (Alg:=Al1) (clg:=cl1) (lg:=yc1) (to:=yd1) (Abs:=A2) (cbs:=c2) (bs:=(sayP ms lu lw ak aq an apt ya1).1) (w:=_) (hwt:=(hs20.sl0 2 r0)) (hlg:=(hs20.sl0 3 r0)) (hlg_e:=(by exact fun u hu=>hlg_e u (p5 u hu))) (hto_n:=(by(first | omega | (simp; done) | (simp; omega)))) (hbs:=(hs20.sl0 6 r0))) ?_)))
      rintro _ w16 ⟨Aw2,cw2,Al2,cl2,Ay2,cy2,ya2,yb2,yc2,yd2,rfl,p6,p7,p8,p9,p10,hs21⟩
      replace hs21:=hs20.call0 hs21
      refine tm (.tuple #[.agg #[I ya2,.slice Aw2 yb2.length cw2,.slice Al2 yc2.length cl2,Str yd2],.slice Ay2 (((talkSay ya1 yb1 yc1 yd1 ((sayP ms lu lw ak aq an apt ya1).1)).2.1).length) cy2,.bool ((talkSay ya1 yb1 yc1 yd1 ((sayP ms lu lw ak aq an apt ya1).1)).2.2)]) r0 (qt r0 (xt 0 (v:=.agg #[I ya2,.slice Aw2 yb2.length cw2,.slice Al2 yc2.length cl2,Str yd2]) r0 r0) (qt r0 (xt 1 (v:=.slice Ay2 (((talkSay ya1 yb1 yc1 yd1 ((sayP ms lu lw ak aq an apt ya1).1)).2.1).length) cy2) r0 r0) (qt r0 (xt 2 (v:=.bool ((talkSay ya1 yb1 yc1 yd1 ((sayP ms lu lw ak aq an apt ya1).1)).2.2)) r0 r0) (al (v:=.agg #[I 0,ns,ns,Str []]) (cs:=[I 0,ns,ns,Str []]) hs21 tz29 r0 trivial r0 (fun b6 w17 (hs22:SH w w17 [] [.blk b1 53 (Z1 Ams ms cms lu lw ak Aaq aq caq an apt),(Z2 b3),.own Aw1 yb1.length cw1 3 1 (yb1.map I),.own Al1 yc1.length cl1 51 2 (yc1.flatMap gLogin),.blk b5 29 [I ya1,.slice Aw1 yb1.length cw1,.slice Al1 yc1.length cl1,Str yd1],.blk b4 29 [I ya1,.slice Aw1 yb1.length cw1,.slice Al1 yc1.length cl1,Str yd1],.own A2 (((sayP ms lu lw ak aq an apt ya1).1).length) c2 3 1 (((sayP ms lu lw ak aq an apt ya1).1).map I),.own Aw2 yb2.length cw2 3 1 (yb2.map I),.own Al2 yc2.length cl2 51 2 (yc2.flatMap gLogin),.own Ay2 (((talkSay ya1 yb1 yc1 yd1 ((sayP ms lu lw ak aq an apt ya1).1)).2.1).length) cy2 3 1 (((talkSay ya1 yb1 yc1 yd1 ((sayP ms lu lw ak aq an apt ya1).1)).2.1).map I),(Z2 b6)])=>?_)))))
      refine sG [I ya2,.slice Aw2 yb2.length cw2,.slice Al2 yc2.length cl2,Str yd2] hs22 10 r0 ag29 (fun w18 (hs23:SH w w18 [] [.blk b1 53 (Z1 Ams ms cms lu lw ak Aaq aq caq an apt),(Z2 b3),.own Aw1 yb1.length cw1 3 1 (yb1.map I),.own Al1 yc1.length cl1 51 2 (yc1.flatMap gLogin),.blk b5 29 [I ya1,.slice Aw1 yb1.length cw1,.slice Al1 yc1.length cl1,Str yd1],.blk b4 29 [I ya1,.slice Aw1 yb1.length cw1,.slice Al1 yc1.length cl1,Str yd1],.own A2 (((sayP ms lu lw ak aq an apt ya1).1).length) c2 3 1 (((sayP ms lu lw ak aq an apt ya1).1).map I),.own Aw2 yb2.length cw2 3 1 (yb2.map I),.own Al2 yc2.length cl2 51 2 (yc2.flatMap gLogin),.own Ay2 (((talkSay ya1 yb1 yc1 yd1 ((sayP ms lu lw ak aq an apt ya1).1)).2.1).length) cy2 3 1 (((talkSay ya1 yb1 yc1 yd1 ((sayP ms lu lw ak aq an apt ya1).1)).2.1).map I),.blk b6 29 [I ya2,.slice Aw2 yb2.length cw2,.slice Al2 yc2.length cl2,Str yd2]])=>?_)
      refine tA (.slice Ay2 (((talkSay ya1 yb1 yc1 yd1 ((sayP ms lu lw ak aq an apt ya1).1)).2.1).length) cy2) r0 (tA (.bool ((talkSay ya1 yb1 yc1 yd1 ((sayP ms lu lw ak aq an apt ya1).1)).2.2)) r0 (nn ?_))
      have hs24:SH w w18 [] [.blk b1 53 (Z1 Ams ms cms lu lw ak Aaq aq caq an apt),(Z2 b3),.own Aw1 yb1.length cw1 3 1 (yb1.map I),.own Al1 yc1.length cl1 51 2 (yc1.flatMap gLogin),.blk b4 29 [I ya1,.slice Aw1 yb1.length cw1,.slice Al1 yc1.length cl1,Str yd1],.own Aw2 yb2.length cw2 3 1 (yb2.map I),.own Al2 yc2.length cl2 51 2 (yc2.flatMap gLogin),.blk b6 29 [I ya2,.slice Aw2 yb2.length cw2,.slice Al2 yc2.length cl2,Str yd2]]:=hs23.pk [0,1,2,3,5,7,8,10] r0
      refine sr (tm (.bool ((talkSay ya1 yb1 yc1 yd1 ((sayP ms lu lw ak aq an apt ya1).1)).2.2)) r0 (nn ?_))
      refine cd (b:=(talkSay ya1 yb1 yc1 yd1 ((sayP ms lu lw ak aq an apt ya1).1)).2.2) r0 (fun h12=>?_) (fun h12=>?_)
      ·refine rg (qt r0 (lG [I ya2,.slice Aw2 yb2.length cw2,.slice Al2 yc2.length cl2,Str yd2] hs24 7 r0 ag29) (sG [I ya2,.slice Aw2 yb2.length cw2,.slice Al2 yc2.length cl2,Str yd2] hs24 4 r0 ag29 (fun w19 (hs25:SH w w19 [] [.blk b1 53 (Z1 Ams ms cms lu lw ak Aaq aq caq an apt),(Z2 b3),.own Aw1 yb1.length cw1 3 1 (yb1.map I),.own Al1 yc1.length cl1 51 2 (yc1.flatMap gLogin),.own Aw2 yb2.length cw2 3 1 (yb2.map I),.own Al2 yc2.length cl2 51 2 (yc2.flatMap gLogin),.blk b6 29 [I ya2,.slice Aw2 yb2.length cw2,.slice Al2 yc2.length cl2,Str yd2],.blk b4 29 [I ya2,.slice Aw2 yb2.length cw2,.slice Al2 yc2.length cl2,Str yd2]])=>?_)))
       refine nl (bN (nN ?_))
       have hs26:SH w w19 [] [.blk b1 53 (Z1 Ams ms cms lu lw ak Aaq aq caq an apt),(Z2 b3),.own Aw2 yb2.length cw2 3 1 (yb2.map I),.own Al2 yc2.length cl2 51 2 (yc2.flatMap gLogin),.blk b4 29 [I ya2,.slice Aw2 yb2.length cw2,.slice Al2 yc2.length cl2,Str yd2]]:=hs25.pk [0,1,4,5,7] r0
       refine rg (tm (I ((0:Int)+1)) r0 (qt r0 (add (a:=(0:Int)+1) (b:=1) r0 r0 (by(exact⟨by omega,by omega⟩))) (tA (I (((0:Int)+1)+1)) r0 (nn (ulS (sq ?_))))))
       refine sr (tm (I (((0:Int)+1)+1)) r0 (qt r0 (lss (k:=.i64) (a:=((0:Int)+1)+1) (b:=3) r0 r0) (nn ?_)))
       refine cdd (p:=(((0:Int)+1)+1)<3) r0 (fun h13=>?_) (fun h13=>absurd (by decide) h13)
       refine sk (nN (sq (bl (sr (qt r0 (lG (Z1 Ams ms cms lu lw ak Aaq aq caq an apt) hs26 0 r0 ag53) (qt r0 (fa 0 fo29_0 r0) ?_))))))
       refine qt r0 (lD (I ya2) hs26 4 r0 one3) (cL r0 (sClientSay (Ams:=Ams) (cms:=cms) (ms:=ms) (lu:=lu) (lw:=lw) (ak:=ak) (Aaq:=Aaq) (caq:=caq) (aq:=aq) (an:=an) (apt:=apt) (n:=ya2) (w:=_) (hms:=(hms.up0 hs26)) (hlu_n:=(by(first | omega | (simp; done) | (simp; omega)))) (hlw_n:=(by(first | omega | (simp; done) | (simp; omega)))) (haq:=(haq.up0 hs26)) (han_n:=(by(first | omega | (simp; done) | (simp; omega))))) ?_)
       rintro _ w20 ⟨A3,c3,rfl,hs27⟩
       replace hs27:=hs26.call0 hs27
       refine tm (.tuple #[.slice A3 (((sayP ms lu lw ak aq an apt ya2).1).length) c3,.bool ((sayP ms lu lw ak aq an apt ya2).2)]) r0 (qt r0 (xt 0 (v:=.slice A3 (((sayP ms lu lw ak aq an apt ya2).1).length) c3) r0 r0) (qt r0 (xt 1 (v:=.bool ((sayP ms lu lw ak aq an apt ya2).2)) r0 r0) (tA (.slice A3 (((sayP ms lu lw ak aq an apt ya2).1).length) c3) r0 (tA (.bool ((sayP ms lu lw ak aq an apt ya2).2)) r0 (nn (sq ?_))))))
       refine rg (tm (.bool ((sayP ms lu lw ak aq an apt ya2).2)) r0 (nn ?_))
       refine cd (b:=(sayP ms lu lw ak aq an apt ya2).2) r0 (fun h14=>?_) (fun h14=>?_)
       ·refine sr (qt r0 (lG [I ya2,.slice Aw2 yb2.length cw2,.slice Al2 yc2.length cl2,Str yd2] hs27 4 r0 ag29) (tm (.slice A3 (((sayP ms lu lw ak aq an apt ya2).1).length) c3) r0 (cL r0 (sTalkSayE (sx:=ya2) (Awt:=Aw2) (cwt:=cw2) (wt:=yb2) (Alg:=Al2) (clg:=cl2) (lg:=yc2) (to:=yd2) (Abs:=A3) (cbs:=c3) (bs:=(sayP ms lu lw ak aq an apt ya2).1) (w:=_) (hwt:=(hs27.sl0 2 r0)) (hlg:=(hs27.sl0 3 r0)) (hlg_e:=(by exact fun u hu=>hlg_e u (p5 u (p10 u hu)))) (hto_n:=(by(first | omega | (simp; done) | (simp; omega)))) (hbs:=(hs27.sl0 5 r0))) ?_)))
        rintro _ w21 ⟨Aw3,cw3,Al3,cl3,Ay3,cy3,ya3,yb3,yc3,yd3,rfl,p11,p12,p13,p14,p15,hs28⟩
        replace hs28:=hs27.call0 hs28
        refine tm (.tuple #[.agg #[I ya3,.slice Aw3 yb3.length cw3,.slice Al3 yc3.length cl3,Str yd3],.slice Ay3 (((talkSay ya2 yb2 yc2 yd2 ((sayP ms lu lw ak aq an apt ya2).1)).2.1).length) cy3,.bool ((talkSay ya2 yb2 yc2 yd2 ((sayP ms lu lw ak aq an apt ya2).1)).2.2)]) r0 (qt r0 (xt 0 (v:=.agg #[I ya3,.slice Aw3 yb3.length cw3,.slice Al3 yc3.length cl3,Str yd3]) r0 r0) (qt r0 (xt 1 (v:=.slice Ay3 (((talkSay ya2 yb2 yc2 yd2 ((sayP ms lu lw ak aq an apt ya2).1)).2.1).length) cy3) r0 r0) (qt r0 (xt 2 (v:=.bool ((talkSay ya2 yb2 yc2 yd2 ((sayP ms lu lw ak aq an apt ya2).1)).2.2)) r0 r0) (al (v:=.agg #[I 0,ns,ns,Str []]) (cs:=[I 0,ns,ns,Str []]) hs28 tz29 r0 trivial r0 (fun b7 w22 (hs29:SH w w22 [] [.blk b1 53 (Z1 Ams ms cms lu lw ak Aaq aq caq an apt),(Z2 b3),.own Aw2 yb2.length cw2 3 1 (yb2.map I),.own Al2 yc2.length cl2 51 2 (yc2.flatMap gLogin),.blk b4 29 [I ya2,.slice Aw2 yb2.length cw2,.slice Al2 yc2.length cl2,Str yd2],.own A3 (((sayP ms lu lw ak aq an apt ya2).1).length) c3 3 1 (((sayP ms lu lw ak aq an apt ya2).1).map I),.own Aw3 yb3.length cw3 3 1 (yb3.map I),.own Al3 yc3.length cl3 51 2 (yc3.flatMap gLogin),.own Ay3 (((talkSay ya2 yb2 yc2 yd2 ((sayP ms lu lw ak aq an apt ya2).1)).2.1).length) cy3 3 1 (((talkSay ya2 yb2 yc2 yd2 ((sayP ms lu lw ak aq an apt ya2).1)).2.1).map I),(Z2 b7)])=>?_)))))
        refine sG [I ya3,.slice Aw3 yb3.length cw3,.slice Al3 yc3.length cl3,Str yd3] hs29 9 r0 ag29 (fun w23 (hs30:SH w w23 [] [.blk b1 53 (Z1 Ams ms cms lu lw ak Aaq aq caq an apt),(Z2 b3),.own Aw2 yb2.length cw2 3 1 (yb2.map I),.own Al2 yc2.length cl2 51 2 (yc2.flatMap gLogin),.blk b4 29 [I ya2,.slice Aw2 yb2.length cw2,.slice Al2 yc2.length cl2,Str yd2],.own A3 (((sayP ms lu lw ak aq an apt ya2).1).length) c3 3 1 (((sayP ms lu lw ak aq an apt ya2).1).map I),.own Aw3 yb3.length cw3 3 1 (yb3.map I),.own Al3 yc3.length cl3 51 2 (yc3.flatMap gLogin),.own Ay3 (((talkSay ya2 yb2 yc2 yd2 ((sayP ms lu lw ak aq an apt ya2).1)).2.1).length) cy3 3 1 (((talkSay ya2 yb2 yc2 yd2 ((sayP ms lu lw ak aq an apt ya2).1)).2.1).map I),.blk b7 29 [I ya3,.slice Aw3 yb3.length cw3,.slice Al3 yc3.length cl3,Str yd3]])=>?_)
        refine tA (.slice Ay3 (((talkSay ya2 yb2 yc2 yd2 ((sayP ms lu lw ak aq an apt ya2).1)).2.1).length) cy3) r0 (tA (.bool ((talkSay ya2 yb2 yc2 yd2 ((sayP ms lu lw ak aq an apt ya2).1)).2.2)) r0 (nn ?_))
        have hs31:SH w w23 [] [.blk b1 53 (Z1 Ams ms cms lu lw ak Aaq aq caq an apt),(Z2 b3),.own Aw2 yb2.length cw2 3 1 (yb2.map I),.own Al2 yc2.length cl2 51 2 (yc2.flatMap gLogin),.blk b4 29 [I ya2,.slice Aw2 yb2.length cw2,.slice Al2 yc2.length cl2,Str yd2],.own Aw3 yb3.length cw3 3 1 (yb3.map I),.own Al3 yc3.length cl3 51 2 (yc3.flatMap gLogin),.blk b7 29 [I ya3,.slice Aw3 yb3.length cw3,.slice Al3 yc3.length cl3,Str yd3]]:=hs30.pk [0,1,2,3,4,6,7,9] r0
        refine sr (tm (.bool ((talkSay ya2 yb2 yc2 yd2 ((sayP ms lu lw ak aq an apt ya2).1)).2.2)) r0 (nn ?_))
        refine cd (b:=(talkSay ya2 yb2 yc2 yd2 ((sayP ms lu lw ak aq an apt ya2).1)).2.2) r0 (fun h15=>?_) (fun h15=>?_)
        ·refine rg (qt r0 (lG [I ya3,.slice Aw3 yb3.length cw3,.slice Al3 yc3.length cl3,Str yd3] hs31 7 r0 ag29) (sG [I ya3,.slice Aw3 yb3.length cw3,.slice Al3 yc3.length cl3,Str yd3] hs31 4 r0 ag29 (fun w24 (hs32:SH w w24 [] [.blk b1 53 (Z1 Ams ms cms lu lw ak Aaq aq caq an apt),(Z2 b3),.own Aw2 yb2.length cw2 3 1 (yb2.map I),.own Al2 yc2.length cl2 51 2 (yc2.flatMap gLogin),.own Aw3 yb3.length cw3 3 1 (yb3.map I),.own Al3 yc3.length cl3 51 2 (yc3.flatMap gLogin),.blk b7 29 [I ya3,.slice Aw3 yb3.length cw3,.slice Al3 yc3.length cl3,Str yd3],.blk b4 29 [I ya3,.slice Aw3 yb3.length cw3,.slice Al3 yc3.length cl3,Str yd3]])=>?_)))
         refine nl (bN (nN ?_))
         have hs33:SH w w24 [] [.blk b1 53 (Z1 Ams ms cms lu lw ak Aaq aq caq an apt),(Z2 b3),.own Aw3 yb3.length cw3 3 1 (yb3.map I),.own Al3 yc3.length cl3 51 2 (yc3.flatMap gLogin),.blk b4 29 [I ya3,.slice Aw3 yb3.length cw3,.slice Al3 yc3.length cl3,Str yd3]]:=hs32.pk [0,1,4,5,7] r0
         refine rg (tm (I (((0:Int)+1)+1)) r0 (qt r0 (add (a:=((0:Int)+1)+1) (b:=1) r0 r0 (by(exact⟨by omega,by omega⟩))) (tA (I ((((0:Int)+1)+1)+1)) r0 (nn (ulS (sq ?_))))))
         refine sr (tm (I ((((0:Int)+1)+1)+1)) r0 (qt r0 (lss (k:=.i64) (a:=(((0:Int)+1)+1)+1) (b:=3) r0 r0) (nn ?_)))
         refine cdd (p:=((((0:Int)+1)+1)+1)<3) r0 (fun h16=>absurd h16 (by decide)) (fun h16=>?_)
         refine ex (tE (tE (bE ?_)))
         refine nN (sr (qt r0 (lG [I ya3,.slice Aw3 yb3.length cw3,.slice Al3 yc3.length cl3,Str yd3] hs33 4 r0 ag29) (qt r0 (fa 0 fo29_0 r0) (qt r0 (lD (I ya3) hs33 4 r0 one3) (cL r0 (sL23Next (sx:=ya3) (Awt:=Aw3) (cwt:=cw3) (wt:=yb3) (Alg:=Al3) (clg:=cl3) (lg:=yc3) (to:=yd3) (nst:=ya3) (w:=_) (hwt:=(hs33.sl0 2 r0)) (hwt_n:=(by(first | omega | (simp; done) | (simp; omega)))) (hlg:=(hs33.sl0 3 r0)) (hlg_e:=(by exact fun u hu=>hlg_e u (p5 u (p10 u (p15 u hu))))) (hlg_n:=(by(first | omega | (simp; done) | (simp; omega))))) ?_)))))
         rintro _ w25 ⟨Aw4,cw4,Al4,cl4,rfl,hs34⟩
         replace hs34:=hs33.call0 hs34
         refine al (v:=.agg #[I 0,ns,ns,Str []]) (cs:=[I 0,ns,ns,Str []]) hs34 tz29 r0 trivial r0 (fun b8 w26 (hs35:SH w w26 [] [.blk b1 53 (Z1 Ams ms cms lu lw ak Aaq aq caq an apt),(Z2 b3),.own Aw3 yb3.length cw3 3 1 (yb3.map I),.own Al3 yc3.length cl3 51 2 (yc3.flatMap gLogin),.blk b4 29 [I ya3,.slice Aw3 yb3.length cw3,.slice Al3 yc3.length cl3,Str yd3],.own Aw4 yb3.length cw4 3 1 (yb3.map I),.own Al4 yc3.length cl4 51 2 (yc3.flatMap gLogin),(Z2 b8)])=>?_)
         refine sG [I ya3,.slice Aw4 yb3.length cw4,.slice Al4 yc3.length cl4,Str []] hs35 7 r0 ag29 (fun w27 (hs36:SH w w27 [] [.blk b1 53 (Z1 Ams ms cms lu lw ak Aaq aq caq an apt),(Z2 b3),.own Aw3 yb3.length cw3 3 1 (yb3.map I),.own Al3 yc3.length cl3 51 2 (yc3.flatMap gLogin),.blk b4 29 [I ya3,.slice Aw3 yb3.length cw3,.slice Al3 yc3.length cl3,Str yd3],.own Aw4 yb3.length cw4 3 1 (yb3.map I),.own Al4 yc3.length cl4 51 2 (yc3.flatMap gLogin),.blk b8 29 [I ya3,.slice Aw4 yb3.length cw4,.slice Al4 yc3.length cl4,Str []]])=>?_)
         refine nx (qt r0 (fa 3 fo29_3 r0) (qt r0 (lD (Str yd3) hs36 4 r0 one9) (qt r0 (fa 3 fo29_3 r0) (sT (Str yd3) hs36 7 r0 one9 (fun w28 (hs37:SH w w28 [] [.blk b1 53 (Z1 Ams ms cms lu lw ak Aaq aq caq an apt),(Z2 b3),.own Aw3 yb3.length cw3 3 1 (yb3.map I),.own Al3 yc3.length cl3 51 2 (yc3.flatMap gLogin),.blk b4 29 [I ya3,.slice Aw3 yb3.length cw3,.slice Al3 yc3.length cl3,Str yd3],.own Aw4 yb3.length cw4 3 1 (yb3.map I),.own Al4 yc3.length cl4 51 2 (yc3.flatMap gLogin),.blk b8 29 [I ya3,.slice Aw4 yb3.length cw4,.slice Al4 yc3.length cl4,Str yd3]])=>?_)))))
         refine nn ?_
         have hs38:SH w w28 [] [(Z2 b3),.own Aw4 yb3.length cw4 3 1 (yb3.map I),.own Al4 yc3.length cl4 51 2 (yc3.flatMap gLogin),.blk b8 29 [I ya3,.slice Aw4 yb3.length cw4,.slice Al4 yc3.length cl4,Str yd3]]:=hs37.pk [1,5,6,7] r0
         refine sr (qt r0 (lG [I ya3,.slice Aw4 yb3.length cw4,.slice Al4 yc3.length cl4,Str yd3] hs38 3 r0 ag29) (sG [I ya3,.slice Aw4 yb3.length cw4,.slice Al4 yc3.length cl4,Str yd3] hs38 0 r0 ag29 (fun w29 (hs39:SH w w29 [] [.own Aw4 yb3.length cw4 3 1 (yb3.map I),.own Al4 yc3.length cl4 51 2 (yc3.flatMap gLogin),.blk b8 29 [I ya3,.slice Aw4 yb3.length cw4,.slice Al4 yc3.length cl4,Str yd3],.blk b3 29 [I ya3,.slice Aw4 yb3.length cw4,.slice Al4 yc3.length cl4,Str yd3]])=>?_)))
         refine tA (.bool true) r0 (nn (rt (fret (v:=.tuple #[.agg #[I ya3,.slice Aw4 yb3.length cw4,.slice Al4 yc3.length cl4,Str yd3],.bool true]) (resC hs39 3 r0 r0 ag29 r0 (.tmp .nil)) r0 ?_)))
         have e17:clRun ⟨ms,lu,lw,ak,aq,an,apt⟩ (sx,wt,lg,to)=((ya3,yb3,yc3,yd3),true):=by(rw[(cl_y (c:=⟨ms,lu,lw,ak,aq,an,apt⟩) (t:=(sx,wt,lg,to)) (by assumption) (by assumption)),runT_some (step_y (c:=⟨ms,lu,lw,ak,aq,an,apt⟩) (t:=(sx,wt,lg,to)) (t':=(ya1,yb1,yc1,yd1)) (by assumption) (by assumption) p1),runT_some (step_y (c:=⟨ms,lu,lw,ak,aq,an,apt⟩) (t:=(ya1,yb1,yc1,yd1)) (t':=(ya2,yb2,yc2,yd2)) (by assumption) (by assumption) p6),runT_some (step_y (c:=⟨ms,lu,lw,ak,aq,an,apt⟩) (t:=(ya2,yb2,yc2,yd2)) (t':=(ya3,yb3,yc3,yd3)) (by assumption) (by assumption) p11)]; rfl)
         have e18:=pj11 e17
         have e19:=pj121 e17
         have e20:=congrArg List.length e19
         have e21:=pj1221 e17
         have e22:=congrArg List.length e21
         have e23:=pj1222 e17
         have e24:=pj2 e17
         exact⟨Aw4,cw4,Al4,cl4,(tup2 (aggv (lc (congrArg (Value.int .i64) e18) (lc (slv r0 e20 r0) (lc (slv r0 e22 r0) (lc (congrArg (Str) e23) r0))))) (congrArg (Value.bool) e24)),((hs39.pk [0,1] r0).cast (lc (own_eq (g:=I) r0 e20 r0 e19) (lc (own_eqf (g:=gLogin) r0 e22 r0 e21) r0)))⟩
        ·refine sk (bN (nN ?_))
         have hs40:SH w w23 [] [.blk b1 53 (Z1 Ams ms cms lu lw ak Aaq aq caq an apt),(Z2 b3),.own Aw2 yb2.length cw2 3 1 (yb2.map I),.own Al2 yc2.length cl2 51 2 (yc2.flatMap gLogin),.blk b4 29 [I ya2,.slice Aw2 yb2.length cw2,.slice Al2 yc2.length cl2,Str yd2]]:=hs31.pk [0,1,2,3,4] r0
         refine rg (tm (I (((0:Int)+1)+1)) r0 (qt r0 (add (a:=((0:Int)+1)+1) (b:=1) r0 r0 (by(exact⟨by omega,by omega⟩))) (tA (I ((((0:Int)+1)+1)+1)) r0 (nn (ulS (sq ?_))))))
         refine sr (tm (I ((((0:Int)+1)+1)+1)) r0 (qt r0 (lss (k:=.i64) (a:=(((0:Int)+1)+1)+1) (b:=3) r0 r0) (nn ?_)))
         refine cdd (p:=((((0:Int)+1)+1)+1)<3) r0 (fun h17=>absurd h17 (by decide)) (fun h17=>?_)
         refine ex (tE (tE (bE ?_)))
         refine nN (sr (qt r0 (lG [I ya2,.slice Aw2 yb2.length cw2,.slice Al2 yc2.length cl2,Str yd2] hs40 4 r0 ag29) (qt r0 (fa 0 fo29_0 r0) (qt r0 (lD (I ya2) hs40 4 r0 one3) (cL r0 (sL23Next (sx:=ya2) (Awt:=Aw2) (cwt:=cw2) (wt:=yb2) (Alg:=Al2) (clg:=cl2) (lg:=yc2) (to:=yd2) (nst:=ya2) (w:=_) (hwt:=(hs40.sl0 2 r0)) (hwt_n:=(by(first | omega | (simp; done) | (simp; omega)))) (hlg:=(hs40.sl0 3 r0)) (hlg_e:=(by exact fun u hu=>hlg_e u (p5 u (p10 u hu)))) (hlg_n:=(by(first | omega | (simp; done) | (simp; omega))))) ?_)))))
         rintro _ w30 ⟨Aw5,cw5,Al5,cl5,rfl,hs41⟩
         replace hs41:=hs40.call0 hs41
         refine al (v:=.agg #[I 0,ns,ns,Str []]) (cs:=[I 0,ns,ns,Str []]) hs41 tz29 r0 trivial r0 (fun b9 w31 (hs42:SH w w31 [] [.blk b1 53 (Z1 Ams ms cms lu lw ak Aaq aq caq an apt),(Z2 b3),.own Aw2 yb2.length cw2 3 1 (yb2.map I),.own Al2 yc2.length cl2 51 2 (yc2.flatMap gLogin),.blk b4 29 [I ya2,.slice Aw2 yb2.length cw2,.slice Al2 yc2.length cl2,Str yd2],.own Aw5 yb2.length cw5 3 1 (yb2.map I),.own Al5 yc2.length cl5 51 2 (yc2.flatMap gLogin),(Z2 b9)])=>?_)
         refine sG [I ya2,.slice Aw5 yb2.length cw5,.slice Al5 yc2.length cl5,Str []] hs42 7 r0 ag29 (fun w32 (hs43:SH w w32 [] [.blk b1 53 (Z1 Ams ms cms lu lw ak Aaq aq caq an apt),(Z2 b3),.own Aw2 yb2.length cw2 3 1 (yb2.map I),.own Al2 yc2.length cl2 51 2 (yc2.flatMap gLogin),.blk b4 29 [I ya2,.slice Aw2 yb2.length cw2,.slice Al2 yc2.length cl2,Str yd2],.own Aw5 yb2.length cw5 3 1 (yb2.map I),.own Al5 yc2.length cl5 51 2 (yc2.flatMap gLogin),.blk b9 29 [I ya2,.slice Aw5 yb2.length cw5,.slice Al5 yc2.length cl5,Str []]])=>?_)
         refine nx (qt r0 (fa 3 fo29_3 r0) (qt r0 (lD (Str yd2) hs43 4 r0 one9) (qt r0 (fa 3 fo29_3 r0) (sT (Str yd2) hs43 7 r0 one9 (fun w33 (hs44:SH w w33 [] [.blk b1 53 (Z1 Ams ms cms lu lw ak Aaq aq caq an apt),(Z2 b3),.own Aw2 yb2.length cw2 3 1 (yb2.map I),.own Al2 yc2.length cl2 51 2 (yc2.flatMap gLogin),.blk b4 29 [I ya2,.slice Aw2 yb2.length cw2,.slice Al2 yc2.length cl2,Str yd2],.own Aw5 yb2.length cw5 3 1 (yb2.map I),.own Al5 yc2.length cl5 51 2 (yc2.flatMap gLogin),.blk b9 29 [I ya2,.slice Aw5 yb2.length cw5,.slice Al5 yc2.length cl5,Str yd2]])=>?_)))))
         refine nn ?_
         have hs45:SH w w33 [] [(Z2 b3),.own Aw5 yb2.length cw5 3 1 (yb2.map I),.own Al5 yc2.length cl5 51 2 (yc2.flatMap gLogin),.blk b9 29 [I ya2,.slice Aw5 yb2.length cw5,.slice Al5 yc2.length cl5,Str yd2]]:=hs44.pk [1,5,6,7] r0
         refine sr (qt r0 (lG [I ya2,.slice Aw5 yb2.length cw5,.slice Al5 yc2.length cl5,Str yd2] hs45 3 r0 ag29) (sG [I ya2,.slice Aw5 yb2.length cw5,.slice Al5 yc2.length cl5,Str yd2] hs45 0 r0 ag29 (fun w34 (hs46:SH w w34 [] [.own Aw5 yb2.length cw5 3 1 (yb2.map I),.own Al5 yc2.length cl5 51 2 (yc2.flatMap gLogin),.blk b9 29 [I ya2,.slice Aw5 yb2.length cw5,.slice Al5 yc2.length cl5,Str yd2],.blk b3 29 [I ya2,.slice Aw5 yb2.length cw5,.slice Al5 yc2.length cl5,Str yd2]])=>?_)))
         refine tA (.bool true) r0 (nn (rt (fret (v:=.tuple #[.agg #[I ya2,.slice Aw5 yb2.length cw5,.slice Al5 yc2.length cl5,Str yd2],.bool true]) (resC hs46 3 r0 r0 ag29 r0 (.tmp .nil)) r0 ?_)))
         have e25:clRun ⟨ms,lu,lw,ak,aq,an,apt⟩ (sx,wt,lg,to)=((ya2,yb2,yc2,yd2),true):=by(rw[(cl_y (c:=⟨ms,lu,lw,ak,aq,an,apt⟩) (t:=(sx,wt,lg,to)) (by assumption) (by assumption)),runT_some (step_y (c:=⟨ms,lu,lw,ak,aq,an,apt⟩) (t:=(sx,wt,lg,to)) (t':=(ya1,yb1,yc1,yd1)) (by assumption) (by assumption) p1),runT_some (step_y (c:=⟨ms,lu,lw,ak,aq,an,apt⟩) (t:=(ya1,yb1,yc1,yd1)) (t':=(ya2,yb2,yc2,yd2)) (by assumption) (by assumption) p6),runT_none (by first | exact step_no1 (c:=⟨ms,lu,lw,ak,aq,an,apt⟩) (t:=(ya2,yb2,yc2,yd2)) (by assumption) | exact step_no2 (c:=⟨ms,lu,lw,ak,aq,an,apt⟩) (t:=(ya2,yb2,yc2,yd2)) (by assumption))]; done)
         have e26:=pj11 e25
         have e27:=pj121 e25
         have e28:=congrArg List.length e27
         have e29:=pj1221 e25
         have e30:=congrArg List.length e29
         have e31:=pj1222 e25
         have e32:=pj2 e25
         exact⟨Aw5,cw5,Al5,cl5,(tup2 (aggv (lc (congrArg (Value.int .i64) e26) (lc (slv r0 e28 r0) (lc (slv r0 e30 r0) (lc (congrArg (Str) e31) r0))))) (congrArg (Value.bool) e32)),((hs46.pk [0,1] r0).cast (lc (own_eq (g:=I) r0 e28 r0 e27) (lc (own_eqf (g:=gLogin) r0 e30 r0 e29) r0)))⟩
       ·refine sk (bN (nN (rg (tm (I (((0:Int)+1)+1)) r0 (qt r0 (add (a:=((0:Int)+1)+1) (b:=1) r0 r0 (by(exact⟨by omega,by omega⟩))) (tA (I ((((0:Int)+1)+1)+1)) r0 (nl ?_)))))))
        refine nN (ulS (sq (sr (tm (I ((((0:Int)+1)+1)+1)) r0 (qt r0 (lss (k:=.i64) (a:=(((0:Int)+1)+1)+1) (b:=3) r0 r0) (nl ?_))))))
        refine nN ?_
        refine cdd (p:=((((0:Int)+1)+1)+1)<3) r0 (fun h18=>absurd h18 (by decide)) (fun h18=>?_)
        refine ex (tE (tE (bE ?_)))
        refine nN ?_
        have hs47:SH w w20 [] [(Z2 b3),.own Aw2 yb2.length cw2 3 1 (yb2.map I),.own Al2 yc2.length cl2 51 2 (yc2.flatMap gLogin),.blk b4 29 [I ya2,.slice Aw2 yb2.length cw2,.slice Al2 yc2.length cl2,Str yd2]]:=hs27.pk [1,2,3,4] r0
        refine sr (qt r0 (lG [I ya2,.slice Aw2 yb2.length cw2,.slice Al2 yc2.length cl2,Str yd2] hs47 3 r0 ag29) (qt r0 (fa 0 fo29_0 r0) (qt r0 (lD (I ya2) hs47 3 r0 one3) (cL r0 (sL23Next (sx:=ya2) (Awt:=Aw2) (cwt:=cw2) (wt:=yb2) (Alg:=Al2) (clg:=cl2) (lg:=yc2) (to:=yd2) (nst:=ya2) (w:=_) (hwt:=(hs47.sl0 1 r0)) (hwt_n:=(by(first | omega | (simp; done) | (simp; omega)))) (hlg:=(hs47.sl0 2 r0)) (hlg_e:=(by exact fun u hu=>hlg_e u (p5 u (p10 u hu)))) (hlg_n:=(by(first | omega | (simp; done) | (simp; omega))))) ?_))))
        rintro _ w35 ⟨Aw6,cw6,Al6,cl6,rfl,hs48⟩
        replace hs48:=hs47.call0 hs48
        refine al (v:=.agg #[I 0,ns,ns,Str []]) (cs:=[I 0,ns,ns,Str []]) hs48 tz29 r0 trivial r0 (fun b10 w36 (hs49:SH w w36 [] [(Z2 b3),.own Aw2 yb2.length cw2 3 1 (yb2.map I),.own Al2 yc2.length cl2 51 2 (yc2.flatMap gLogin),.blk b4 29 [I ya2,.slice Aw2 yb2.length cw2,.slice Al2 yc2.length cl2,Str yd2],.own Aw6 yb2.length cw6 3 1 (yb2.map I),.own Al6 yc2.length cl6 51 2 (yc2.flatMap gLogin),(Z2 b10)])=>?_)
        refine sG [I ya2,.slice Aw6 yb2.length cw6,.slice Al6 yc2.length cl6,Str []] hs49 6 r0 ag29 (fun w37 (hs50:SH w w37 [] [(Z2 b3),.own Aw2 yb2.length cw2 3 1 (yb2.map I),.own Al2 yc2.length cl2 51 2 (yc2.flatMap gLogin),.blk b4 29 [I ya2,.slice Aw2 yb2.length cw2,.slice Al2 yc2.length cl2,Str yd2],.own Aw6 yb2.length cw6 3 1 (yb2.map I),.own Al6 yc2.length cl6 51 2 (yc2.flatMap gLogin),.blk b10 29 [I ya2,.slice Aw6 yb2.length cw6,.slice Al6 yc2.length cl6,Str []]])=>?_)
        refine nx (qt r0 (fa 3 fo29_3 r0) (qt r0 (lD (Str yd2) hs50 3 r0 one9) (qt r0 (fa 3 fo29_3 r0) (sT (Str yd2) hs50 6 r0 one9 (fun w38 (hs51:SH w w38 [] [(Z2 b3),.own Aw2 yb2.length cw2 3 1 (yb2.map I),.own Al2 yc2.length cl2 51 2 (yc2.flatMap gLogin),.blk b4 29 [I ya2,.slice Aw2 yb2.length cw2,.slice Al2 yc2.length cl2,Str yd2],.own Aw6 yb2.length cw6 3 1 (yb2.map I),.own Al6 yc2.length cl6 51 2 (yc2.flatMap gLogin),.blk b10 29 [I ya2,.slice Aw6 yb2.length cw6,.slice Al6 yc2.length cl6,Str yd2]])=>?_)))))
        refine nn ?_
        have hs52:SH w w38 [] [(Z2 b3),.own Aw6 yb2.length cw6 3 1 (yb2.map I),.own Al6 yc2.length cl6 51 2 (yc2.flatMap gLogin),.blk b10 29 [I ya2,.slice Aw6 yb2.length cw6,.slice Al6 yc2.length cl6,Str yd2]]:=hs51.pk [0,4,5,6] r0
        refine sr (qt r0 (lG [I ya2,.slice Aw6 yb2.length cw6,.slice Al6 yc2.length cl6,Str yd2] hs52 3 r0 ag29) (sG [I ya2,.slice Aw6 yb2.length cw6,.slice Al6 yc2.length cl6,Str yd2] hs52 0 r0 ag29 (fun w39 (hs53:SH w w39 [] [.own Aw6 yb2.length cw6 3 1 (yb2.map I),.own Al6 yc2.length cl6 51 2 (yc2.flatMap gLogin),.blk b10 29 [I ya2,.slice Aw6 yb2.length cw6,.slice Al6 yc2.length cl6,Str yd2],.blk b3 29 [I ya2,.slice Aw6 yb2.length cw6,.slice Al6 yc2.length cl6,Str yd2]])=>?_)))
        refine tA (.bool true) r0 (nn (rt (fret (v:=.tuple #[.agg #[I ya2,.slice Aw6 yb2.length cw6,.slice Al6 yc2.length cl6,Str yd2],.bool true]) (resC hs53 3 r0 r0 ag29 r0 (.tmp .nil)) r0 ?_)))
        have e33:clRun ⟨ms,lu,lw,ak,aq,an,apt⟩ (sx,wt,lg,to)=((ya2,yb2,yc2,yd2),true):=by(rw[(cl_y (c:=⟨ms,lu,lw,ak,aq,an,apt⟩) (t:=(sx,wt,lg,to)) (by assumption) (by assumption)),runT_some (step_y (c:=⟨ms,lu,lw,ak,aq,an,apt⟩) (t:=(sx,wt,lg,to)) (t':=(ya1,yb1,yc1,yd1)) (by assumption) (by assumption) p1),runT_some (step_y (c:=⟨ms,lu,lw,ak,aq,an,apt⟩) (t:=(ya1,yb1,yc1,yd1)) (t':=(ya2,yb2,yc2,yd2)) (by assumption) (by assumption) p6),runT_none (by first | exact step_no1 (c:=⟨ms,lu,lw,ak,aq,an,apt⟩) (t:=(ya2,yb2,yc2,yd2)) (by assumption) | exact step_no2 (c:=⟨ms,lu,lw,ak,aq,an,apt⟩) (t:=(ya2,yb2,yc2,yd2)) (by assumption))]; done)
        have e34:=pj11 e33
        have e35:=pj121 e33
        have e36:=congrArg List.length e35
        have e37:=pj1221 e33
        have e38:=congrArg List.length e37
        have e39:=pj1222 e33
        have e40:=pj2 e33
        exact⟨Aw6,cw6,Al6,cl6,(tup2 (aggv (lc (congrArg (Value.int .i64) e34) (lc (slv r0 e36 r0) (lc (slv r0 e38 r0) (lc (congrArg (Str) e39) r0))))) (congrArg (Value.bool) e40)),((hs53.pk [0,1] r0).cast (lc (own_eq (g:=I) r0 e36 r0 e35) (lc (own_eqf (g:=gLogin) r0 e38 r0 e37) r0)))⟩
      ·refine sk (bN (nN ?_))
       have hs54:SH w w18 [] [.blk b1 53 (Z1 Ams ms cms lu lw ak Aaq aq caq an apt),(Z2 b3),.own Aw1 yb1.length cw1 3 1 (yb1.map I),.own Al1 yc1.length cl1 51 2 (yc1.flatMap gLogin),.blk b4 29 [I ya1,.slice Aw1 yb1.length cw1,.slice Al1 yc1.length cl1,Str yd1]]:=hs24.pk [0,1,2,3,4] r0
       refine rg (tm (I ((0:Int)+1)) r0 (qt r0 (add (a:=(0:Int)+1) (b:=1) r0 r0 (by(exact⟨by omega,by omega⟩))) (tA (I (((0:Int)+1)+1)) r0 (nn (ulS (sq ?_))))))
       refine sr (tm (I (((0:Int)+1)+1)) r0 (qt r0 (lss (k:=.i64) (a:=((0:Int)+1)+1) (b:=3) r0 r0) (nn ?_)))
       refine cdd (p:=(((0:Int)+1)+1)<3) r0 (fun h19=>?_) (fun h19=>absurd (by decide) h19)
       refine sk (nN (sq (bl (sr (qt r0 (lG (Z1 Ams ms cms lu lw ak Aaq aq caq an apt) hs54 0 r0 ag53) (qt r0 (fa 0 fo29_0 r0) ?_))))))
       refine qt r0 (lD (I ya1) hs54 4 r0 one3) (cL r0 (sClientSay (Ams:=Ams) (cms:=cms) (ms:=ms) (lu:=lu) (lw:=lw) (ak:=ak) (Aaq:=Aaq) (caq:=caq) (aq:=aq) (an:=an) (apt:=apt) (n:=ya1) (w:=_) (hms:=(hms.up0 hs54)) (hlu_n:=(by(first | omega | (simp; done) | (simp; omega)))) (hlw_n:=(by(first | omega | (simp; done) | (simp; omega)))) (haq:=(haq.up0 hs54)) (han_n:=(by(first | omega | (simp; done) | (simp; omega))))) ?_)
       rintro _ w40 ⟨A4,c4,rfl,hs55⟩
       replace hs55:=hs54.call0 hs55
       refine tm (.tuple #[.slice A4 (((sayP ms lu lw ak aq an apt ya1).1).length) c4,.bool ((sayP ms lu lw ak aq an apt ya1).2)]) r0 (qt r0 (xt 0 (v:=.slice A4 (((sayP ms lu lw ak aq an apt ya1).1).length) c4) r0 r0) (qt r0 (xt 1 (v:=.bool ((sayP ms lu lw ak aq an apt ya1).2)) r0 r0) (tA (.slice A4 (((sayP ms lu lw ak aq an apt ya1).1).length) c4) r0 (tA (.bool ((sayP ms lu lw ak aq an apt ya1).2)) r0 (nn (sq ?_))))))
       refine rg (tm (.bool ((sayP ms lu lw ak aq an apt ya1).2)) r0 (nn ?_))
       refine cd (b:=(sayP ms lu lw ak aq an apt ya1).2) r0 (fun h20=>?_) (fun h20=>absurd (h20.symm.trans (by exact h11:((sayP ms lu lw ak aq an apt ya1).2)=true)) (by decide))
       refine sr (qt r0 (lG [I ya1,.slice Aw1 yb1.length cw1,.slice Al1 yc1.length cl1,Str yd1] hs55 4 r0 ag29) (tm (.slice A4 (((sayP ms lu lw ak aq an apt ya1).1).length) c4) r0 (cL r0 (sTalkSayE (sx:=ya1) (Awt:=Aw1) (cwt:=cw1) (wt:=yb1) (Alg:=Al1) (clg:=cl1) (lg:=yc1) (to:=yd1) (Abs:=A4) (cbs:=c4) (bs:=(sayP ms lu lw ak aq an apt ya1).1) (w:=_) (hwt:=(hs55.sl0 2 r0)) (hlg:=(hs55.sl0 3 r0)) (hlg_e:=(by exact fun u hu=>hlg_e u (p5 u hu))) (hto_n:=(by(first | omega | (simp; done) | (simp; omega)))) (hbs:=(hs55.sl0 5 r0))) ?_)))
       rintro _ w41 ⟨Aw7,cw7,Al7,cl7,Ay4,cy4,ya4,yb4,yc4,yd4,rfl,p16,p17,p18,p19,p20,hs56⟩
       replace hs56:=hs55.call0 hs56
       refine tm (.tuple #[.agg #[I ya4,.slice Aw7 yb4.length cw7,.slice Al7 yc4.length cl7,Str yd4],.slice Ay4 (((talkSay ya1 yb1 yc1 yd1 ((sayP ms lu lw ak aq an apt ya1).1)).2.1).length) cy4,.bool ((talkSay ya1 yb1 yc1 yd1 ((sayP ms lu lw ak aq an apt ya1).1)).2.2)]) r0 (qt r0 (xt 0 (v:=.agg #[I ya4,.slice Aw7 yb4.length cw7,.slice Al7 yc4.length cl7,Str yd4]) r0 r0) (qt r0 (xt 1 (v:=.slice Ay4 (((talkSay ya1 yb1 yc1 yd1 ((sayP ms lu lw ak aq an apt ya1).1)).2.1).length) cy4) r0 r0) (qt r0 (xt 2 (v:=.bool ((talkSay ya1 yb1 yc1 yd1 ((sayP ms lu lw ak aq an apt ya1).1)).2.2)) r0 r0) (al (v:=.agg #[I 0,ns,ns,Str []]) (cs:=[I 0,ns,ns,Str []]) hs56 tz29 r0 trivial r0 (fun b11 w42 (hs57:SH w w42 [] [.blk b1 53 (Z1 Ams ms cms lu lw ak Aaq aq caq an apt),(Z2 b3),.own Aw1 yb1.length cw1 3 1 (yb1.map I),.own Al1 yc1.length cl1 51 2 (yc1.flatMap gLogin),.blk b4 29 [I ya1,.slice Aw1 yb1.length cw1,.slice Al1 yc1.length cl1,Str yd1],.own A4 (((sayP ms lu lw ak aq an apt ya1).1).length) c4 3 1 (((sayP ms lu lw ak aq an apt ya1).1).map I),.own Aw7 yb4.length cw7 3 1 (yb4.map I),.own Al7 yc4.length cl7 51 2 (yc4.flatMap gLogin),.own Ay4 (((talkSay ya1 yb1 yc1 yd1 ((sayP ms lu lw ak aq an apt ya1).1)).2.1).length) cy4 3 1 (((talkSay ya1 yb1 yc1 yd1 ((sayP ms lu lw ak aq an apt ya1).1)).2.1).map I),(Z2 b11)])=>?_)))))
       refine sG [I ya4,.slice Aw7 yb4.length cw7,.slice Al7 yc4.length cl7,Str yd4] hs57 9 r0 ag29 (fun w43 (hs58:SH w w43 [] [.blk b1 53 (Z1 Ams ms cms lu lw ak Aaq aq caq an apt),(Z2 b3),.own Aw1 yb1.length cw1 3 1 (yb1.map I),.own Al1 yc1.length cl1 51 2 (yc1.flatMap gLogin),.blk b4 29 [I ya1,.slice Aw1 yb1.length cw1,.slice Al1 yc1.length cl1,Str yd1],.own A4 (((sayP ms lu lw ak aq an apt ya1).1).length) c4 3 1 (((sayP ms lu lw ak aq an apt ya1).1).map I),.own Aw7 yb4.length cw7 3 1 (yb4.map I),.own Al7 yc4.length cl7 51 2 (yc4.flatMap gLogin),.own Ay4 (((talkSay ya1 yb1 yc1 yd1 ((sayP ms lu lw ak aq an apt ya1).1)).2.1).length) cy4 3 1 (((talkSay ya1 yb1 yc1 yd1 ((sayP ms lu lw ak aq an apt ya1).1)).2.1).map I),.blk b11 29 [I ya4,.slice Aw7 yb4.length cw7,.slice Al7 yc4.length cl7,Str yd4]])=>?_)
       refine tA (.slice Ay4 (((talkSay ya1 yb1 yc1 yd1 ((sayP ms lu lw ak aq an apt ya1).1)).2.1).length) cy4) r0 (tA (.bool ((talkSay ya1 yb1 yc1 yd1 ((sayP ms lu lw ak aq an apt ya1).1)).2.2)) r0 (nn ?_))
       have hs59:SH w w43 [] [.blk b1 53 (Z1 Ams ms cms lu lw ak Aaq aq caq an apt),(Z2 b3),.own Aw1 yb1.length cw1 3 1 (yb1.map I),.own Al1 yc1.length cl1 51 2 (yc1.flatMap gLogin),.blk b4 29 [I ya1,.slice Aw1 yb1.length cw1,.slice Al1 yc1.length cl1,Str yd1],.own Aw7 yb4.length cw7 3 1 (yb4.map I),.own Al7 yc4.length cl7 51 2 (yc4.flatMap gLogin),.blk b11 29 [I ya4,.slice Aw7 yb4.length cw7,.slice Al7 yc4.length cl7,Str yd4]]:=hs58.pk [0,1,2,3,4,6,7,9] r0
       refine sr (tm (.bool ((talkSay ya1 yb1 yc1 yd1 ((sayP ms lu lw ak aq an apt ya1).1)).2.2)) r0 (nn ?_))
       refine cd (b:=(talkSay ya1 yb1 yc1 yd1 ((sayP ms lu lw ak aq an apt ya1).1)).2.2) r0 (fun h21=>absurd (h21.symm.trans (by exact h12:((talkSay ya1 yb1 yc1 yd1 ((sayP ms lu lw ak aq an apt ya1).1)).2.2)=false)) (by decide)) (fun h21=>?_)
       refine sk (bN (nN ?_))
       have hs60:SH w w43 [] [.blk b1 53 (Z1 Ams ms cms lu lw ak Aaq aq caq an apt),(Z2 b3),.own Aw1 yb1.length cw1 3 1 (yb1.map I),.own Al1 yc1.length cl1 51 2 (yc1.flatMap gLogin),.blk b4 29 [I ya1,.slice Aw1 yb1.length cw1,.slice Al1 yc1.length cl1,Str yd1]]:=hs59.pk [0,1,2,3,4] r0
       refine rg (tm (I (((0:Int)+1)+1)) r0 (qt r0 (add (a:=((0:Int)+1)+1) (b:=1) r0 r0 (by(exact⟨by omega,by omega⟩))) (tA (I ((((0:Int)+1)+1)+1)) r0 (nn (ulS (sq ?_))))))
       refine sr (tm (I ((((0:Int)+1)+1)+1)) r0 (qt r0 (lss (k:=.i64) (a:=(((0:Int)+1)+1)+1) (b:=3) r0 r0) (nn ?_)))
       refine cdd (p:=((((0:Int)+1)+1)+1)<3) r0 (fun h22=>absurd h22 (by decide)) (fun h22=>?_)
       refine ex (tE (tE (bE ?_)))
       refine nN (sr (qt r0 (lG [I ya1,.slice Aw1 yb1.length cw1,.slice Al1 yc1.length cl1,Str yd1] hs60 4 r0 ag29) (qt r0 (fa 0 fo29_0 r0) (qt r0 (lD (I ya1) hs60 4 r0 one3) (cL r0 (sL23Next (sx:=ya1) (Awt:=Aw1) (cwt:=cw1) (wt:=yb1) (Alg:=Al1) (clg:=cl1) (lg:=yc1) (to:=yd1) (nst:=ya1) (w:=_) (hwt:=(hs60.sl0 2 r0)) (hwt_n:=(by(first | omega | (simp; done) | (simp; omega)))) (hlg:=(hs60.sl0 3 r0)) (hlg_e:=(by exact fun u hu=>hlg_e u (p5 u hu))) (hlg_n:=(by(first | omega | (simp; done) | (simp; omega))))) ?_)))))
       rintro _ w44 ⟨Aw8,cw8,Al8,cl8,rfl,hs61⟩
       replace hs61:=hs60.call0 hs61
       refine al (v:=.agg #[I 0,ns,ns,Str []]) (cs:=[I 0,ns,ns,Str []]) hs61 tz29 r0 trivial r0 (fun b12 w45 (hs62:SH w w45 [] [.blk b1 53 (Z1 Ams ms cms lu lw ak Aaq aq caq an apt),(Z2 b3),.own Aw1 yb1.length cw1 3 1 (yb1.map I),.own Al1 yc1.length cl1 51 2 (yc1.flatMap gLogin),.blk b4 29 [I ya1,.slice Aw1 yb1.length cw1,.slice Al1 yc1.length cl1,Str yd1],.own Aw8 yb1.length cw8 3 1 (yb1.map I),.own Al8 yc1.length cl8 51 2 (yc1.flatMap gLogin),(Z2 b12)])=>?_)
       refine sG [I ya1,.slice Aw8 yb1.length cw8,.slice Al8 yc1.length cl8,Str []] hs62 7 r0 ag29 (fun w46 (hs63:SH w w46 [] [.blk b1 53 (Z1 Ams ms cms lu lw ak Aaq aq caq an apt),(Z2 b3),.own Aw1 yb1.length cw1 3 1 (yb1.map I),.own Al1 yc1.length cl1 51 2 (yc1.flatMap gLogin),.blk b4 29 [I ya1,.slice Aw1 yb1.length cw1,.slice Al1 yc1.length cl1,Str yd1],.own Aw8 yb1.length cw8 3 1 (yb1.map I),.own Al8 yc1.length cl8 51 2 (yc1.flatMap gLogin),.blk b12 29 [I ya1,.slice Aw8 yb1.length cw8,.slice Al8 yc1.length cl8,Str []]])=>?_)
       refine nx (qt r0 (fa 3 fo29_3 r0) (qt r0 (lD (Str yd1) hs63 4 r0 one9) (qt r0 (fa 3 fo29_3 r0) (sT (Str yd1) hs63 7 r0 one9 (fun w47 (hs64:SH w w47 [] [.blk b1 53 (Z1 Ams ms cms lu lw ak Aaq aq caq an apt),(Z2 b3),.own Aw1 yb1.length cw1 3 1 (yb1.map I),.own Al1 yc1.length cl1 51 2 (yc1.flatMap gLogin),.blk b4 29 [I ya1,.slice Aw1 yb1.length cw1,.slice Al1 yc1.length cl1,Str yd1],.own Aw8 yb1.length cw8 3 1 (yb1.map I),.own Al8 yc1.length cl8 51 2 (yc1.flatMap gLogin),.blk b12 29 [I ya1,.slice Aw8 yb1.length cw8,.slice Al8 yc1.length cl8,Str yd1]])=>?_)))))
       refine nn ?_
       have hs65:SH w w47 [] [(Z2 b3),.own Aw8 yb1.length cw8 3 1 (yb1.map I),.own Al8 yc1.length cl8 51 2 (yc1.flatMap gLogin),.blk b12 29 [I ya1,.slice Aw8 yb1.length cw8,.slice Al8 yc1.length cl8,Str yd1]]:=hs64.pk [1,5,6,7] r0
       refine sr (qt r0 (lG [I ya1,.slice Aw8 yb1.length cw8,.slice Al8 yc1.length cl8,Str yd1] hs65 3 r0 ag29) (sG [I ya1,.slice Aw8 yb1.length cw8,.slice Al8 yc1.length cl8,Str yd1] hs65 0 r0 ag29 (fun w48 (hs66:SH w w48 [] [.own Aw8 yb1.length cw8 3 1 (yb1.map I),.own Al8 yc1.length cl8 51 2 (yc1.flatMap gLogin),.blk b12 29 [I ya1,.slice Aw8 yb1.length cw8,.slice Al8 yc1.length cl8,Str yd1],.blk b3 29 [I ya1,.slice Aw8 yb1.length cw8,.slice Al8 yc1.length cl8,Str yd1]])=>?_)))
       refine tA (.bool true) r0 (nn (rt (fret (v:=.tuple #[.agg #[I ya1,.slice Aw8 yb1.length cw8,.slice Al8 yc1.length cl8,Str yd1],.bool true]) (resC hs66 3 r0 r0 ag29 r0 (.tmp .nil)) r0 ?_)))
       have e41:clRun ⟨ms,lu,lw,ak,aq,an,apt⟩ (sx,wt,lg,to)=((ya1,yb1,yc1,yd1),true):=by(rw[(cl_y (c:=⟨ms,lu,lw,ak,aq,an,apt⟩) (t:=(sx,wt,lg,to)) (by assumption) (by assumption)),runT_some (step_y (c:=⟨ms,lu,lw,ak,aq,an,apt⟩) (t:=(sx,wt,lg,to)) (t':=(ya1,yb1,yc1,yd1)) (by assumption) (by assumption) p1),runT_none (by first | exact step_no1 (c:=⟨ms,lu,lw,ak,aq,an,apt⟩) (t:=(ya1,yb1,yc1,yd1)) (by assumption) | exact step_no2 (c:=⟨ms,lu,lw,ak,aq,an,apt⟩) (t:=(ya1,yb1,yc1,yd1)) (by assumption))]; done)
       have e42:=pj11 e41
       have e43:=pj121 e41
       have e44:=congrArg List.length e43
       have e45:=pj1221 e41
       have e46:=congrArg List.length e45
       have e47:=pj1222 e41
       have e48:=pj2 e41
       exact⟨Aw8,cw8,Al8,cl8,(tup2 (aggv (lc (congrArg (Value.int .i64) e42) (lc (slv r0 e44 r0) (lc (slv r0 e46 r0) (lc (congrArg (Str) e47) r0))))) (congrArg (Value.bool) e48)),((hs66.pk [0,1] r0).cast (lc (own_eq (g:=I) r0 e44 r0 e43) (lc (own_eqf (g:=gLogin) r0 e46 r0 e45) r0)))⟩
     ·refine sk (bN (nN ?_))
      have hs67:SH w w15 [] [.blk b1 53 (Z1 Ams ms cms lu lw ak Aaq aq caq an apt),(Z2 b3),.own Aw1 yb1.length cw1 3 1 (yb1.map I),.own Al1 yc1.length cl1 51 2 (yc1.flatMap gLogin),.blk b4 29 [I ya1,.slice Aw1 yb1.length cw1,.slice Al1 yc1.length cl1,Str yd1]]:=hs20.pk [0,1,2,3,5] r0
      refine rg (tm (I ((0:Int)+1)) r0 (qt r0 (add (a:=(0:Int)+1) (b:=1) r0 r0 (by(exact⟨by omega,by omega⟩))) (tA (I (((0:Int)+1)+1)) r0 (nn (ulS (sq ?_))))))
      refine sr (tm (I (((0:Int)+1)+1)) r0 (qt r0 (lss (k:=.i64) (a:=((0:Int)+1)+1) (b:=3) r0 r0) (nn ?_)))
      refine cdd (p:=(((0:Int)+1)+1)<3) r0 (fun h23=>?_) (fun h23=>absurd (by decide) h23)
      refine sk (nN (sq (bl (sr (qt r0 (lG (Z1 Ams ms cms lu lw ak Aaq aq caq an apt) hs67 0 r0 ag53) (qt r0 (fa 0 fo29_0 r0) ?_))))))
      refine qt r0 (lD (I ya1) hs67 4 r0 one3) (cL r0 (sClientSay (Ams:=Ams) (cms:=cms) (ms:=ms) (lu:=lu) (lw:=lw) (ak:=ak) (Aaq:=Aaq) (caq:=caq) (aq:=aq) (an:=an) (apt:=apt) (n:=ya1) (w:=_) (hms:=(hms.up0 hs67)) (hlu_n:=(by(first | omega | (simp; done) | (simp; omega)))) (hlw_n:=(by(first | omega | (simp; done) | (simp; omega)))) (haq:=(haq.up0 hs67)) (han_n:=(by(first | omega | (simp; done) | (simp; omega))))) ?_)
      rintro _ w49 ⟨A5,c5,rfl,hs68⟩
      replace hs68:=hs67.call0 hs68
      refine tm (.tuple #[.slice A5 (((sayP ms lu lw ak aq an apt ya1).1).length) c5,.bool ((sayP ms lu lw ak aq an apt ya1).2)]) r0 (qt r0 (xt 0 (v:=.slice A5 (((sayP ms lu lw ak aq an apt ya1).1).length) c5) r0 r0) (qt r0 (xt 1 (v:=.bool ((sayP ms lu lw ak aq an apt ya1).2)) r0 r0) (tA (.slice A5 (((sayP ms lu lw ak aq an apt ya1).1).length) c5) r0 (tA (.bool ((sayP ms lu lw ak aq an apt ya1).2)) r0 (nn (sq ?_))))))
      refine rg (tm (.bool ((sayP ms lu lw ak aq an apt ya1).2)) r0 (nn ?_))
      refine cd (b:=(sayP ms lu lw ak aq an apt ya1).2) r0 (fun h24=>absurd (h24.symm.trans (by exact h11:((sayP ms lu lw ak aq an apt ya1).2)=false)) (by decide)) (fun h24=>?_)
      refine sk (bN (nN (rg (tm (I (((0:Int)+1)+1)) r0 (qt r0 (add (a:=((0:Int)+1)+1) (b:=1) r0 r0 (by(exact⟨by omega,by omega⟩))) (tA (I ((((0:Int)+1)+1)+1)) r0 (nl ?_)))))))
      refine nN (ulS (sq (sr (tm (I ((((0:Int)+1)+1)+1)) r0 (qt r0 (lss (k:=.i64) (a:=(((0:Int)+1)+1)+1) (b:=3) r0 r0) (nl ?_))))))
      refine nN ?_
      refine cdd (p:=((((0:Int)+1)+1)+1)<3) r0 (fun h25=>absurd h25 (by decide)) (fun h25=>?_)
      refine ex (tE (tE (bE ?_)))
      refine nN ?_
      have hs69:SH w w49 [] [(Z2 b3),.own Aw1 yb1.length cw1 3 1 (yb1.map I),.own Al1 yc1.length cl1 51 2 (yc1.flatMap gLogin),.blk b4 29 [I ya1,.slice Aw1 yb1.length cw1,.slice Al1 yc1.length cl1,Str yd1]]:=hs68.pk [1,2,3,4] r0
      refine sr (qt r0 (lG [I ya1,.slice Aw1 yb1.length cw1,.slice Al1 yc1.length cl1,Str yd1] hs69 3 r0 ag29) (qt r0 (fa 0 fo29_0 r0) (qt r0 (lD (I ya1) hs69 3 r0 one3) (cL r0 (sL23Next (sx:=ya1) (Awt:=Aw1) (cwt:=cw1) (wt:=yb1) (Alg:=Al1) (clg:=cl1) (lg:=yc1) (to:=yd1) (nst:=ya1) (w:=_) (hwt:=(hs69.sl0 1 r0)) (hwt_n:=(by(first | omega | (simp; done) | (simp; omega)))) (hlg:=(hs69.sl0 2 r0)) (hlg_e:=(by exact fun u hu=>hlg_e u (p5 u hu))) (hlg_n:=(by(first | omega | (simp; done) | (simp; omega))))) ?_))))
      rintro _ w50 ⟨Aw9,cw9,Al9,cl9,rfl,hs70⟩
      replace hs70:=hs69.call0 hs70
      refine al (v:=.agg #[I 0,ns,ns,Str []]) (cs:=[I 0,ns,ns,Str []]) hs70 tz29 r0 trivial r0 (fun b13 w51 (hs71:SH w w51 [] [(Z2 b3),.own Aw1 yb1.length cw1 3 1 (yb1.map I),.own Al1 yc1.length cl1 51 2 (yc1.flatMap gLogin),.blk b4 29 [I ya1,.slice Aw1 yb1.length cw1,.slice Al1 yc1.length cl1,Str yd1],.own Aw9 yb1.length cw9 3 1 (yb1.map I),.own Al9 yc1.length cl9 51 2 (yc1.flatMap gLogin),(Z2 b13)])=>?_)
      refine sG [I ya1,.slice Aw9 yb1.length cw9,.slice Al9 yc1.length cl9,Str []] hs71 6 r0 ag29 (fun w52 (hs72:SH w w52 [] [(Z2 b3),.own Aw1 yb1.length cw1 3 1 (yb1.map I),.own Al1 yc1.length cl1 51 2 (yc1.flatMap gLogin),.blk b4 29 [I ya1,.slice Aw1 yb1.length cw1,.slice Al1 yc1.length cl1,Str yd1],.own Aw9 yb1.length cw9 3 1 (yb1.map I),.own Al9 yc1.length cl9 51 2 (yc1.flatMap gLogin),.blk b13 29 [I ya1,.slice Aw9 yb1.length cw9,.slice Al9 yc1.length cl9,Str []]])=>?_)
      refine nx (qt r0 (fa 3 fo29_3 r0) (qt r0 (lD (Str yd1) hs72 3 r0 one9) (qt r0 (fa 3 fo29_3 r0) (sT (Str yd1) hs72 6 r0 one9 (fun w53 (hs73:SH w w53 [] [(Z2 b3),.own Aw1 yb1.length cw1 3 1 (yb1.map I),.own Al1 yc1.length cl1 51 2 (yc1.flatMap gLogin),.blk b4 29 [I ya1,.slice Aw1 yb1.length cw1,.slice Al1 yc1.length cl1,Str yd1],.own Aw9 yb1.length cw9 3 1 (yb1.map I),.own Al9 yc1.length cl9 51 2 (yc1.flatMap gLogin),.blk b13 29 [I ya1,.slice Aw9 yb1.length cw9,.slice Al9 yc1.length cl9,Str yd1]])=>?_)))))
      refine nn ?_
      have hs74:SH w w53 [] [(Z2 b3),.own Aw9 yb1.length cw9 3 1 (yb1.map I),.own Al9 yc1.length cl9 51 2 (yc1.flatMap gLogin),.blk b13 29 [I ya1,.slice Aw9 yb1.length cw9,.slice Al9 yc1.length cl9,Str yd1]]:=hs73.pk [0,4,5,6] r0
      refine sr (qt r0 (lG [I ya1,.slice Aw9 yb1.length cw9,.slice Al9 yc1.length cl9,Str yd1] hs74 3 r0 ag29) (sG [I ya1,.slice Aw9 yb1.length cw9,.slice Al9 yc1.length cl9,Str yd1] hs74 0 r0 ag29 (fun w54 (hs75:SH w w54 [] [.own Aw9 yb1.length cw9 3 1 (yb1.map I),.own Al9 yc1.length cl9 51 2 (yc1.flatMap gLogin),.blk b13 29 [I ya1,.slice Aw9 yb1.length cw9,.slice Al9 yc1.length cl9,Str yd1],.blk b3 29 [I ya1,.slice Aw9 yb1.length cw9,.slice Al9 yc1.length cl9,Str yd1]])=>?_)))
      refine tA (.bool true) r0 (nn (rt (fret (v:=.tuple #[.agg #[I ya1,.slice Aw9 yb1.length cw9,.slice Al9 yc1.length cl9,Str yd1],.bool true]) (resC hs75 3 r0 r0 ag29 r0 (.tmp .nil)) r0 ?_)))
      have e49:clRun ⟨ms,lu,lw,ak,aq,an,apt⟩ (sx,wt,lg,to)=((ya1,yb1,yc1,yd1),true):=by(rw[(cl_y (c:=⟨ms,lu,lw,ak,aq,an,apt⟩) (t:=(sx,wt,lg,to)) (by assumption) (by assumption)),runT_some (step_y (c:=⟨ms,lu,lw,ak,aq,an,apt⟩) (t:=(sx,wt,lg,to)) (t':=(ya1,yb1,yc1,yd1)) (by assumption) (by assumption) p1),runT_none (by first | exact step_no1 (c:=⟨ms,lu,lw,ak,aq,an,apt⟩) (t:=(ya1,yb1,yc1,yd1)) (by assumption) | exact step_no2 (c:=⟨ms,lu,lw,ak,aq,an,apt⟩) (t:=(ya1,yb1,yc1,yd1)) (by assumption))]; done)
      have e50:=pj11 e49
      have e51:=pj121 e49
      have e52:=congrArg List.length e51
      have e53:=pj1221 e49
      have e54:=congrArg List.length e53
      have e55:=pj1222 e49
      have e56:=pj2 e49
      exact⟨Aw9,cw9,Al9,cl9,(tup2 (aggv (lc (congrArg (Value.int .i64) e50) (lc (slv r0 e52 r0) (lc (slv r0 e54 r0) (lc (congrArg (Str) e55) r0))))) (congrArg (Value.bool) e56)),((hs75.pk [0,1] r0).cast (lc (own_eq (g:=I) r0 e52 r0 e51) (lc (own_eqf (g:=gLogin) r0 e54 r0 e53) r0)))⟩
    ·refine sk (bN (nN ?_))
     have hs76:SH w w13 [] [.blk b1 53 (Z1 Ams ms cms lu lw ak Aaq aq caq an apt),(Z2 b3),.blk b4 29 (Z0 sx Awt wt cwt Alg lg clg to)]:=hs18.pk [0,1,2] r0
     refine rg (tm (I 0) r0 (qt r0 (add (a:=0) (b:=1) r0 r0 (by(exact⟨by omega,by omega⟩))) (tA (I ((0:Int)+1)) r0 (nn (ulS (sq ?_))))))
     refine sr (tm (I ((0:Int)+1)) r0 (qt r0 (lss (k:=.i64) (a:=(0:Int)+1) (b:=3) r0 r0) (nn ?_)))
     refine cdd (p:=((0:Int)+1)<3) r0 (fun h26=>?_) (fun h26=>absurd (by decide) h26)
     refine sk (nN (sq (bl (sr (qt r0 (lG (Z1 Ams ms cms lu lw ak Aaq aq caq an apt) hs76 0 r0 ag53) (qt r0 (fa 0 fo29_0 r0) ?_))))))
     refine qt r0 (lD (I sx) hs76 2 r0 one3) (cL r0 (sClientSay (Ams:=Ams) (cms:=cms) (ms:=ms) (lu:=lu) (lw:=lw) (ak:=ak) (Aaq:=Aaq) (caq:=caq) (aq:=aq) (an:=an) (apt:=apt) (n:=sx) (w:=_) (hms:=(hms.up0 hs76)) (hlu_n:=(by(first | omega | (simp; done) | (simp; omega)))) (hlw_n:=(by(first | omega | (simp; done) | (simp; omega)))) (haq:=(haq.up0 hs76)) (han_n:=(by(first | omega | (simp; done) | (simp; omega))))) ?_)
     rintro _ w55 ⟨A6,c6,rfl,hs77⟩
     replace hs77:=hs76.call0 hs77
     refine tm (.tuple #[.slice A6 (((sayP ms lu lw ak aq an apt sx).1).length) c6,.bool ((sayP ms lu lw ak aq an apt sx).2)]) r0 (qt r0 (xt 0 (v:=.slice A6 (((sayP ms lu lw ak aq an apt sx).1).length) c6) r0 r0) (qt r0 (xt 1 (v:=.bool ((sayP ms lu lw ak aq an apt sx).2)) r0 r0) (tA (.slice A6 (((sayP ms lu lw ak aq an apt sx).1).length) c6) r0 (tA (.bool ((sayP ms lu lw ak aq an apt sx).2)) r0 (nn (sq ?_))))))
     refine rg (tm (.bool ((sayP ms lu lw ak aq an apt sx).2)) r0 (nn ?_))
     refine cd (b:=(sayP ms lu lw ak aq an apt sx).2) r0 (fun h27=>?_) (fun h27=>absurd (h27.symm.trans (by exact h8:((sayP ms lu lw ak aq an apt sx).2)=true)) (by decide))
     refine sr (qt r0 (lG (Z0 sx Awt wt cwt Alg lg clg to) hs77 2 r0 ag29) (tm (.slice A6 (((sayP ms lu lw ak aq an apt sx).1).length) c6) r0 (cL r0 (sTalkSayE (sx:=sx) (Awt:=Awt) (cwt:=cwt) (wt:=wt) (Alg:=Alg) (clg:=clg) (lg:=lg) (to:=to) (Abs:=A6) (cbs:=c6) (bs:=(sayP ms lu lw ak aq an apt sx).1) (w:=_) (hwt:=(hwt.up0 hs77)) (hlg:=(hlg.up0 hs77)) (hlg_e:=hlg_e) (hto_n:=(by(first | omega | (simp; done) | (simp; omega)))) (hbs:=(hs77.sl0 3 r0))) ?_)))
     rintro _ w56 ⟨Aw10,cw10,Al10,cl10,Ay5,cy5,ya5,yb5,yc5,yd5,rfl,p21,p22,p23,p24,p25,hs78⟩
     replace hs78:=hs77.call0 hs78
     refine tm (.tuple #[.agg #[I ya5,.slice Aw10 yb5.length cw10,.slice Al10 yc5.length cl10,Str yd5],.slice Ay5 (((talkSay sx wt lg to ((sayP ms lu lw ak aq an apt sx).1)).2.1).length) cy5,.bool ((talkSay sx wt lg to ((sayP ms lu lw ak aq an apt sx).1)).2.2)]) r0 (qt r0 (xt 0 (v:=.agg #[I ya5,.slice Aw10 yb5.length cw10,.slice Al10 yc5.length cl10,Str yd5]) r0 r0) (qt r0 (xt 1 (v:=.slice Ay5 (((talkSay sx wt lg to ((sayP ms lu lw ak aq an apt sx).1)).2.1).length) cy5) r0 r0) (qt r0 (xt 2 (v:=.bool ((talkSay sx wt lg to ((sayP ms lu lw ak aq an apt sx).1)).2.2)) r0 r0) (al (v:=.agg #[I 0,ns,ns,Str []]) (cs:=[I 0,ns,ns,Str []]) hs78 tz29 r0 trivial r0 (fun b14 w57 (hs79:SH w w57 [] [.blk b1 53 (Z1 Ams ms cms lu lw ak Aaq aq caq an apt),(Z2 b3),.blk b4 29 (Z0 sx Awt wt cwt Alg lg clg to),.own A6 (((sayP ms lu lw ak aq an apt sx).1).length) c6 3 1 (((sayP ms lu lw ak aq an apt sx).1).map I),.own Aw10 yb5.length cw10 3 1 (yb5.map I),.own Al10 yc5.length cl10 51 2 (yc5.flatMap gLogin),.own Ay5 (((talkSay sx wt lg to ((sayP ms lu lw ak aq an apt sx).1)).2.1).length) cy5 3 1 (((talkSay sx wt lg to ((sayP ms lu lw ak aq an apt sx).1)).2.1).map I),(Z2 b14)])=>?_)))))
     refine sG [I ya5,.slice Aw10 yb5.length cw10,.slice Al10 yc5.length cl10,Str yd5] hs79 7 r0 ag29 (fun w58 (hs80:SH w w58 [] [.blk b1 53 (Z1 Ams ms cms lu lw ak Aaq aq caq an apt),(Z2 b3),.blk b4 29 (Z0 sx Awt wt cwt Alg lg clg to),.own A6 (((sayP ms lu lw ak aq an apt sx).1).length) c6 3 1 (((sayP ms lu lw ak aq an apt sx).1).map I),.own Aw10 yb5.length cw10 3 1 (yb5.map I),.own Al10 yc5.length cl10 51 2 (yc5.flatMap gLogin),.own Ay5 (((talkSay sx wt lg to ((sayP ms lu lw ak aq an apt sx).1)).2.1).length) cy5 3 1 (((talkSay sx wt lg to ((sayP ms lu lw ak aq an apt sx).1)).2.1).map I),.blk b14 29 [I ya5,.slice Aw10 yb5.length cw10,.slice Al10 yc5.length cl10,Str yd5]])=>?_)
     refine tA (.slice Ay5 (((talkSay sx wt lg to ((sayP ms lu lw ak aq an apt sx).1)).2.1).length) cy5) r0 (tA (.bool ((talkSay sx wt lg to ((sayP ms lu lw ak aq an apt sx).1)).2.2)) r0 (nn ?_))
     have hs81:SH w w58 [] [.blk b1 53 (Z1 Ams ms cms lu lw ak Aaq aq caq an apt),(Z2 b3),.blk b4 29 (Z0 sx Awt wt cwt Alg lg clg to),.own Aw10 yb5.length cw10 3 1 (yb5.map I),.own Al10 yc5.length cl10 51 2 (yc5.flatMap gLogin),.blk b14 29 [I ya5,.slice Aw10 yb5.length cw10,.slice Al10 yc5.length cl10,Str yd5]]:=hs80.pk [0,1,2,4,5,7] r0
     refine sr (tm (.bool ((talkSay sx wt lg to ((sayP ms lu lw ak aq an apt sx).1)).2.2)) r0 (nn ?_))
     refine cd (b:=(talkSay sx wt lg to ((sayP ms lu lw ak aq an apt sx).1)).2.2) r0 (fun h28=>absurd (h28.symm.trans (by exact h9:((talkSay sx wt lg to ((sayP ms lu lw ak aq an apt sx).1)).2.2)=false)) (by decide)) (fun h28=>?_)
     refine sk (bN (nN ?_))
     have hs82:SH w w58 [] [.blk b1 53 (Z1 Ams ms cms lu lw ak Aaq aq caq an apt),(Z2 b3),.blk b4 29 (Z0 sx Awt wt cwt Alg lg clg to)]:=hs81.pk [0,1,2] r0
     refine rg (tm (I ((0:Int)+1)) r0 (qt r0 (add (a:=(0:Int)+1) (b:=1) r0 r0 (by(exact⟨by omega,by omega⟩))) (tA (I (((0:Int)+1)+1)) r0 (nn (ulS (sq ?_))))))
     refine sr (tm (I (((0:Int)+1)+1)) r0 (qt r0 (lss (k:=.i64) (a:=((0:Int)+1)+1) (b:=3) r0 r0) (nn ?_)))
     refine cdd (p:=(((0:Int)+1)+1)<3) r0 (fun h29=>?_) (fun h29=>absurd (by decide) h29)
     refine sk (nN (sq (bl (sr (qt r0 (lG (Z1 Ams ms cms lu lw ak Aaq aq caq an apt) hs82 0 r0 ag53) (qt r0 (fa 0 fo29_0 r0) ?_))))))
     refine qt r0 (lD (I sx) hs82 2 r0 one3) (cL r0 (sClientSay (Ams:=Ams) (cms:=cms) (ms:=ms) (lu:=lu) (lw:=lw) (ak:=ak) (Aaq:=Aaq) (caq:=caq) (aq:=aq) (an:=an) (apt:=apt) (n:=sx) (w:=_) (hms:=(hms.up0 hs82)) (hlu_n:=(by(first | omega | (simp; done) | (simp; omega)))) (hlw_n:=(by(first | omega | (simp; done) | (simp; omega)))) (haq:=(haq.up0 hs82)) (han_n:=(by(first | omega | (simp; done) | (simp; omega))))) ?_)
     rintro _ w59 ⟨A7,c7,rfl,hs83⟩
     replace hs83:=hs82.call0 hs83
     refine tm (.tuple #[.slice A7 (((sayP ms lu lw ak aq an apt sx).1).length) c7,.bool ((sayP ms lu lw ak aq an apt sx).2)]) r0 (qt r0 (xt 0 (v:=.slice A7 (((sayP ms lu lw ak aq an apt sx).1).length) c7) r0 r0) (qt r0 (xt 1 (v:=.bool ((sayP ms lu lw ak aq an apt sx).2)) r0 r0) (tA (.slice A7 (((sayP ms lu lw ak aq an apt sx).1).length) c7) r0 (tA (.bool ((sayP ms lu lw ak aq an apt sx).2)) r0 (nn (sq ?_))))))
     refine rg (tm (.bool ((sayP ms lu lw ak aq an apt sx).2)) r0 (nn ?_))
     refine cd (b:=(sayP ms lu lw ak aq an apt sx).2) r0 (fun h30=>?_) (fun h30=>absurd (h30.symm.trans (by exact h8:((sayP ms lu lw ak aq an apt sx).2)=true)) (by decide))
     refine sr (qt r0 (lG (Z0 sx Awt wt cwt Alg lg clg to) hs83 2 r0 ag29) (tm (.slice A7 (((sayP ms lu lw ak aq an apt sx).1).length) c7) r0 (cL r0 (sTalkSayE (sx:=sx) (Awt:=Awt) (cwt:=cwt) (wt:=wt) (Alg:=Alg) (clg:=clg) (lg:=lg) (to:=to) (Abs:=A7) (cbs:=c7) (bs:=(sayP ms lu lw ak aq an apt sx).1) (w:=_) (hwt:=(hwt.up0 hs83)) (hlg:=(hlg.up0 hs83)) (hlg_e:=hlg_e) (hto_n:=(by(first | omega | (simp; done) | (simp; omega)))) (hbs:=(hs83.sl0 3 r0))) ?_)))
     rintro _ w60 ⟨Aw11,cw11,Al11,cl11,Ay6,cy6,ya6,yb6,yc6,yd6,rfl,p26,p27,p28,p29,p30,hs84⟩
     replace hs84:=hs83.call0 hs84
     refine tm (.tuple #[.agg #[I ya6,.slice Aw11 yb6.length cw11,.slice Al11 yc6.length cl11,Str yd6],.slice Ay6 (((talkSay sx wt lg to ((sayP ms lu lw ak aq an apt sx).1)).2.1).length) cy6,.bool ((talkSay sx wt lg to ((sayP ms lu lw ak aq an apt sx).1)).2.2)]) r0 (qt r0 (xt 0 (v:=.agg #[I ya6,.slice Aw11 yb6.length cw11,.slice Al11 yc6.length cl11,Str yd6]) r0 r0) (qt r0 (xt 1 (v:=.slice Ay6 (((talkSay sx wt lg to ((sayP ms lu lw ak aq an apt sx).1)).2.1).length) cy6) r0 r0) (qt r0 (xt 2 (v:=.bool ((talkSay sx wt lg to ((sayP ms lu lw ak aq an apt sx).1)).2.2)) r0 r0) (al (v:=.agg #[I 0,ns,ns,Str []]) (cs:=[I 0,ns,ns,Str []]) hs84 tz29 r0 trivial r0 (fun b15 w61 (hs85:SH w w61 [] [.blk b1 53 (Z1 Ams ms cms lu lw ak Aaq aq caq an apt),(Z2 b3),.blk b4 29 (Z0 sx Awt wt cwt Alg lg clg to),.own A7 (((sayP ms lu lw ak aq an apt sx).1).length) c7 3 1 (((sayP ms lu lw ak aq an apt sx).1).map I),.own Aw11 yb6.length cw11 3 1 (yb6.map I),.own Al11 yc6.length cl11 51 2 (yc6.flatMap gLogin),.own Ay6 (((talkSay sx wt lg to ((sayP ms lu lw ak aq an apt sx).1)).2.1).length) cy6 3 1 (((talkSay sx wt lg to ((sayP ms lu lw ak aq an apt sx).1)).2.1).map I),(Z2 b15)])=>?_)))))
     refine sG [I ya6,.slice Aw11 yb6.length cw11,.slice Al11 yc6.length cl11,Str yd6] hs85 7 r0 ag29 (fun w62 (hs86:SH w w62 [] [.blk b1 53 (Z1 Ams ms cms lu lw ak Aaq aq caq an apt),(Z2 b3),.blk b4 29 (Z0 sx Awt wt cwt Alg lg clg to),.own A7 (((sayP ms lu lw ak aq an apt sx).1).length) c7 3 1 (((sayP ms lu lw ak aq an apt sx).1).map I),.own Aw11 yb6.length cw11 3 1 (yb6.map I),.own Al11 yc6.length cl11 51 2 (yc6.flatMap gLogin),.own Ay6 (((talkSay sx wt lg to ((sayP ms lu lw ak aq an apt sx).1)).2.1).length) cy6 3 1 (((talkSay sx wt lg to ((sayP ms lu lw ak aq an apt sx).1)).2.1).map I),.blk b15 29 [I ya6,.slice Aw11 yb6.length cw11,.slice Al11 yc6.length cl11,Str yd6]])=>?_)
     refine tA (.slice Ay6 (((talkSay sx wt lg to ((sayP ms lu lw ak aq an apt sx).1)).2.1).length) cy6) r0 (tA (.bool ((talkSay sx wt lg to ((sayP ms lu lw ak aq an apt sx).1)).2.2)) r0 (nn ?_))
     have hs87:SH w w62 [] [.blk b1 53 (Z1 Ams ms cms lu lw ak Aaq aq caq an apt),(Z2 b3),.blk b4 29 (Z0 sx Awt wt cwt Alg lg clg to),.own Aw11 yb6.length cw11 3 1 (yb6.map I),.own Al11 yc6.length cl11 51 2 (yc6.flatMap gLogin),.blk b15 29 [I ya6,.slice Aw11 yb6.length cw11,.slice Al11 yc6.length cl11,Str yd6]]:=hs86.pk [0,1,2,4,5,7] r0
     refine sr (tm (.bool ((talkSay sx wt lg to ((sayP ms lu lw ak aq an apt sx).1)).2.2)) r0 (nn ?_))
     refine cd (b:=(talkSay sx wt lg to ((sayP ms lu lw ak aq an apt sx).1)).2.2) r0 (fun h31=>absurd (h31.symm.trans (by exact h9:((talkSay sx wt lg to ((sayP ms lu lw ak aq an apt sx).1)).2.2)=false)) (by decide)) (fun h31=>?_)
     refine sk (bN (nN ?_))
     have hs88:SH w w62 [] [.blk b1 53 (Z1 Ams ms cms lu lw ak Aaq aq caq an apt),(Z2 b3),.blk b4 29 (Z0 sx Awt wt cwt Alg lg clg to)]:=hs87.pk [0,1,2] r0
     refine rg (tm (I (((0:Int)+1)+1)) r0 (qt r0 (add (a:=((0:Int)+1)+1) (b:=1) r0 r0 (by(exact⟨by omega,by omega⟩))) (tA (I ((((0:Int)+1)+1)+1)) r0 (nn (ulS (sq ?_))))))
     refine sr (tm (I ((((0:Int)+1)+1)+1)) r0 (qt r0 (lss (k:=.i64) (a:=(((0:Int)+1)+1)+1) (b:=3) r0 r0) (nn ?_)))
     refine cdd (p:=((((0:Int)+1)+1)+1)<3) r0 (fun h32=>absurd h32 (by decide)) (fun h32=>?_)
     refine ex (tE (tE (bE ?_)))
     refine nN (sr (qt r0 (lG (Z0 sx Awt wt cwt Alg lg clg to) hs88 2 r0 ag29) (qt r0 (fa 0 fo29_0 r0) (qt r0 (lD (I sx) hs88 2 r0 one3) (cL r0 (sL23Next (sx:=sx) (Awt:=Awt) (cwt:=cwt) (wt:=wt) (Alg:=Alg) (clg:=clg) (lg:=lg) (to:=to) (nst:=sx) (w:=_) (hwt:=(hwt.up0 hs88)) (hwt_n:=(by(have htp:=talkOk_parts (by assumption:talkOk sx wt lg to=true); have hmw:=methOk_len htp.2.1; first | omega | (simp; done) | (simp; omega)))) (hlg:=(hlg.up0 hs88)) (hlg_e:=hlg_e) (hlg_n:=(by(have htp:=talkOk_parts (by assumption:talkOk sx wt lg to=true); have hmw:=methOk_len htp.2.1; first | omega | (simp; done) | (simp; omega))))) ?_)))))
     rintro _ w63 ⟨Aw12,cw12,Al12,cl12,rfl,hs89⟩
     replace hs89:=hs88.call0 hs89
     refine al (v:=.agg #[I 0,ns,ns,Str []]) (cs:=[I 0,ns,ns,Str []]) hs89 tz29 r0 trivial r0 (fun b16 w64 (hs90:SH w w64 [] [.blk b1 53 (Z1 Ams ms cms lu lw ak Aaq aq caq an apt),(Z2 b3),.blk b4 29 (Z0 sx Awt wt cwt Alg lg clg to),.own Aw12 wt.length cw12 3 1 (wt.map I),.own Al12 lg.length cl12 51 2 (lg.flatMap gLogin),(Z2 b16)])=>?_)
     refine sG [I sx,.slice Aw12 wt.length cw12,.slice Al12 lg.length cl12,Str []] hs90 5 r0 ag29 (fun w65 (hs91:SH w w65 [] [.blk b1 53 (Z1 Ams ms cms lu lw ak Aaq aq caq an apt),(Z2 b3),.blk b4 29 (Z0 sx Awt wt cwt Alg lg clg to),.own Aw12 wt.length cw12 3 1 (wt.map I),.own Al12 lg.length cl12 51 2 (lg.flatMap gLogin),.blk b16 29 [I sx,.slice Aw12 wt.length cw12,.slice Al12 lg.length cl12,Str []]])=>?_)
     refine nx (qt r0 (fa 3 fo29_3 r0) (qt r0 (lD (Str to) hs91 2 r0 one9) (qt r0 (fa 3 fo29_3 r0) (sT (Str to) hs91 5 r0 one9 (fun w66 (hs92:SH w w66 [] [.blk b1 53 (Z1 Ams ms cms lu lw ak Aaq aq caq an apt),(Z2 b3),.blk b4 29 (Z0 sx Awt wt cwt Alg lg clg to),.own Aw12 wt.length cw12 3 1 (wt.map I),.own Al12 lg.length cl12 51 2 (lg.flatMap gLogin),.blk b16 29 [I sx,.slice Aw12 wt.length cw12,.slice Al12 lg.length cl12,Str to]])=>?_)))))
     refine nn ?_
     have hs93:SH w w66 [] [(Z2 b3),.own Aw12 wt.length cw12 3 1 (wt.map I),.own Al12 lg.length cl12 51 2 (lg.flatMap gLogin),.blk b16 29 [I sx,.slice Aw12 wt.length cw12,.slice Al12 lg.length cl12,Str to]]:=hs92.pk [1,3,4,5] r0
     refine sr (qt r0 (lG [I sx,.slice Aw12 wt.length cw12,.slice Al12 lg.length cl12,Str to] hs93 3 r0 ag29) (sG [I sx,.slice Aw12 wt.length cw12,.slice Al12 lg.length cl12,Str to] hs93 0 r0 ag29 (fun w67 (hs94:SH w w67 [] [.own Aw12 wt.length cw12 3 1 (wt.map I),.own Al12 lg.length cl12 51 2 (lg.flatMap gLogin),.blk b16 29 [I sx,.slice Aw12 wt.length cw12,.slice Al12 lg.length cl12,Str to],.blk b3 29 [I sx,.slice Aw12 wt.length cw12,.slice Al12 lg.length cl12,Str to]])=>?_)))
     refine tA (.bool true) r0 (nn (rt (fret (v:=.tuple #[.agg #[I sx,.slice Aw12 wt.length cw12,.slice Al12 lg.length cl12,Str to],.bool true]) (resC hs94 3 r0 r0 ag29 r0 (.tmp .nil)) r0 ?_)))
     have e57:clRun ⟨ms,lu,lw,ak,aq,an,apt⟩ (sx,wt,lg,to)=((sx,wt,lg,to),true):=by(rw[(cl_y (c:=⟨ms,lu,lw,ak,aq,an,apt⟩) (t:=(sx,wt,lg,to)) (by assumption) (by assumption)),runT_none (by first | exact step_no1 (c:=⟨ms,lu,lw,ak,aq,an,apt⟩) (t:=(sx,wt,lg,to)) (by assumption) | exact step_no2 (c:=⟨ms,lu,lw,ak,aq,an,apt⟩) (t:=(sx,wt,lg,to)) (by assumption))]; done)
     have e58:=pj11 e57
     have e59:=pj121 e57
     have e60:=congrArg List.length e59
     have e61:=pj1221 e57
     have e62:=congrArg List.length e61
     have e63:=pj1222 e57
     have e64:=pj2 e57
     exact⟨Aw12,cw12,Al12,cl12,(tup2 (aggv (lc (congrArg (Value.int .i64) e58) (lc (slv r0 e60 r0) (lc (slv r0 e62 r0) (lc (congrArg (Str) e63) r0))))) (congrArg (Value.bool) e64)),((hs94.pk [0,1] r0).cast (lc (own_eq (g:=I) r0 e60 r0 e59) (lc (own_eqf (g:=gLogin) r0 e62 r0 e61) r0)))⟩
   ·refine sk (bN (nN ?_))
    have hs95:SH w w10 [] [.blk b1 53 (Z1 Ams ms cms lu lw ak Aaq aq caq an apt),(Z2 b3),.blk b4 29 (Z0 sx Awt wt cwt Alg lg clg to)]:=hs14.pk [0,2,3] r0
    refine rg (tm (I 0) r0 (qt r0 (add (a:=0) (b:=1) r0 r0 (by(exact⟨by omega,by omega⟩))) (tA (I ((0:Int)+1)) r0 (nn (ulS (sq ?_))))))
    refine sr (tm (I ((0:Int)+1)) r0 (qt r0 (lss (k:=.i64) (a:=(0:Int)+1) (b:=3) r0 r0) (nn ?_)))
    refine cdd (p:=((0:Int)+1)<3) r0 (fun h33=>?_) (fun h33=>absurd (by decide) h33)
    refine sk (nN (sq (bl (sr (qt r0 (lG (Z1 Ams ms cms lu lw ak Aaq aq caq an apt) hs95 0 r0 ag53) (qt r0 (fa 0 fo29_0 r0) ?_))))))
    refine qt r0 (lD (I sx) hs95 2 r0 one3) (cL r0 (sClientSay (Ams:=Ams) (cms:=cms) (ms:=ms) (lu:=lu) (lw:=lw) (ak:=ak) (Aaq:=Aaq) (caq:=caq) (aq:=aq) (an:=an) (apt:=apt) (n:=sx) (w:=_) (hms:=(hms.up0 hs95)) (hlu_n:=(by(first | omega | (simp; done) | (simp; omega)))) (hlw_n:=(by(first | omega | (simp; done) | (simp; omega)))) (haq:=(haq.up0 hs95)) (han_n:=(by(first | omega | (simp; done) | (simp; omega))))) ?_)
    rintro _ w68 ⟨A8,c8,rfl,hs96⟩
    replace hs96:=hs95.call0 hs96
    refine tm (.tuple #[.slice A8 (((sayP ms lu lw ak aq an apt sx).1).length) c8,.bool ((sayP ms lu lw ak aq an apt sx).2)]) r0 (qt r0 (xt 0 (v:=.slice A8 (((sayP ms lu lw ak aq an apt sx).1).length) c8) r0 r0) (qt r0 (xt 1 (v:=.bool ((sayP ms lu lw ak aq an apt sx).2)) r0 r0) (tA (.slice A8 (((sayP ms lu lw ak aq an apt sx).1).length) c8) r0 (tA (.bool ((sayP ms lu lw ak aq an apt sx).2)) r0 (nn (sq ?_))))))
    refine rg (tm (.bool ((sayP ms lu lw ak aq an apt sx).2)) r0 (nn ?_))
    refine cd (b:=(sayP ms lu lw ak aq an apt sx).2) r0 (fun h34=>absurd (h34.symm.trans (by exact h8:((sayP ms lu lw ak aq an apt sx).2)=false)) (by decide)) (fun h34=>?_)
    refine sk (bN (nN (rg (tm (I ((0:Int)+1)) r0 (qt r0 (add (a:=(0:Int)+1) (b:=1) r0 r0 (by(exact⟨by omega,by omega⟩))) (tA (I (((0:Int)+1)+1)) r0 (nl ?_)))))))
    refine nN (ulS (sq (sr (tm (I (((0:Int)+1)+1)) r0 (qt r0 (lss (k:=.i64) (a:=((0:Int)+1)+1) (b:=3) r0 r0) (nl ?_))))))
    refine nN ?_
    refine cdd (p:=(((0:Int)+1)+1)<3) r0 (fun h35=>?_) (fun h35=>absurd (by decide) h35)
    refine sk (nN (sq (bl (sr (qt r0 (lG (Z1 Ams ms cms lu lw ak Aaq aq caq an apt) hs96 0 r0 ag53) (qt r0 (fa 0 fo29_0 r0) ?_))))))
    refine qt r0 (lD (I sx) hs96 2 r0 one3) (cL r0 (sClientSay (Ams:=Ams) (cms:=cms) (ms:=ms) (lu:=lu) (lw:=lw) (ak:=ak) (Aaq:=Aaq) (caq:=caq) (aq:=aq) (an:=an) (apt:=apt) (n:=sx) (w:=_) (hms:=(hms.up0 hs96)) (hlu_n:=(by(first | omega | (simp; done) | (simp; omega)))) (hlw_n:=(by(first | omega | (simp; done) | (simp; omega)))) (haq:=(haq.up0 hs96)) (han_n:=(by(first | omega | (simp; done) | (simp; omega))))) ?_)
    rintro _ w69 ⟨A9,c9,rfl,hs97⟩
    replace hs97:=hs96.call0 hs97
    refine tm (.tuple #[.slice A9 (((sayP ms lu lw ak aq an apt sx).1).length) c9,.bool ((sayP ms lu lw ak aq an apt sx).2)]) r0 (qt r0 (xt 0 (v:=.slice A9 (((sayP ms lu lw ak aq an apt sx).1).length) c9) r0 r0) (qt r0 (xt 1 (v:=.bool ((sayP ms lu lw ak aq an apt sx).2)) r0 r0) (tA (.slice A9 (((sayP ms lu lw ak aq an apt sx).1).length) c9) r0 (tA (.bool ((sayP ms lu lw ak aq an apt sx).2)) r0 (nn (sq ?_))))))
    refine rg (tm (.bool ((sayP ms lu lw ak aq an apt sx).2)) r0 (nn ?_))
    refine cd (b:=(sayP ms lu lw ak aq an apt sx).2) r0 (fun h36=>absurd (h36.symm.trans (by exact h8:((sayP ms lu lw ak aq an apt sx).2)=false)) (by decide)) (fun h36=>?_)
    refine sk (bN (nN ?_))
    have hs98:SH w w69 [] [.blk b1 53 (Z1 Ams ms cms lu lw ak Aaq aq caq an apt),(Z2 b3),.blk b4 29 (Z0 sx Awt wt cwt Alg lg clg to)]:=hs97.pk [0,1,2] r0
    refine rg (tm (I (((0:Int)+1)+1)) r0 (qt r0 (add (a:=((0:Int)+1)+1) (b:=1) r0 r0 (by(exact⟨by omega,by omega⟩))) (tA (I ((((0:Int)+1)+1)+1)) r0 (nn (ulS (sq ?_))))))
    refine sr (tm (I ((((0:Int)+1)+1)+1)) r0 (qt r0 (lss (k:=.i64) (a:=(((0:Int)+1)+1)+1) (b:=3) r0 r0) (nn ?_)))
    refine cdd (p:=((((0:Int)+1)+1)+1)<3) r0 (fun h37=>absurd h37 (by decide)) (fun h37=>?_)
    refine ex (tE (tE (bE ?_)))
    refine nN (sr (qt r0 (lG (Z0 sx Awt wt cwt Alg lg clg to) hs98 2 r0 ag29) (qt r0 (fa 0 fo29_0 r0) (qt r0 (lD (I sx) hs98 2 r0 one3) (cL r0 (sL23Next (sx:=sx) (Awt:=Awt) (cwt:=cwt) (wt:=wt) (Alg:=Alg) (clg:=clg) (lg:=lg) (to:=to) (nst:=sx) (w:=_) (hwt:=(hwt.up0 hs98)) (hwt_n:=(by(have htp:=talkOk_parts (by assumption:talkOk sx wt lg to=true); have hmw:=methOk_len htp.2.1; first | omega | (simp; done) | (simp; omega)))) (hlg:=(hlg.up0 hs98)) (hlg_e:=hlg_e) (hlg_n:=(by(have htp:=talkOk_parts (by assumption:talkOk sx wt lg to=true); have hmw:=methOk_len htp.2.1; first | omega | (simp; done) | (simp; omega))))) ?_)))))
    rintro _ w70 ⟨Aw13,cw13,Al13,cl13,rfl,hs99⟩
    replace hs99:=hs98.call0 hs99
    refine al (v:=.agg #[I 0,ns,ns,Str []]) (cs:=[I 0,ns,ns,Str []]) hs99 tz29 r0 trivial r0 (fun b17 w71 (hs100:SH w w71 [] [.blk b1 53 (Z1 Ams ms cms lu lw ak Aaq aq caq an apt),(Z2 b3),.blk b4 29 (Z0 sx Awt wt cwt Alg lg clg to),.own Aw13 wt.length cw13 3 1 (wt.map I),.own Al13 lg.length cl13 51 2 (lg.flatMap gLogin),(Z2 b17)])=>?_)
    refine sG [I sx,.slice Aw13 wt.length cw13,.slice Al13 lg.length cl13,Str []] hs100 5 r0 ag29 (fun w72 (hs101:SH w w72 [] [.blk b1 53 (Z1 Ams ms cms lu lw ak Aaq aq caq an apt),(Z2 b3),.blk b4 29 (Z0 sx Awt wt cwt Alg lg clg to),.own Aw13 wt.length cw13 3 1 (wt.map I),.own Al13 lg.length cl13 51 2 (lg.flatMap gLogin),.blk b17 29 [I sx,.slice Aw13 wt.length cw13,.slice Al13 lg.length cl13,Str []]])=>?_)
    refine nx (qt r0 (fa 3 fo29_3 r0) (qt r0 (lD (Str to) hs101 2 r0 one9) (qt r0 (fa 3 fo29_3 r0) (sT (Str to) hs101 5 r0 one9 (fun w73 (hs102:SH w w73 [] [.blk b1 53 (Z1 Ams ms cms lu lw ak Aaq aq caq an apt),(Z2 b3),.blk b4 29 (Z0 sx Awt wt cwt Alg lg clg to),.own Aw13 wt.length cw13 3 1 (wt.map I),.own Al13 lg.length cl13 51 2 (lg.flatMap gLogin),.blk b17 29 [I sx,.slice Aw13 wt.length cw13,.slice Al13 lg.length cl13,Str to]])=>?_)))))
    refine nn ?_
    have hs103:SH w w73 [] [(Z2 b3),.own Aw13 wt.length cw13 3 1 (wt.map I),.own Al13 lg.length cl13 51 2 (lg.flatMap gLogin),.blk b17 29 [I sx,.slice Aw13 wt.length cw13,.slice Al13 lg.length cl13,Str to]]:=hs102.pk [1,3,4,5] r0
    refine sr (qt r0 (lG [I sx,.slice Aw13 wt.length cw13,.slice Al13 lg.length cl13,Str to] hs103 3 r0 ag29) (sG [I sx,.slice Aw13 wt.length cw13,.slice Al13 lg.length cl13,Str to] hs103 0 r0 ag29 (fun w74 (hs104:SH w w74 [] [.own Aw13 wt.length cw13 3 1 (wt.map I),.own Al13 lg.length cl13 51 2 (lg.flatMap gLogin),.blk b17 29 [I sx,.slice Aw13 wt.length cw13,.slice Al13 lg.length cl13,Str to],.blk b3 29 [I sx,.slice Aw13 wt.length cw13,.slice Al13 lg.length cl13,Str to]])=>?_)))
    refine tA (.bool true) r0 (nn (rt (fret (v:=.tuple #[.agg #[I sx,.slice Aw13 wt.length cw13,.slice Al13 lg.length cl13,Str to],.bool true]) (resC hs104 3 r0 r0 ag29 r0 (.tmp .nil)) r0 ?_)))
    have e65:clRun ⟨ms,lu,lw,ak,aq,an,apt⟩ (sx,wt,lg,to)=((sx,wt,lg,to),true):=by(rw[(cl_y (c:=⟨ms,lu,lw,ak,aq,an,apt⟩) (t:=(sx,wt,lg,to)) (by assumption) (by assumption)),runT_none (by first | exact step_no1 (c:=⟨ms,lu,lw,ak,aq,an,apt⟩) (t:=(sx,wt,lg,to)) (by assumption) | exact step_no2 (c:=⟨ms,lu,lw,ak,aq,an,apt⟩) (t:=(sx,wt,lg,to)) (by assumption))]; done)
    have e66:=pj11 e65
    have e67:=pj121 e65
    have e68:=congrArg List.length e67
    have e69:=pj1221 e65
    have e70:=congrArg List.length e69
    have e71:=pj1222 e65
    have e72:=pj2 e65
    exact⟨Aw13,cw13,Al13,cl13,(tup2 (aggv (lc (congrArg (Value.int .i64) e66) (lc (slv r0 e68 r0) (lc (slv r0 e70 r0) (lc (congrArg (Str) e71) r0))))) (congrArg (Value.bool) e72)),((hs104.pk [0,1] r0).cast (lc (own_eq (g:=I) r0 e68 r0 e67) (lc (own_eqf (g:=gLogin) r0 e70 r0 e69) r0)))⟩

end Go.Proofs.YtjehmnojfpedjaaGreatDoor
