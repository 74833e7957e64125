/-
  Part of the proofs over this seat: what each function of the program computes, function by function (the text is written by a program of this hand-in's own).
  Conditions: each theorem states its own.
-/
import Derived.Test.YtjehmnojfpedjaaGreatDoorPfWalks3
namespace Go.Proofs.YtjehmnojfpedjaaGreatDoor
open Go.PF
set_option maxRecDepth 100000
set_option linter.unusedSimpArgs false
set_option linter.unusedVariables false

theorem iTalkValid (sx:Int) {Awt:Option Addr} {cwt:Nat} (wt:List Int) {Alg:Option Addr} {clg:Nat} (lg:List (List UInt8×List UInt8)) (to:List UInt8) (w:World) (hwt:Sl w [] 1 Awt wt.length cwt (wt.map I)) (hlg:Sl w [] 2 Alg lg.length clg (lg.flatMap gLogin)) (hlg_e: ∀ u∈lg,u.1.length≤9223372036854775807∧u.2.length≤9223372036854775807) (hto_n:to.length≤1099511627776) (hGp:VarP Tryz.prog w [] "internal/strconv.uint64pow10" isPow) (hEr:VarP Tryz.prog w [] "strconv.ErrRange" isIfc) (hEs:VarP Tryz.prog w [] "strconv.ErrSyntax" isIfc):Does Tryz.prog 31 [.agg #[I sx,.slice Awt wt.length cwt,.slice Alg lg.length clg,Str to]] w (fun v w'=>v=.bool (talkOk sx wt lg to)∧SH w w' [] []):=by
 refine fE (N:=51) Tryz.func31 r0 (by kernel_rfl) r0 ?_
 have hs0:=SH.refl w []
 have hwt_m:wt.length≤9223372036854775807:=Nat.le_trans hwt.cap hwt.capMax
 have hlg_m:lg.length≤9223372036854775807:=Nat.le_trans hlg.cap hlg.capMax
 refine sr (bx (v:=.agg #[I sx,(Z10 Awt wt cwt),(Z23 Alg lg clg),Str to]) (cs:=(Z2 sx Awt wt cwt Alg lg clg to)) hs0 r0 r0 trivial r0 (fun b1 w1 hs1=>?_))
 refine tA (.bool false) r0 (nn (sq (sr (qt r0 (fa 0 fo29_0 r0) (qt r0 (lD (I sx) hs1 0 r0 one3) ?_)))))
 refine cL r0 (iWithin (x:=sx) (lo:=0) (hi:=4) (w:=_)) ?_
 rintro _ w2 ⟨rfl,hs2⟩
 replace hs2:=hs1.call0 hs2
 refine qt r0 (nd (p:=0≤sx∧sx≤4) r0) (tm (.bool (decide (¬ (0≤sx∧sx≤4)))) r0 ?_)
 refine spd (p:=¬ (0≤sx∧sx≤4)) 9 r0 (fun h1=>?_) (fun h1=>?_)
 ·refine gt5 r0 (gt5 r0 (gt5 r0 (gt5 r0 (qt r0 (pt (v:=.bool true) r0 r0) (tm (.bool true) r0 (gt5 r0 (gt5 r0 ?_)))))))
  refine gt5 r0 (gt5 r0 (qt r0 (pt (v:=.bool true) r0 r0) (nn (cdt r0 (sr ?_)))))
  refine tA (.bool false) r0 (nn (rt (tR ?_)))
  refine fT (.bool false) r0 ?_
  have e1:false=talkOk sx wt lg to:=by exact talk_no1 ‹_›
  exact⟨(congrArg (Value.bool) e1),(hs2.pk [] r0)⟩
 ·refine q ⟨_,rfl,rfl⟩ r0 r0 (fa 1 fo29_1 r0) (q ⟨_,rfl,rfl⟩ r0 r0 (lD (Z13 Awt wt cwt) hs2 0 r0 one22) (cl ⟨_,rfl,rfl⟩ r0 (iAreMethods (Ams:=Awt) (cms:=cwt) (ms:=wt) (w:=_) (hms:=(hwt.up0 hs2))) ?_))
  rintro _ w3 ⟨rfl,hs3⟩
  replace hs3:=hs2.call0 hs3
  refine q ⟨_,rfl,rfl⟩ r0 r0 (nt (b:=methOk wt) r0) (qt r0 (pf (v:=.bool (!(methOk wt))) r0 r0) (tm (.bool (!(methOk wt))) r0 ?_))
  refine spl (b:=!(methOk wt)) 15 r0 (fun h2=>?_) (fun h2=>?_)
  ·have h3:(methOk wt)=false:=by simpa using h2
   refine gt5 r0 (gt5 r0 (gt5 r0 (gt5 r0 (qt r0 (pt (v:=.bool true) r0 r0) (nn (cdt r0 ?_))))))
   refine sr (tA (.bool false) r0 (nn (rt (tR ?_))))
   refine fT (.bool false) r0 ?_
   have e2:false=talkOk sx wt lg to:=by exact talk_no2 ‹_›
   exact⟨(congrArg (Value.bool) e2),(hs3.pk [] r0)⟩
  ·have h4:(methOk wt)=true:=by simpa using h2
   refine q ⟨_,rfl,rfl⟩ r0 r0 (fa 2 fo29_2 r0) (q ⟨_,rfl,rfl⟩ r0 r0 (lD (.slice Alg lg.length clg) hs3 0 r0 one27) (q ⟨_,rfl,rfl⟩ r0 r0 (lnA (n:=lg.length) sl27 r0) (q ⟨_,rfl,rfl⟩ r0 r0 (gtr (k:=.i64) (a:=(lg.length:Int)) (b:=4) r0 r0) (qt r0 (pf (v:=.bool (decide ((4:Int)<(lg.length:Int)))) r0 r0) (nn ?_)))))
   refine cdd (p:=(4:Int)<(lg.length:Int)) r0 (fun h5=>?_) (fun h5=>?_)
   ·refine sr (tA (.bool false) r0 (nn (rt (tR ?_))))
    refine fT (.bool false) r0 ?_
    have e3:false=talkOk sx wt lg to:=by exact talk_no3 ‹_›
    exact⟨(congrArg (Value.bool) e3),(hs3.pk [] r0)⟩
   ·refine sk (nN (sq (sr (qt r0 (fa 1 fo29_1 r0) (qt r0 (lD (Z13 Awt wt cwt) hs3 0 r0 one22) (cL r0 (slContainsFunc (p:=(fun m=>(decide (m≠0∧m≠2)))) (Azs:=Awt) (czs:=cwt) (zs:=wt) (kf:=76) (w:=_) (hzs:=(hwt.up0 hs3)) (hf:=(fun x w=>iTV1 x w))) ?_))))))
    rintro _ w4 ⟨rfl,hs4⟩
    replace hs4:=hs3.call0 hs4
    refine tm (.bool (wt.any (fun m=>(decide (m≠0∧m≠2))))) r0 ?_
    refine spl (b:=wt.any (fun m=>(decide (m≠0∧m≠2)))) 24 r0 (fun h6=>?_) (fun h6=>?_)
    ·refine gt5 r0 (gt5 r0 (gt5 r0 (qt r0 (pt (v:=.bool true) r0 r0) (nn (cdt r0 (sq ?_))))))
     refine rg (tA (.bool false) r0 (nn (rt (tR ?_))))
     refine fT (.bool false) r0 ?_
     have e4:false=talkOk sx wt lg to:=by exact talk_no4 ‹_›
     exact⟨(congrArg (Value.bool) e4),(hs4.pk [] r0)⟩
    ·refine q ⟨_,rfl,rfl⟩ r0 r0 (fa 2 fo29_2 r0) (q ⟨_,rfl,rfl⟩ r0 r0 (lD (.slice Alg lg.length clg) hs4 0 r0 one27) (cl ⟨_,rfl,rfl⟩ r0 (slContainsFuncL (p:=(fun x=>(!loginOk x.1 x.2))) (Azs:=Alg) (czs:=clg) (zs:=lg) (kf:=78) (w:=_) (hzs:=(hlg.up0 hs4)) (hzs_e:=hlg_e) (hf:=(fun x w hx=>iTV2 (lu:=x.1) (lw:=x.2) w hx.1 hx.2))) ?_))
     rintro _ w5 ⟨rfl,hs5⟩
     replace hs5:=hs4.call0 hs5
     refine qt r0 (pf (v:=.bool (lg.any (fun x=>(!loginOk x.1 x.2)))) r0 r0) (nn ?_)
     refine cd (b:=lg.any (fun x=>(!loginOk x.1 x.2))) r0 (fun h7=>?_) (fun h7=>?_)
     ·refine sr (tA (.bool false) r0 (nn (rt (tR ?_))))
      refine fT (.bool false) r0 ?_
      have e5:false=talkOk sx wt lg to:=by exact talk_no5 ‹_›
      exact⟨(congrArg (Value.bool) e5),(hs5.pk [] r0)⟩
     ·refine sk (nN (sq (sr (qt r0 (fa 0 fo29_0 r0) (qt r0 (lD (I sx) hs5 0 r0 one3) (qt r0 (eqi (k:=.i64) (a:=sx) (b:=1) r0 r0) ?_))))))
      refine tm (.bool (decide (sx=1))) r0 ?_
      refine spd (p:=sx=1) 32 r0 (fun h8=>?_) (fun h8=>?_)
      ·refine q ⟨_,rfl,rfl⟩ r0 r0 (fa 1 fo29_1 r0) (q ⟨_,rfl,rfl⟩ r0 r0 (lD (Z13 Awt wt cwt) hs5 0 r0 one22) (cl ⟨_,rfl,rfl⟩ r0 (slContains (Azs:=Awt) (czs:=cwt) (zs:=wt) (n:=2) (w:=_) (hzs:=(hwt.up0 hs5))) ?_))
       rintro _ w6 ⟨rfl,hs6⟩
       replace hs6:=hs5.call0 hs6
       refine q ⟨_,rfl,rfl⟩ r0 r0 (nd (p:=2∈wt) r0) (qt r0 (pt (v:=.bool (decide (¬ (2∈wt)))) r0 r0) (nn ?_))
       refine cdd (p:=¬ (2∈wt)) r0 (fun h9=>?_) (fun h9=>?_)
       ·refine sr (tA (.bool false) r0 (nn (rt (tR ?_))))
        refine fT (.bool false) r0 ?_
        have e6:false=talkOk sx wt lg to:=by exact talk_no6 ‹_› ‹_›
        exact⟨(congrArg (Value.bool) e6),(hs6.pk [] r0)⟩
       ·refine sk (nN (sq (sr (qt r0 (fa 0 fo29_0 r0) (qt r0 (lD (I sx) hs6 0 r0 one3) (qt r0 (eqi (k:=.i64) (a:=sx) (b:=3) r0 r0) ?_))))))
        refine nn ?_
        refine cdd (p:=sx=3) r0 (fun h10=>?_) (fun h10=>?_)
        ·refine sr (qt r0 (fa 3 fo29_3 r0) (qt r0 (lD (Str to) hs6 0 r0 one9) (cL r0 (iAddressFrom (s:=to) (w:=_) (hs_n:=(by omega)) (hGp:=(hGp.up0 hs6)) (hEr:=(hEr.up0 hs6)) (hEs:=(hEs.up0 hs6))) ?_)))
         rintro _ w7 ⟨Aq1,cq1,rfl,hs7⟩
         replace hs7:=hs6.call0 hs7
         refine tm (.tuple #[.agg #[I ((addrFrom to).1.1),.slice Aq1 (((addrFrom to).1.2.1).length) cq1,Str ((addrFrom to).1.2.2.1),I ((addrFrom to).1.2.2.2)],.bool ((addrFrom to).2)]) r0 (qt r0 (xt 0 (v:=.agg #[I ((addrFrom to).1.1),.slice Aq1 (((addrFrom to).1.2.1).length) cq1,Str ((addrFrom to).1.2.2.1),I ((addrFrom to).1.2.2.2)]) r0 r0) (qt r0 (xt 1 (v:=.bool ((addrFrom to).2)) r0 r0) (al (v:=.agg #[I 0,ns,Str [],I 0]) (cs:=[I 0,ns,Str [],I 0]) hs7 tz43 r0 trivial r0 (fun b2 w8 hs8=>?_))))
         refine sG [I ((addrFrom to).1.1),.slice Aq1 (((addrFrom to).1.2.1).length) cq1,Str ((addrFrom to).1.2.2.1),I ((addrFrom to).1.2.2.2)] hs8 2 r0 ag43 (fun w9 hs9=>?_)
         refine tA (.bool ((addrFrom to).2)) r0 (nx (tm (.bool ((addrFrom to).2)) r0 (tA (.bool ((addrFrom to).2)) r0 (nl ?_))))
         refine nN (rt (tR ?_))
         refine fT (.bool ((addrFrom to).2)) r0 ?_
         have e7:((addrFrom to).2)=talkOk sx wt lg to:=by exact talk_y3 (by first | assumption | exact Decidable.not_not.1 ‹_›) ‹_› ‹_› ‹_› ‹_› (by intro q; first | exact absurd q ‹_› | exact Decidable.not_not.1 ‹_›) ‹_›
         exact⟨(congrArg (Value.bool) e7),(hs9.pk [] r0)⟩
        ·refine sk (nN (sr (qt r0 (fa 3 fo29_3 r0) (qt r0 (lD (Str to) hs6 0 r0 one9) (qt r0 (eqs (l:=to) (m:=[]) r0 r0) (tA (.bool (decide (to=[]))) r0 ?_))))))
         refine nn (rt (fT (.bool (decide (to=[]))) r0 ?_))
         have e8:(decide (to=[]))=talkOk sx wt lg to:=by exact talk_yn (by first | assumption | exact Decidable.not_not.1 ‹_›) ‹_› ‹_› ‹_› ‹_› (by intro q; first | exact absurd q ‹_› | exact Decidable.not_not.1 ‹_›) ‹_›
         exact⟨(congrArg (Value.bool) e8),(hs6.pk [] r0)⟩
      ·refine gf5 r0 (gf5 r0 (gf5 r0 (gf5 r0 (qt r0 (pf (v:=.bool false) r0 r0) (nn (cdf r0 ?_))))))
       refine sk (nN (sq (sr (qt r0 (fa 0 fo29_0 r0) (qt r0 (lD (I sx) hs5 0 r0 one3) (qt r0 (eqi (k:=.i64) (a:=sx) (b:=3) r0 r0) ?_))))))
       refine nn ?_
       refine cdd (p:=sx=3) r0 (fun h11=>?_) (fun h11=>?_)
       ·refine sr (qt r0 (fa 3 fo29_3 r0) (qt r0 (lD (Str to) hs5 0 r0 one9) (cL r0 (iAddressFrom (s:=to) (w:=_) (hs_n:=(by omega)) (hGp:=(hGp.up0 hs5)) (hEr:=(hEr.up0 hs5)) (hEs:=(hEs.up0 hs5))) ?_)))
        rintro _ w10 ⟨Aq2,cq2,rfl,hs10⟩
        replace hs10:=hs5.call0 hs10
        refine tm (.tuple #[.agg #[I ((addrFrom to).1.1),.slice Aq2 (((addrFrom to).1.2.1).length) cq2,Str ((addrFrom to).1.2.2.1),I ((addrFrom to).1.2.2.2)],.bool ((addrFrom to).2)]) r0 (qt r0 (xt 0 (v:=.agg #[I ((addrFrom to).1.1),.slice Aq2 (((addrFrom to).1.2.1).length) cq2,Str ((addrFrom to).1.2.2.1),I ((addrFrom to).1.2.2.2)]) r0 r0) (qt r0 (xt 1 (v:=.bool ((addrFrom to).2)) r0 r0) (al (v:=.agg #[I 0,ns,Str [],I 0]) (cs:=[I 0,ns,Str [],I 0]) hs10 tz43 r0 trivial r0 (fun b3 w11 hs11=>?_))))
        refine sG [I ((addrFrom to).1.1),.slice Aq2 (((addrFrom to).1.2.1).length) cq2,Str ((addrFrom to).1.2.2.1),I ((addrFrom to).1.2.2.2)] hs11 2 r0 ag43 (fun w12 hs12=>?_)
        refine tA (.bool ((addrFrom to).2)) r0 (nx (tm (.bool ((addrFrom to).2)) r0 (tA (.bool ((addrFrom to).2)) r0 (nl ?_))))
        refine nN (rt (tR ?_))
        refine fT (.bool ((addrFrom to).2)) r0 ?_
        have e9:((addrFrom to).2)=talkOk sx wt lg to:=by exact talk_y3 (by first | assumption | exact Decidable.not_not.1 ‹_›) ‹_› ‹_› ‹_› ‹_› (by intro q; first | exact absurd q ‹_› | exact Decidable.not_not.1 ‹_›) ‹_›
        exact⟨(congrArg (Value.bool) e9),(hs12.pk [] r0)⟩
       ·refine sk (nN (sr (qt r0 (fa 3 fo29_3 r0) (qt r0 (lD (Str to) hs5 0 r0 one9) (qt r0 (eqs (l:=to) (m:=[]) r0 r0) (tA (.bool (decide (to=[]))) r0 ?_))))))
        refine nn (rt (fT (.bool (decide (to=[]))) r0 ?_))
        have e10:(decide (to=[]))=talkOk sx wt lg to:=by exact talk_yn (by first | assumption | exact Decidable.not_not.1 ‹_›) ‹_› ‹_› ‹_› ‹_› (by intro q; first | exact absurd q ‹_› | exact Decidable.not_not.1 ‹_›) ‹_›
        exact⟨(congrArg (Value.bool) e10),(hs5.pk [] r0)⟩
theorem sL23Ok {Awt:Option Addr} {cwt:Nat} (wt:List Int) {Alg:Option Addr} {clg:Nat} (lg:List (List UInt8×List UInt8)) (w:World) (hwt:Sl w [] 1 Awt wt.length cwt (wt.map I)) (hlg:Sl w [] 2 Alg lg.length clg (lg.flatMap gLogin)) (hlg_e: ∀ u∈lg,u.1.length≤9223372036854775807∧u.2.length≤9223372036854775807):Does Tryz.prog 91 [.slice Awt wt.length cwt,.slice Alg lg.length clg] w (fun v w'=>v=.bool (wlOk wt lg)∧SH w w' [] []):=by
 refine fE (N:=44) Tryz.func91 r0 (by kernel_rfl) r0 ?_
 have hs0:=SH.refl w []
 have hwt_m:wt.length≤9223372036854775807:=Nat.le_trans hwt.cap hwt.capMax
 have hlg_m:lg.length≤9223372036854775807:=Nat.le_trans hlg.cap hlg.capMax
 refine sr (tA (.bool false) r0 (nn (sq (sr ?_))))
 refine tA (I 0) r0 (nn (bl (lp (σ:=Nat) (fun(j:Nat) f w'=>Hz f [(0,.slice Awt wt.length cwt),(1,.slice Alg lg.length clg),(5,I (j:Int))]∧(j≤wt.length)∧((wt.take j).all (fun m=>decide (m=0∨m=2))=true)∧SH w w' [] []) (fun j=>wt.length-j) 0 ⟨(zR r0),(by simp),(by simp),hs0⟩ ?_)))
 rintro j f w1 ⟨⟨g1,rfl⟩,hj,ha,hs1⟩
 refine sq (sr (tm (I (j:Int)) r0 (tm (Z13 Awt wt cwt) r0 (qt r0 (lnA (n:=wt.length) sl22 r0) (qt r0 (lss (k:=.i64) (a:=(j:Int)) (b:=(wt.length:Int)) r0 r0) (nl ?_))))))
 refine nN ?_
 refine cdd (p:=(j:Int)<(wt.length:Int)) r0 (fun h1=>?_) (fun h1=>?_)
 ·refine sk (nN (sq (bl (sr (tm (Z13 Awt wt cwt) r0 (tm (I (j:Int)) r0 ?_))))))
  refine ixw1 j sl22 r0 r0 hwt (by(omega)) (getm I 0 (by(omega))) trivial r0 (fun a1 ha1=>?_)
  refine qt r0 (lda (v:=I (wt.getD j 0)) hs1 ha1 (fun _ h=>h) r0 r0 one3) (qt r0 (nei (k:=.i64) (a:=wt.getD j 0) (b:=0) r0 r0) (tm (.bool (decide ((wt.getD j 0)≠0))) r0 ?_))
  refine spd (p:=(wt.getD j 0)≠0) 18 r0 (fun h2=>?_) (fun h2=>?_)
  ·refine q ⟨_,rfl,rfl⟩ r0 r0 (mv (v:=.slice Awt wt.length cwt) r0) (q ⟨_,rfl,rfl⟩ r0 r0 (mv (v:=I (j:Int)) r0) (ixw1 j sl22 r0 r0 hwt (by(omega)) (getm I 0 (by(omega))) ⟨_,rfl,rfl⟩ r0 (fun a2 ha2=>?_)))
   refine q ⟨_,rfl,rfl⟩ r0 r0 (lda (v:=I (wt.getD j 0)) hs1 ha2 (fun _ h=>h) r0 r0 one3) (q ⟨_,rfl,rfl⟩ r0 r0 (nei (k:=.i64) (a:=wt.getD j 0) (b:=2) r0 r0) (qt r0 (pt (v:=.bool (decide ((wt.getD j 0)≠2))) r0 r0) (nn ?_)))
   refine cdd (p:=(wt.getD j 0)≠2) r0 (fun h3=>?_) (fun h3=>?_)
   ·refine sr (tA (.bool false) r0 (nn ?_))
    refine rt (bR (tR (tR (bR (tR ?_)))))
    refine fT (.bool false) r0 ?_
    have e1:false=wlOk wt lg:=by exact wl_bad1 (k:=j) (by omega) ⟨by assumption,by assumption⟩
    exact⟨(congrArg (Value.bool) e1),hs1⟩
   ·refine sk (bN (nN (rg (tm (I (j:Int)) r0 (qt r0 (add (a:=(j:Int)) (b:=1) r0 r0 (by(exact⟨by omega,by omega⟩))) (tA (I ((j:Int)+1)) r0 (nl ?_)))))))
    refine nN ?_
    refine⟨(j+1),⟨(zR r0),(by omega),(all_step (d:=0) (by omega) ha (by simp only[decide_eq_true_eq]; omega)),hs1⟩,?_⟩
    omega
  ·refine gf5 r0 (gf5 r0 (gf5 r0 (gf5 r0 (gf5 r0 (qt r0 (pf (v:=.bool false) r0 r0) (nn ?_))))))
   refine cdf r0 (sk (bN (nN (rg (tm (I (j:Int)) r0 (qt r0 (add (a:=(j:Int)) (b:=1) r0 r0 (by(exact⟨by omega,by omega⟩))) (tA (I ((j:Int)+1)) r0 ?_)))))))
   refine nn ?_
   refine⟨(j+1),⟨(zR r0),(by omega),(all_step (d:=0) (by omega) ha (by simp only[decide_eq_true_eq]; omega)),hs1⟩,?_⟩
   omega
 ·refine ex (tE (tE (bE ?_)))
  refine nN (sq (sr (tA (I 0) r0 (nn (bl ?_)))))
  refine lp (σ:=Nat) (fun(k:Nat) f w'=>Hz f [(0,.slice Awt wt.length cwt),(1,.slice Alg lg.length clg),(6,I (k:Int))]∧(k≤lg.length)∧((lg.take k).all lgOk=true)∧SH w w' [] []) (fun k=>lg.length-k) 0 ⟨(zR r0),(by simp),(by simp),hs1⟩ ?_
  rintro k f w2 ⟨⟨g2,rfl⟩,hk,hb,hs2⟩
  refine sq (sr (tm (I (k:Int)) r0 (tm (.slice Alg lg.length clg) r0 (qt r0 (lnA (n:=lg.length) sl27 r0) (qt r0 (lss (k:=.i64) (a:=(k:Int)) (b:=(lg.length:Int)) r0 r0) (nl ?_))))))
  refine nN ?_
  refine cdd (p:=(k:Int)<(lg.length:Int)) r0 (fun h4=>?_) (fun h4=>?_)
  ·refine sk (nN (sq (bl (sr (tm (.slice Alg lg.length clg) r0 (tm (I (k:Int)) r0 ?_))))))
   refine ixwf (g:=gLogin) (zs:=lg) (fun _=>rfl) login0 k sl27 r0 r0 hlg (by(omega)) (by(omega)) trivial r0 (fun a3 ha3=>?_)
   refine qt r0 (ldag (us:=[Str ((lg.getD k login0).1),Str ((lg.getD k login0).2)]) hs2 ha3 (fun _ h=>h) r0 r0 ag51) (cL r0 (sL11Ok (lu:=(lg.getD k login0).1) (lw:=(lg.getD k login0).2) (w:=_) (hlu_n:=(by(have hre:=hlg_e _ (getD_mem' (d:=login0) (show k<lg.length by omega)); omega))) (hlw_n:=(by(have hre:=hlg_e _ (getD_mem' (d:=login0) (show k<lg.length by omega)); omega)))) ?_)
   rintro _ w3 ⟨rfl,hs3⟩
   replace hs3:=hs2.call0 hs3
   refine qt r0 (nt (b:=loginOk ((lg.getD k login0).1) ((lg.getD k login0).2)) r0) (nn ?_)
   refine cd (b:=!(loginOk ((lg.getD k login0).1) ((lg.getD k login0).2))) r0 (fun h5=>?_) (fun h5=>?_)
   ·have h6:(loginOk ((lg.getD k login0).1) ((lg.getD k login0).2))=false:=by simpa using h5
    refine sr (tA (.bool false) r0 (nn ?_))
    refine rt (bR (tR (tR (bR (tR ?_)))))
    refine fT (.bool false) r0 ?_
    have e2:false=wlOk wt lg:=by exact wl_bad2 (k:=k) (by omega) ‹_›
    exact⟨(congrArg (Value.bool) e2),hs3⟩
   ·have h7:(loginOk ((lg.getD k login0).1) ((lg.getD k login0).2))=true:=by simpa using h5
    refine sk (bN (nN (rg (tm (I (k:Int)) r0 (qt r0 (add (a:=(k:Int)) (b:=1) r0 r0 (by(exact⟨by omega,by omega⟩))) (tA (I ((k:Int)+1)) r0 (nl ?_)))))))
    refine nN ?_
    refine⟨(k+1),⟨(zR r0),(by omega),(all_step (d:=login0) (by omega) hb ‹_›),hs3⟩,?_⟩
    omega
  ·refine ex (tE (tE (bE ?_)))
   refine nN (sr (tm (Z13 Awt wt cwt) r0 (cL r0 (sL5Ok (Ams:=Awt) (cms:=cwt) (ms:=wt) (w:=_) (hms:=(hwt.up0 hs2))) ?_)))
   rintro _ w4 ⟨rfl,hs4⟩
   replace hs4:=hs2.call0 hs4
   refine tm (.bool (methOk wt)) r0 ?_
   refine spl (b:=methOk wt) 39 r0 (fun h8=>?_) (fun h8=>?_)
   ·refine q ⟨_,rfl,rfl⟩ r0 r0 (mv (v:=.slice Alg lg.length clg) r0) (q ⟨_,rfl,rfl⟩ r0 r0 (lnA (n:=lg.length) sl27 r0) (q ⟨_,rfl,rfl⟩ r0 r0 (leq (k:=.i64) (a:=(lg.length:Int)) (b:=4) r0 r0) (qt r0 (pt (v:=.bool (decide ((lg.length:Int)≤4))) r0 r0) (tA (.bool (decide ((lg.length:Int)≤4))) r0 (nn (rt ?_))))))
    refine fT (.bool (decide ((lg.length:Int)≤4))) r0 ?_
    have e3:(decide ((lg.length:Int)≤4))=wlOk wt lg:=by(rw[← wl_end (j:=j) (k:=k) (by omega) (by omega) ha hb]; simp[h1,h4,h8]; try omega)
    exact⟨(congrArg (Value.bool) e3),hs4⟩
   ·refine gf5 r0 (gf5 r0 (gf5 r0 (qt r0 (pf (v:=.bool false) r0 r0) (tA (.bool false) r0 (nn (rt ?_))))))
    refine fT (.bool false) r0 ?_
    have e4:false=wlOk wt lg:=by(rw[← wl_end (j:=j) (k:=k) (by omega) (by omega) ha hb]; simp[h1,h4,h8]; try omega)
    exact⟨(congrArg (Value.bool) e4),hs4⟩
theorem sTalkValid (sx:Int) {Awt:Option Addr} {cwt:Nat} (wt:List Int) {Alg:Option Addr} {clg:Nat} (lg:List (List UInt8×List UInt8)) (to:List UInt8) (w:World) (hwt:Sl w [] 1 Awt wt.length cwt (wt.map I)) (hlg:Sl w [] 2 Alg lg.length clg (lg.flatMap gLogin)) (hlg_e: ∀ u∈lg,u.1.length≤9223372036854775807∧u.2.length≤9223372036854775807) (hto_n:to.length≤1099511627776):Does Tryz.prog 40 [.agg #[I sx,.slice Awt wt.length cwt,.slice Alg lg.length clg,Str to]] w (fun v w'=>v=.bool (talkOk sx wt lg to)∧SH w w' [] []):=by
 refine fE (N:=45) Tryz.func40 r0 (by kernel_rfl) r0 ?_
 have hs0:=SH.refl w []
 have hwt_m:wt.length≤9223372036854775807:=Nat.le_trans hwt.cap hwt.capMax
 have hlg_m:lg.length≤9223372036854775807:=Nat.le_trans hlg.cap hlg.capMax
 refine sr (bx (v:=.agg #[I sx,(Z10 Awt wt cwt),(Z23 Alg lg clg),Str to]) (cs:=(Z2 sx Awt wt cwt Alg lg clg to)) hs0 r0 r0 trivial r0 (fun b1 w1 hs1=>?_))
 refine tA (.bool false) r0 (nx (qt r0 (fa 3 fo29_3 r0) (qt r0 (lD (Str to) hs1 0 r0 one9) (cL r0 (sAddressFrom (s:=to) (w:=_) (hs_n:=(by omega))) ?_))))
 rintro _ w2 ⟨Aq1,cq1,rfl,hs2⟩
 replace hs2:=hs1.call0 hs2
 refine tm (.tuple #[.agg #[I ((addrFrom to).1.1),.slice Aq1 (((addrFrom to).1.2.1).length) cq1,Str ((addrFrom to).1.2.2.1),I ((addrFrom to).1.2.2.2)],.bool ((addrFrom to).2)]) r0 (qt r0 (xt 0 (v:=.agg #[I ((addrFrom to).1.1),.slice Aq1 (((addrFrom to).1.2.1).length) cq1,Str ((addrFrom to).1.2.2.1),I ((addrFrom to).1.2.2.2)]) r0 r0) (qt r0 (xt 1 (v:=.bool ((addrFrom to).2)) r0 r0) (al (v:=.agg #[I 0,ns,Str [],I 0]) (cs:=[I 0,ns,Str [],I 0]) hs2 tz43 r0 trivial r0 (fun b2 w3 hs3=>?_))))
 refine sG [I ((addrFrom to).1.1),.slice Aq1 (((addrFrom to).1.2.1).length) cq1,Str ((addrFrom to).1.2.2.1),I ((addrFrom to).1.2.2.2)] hs3 2 r0 ag43 (fun w4 hs4=>?_)
 refine tA (.bool ((addrFrom to).2)) r0 (nn (sq (sr (qt r0 (fa 1 fo29_1 r0) (qt r0 (lD (Z13 Awt wt cwt) hs4 0 r0 one22) ?_)))))
 refine qt r0 (fa 2 fo29_2 r0) (qt r0 (lD (.slice Alg lg.length clg) hs4 0 r0 one27) (cL r0 (sL23Ok (Awt:=Awt) (cwt:=cwt) (wt:=wt) (Alg:=Alg) (clg:=clg) (lg:=lg) (w:=_) (hwt:=(hwt.up0 hs4)) (hlg:=(hlg.up0 hs4)) (hlg_e:=hlg_e)) ?_))
 rintro _ w5 ⟨rfl,hs5⟩
 replace hs5:=hs4.call0 hs5
 refine qt r0 (nt (b:=wlOk wt lg) r0) (tm (.bool (!(wlOk wt lg))) r0 ?_)
 refine spl (b:=!(wlOk wt lg)) 17 r0 (fun h1=>?_) (fun h1=>?_)
 ·have h2:(wlOk wt lg)=false:=by simpa using h1
  refine gt5 r0 (gt5 r0 (gt5 r0 (gt5 r0 (qt r0 (pt (v:=.bool true) r0 r0) (nn (cdt r0 ?_))))))
  refine sr (tA (.bool false) r0 (nn (rt (tR ?_))))
  refine fT (.bool false) r0 ?_
  have e1:false=talkOk sx wt lg to:=by exact ts_no1 ‹_›
  exact⟨(congrArg (Value.bool) e1),(hs5.pk [] r0)⟩
 ·have h3:(wlOk wt lg)=true:=by simpa using h1
  refine q ⟨_,rfl,rfl⟩ r0 r0 (fa 0 fo29_0 r0) (q ⟨_,rfl,rfl⟩ r0 r0 (lD (I sx) hs5 0 r0 one3) (cl ⟨_,rfl,rfl⟩ r0 (sIn (x:=sx) (lo:=0) (hi:=4) (w:=_)) ?_))
  rintro _ w6 ⟨rfl,hs6⟩
  replace hs6:=hs5.call0 hs6
  refine q ⟨_,rfl,rfl⟩ r0 r0 (nd (p:=0≤sx∧sx≤4) r0) (qt r0 (pf (v:=.bool (decide (¬ (0≤sx∧sx≤4)))) r0 r0) (nn ?_))
  refine cdd (p:=¬ (0≤sx∧sx≤4)) r0 (fun h4=>?_) (fun h4=>?_)
  ·refine sr (tA (.bool false) r0 (nn (rt (tR ?_))))
   refine fT (.bool false) r0 ?_
   have e2:false=talkOk sx wt lg to:=by exact talk_no1 ‹_›
   exact⟨(congrArg (Value.bool) e2),(hs6.pk [] r0)⟩
  ·refine sk (nN (sq (sr (qt r0 (fa 0 fo29_0 r0) (qt r0 (lD (I sx) hs6 0 r0 one3) (qt r0 (eqi (k:=.i64) (a:=sx) (b:=1) r0 r0) ?_))))))
   refine tm (.bool (decide (sx=1))) r0 ?_
   refine spd (p:=sx=1) 26 r0 (fun h5=>?_) (fun h5=>?_)
   ·refine q ⟨_,rfl,rfl⟩ r0 r0 (fa 1 fo29_1 r0) (q ⟨_,rfl,rfl⟩ r0 r0 (lD (Z13 Awt wt cwt) hs6 0 r0 one22) (cl ⟨_,rfl,rfl⟩ r0 (l5Has (Azs:=Awt) (czs:=cwt) (zs:=wt) (n:=2) (w:=_) (hzs:=(hwt.up0 hs6))) ?_))
    rintro _ w7 ⟨rfl,hs7⟩
    replace hs7:=hs6.call0 hs7
    refine q ⟨_,rfl,rfl⟩ r0 r0 (nd (p:=2∈wt) r0) (qt r0 (pt (v:=.bool (decide (¬ (2∈wt)))) r0 r0) (nn ?_))
    refine cdd (p:=¬ (2∈wt)) r0 (fun h6=>?_) (fun h6=>?_)
    ·refine sr (tA (.bool false) r0 (nn (rt (tR ?_))))
     refine fT (.bool false) r0 ?_
     have e3:false=talkOk sx wt lg to:=by exact talk_no6 ‹_› ‹_›
     exact⟨(congrArg (Value.bool) e3),(hs7.pk [] r0)⟩
    ·refine sk (nN (sr (qt r0 (fa 0 fo29_0 r0) (qt r0 (lD (I sx) hs7 0 r0 one3) (qt r0 (eqi (k:=.i64) (a:=sx) (b:=3) r0 r0) (tm (.bool ((addrFrom to).2)) r0 ?_))))))
     refine qt r0 (eqb (a:=(decide (sx=3))) (b:=((addrFrom to).2)) tb4 r0 r0) (tm (.bool (decide ((decide (sx=3))=((addrFrom to).2)))) r0 ?_)
     refine spd (p:=(decide (sx=3))=((addrFrom to).2)) 37 r0 (fun h7=>?_) (fun h7=>?_)
     ·refine q ⟨_,rfl,rfl⟩ r0 r0 (mv (v:=.bool ((addrFrom to).2)) r0) (q ⟨_,rfl,rfl⟩ r0 r0 (mv (v:=.bool ((addrFrom to).2)) r0) ?_)
      refine spl (b:=(addrFrom to).2) 39 r0 (fun h8=>?_) (fun h8=>?_)
      ·refine gt5 r0 (gt5 r0 (gt5 r0 (q ⟨_,rfl,rfl⟩ r0 r0 (pt (v:=.bool true) r0 r0) (qt r0 (pt (v:=.bool true) r0 r0) (tA (.bool true) r0 (nn ?_))))))
       refine rt (fT (.bool true) r0 ?_)
       have e4:true=talkOk sx wt lg to:=by exact ts_y1 ‹_› (by first | assumption | exact Decidable.not_not.1 ‹_›) (by intro q; first | exact absurd q ‹_› | exact Decidable.not_not.1 ‹_›) ‹_› ‹_›
       exact⟨(congrArg (Value.bool) e4),(hs7.pk [] r0)⟩
      ·refine q ⟨_,rfl,rfl⟩ r0 r0 (fa 3 fo29_3 r0) (q ⟨_,rfl,rfl⟩ r0 r0 (lD (Str to) hs7 0 r0 one9) (q ⟨_,rfl,rfl⟩ r0 r0 (eqs (l:=to) (m:=[]) r0 r0) (q ⟨_,rfl,rfl⟩ r0 r0 (pf (v:=.bool (decide (to=[]))) r0 r0) (qt r0 (pt (v:=.bool (decide (to=[]))) r0 r0) (tA (.bool (decide (to=[]))) r0 (nn ?_))))))
       refine rt (fT (.bool (decide (to=[]))) r0 ?_)
       have e5:(decide (to=[]))=talkOk sx wt lg to:=by exact ts_y2 ‹_› (by first | assumption | exact Decidable.not_not.1 ‹_›) (by intro q; first | exact absurd q ‹_› | exact Decidable.not_not.1 ‹_›) ‹_› ‹_›
       exact⟨(congrArg (Value.bool) e5),(hs7.pk [] r0)⟩
     ·refine gf5 r0 (gf5 r0 (gku r0 r0 r0 r0 r0 (gku r0 r0 r0 r0 r0 (gku r0 r0 r0 r0 r0 (gf5 r0 (qt r0 (pf (v:=.bool false) r0 r0) (tA (.bool false) r0 ?_)))))))
      refine nn (rt (fT (.bool false) r0 ?_))
      have e6:false=talkOk sx wt lg to:=by exact ts_no7 ‹_›
      exact⟨(congrArg (Value.bool) e6),(hs7.pk [] r0)⟩
   ·refine gf5 r0 (gf5 r0 (gf5 r0 (gf5 r0 (qt r0 (pf (v:=.bool false) r0 r0) (nn (cdf r0 ?_))))))
    refine sk (nN (sr (qt r0 (fa 0 fo29_0 r0) (qt r0 (lD (I sx) hs6 0 r0 one3) (qt r0 (eqi (k:=.i64) (a:=sx) (b:=3) r0 r0) (tm (.bool ((addrFrom to).2)) r0 ?_))))))
    refine qt r0 (eqb (a:=(decide (sx=3))) (b:=((addrFrom to).2)) tb4 r0 r0) (tm (.bool (decide ((decide (sx=3))=((addrFrom to).2)))) r0 ?_)
    refine spd (p:=(decide (sx=3))=((addrFrom to).2)) 37 r0 (fun h9=>?_) (fun h9=>?_)
    ·refine q ⟨_,rfl,rfl⟩ r0 r0 (mv (v:=.bool ((addrFrom to).2)) r0) (q ⟨_,rfl,rfl⟩ r0 r0 (mv (v:=.bool ((addrFrom to).2)) r0) ?_)
     refine spl (b:=(addrFrom to).2) 39 r0 (fun h10=>?_) (fun h10=>?_)
     ·refine gt5 r0 (gt5 r0 (gt5 r0 (q ⟨_,rfl,rfl⟩ r0 r0 (pt (v:=.bool true) r0 r0) (qt r0 (pt (v:=.bool true) r0 r0) (tA (.bool true) r0 (nn ?_))))))
      refine rt (fT (.bool true) r0 ?_)
      have e7:true=talkOk sx wt lg to:=by exact ts_y1 ‹_› (by first | assumption | exact Decidable.not_not.1 ‹_›) (by intro q; first | exact absurd q ‹_› | exact Decidable.not_not.1 ‹_›) ‹_› ‹_›
      exact⟨(congrArg (Value.bool) e7),(hs6.pk [] r0)⟩
     ·refine q ⟨_,rfl,rfl⟩ r0 r0 (fa 3 fo29_3 r0) (q ⟨_,rfl,rfl⟩ r0 r0 (lD (Str to) hs6 0 r0 one9) (q ⟨_,rfl,rfl⟩ r0 r0 (eqs (l:=to) (m:=[]) r0 r0) (q ⟨_,rfl,rfl⟩ r0 r0 (pf (v:=.bool (decide (to=[]))) r0 r0) (qt r0 (pt (v:=.bool (decide (to=[]))) r0 r0) (tA (.bool (decide (to=[]))) r0 (nn ?_))))))
      refine rt (fT (.bool (decide (to=[]))) r0 ?_)
      have e8:(decide (to=[]))=talkOk sx wt lg to:=by exact ts_y2 ‹_› (by first | assumption | exact Decidable.not_not.1 ‹_›) (by intro q; first | exact absurd q ‹_› | exact Decidable.not_not.1 ‹_›) ‹_› ‹_›
      exact⟨(congrArg (Value.bool) e8),(hs6.pk [] r0)⟩
    ·refine gf5 r0 (gf5 r0 (gku r0 r0 r0 r0 r0 (gku r0 r0 r0 r0 r0 (gku r0 r0 r0 r0 r0 (gf5 r0 (qt r0 (pf (v:=.bool false) r0 r0) (tA (.bool false) r0 ?_)))))))
     refine nn (rt (fT (.bool false) r0 ?_))
     have e9:false=talkOk sx wt lg to:=by exact ts_no7 ‹_›
     exact⟨(congrArg (Value.bool) e9),(hs6.pk [] r0)⟩
theorem slCloneL {Axs:Option Addr} {cxs:Nat} (xs:List (List UInt8×List UInt8)) (w:World) (hxs:Sl w [] 2 Axs xs.length cxs (xs.flatMap gLogin)) (hxs_e: ∀ u∈xs,u.1.length≤9223372036854775807∧u.2.length≤9223372036854775807) (hxs_n:xs.length≤1099511627776):Does Tryz.prog 105 [.slice Axs xs.length cxs] w (fun v w'=>∃ Ar:Option Addr,∃ cr:Nat,v=.slice Ar xs.length cr∧SH w w' [] [.own Ar xs.length cr 51 2 (xs.flatMap gLogin)]):=by
 refine fE (N:=8) Tryz.func105 r0 (by kernel_rfl) r0 ?_
 have hs0:=SH.refl w []
 have hxs_m:xs.length≤9223372036854775807:=Nat.le_trans hxs.cap hxs.capMax
 refine sr (tA ns r0 (nn (sq (sr ?_))))
 refine tm (.slice Axs xs.length cxs) r0 (qt r0 (slnil (A:=Axs) sl27 r0 r0) (nn ?_))
 refine cdd (p:=Axs=none) r0 (fun h1=>?_) (fun h1=>?_)
 ·refine sr (tA ns r0 (nn (rt (tR ?_))))
  refine fT ns r0 ?_
  have hs1:=hs0.nl [.own none (([]:List (List UInt8×List UInt8)).length) 0 51 2 (([]:List (List UInt8×List UInt8)).flatMap gLogin)] r0
  have e1:([]:List (List UInt8×List UInt8))=xs:=by exact(sl_noneF hxs ‹_›).symm
  have e2:=congrArg List.length e1
  exact⟨none,0,(slv r0 e2 r0),(hs1.cast (lc (own_eqf (g:=gLogin) r0 e2 r0 e1) r0))⟩
 ·refine sk (nN (sr (bsk hs0 sl27 [] [] trivial r0 (fun b1 w1 hs2=>?_))))
  refine tm (.slice Axs xs.length cxs) r0 (apf (g:=gLogin) (ys:=([]:List (List UInt8×List UInt8))) (zs:=xs) hs2 0 r0 sl27 r0 (by decide) r0 r0 (hxs.up0 hs2) (fun _=>rfl) (by unfold maxLen; (simp; omega)) (by(simp; omega)) trivial r0 (fun A1 c1 w2 hs3=>?_))
  refine tA (.slice A1 xs.length c1) r0 (nn (rt (fT (.slice A1 xs.length c1) r0 ?_)))
  exact⟨A1,c1,rfl,hs3⟩
set_option maxHeartbeats 8000000 in
theorem iCloneTalk (sx:Int) {Awt:Option Addr} {cwt:Nat} (wt:List Int) {Alg:Option Addr} {clg:Nat} (lg:List (List UInt8×List UInt8)) (to:List UInt8) (w:World) (hwt:Sl w [] 1 Awt wt.length cwt (wt.map I)) (hwt_n:wt.length≤1099511627776) (hlg:Sl w [] 2 Alg lg.length clg (lg.flatMap gLogin)) (hlg_e: ∀ u∈lg,u.1.length≤9223372036854775807∧u.2.length≤9223372036854775807) (hlg_n:lg.length≤1099511627776):Does Tryz.prog 47 [.agg #[I sx,.slice Awt wt.length cwt,.slice Alg lg.length clg,Str to]] w (fun v w'=>∃ Awr:Option Addr,∃ cwr:Nat,∃ Alr:Option Addr,∃ clr:Nat,v=.agg #[.int .i64 sx,.slice Awr wt.length cwr,.slice Alr lg.length clr,Str to]∧SH w w' [] [.own Awr wt.length cwr 3 1 (wt.map I),.own Alr lg.length clr 51 2 (lg.flatMap gLogin)]):=by
 refine fE (N:=12) Tryz.func47 r0 (by kernel_rfl) r0 ?_
 have hs0:=SH.refl w []
 have hwt_m:wt.length≤9223372036854775807:=Nat.le_trans hwt.cap hwt.capMax
 have hlg_m:lg.length≤9223372036854775807:=Nat.le_trans hlg.cap hlg.capMax
 refine sr (bx (v:=.agg #[I sx,(Z10 Awt wt cwt),(Z23 Alg lg clg),Str to]) (cs:=(Z2 sx Awt wt cwt Alg lg clg to)) hs0 r0 r0 trivial r0 (fun b1 w1 hs1=>?_))
 refine al (v:=.agg #[I 0,ns,ns,Str []]) (cs:=[I 0,ns,ns,Str []]) hs1 tz29 r0 trivial r0 (fun b2 w2 hs2=>?_)
 refine nn (sq ?_)
 refine raJ (fun w'=>∃ L,SH w w' [] L∧(.blk b2 29 [I 0,ns,ns,Str []])∈L∧True) (fun f w'=>∃ (A2':Option Addr) (c2':Nat) (A5':Option Addr) (c5':Nat),Hz f [(1,pB b1),(2,pB b2)]∧SH w w' [] [.blk b1 29 (Z2 sx A2' wt c2' A5' lg c5' to),(Z11 b2),(Z7 A2' wt c2'),(Z9 A5' lg c5')]) mixed ?_ ?_
 ·refine dG 1 10 511 (fun f w'=>∃ (A2':Option Addr) (c2':Nat) (A5':Option Addr) (c5':Nat),Hz f [(1,pB b1),(2,pB b2),(8,.slice A5' lg.length c5'),(10,.pointer (some ⟨b1,2,none⟩))]∧SH w w' [] [.blk b1 29 (Z2 sx A2' wt c2' Alg lg clg to),(Z11 b2),(Z7 A2' wt c2'),(Z9 A5' lg c5')]) ?_ (fun D_1_0=>?_)
  ·rintro f w3 ⟨A2',c2',A5',c5',⟨g1,rfl⟩,hs3⟩
   refine aO 9 r0 (sT (.slice A5' lg.length c5') hs3 0 r0 one27 (fun w4 hs4=>?_))
   refine nk (m1 hs4 0 r0) ?_
   refine ad (by kernel_rfl) ?_
   exact⟨A2',c2',A5',c5',(zR r0),(hs4.pk [3,0,1,2] r0)⟩
  refine dG 3 10 127 (fun f w'=>∃ (A2':Option Addr) (c2':Nat) (A5':Option Addr) (c5':Nat),Hz f [(1,pB b1),(2,pB b2),(5,.slice A2' wt.length c2'),(8,.slice A5' lg.length c5'),(9,.pointer (some ⟨b1,1,none⟩))]∧SH w w' [] [.blk b1 29 (Z2 sx Awt wt cwt Alg lg clg to),(Z11 b2),(Z7 A2' wt c2'),(Z9 A5' lg c5')]) ?_ (fun D_1_1=>?_)
  ·rintro f w5 ⟨A2',c2',A5',c5',⟨g2,rfl⟩,hs5⟩
   refine aO 7 r0 (sT (Z13 A2' wt c2') hs5 0 r0 one22 (fun w6 hs6=>?_))
   refine nk (m1 hs6 0 r0) ?_
   refine tk (fuel:=1) (is:=[8]) (.cons r0 (.nil)) (by kernel_rfl) (by kernel_rfl) (m1 hs6 0 r0) (yA r0 (fa 2 fo29_2 r0) (.nil ?_))
   exact alc D_1_0 ⟨A2',c2',A5',c5',(zR r0),(hs6.pk [3,0,1,2] r0)⟩
  refine dG 4 10 95 (fun f w'=>∃ (A2':Option Addr) (c2':Nat),Hz f [(1,pB b1),(2,pB b2),(5,.slice A2' wt.length c2'),(7,.slice Alg lg.length clg),(9,.pointer (some ⟨b1,1,none⟩))]∧SH w w' [] [.blk b1 29 (Z2 sx Awt wt cwt Alg lg clg to),(Z11 b2),(Z7 A2' wt c2')]) ?_ (fun D_1_2=>?_)
  ·rintro f w7 ⟨A2',c2',⟨g3,rfl⟩,hs7⟩
   refine aO 5 r0 (cL r0 (slCloneL (Axs:=Alg) (cxs:=clg) (xs:=lg) (w:=_) (hxs:=(hlg.up0 hs7)) (hxs_e:=hlg_e) (hxs_n:=(by omega))) ?_)
   rintro _ w8 ⟨A5',c5',rfl,hs8⟩
   replace hs8:=hs7.call0 hs8
   exact nk (m1 hs8 1 r0) (alc D_1_1 ⟨A2',c2',A5',c5',(zR r0),hs8⟩)
  refine dG 6 10 15 (fun f w'=>∃ (A2':Option Addr) (c2':Nat),Hz f [(1,pB b1),(2,pB b2),(5,.slice A2' wt.length c2'),(6,.pointer (some ⟨b1,2,none⟩))]∧SH w w' [] [.blk b1 29 (Z2 sx Awt wt cwt Alg lg clg to),(Z11 b2),(Z7 A2' wt c2')]) ?_ (fun D_1_3=>?_)
  ·rintro f w9 ⟨A2',c2',⟨g4,rfl⟩,hs9⟩
   refine aO 4 r0 (qt r0 (lD (.slice Alg lg.length clg) hs9 0 r0 one27) (nk (m1 hs9 1 r0) ?_))
   refine tk (fuel:=4) (is:=[6]) (.cons r0 (.nil)) (by kernel_rfl) (by kernel_rfl) (m1 hs9 1 r0) (yA r0 (fa 1 fo29_1 r0) (.nil ?_))
   exact alc D_1_2 ⟨A2',c2',(zR r0),hs9⟩
  refine dG 6 10 27 (fun f w'=>Hz f [(1,pB b1),(2,pB b2),(4,.slice Awt wt.length cwt),(7,.slice Alg lg.length clg)]∧SH w w' [] [.blk b1 29 (Z2 sx Awt wt cwt Alg lg clg to),(Z11 b2)]) ?_ (fun D_1_4=>?_)
  ·rintro f w10 ⟨⟨g5,rfl⟩,hs10⟩
   refine aO 2 r0 (cL r0 (slClone (Axs:=Awt) (cxs:=cwt) (xs:=wt) (w:=_) (hxs:=(hwt.up0 hs10)) (hxs_n:=(by omega))) ?_)
   rintro _ w11 ⟨A2',c2',rfl,hs11⟩
   replace hs11:=hs10.call0 hs11
   refine nk (m1 hs11 1 r0) ?_
   refine tk (fuel:=4) (is:=[6]) (.cons r0 (.nil)) (by kernel_rfl) (by kernel_rfl) (m1 hs11 1 r0) (yA r0 (fa 1 fo29_1 r0) (.nil ?_))
   exact alc D_1_2 ⟨A2',c2',(zR r0),hs11⟩
  refine dG 7 10 11 (fun f w'=>Hz f [(1,pB b1),(2,pB b2),(4,.slice Awt wt.length cwt),(6,.pointer (some ⟨b1,2,none⟩))]∧SH w w' [] [.blk b1 29 (Z2 sx Awt wt cwt Alg lg clg to),(Z11 b2)]) ?_ (fun D_1_5=>?_)
  ·rintro f w12 ⟨⟨g6,rfl⟩,hs12⟩
   refine aaL [2,4] (fa_cons ?_ (fa_one ?_))
   ·refine one_ r0 (cL r0 (slClone (Axs:=Awt) (cxs:=cwt) (xs:=wt) (w:=_) (hxs:=(hwt.up0 hs12)) (hxs_n:=(by omega))) ?_)
    rintro _ w13 ⟨A2',c2',rfl,hs13⟩
    replace hs13:=hs12.call0 hs13
    exact nk (m1 hs13 1 r0) (alc D_1_3 ⟨A2',c2',(zR r0),hs13⟩)
   ·refine one_ r0 (qt r0 (lD (.slice Alg lg.length clg) hs12 0 r0 one27) ?_)
    exact nk (m1 hs12 1 r0) (alc D_1_4 ⟨(zR r0),hs12⟩)
  refine dG 7 10 25 (fun f w'=>Hz f [(1,pB b1),(2,pB b2),(3,.pointer (some ⟨b1,1,none⟩)),(7,.slice Alg lg.length clg)]∧SH w w' [] [.blk b1 29 (Z2 sx Awt wt cwt Alg lg clg to),(Z11 b2)]) ?_ (fun D_1_6=>?_)
  ·rintro f w14 ⟨⟨g7,rfl⟩,hs14⟩
   refine aO 1 r0 (qt r0 (lD (Z13 Awt wt cwt) hs14 0 r0 one22) ?_)
   exact nk (m1 hs14 1 r0) (alc D_1_4 ⟨(zR r0),hs14⟩)
  refine dG 8 10 9 (fun f w'=>Hz f [(1,pB b1),(2,pB b2),(3,.pointer (some ⟨b1,1,none⟩)),(6,.pointer (some ⟨b1,2,none⟩))]∧SH w w' [] [.blk b1 29 (Z2 sx Awt wt cwt Alg lg clg to),(Z11 b2)]) ?_ (fun D_1_7=>?_)
  ·rintro f w15 ⟨⟨g8,rfl⟩,hs15⟩
   refine aaL [1,4] (fa_cons ?_ (fa_one ?_))
   ·refine one_ r0 (qt r0 (lD (Z13 Awt wt cwt) hs15 0 r0 one22) ?_)
    exact nk (m1 hs15 1 r0) (alc D_1_5 ⟨(zR r0),hs15⟩)
   ·refine one_ r0 (qt r0 (lD (.slice Alg lg.length clg) hs15 0 r0 one27) ?_)
    exact nk (m1 hs15 1 r0) (alc D_1_6 ⟨(zR r0),hs15⟩)
  have hs16:=hs2.drew
  refine tk (fuel:=8) (is:=[0,3]) (.cons r0 (.cons r0 (.nil))) (by kernel_rfl) (by kernel_rfl) (m1 hs16 1 r0) (yA r0 (fa 1 fo29_1 r0) (yA r0 (fa 2 fo29_2 r0) (.nil ?_)))
  exact alc D_1_7 ⟨(zR r0),hs16⟩
 rintro f w16 ⟨A2',c2',A5',c5',⟨g9,rfl⟩,hs17⟩
 refine nN (sr (qt r0 (lG (Z2 sx A2' wt c2' A5' lg c5' to) hs17 0 r0 ag29) (sG (Z2 sx A2' wt c2' A5' lg c5' to) hs17 1 r0 ag29 (fun w17 hs18=>?_))))
 refine nn (rt (fret (v:=.agg #[I sx,(Z10 A2' wt c2'),(Z23 A5' lg c5'),Str to]) (resC hs18 3 r0 r0 ag29 r0 .nil) r0 ?_))
 exact⟨A2',c2',A5',c5',rfl,(hs18.pk [1,2] r0)⟩
theorem sTalkNew {Awt:Option Addr} {cwt:Nat} (wt:List Int) {Alg:Option Addr} {clg:Nat} (lg:List (List UInt8×List UInt8)) (w:World) (hwt:Sl w [] 1 Awt wt.length cwt (wt.map I)) (hwt_n:wt.length≤1099511627776) (hlg:Sl w [] 2 Alg lg.length clg (lg.flatMap gLogin)) (hlg_e: ∀ u∈lg,u.1.length≤9223372036854775807∧u.2.length≤9223372036854775807) (hlg_n:lg.length≤1099511627776):Does Tryz.prog 65 [.slice Awt wt.length cwt,.slice Alg lg.length clg] w (fun v w'=>∃ Awr:Option Addr,∃ cwr:Nat,∃ Alr:Option Addr,∃ clr:Nat,v=.tuple #[.agg #[.int .i64 ((talkNew wt lg).1.1),.slice Awr ((talkNew wt lg).1.2.1).length cwr,.slice Alr ((talkNew wt lg).1.2.2.1).length clr,Str ((talkNew wt lg).1.2.2.2)],.bool ((talkNew wt lg).2)]∧SH w w' [] [.own Awr (((talkNew wt lg).1.2.1).length) cwr 3 1 (((talkNew wt lg).1.2.1).map I),.own Alr (((talkNew wt lg).1.2.2.1).length) clr 51 2 (((talkNew wt lg).1.2.2.1).flatMap gLogin)]):=by
 refine fE (N:=18) Tryz.func65 r0 (by kernel_rfl) r0 ?_
 have hs0:=SH.refl w []
 have hwt_m:wt.length≤9223372036854775807:=Nat.le_trans hwt.cap hwt.capMax
 have hlg_m:lg.length≤9223372036854775807:=Nat.le_trans hlg.cap hlg.capMax
 refine sr (al (v:=.agg #[I 0,ns,ns,Str []]) (cs:=[I 0,ns,ns,Str []]) hs0 tz29 r0 trivial r0 (fun b1 w1 hs1=>?_))
 refine tA (.bool false) r0 (nn (sq (sr (tm (Z13 Awt wt cwt) r0 (tm (.slice Alg lg.length clg) r0 ?_)))))
 refine cL r0 (sL23Ok (Awt:=Awt) (cwt:=cwt) (wt:=wt) (Alg:=Alg) (clg:=clg) (lg:=lg) (w:=_) (hwt:=(hwt.up0 hs1)) (hlg:=(hlg.up0 hs1)) (hlg_e:=hlg_e)) ?_
 rintro _ w2 ⟨rfl,hs2⟩
 replace hs2:=hs1.call0 hs2
 refine qt r0 (nt (b:=wlOk wt lg) r0) (nn ?_)
 refine cd (b:=!(wlOk wt lg)) r0 (fun h1=>?_) (fun h1=>?_)
 ·have h2:(wlOk wt lg)=false:=by simpa using h1
  refine sr (qt r0 (bdv (v:=.agg #[I 0,ns,ns,Str []]) [] r0 (fun _=>by kernel_rfl)) (sG [I 0,ns,ns,Str []] hs2 0 r0 ag29 (fun w3 hs3=>?_)))
  refine tA (.bool false) r0 (nn (rt (tR ?_)))
  refine fret (v:=.tuple #[.agg #[I 0,ns,ns,Str []],.bool false]) (resC hs3 0 r0 r0 ag29 r0 (.tmp .nil)) r0 ?_
  have hs4:=hs3.nl [.own none (([]:List Int).length) 0 3 1 (([]:List Int).map I)] r0
  have hs5:=hs4.nl [.own none (([]:List (List UInt8×List UInt8)).length) 0 51 2 (([]:List (List UInt8×List UInt8)).flatMap gLogin)] r0
  have e1:talkNew wt lg=((0,([]:List Int),([]:List (List UInt8×List UInt8)),[]),false):=by simp[talkNew,h2]
  have e2:=pj11 e1
  have e3:=pj121 e1
  have e4:=congrArg List.length e3
  have e5:=pj1221 e1
  have e6:=congrArg List.length e5
  have e7:=pj1222 e1
  have e8:=pj2 e1
  exact⟨none,0,none,0,(tup2 (aggv (lc (congrArg (Value.int .i64) e2) (lc (slv r0 e4 r0) (lc (slv r0 e6 r0) (lc (congrArg (Str) e7) r0))))) (congrArg (Value.bool) e8)),((hs5.pq [1,2] r0).cast (lc (own_eq (g:=I) r0 e4 r0 e3) (lc (own_eqf (g:=gLogin) r0 e6 r0 e5) r0)))⟩
 ·have h3:(wlOk wt lg)=true:=by simpa using h1
  refine sk (nN (sr (bsk hs2 sl22 [] [] trivial r0 (fun b2 w4 hs6=>?_))))
  refine tm (Z13 Awt wt cwt) r0 (apm (g:=I) (ys:=([]:List Int)) (zs:=wt) hs6 1 r0 sl22 r0 r0 r0 (hwt.up0 hs6) (fun _=>rfl) (by unfold maxLen; (simp; omega)) (by(simp; omega)) trivial r0 (fun A1 c1 w5 hs7=>?_))
  refine bsk hs7 sl27 [] [] trivial r0 (fun b3 w6 hs8=>?_)
  refine tm (.slice Alg lg.length clg) r0 (apf (g:=gLogin) (ys:=([]:List (List UInt8×List UInt8))) (zs:=lg) hs8 2 r0 sl27 r0 (by decide) r0 r0 (hlg.up0 hs8) (fun _=>rfl) (by unfold maxLen; (simp; omega)) (by(simp; omega)) trivial r0 (fun A2 c2 w7 hs9=>?_))
  refine qt r0 (bdv (v:=.agg #[I 0,(Z10 A1 wt c1),(Z23 A2 lg c2),Str []]) [(1,.slice A1 wt.length c1),(2,.slice A2 lg.length c2)] r0 (fun _=>by kernel_rfl)) (sG [I 0,(Z10 A1 wt c1),(Z23 A2 lg c2),Str []] hs9 0 r0 ag29 (fun w8 hs10=>?_))
  refine tA (.bool true) r0 (nn (rt (fret (v:=.tuple #[.agg #[I 0,(Z10 A1 wt c1),(Z23 A2 lg c2),Str []],.bool true]) (resC hs10 2 r0 r0 ag29 r0 (.tmp .nil)) r0 ?_)))
  have e9:talkNew wt lg=((0,wt,lg,[]),true):=by simp[talkNew,h3]
  have e10:=pj11 e9
  have e11:=pj121 e9
  have e12:=congrArg List.length e11
  have e13:=pj1221 e9
  have e14:=congrArg List.length e13
  have e15:=pj1222 e9
  have e16:=pj2 e9
  exact⟨A1,c1,A2,c2,(tup2 (aggv (lc (congrArg (Value.int .i64) e10) (lc (slv r0 e12 r0) (lc (slv r0 e14 r0) (lc (congrArg (Str) e15) r0))))) (congrArg (Value.bool) e16)),((hs10.pq [0,1] r0).cast (lc (own_eq (g:=I) r0 e12 r0 e11) (lc (own_eqf (g:=gLogin) r0 e14 r0 e13) r0)))⟩
set_option maxHeartbeats 8000000 in
theorem sL23Next (sx:Int) {Awt:Option Addr} {cwt:Nat} (wt:List Int) {Alg:Option Addr} {clg:Nat} (lg:List (List UInt8×List UInt8)) (to:List UInt8) (nst:Int) (w:World) (hwt:Sl w [] 1 Awt wt.length cwt (wt.map I)) (hwt_n:wt.length≤1099511627776) (hlg:Sl w [] 2 Alg lg.length clg (lg.flatMap gLogin)) (hlg_e: ∀ u∈lg,u.1.length≤9223372036854775807∧u.2.length≤9223372036854775807) (hlg_n:lg.length≤1099511627776):Does Tryz.prog 69 [.agg #[I sx,.slice Awt wt.length cwt,.slice Alg lg.length clg,Str to],I nst] w (fun v w'=>∃ Awr:Option Addr,∃ cwr:Nat,∃ Alr:Option Addr,∃ clr:Nat,v=.agg #[.int .i64 nst,.slice Awr wt.length cwr,.slice Alr lg.length clr,Str []]∧SH w w' [] [.own Awr wt.length cwr 3 1 (wt.map I),.own Alr lg.length clr 51 2 (lg.flatMap gLogin)]):=by
 refine fE (N:=15) Tryz.func69 r0 (by kernel_rfl) r0 ?_
 have hs0:=SH.refl w []
 have hwt_m:wt.length≤9223372036854775807:=Nat.le_trans hwt.cap hwt.capMax
 have hlg_m:lg.length≤9223372036854775807:=Nat.le_trans hlg.cap hlg.capMax
 refine sr (bx (v:=.agg #[I sx,(Z10 Awt wt cwt),(Z23 Alg lg clg),Str to]) (cs:=(Z2 sx Awt wt cwt Alg lg clg to)) hs0 r0 r0 trivial r0 (fun b1 w1 hs1=>?_))
 refine al (v:=.agg #[I 0,ns,ns,Str []]) (cs:=[I 0,ns,ns,Str []]) hs1 tz29 r0 trivial r0 (fun b2 w2 hs2=>?_)
 refine nn (sq ?_)
 refine raJ (fun w'=>∃ L,SH w w' [] L∧(.blk b1 29 (Z2 sx Awt wt cwt Alg lg clg to))∈L∧True) (fun f w'=>∃ (A4':Option Addr) (c4':Nat) (A8':Option Addr) (c8':Nat),Hz f [(4,pB b2)]∧SH w w' [] [.blk b1 29 (Z2 sx Awt wt cwt Alg lg clg to),.blk b2 29 [I nst,(Z10 A4' wt c4'),(Z23 A8' lg c8'),Str []],(Z7 A4' wt c4'),(Z9 A8' lg c8')]) mixed ?_ ?_
 ·refine dG 1 11 1023 (fun f w'=>∃ (A4':Option Addr) (c4':Nat) (A8':Option Addr) (c8':Nat),Hz f [(4,pB b2),(14,.agg #[I nst,(Z10 A4' wt c4'),(Z23 A8' lg c8'),Str []])]∧SH w w' [] [.blk b1 29 (Z2 sx Awt wt cwt Alg lg clg to),(Z11 b2),(Z7 A4' wt c4'),(Z9 A8' lg c8')]) ?_ (fun D_1_0=>?_)
  ·rintro f w3 ⟨A4',c4',A8',c8',⟨g1,rfl⟩,hs3⟩
   refine aO 10 r0 (sG [I nst,(Z10 A4' wt c4'),(Z23 A8' lg c8'),Str []] hs3 1 r0 ag29 (fun w4 hs4=>?_))
   refine nk (m1 hs4 0 r0) ?_
   refine ad (by kernel_rfl) ?_
   exact⟨A4',c4',A8',c8',(zR r0),(hs4.pk [0,3,1,2] r0)⟩
  refine dG 3 11 255 (fun f w'=>∃ (b5':Nat) (A4':Option Addr) (c4':Nat),Hz f [(4,pB b2),(5,I nst),(9,.slice A4' wt.length c4'),(10,sb b5' (([]:List (List UInt8×List UInt8)).length) 0),(12,.slice Alg lg.length clg)]∧SH w w' [] [.blk b1 29 (Z2 sx Awt wt cwt Alg lg clg to),(Z11 b2),(Z7 A4' wt c4'),.own (Z6 b5') (([]:List (List UInt8×List UInt8)).length) 0 51 2 (([]:List (List UInt8×List UInt8)).flatMap gLogin)]) ?_ (fun D_1_1=>?_)
  ·rintro f w5 ⟨b5',A4',c4',⟨g2,rfl⟩,hs5⟩
   refine aO 8 r0 (apf (g:=gLogin) (ys:=([]:List (List UInt8×List UInt8))) (zs:=lg) hs5 3 r0 sl27 r0 (by decide) r0 r0 (hlg.up0 hs5) (fun _=>rfl) (by unfold maxLen; (simp; omega)) (by(simp; omega)) trivial r0 (fun A8' c8' w6 hs6=>?_))
   refine nk (m1 hs6 0 r0) ?_
   refine tk (fuel:=1) (is:=[9]) (.cons r0 (.nil)) (by kernel_rfl) (by kernel_rfl) (m1 hs6 0 r0) (yA r0 (bdv (v:=.agg #[I nst,(Z10 A4' wt c4'),(Z23 A8' lg c8'),Str []]) [(0,I nst),(1,.slice A4' wt.length c4'),(2,.slice A8' lg.length c8')] r0 (fun _=>by kernel_rfl)) (.nil ?_))
   exact alc D_1_0 ⟨A4',c4',A8',c8',(zR r0),hs6⟩
  refine dG 4 11 223 (fun f w'=>∃ (A4':Option Addr) (c4':Nat),Hz f [(4,pB b2),(5,I nst),(9,.slice A4' wt.length c4'),(12,.slice Alg lg.length clg)]∧SH w w' [] [.blk b1 29 (Z2 sx Awt wt cwt Alg lg clg to),(Z11 b2),(Z7 A4' wt c4')]) ?_ (fun D_1_2=>?_)
  ·rintro f w7 ⟨A4',c4',⟨g3,rfl⟩,hs7⟩
   refine aO 5 r0 (bsk hs7 sl27 [] [] trivial r0 (fun b5' w8 hs8=>?_))
   exact nk (m1 hs8 0 r0) (alc D_1_1 ⟨b5',A4',c4',(zR r0),hs8⟩)
  refine dG 4 11 239 (fun f w'=>∃ (b1' b5':Nat),Hz f [(4,pB b2),(5,I nst),(6,sb b1' (([]:List Int).length) 0),(8,.slice Awt wt.length cwt),(10,sb b5' (([]:List (List UInt8×List UInt8)).length) 0),(12,.slice Alg lg.length clg)]∧SH w w' [] [.blk b1 29 (Z2 sx Awt wt cwt Alg lg clg to),(Z11 b2),(Z27 b1'),.own (Z6 b5') (([]:List (List UInt8×List UInt8)).length) 0 51 2 (([]:List (List UInt8×List UInt8)).flatMap gLogin)]) ?_ (fun D_1_3=>?_)
  ·rintro f w9 ⟨b1',b5',⟨g4,rfl⟩,hs9⟩
   refine aO 4 r0 (apm (g:=I) (ys:=([]:List Int)) (zs:=wt) hs9 2 r0 sl22 r0 r0 r0 (hwt.up0 hs9) (fun _=>rfl) (by unfold maxLen; (simp; omega)) (by(simp; omega)) trivial r0 (fun A4' c4' w10 hs10=>?_))
   exact nk (m1 hs10 0 r0) (alc D_1_1 ⟨b5',A4',c4',(zR r0),(hs10.pk [0,1,3,2] r0)⟩)
  refine dG 5 11 207 (fun f w'=>∃ (b1':Nat),Hz f [(4,pB b2),(5,I nst),(6,sb b1' (([]:List Int).length) 0),(8,.slice Awt wt.length cwt),(12,.slice Alg lg.length clg)]∧SH w w' [] [.blk b1 29 (Z2 sx Awt wt cwt Alg lg clg to),(Z11 b2),(Z27 b1')]) ?_ (fun D_1_4=>?_)
  ·rintro f w11 ⟨b1',⟨g5,rfl⟩,hs11⟩
   refine aaL [4,5] (fa_cons ?_ (fa_one ?_))
   ·refine one_ r0 (apm (g:=I) (ys:=([]:List Int)) (zs:=wt) hs11 2 r0 sl22 r0 r0 r0 (hwt.up0 hs11) (fun _=>rfl) (by unfold maxLen; (simp; omega)) (by(simp; omega)) trivial r0 (fun A4' c4' w12 hs12=>?_))
    exact nk (m1 hs12 0 r0) (alc D_1_2 ⟨A4',c4',(zR r0),hs12⟩)
   ·refine one_ r0 (bsk hs11 sl27 [] [] trivial r0 (fun b5' w13 hs13=>?_))
    exact nk (m1 hs13 0 r0) (alc D_1_3 ⟨b1',b5',(zR r0),hs13⟩)
  refine dG 5 11 237 (fun f w'=>∃ (b5':Nat),Hz f [(4,pB b2),(5,I nst),(8,.slice Awt wt.length cwt),(10,sb b5' (([]:List (List UInt8×List UInt8)).length) 0),(12,.slice Alg lg.length clg)]∧SH w w' [] [.blk b1 29 (Z2 sx Awt wt cwt Alg lg clg to),(Z11 b2),.own (Z6 b5') (([]:List (List UInt8×List UInt8)).length) 0 51 2 (([]:List (List UInt8×List UInt8)).flatMap gLogin)]) ?_ (fun D_1_5=>?_)
  ·rintro f w14 ⟨b5',⟨g6,rfl⟩,hs14⟩
   refine aO 1 r0 (bsk hs14 sl22 [] [] trivial r0 (fun b1' w15 hs15=>?_))
   exact nk (m1 hs15 0 r0) (alc D_1_3 ⟨b1',b5',(zR r0),(hs15.pk [0,1,3,2] r0)⟩)
  refine dG 6 11 205 (fun f w'=>Hz f [(4,pB b2),(5,I nst),(8,.slice Awt wt.length cwt),(12,.slice Alg lg.length clg)]∧SH w w' [] [.blk b1 29 (Z2 sx Awt wt cwt Alg lg clg to),(Z11 b2)]) ?_ (fun D_1_6=>?_)
  ·rintro f w16 ⟨⟨g7,rfl⟩,hs16⟩
   refine aaL [1,5] (fa_cons ?_ (fa_one ?_))
   ·refine one_ r0 (bsk hs16 sl22 [] [] trivial r0 (fun b1' w17 hs17=>?_))
    exact nk (m1 hs17 0 r0) (alc D_1_4 ⟨b1',(zR r0),hs17⟩)
   ·refine one_ r0 (bsk hs16 sl27 [] [] trivial r0 (fun b5' w18 hs18=>?_))
    exact nk (m1 hs18 0 r0) (alc D_1_5 ⟨b5',(zR r0),hs18⟩)
  have hs19:=hs2.drew
  refine tk (fuel:=6) (is:=[0,2,3,6,7]) (.cons r0 (.cons r0 (.cons r0 (.cons r0 (.cons r0 (.nil)))))) (by kernel_rfl) (by kernel_rfl) (m1 hs19 0 r0) (yA r0 (mv (v:=I nst) r0) (yA r0 (fa 1 fo29_1 r0) (yB r0 (fun ⟨Lq,hsq,mh0,_⟩=>lM (Z13 Awt wt cwt) hsq mh0 r0 one22) (yA r0 (fa 2 fo29_2 r0) (yB r0 (fun ⟨Lq,hsq,mh0,_⟩=>lM (.slice Alg lg.length clg) hsq mh0 r0 one27) (.nil ?_))))))
  exact alc D_1_6 ⟨(zR r0),hs19⟩
 rintro f w19 ⟨A4',c4',A8',c8',⟨g8,rfl⟩,hs20⟩
 refine nN (rt (fret (v:=.agg #[I nst,(Z10 A4' wt c4'),(Z23 A8' lg c8'),Str []]) (resC hs20 1 r0 r0 ag29 r0 .nil) r0 ?_))
 exact⟨A4',c4',A8',c8',rfl,(hs20.pk [2,3] r0)⟩
theorem tkHello {tb:Nat} {Awt:Option Addr} {cwt:Nat} {Alg:Option Addr} {clg:Nat} (sx:Int) (wt:List Int) (lg:List Lg) (to:List UInt8) {Abs:Option Addr} {cbs:Nat} (bs:List Int) (w:World) (htk:w.heap[tb]?=some (.cells [.int .i64 sx,.slice Awt wt.length cwt,.slice Alg lg.length clg,Str to].toArray 29 (0,0))) (hwt:Sl w [tb] 1 Awt wt.length cwt (wt.map I)) (hlg:Sl w [tb] 2 Alg lg.length clg (lg.flatMap gLogin)) (hlg_e: ∀ u∈lg,u.1.length≤9223372036854775807∧u.2.length≤9223372036854775807) (hbs:Sl w [tb] 1 Abs bs.length cbs (bs.map I)) (hst:sx=4) (hto:to=[]):Does Tryz.prog 48 [pB tb,.slice Abs bs.length cbs] w (fun v w'=>∃ Ar:Option Addr,∃ cr:Nat,v=.slice Ar ((sayHello wt bs).2).length cr∧SH w w' [tb] [.blk tb 29 [I ((sayHello wt bs).1),.slice Awt wt.length cwt,.slice Alg lg.length clg,Str to],.own Ar (((sayHello wt bs).2).length) cr 3 1 (((sayHello wt bs).2).map I)]):=by
 refine fE (N:=48) Tryz.func48 r0 (by kernel_rfl) r0 ?_
 have hwt_m:wt.length≤9223372036854775807:=Nat.le_trans hwt.cap hwt.capMax
 have hlg_m:lg.length≤9223372036854775807:=Nat.le_trans hlg.cap hlg.capMax
 have hs0:=SH.entry1 htk
 have hbs_m:bs.length≤9223372036854775807:=Nat.le_trans hbs.cap hbs.capMax
 refine sr (tA ns r0 (nx (tm (Z13 Abs bs cbs) r0 ?_)))
 refine cL r0 (iHelloFrom (Abs:=Abs) (cbs:=cbs) (bs:=bs) (w:=_) (hbs:=(hbs.up hs0 (fun _ h=>h) (by simp)))) ?_
 rintro _ w1 ⟨A1,c1,rfl,hs1⟩
 replace hs1:=hs0.call0 hs1
 refine tm (.tuple #[.slice A1 (((helloFrom bs).1).length) c1,I ((helloFrom bs).2.1),.bool ((helloFrom bs).2.2)]) r0 (qt r0 (xt 0 (v:=.slice A1 (((helloFrom bs).1).length) c1) r0 r0) (qt r0 (xt 1 (v:=I ((helloFrom bs).2.1)) r0 r0) (qt r0 (xt 2 (v:=.bool ((helloFrom bs).2.2)) r0 r0) (tA (.slice A1 (((helloFrom bs).1).length) c1) r0 (tA (I ((helloFrom bs).2.1)) r0 (tA (.bool ((helloFrom bs).2.2)) r0 (nl ?_)))))))
 refine nN (sq (sr (tm (.bool ((helloFrom bs).2.2)) r0 (qt r0 (nt (b:=(helloFrom bs).2.2) r0) (tm (.bool (!((helloFrom bs).2.2))) r0 ?_)))))
 refine spl (b:=!((helloFrom bs).2.2)) 19 r0 (fun h1=>?_) (fun h1=>?_)
 ·have h2:((helloFrom bs).2.2)=false:=by simpa using h1
  refine gt5 r0 (gt5 r0 (gt5 r0 (gt5 r0 (qt r0 (pt (v:=.bool true) r0 r0) (nn (cdt r0 ?_))))))
  refine sr (tA ns r0 (nn (rt (tR ?_))))
  refine fT ns r0 ?_
  have hs2:=hs1.nl [.own none (([]:List Int).length) 0 3 1 (([]:List Int).map I)] r0
  have e1:([]:List Int)=(sayHello wt bs).2:=by(rw[sayH_no1 ‹_›]; done)
  have e2:=congrArg List.length e1
  have e3:sx=(sayHello wt bs).1:=by(rw[sayH_no1 ‹_›]) <;> (exact hst)
  exact⟨none,0,(slv r0 e2 r0),((hs2.pq [0,2] r0).cast (lc (congrArg (It.blk tb 29) (lc (congrArg (Value.int .i64) e3) (lc r0 (lc r0 (lc r0 r0))))) (lc (own_eq (g:=I) r0 e2 r0 e1) r0)))⟩
 ·have h3:((helloFrom bs).2.2)=true:=by simpa using h1
  refine q ⟨_,rfl,rfl⟩ r0 r0 (mv (v:=I ((helloFrom bs).2.1)) r0) (q ⟨_,rfl,rfl⟩ r0 r0 (mv (v:=.slice Abs bs.length cbs) r0) (q ⟨_,rfl,rfl⟩ r0 r0 (lnA (n:=bs.length) sl22 r0) (q ⟨_,rfl,rfl⟩ r0 r0 (lss (k:=.i64) (a:=(helloFrom bs).2.1) (b:=(bs.length:Int)) r0 r0) (qt r0 (pf (v:=.bool (decide (((helloFrom bs).2.1)<(bs.length:Int)))) r0 r0) (nn ?_)))))
  refine cdd (p:=((helloFrom bs).2.1)<(bs.length:Int)) r0 (fun h4=>?_) (fun h4=>?_)
  ·refine sr (tA ns r0 (nn (rt (tR ?_))))
   refine fT ns r0 ?_
   have hs3:=hs1.nl [.own none (([]:List Int).length) 0 3 1 (([]:List Int).map I)] r0
   have e4:([]:List Int)=(sayHello wt bs).2:=by(rw[sayH_no2 ‹_›]; done)
   have e5:=congrArg List.length e4
   have e6:sx=(sayHello wt bs).1:=by(rw[sayH_no2 ‹_›]) <;> (exact hst)
   exact⟨none,0,(slv r0 e5 r0),((hs3.pq [0,2] r0).cast (lc (congrArg (It.blk tb 29) (lc (congrArg (Value.int .i64) e6) (lc r0 (lc r0 (lc r0 r0))))) (lc (own_eq (g:=I) r0 e5 r0 e4) r0)))⟩
  ·refine sk (nN (sr (tm (pB tb) r0 (tn r0 (qt r0 (fa 1 fo29_1 r0) (qt r0 (lD (Z13 Awt wt cwt) hs1 0 r0 one22) ?_))))))
   refine tm (.slice A1 (((helloFrom bs).1).length) c1) r0 (cL r0 (iHelloPick (Awt:=Awt) (cwt:=cwt) (wt:=wt) (Ams:=A1) (cms:=c1) (ms:=(helloFrom bs).1) (w:=_) (hwt:=(hwt.up hs1 (fun _ h=>h) (by simp))) (hms:=(hs1.sl0 1 r0))) ?_)
   rintro _ w2 ⟨rfl,hs4⟩
   replace hs4:=hs1.call0 hs4
   refine tA (I (helloPick wt ((helloFrom bs).1))) r0 (nn (sq (sr (tm (I (helloPick wt ((helloFrom bs).1))) r0 (nl ?_)))))
   refine nN (bl (sr (qt r0 (eqi (k:=.i64) (a:=helloPick wt ((helloFrom bs).1)) (b:=0) r0 r0) (tA (.bool (decide ((helloPick wt ((helloFrom bs).1))=0))) r0 (nn ?_)))))
   refine cdd (p:=(helloPick wt ((helloFrom bs).1))=0) r0 (fun h5=>?_) (fun h5=>?_)
   ·refine rg (tm (pB tb) r0 (tn r0 (qt r0 (fa 0 fo29_0 r0) (sT (I 2) hs4 0 r0 one3 (fun w3 hs5=>?_)))))
    refine nl (bN (nN (sr (tm (I (helloPick wt ((helloFrom bs).1))) r0 (cL r0 (iPickBytes (m:=helloPick wt ((helloFrom bs).1)) (w:=_) (hm:=(by exact pick_bd _ _))) ?_)))))
    rintro _ w4 ⟨A2,c2,rfl,hs6⟩
    replace hs6:=hs5.call0 hs6
    refine tm (.tuple #[.slice A2 ([5,(helloPick wt ((helloFrom bs).1))].length) c2,.bool true]) r0 (qt r0 (xt 0 (v:=.slice A2 ([5,(helloPick wt ((helloFrom bs).1))].length) c2) r0 r0) (qt r0 (xt 1 (v:=.bool true) r0 r0) (tA (.slice A2 ([5,(helloPick wt ((helloFrom bs).1))].length) c2) r0 (tA (.bool true) r0 (nn (sq ?_))))))
    refine rg (tm (.slice A2 ([5,(helloPick wt ((helloFrom bs).1))].length) c2) r0 (tA (.slice A2 ([5,(helloPick wt ((helloFrom bs).1))].length) c2) r0 (nn (rt (fT (.slice A2 ([5,(helloPick wt ((helloFrom bs).1))].length) c2) r0 ?_)))))
    have e7:[5,(helloPick wt ((helloFrom bs).1))]=(sayHello wt bs).2:=by(rw[sayH_y ‹_› ‹_›]; done)
    have e8:=congrArg List.length e7
    have e9:2=(sayHello wt bs).1:=by(rw[sayH_y ‹_› ‹_›]) <;> ((simp[h3,h4,h5]; done))
    exact⟨A2,c2,(slv r0 e8 r0),((hs6.pq [1,2] r0).cast (lc (congrArg (It.blk tb 29) (lc (congrArg (Value.int .i64) e9) (lc r0 (lc r0 (lc r0 r0))))) (lc (own_eq (g:=I) r0 e8 r0 e7) r0)))⟩
   ·refine sr (qt r0 (eqi (k:=.i64) (a:=helloPick wt ((helloFrom bs).1)) (b:=2) r0 r0) (tA (.bool (decide ((helloPick wt ((helloFrom bs).1))=2))) r0 (nn ?_)))
    refine cdd (p:=(helloPick wt ((helloFrom bs).1))=2) r0 (fun h6=>?_) (fun h6=>?_)
    ·refine rg (tm (pB tb) r0 (tn r0 (qt r0 (fa 0 fo29_0 r0) (sT (I 1) hs4 0 r0 one3 (fun w5 hs7=>?_)))))
     refine nl (bN (nN (sr (tm (I (helloPick wt ((helloFrom bs).1))) r0 (cL r0 (iPickBytes (m:=helloPick wt ((helloFrom bs).1)) (w:=_) (hm:=(by exact pick_bd _ _))) ?_)))))
     rintro _ w6 ⟨A3,c3,rfl,hs8⟩
     replace hs8:=hs7.call0 hs8
     refine tm (.tuple #[.slice A3 ([5,(helloPick wt ((helloFrom bs).1))].length) c3,.bool true]) r0 (qt r0 (xt 0 (v:=.slice A3 ([5,(helloPick wt ((helloFrom bs).1))].length) c3) r0 r0) (qt r0 (xt 1 (v:=.bool true) r0 r0) (tA (.slice A3 ([5,(helloPick wt ((helloFrom bs).1))].length) c3) r0 (tA (.bool true) r0 (nn (sq ?_))))))
     refine rg (tm (.slice A3 ([5,(helloPick wt ((helloFrom bs).1))].length) c3) r0 (tA (.slice A3 ([5,(helloPick wt ((helloFrom bs).1))].length) c3) r0 (nn (rt (fT (.slice A3 ([5,(helloPick wt ((helloFrom bs).1))].length) c3) r0 ?_)))))
     have e10:[5,(helloPick wt ((helloFrom bs).1))]=(sayHello wt bs).2:=by(rw[sayH_y ‹_› ‹_›]; done)
     have e11:=congrArg List.length e10
     have e12:1=(sayHello wt bs).1:=by(rw[sayH_y ‹_› ‹_›]) <;> ((simp[h3,h4,h5,h6]; done))
     exact⟨A3,c3,(slv r0 e11 r0),((hs8.pq [1,2] r0).cast (lc (congrArg (It.blk tb 29) (lc (congrArg (Value.int .i64) e12) (lc r0 (lc r0 (lc r0 r0))))) (lc (own_eq (g:=I) r0 e11 r0 e10) r0)))⟩
    ·refine sk (bN (nN (sr (tm (I (helloPick wt ((helloFrom bs).1))) r0 (cL r0 (iPickBytes (m:=helloPick wt ((helloFrom bs).1)) (w:=_) (hm:=(by exact pick_bd _ _))) ?_)))))
     rintro _ w7 ⟨A4,c4,rfl,hs9⟩
     replace hs9:=hs4.call0 hs9
     refine tm (.tuple #[.slice A4 ([5,(helloPick wt ((helloFrom bs).1))].length) c4,.bool true]) r0 (qt r0 (xt 0 (v:=.slice A4 ([5,(helloPick wt ((helloFrom bs).1))].length) c4) r0 r0) (qt r0 (xt 1 (v:=.bool true) r0 r0) (tA (.slice A4 ([5,(helloPick wt ((helloFrom bs).1))].length) c4) r0 (tA (.bool true) r0 (nn (sq ?_))))))
     refine rg (tm (.slice A4 ([5,(helloPick wt ((helloFrom bs).1))].length) c4) r0 (tA (.slice A4 ([5,(helloPick wt ((helloFrom bs).1))].length) c4) r0 (nn (rt (fT (.slice A4 ([5,(helloPick wt ((helloFrom bs).1))].length) c4) r0 ?_)))))
     have e13:[5,(helloPick wt ((helloFrom bs).1))]=(sayHello wt bs).2:=by(rw[sayH_y ‹_› ‹_›]; done)
     have e14:=congrArg List.length e13
     have e15:sx=(sayHello wt bs).1:=by(rw[sayH_y ‹_› ‹_›]) <;> ((simp[h3,h4,h5,h6,hst]; done))
     exact⟨A4,c4,(slv r0 e14 r0),((hs9.pq [0,2] r0).cast (lc (congrArg (It.blk tb 29) (lc (congrArg (Value.int .i64) e15) (lc r0 (lc r0 (lc r0 r0))))) (lc (own_eq (g:=I) r0 e14 r0 e13) r0)))⟩
set_option maxHeartbeats 8000000 in
theorem tkLogin {tb:Nat} {Awt:Option Addr} {cwt:Nat} {Alg:Option Addr} {clg:Nat} (sx:Int) (wt:List Int) (lg:List Lg) (to:List UInt8) {Abs:Option Addr} {cbs:Nat} (bs:List Int) (w:World) (htk:w.heap[tb]?=some (.cells [.int .i64 sx,.slice Awt wt.length cwt,.slice Alg lg.length clg,Str to].toArray 29 (0,0))) (hwt:Sl w [tb] 1 Awt wt.length cwt (wt.map I)) (hlg:Sl w [tb] 2 Alg lg.length clg (lg.flatMap gLogin)) (hlg_e: ∀ u∈lg,u.1.length≤9223372036854775807∧u.2.length≤9223372036854775807) (hbs:Sl w [tb] 1 Abs bs.length cbs (bs.map I)) (hst:sx=4) (hto:to=[]):Does Tryz.prog 49 [pB tb,.slice Abs bs.length cbs] w (fun v w'=>∃ Ar:Option Addr,∃ cr:Nat,v=.slice Ar ((sayLogin lg bs).2).length cr∧SH w w' [tb] [.blk tb 29 [I ((sayLogin lg bs).1),.slice Awt wt.length cwt,.slice Alg lg.length clg,Str to],.own Ar (((sayLogin lg bs).2).length) cr 3 1 (((sayLogin lg bs).2).map I)]):=by
 refine fE (N:=35) Tryz.func49 r0 (by kernel_rfl) r0 ?_
 have hwt_m:wt.length≤9223372036854775807:=Nat.le_trans hwt.cap hwt.capMax
 have hlg_m:lg.length≤9223372036854775807:=Nat.le_trans hlg.cap hlg.capMax
 have hs0:=SH.entry1 htk
 have hbs_m:bs.length≤9223372036854775807:=Nat.le_trans hbs.cap hbs.capMax
 refine sr (tA ns r0 (nx (tm (Z13 Abs bs cbs) r0 ?_)))
 refine cL r0 (iLoginFrom (Abs:=Abs) (cbs:=cbs) (bs:=bs) (w:=_) (hbs:=(hbs.up hs0 (fun _ h=>h) (by simp)))) ?_
 rintro _ w1 ⟨rfl,hs1⟩
 replace hs1:=hs0.call0 hs1
 refine tm (.tuple #[.agg #[Str ((loginFrom bs).1.1),Str ((loginFrom bs).1.2)],I ((loginFrom bs).2.1),.bool ((loginFrom bs).2.2)]) r0 (qt r0 (xt 0 (v:=.agg #[Str ((loginFrom bs).1.1),Str ((loginFrom bs).1.2)]) r0 r0) (qt r0 (xt 1 (v:=I ((loginFrom bs).2.1)) r0 r0) (qt r0 (xt 2 (v:=.bool ((loginFrom bs).2.2)) r0 r0) (al (v:=.agg #[Str [],Str []]) (cs:=[Str [],Str []]) hs1 tz51 r0 trivial r0 (fun b1 w2 hs2=>?_)))))
 refine sG [Str ((loginFrom bs).1.1),Str ((loginFrom bs).1.2)] hs2 1 r0 ag51 (fun w3 hs3=>?_)
 refine tA (I ((loginFrom bs).2.1)) r0 (tA (.bool ((loginFrom bs).2.2)) r0 (nn (sq (sr (tm (.bool ((loginFrom bs).2.2)) r0 ?_)))))
 refine qt r0 (nt (b:=(loginFrom bs).2.2) r0) (tm (.bool (!((loginFrom bs).2.2))) r0 ?_)
 refine spl (b:=!((loginFrom bs).2.2)) 17 r0 (fun h1=>?_) (fun h1=>?_)
 ·have h2:((loginFrom bs).2.2)=false:=by simpa using h1
  refine gt5 r0 (gt5 r0 (gt5 r0 (gt5 r0 (qt r0 (pt (v:=.bool true) r0 r0) (nn (cdt r0 ?_))))))
  refine sr (tA ns r0 (nn (rt (tR ?_))))
  refine fT ns r0 ?_
  have hs4:=hs3.nl [.own none (([]:List Int).length) 0 3 1 (([]:List Int).map I)] r0
  have e1:([]:List Int)=(sayLogin lg bs).2:=by(rw[sayL_no1 ‹_›]; done)
  have e2:=congrArg List.length e1
  have e3:sx=(sayLogin lg bs).1:=by(rw[sayL_no1 ‹_›]) <;> (exact hst)
  exact⟨none,0,(slv r0 e2 r0),((hs4.pq [0,2] r0).cast (lc (congrArg (It.blk tb 29) (lc (congrArg (Value.int .i64) e3) (lc r0 (lc r0 (lc r0 r0))))) (lc (own_eq (g:=I) r0 e2 r0 e1) r0)))⟩
 ·have h3:((loginFrom bs).2.2)=true:=by simpa using h1
  refine q ⟨_,rfl,rfl⟩ r0 r0 (mv (v:=I ((loginFrom bs).2.1)) r0) (q ⟨_,rfl,rfl⟩ r0 r0 (mv (v:=.slice Abs bs.length cbs) r0) (q ⟨_,rfl,rfl⟩ r0 r0 (lnA (n:=bs.length) sl22 r0) (q ⟨_,rfl,rfl⟩ r0 r0 (lss (k:=.i64) (a:=(loginFrom bs).2.1) (b:=(bs.length:Int)) r0 r0) (qt r0 (pf (v:=.bool (decide (((loginFrom bs).2.1)<(bs.length:Int)))) r0 r0) (nn ?_)))))
  refine cdd (p:=((loginFrom bs).2.1)<(bs.length:Int)) r0 (fun h4=>?_) (fun h4=>?_)
  ·refine sr (tA ns r0 (nn (rt (tR ?_))))
   refine fT ns r0 ?_
   have hs5:=hs3.nl [.own none (([]:List Int).length) 0 3 1 (([]:List Int).map I)] r0
   have e4:([]:List Int)=(sayLogin lg bs).2:=by(rw[sayL_no2 ‹_›]; done)
   have e5:=congrArg List.length e4
   have e6:sx=(sayLogin lg bs).1:=by(rw[sayL_no2 ‹_›]) <;> (exact hst)
   exact⟨none,0,(slv r0 e5 r0),((hs5.pq [0,2] r0).cast (lc (congrArg (It.blk tb 29) (lc (congrArg (Value.int .i64) e6) (lc r0 (lc r0 (lc r0 r0))))) (lc (own_eq (g:=I) r0 e5 r0 e4) r0)))⟩
  ·refine sk (nN (sq (rq (fun w'=>SH w w' [tb] [.blk tb 29 (Z2 sx Awt wt cwt Alg lg clg to),.blk b1 51 [Str ((loginFrom bs).1.1),Str ((loginFrom bs).1.2)]]) mixed (by kernel_rfl) hs3.drew (qA r0 (mv (v:=pB tb) r0) (qA r0 (nc r0) (qA r0 (fa 2 fo29_2 r0) (qB r0 (fun hsq=>lD (.slice Alg lg.length clg) hsq 0 r0 one27) ?_)))))))
   refine qB r0 (fun hsq=>lG [Str ((loginFrom bs).1.1),Str ((loginFrom bs).1.2)] hsq 1 r0 ag51) (qc (.bool (fitsL lg ((loginFrom bs).1.1) ((loginFrom bs).1.2))) trivial r0 (fun wq hsq=>(iLoginFits (Alg:=Alg) (clg:=clg) (lg:=lg) (lu:=(loginFrom bs).1.1) (lw:=(loginFrom bs).1.2) (w:=_) (hlg:=(hlg.up hsq (fun _ h=>h) (by simp))) (hlg_e:=hlg_e) (hlu_n:=(by(have hlk:=loginOk_fit (loginFrom_ok (by assumption:(loginFrom bs).2.2=true)).2.1; omega))) (hlw_n:=(by(have hlk:=loginOk_fit (loginFrom_ok (by assumption:(loginFrom bs).2.2=true)).2.1; omega)))).mono (fun v w' h=>⟨h.1,by simpa using hsq.call0 h.2⟩)) (qA r0 (asg (v:=.bool (fitsL lg ((loginFrom bs).1.1) ((loginFrom bs).1.2))) r0) (qn (fun w4 hs6=>?_))))
   refine nN (sq (sr (tm (.bool (fitsL lg ((loginFrom bs).1.1) ((loginFrom bs).1.2))) r0 (nn ?_))))
   refine cd (b:=fitsL lg ((loginFrom bs).1.1) ((loginFrom bs).1.2)) r0 (fun h5=>?_) (fun h5=>?_)
   ·refine rg (tm (pB tb) r0 (tn r0 (qt r0 (fa 0 fo29_0 r0) (sT (I 2) hs6 0 r0 one3 (fun w5 hs7=>?_)))))
    refine nx (tm (.bool (fitsL lg ((loginFrom bs).1.1) ((loginFrom bs).1.2))) r0 (cL r0 (iLoginReply (f:=(fitsL lg ((loginFrom bs).1.1) ((loginFrom bs).1.2))) (w:=_)) ?_))
    rintro _ w6 ⟨A1,c1,rfl,hs8⟩
    replace hs8:=hs7.call0 hs8
    refine tA (.slice A1 ((lrB (fitsL lg ((loginFrom bs).1.1) ((loginFrom bs).1.2))).length) c1) r0 (nn (rt (fT (.slice A1 ((lrB (fitsL lg ((loginFrom bs).1.1) ((loginFrom bs).1.2))).length) c1) r0 ?_)))
    have e7:lrB (fitsL lg ((loginFrom bs).1.1) ((loginFrom bs).1.2))=(sayLogin lg bs).2:=by(rw[sayL_y ‹_› ‹_›]; done)
    have e8:=congrArg List.length e7
    have e9:2=(sayLogin lg bs).1:=by(rw[sayL_y ‹_› ‹_›]) <;> ((simp[h3,h4,h5]; done))
    exact⟨A1,c1,(slv r0 e8 r0),((hs8.pq [1,2] r0).cast (lc (congrArg (It.blk tb 29) (lc (congrArg (Value.int .i64) e9) (lc r0 (lc r0 (lc r0 r0))))) (lc (own_eq (g:=I) r0 e8 r0 e7) r0)))⟩
   ·refine sk (nN (sr (tm (.bool (fitsL lg ((loginFrom bs).1.1) ((loginFrom bs).1.2))) r0 (cL r0 (iLoginReply (f:=(fitsL lg ((loginFrom bs).1.1) ((loginFrom bs).1.2))) (w:=_)) ?_))))
    rintro _ w7 ⟨A2,c2,rfl,hs9⟩
    replace hs9:=hs6.call0 hs9
    refine tA (.slice A2 ((lrB (fitsL lg ((loginFrom bs).1.1) ((loginFrom bs).1.2))).length) c2) r0 (nn (rt (fT (.slice A2 ((lrB (fitsL lg ((loginFrom bs).1.1) ((loginFrom bs).1.2))).length) c2) r0 ?_)))
    have e10:lrB (fitsL lg ((loginFrom bs).1.1) ((loginFrom bs).1.2))=(sayLogin lg bs).2:=by(rw[sayL_y ‹_› ‹_›]; done)
    have e11:=congrArg List.length e10
    have e12:sx=(sayLogin lg bs).1:=by(rw[sayL_y ‹_› ‹_›]) <;> ((simp[h3,h4,h5,hst]; done))
    exact⟨A2,c2,(slv r0 e11 r0),((hs9.pq [0,2] r0).cast (lc (congrArg (It.blk tb 29) (lc (congrArg (Value.int .i64) e12) (lc r0 (lc r0 (lc r0 r0))))) (lc (own_eq (g:=I) r0 e11 r0 e10) r0)))⟩
theorem tkRequest {tb:Nat} {Awt:Option Addr} {cwt:Nat} {Alg:Option Addr} {clg:Nat} (sx:Int) (wt:List Int) (lg:List Lg) (to:List UInt8) {Abs:Option Addr} {cbs:Nat} (bs:List Int) (w:World) (htk:w.heap[tb]?=some (.cells [.int .i64 sx,.slice Awt wt.length cwt,.slice Alg lg.length clg,Str to].toArray 29 (0,0))) (hwt:Sl w [tb] 1 Awt wt.length cwt (wt.map I)) (hlg:Sl w [tb] 2 Alg lg.length clg (lg.flatMap gLogin)) (hlg_e: ∀ u∈lg,u.1.length≤9223372036854775807∧u.2.length≤9223372036854775807) (hbs:Sl w [tb] 1 Abs bs.length cbs (bs.map I)) (hst:sx=4) (hto:to=[]) (hGp:VarP Tryz.prog w [tb] "internal/strconv.uint64pow10" isPow):Does Tryz.prog 50 [pB tb,.slice Abs bs.length cbs] w (fun v w'=>∃ Ar:Option Addr,∃ cr:Nat,v=.slice Ar ((sayReq bs).2.2).length cr∧SH w w' [tb] [.blk tb 29 [I ((sayReq bs).1),.slice Awt wt.length cwt,.slice Alg lg.length clg,Str ((sayReq bs).2.1)],.own Ar (((sayReq bs).2.2).length) cr 3 1 (((sayReq bs).2.2).map I)]):=by
 refine fE (N:=45) Tryz.func50 r0 (by kernel_rfl) r0 ?_
 have hwt_m:wt.length≤9223372036854775807:=Nat.le_trans hwt.cap hwt.capMax
 have hlg_m:lg.length≤9223372036854775807:=Nat.le_trans hlg.cap hlg.capMax
 have hs0:=SH.entry1 htk
 have hbs_m:bs.length≤9223372036854775807:=Nat.le_trans hbs.cap hbs.capMax
 refine sr (tA ns r0 (nx (tm (Z13 Abs bs cbs) r0 ?_)))
 refine cL r0 (iRequestFrom (Abs:=Abs) (cbs:=cbs) (bs:=bs) (w:=_) (hbs:=(hbs.up hs0 (fun _ h=>h) (by simp)))) ?_
 rintro _ w1 ⟨Aq1,cq1,rfl,hs1⟩
 replace hs1:=hs0.call0 hs1
 refine tm (.tuple #[.agg #[I ((reqFrom bs).1.1),I ((reqFrom bs).1.2.1),.slice Aq1 (((reqFrom bs).1.2.2.1).length) cq1,Str ((reqFrom bs).1.2.2.2.1),I ((reqFrom bs).1.2.2.2.2)],I ((reqFrom bs).2.1),.bool ((reqFrom bs).2.2)]) r0 (qt r0 (xt 0 (v:=.agg #[I ((reqFrom bs).1.1),I ((reqFrom bs).1.2.1),.slice Aq1 (((reqFrom bs).1.2.2.1).length) cq1,Str ((reqFrom bs).1.2.2.2.1),I ((reqFrom bs).1.2.2.2.2)]) r0 r0) (qt r0 (xt 1 (v:=I ((reqFrom bs).2.1)) r0 r0) (qt r0 (xt 2 (v:=.bool ((reqFrom bs).2.2)) r0 r0) (al (v:=.agg #[I 0,I 0,ns,Str [],I 0]) (cs:=[I 0,I 0,ns,Str [],I 0]) hs1 tz45 r0 trivial r0 (fun b1 w2 hs2=>?_)))))
 refine sG [I ((reqFrom bs).1.1),I ((reqFrom bs).1.2.1),.slice Aq1 (((reqFrom bs).1.2.2.1).length) cq1,Str ((reqFrom bs).1.2.2.2.1),I ((reqFrom bs).1.2.2.2.2)] hs2 2 r0 ag45 (fun w3 hs3=>?_)
 refine tA (I ((reqFrom bs).2.1)) r0 (tA (.bool ((reqFrom bs).2.2)) r0 (nn (sq (sr (tm (.bool ((reqFrom bs).2.2)) r0 ?_)))))
 refine qt r0 (nt (b:=(reqFrom bs).2.2) r0) (tm (.bool (!((reqFrom bs).2.2))) r0 ?_)
 refine spl (b:=!((reqFrom bs).2.2)) 19 r0 (fun h1=>?_) (fun h1=>?_)
 ·have h2:((reqFrom bs).2.2)=false:=by simpa using h1
  refine gt5 r0 (gt5 r0 (gt5 r0 (gt5 r0 (qt r0 (pt (v:=.bool true) r0 r0) (nn (cdt r0 ?_))))))
  refine sr (tA ns r0 (nn (rt (tR ?_))))
  refine fT ns r0 ?_
  have hs4:=hs3.nl [.own none (([]:List Int).length) 0 3 1 (([]:List Int).map I)] r0
  have e1:([]:List Int)=(sayReq bs).2.2:=by(rw[sayR_no1 ‹_›]; done)
  have e2:=congrArg List.length e1
  have e3:sx=(sayReq bs).1:=by(rw[sayR_no1 ‹_›]) <;> (exact hst)
  have e4:to=(sayReq bs).2.1:=by(rw[sayR_no1 ‹_›]) <;> (exact hto)
  exact⟨none,0,(slv r0 e2 r0),((hs4.pq [0,3] r0).cast (lc (congrArg (It.blk tb 29) (lc (congrArg (Value.int .i64) e3) (lc r0 (lc r0 (lc (congrArg Str e4) r0))))) (lc (own_eq (g:=I) r0 e2 r0 e1) r0)))⟩
 ·have h3:((reqFrom bs).2.2)=true:=by simpa using h1
  refine q ⟨_,rfl,rfl⟩ r0 r0 (mv (v:=I ((reqFrom bs).2.1)) r0) (q ⟨_,rfl,rfl⟩ r0 r0 (mv (v:=.slice Abs bs.length cbs) r0) (q ⟨_,rfl,rfl⟩ r0 r0 (lnA (n:=bs.length) sl22 r0) (q ⟨_,rfl,rfl⟩ r0 r0 (lss (k:=.i64) (a:=(reqFrom bs).2.1) (b:=(bs.length:Int)) r0 r0) (qt r0 (pf (v:=.bool (decide (((reqFrom bs).2.1)<(bs.length:Int)))) r0 r0) (nn ?_)))))
  refine cdd (p:=((reqFrom bs).2.1)<(bs.length:Int)) r0 (fun h4=>?_) (fun h4=>?_)
  ·refine sr (tA ns r0 (nn (rt (tR ?_))))
   refine fT ns r0 ?_
   have hs5:=hs3.nl [.own none (([]:List Int).length) 0 3 1 (([]:List Int).map I)] r0
   have e5:([]:List Int)=(sayReq bs).2.2:=by(rw[sayR_no2 ‹_›]; done)
   have e6:=congrArg List.length e5
   have e7:sx=(sayReq bs).1:=by(rw[sayR_no2 ‹_›]) <;> (exact hst)
   have e8:to=(sayReq bs).2.1:=by(rw[sayR_no2 ‹_›]) <;> (exact hto)
   exact⟨none,0,(slv r0 e6 r0),((hs5.pq [0,3] r0).cast (lc (congrArg (It.blk tb 29) (lc (congrArg (Value.int .i64) e7) (lc r0 (lc r0 (lc (congrArg Str e8) r0))))) (lc (own_eq (g:=I) r0 e6 r0 e5) r0)))⟩
  ·refine sk (nN (sr (tA (I 7) r0 (nn (sq ?_)))))
   refine sr (qt r0 (fa 0 fo45_0 r0) (qt r0 (lD (I ((reqFrom bs).1.1)) hs3 2 r0 one3) (qt r0 (eqi (k:=.i64) (a:=(reqFrom bs).1.1) (b:=1) r0 r0) (nn ?_))))
   refine cdd (p:=((reqFrom bs).1.1)=1) r0 (fun h5=>?_) (fun h5=>?_)
   ·refine sr (tA (I 0) r0 (nx (tm (pB tb) r0 ?_)))
    refine tn r0 (qt r0 (fa 0 fo29_0 r0) (sT (I 3) hs3 0 r0 one3 (fun w4 hs6=>?_)))
    refine nn (rg (tm (pB tb) r0 (qt r0 (fa 1 fo45_1 r0) (qt r0 (lG [I ((reqFrom bs).1.2.1),.slice Aq1 (((reqFrom bs).1.2.2.1).length) cq1,Str ((reqFrom bs).1.2.2.2.1),I ((reqFrom bs).1.2.2.2.2)] hs6 1 r0 ag43) (cL r0 (iAddressText (ak:=(reqFrom bs).1.2.1) (Aaq:=Aq1) (caq:=cq1) (aq:=(reqFrom bs).1.2.2.1) (an:=(reqFrom bs).1.2.2.2.1) (apt:=(reqFrom bs).1.2.2.2.2) (w:=_) (haq:=(hs6.sl0 0 r0)) (han_n:=(by(have hrn:=reqFrom_nm bs; omega))) (hok:=(by exact(reqFrom_ok ‹_›).1)) (hGp:=(hGp.up hs6 (fun _ h=>h) (by simp)))) ?_)))))
    rintro _ w5 ⟨rfl,hs7⟩
    replace hs7:=hs6.call0 hs7
    refine tn r0 (qt r0 (fa 3 fo29_3 r0) (sT (Str (hostT ((reqFrom bs).1.2.1) ((reqFrom bs).1.2.2.1) ((reqFrom bs).1.2.2.2.1)++[58]++Lib.itoa ((reqFrom bs).1.2.2.2.2))) hs7 2 r0 one9 (fun w6 hs8=>?_)))
    refine nx (tm (I 0) r0 (qt r0 (fa 1 fo45_1 r0) (qt r0 (lG [I ((reqFrom bs).1.2.1),.slice Aq1 (((reqFrom bs).1.2.2.1).length) cq1,Str ((reqFrom bs).1.2.2.2.1),I ((reqFrom bs).1.2.2.2.2)] hs8 1 r0 ag43) (cL r0 (iReplyBytes (c:=0) (ak:=(reqFrom bs).1.2.1) (Aaq:=Aq1) (caq:=cq1) (aq:=(reqFrom bs).1.2.2.1) (an:=(reqFrom bs).1.2.2.2.1) (apt:=(reqFrom bs).1.2.2.2.2) (w:=_) (haq:=(hs8.sl0 0 r0)) (han_n:=(by(have hrn:=reqFrom_nm bs; omega)))) ?_))))
    rintro _ w7 ⟨A1,c1,rfl,hs9⟩
    replace hs9:=hs8.call0 hs9
    refine tm (.tuple #[.slice A1 (((replyP 0 ((reqFrom bs).1.2.1) ((reqFrom bs).1.2.2.1) ((reqFrom bs).1.2.2.2.1) ((reqFrom bs).1.2.2.2.2)).1).length) c1,.bool ((replyP 0 ((reqFrom bs).1.2.1) ((reqFrom bs).1.2.2.1) ((reqFrom bs).1.2.2.2.1) ((reqFrom bs).1.2.2.2.2)).2)]) r0 (qt r0 (xt 0 (v:=.slice A1 (((replyP 0 ((reqFrom bs).1.2.1) ((reqFrom bs).1.2.2.1) ((reqFrom bs).1.2.2.2.1) ((reqFrom bs).1.2.2.2.2)).1).length) c1) r0 r0) (qt r0 (xt 1 (v:=.bool ((replyP 0 ((reqFrom bs).1.2.1) ((reqFrom bs).1.2.2.1) ((reqFrom bs).1.2.2.2.1) ((reqFrom bs).1.2.2.2.2)).2)) r0 r0) (tA (.slice A1 (((replyP 0 ((reqFrom bs).1.2.1) ((reqFrom bs).1.2.2.1) ((reqFrom bs).1.2.2.2.1) ((reqFrom bs).1.2.2.2.2)).1).length) c1) r0 (tA (.bool ((replyP 0 ((reqFrom bs).1.2.1) ((reqFrom bs).1.2.2.1) ((reqFrom bs).1.2.2.2.1) ((reqFrom bs).1.2.2.2.2)).2)) r0 (nn ?_)))))
    have hs10:=hs9.pq [2,3] r0
    refine sr (tm (.slice A1 (((replyP 0 ((reqFrom bs).1.2.1) ((reqFrom bs).1.2.2.1) ((reqFrom bs).1.2.2.2.1) ((reqFrom bs).1.2.2.2.2)).1).length) c1) r0 (tA (.slice A1 (((replyP 0 ((reqFrom bs).1.2.1) ((reqFrom bs).1.2.2.1) ((reqFrom bs).1.2.2.2.1) ((reqFrom bs).1.2.2.2.2)).1).length) c1) r0 (nn (rt (fT (.slice A1 (((replyP 0 ((reqFrom bs).1.2.1) ((reqFrom bs).1.2.2.1) ((reqFrom bs).1.2.2.2.1) ((reqFrom bs).1.2.2.2.2)).1).length) c1) r0 ?_)))))
    have e9:(replyP 0 ((reqFrom bs).1.2.1) ((reqFrom bs).1.2.2.1) ((reqFrom bs).1.2.2.2.1) ((reqFrom bs).1.2.2.2.2)).1=(sayReq bs).2.2:=by(rw[sayR_c ‹_› (reqFrom_n ‹_› ‹_›) ‹_›]; done)
    have e10:=congrArg List.length e9
    have e11:3=(sayReq bs).1:=by(rw[sayR_c ‹_› (reqFrom_n ‹_› ‹_›) ‹_›]) <;> (first | done | exact hst | exact hto | exact addrT_y (reqFrom_ok ‹_›).1)
    have e12:hostT ((reqFrom bs).1.2.1) ((reqFrom bs).1.2.2.1) ((reqFrom bs).1.2.2.2.1)++[58]++Lib.itoa ((reqFrom bs).1.2.2.2.2)=(sayReq bs).2.1:=by(rw[sayR_c ‹_› (reqFrom_n ‹_› ‹_›) ‹_›]) <;> (exact addrT_y (reqFrom_ok ‹_›).1)
    exact⟨A1,c1,(slv r0 e10 r0),(hs10.cast (lc (congrArg (It.blk tb 29) (lc (congrArg (Value.int .i64) e11) (lc r0 (lc r0 (lc (congrArg Str e12) r0))))) (lc (own_eq (g:=I) r0 e10 r0 e9) r0)))⟩
   ·refine sk (nN (sr (tm (I 7) r0 (qt r0 (fa 1 fo45_1 r0) (qt r0 (lG [I ((reqFrom bs).1.2.1),.slice Aq1 (((reqFrom bs).1.2.2.1).length) cq1,Str ((reqFrom bs).1.2.2.2.1),I ((reqFrom bs).1.2.2.2.2)] hs3 2 r0 ag43) (cL r0 (iReplyBytes (c:=7) (ak:=(reqFrom bs).1.2.1) (Aaq:=Aq1) (caq:=cq1) (aq:=(reqFrom bs).1.2.2.1) (an:=(reqFrom bs).1.2.2.2.1) (apt:=(reqFrom bs).1.2.2.2.2) (w:=_) (haq:=(hs3.sl0 1 r0)) (han_n:=(by(have hrn:=reqFrom_nm bs; omega)))) ?_))))))
    rintro _ w8 ⟨A2,c2,rfl,hs11⟩
    replace hs11:=hs3.call0 hs11
    refine tm (.tuple #[.slice A2 (((replyP 7 ((reqFrom bs).1.2.1) ((reqFrom bs).1.2.2.1) ((reqFrom bs).1.2.2.2.1) ((reqFrom bs).1.2.2.2.2)).1).length) c2,.bool ((replyP 7 ((reqFrom bs).1.2.1) ((reqFrom bs).1.2.2.1) ((reqFrom bs).1.2.2.2.1) ((reqFrom bs).1.2.2.2.2)).2)]) r0 (qt r0 (xt 0 (v:=.slice A2 (((replyP 7 ((reqFrom bs).1.2.1) ((reqFrom bs).1.2.2.1) ((reqFrom bs).1.2.2.2.1) ((reqFrom bs).1.2.2.2.2)).1).length) c2) r0 r0) (qt r0 (xt 1 (v:=.bool ((replyP 7 ((reqFrom bs).1.2.1) ((reqFrom bs).1.2.2.1) ((reqFrom bs).1.2.2.2.1) ((reqFrom bs).1.2.2.2.2)).2)) r0 r0) (tA (.slice A2 (((replyP 7 ((reqFrom bs).1.2.1) ((reqFrom bs).1.2.2.1) ((reqFrom bs).1.2.2.2.1) ((reqFrom bs).1.2.2.2.2)).1).length) c2) r0 (tA (.bool ((replyP 7 ((reqFrom bs).1.2.1) ((reqFrom bs).1.2.2.1) ((reqFrom bs).1.2.2.2.1) ((reqFrom bs).1.2.2.2.2)).2)) r0 (nn ?_)))))
    have hs12:=hs11.pq [0,3] r0
    refine sr (tm (.slice A2 (((replyP 7 ((reqFrom bs).1.2.1) ((reqFrom bs).1.2.2.1) ((reqFrom bs).1.2.2.2.1) ((reqFrom bs).1.2.2.2.2)).1).length) c2) r0 (tA (.slice A2 (((replyP 7 ((reqFrom bs).1.2.1) ((reqFrom bs).1.2.2.1) ((reqFrom bs).1.2.2.2.1) ((reqFrom bs).1.2.2.2.2)).1).length) c2) r0 (nn (rt (fT (.slice A2 (((replyP 7 ((reqFrom bs).1.2.1) ((reqFrom bs).1.2.2.1) ((reqFrom bs).1.2.2.2.1) ((reqFrom bs).1.2.2.2.2)).1).length) c2) r0 ?_)))))
    have e13:(replyP 7 ((reqFrom bs).1.2.1) ((reqFrom bs).1.2.2.1) ((reqFrom bs).1.2.2.2.1) ((reqFrom bs).1.2.2.2.2)).1=(sayReq bs).2.2:=by(rw[sayR_n ‹_› (reqFrom_n ‹_› ‹_›) ‹_›]; done)
    have e14:=congrArg List.length e13
    have e15:sx=(sayReq bs).1:=by(rw[sayR_n ‹_› (reqFrom_n ‹_› ‹_›) ‹_›]) <;> (exact hst)
    have e16:to=(sayReq bs).2.1:=by(rw[sayR_n ‹_› (reqFrom_n ‹_› ‹_›) ‹_›]) <;> (exact hto)
    exact⟨A2,c2,(slv r0 e14 r0),(hs12.cast (lc (congrArg (It.blk tb 29) (lc (congrArg (Value.int .i64) e15) (lc r0 (lc r0 (lc (congrArg Str e16) r0))))) (lc (own_eq (g:=I) r0 e14 r0 e13) r0)))⟩
theorem iTalkSay (sx:Int) {Awt:Option Addr} {cwt:Nat} (wt:List Int) {Alg:Option Addr} {clg:Nat} (lg:List (List UInt8×List UInt8)) (to:List UInt8) {Abs:Option Addr} {cbs:Nat} (bs:List Int) (w:World) (hwt:Sl w [] 1 Awt wt.length cwt (wt.map I)) (hlg:Sl w [] 2 Alg lg.length clg (lg.flatMap gLogin)) (hlg_e: ∀ u∈lg,u.1.length≤9223372036854775807∧u.2.length≤9223372036854775807) (hto_n:to.length≤1099511627776) (hbs:Sl w [] 1 Abs bs.length cbs (bs.map I)) (hGp:VarP Tryz.prog w [] "internal/strconv.uint64pow10" isPow) (hEr:VarP Tryz.prog w [] "strconv.ErrRange" isIfc) (hEs:VarP Tryz.prog w [] "strconv.ErrSyntax" isIfc):Does Tryz.prog 15 [.agg #[I sx,.slice Awt wt.length cwt,.slice Alg lg.length clg,Str to],.slice Abs bs.length cbs] w (fun v w'=>∃ Awr:Option Addr,∃ cwr:Nat,∃ Alr:Option Addr,∃ clr:Nat,∃ Ayr:Option Addr,∃ cyr:Nat,v=.tuple #[.agg #[.int .i64 ((talkSay sx wt lg to bs).1.1),.slice Awr ((talkSay sx wt lg to bs).1.2.1).length cwr,.slice Alr ((talkSay sx wt lg to bs).1.2.2.1).length clr,Str ((talkSay sx wt lg to bs).1.2.2.2)],.slice Ayr ((talkSay sx wt lg to bs).2.1).length cyr,.bool ((talkSay sx wt lg to bs).2.2)]∧SH w w' [] [.own Awr (((talkSay sx wt lg to bs).1.2.1).length) cwr 3 1 (((talkSay sx wt lg to bs).1.2.1).map I),.own Alr (((talkSay sx wt lg to bs).1.2.2.1).length) clr 51 2 (((talkSay sx wt lg to bs).1.2.2.1).flatMap gLogin),.own Ayr (((talkSay sx wt lg to bs).2.1).length) cyr 3 1 (((talkSay sx wt lg to bs).2.1).map I)]):=by
 refine fE (N:=44) Tryz.func15 r0 (by kernel_rfl) r0 ?_
 have hs0:SH w w [] []:=SH.refl w []
 have hwt_m:wt.length≤9223372036854775807:=Nat.le_trans hwt.cap hwt.capMax
 have hlg_m:lg.length≤9223372036854775807:=Nat.le_trans hlg.cap hlg.capMax
 have hbs_m:bs.length≤9223372036854775807:=Nat.le_trans hbs.cap hbs.capMax
 refine sr (bx (v:=.agg #[I sx,(Z10 Awt wt cwt),(Z23 Alg lg clg),Str to]) (cs:=(Z2 sx Awt wt cwt Alg lg clg to)) hs0 r0 r0 trivial r0 (fun b1 w1 hs1=>?_))
 refine al (v:=.agg #[I 0,ns,ns,Str []]) (cs:=[I 0,ns,ns,Str []]) hs1 tz29 r0 trivial r0 (fun b2 w2 hs2=>?_)
 refine tA ns r0 (tA (.bool false) r0 (nn (sq (sr (qt r0 (lG (Z2 sx Awt wt cwt Alg lg clg to) hs2 0 r0 ag29) ?_)))))
 refine cL r0 (iTalkValid (sx:=sx) (Awt:=Awt) (cwt:=cwt) (wt:=wt) (Alg:=Alg) (clg:=clg) (lg:=lg) (to:=to) (w:=_) (hwt:=(hwt.up0 hs2)) (hlg:=(hlg.up0 hs2)) (hlg_e:=hlg_e) (hto_n:=(by(omega))) (hGp:=(hGp.up0 hs2)) (hEr:=(hEr.up0 hs2)) (hEs:=(hEs.up0 hs2))) ?_
 rintro _ w3 ⟨rfl,hs3⟩
 replace hs3:=hs2.call0 hs3
 refine qt r0 (nt (b:=talkOk sx wt lg to) r0) (tm (.bool (!(talkOk sx wt lg to))) r0 ?_)
 refine spl (b:=!(talkOk sx wt lg to)) 13 r0 (fun h1=>?_) (fun h1=>?_)
 ·have h2:(talkOk sx wt lg to)=false:=by simpa using h1
  refine gt5 r0 (gt5 r0 (gt5 r0 (qt r0 (pt (v:=.bool true) r0 r0) (tm (.bool true) r0 (gt5 r0 (gt5 r0 (gt5 r0 ?_)))))))
  refine qt r0 (pt (v:=.bool true) r0 r0) (nn (cdt r0 (sr (qt r0 (bdv (v:=.agg #[I 0,ns,ns,Str []]) [] r0 (fun _=>by kernel_rfl)) (sG [I 0,ns,ns,Str []] hs3 1 r0 ag29 (fun w4 hs4=>?_))))))
  refine tA ns r0 (tA (.bool false) r0 (nn (rt (tR ?_))))
  refine fret (v:=.tuple #[.agg #[I 0,ns,ns,Str []],ns,.bool false]) (resC hs4 1 r0 r0 ag29 r0 (.tmp (.tmp .nil))) r0 ?_
  have hs5:=hs4.nl [.own none (([]:List Int).length) 0 3 1 (([]:List Int).map I)] r0
  have hs6:SH w w4 [] [.blk b1 29 (Z2 sx Awt wt cwt Alg lg clg to),(Z11 b2),.own none (([]:List Int).length) 0 3 1 (([]:List Int).map I),.own none (([]:List (List UInt8×List UInt8)).length) 0 51 2 (([]:List (List UInt8×List UInt8)).flatMap gLogin)]:=SH.nils (by intro i hi; simp at hi; subst hi; exact nilItemF) hs5
  have hs7:=hs6.nl [.own none (([]:List Int).length) 0 3 1 (([]:List Int).map I)] r0
  have e1:talkSay sx wt lg to bs=((0,([]:List Int),([]:List (List UInt8×List UInt8)),[]),([]:List Int),false):=by exact talkSay_no (.inl ‹_›)
  have e2:=pj11 e1
  have e3:=pj121 e1
  have e4:=congrArg List.length e3
  have e5:=pj1221 e1
  have e6:=congrArg List.length e5
  have e7:=pj1222 e1
  have e8:=pj21 e1
  have e9:=congrArg List.length e8
  have e10:=pj22 e1
  exact⟨none,0,none,0,none,0,(tup3 (aggv (lc (congrArg (Value.int .i64) e2) (lc (slv r0 e4 r0) (lc (slv r0 e6 r0) (lc (congrArg (Str) e7) r0))))) (slv r0 e9 r0) (congrArg (Value.bool) e10)),((hs7.pq [2,3,4] r0).cast (lc (own_eq (g:=I) r0 e4 r0 e3) (lc (own_eqf (g:=gLogin) r0 e6 r0 e5) (lc (own_eq (g:=I) r0 e9 r0 e8) r0))))⟩
 ·have h3:(talkOk sx wt lg to)=true:=by simpa using h1
  refine q ⟨_,rfl,rfl⟩ r0 r0 (mv (v:=.slice Abs bs.length cbs) r0) (cl ⟨_,rfl,rfl⟩ r0 (iBytesValid (Azs:=Abs) (czs:=cbs) (zs:=bs) (w:=_) (hzs:=(hbs.up0 hs3))) ?_)
  rintro _ w5 ⟨rfl,hs8⟩
  replace hs8:=hs3.call0 hs8
  refine q ⟨_,rfl,rfl⟩ r0 r0 (nt (b:=isBytes bs) r0) (qt r0 (pf (v:=.bool (!(isBytes bs))) r0 r0) (tm (.bool (!(isBytes bs))) r0 ?_))
  refine spl (b:=!(isBytes bs)) 18 r0 (fun h4=>?_) (fun h4=>?_)
  ·have h5:(isBytes bs)=false:=by simpa using h4
   refine gt5 r0 (gt5 r0 (gt5 r0 (qt r0 (pt (v:=.bool true) r0 r0) (nn (cdt r0 (sq ?_))))))
   refine rg (qt r0 (bdv (v:=.agg #[I 0,ns,ns,Str []]) [] r0 (fun _=>by kernel_rfl)) (sG [I 0,ns,ns,Str []] hs8 1 r0 ag29 (fun w6 (hs9:SH w w6 [] [.blk b1 29 (Z2 sx Awt wt cwt Alg lg clg to),(Z11 b2)])=>?_)))
   refine tA ns r0 (tA (.bool false) r0 (nn (rt (tR ?_))))
   refine fret (v:=.tuple #[.agg #[I 0,ns,ns,Str []],ns,.bool false]) (resC hs9 1 r0 r0 ag29 r0 (.tmp (.tmp .nil))) r0 ?_
   have hs10:=hs9.nl [.own none (([]:List Int).length) 0 3 1 (([]:List Int).map I)] r0
   have hs11:=hs10.nl [.own none (([]:List (List UInt8×List UInt8)).length) 0 51 2 (([]:List (List UInt8×List UInt8)).flatMap gLogin)] r0
   have hs12:SH w w6 [] [.blk b1 29 (Z2 sx Awt wt cwt Alg lg clg to),(Z11 b2),.own none (([]:List Int).length) 0 3 1 (([]:List Int).map I),.own none (([]:List (List UInt8×List UInt8)).length) 0 51 2 (([]:List (List UInt8×List UInt8)).flatMap gLogin),.own none (([]:List Int).length) 0 3 1 (([]:List Int).map I)]:=SH.nils (by intro i hi; simp at hi; subst hi; exact nilItem) hs11
   have e11:talkSay sx wt lg to bs=((0,([]:List Int),([]:List (List UInt8×List UInt8)),[]),([]:List Int),false):=by exact talkSay_no (.inr (.inl ‹_›))
   have e12:=pj11 e11
   have e13:=pj121 e11
   have e14:=congrArg List.length e13
   have e15:=pj1221 e11
   have e16:=congrArg List.length e15
   have e17:=pj1222 e11
   have e18:=pj21 e11
   have e19:=congrArg List.length e18
   have e20:=pj22 e11
   exact⟨none,0,none,0,none,0,(tup3 (aggv (lc (congrArg (Value.int .i64) e12) (lc (slv r0 e14 r0) (lc (slv r0 e16 r0) (lc (congrArg (Str) e17) r0))))) (slv r0 e19 r0) (congrArg (Value.bool) e20)),((hs12.pq [2,3,4] r0).cast (lc (own_eq (g:=I) r0 e14 r0 e13) (lc (own_eqf (g:=gLogin) r0 e16 r0 e15) (lc (own_eq (g:=I) r0 e19 r0 e18) r0))))⟩
  ·have h6:(isBytes bs)=true:=by simpa using h4
   refine q ⟨_,rfl,rfl⟩ r0 r0 (fa 0 fo29_0 r0) (q ⟨_,rfl,rfl⟩ r0 r0 (lD (I sx) hs8 0 r0 one3) (q ⟨_,rfl,rfl⟩ r0 r0 (geq (k:=.i64) (a:=sx) (b:=3) r0 r0) (qt r0 (pf (v:=.bool (decide ((3:Int)≤sx))) r0 r0) (nn ?_))))
   refine cdd (p:=(3:Int)≤sx) r0 (fun h7=>?_) (fun h7=>?_)
   ·refine sr (qt r0 (bdv (v:=.agg #[I 0,ns,ns,Str []]) [] r0 (fun _=>by kernel_rfl)) (sG [I 0,ns,ns,Str []] hs8 1 r0 ag29 (fun w7 hs13=>?_)))
    refine tA ns r0 (tA (.bool false) r0 (nn (rt (tR ?_))))
    refine fret (v:=.tuple #[.agg #[I 0,ns,ns,Str []],ns,.bool false]) (resC hs13 1 r0 r0 ag29 r0 (.tmp (.tmp .nil))) r0 ?_
    have hs14:=hs13.nl [.own none (([]:List Int).length) 0 3 1 (([]:List Int).map I)] r0
    have hs15:SH w w7 [] [.blk b1 29 (Z2 sx Awt wt cwt Alg lg clg to),(Z11 b2),.own none (([]:List Int).length) 0 3 1 (([]:List Int).map I),.own none (([]:List (List UInt8×List UInt8)).length) 0 51 2 (([]:List (List UInt8×List UInt8)).flatMap gLogin)]:=SH.nils (by intro i hi; simp at hi; subst hi; exact nilItemF) hs14
    have hs16:=hs15.nl [.own none (([]:List Int).length) 0 3 1 (([]:List Int).map I)] r0
    have e21:talkSay sx wt lg to bs=((0,([]:List Int),([]:List (List UInt8×List UInt8)),[]),([]:List Int),false):=by exact talkSay_no (.inr (.inr ‹_›))
    have e22:=pj11 e21
    have e23:=pj121 e21
    have e24:=congrArg List.length e23
    have e25:=pj1221 e21
    have e26:=congrArg List.length e25
    have e27:=pj1222 e21
    have e28:=pj21 e21
    have e29:=congrArg List.length e28
    have e30:=pj22 e21
    exact⟨none,0,none,0,none,0,(tup3 (aggv (lc (congrArg (Value.int .i64) e22) (lc (slv r0 e24 r0) (lc (slv r0 e26 r0) (lc (congrArg (Str) e27) r0))))) (slv r0 e29 r0) (congrArg (Value.bool) e30)),((hs16.pq [2,3,4] r0).cast (lc (own_eq (g:=I) r0 e24 r0 e23) (lc (own_eqf (g:=gLogin) r0 e26 r0 e25) (lc (own_eq (g:=I) r0 e29 r0 e28) r0))))⟩
   ·refine sk (nN (sr (qt r0 (fa 0 fo29_0 r0) (qt r0 (lD (I sx) hs8 0 r0 one3) (tA (I sx) r0 (nl ?_))))))
    refine nN (sr (qt r0 (lG (Z2 sx Awt wt cwt Alg lg clg to) hs8 0 r0 ag29) (cL r0 (iCloneTalk (sx:=sx) (Awt:=Awt) (cwt:=cwt) (wt:=wt) (Alg:=Alg) (clg:=clg) (lg:=lg) (to:=to) (w:=_) (hwt:=(hwt.up0 hs8)) (hwt_n:=(by(have htp:=talkOk_parts (by assumption:talkOk sx wt lg to=true); have hmw:=methOk_len htp.2.1; omega))) (hlg:=(hlg.up0 hs8)) (hlg_e:=hlg_e) (hlg_n:=(by(have htp:=talkOk_parts (by assumption:talkOk sx wt lg to=true); have hmw:=methOk_len htp.2.1; omega)))) ?_)))
    rintro _ w8 ⟨Aw1,cw1,Al1,cl1,rfl,hs17⟩
    replace hs17:=hs8.call0 hs17
    refine al (v:=.agg #[I 0,ns,ns,Str []]) (cs:=[I 0,ns,ns,Str []]) hs17 tz29 r0 trivial r0 (fun b3 w9 (hs18:SH w w9 [] [.blk b1 29 (Z2 sx Awt wt cwt Alg lg clg to),(Z11 b2),(Z7 Aw1 wt cw1),(Z9 Al1 lg cl1),(Z11 b3)])=>?_)
    refine sG (Z2 sx Aw1 wt cw1 Al1 lg cl1 to) hs18 4 r0 ag29 (fun w10 hs19=>?_)
    refine nx (qt r0 (fa 0 fo29_0 r0) (sT (I 4) hs19 4 r0 one3 (fun w11 hs20=>?_)))
    refine nx (tA ns r0 (nn (sq ?_)))
    refine sr (tm (I sx) r0 (nn (bl (sr ?_))))
    refine qt r0 (eqi (k:=.i64) (a:=sx) (b:=0) r0 r0) (tA (.bool (decide (sx=0))) r0 (nn ?_))
    refine cdd (p:=sx=0) r0 (fun h8=>?_) (fun h8=>?_)
    ·refine rg (tm (Z13 Abs bs cbs) r0 (cL r0 (tkHello (tb:=b3) (Awt:=Aw1) (cwt:=cw1) (Alg:=Al1) (clg:=cl1) (sx:=4) (wt:=wt) (lg:=lg) (to:=to) (Abs:=Abs) (cbs:=cbs) (bs:=bs) (w:=_) (htk:=(blk_heap hs20 4 r0)) (hwt:=(hs20.sl 2 r0 (by intro k hk; simp at hk; subst hk; exact⟨_,memi 3 r0,rfl⟩))) (hlg:=(hs20.sl 3 r0 (by intro k hk; simp at hk; subst hk; exact⟨_,memi 3 r0,rfl⟩))) (hlg_e:=(by(first | assumption | (simp; done) | exact fun u hu=>Nat.le_trans (by first | exact p1 u hu | exact p2 u hu | exact p3 u hu) (by decide) | (intro u hu; simp at hu; simp[hu])))) (hbs:=(hbs.up hs20 (by simp) (fun k h=>.inr (hs20.lo1 4 r0 k h)))) (hst:=(by rfl)) (hto:=(by have htp:=talkOk_parts (by assumption:talkOk sx wt lg to=true); have hmw:=methOk_len htp.2.1; exact htp.2.2.2.2.2.2.2 (by omega)))) ?_))
     rintro _ w12 ⟨A1,c1,rfl,hs21⟩
     replace hs21:SH w w12 [] [.blk b1 29 (Z2 sx Awt wt cwt Alg lg clg to),(Z11 b2),(Z7 Aw1 wt cw1),(Z9 Al1 lg cl1),.blk b3 29 [I ((sayHello wt bs).1),(Z10 Aw1 wt cw1),(Z23 Al1 lg cl1),Str to],.own A1 (((sayHello wt bs).2).length) c1 3 1 (((sayHello wt bs).2).map I)]:=SH.callK (K:=[.blk b3 29 [I 4,(Z10 Aw1 wt cw1),(Z23 Al1 lg cl1),Str to]]) (R:=[.blk b1 29 (Z2 sx Awt wt cwt Alg lg clg to),(Z11 b2),(Z7 Aw1 wt cw1),(Z9 Al1 lg cl1)]) (hs20.pk [4,0,1,2,3] r0) hs21 r0
     refine tA (.slice A1 (((sayHello wt bs).2).length) c1) r0 (nl (bN (nN (sr (qt r0 (lG [I ((sayHello wt bs).1),(Z10 Aw1 wt cw1),(Z23 Al1 lg cl1),Str to] hs21 4 r0 ag29) (tm (.slice A1 (((sayHello wt bs).2).length) c1) r0 ?_))))))
     refine sG [I ((sayHello wt bs).1),(Z10 Aw1 wt cw1),(Z23 Al1 lg cl1),Str to] hs21 1 r0 ag29 (fun w13 hs22=>?_)
     refine tA (.slice A1 (((sayHello wt bs).2).length) c1) r0 (tA (.bool true) r0 (nn ?_))
     have hs23:=hs22.pq [1,2,4,5] r0
     refine rt (fret (v:=.tuple #[.agg #[I ((sayHello wt bs).1),(Z10 Aw1 wt cw1),(Z23 Al1 lg cl1),Str to],.slice A1 (((sayHello wt bs).2).length) c1,.bool true]) (resC hs23 3 r0 r0 ag29 r0 (.tmp (.tmp .nil))) r0 ?_)
     have e31:talkSay sx wt lg to bs=(((sayHello wt bs).1,wt,lg,to),(sayHello wt bs).2,true):=by exact talkSay_0 ‹_› ‹_› ‹_›
     have e32:=pj11 e31
     have e33:=pj121 e31
     have e34:=congrArg List.length e33
     have e35:=pj1221 e31
     have e36:=congrArg List.length e35
     have e37:=pj1222 e31
     have e38:=pj21 e31
     have e39:=congrArg List.length e38
     have e40:=pj22 e31
     exact⟨Aw1,cw1,Al1,cl1,A1,c1,(tup3 (aggv (lc (congrArg (Value.int .i64) e32) (lc (slv r0 e34 r0) (lc (slv r0 e36 r0) (lc (congrArg (Str) e37) r0))))) (slv r0 e39 r0) (congrArg (Value.bool) e40)),((hs23.pq [0,1,2] r0).cast (lc (own_eq (g:=I) r0 e34 r0 e33) (lc (own_eqf (g:=gLogin) r0 e36 r0 e35) (lc (own_eq (g:=I) r0 e39 r0 e38) r0))))⟩
    ·refine sr (qt r0 (eqi (k:=.i64) (a:=sx) (b:=1) r0 r0) (tA (.bool (decide (sx=1))) r0 (nn ?_)))
     refine cdd (p:=sx=1) r0 (fun h9=>?_) (fun h9=>?_)
     ·refine rg (tm (Z13 Abs bs cbs) r0 (cL r0 (tkLogin (tb:=b3) (Awt:=Aw1) (cwt:=cw1) (Alg:=Al1) (clg:=cl1) (sx:=4) (wt:=wt) (lg:=lg) (to:=to) (Abs:=Abs) (cbs:=cbs) (bs:=bs) (w:=_) (htk:=(blk_heap hs20 4 r0)) (hwt:=(hs20.sl 2 r0 (by intro k hk; simp at hk; subst hk; exact⟨_,memi 3 r0,rfl⟩))) (hlg:=(hs20.sl 3 r0 (by intro k hk; simp at hk; subst hk; exact⟨_,memi 3 r0,rfl⟩))) (hlg_e:=(by(first | assumption | (simp; done) | exact fun u hu=>Nat.le_trans (by first | exact p1 u hu | exact p2 u hu | exact p3 u hu) (by decide) | (intro u hu; simp at hu; simp[hu])))) (hbs:=(hbs.up hs20 (by simp) (fun k h=>.inr (hs20.lo1 4 r0 k h)))) (hst:=(by rfl)) (hto:=(by have htp:=talkOk_parts (by assumption:talkOk sx wt lg to=true); have hmw:=methOk_len htp.2.1; exact htp.2.2.2.2.2.2.2 (by omega)))) ?_))
      rintro _ w14 ⟨A2,c2,rfl,hs24⟩
      replace hs24:SH w w14 [] [.blk b1 29 (Z2 sx Awt wt cwt Alg lg clg to),(Z11 b2),(Z7 Aw1 wt cw1),(Z9 Al1 lg cl1),.blk b3 29 [I ((sayLogin lg bs).1),(Z10 Aw1 wt cw1),(Z23 Al1 lg cl1),Str to],.own A2 (((sayLogin lg bs).2).length) c2 3 1 (((sayLogin lg bs).2).map I)]:=SH.callK (K:=[.blk b3 29 [I 4,(Z10 Aw1 wt cw1),(Z23 Al1 lg cl1),Str to]]) (R:=[.blk b1 29 (Z2 sx Awt wt cwt Alg lg clg to),(Z11 b2),(Z7 Aw1 wt cw1),(Z9 Al1 lg cl1)]) (hs20.pk [4,0,1,2,3] r0) hs24 r0
      refine tA (.slice A2 (((sayLogin lg bs).2).length) c2) r0 (nl (bN (nN (sr (qt r0 (lG [I ((sayLogin lg bs).1),(Z10 Aw1 wt cw1),(Z23 Al1 lg cl1),Str to] hs24 4 r0 ag29) (tm (.slice A2 (((sayLogin lg bs).2).length) c2) r0 ?_))))))
      refine sG [I ((sayLogin lg bs).1),(Z10 Aw1 wt cw1),(Z23 Al1 lg cl1),Str to] hs24 1 r0 ag29 (fun w15 hs25=>?_)
      refine tA (.slice A2 (((sayLogin lg bs).2).length) c2) r0 (tA (.bool true) r0 (nn ?_))
      have hs26:=hs25.pq [1,2,4,5] r0
      refine rt (fret (v:=.tuple #[.agg #[I ((sayLogin lg bs).1),(Z10 Aw1 wt cw1),(Z23 Al1 lg cl1),Str to],.slice A2 (((sayLogin lg bs).2).length) c2,.bool true]) (resC hs26 3 r0 r0 ag29 r0 (.tmp (.tmp .nil))) r0 ?_)
      have e41:talkSay sx wt lg to bs=(((sayLogin lg bs).1,wt,lg,to),(sayLogin lg bs).2,true):=by exact talkSay_1 ‹_› ‹_› ‹_›
      have e42:=pj11 e41
      have e43:=pj121 e41
      have e44:=congrArg List.length e43
      have e45:=pj1221 e41
      have e46:=congrArg List.length e45
      have e47:=pj1222 e41
      have e48:=pj21 e41
      have e49:=congrArg List.length e48
      have e50:=pj22 e41
      exact⟨Aw1,cw1,Al1,cl1,A2,c2,(tup3 (aggv (lc (congrArg (Value.int .i64) e42) (lc (slv r0 e44 r0) (lc (slv r0 e46 r0) (lc (congrArg (Str) e47) r0))))) (slv r0 e49 r0) (congrArg (Value.bool) e50)),((hs26.pq [0,1,2] r0).cast (lc (own_eq (g:=I) r0 e44 r0 e43) (lc (own_eqf (g:=gLogin) r0 e46 r0 e45) (lc (own_eq (g:=I) r0 e49 r0 e48) r0))))⟩
     ·refine sr (qt r0 (eqi (k:=.i64) (a:=sx) (b:=2) r0 r0) (tA (.bool (decide (sx=2))) r0 (nn ?_)))
      refine cdd (p:=sx=2) r0 (fun h10=>?_) (fun h10=>?_)
      ·refine rg (tm (Z13 Abs bs cbs) r0 (cL r0 (tkRequest (tb:=b3) (Awt:=Aw1) (cwt:=cw1) (Alg:=Al1) (clg:=cl1) (sx:=4) (wt:=wt) (lg:=lg) (to:=to) (Abs:=Abs) (cbs:=cbs) (bs:=bs) (w:=_) (htk:=(blk_heap hs20 4 r0)) (hwt:=(hs20.sl 2 r0 (by intro k hk; simp at hk; subst hk; exact⟨_,memi 3 r0,rfl⟩))) (hlg:=(hs20.sl 3 r0 (by intro k hk; simp at hk; subst hk; exact⟨_,memi 3 r0,rfl⟩))) (hlg_e:=(by(first | assumption | (simp; done) | exact fun u hu=>Nat.le_trans (by first | exact p1 u hu | exact p2 u hu | exact p3 u hu) (by decide) | (intro u hu; simp at hu; simp[hu])))) (hbs:=(hbs.up hs20 (by simp) (fun k h=>.inr (hs20.lo1 4 r0 k h)))) (hst:=(by rfl)) (hto:=(by have htp:=talkOk_parts (by assumption:talkOk sx wt lg to=true); have hmw:=methOk_len htp.2.1; exact htp.2.2.2.2.2.2.2 (by omega))) (hGp:=(hGp.up hs20 (by simp) (fun k h=>.inr (hs20.lo1 4 r0 k h))))) ?_))
       rintro _ w16 ⟨A3,c3,rfl,hs27⟩
       replace hs27:SH w w16 [] [.blk b1 29 (Z2 sx Awt wt cwt Alg lg clg to),(Z11 b2),(Z7 Aw1 wt cw1),(Z9 Al1 lg cl1),.blk b3 29 [I ((sayReq bs).1),(Z10 Aw1 wt cw1),(Z23 Al1 lg cl1),Str ((sayReq bs).2.1)],.own A3 (((sayReq bs).2.2).length) c3 3 1 (((sayReq bs).2.2).map I)]:=SH.callK (K:=[.blk b3 29 [I 4,(Z10 Aw1 wt cw1),(Z23 Al1 lg cl1),Str to]]) (R:=[.blk b1 29 (Z2 sx Awt wt cwt Alg lg clg to),(Z11 b2),(Z7 Aw1 wt cw1),(Z9 Al1 lg cl1)]) (hs20.pk [4,0,1,2,3] r0) hs27 r0
       refine tA (.slice A3 (((sayReq bs).2.2).length) c3) r0 (nl (bN (nN (sr (qt r0 (lG [I ((sayReq bs).1),(Z10 Aw1 wt cw1),(Z23 Al1 lg cl1),Str ((sayReq bs).2.1)] hs27 4 r0 ag29) (tm (.slice A3 (((sayReq bs).2.2).length) c3) r0 ?_))))))
       refine sG [I ((sayReq bs).1),(Z10 Aw1 wt cw1),(Z23 Al1 lg cl1),Str ((sayReq bs).2.1)] hs27 1 r0 ag29 (fun w17 hs28=>?_)
       refine tA (.slice A3 (((sayReq bs).2.2).length) c3) r0 (tA (.bool true) r0 (nn ?_))
       have hs29:=hs28.pq [1,2,4,5] r0
       refine rt (fret (v:=.tuple #[.agg #[I ((sayReq bs).1),(Z10 Aw1 wt cw1),(Z23 Al1 lg cl1),Str ((sayReq bs).2.1)],.slice A3 (((sayReq bs).2.2).length) c3,.bool true]) (resC hs29 3 r0 r0 ag29 r0 (.tmp (.tmp .nil))) r0 ?_)
       have e51:talkSay sx wt lg to bs=(((sayReq bs).1,wt,lg,(sayReq bs).2.1),(sayReq bs).2.2,true):=by exact talkSay_2 ‹_› ‹_› ‹_›
       have e52:=pj11 e51
       have e53:=pj121 e51
       have e54:=congrArg List.length e53
       have e55:=pj1221 e51
       have e56:=congrArg List.length e55
       have e57:=pj1222 e51
       have e58:=pj21 e51
       have e59:=congrArg List.length e58
       have e60:=pj22 e51
       exact⟨Aw1,cw1,Al1,cl1,A3,c3,(tup3 (aggv (lc (congrArg (Value.int .i64) e52) (lc (slv r0 e54 r0) (lc (slv r0 e56 r0) (lc (congrArg (Str) e57) r0))))) (slv r0 e59 r0) (congrArg (Value.bool) e60)),((hs29.pq [0,1,2] r0).cast (lc (own_eq (g:=I) r0 e54 r0 e53) (lc (own_eqf (g:=gLogin) r0 e56 r0 e55) (lc (own_eq (g:=I) r0 e59 r0 e58) r0))))⟩
      ·refine sk (bN (nN (sr (qt r0 (lG [I 4,(Z10 Aw1 wt cw1),(Z23 Al1 lg cl1),Str to] hs20 4 r0 ag29) (tm ns r0 (sG [I 4,(Z10 Aw1 wt cw1),(Z23 Al1 lg cl1),Str to] hs20 1 r0 ag29 (fun w18 (hs30:SH w w18 [] [.blk b1 29 (Z2 sx Awt wt cwt Alg lg clg to),(Z7 Aw1 wt cw1),(Z9 Al1 lg cl1),.blk b3 29 [I 4,(Z10 Aw1 wt cw1),(Z23 Al1 lg cl1),Str to],.blk b2 29 [I 4,(Z10 Aw1 wt cw1),(Z23 Al1 lg cl1),Str to]])=>?_)))))))
       refine tA ns r0 (tA (.bool true) r0 (nn ?_))
       have hs31:=hs30.pq [1,2,4] r0
       refine rt (fret (v:=.tuple #[.agg #[I 4,(Z10 Aw1 wt cw1),(Z23 Al1 lg cl1),Str to],ns,.bool true]) (resC hs31 2 r0 r0 ag29 r0 (.tmp (.tmp .nil))) r0 ?_)
       have hs32:=hs31.nl [.own none (([]:List Int).length) 0 3 1 (([]:List Int).map I)] r0
       have e61:talkSay sx wt lg to bs=((4,wt,lg,to),([]:List Int),true):=by(exfalso; have htp:=talkOk_parts (by assumption:talkOk sx wt lg to=true); have hmw:=methOk_len htp.2.1; omega)
       have e62:=pj11 e61
       have e63:=pj121 e61
       have e64:=congrArg List.length e63
       have e65:=pj1221 e61
       have e66:=congrArg List.length e65
       have e67:=pj1222 e61
       have e68:=pj21 e61
       have e69:=congrArg List.length e68
       have e70:=pj22 e61
       exact⟨Aw1,cw1,Al1,cl1,none,0,(tup3 (aggv (lc (congrArg (Value.int .i64) e62) (lc (slv r0 e64 r0) (lc (slv r0 e66 r0) (lc (congrArg (Str) e67) r0))))) (slv r0 e69 r0) (congrArg (Value.bool) e70)),((hs32.pq [0,1,3] r0).cast (lc (own_eq (g:=I) r0 e64 r0 e63) (lc (own_eqf (g:=gLogin) r0 e66 r0 e65) (lc (own_eq (g:=I) r0 e69 r0 e68) r0))))⟩
theorem sL23Hello (sx:Int) {Awt:Option Addr} {cwt:Nat} (wt:List Int) {Alg:Option Addr} {clg:Nat} (lg:List (List UInt8×List UInt8)) (to:List UInt8) {Abs:Option Addr} {cbs:Nat} (bs:List Int) (w:World) (hwt:Sl w [] 1 Awt wt.length cwt (wt.map I)) (hwt_n:wt.length≤1099511627776) (hlg:Sl w [] 2 Alg lg.length clg (lg.flatMap gLogin)) (hlg_e: ∀ u∈lg,u.1.length≤9223372036854775807∧u.2.length≤9223372036854775807) (hlg_n:lg.length≤1099511627776) (hbs:Sl w [] 1 Abs bs.length cbs (bs.map I)):Does Tryz.prog 42 [.agg #[I sx,.slice Awt wt.length cwt,.slice Alg lg.length clg,Str to],.slice Abs bs.length cbs] w (fun v w'=>∃ Awr:Option Addr,∃ cwr:Nat,∃ Alr:Option Addr,∃ clr:Nat,∃ Ayr:Option Addr,∃ cyr:Nat,v=.tuple #[.agg #[.int .i64 ((sayHello wt bs).1),.slice Awr wt.length cwr,.slice Alr lg.length clr,Str []],.slice Ayr ((sayHello wt bs).2).length cyr]∧SH w w' [] [.own Awr wt.length cwr 3 1 (wt.map I),.own Alr lg.length clr 51 2 (lg.flatMap gLogin),.own Ayr (((sayHello wt bs).2).length) cyr 3 1 (((sayHello wt bs).2).map I)]):=by
 refine fE (N:=52) Tryz.func42 r0 (by kernel_rfl) r0 ?_
 have hs0:=SH.refl w []
 have hwt_m:wt.length≤9223372036854775807:=Nat.le_trans hwt.cap hwt.capMax
 have hlg_m:lg.length≤9223372036854775807:=Nat.le_trans hlg.cap hlg.capMax
 have hbs_m:bs.length≤9223372036854775807:=Nat.le_trans hbs.cap hbs.capMax
 refine sr (bx (v:=.agg #[I sx,(Z10 Awt wt cwt),(Z23 Alg lg clg),Str to]) (cs:=(Z2 sx Awt wt cwt Alg lg clg to)) hs0 r0 r0 trivial r0 (fun b1 w1 hs1=>?_))
 refine al (v:=.agg #[I 0,ns,ns,Str []]) (cs:=[I 0,ns,ns,Str []]) hs1 tz29 r0 trivial r0 (fun b2 w2 hs2=>?_)
 refine tA ns r0 (nx (tm (Z13 Abs bs cbs) r0 (cL r0 (sHelloFrom (Abs:=Abs) (cbs:=cbs) (bs:=bs) (w:=_) (hbs:=(hbs.up0 hs2))) ?_)))
 rintro _ w3 ⟨A1,c1,rfl,hs3⟩
 replace hs3:=hs2.call0 hs3
 refine tm (.tuple #[.slice A1 (((helloFrom bs).1).length) c1,I ((helloFrom bs).2.1),.bool ((helloFrom bs).2.2)]) r0 (qt r0 (xt 0 (v:=.slice A1 (((helloFrom bs).1).length) c1) r0 r0) (qt r0 (xt 1 (v:=I ((helloFrom bs).2.1)) r0 r0) (qt r0 (xt 2 (v:=.bool ((helloFrom bs).2.2)) r0 r0) (tA (.slice A1 (((helloFrom bs).1).length) c1) r0 (tA (I ((helloFrom bs).2.1)) r0 (tA (.bool ((helloFrom bs).2.2)) r0 (nl ?_)))))))
 refine nN (sq (sr (tm (.bool ((helloFrom bs).2.2)) r0 (qt r0 (nt (b:=(helloFrom bs).2.2) r0) (tm (.bool (!((helloFrom bs).2.2))) r0 ?_)))))
 refine spl (b:=!((helloFrom bs).2.2)) 20 r0 (fun h1=>?_) (fun h1=>?_)
 ·have h2:((helloFrom bs).2.2)=false:=by simpa using h1
  refine gt5 r0 (gt5 r0 (gt5 r0 (gt5 r0 (qt r0 (pt (v:=.bool true) r0 r0) (nn (cdt r0 ?_))))))
  refine sr (qt r0 (lG (Z2 sx Awt wt cwt Alg lg clg to) hs3 0 r0 ag29) (cL r0 (sL23Next (sx:=sx) (Awt:=Awt) (cwt:=cwt) (wt:=wt) (Alg:=Alg) (clg:=clg) (lg:=lg) (to:=to) (nst:=4) (w:=_) (hwt:=(hwt.up0 hs3)) (hwt_n:=(by omega)) (hlg:=(hlg.up0 hs3)) (hlg_e:=hlg_e) (hlg_n:=(by omega))) ?_))
  rintro _ w4 ⟨Aw1,cw1,Al1,cl1,rfl,hs4⟩
  replace hs4:=hs3.call0 hs4
  refine bsk hs4 sl22 [] [] trivial r0 (fun b3 w5 hs5=>?_)
  refine sG [I 4,(Z10 Aw1 wt cw1),(Z23 Al1 lg cl1),Str []] hs5 1 r0 ag29 (fun w6 hs6=>?_)
  refine tA (sb b3 (([]:List Int).length) 0) r0 (nn ?_)
  have hs7:=hs6.pq [2,3,4,5] r0
  refine rt (tR ?_)
  refine fret (v:=.tuple #[.agg #[I 4,(Z10 Aw1 wt cw1),(Z23 Al1 lg cl1),Str []],sb b3 (([]:List Int).length) 0]) (resC hs7 3 r0 r0 ag29 r0 (.tmp .nil)) r0 ?_
  have e1:4=(sayHello wt bs).1:=by(rw[sayH_no1 ‹_›]; done)
  have e2:([]:List Int)=(sayHello wt bs).2:=by(rw[sayH_no1 ‹_›]; done)
  have e3:=congrArg List.length e2
  exact⟨Aw1,cw1,Al1,cl1,(Z6 b3),0,(tup2 (aggv (lc (congrArg (Value.int .i64) e1) (lc r0 (lc r0 (lc r0 r0))))) (slv r0 e3 r0)),((hs7.pq [0,1,2] r0).cast (lc r0 (lc r0 (lc (own_eq (g:=I) r0 e3 r0 e2) r0))))⟩
 ·have h3:((helloFrom bs).2.2)=true:=by simpa using h1
  refine q ⟨_,rfl,rfl⟩ r0 r0 (mv (v:=I ((helloFrom bs).2.1)) r0) (q ⟨_,rfl,rfl⟩ r0 r0 (mv (v:=.slice Abs bs.length cbs) r0) (q ⟨_,rfl,rfl⟩ r0 r0 (lnA (n:=bs.length) sl22 r0) (q ⟨_,rfl,rfl⟩ r0 r0 (nei (k:=.i64) (a:=(helloFrom bs).2.1) (b:=(bs.length:Int)) r0 r0) (qt r0 (pf (v:=.bool (decide (((helloFrom bs).2.1)≠(bs.length:Int)))) r0 r0) (nn ?_)))))
  refine cdd (p:=((helloFrom bs).2.1)≠(bs.length:Int)) r0 (fun h4=>?_) (fun h4=>?_)
  ·refine sr (qt r0 (lG (Z2 sx Awt wt cwt Alg lg clg to) hs3 0 r0 ag29) (cL r0 (sL23Next (sx:=sx) (Awt:=Awt) (cwt:=cwt) (wt:=wt) (Alg:=Alg) (clg:=clg) (lg:=lg) (to:=to) (nst:=4) (w:=_) (hwt:=(hwt.up0 hs3)) (hwt_n:=(by omega)) (hlg:=(hlg.up0 hs3)) (hlg_e:=hlg_e) (hlg_n:=(by omega))) ?_))
   rintro _ w7 ⟨Aw2,cw2,Al2,cl2,rfl,hs8⟩
   replace hs8:=hs3.call0 hs8
   refine bsk hs8 sl22 [] [] trivial r0 (fun b4 w8 hs9=>?_)
   refine sG [I 4,(Z10 Aw2 wt cw2),(Z23 Al2 lg cl2),Str []] hs9 1 r0 ag29 (fun w9 hs10=>?_)
   refine tA (sb b4 (([]:List Int).length) 0) r0 (nn ?_)
   have hs11:=hs10.pq [2,3,4,5] r0
   refine rt (tR ?_)
   refine fret (v:=.tuple #[.agg #[I 4,(Z10 Aw2 wt cw2),(Z23 Al2 lg cl2),Str []],sb b4 (([]:List Int).length) 0]) (resC hs11 3 r0 r0 ag29 r0 (.tmp .nil)) r0 ?_
   have e4:4=(sayHello wt bs).1:=by(rw[sayH_no3 ‹_›]; done)
   have e5:([]:List Int)=(sayHello wt bs).2:=by(rw[sayH_no3 ‹_›]; done)
   have e6:=congrArg List.length e5
   exact⟨Aw2,cw2,Al2,cl2,(Z6 b4),0,(tup2 (aggv (lc (congrArg (Value.int .i64) e4) (lc r0 (lc r0 (lc r0 r0))))) (slv r0 e6 r0)),((hs11.pq [0,1,2] r0).cast (lc r0 (lc r0 (lc (own_eq (g:=I) r0 e6 r0 e5) r0))))⟩
  ·refine sk (nN (sr (qt r0 (fa 1 fo29_1 r0) (qt r0 (lD (Z13 Awt wt cwt) hs3 0 r0 one22) (tm (.slice A1 (((helloFrom bs).1).length) c1) r0 (cL r0 (sHelloPick (Awt:=Awt) (cwt:=cwt) (wt:=wt) (Ams:=A1) (cms:=c1) (ms:=(helloFrom bs).1) (w:=_) (hwt:=(hwt.up0 hs3)) (hms:=(hs3.sl0 2 r0))) ?_))))))
   rintro _ w10 ⟨rfl,hs12⟩
   replace hs12:=hs3.call0 hs12
   refine tA (I (helloPick wt ((helloFrom bs).1))) r0 (nx (tm (I (helloPick wt ((helloFrom bs).1))) r0 (cL r0 (sPickBytes (m:=helloPick wt ((helloFrom bs).1)) (w:=_) (hm:=(by exact pick_bd _ _))) ?_)))
   rintro _ w11 ⟨A2,c2,rfl,hs13⟩
   replace hs13:=hs12.call0 hs13
   refine tm (.tuple #[.slice A2 ([5,(helloPick wt ((helloFrom bs).1))].length) c2,.bool true]) r0 (qt r0 (xt 0 (v:=.slice A2 ([5,(helloPick wt ((helloFrom bs).1))].length) c2) r0 r0) (qt r0 (xt 1 (v:=.bool true) r0 r0) (tA (.slice A2 ([5,(helloPick wt ((helloFrom bs).1))].length) c2) r0 (tA (.bool true) r0 (nn (sq ?_))))))
   refine sr (tm (I (helloPick wt ((helloFrom bs).1))) r0 (nn (bl (sr ?_))))
   refine qt r0 (eqi (k:=.i64) (a:=helloPick wt ((helloFrom bs).1)) (b:=0) r0 r0) (tA (.bool (decide ((helloPick wt ((helloFrom bs).1))=0))) r0 (nn ?_))
   refine cdd (p:=(helloPick wt ((helloFrom bs).1))=0) r0 (fun h5=>?_) (fun h5=>?_)
   ·refine sr (qt r0 (lG (Z2 sx Awt wt cwt Alg lg clg to) hs13 0 r0 ag29) (cL r0 (sL23Next (sx:=sx) (Awt:=Awt) (cwt:=cwt) (wt:=wt) (Alg:=Alg) (clg:=clg) (lg:=lg) (to:=to) (nst:=2) (w:=_) (hwt:=(hwt.up0 hs13)) (hwt_n:=(by omega)) (hlg:=(hlg.up0 hs13)) (hlg_e:=hlg_e) (hlg_n:=(by omega))) ?_))
    rintro _ w12 ⟨Aw3,cw3,Al3,cl3,rfl,hs14⟩
    replace hs14:=hs13.call0 hs14
    refine tm (.slice A2 ([5,(helloPick wt ((helloFrom bs).1))].length) c2) r0 (sG [I 2,(Z10 Aw3 wt cw3),(Z23 Al3 lg cl3),Str []] hs14 1 r0 ag29 (fun w13 hs15=>?_))
    refine tA (.slice A2 ([5,(helloPick wt ((helloFrom bs).1))].length) c2) r0 (nn ?_)
    have hs16:=hs15.pq [2,3,4,5] r0
    refine rt (bR (tR ?_))
    refine fret (v:=.tuple #[.agg #[I 2,(Z10 Aw3 wt cw3),(Z23 Al3 lg cl3),Str []],.slice A2 ([5,(helloPick wt ((helloFrom bs).1))].length) c2]) (resC hs16 3 r0 r0 ag29 r0 (.tmp .nil)) r0 ?_
    have e7:2=(sayHello wt bs).1:=by(rw[sayH_y2 ‹_› ‹_›]; simp[h3,h4,h5]; done)
    have e8:[5,(helloPick wt ((helloFrom bs).1))]=(sayHello wt bs).2:=by(rw[sayH_y2 ‹_› ‹_›]; done)
    have e9:=congrArg List.length e8
    exact⟨Aw3,cw3,Al3,cl3,A2,c2,(tup2 (aggv (lc (congrArg (Value.int .i64) e7) (lc r0 (lc r0 (lc r0 r0))))) (slv r0 e9 r0)),((hs16.pq [1,2,0] r0).cast (lc r0 (lc r0 (lc (own_eq (g:=I) r0 e9 r0 e8) r0))))⟩
   ·refine sr (qt r0 (eqi (k:=.i64) (a:=helloPick wt ((helloFrom bs).1)) (b:=2) r0 r0) (tA (.bool (decide ((helloPick wt ((helloFrom bs).1))=2))) r0 (nn ?_)))
    refine cdd (p:=(helloPick wt ((helloFrom bs).1))=2) r0 (fun h6=>?_) (fun h6=>?_)
    ·refine sr (qt r0 (lG (Z2 sx Awt wt cwt Alg lg clg to) hs13 0 r0 ag29) (cL r0 (sL23Next (sx:=sx) (Awt:=Awt) (cwt:=cwt) (wt:=wt) (Alg:=Alg) (clg:=clg) (lg:=lg) (to:=to) (nst:=1) (w:=_) (hwt:=(hwt.up0 hs13)) (hwt_n:=(by omega)) (hlg:=(hlg.up0 hs13)) (hlg_e:=hlg_e) (hlg_n:=(by omega))) ?_))
     rintro _ w14 ⟨Aw4,cw4,Al4,cl4,rfl,hs17⟩
     replace hs17:=hs13.call0 hs17
     refine tm (.slice A2 ([5,(helloPick wt ((helloFrom bs).1))].length) c2) r0 (sG [I 1,(Z10 Aw4 wt cw4),(Z23 Al4 lg cl4),Str []] hs17 1 r0 ag29 (fun w15 hs18=>?_))
     refine tA (.slice A2 ([5,(helloPick wt ((helloFrom bs).1))].length) c2) r0 (nn ?_)
     have hs19:=hs18.pq [2,3,4,5] r0
     refine rt (bR (tR ?_))
     refine fret (v:=.tuple #[.agg #[I 1,(Z10 Aw4 wt cw4),(Z23 Al4 lg cl4),Str []],.slice A2 ([5,(helloPick wt ((helloFrom bs).1))].length) c2]) (resC hs19 3 r0 r0 ag29 r0 (.tmp .nil)) r0 ?_
     have e10:1=(sayHello wt bs).1:=by(rw[sayH_y2 ‹_› ‹_›]; simp[h3,h4,h5,h6]; done)
     have e11:[5,(helloPick wt ((helloFrom bs).1))]=(sayHello wt bs).2:=by(rw[sayH_y2 ‹_› ‹_›]; done)
     have e12:=congrArg List.length e11
     exact⟨Aw4,cw4,Al4,cl4,A2,c2,(tup2 (aggv (lc (congrArg (Value.int .i64) e10) (lc r0 (lc r0 (lc r0 r0))))) (slv r0 e12 r0)),((hs19.pq [1,2,0] r0).cast (lc r0 (lc r0 (lc (own_eq (g:=I) r0 e12 r0 e11) r0))))⟩
    ·refine sk (bN (nN (sr (qt r0 (lG (Z2 sx Awt wt cwt Alg lg clg to) hs13 0 r0 ag29) (cL r0 (sL23Next (sx:=sx) (Awt:=Awt) (cwt:=cwt) (wt:=wt) (Alg:=Alg) (clg:=clg) (lg:=lg) (to:=to) (nst:=4) (w:=_) (hwt:=(hwt.up0 hs13)) (hwt_n:=(by omega)) (hlg:=(hlg.up0 hs13)) (hlg_e:=hlg_e) (hlg_n:=(by omega))) ?_)))))
     rintro _ w16 ⟨Aw5,cw5,Al5,cl5,rfl,hs20⟩
     replace hs20:=hs13.call0 hs20
     refine tm (.slice A2 ([5,(helloPick wt ((helloFrom bs).1))].length) c2) r0 (sG [I 4,(Z10 Aw5 wt cw5),(Z23 Al5 lg cl5),Str []] hs20 1 r0 ag29 (fun w17 hs21=>?_))
     refine tA (.slice A2 ([5,(helloPick wt ((helloFrom bs).1))].length) c2) r0 (nn ?_)
     have hs22:=hs21.pq [2,3,4,5] r0
     refine rt (fret (v:=.tuple #[.agg #[I 4,(Z10 Aw5 wt cw5),(Z23 Al5 lg cl5),Str []],.slice A2 ([5,(helloPick wt ((helloFrom bs).1))].length) c2]) (resC hs22 3 r0 r0 ag29 r0 (.tmp .nil)) r0 ?_)
     have e13:4=(sayHello wt bs).1:=by(rw[sayH_y2 ‹_› ‹_›]; simp[h3,h4,h5,h6]; done)
     have e14:[5,(helloPick wt ((helloFrom bs).1))]=(sayHello wt bs).2:=by(rw[sayH_y2 ‹_› ‹_›]; done)
     have e15:=congrArg List.length e14
     exact⟨Aw5,cw5,Al5,cl5,A2,c2,(tup2 (aggv (lc (congrArg (Value.int .i64) e13) (lc r0 (lc r0 (lc r0 r0))))) (slv r0 e15 r0)),((hs22.pq [1,2,0] r0).cast (lc r0 (lc r0 (lc (own_eq (g:=I) r0 e15 r0 e14) r0))))⟩
theorem sL23Login (sx:Int) {Awt:Option Addr} {cwt:Nat} (wt:List Int) {Alg:Option Addr} {clg:Nat} (lg:List (List UInt8×List UInt8)) (to:List UInt8) {Abs:Option Addr} {cbs:Nat} (bs:List Int) (w:World) (hwt:Sl w [] 1 Awt wt.length cwt (wt.map I)) (hwt_n:wt.length≤1099511627776) (hlg:Sl w [] 2 Alg lg.length clg (lg.flatMap gLogin)) (hlg_e: ∀ u∈lg,u.1.length≤9223372036854775807∧u.2.length≤9223372036854775807) (hlg_n:lg.length≤1099511627776) (hbs:Sl w [] 1 Abs bs.length cbs (bs.map I)):Does Tryz.prog 43 [.agg #[I sx,.slice Awt wt.length cwt,.slice Alg lg.length clg,Str to],.slice Abs bs.length cbs] w (fun v w'=>∃ Awr:Option Addr,∃ cwr:Nat,∃ Alr:Option Addr,∃ clr:Nat,∃ Ayr:Option Addr,∃ cyr:Nat,v=.tuple #[.agg #[.int .i64 ((sayLogin lg bs).1),.slice Awr wt.length cwr,.slice Alr lg.length clr,Str []],.slice Ayr ((sayLogin lg bs).2).length cyr]∧SH w w' [] [.own Awr wt.length cwr 3 1 (wt.map I),.own Alr lg.length clr 51 2 (lg.flatMap gLogin),.own Ayr (((sayLogin lg bs).2).length) cyr 3 1 (((sayLogin lg bs).2).map I)]):=by
 refine fE (N:=37) Tryz.func43 r0 (by kernel_rfl) r0 ?_
 have hs0:SH w w [] []:=SH.refl w []
 have hwt_m:wt.length≤9223372036854775807:=Nat.le_trans hwt.cap hwt.capMax
 have hlg_m:lg.length≤9223372036854775807:=Nat.le_trans hlg.cap hlg.capMax
 have hbs_m:bs.length≤9223372036854775807:=Nat.le_trans hbs.cap hbs.capMax
 refine sr (bx (v:=.agg #[I sx,(Z10 Awt wt cwt),(Z23 Alg lg clg),Str to]) (cs:=(Z2 sx Awt wt cwt Alg lg clg to)) hs0 r0 r0 trivial r0 (fun b1 w1 hs1=>?_))
 refine al (v:=.agg #[I 0,ns,ns,Str []]) (cs:=[I 0,ns,ns,Str []]) hs1 tz29 r0 trivial r0 (fun b2 w2 hs2=>?_)
 refine tA ns r0 (nx (tm (Z13 Abs bs cbs) r0 (cL r0 (sLoginFrom (Abs:=Abs) (cbs:=cbs) (bs:=bs) (w:=_) (hbs:=(hbs.up0 hs2))) ?_)))
 rintro _ w3 ⟨rfl,hs3⟩
 replace hs3:=hs2.call0 hs3
 refine tm (.tuple #[.agg #[Str ((loginFrom bs).1.1),Str ((loginFrom bs).1.2)],I ((loginFrom bs).2.1),.bool ((loginFrom bs).2.2)]) r0 (qt r0 (xt 0 (v:=.agg #[Str ((loginFrom bs).1.1),Str ((loginFrom bs).1.2)]) r0 r0) (qt r0 (xt 1 (v:=I ((loginFrom bs).2.1)) r0 r0) (qt r0 (xt 2 (v:=.bool ((loginFrom bs).2.2)) r0 r0) (al (v:=.agg #[Str [],Str []]) (cs:=[Str [],Str []]) hs3 tz51 r0 trivial r0 (fun b3 w4 hs4=>?_)))))
 refine sG [Str ((loginFrom bs).1.1),Str ((loginFrom bs).1.2)] hs4 2 r0 ag51 (fun w5 hs5=>?_)
 refine tA (I ((loginFrom bs).2.1)) r0 (tA (.bool ((loginFrom bs).2.2)) r0 (nn (sq (sr (tm (.bool ((loginFrom bs).2.2)) r0 ?_)))))
 refine qt r0 (nt (b:=(loginFrom bs).2.2) r0) (tm (.bool (!((loginFrom bs).2.2))) r0 ?_)
 refine spl (b:=!((loginFrom bs).2.2)) 17 r0 (fun h1=>?_) (fun h1=>?_)
 ·have h2:((loginFrom bs).2.2)=false:=by simpa using h1
  refine gt5 r0 (gt5 r0 (gt5 r0 (gt5 r0 (qt r0 (pt (v:=.bool true) r0 r0) (nn (cdt r0 ?_))))))
  refine sr (qt r0 (lG (Z2 sx Awt wt cwt Alg lg clg to) hs5 0 r0 ag29) (cL r0 (sL23Next (sx:=sx) (Awt:=Awt) (cwt:=cwt) (wt:=wt) (Alg:=Alg) (clg:=clg) (lg:=lg) (to:=to) (nst:=4) (w:=_) (hwt:=(hwt.up0 hs5)) (hwt_n:=(by(omega))) (hlg:=(hlg.up0 hs5)) (hlg_e:=hlg_e) (hlg_n:=(by(omega)))) ?_))
  rintro _ w6 ⟨Aw1,cw1,Al1,cl1,rfl,hs6⟩
  replace hs6:=hs5.call0 hs6
  refine bsk hs6 sl22 [] [] trivial r0 (fun b4 w7 hs7=>?_)
  refine sG [I 4,(Z10 Aw1 wt cw1),(Z23 Al1 lg cl1),Str []] hs7 1 r0 ag29 (fun w8 hs8=>?_)
  refine tA (sb b4 (([]:List Int).length) 0) r0 (nn ?_)
  have hs9:SH w w8 [] [(Z7 Aw1 wt cw1),(Z9 Al1 lg cl1),(Z27 b4),.blk b2 29 [I 4,(Z10 Aw1 wt cw1),(Z23 Al1 lg cl1),Str []]]:=hs8.pk [2,3,4,5] r0
  refine rt (tR ?_)
  refine fret (v:=.tuple #[.agg #[I 4,(Z10 Aw1 wt cw1),(Z23 Al1 lg cl1),Str []],sb b4 (([]:List Int).length) 0]) (resC hs9 3 r0 r0 ag29 r0 (.tmp .nil)) r0 ?_
  have e1:4=(sayLogin lg bs).1:=by(rw[sayL_no1 ‹_›]; done)
  have e2:([]:List Int)=(sayLogin lg bs).2:=by(rw[sayL_no1 ‹_›]; done)
  have e3:=congrArg List.length e2
  exact⟨Aw1,cw1,Al1,cl1,(Z6 b4),0,(tup2 (aggv (lc (congrArg (Value.int .i64) e1) (lc r0 (lc r0 (lc r0 r0))))) (slv r0 e3 r0)),((hs9.pq [0,1,2] r0).cast (lc r0 (lc r0 (lc (own_eq (g:=I) r0 e3 r0 e2) r0))))⟩
 ·have h3:((loginFrom bs).2.2)=true:=by simpa using h1
  refine q ⟨_,rfl,rfl⟩ r0 r0 (mv (v:=I ((loginFrom bs).2.1)) r0) (q ⟨_,rfl,rfl⟩ r0 r0 (mv (v:=.slice Abs bs.length cbs) r0) (q ⟨_,rfl,rfl⟩ r0 r0 (lnA (n:=bs.length) sl22 r0) (q ⟨_,rfl,rfl⟩ r0 r0 (nei (k:=.i64) (a:=(loginFrom bs).2.1) (b:=(bs.length:Int)) r0 r0) (qt r0 (pf (v:=.bool (decide (((loginFrom bs).2.1)≠(bs.length:Int)))) r0 r0) (nn ?_)))))
  refine cdd (p:=((loginFrom bs).2.1)≠(bs.length:Int)) r0 (fun h4=>?_) (fun h4=>?_)
  ·refine sr (qt r0 (lG (Z2 sx Awt wt cwt Alg lg clg to) hs5 0 r0 ag29) (cL r0 (sL23Next (sx:=sx) (Awt:=Awt) (cwt:=cwt) (wt:=wt) (Alg:=Alg) (clg:=clg) (lg:=lg) (to:=to) (nst:=4) (w:=_) (hwt:=(hwt.up0 hs5)) (hwt_n:=(by(omega))) (hlg:=(hlg.up0 hs5)) (hlg_e:=hlg_e) (hlg_n:=(by(omega)))) ?_))
   rintro _ w9 ⟨Aw2,cw2,Al2,cl2,rfl,hs10⟩
   replace hs10:=hs5.call0 hs10
   refine bsk hs10 sl22 [] [] trivial r0 (fun b5 w10 hs11=>?_)
   refine sG [I 4,(Z10 Aw2 wt cw2),(Z23 Al2 lg cl2),Str []] hs11 1 r0 ag29 (fun w11 (hs12:SH w w11 [] [.blk b1 29 (Z2 sx Awt wt cwt Alg lg clg to),.blk b3 51 [Str ((loginFrom bs).1.1),Str ((loginFrom bs).1.2)],(Z7 Aw2 wt cw2),(Z9 Al2 lg cl2),(Z27 b5),.blk b2 29 [I 4,(Z10 Aw2 wt cw2),(Z23 Al2 lg cl2),Str []]])=>?_)
   refine tA (sb b5 (([]:List Int).length) 0) r0 (nn ?_)
   have hs13:=hs12.pq [2,3,4,5] r0
   refine rt (tR ?_)
   refine fret (v:=.tuple #[.agg #[I 4,(Z10 Aw2 wt cw2),(Z23 Al2 lg cl2),Str []],sb b5 (([]:List Int).length) 0]) (resC hs13 3 r0 r0 ag29 r0 (.tmp .nil)) r0 ?_
   have e4:4=(sayLogin lg bs).1:=by(rw[sayL_no3 ‹_›]; done)
   have e5:([]:List Int)=(sayLogin lg bs).2:=by(rw[sayL_no3 ‹_›]; done)
   have e6:=congrArg List.length e5
   exact⟨Aw2,cw2,Al2,cl2,(Z6 b5),0,(tup2 (aggv (lc (congrArg (Value.int .i64) e4) (lc r0 (lc r0 (lc r0 r0))))) (slv r0 e6 r0)),((hs13.pq [0,1,2] r0).cast (lc r0 (lc r0 (lc (own_eq (g:=I) r0 e6 r0 e5) r0))))⟩
  ·refine sk (nN (sq (sr (qt r0 (fa 2 fo29_2 r0) (qt r0 (lD (.slice Alg lg.length clg) hs5 0 r0 one27) (qt r0 (lG [Str ((loginFrom bs).1.1),Str ((loginFrom bs).1.2)] hs5 2 r0 ag51) ?_))))))
   refine cL r0 (sLoginFits (Alg:=Alg) (clg:=clg) (lg:=lg) (lu:=(loginFrom bs).1.1) (lw:=(loginFrom bs).1.2) (w:=_) (hlg:=(hlg.up0 hs5)) (hlg_e:=hlg_e) (hlu_n:=(by(have hlk:=loginOk_fit (loginFrom_ok (by assumption:(loginFrom bs).2.2=true)).2.1; omega))) (hlw_n:=(by(have hlk:=loginOk_fit (loginFrom_ok (by assumption:(loginFrom bs).2.2=true)).2.1; omega)))) ?_
   rintro _ w12 ⟨rfl,hs14⟩
   replace hs14:=hs5.call0 hs14
   refine qt r0 (nt (b:=fitsL lg ((loginFrom bs).1.1) ((loginFrom bs).1.2)) r0) (nn ?_)
   refine cd (b:=!(fitsL lg ((loginFrom bs).1.1) ((loginFrom bs).1.2))) r0 (fun h5=>?_) (fun h5=>?_)
   ·have h6:(fitsL lg ((loginFrom bs).1.1) ((loginFrom bs).1.2))=false:=by simpa using h5
    refine sr (qt r0 (lG (Z2 sx Awt wt cwt Alg lg clg to) hs14 0 r0 ag29) (cL r0 (sL23Next (sx:=sx) (Awt:=Awt) (cwt:=cwt) (wt:=wt) (Alg:=Alg) (clg:=clg) (lg:=lg) (to:=to) (nst:=4) (w:=_) (hwt:=(hwt.up0 hs14)) (hwt_n:=(by(omega))) (hlg:=(hlg.up0 hs14)) (hlg_e:=hlg_e) (hlg_n:=(by(omega)))) ?_))
    rintro _ w13 ⟨Aw3,cw3,Al3,cl3,rfl,hs15⟩
    replace hs15:=hs14.call0 hs15
    refine cL r0 (sLoginReply (f:=false) (w:=_)) ?_
    rintro _ w14 ⟨A1,c1,rfl,hs16⟩
    replace hs16:=hs15.call0 hs16
    refine sG [I 4,(Z10 Aw3 wt cw3),(Z23 Al3 lg cl3),Str []] hs16 1 r0 ag29 (fun w15 hs17=>?_)
    refine tA (.slice A1 ((lrB false).length) c1) r0 (nn ?_)
    have hs18:SH w w15 [] [(Z7 Aw3 wt cw3),(Z9 Al3 lg cl3),.own A1 ((lrB false).length) c1 3 1 ((lrB false).map I),.blk b2 29 [I 4,(Z10 Aw3 wt cw3),(Z23 Al3 lg cl3),Str []]]:=hs17.pk [2,3,4,5] r0
    refine rt (tR ?_)
    refine fret (v:=.tuple #[.agg #[I 4,(Z10 Aw3 wt cw3),(Z23 Al3 lg cl3),Str []],.slice A1 ((lrB false).length) c1]) (resC hs18 3 r0 r0 ag29 r0 (.tmp .nil)) r0 ?_
    have e7:4=(sayLogin lg bs).1:=by(rw[sayL_y2 ‹_› ‹_›]; simp[h3,h4,h6]; done)
    have e8:lrB false=(sayLogin lg bs).2:=by(rw[sayL_y2 ‹_› ‹_›]; simp[h3,h4,h6]; done)
    have e9:=congrArg List.length e8
    exact⟨Aw3,cw3,Al3,cl3,A1,c1,(tup2 (aggv (lc (congrArg (Value.int .i64) e7) (lc r0 (lc r0 (lc r0 r0))))) (slv r0 e9 r0)),((hs18.pq [0,1,2] r0).cast (lc r0 (lc r0 (lc (own_eq (g:=I) r0 e9 r0 e8) r0))))⟩
   ·have h7:(fitsL lg ((loginFrom bs).1.1) ((loginFrom bs).1.2))=true:=by simpa using h5
    refine sk (nN (sr (qt r0 (lG (Z2 sx Awt wt cwt Alg lg clg to) hs14 0 r0 ag29) (cL r0 (sL23Next (sx:=sx) (Awt:=Awt) (cwt:=cwt) (wt:=wt) (Alg:=Alg) (clg:=clg) (lg:=lg) (to:=to) (nst:=2) (w:=_) (hwt:=(hwt.up0 hs14)) (hwt_n:=(by(omega))) (hlg:=(hlg.up0 hs14)) (hlg_e:=hlg_e) (hlg_n:=(by(omega)))) ?_))))
    rintro _ w16 ⟨Aw4,cw4,Al4,cl4,rfl,hs19⟩
    replace hs19:=hs14.call0 hs19
    refine cL r0 (sLoginReply (f:=true) (w:=_)) ?_
    rintro _ w17 ⟨A2,c2,rfl,hs20⟩
    replace hs20:=hs19.call0 hs20
    refine sG [I 2,(Z10 Aw4 wt cw4),(Z23 Al4 lg cl4),Str []] hs20 1 r0 ag29 (fun w18 (hs21:SH w w18 [] [.blk b1 29 (Z2 sx Awt wt cwt Alg lg clg to),.blk b3 51 [Str ((loginFrom bs).1.1),Str ((loginFrom bs).1.2)],(Z7 Aw4 wt cw4),(Z9 Al4 lg cl4),.own A2 ((lrB true).length) c2 3 1 ((lrB true).map I),.blk b2 29 [I 2,(Z10 Aw4 wt cw4),(Z23 Al4 lg cl4),Str []]])=>?_)
    refine tA (.slice A2 ((lrB true).length) c2) r0 (nn ?_)
    have hs22:=hs21.pq [2,3,4,5] r0
    refine rt (fret (v:=.tuple #[.agg #[I 2,(Z10 Aw4 wt cw4),(Z23 Al4 lg cl4),Str []],.slice A2 ((lrB true).length) c2]) (resC hs22 3 r0 r0 ag29 r0 (.tmp .nil)) r0 ?_)
    have e10:2=(sayLogin lg bs).1:=by(rw[sayL_y2 ‹_› ‹_›]; simp[h3,h4,h7]; done)
    have e11:lrB true=(sayLogin lg bs).2:=by(rw[sayL_y2 ‹_› ‹_›]; simp[h3,h4,h7]; done)
    have e12:=congrArg List.length e11
    exact⟨Aw4,cw4,Al4,cl4,A2,c2,(tup2 (aggv (lc (congrArg (Value.int .i64) e10) (lc r0 (lc r0 (lc r0 r0))))) (slv r0 e12 r0)),((hs22.pq [0,1,2] r0).cast (lc r0 (lc r0 (lc (own_eq (g:=I) r0 e12 r0 e11) r0))))⟩
theorem sL23Request (sx:Int) {Awt:Option Addr} {cwt:Nat} (wt:List Int) {Alg:Option Addr} {clg:Nat} (lg:List (List UInt8×List UInt8)) (to:List UInt8) {Abs:Option Addr} {cbs:Nat} (bs:List Int) (w:World) (hwt:Sl w [] 1 Awt wt.length cwt (wt.map I)) (hwt_n:wt.length≤1099511627776) (hlg:Sl w [] 2 Alg lg.length clg (lg.flatMap gLogin)) (hlg_e: ∀ u∈lg,u.1.length≤9223372036854775807∧u.2.length≤9223372036854775807) (hlg_n:lg.length≤1099511627776) (hbs:Sl w [] 1 Abs bs.length cbs (bs.map I)):Does Tryz.prog 44 [.agg #[I sx,.slice Awt wt.length cwt,.slice Alg lg.length clg,Str to],.slice Abs bs.length cbs] w (fun v w'=>∃ Awr:Option Addr,∃ cwr:Nat,∃ Alr:Option Addr,∃ clr:Nat,∃ Ayr:Option Addr,∃ cyr:Nat,v=.tuple #[.agg #[.int .i64 ((sayReq bs).1),.slice Awr wt.length cwr,.slice Alr lg.length clr,Str ((sayReq bs).2.1)],.slice Ayr ((sayReq bs).2.2).length cyr]∧SH w w' [] [.own Awr wt.length cwr 3 1 (wt.map I),.own Alr lg.length clr 51 2 (lg.flatMap gLogin),.own Ayr (((sayReq bs).2.2).length) cyr 3 1 (((sayReq bs).2.2).map I)]):=by
 refine fE (N:=57) Tryz.func44 r0 (by kernel_rfl) r0 ?_
 have hs0:SH w w [] []:=SH.refl w []
 have hwt_m:wt.length≤9223372036854775807:=Nat.le_trans hwt.cap hwt.capMax
 have hlg_m:lg.length≤9223372036854775807:=Nat.le_trans hlg.cap hlg.capMax
 have hbs_m:bs.length≤9223372036854775807:=Nat.le_trans hbs.cap hbs.capMax
 refine sr (bx (v:=.agg #[I sx,(Z10 Awt wt cwt),(Z23 Alg lg clg),Str to]) (cs:=(Z2 sx Awt wt cwt Alg lg clg to)) hs0 r0 r0 trivial r0 (fun b1 w1 hs1=>?_))
 refine al (v:=.agg #[I 0,ns,ns,Str []]) (cs:=[I 0,ns,ns,Str []]) hs1 tz29 r0 trivial r0 (fun b2 w2 hs2=>?_)
 refine tA ns r0 (nx (tm (Z13 Abs bs cbs) r0 (cL r0 (sRequestFrom (Abs:=Abs) (cbs:=cbs) (bs:=bs) (w:=_) (hbs:=(hbs.up0 hs2))) ?_)))
 rintro _ w3 ⟨Aq1,cq1,rfl,hs3⟩
 replace hs3:=hs2.call0 hs3
 refine tm (.tuple #[.agg #[I ((reqFrom bs).1.1),I ((reqFrom bs).1.2.1),.slice Aq1 (((reqFrom bs).1.2.2.1).length) cq1,Str ((reqFrom bs).1.2.2.2.1),I ((reqFrom bs).1.2.2.2.2)],I ((reqFrom bs).2.1),.bool ((reqFrom bs).2.2)]) r0 (qt r0 (xt 0 (v:=.agg #[I ((reqFrom bs).1.1),I ((reqFrom bs).1.2.1),.slice Aq1 (((reqFrom bs).1.2.2.1).length) cq1,Str ((reqFrom bs).1.2.2.2.1),I ((reqFrom bs).1.2.2.2.2)]) r0 r0) (qt r0 (xt 1 (v:=I ((reqFrom bs).2.1)) r0 r0) (qt r0 (xt 2 (v:=.bool ((reqFrom bs).2.2)) r0 r0) (al (v:=.agg #[I 0,I 0,ns,Str [],I 0]) (cs:=[I 0,I 0,ns,Str [],I 0]) hs3 tz45 r0 trivial r0 (fun b3 w4 hs4=>?_)))))
 refine sG [I ((reqFrom bs).1.1),I ((reqFrom bs).1.2.1),.slice Aq1 (((reqFrom bs).1.2.2.1).length) cq1,Str ((reqFrom bs).1.2.2.2.1),I ((reqFrom bs).1.2.2.2.2)] hs4 3 r0 ag45 (fun w5 hs5=>?_)
 refine tA (I ((reqFrom bs).2.1)) r0 (tA (.bool ((reqFrom bs).2.2)) r0 (nn (sq (sr (tm (.bool ((reqFrom bs).2.2)) r0 ?_)))))
 refine qt r0 (nt (b:=(reqFrom bs).2.2) r0) (tm (.bool (!((reqFrom bs).2.2))) r0 ?_)
 refine spl (b:=!((reqFrom bs).2.2)) 22 r0 (fun h1=>?_) (fun h1=>?_)
 ·have h2:((reqFrom bs).2.2)=false:=by simpa using h1
  refine gt5 r0 (gt5 r0 (gt5 r0 (gt5 r0 (qt r0 (pt (v:=.bool true) r0 r0) (nn (cdt r0 ?_))))))
  refine sr (qt r0 (lG (Z2 sx Awt wt cwt Alg lg clg to) hs5 0 r0 ag29) (cL r0 (sL23Next (sx:=sx) (Awt:=Awt) (cwt:=cwt) (wt:=wt) (Alg:=Alg) (clg:=clg) (lg:=lg) (to:=to) (nst:=4) (w:=_) (hwt:=(hwt.up0 hs5)) (hwt_n:=(by(omega))) (hlg:=(hlg.up0 hs5)) (hlg_e:=hlg_e) (hlg_n:=(by(omega)))) ?_))
  rintro _ w6 ⟨Aw1,cw1,Al1,cl1,rfl,hs6⟩
  replace hs6:=hs5.call0 hs6
  refine bsk hs6 sl22 [] [] trivial r0 (fun b4 w7 hs7=>?_)
  refine sG [I 4,(Z10 Aw1 wt cw1),(Z23 Al1 lg cl1),Str []] hs7 1 r0 ag29 (fun w8 hs8=>?_)
  refine tA (sb b4 (([]:List Int).length) 0) r0 (nn ?_)
  have hs9:SH w w8 [] [(Z7 Aw1 wt cw1),(Z9 Al1 lg cl1),(Z27 b4),.blk b2 29 [I 4,(Z10 Aw1 wt cw1),(Z23 Al1 lg cl1),Str []]]:=hs8.pk [3,4,5,6] r0
  refine rt (tR ?_)
  refine fret (v:=.tuple #[.agg #[I 4,(Z10 Aw1 wt cw1),(Z23 Al1 lg cl1),Str []],sb b4 (([]:List Int).length) 0]) (resC hs9 3 r0 r0 ag29 r0 (.tmp .nil)) r0 ?_
  have e1:4=(sayReq bs).1:=by(rw[sayR_no1 ‹_›]; done)
  have e2:[]=(sayReq bs).2.1:=by(rw[sayR_no1 ‹_›]; done)
  have e3:([]:List Int)=(sayReq bs).2.2:=by(rw[sayR_no1 ‹_›]; done)
  have e4:=congrArg List.length e3
  exact⟨Aw1,cw1,Al1,cl1,(Z6 b4),0,(tup2 (aggv (lc (congrArg (Value.int .i64) e1) (lc r0 (lc r0 (lc (congrArg (Str) e2) r0))))) (slv r0 e4 r0)),((hs9.pq [0,1,2] r0).cast (lc r0 (lc r0 (lc (own_eq (g:=I) r0 e4 r0 e3) r0))))⟩
 ·have h3:((reqFrom bs).2.2)=true:=by simpa using h1
  refine q ⟨_,rfl,rfl⟩ r0 r0 (mv (v:=I ((reqFrom bs).2.1)) r0) (q ⟨_,rfl,rfl⟩ r0 r0 (mv (v:=.slice Abs bs.length cbs) r0) (q ⟨_,rfl,rfl⟩ r0 r0 (lnA (n:=bs.length) sl22 r0) (q ⟨_,rfl,rfl⟩ r0 r0 (nei (k:=.i64) (a:=(reqFrom bs).2.1) (b:=(bs.length:Int)) r0 r0) (qt r0 (pf (v:=.bool (decide (((reqFrom bs).2.1)≠(bs.length:Int)))) r0 r0) (nn ?_)))))
  refine cdd (p:=((reqFrom bs).2.1)≠(bs.length:Int)) r0 (fun h4=>?_) (fun h4=>?_)
  ·refine sr (qt r0 (lG (Z2 sx Awt wt cwt Alg lg clg to) hs5 0 r0 ag29) (cL r0 (sL23Next (sx:=sx) (Awt:=Awt) (cwt:=cwt) (wt:=wt) (Alg:=Alg) (clg:=clg) (lg:=lg) (to:=to) (nst:=4) (w:=_) (hwt:=(hwt.up0 hs5)) (hwt_n:=(by(omega))) (hlg:=(hlg.up0 hs5)) (hlg_e:=hlg_e) (hlg_n:=(by(omega)))) ?_))
   rintro _ w9 ⟨Aw2,cw2,Al2,cl2,rfl,hs10⟩
   replace hs10:=hs5.call0 hs10
   refine bsk hs10 sl22 [] [] trivial r0 (fun b5 w10 hs11=>?_)
   refine sG [I 4,(Z10 Aw2 wt cw2),(Z23 Al2 lg cl2),Str []] hs11 1 r0 ag29 (fun w11 (hs12:SH w w11 [] [.blk b1 29 (Z2 sx Awt wt cwt Alg lg clg to),.own Aq1 (((reqFrom bs).1.2.2.1).length) cq1 3 1 (((reqFrom bs).1.2.2.1).map I),.blk b3 45 [I ((reqFrom bs).1.1),I ((reqFrom bs).1.2.1),.slice Aq1 (((reqFrom bs).1.2.2.1).length) cq1,Str ((reqFrom bs).1.2.2.2.1),I ((reqFrom bs).1.2.2.2.2)],(Z7 Aw2 wt cw2),(Z9 Al2 lg cl2),(Z27 b5),.blk b2 29 [I 4,(Z10 Aw2 wt cw2),(Z23 Al2 lg cl2),Str []]])=>?_)
   refine tA (sb b5 (([]:List Int).length) 0) r0 (nn ?_)
   have hs13:=hs12.pq [3,4,5,6] r0
   refine rt (tR ?_)
   refine fret (v:=.tuple #[.agg #[I 4,(Z10 Aw2 wt cw2),(Z23 Al2 lg cl2),Str []],sb b5 (([]:List Int).length) 0]) (resC hs13 3 r0 r0 ag29 r0 (.tmp .nil)) r0 ?_
   have e5:4=(sayReq bs).1:=by(rw[sayR_no3 ‹_›]; done)
   have e6:[]=(sayReq bs).2.1:=by(rw[sayR_no3 ‹_›]; done)
   have e7:([]:List Int)=(sayReq bs).2.2:=by(rw[sayR_no3 ‹_›]; done)
   have e8:=congrArg List.length e7
   exact⟨Aw2,cw2,Al2,cl2,(Z6 b5),0,(tup2 (aggv (lc (congrArg (Value.int .i64) e5) (lc r0 (lc r0 (lc (congrArg (Str) e6) r0))))) (slv r0 e8 r0)),((hs13.pq [0,1,2] r0).cast (lc r0 (lc r0 (lc (own_eq (g:=I) r0 e8 r0 e7) r0))))⟩
  ·refine sk (nN (sq (sr (qt r0 (fa 0 fo45_0 r0) (qt r0 (lD (I ((reqFrom bs).1.1)) hs5 3 r0 one3) (qt r0 (nei (k:=.i64) (a:=(reqFrom bs).1.1) (b:=1) r0 r0) ?_))))))
   refine nn ?_
   refine cdd (p:=((reqFrom bs).1.1)≠1) r0 (fun h5=>?_) (fun h5=>?_)
   ·refine sr (qt r0 (fa 1 fo45_1 r0) (qt r0 (lG [I ((reqFrom bs).1.2.1),.slice Aq1 (((reqFrom bs).1.2.2.1).length) cq1,Str ((reqFrom bs).1.2.2.2.1),I ((reqFrom bs).1.2.2.2.2)] hs5 3 r0 ag43) (cL r0 (sReplyBytes (c:=7) (ak:=(reqFrom bs).1.2.1) (Aaq:=Aq1) (caq:=cq1) (aq:=(reqFrom bs).1.2.2.1) (an:=(reqFrom bs).1.2.2.2.1) (apt:=(reqFrom bs).1.2.2.2.2) (w:=_) (haq:=(hs5.sl0 2 r0)) (han_n:=(by(have hrn:=reqFrom_nm bs; omega)))) ?_)))
    rintro _ w12 ⟨A1,c1,rfl,hs14⟩
    replace hs14:=hs5.call0 hs14
    refine tm (.tuple #[.slice A1 (((replyP 7 ((reqFrom bs).1.2.1) ((reqFrom bs).1.2.2.1) ((reqFrom bs).1.2.2.2.1) ((reqFrom bs).1.2.2.2.2)).1).length) c1,.bool ((replyP 7 ((reqFrom bs).1.2.1) ((reqFrom bs).1.2.2.1) ((reqFrom bs).1.2.2.2.1) ((reqFrom bs).1.2.2.2.2)).2)]) r0 (qt r0 (xt 0 (v:=.slice A1 (((replyP 7 ((reqFrom bs).1.2.1) ((reqFrom bs).1.2.2.1) ((reqFrom bs).1.2.2.2.1) ((reqFrom bs).1.2.2.2.2)).1).length) c1) r0 r0) (qt r0 (xt 1 (v:=.bool ((replyP 7 ((reqFrom bs).1.2.1) ((reqFrom bs).1.2.2.1) ((reqFrom bs).1.2.2.2.1) ((reqFrom bs).1.2.2.2.2)).2)) r0 r0) (tA (.slice A1 (((replyP 7 ((reqFrom bs).1.2.1) ((reqFrom bs).1.2.2.1) ((reqFrom bs).1.2.2.2.1) ((reqFrom bs).1.2.2.2.2)).1).length) c1) r0 (tA (.bool ((replyP 7 ((reqFrom bs).1.2.1) ((reqFrom bs).1.2.2.1) ((reqFrom bs).1.2.2.2.1) ((reqFrom bs).1.2.2.2.2)).2)) r0 (nn ?_)))))
    have hs15:SH w w12 [] [.blk b1 29 (Z2 sx Awt wt cwt Alg lg clg to),(Z11 b2),.own A1 (((replyP 7 ((reqFrom bs).1.2.1) ((reqFrom bs).1.2.2.1) ((reqFrom bs).1.2.2.2.1) ((reqFrom bs).1.2.2.2.2)).1).length) c1 3 1 (((replyP 7 ((reqFrom bs).1.2.1) ((reqFrom bs).1.2.2.1) ((reqFrom bs).1.2.2.2.1) ((reqFrom bs).1.2.2.2.2)).1).map I)]:=hs14.pk [0,1,4] r0
    refine sr (qt r0 (lG (Z2 sx Awt wt cwt Alg lg clg to) hs15 0 r0 ag29) (cL r0 (sL23Next (sx:=sx) (Awt:=Awt) (cwt:=cwt) (wt:=wt) (Alg:=Alg) (clg:=clg) (lg:=lg) (to:=to) (nst:=4) (w:=_) (hwt:=(hwt.up0 hs15)) (hwt_n:=(by(omega))) (hlg:=(hlg.up0 hs15)) (hlg_e:=hlg_e) (hlg_n:=(by(omega)))) ?_))
    rintro _ w13 ⟨Aw3,cw3,Al3,cl3,rfl,hs16⟩
    replace hs16:=hs15.call0 hs16
    refine tm (.slice A1 (((replyP 7 ((reqFrom bs).1.2.1) ((reqFrom bs).1.2.2.1) ((reqFrom bs).1.2.2.2.1) ((reqFrom bs).1.2.2.2.2)).1).length) c1) r0 (sG [I 4,(Z10 Aw3 wt cw3),(Z23 Al3 lg cl3),Str []] hs16 1 r0 ag29 (fun w14 hs17=>?_))
    refine tA (.slice A1 (((replyP 7 ((reqFrom bs).1.2.1) ((reqFrom bs).1.2.2.1) ((reqFrom bs).1.2.2.2.1) ((reqFrom bs).1.2.2.2.2)).1).length) c1) r0 (nn (rt (tR ?_)))
    refine fret (v:=.tuple #[.agg #[I 4,(Z10 Aw3 wt cw3),(Z23 Al3 lg cl3),Str []],.slice A1 (((replyP 7 ((reqFrom bs).1.2.1) ((reqFrom bs).1.2.2.1) ((reqFrom bs).1.2.2.2.1) ((reqFrom bs).1.2.2.2.2)).1).length) c1]) (resC hs17 4 r0 r0 ag29 r0 (.tmp .nil)) r0 ?_
    have e9:4=(sayReq bs).1:=by(rw[sayR_n ‹_› (Decidable.not_not.1 ‹_›) ‹_›]; done)
    have e10:[]=(sayReq bs).2.1:=by(rw[sayR_n ‹_› (Decidable.not_not.1 ‹_›) ‹_›]; done)
    have e11:(replyP 7 ((reqFrom bs).1.2.1) ((reqFrom bs).1.2.2.1) ((reqFrom bs).1.2.2.2.1) ((reqFrom bs).1.2.2.2.2)).1=(sayReq bs).2.2:=by(rw[sayR_n ‹_› (Decidable.not_not.1 ‹_›) ‹_›]; done)
    have e12:=congrArg List.length e11
    exact⟨Aw3,cw3,Al3,cl3,A1,c1,(tup2 (aggv (lc (congrArg (Value.int .i64) e9) (lc r0 (lc r0 (lc (congrArg (Str) e10) r0))))) (slv r0 e12 r0)),((hs17.pq [2,3,1] r0).cast (lc r0 (lc r0 (lc (own_eq (g:=I) r0 e12 r0 e11) r0))))⟩
   ·refine sk (nN (sr (qt r0 (fa 1 fo45_1 r0) (qt r0 (lG [I ((reqFrom bs).1.2.1),.slice Aq1 (((reqFrom bs).1.2.2.1).length) cq1,Str ((reqFrom bs).1.2.2.2.1),I ((reqFrom bs).1.2.2.2.2)] hs5 3 r0 ag43) (cL r0 (sReplyBytes (c:=0) (ak:=(reqFrom bs).1.2.1) (Aaq:=Aq1) (caq:=cq1) (aq:=(reqFrom bs).1.2.2.1) (an:=(reqFrom bs).1.2.2.2.1) (apt:=(reqFrom bs).1.2.2.2.2) (w:=_) (haq:=(hs5.sl0 2 r0)) (han_n:=(by(have hrn:=reqFrom_nm bs; omega)))) ?_)))))
    rintro _ w15 ⟨A2,c2,rfl,hs18⟩
    replace hs18:=hs5.call0 hs18
    refine tm (.tuple #[.slice A2 (((replyP 0 ((reqFrom bs).1.2.1) ((reqFrom bs).1.2.2.1) ((reqFrom bs).1.2.2.2.1) ((reqFrom bs).1.2.2.2.2)).1).length) c2,.bool ((replyP 0 ((reqFrom bs).1.2.1) ((reqFrom bs).1.2.2.1) ((reqFrom bs).1.2.2.2.1) ((reqFrom bs).1.2.2.2.2)).2)]) r0 (qt r0 (xt 0 (v:=.slice A2 (((replyP 0 ((reqFrom bs).1.2.1) ((reqFrom bs).1.2.2.1) ((reqFrom bs).1.2.2.2.1) ((reqFrom bs).1.2.2.2.2)).1).length) c2) r0 r0) (qt r0 (xt 1 (v:=.bool ((replyP 0 ((reqFrom bs).1.2.1) ((reqFrom bs).1.2.2.1) ((reqFrom bs).1.2.2.2.1) ((reqFrom bs).1.2.2.2.2)).2)) r0 r0) (tA (.slice A2 (((replyP 0 ((reqFrom bs).1.2.1) ((reqFrom bs).1.2.2.1) ((reqFrom bs).1.2.2.2.1) ((reqFrom bs).1.2.2.2.2)).1).length) c2) r0 (tA (.bool ((replyP 0 ((reqFrom bs).1.2.1) ((reqFrom bs).1.2.2.1) ((reqFrom bs).1.2.2.2.1) ((reqFrom bs).1.2.2.2.2)).2)) r0 (nn (sq ?_))))))
    refine rg (qt r0 (lG (Z2 sx Awt wt cwt Alg lg clg to) hs18 0 r0 ag29) (cL r0 (sL23Next (sx:=sx) (Awt:=Awt) (cwt:=cwt) (wt:=wt) (Alg:=Alg) (clg:=clg) (lg:=lg) (to:=to) (nst:=3) (w:=_) (hwt:=(hwt.up0 hs18)) (hwt_n:=(by(omega))) (hlg:=(hlg.up0 hs18)) (hlg_e:=hlg_e) (hlg_n:=(by(omega)))) ?_))
    rintro _ w16 ⟨Aw4,cw4,Al4,cl4,rfl,hs19⟩
    replace hs19:=hs18.call0 hs19
    refine al (v:=.agg #[I 0,ns,ns,Str []]) (cs:=[I 0,ns,ns,Str []]) hs19 tz29 r0 trivial r0 (fun b6 w17 hs20=>?_)
    refine sG [I 3,(Z10 Aw4 wt cw4),(Z23 Al4 lg cl4),Str []] hs20 7 r0 ag29 (fun w18 (hs21:SH w w18 [] [.blk b1 29 (Z2 sx Awt wt cwt Alg lg clg to),(Z11 b2),.own Aq1 (((reqFrom bs).1.2.2.1).length) cq1 3 1 (((reqFrom bs).1.2.2.1).map I),.blk b3 45 [I ((reqFrom bs).1.1),I ((reqFrom bs).1.2.1),.slice Aq1 (((reqFrom bs).1.2.2.1).length) cq1,Str ((reqFrom bs).1.2.2.2.1),I ((reqFrom bs).1.2.2.2.2)],.own A2 (((replyP 0 ((reqFrom bs).1.2.1) ((reqFrom bs).1.2.2.1) ((reqFrom bs).1.2.2.2.1) ((reqFrom bs).1.2.2.2.2)).1).length) c2 3 1 (((replyP 0 ((reqFrom bs).1.2.1) ((reqFrom bs).1.2.2.1) ((reqFrom bs).1.2.2.2.1) ((reqFrom bs).1.2.2.2.2)).1).map I),(Z7 Aw4 wt cw4),(Z9 Al4 lg cl4),.blk b6 29 [I 3,(Z10 Aw4 wt cw4),(Z23 Al4 lg cl4),Str []]])=>?_)
    refine nx (qt r0 (fa 1 fo45_1 r0) (qt r0 (lG [I ((reqFrom bs).1.2.1),.slice Aq1 (((reqFrom bs).1.2.2.1).length) cq1,Str ((reqFrom bs).1.2.2.2.1),I ((reqFrom bs).1.2.2.2.2)] hs21 3 r0 ag43) (cL r0 (sAddressText (ak:=(reqFrom bs).1.2.1) (Aaq:=Aq1) (caq:=cq1) (aq:=(reqFrom bs).1.2.2.1) (an:=(reqFrom bs).1.2.2.2.1) (apt:=(reqFrom bs).1.2.2.2.2) (w:=_) (haq:=(hs21.sl0 2 r0)) (han_n:=(by(have hrn:=reqFrom_nm bs; omega)))) ?_)))
    rintro _ w19 ⟨rfl,hs22⟩
    replace hs22:=hs21.call0 hs22
    refine qt r0 (fa 3 fo29_3 r0) (sT (Str (addrT ((reqFrom bs).1.2.1) ((reqFrom bs).1.2.2.1) ((reqFrom bs).1.2.2.2.1) ((reqFrom bs).1.2.2.2.2))) hs22 7 r0 one9 (fun w20 hs23=>?_))
    refine nn ?_
    have hs24:SH w w20 [] [(Z11 b2),.own A2 (((replyP 0 ((reqFrom bs).1.2.1) ((reqFrom bs).1.2.2.1) ((reqFrom bs).1.2.2.2.1) ((reqFrom bs).1.2.2.2.2)).1).length) c2 3 1 (((replyP 0 ((reqFrom bs).1.2.1) ((reqFrom bs).1.2.2.1) ((reqFrom bs).1.2.2.2.1) ((reqFrom bs).1.2.2.2.2)).1).map I),(Z7 Aw4 wt cw4),(Z9 Al4 lg cl4),.blk b6 29 [I 3,(Z10 Aw4 wt cw4),(Z23 Al4 lg cl4),Str (addrT ((reqFrom bs).1.2.1) ((reqFrom bs).1.2.2.1) ((reqFrom bs).1.2.2.2.1) ((reqFrom bs).1.2.2.2.2))]]:=hs23.pk [1,4,5,6,7] r0
    refine sr (qt r0 (lG [I 3,(Z10 Aw4 wt cw4),(Z23 Al4 lg cl4),Str (addrT ((reqFrom bs).1.2.1) ((reqFrom bs).1.2.2.1) ((reqFrom bs).1.2.2.2.1) ((reqFrom bs).1.2.2.2.2))] hs24 4 r0 ag29) (tm (.slice A2 (((replyP 0 ((reqFrom bs).1.2.1) ((reqFrom bs).1.2.2.1) ((reqFrom bs).1.2.2.2.1) ((reqFrom bs).1.2.2.2.2)).1).length) c2) r0 (sG [I 3,(Z10 Aw4 wt cw4),(Z23 Al4 lg cl4),Str (addrT ((reqFrom bs).1.2.1) ((reqFrom bs).1.2.2.1) ((reqFrom bs).1.2.2.2.1) ((reqFrom bs).1.2.2.2.2))] hs24 0 r0 ag29 (fun w21 hs25=>?_))))
    refine tA (.slice A2 (((replyP 0 ((reqFrom bs).1.2.1) ((reqFrom bs).1.2.2.1) ((reqFrom bs).1.2.2.2.1) ((reqFrom bs).1.2.2.2.2)).1).length) c2) r0 (nn (rt (fret (v:=.tuple #[.agg #[I 3,(Z10 Aw4 wt cw4),(Z23 Al4 lg cl4),Str (addrT ((reqFrom bs).1.2.1) ((reqFrom bs).1.2.2.1) ((reqFrom bs).1.2.2.2.1) ((reqFrom bs).1.2.2.2.2))],.slice A2 (((replyP 0 ((reqFrom bs).1.2.1) ((reqFrom bs).1.2.2.1) ((reqFrom bs).1.2.2.2.1) ((reqFrom bs).1.2.2.2.2)).1).length) c2]) (resC hs25 4 r0 r0 ag29 r0 (.tmp .nil)) r0 ?_)))
    have e13:3=(sayReq bs).1:=by(rw[sayR_c ‹_› (Decidable.not_not.1 ‹_›) (Decidable.not_not.1 ‹_›)]; done)
    have e14:addrT ((reqFrom bs).1.2.1) ((reqFrom bs).1.2.2.1) ((reqFrom bs).1.2.2.2.1) ((reqFrom bs).1.2.2.2.2)=(sayReq bs).2.1:=by(rw[sayR_c ‹_› (Decidable.not_not.1 ‹_›) (Decidable.not_not.1 ‹_›)]; done)
    have e15:(replyP 0 ((reqFrom bs).1.2.1) ((reqFrom bs).1.2.2.1) ((reqFrom bs).1.2.2.2.1) ((reqFrom bs).1.2.2.2.2)).1=(sayReq bs).2.2:=by(rw[sayR_c ‹_› (Decidable.not_not.1 ‹_›) (Decidable.not_not.1 ‹_›)]; done)
    have e16:=congrArg List.length e15
    exact⟨Aw4,cw4,Al4,cl4,A2,c2,(tup2 (aggv (lc (congrArg (Value.int .i64) e13) (lc r0 (lc r0 (lc (congrArg (Str) e14) r0))))) (slv r0 e16 r0)),((hs25.pq [1,2,0] r0).cast (lc r0 (lc r0 (lc (own_eq (g:=I) r0 e16 r0 e15) r0))))⟩
theorem sTalkSay (sx:Int) {Awt:Option Addr} {cwt:Nat} (wt:List Int) {Alg:Option Addr} {clg:Nat} (lg:List (List UInt8×List UInt8)) (to:List UInt8) {Abs:Option Addr} {cbs:Nat} (bs:List Int) (w:World) (hwt:Sl w [] 1 Awt wt.length cwt (wt.map I)) (hlg:Sl w [] 2 Alg lg.length clg (lg.flatMap gLogin)) (hlg_e: ∀ u∈lg,u.1.length≤9223372036854775807∧u.2.length≤9223372036854775807) (hto_n:to.length≤1099511627776) (hbs:Sl w [] 1 Abs bs.length cbs (bs.map I)):Does Tryz.prog 12 [.agg #[I sx,.slice Awt wt.length cwt,.slice Alg lg.length clg,Str to],.slice Abs bs.length cbs] w (fun v w'=>∃ Awr:Option Addr,∃ cwr:Nat,∃ Alr:Option Addr,∃ clr:Nat,∃ Ayr:Option Addr,∃ cyr:Nat,v=.tuple #[.agg #[.int .i64 ((talkSay sx wt lg to bs).1.1),.slice Awr ((talkSay sx wt lg to bs).1.2.1).length cwr,.slice Alr ((talkSay sx wt lg to bs).1.2.2.1).length clr,Str ((talkSay sx wt lg to bs).1.2.2.2)],.slice Ayr ((talkSay sx wt lg to bs).2.1).length cyr,.bool ((talkSay sx wt lg to bs).2.2)]∧SH w w' [] [.own Awr (((talkSay sx wt lg to bs).1.2.1).length) cwr 3 1 (((talkSay sx wt lg to bs).1.2.1).map I),.own Alr (((talkSay sx wt lg to bs).1.2.2.1).length) clr 51 2 (((talkSay sx wt lg to bs).1.2.2.1).flatMap gLogin),.own Ayr (((talkSay sx wt lg to bs).2.1).length) cyr 3 1 (((talkSay sx wt lg to bs).2.1).map I)]):=by
 refine fE (N:=57) Tryz.func12 r0 (by kernel_rfl) r0 ?_
 have hs0:SH w w [] []:=SH.refl w []
 have hwt_m:wt.length≤9223372036854775807:=Nat.le_trans hwt.cap hwt.capMax
 have hlg_m:lg.length≤9223372036854775807:=Nat.le_trans hlg.cap hlg.capMax
 have hbs_m:bs.length≤9223372036854775807:=Nat.le_trans hbs.cap hbs.capMax
 refine sr (bx (v:=.agg #[I sx,(Z10 Awt wt cwt),(Z23 Alg lg clg),Str to]) (cs:=(Z2 sx Awt wt cwt Alg lg clg to)) hs0 r0 r0 trivial r0 (fun b1 w1 hs1=>?_))
 refine al (v:=.agg #[I 0,ns,ns,Str []]) (cs:=[I 0,ns,ns,Str []]) hs1 tz29 r0 trivial r0 (fun b2 w2 hs2=>?_)
 refine tA ns r0 (tA (.bool false) r0 (nn (sq (sr (qt r0 (lG (Z2 sx Awt wt cwt Alg lg clg to) hs2 0 r0 ag29) ?_)))))
 refine cL r0 (sTalkValid (sx:=sx) (Awt:=Awt) (cwt:=cwt) (wt:=wt) (Alg:=Alg) (clg:=clg) (lg:=lg) (to:=to) (w:=_) (hwt:=(hwt.up0 hs2)) (hlg:=(hlg.up0 hs2)) (hlg_e:=hlg_e) (hto_n:=(by(omega)))) ?_
 rintro _ w3 ⟨rfl,hs3⟩
 replace hs3:=hs2.call0 hs3
 refine qt r0 (nt (b:=talkOk sx wt lg to) r0) (tm (.bool (!(talkOk sx wt lg to))) r0 ?_)
 refine spl (b:=!(talkOk sx wt lg to)) 16 r0 (fun h1=>?_) (fun h1=>?_)
 ·have h2:(talkOk sx wt lg to)=false:=by simpa using h1
  refine gt5 r0 (gt5 r0 (gt5 r0 (qt r0 (pt (v:=.bool true) r0 r0) (nn (cdt r0 (sq ?_))))))
  refine rg (qt r0 (bdv (v:=.agg #[I 0,ns,ns,Str []]) [] r0 (fun _=>by kernel_rfl)) (bsk hs3 sl22 [] [] trivial r0 (fun b3 w4 hs4=>?_)))
  refine sG [I 0,ns,ns,Str []] hs4 1 r0 ag29 (fun w5 hs5=>?_)
  refine tA (sb b3 (([]:List Int).length) 0) r0 (tA (.bool false) r0 (nn (rt (tR ?_))))
  refine fret (v:=.tuple #[.agg #[I 0,ns,ns,Str []],sb b3 (([]:List Int).length) 0,.bool false]) (resC hs5 2 r0 r0 ag29 r0 (.tmp (.tmp .nil))) r0 ?_
  have hs6:SH w w5 [] [.blk b1 29 (Z2 sx Awt wt cwt Alg lg clg to),(Z27 b3),(Z11 b2),.own none (([]:List Int).length) 0 3 1 (([]:List Int).map I)]:=SH.nils (by intro i hi; simp at hi; subst hi; exact nilItem) hs5
  have hs7:=hs6.nl [.own none (([]:List (List UInt8×List UInt8)).length) 0 51 2 (([]:List (List UInt8×List UInt8)).flatMap gLogin)] r0
  have e1:talkSay sx wt lg to bs=((0,([]:List Int),([]:List (List UInt8×List UInt8)),[]),([]:List Int),false):=by exact talkSay_no (.inl ‹_›)
  have e2:=pj11 e1
  have e3:=pj121 e1
  have e4:=congrArg List.length e3
  have e5:=pj1221 e1
  have e6:=congrArg List.length e5
  have e7:=pj1222 e1
  have e8:=pj21 e1
  have e9:=congrArg List.length e8
  have e10:=pj22 e1
  exact⟨none,0,none,0,(some ⟨b3,0,none⟩),0,(tup3 (aggv (lc (congrArg (Value.int .i64) e2) (lc (slv r0 e4 r0) (lc (slv r0 e6 r0) (lc (congrArg (Str) e7) r0))))) (slv r0 e9 r0) (congrArg (Value.bool) e10)),((hs7.pq [3,4,1] r0).cast (lc (own_eq (g:=I) r0 e4 r0 e3) (lc (own_eqf (g:=gLogin) r0 e6 r0 e5) (lc (own_eq (g:=I) r0 e9 r0 e8) r0))))⟩
 ·have h3:(talkOk sx wt lg to)=true:=by simpa using h1
  refine q ⟨_,rfl,rfl⟩ r0 r0 (mv (v:=.slice Abs bs.length cbs) r0) (cl ⟨_,rfl,rfl⟩ r0 (sBytesValid (Azs:=Abs) (czs:=cbs) (zs:=bs) (w:=_) (hzs:=(hbs.up0 hs3))) ?_)
  rintro _ w6 ⟨rfl,hs8⟩
  replace hs8:=hs3.call0 hs8
  refine q ⟨_,rfl,rfl⟩ r0 r0 (nt (b:=isBytes bs) r0) (qt r0 (pf (v:=.bool (!(isBytes bs))) r0 r0) (nn ?_))
  refine cd (b:=!(isBytes bs)) r0 (fun h4=>?_) (fun h4=>?_)
  ·have h5:(isBytes bs)=false:=by simpa using h4
   refine sr (qt r0 (bdv (v:=.agg #[I 0,ns,ns,Str []]) [] r0 (fun _=>by kernel_rfl)) (bsk hs8 sl22 [] [] trivial r0 (fun b4 w7 (hs9:SH w w7 [] [.blk b1 29 (Z2 sx Awt wt cwt Alg lg clg to),(Z11 b2),(Z27 b4)])=>?_)))
   refine sG [I 0,ns,ns,Str []] hs9 1 r0 ag29 (fun w8 hs10=>?_)
   refine tA (sb b4 (([]:List Int).length) 0) r0 (tA (.bool false) r0 (nn (rt (tR ?_))))
   refine fret (v:=.tuple #[.agg #[I 0,ns,ns,Str []],sb b4 (([]:List Int).length) 0,.bool false]) (resC hs10 2 r0 r0 ag29 r0 (.tmp (.tmp .nil))) r0 ?_
   have hs11:=hs10.nl [.own none (([]:List Int).length) 0 3 1 (([]:List Int).map I)] r0
   have hs12:SH w w8 [] [.blk b1 29 (Z2 sx Awt wt cwt Alg lg clg to),(Z27 b4),(Z11 b2),.own none (([]:List Int).length) 0 3 1 (([]:List Int).map I),.own none (([]:List (List UInt8×List UInt8)).length) 0 51 2 (([]:List (List UInt8×List UInt8)).flatMap gLogin)]:=SH.nils (by intro i hi; simp at hi; subst hi; exact nilItemF) hs11
   have e11:talkSay sx wt lg to bs=((0,([]:List Int),([]:List (List UInt8×List UInt8)),[]),([]:List Int),false):=by exact talkSay_no (.inr (.inl ‹_›))
   have e12:=pj11 e11
   have e13:=pj121 e11
   have e14:=congrArg List.length e13
   have e15:=pj1221 e11
   have e16:=congrArg List.length e15
   have e17:=pj1222 e11
   have e18:=pj21 e11
   have e19:=congrArg List.length e18
   have e20:=pj22 e11
   exact⟨none,0,none,0,(some ⟨b4,0,none⟩),0,(tup3 (aggv (lc (congrArg (Value.int .i64) e12) (lc (slv r0 e14 r0) (lc (slv r0 e16 r0) (lc (congrArg (Str) e17) r0))))) (slv r0 e19 r0) (congrArg (Value.bool) e20)),((hs12.pq [3,4,1] r0).cast (lc (own_eq (g:=I) r0 e14 r0 e13) (lc (own_eqf (g:=gLogin) r0 e16 r0 e15) (lc (own_eq (g:=I) r0 e19 r0 e18) r0))))⟩
  ·have h6:(isBytes bs)=true:=by simpa using h4
   refine sk (nN (sq (sr (qt r0 (fa 0 fo29_0 r0) (qt r0 (lD (I sx) hs8 0 r0 one3) (nl ?_))))))
   refine nN (bl (sr (qt r0 (eqi (k:=.i64) (a:=sx) (b:=0) r0 r0) (tA (.bool (decide (sx=0))) r0 (nn ?_)))))
   refine cdd (p:=sx=0) r0 (fun h7=>?_) (fun h7=>?_)
   ·refine sr (qt r0 (lG (Z2 sx Awt wt cwt Alg lg clg to) hs8 0 r0 ag29) (tm (Z13 Abs bs cbs) r0 (cL r0 (sL23Hello (sx:=sx) (Awt:=Awt) (cwt:=cwt) (wt:=wt) (Alg:=Alg) (clg:=clg) (lg:=lg) (to:=to) (Abs:=Abs) (cbs:=cbs) (bs:=bs) (w:=_) (hwt:=(hwt.up0 hs8)) (hwt_n:=(by(have htp:=talkOk_parts (by assumption:talkOk sx wt lg to=true); have hmw:=methOk_len htp.2.1; omega))) (hlg:=(hlg.up0 hs8)) (hlg_e:=hlg_e) (hlg_n:=(by(have htp:=talkOk_parts (by assumption:talkOk sx wt lg to=true); have hmw:=methOk_len htp.2.1; omega))) (hbs:=(hbs.up0 hs8))) ?_)))
    rintro _ w9 ⟨Aw1,cw1,Al1,cl1,Ay1,cy1,rfl,hs13⟩
    replace hs13:=hs8.call0 hs13
    refine tm (.tuple #[.agg #[I ((sayHello wt bs).1),(Z10 Aw1 wt cw1),(Z23 Al1 lg cl1),Str []],.slice Ay1 (((sayHello wt bs).2).length) cy1]) r0 (qt r0 (xt 0 (v:=.agg #[I ((sayHello wt bs).1),(Z10 Aw1 wt cw1),(Z23 Al1 lg cl1),Str []]) r0 r0) (qt r0 (xt 1 (v:=.slice Ay1 (((sayHello wt bs).2).length) cy1) r0 r0) (al (v:=.agg #[I 0,ns,ns,Str []]) (cs:=[I 0,ns,ns,Str []]) hs13 tz29 r0 trivial r0 (fun b5 w10 hs14=>?_))))
    refine sG [I ((sayHello wt bs).1),(Z10 Aw1 wt cw1),(Z23 Al1 lg cl1),Str []] hs14 5 r0 ag29 (fun w11 (hs15:SH w w11 [] [.blk b1 29 (Z2 sx Awt wt cwt Alg lg clg to),(Z11 b2),(Z7 Aw1 wt cw1),(Z9 Al1 lg cl1),.own Ay1 (((sayHello wt bs).2).length) cy1 3 1 (((sayHello wt bs).2).map I),.blk b5 29 [I ((sayHello wt bs).1),(Z10 Aw1 wt cw1),(Z23 Al1 lg cl1),Str []]])=>?_)
    refine tA (.slice Ay1 (((sayHello wt bs).2).length) cy1) r0 (nx (qt r0 (lG [I ((sayHello wt bs).1),(Z10 Aw1 wt cw1),(Z23 Al1 lg cl1),Str []] hs15 5 r0 ag29) (tm (.slice Ay1 (((sayHello wt bs).2).length) cy1) r0 (sG [I ((sayHello wt bs).1),(Z10 Aw1 wt cw1),(Z23 Al1 lg cl1),Str []] hs15 1 r0 ag29 (fun w12 hs16=>?_)))))
    refine tA (.slice Ay1 (((sayHello wt bs).2).length) cy1) r0 (tA (.bool true) r0 (nn ?_))
    have hs17:=hs16.pq [1,2,3,5] r0
    refine rt (bR (tR ?_))
    refine fret (v:=.tuple #[.agg #[I ((sayHello wt bs).1),(Z10 Aw1 wt cw1),(Z23 Al1 lg cl1),Str []],.slice Ay1 (((sayHello wt bs).2).length) cy1,.bool true]) (resC hs17 3 r0 r0 ag29 r0 (.tmp (.tmp .nil))) r0 ?_
    have e21:talkSay sx wt lg to bs=(((sayHello wt bs).1,wt,lg,[]),(sayHello wt bs).2,true):=by exact talkSay_0n ‹_› ‹_› ‹_›
    have e22:=pj11 e21
    have e23:=pj121 e21
    have e24:=congrArg List.length e23
    have e25:=pj1221 e21
    have e26:=congrArg List.length e25
    have e27:=pj1222 e21
    have e28:=pj21 e21
    have e29:=congrArg List.length e28
    have e30:=pj22 e21
    exact⟨Aw1,cw1,Al1,cl1,Ay1,cy1,(tup3 (aggv (lc (congrArg (Value.int .i64) e22) (lc (slv r0 e24 r0) (lc (slv r0 e26 r0) (lc (congrArg (Str) e27) r0))))) (slv r0 e29 r0) (congrArg (Value.bool) e30)),((hs17.pq [0,1,2] r0).cast (lc (own_eq (g:=I) r0 e24 r0 e23) (lc (own_eqf (g:=gLogin) r0 e26 r0 e25) (lc (own_eq (g:=I) r0 e29 r0 e28) r0))))⟩
   ·refine sr (qt r0 (eqi (k:=.i64) (a:=sx) (b:=1) r0 r0) (tA (.bool (decide (sx=1))) r0 (nn ?_)))
    refine cdd (p:=sx=1) r0 (fun h8=>?_) (fun h8=>?_)
    ·refine sr (qt r0 (lG (Z2 sx Awt wt cwt Alg lg clg to) hs8 0 r0 ag29) (tm (Z13 Abs bs cbs) r0 (cL r0 (sL23Login (sx:=sx) (Awt:=Awt) (cwt:=cwt) (wt:=wt) (Alg:=Alg) (clg:=clg) (lg:=lg) (to:=to) (Abs:=Abs) (cbs:=cbs) (bs:=bs) (w:=_) (hwt:=(hwt.up0 hs8)) (hwt_n:=(by(have htp:=talkOk_parts (by assumption:talkOk sx wt lg to=true); have hmw:=methOk_len htp.2.1; omega))) (hlg:=(hlg.up0 hs8)) (hlg_e:=hlg_e) (hlg_n:=(by(have htp:=talkOk_parts (by assumption:talkOk sx wt lg to=true); have hmw:=methOk_len htp.2.1; omega))) (hbs:=(hbs.up0 hs8))) ?_)))
     rintro _ w13 ⟨Aw2,cw2,Al2,cl2,Ay2,cy2,rfl,hs18⟩
     replace hs18:=hs8.call0 hs18
     refine tm (.tuple #[.agg #[I ((sayLogin lg bs).1),(Z10 Aw2 wt cw2),(Z23 Al2 lg cl2),Str []],.slice Ay2 (((sayLogin lg bs).2).length) cy2]) r0 (qt r0 (xt 0 (v:=.agg #[I ((sayLogin lg bs).1),(Z10 Aw2 wt cw2),(Z23 Al2 lg cl2),Str []]) r0 r0) (qt r0 (xt 1 (v:=.slice Ay2 (((sayLogin lg bs).2).length) cy2) r0 r0) (al (v:=.agg #[I 0,ns,ns,Str []]) (cs:=[I 0,ns,ns,Str []]) hs18 tz29 r0 trivial r0 (fun b6 w14 hs19=>?_))))
     refine sG [I ((sayLogin lg bs).1),(Z10 Aw2 wt cw2),(Z23 Al2 lg cl2),Str []] hs19 5 r0 ag29 (fun w15 hs20=>?_)
     refine tA (.slice Ay2 (((sayLogin lg bs).2).length) cy2) r0 (nx (qt r0 (lG [I ((sayLogin lg bs).1),(Z10 Aw2 wt cw2),(Z23 Al2 lg cl2),Str []] hs20 5 r0 ag29) (tm (.slice Ay2 (((sayLogin lg bs).2).length) cy2) r0 (sG [I ((sayLogin lg bs).1),(Z10 Aw2 wt cw2),(Z23 Al2 lg cl2),Str []] hs20 1 r0 ag29 (fun w16 (hs21:SH w w16 [] [.blk b1 29 (Z2 sx Awt wt cwt Alg lg clg to),(Z7 Aw2 wt cw2),(Z9 Al2 lg cl2),.own Ay2 (((sayLogin lg bs).2).length) cy2 3 1 (((sayLogin lg bs).2).map I),.blk b6 29 [I ((sayLogin lg bs).1),(Z10 Aw2 wt cw2),(Z23 Al2 lg cl2),Str []],.blk b2 29 [I ((sayLogin lg bs).1),(Z10 Aw2 wt cw2),(Z23 Al2 lg cl2),Str []]])=>?_)))))
     refine tA (.slice Ay2 (((sayLogin lg bs).2).length) cy2) r0 (tA (.bool true) r0 (nn ?_))
     have hs22:=hs21.pq [1,2,3,5] r0
     refine rt (bR (tR ?_))
     refine fret (v:=.tuple #[.agg #[I ((sayLogin lg bs).1),(Z10 Aw2 wt cw2),(Z23 Al2 lg cl2),Str []],.slice Ay2 (((sayLogin lg bs).2).length) cy2,.bool true]) (resC hs22 3 r0 r0 ag29 r0 (.tmp (.tmp .nil))) r0 ?_
     have e31:talkSay sx wt lg to bs=(((sayLogin lg bs).1,wt,lg,[]),(sayLogin lg bs).2,true):=by exact talkSay_1n ‹_› ‹_› ‹_›
     have e32:=pj11 e31
     have e33:=pj121 e31
     have e34:=congrArg List.length e33
     have e35:=pj1221 e31
     have e36:=congrArg List.length e35
     have e37:=pj1222 e31
     have e38:=pj21 e31
     have e39:=congrArg List.length e38
     have e40:=pj22 e31
     exact⟨Aw2,cw2,Al2,cl2,Ay2,cy2,(tup3 (aggv (lc (congrArg (Value.int .i64) e32) (lc (slv r0 e34 r0) (lc (slv r0 e36 r0) (lc (congrArg (Str) e37) r0))))) (slv r0 e39 r0) (congrArg (Value.bool) e40)),((hs22.pq [0,1,2] r0).cast (lc (own_eq (g:=I) r0 e34 r0 e33) (lc (own_eqf (g:=gLogin) r0 e36 r0 e35) (lc (own_eq (g:=I) r0 e39 r0 e38) r0))))⟩
    ·refine sr (qt r0 (eqi (k:=.i64) (a:=sx) (b:=2) r0 r0) (tA (.bool (decide (sx=2))) r0 (nn ?_)))
     refine cdd (p:=sx=2) r0 (fun h9=>?_) (fun h9=>?_)
     ·refine sr (qt r0 (lG (Z2 sx Awt wt cwt Alg lg clg to) hs8 0 r0 ag29) (tm (Z13 Abs bs cbs) r0 (cL r0 (sL23Request (sx:=sx) (Awt:=Awt) (cwt:=cwt) (wt:=wt) (Alg:=Alg) (clg:=clg) (lg:=lg) (to:=to) (Abs:=Abs) (cbs:=cbs) (bs:=bs) (w:=_) (hwt:=(hwt.up0 hs8)) (hwt_n:=(by(have htp:=talkOk_parts (by assumption:talkOk sx wt lg to=true); have hmw:=methOk_len htp.2.1; omega))) (hlg:=(hlg.up0 hs8)) (hlg_e:=hlg_e) (hlg_n:=(by(have htp:=talkOk_parts (by assumption:talkOk sx wt lg to=true); have hmw:=methOk_len htp.2.1; omega))) (hbs:=(hbs.up0 hs8))) ?_)))
      rintro _ w17 ⟨Aw3,cw3,Al3,cl3,Ay3,cy3,rfl,hs23⟩
      replace hs23:=hs8.call0 hs23
      refine tm (.tuple #[.agg #[I ((sayReq bs).1),(Z10 Aw3 wt cw3),(Z23 Al3 lg cl3),Str ((sayReq bs).2.1)],.slice Ay3 (((sayReq bs).2.2).length) cy3]) r0 (qt r0 (xt 0 (v:=.agg #[I ((sayReq bs).1),(Z10 Aw3 wt cw3),(Z23 Al3 lg cl3),Str ((sayReq bs).2.1)]) r0 r0) (qt r0 (xt 1 (v:=.slice Ay3 (((sayReq bs).2.2).length) cy3) r0 r0) (al (v:=.agg #[I 0,ns,ns,Str []]) (cs:=[I 0,ns,ns,Str []]) hs23 tz29 r0 trivial r0 (fun b7 w18 (hs24:SH w w18 [] [.blk b1 29 (Z2 sx Awt wt cwt Alg lg clg to),(Z11 b2),(Z7 Aw3 wt cw3),(Z9 Al3 lg cl3),.own Ay3 (((sayReq bs).2.2).length) cy3 3 1 (((sayReq bs).2.2).map I),(Z11 b7)])=>?_))))
      refine sG [I ((sayReq bs).1),(Z10 Aw3 wt cw3),(Z23 Al3 lg cl3),Str ((sayReq bs).2.1)] hs24 5 r0 ag29 (fun w19 hs25=>?_)
      refine tA (.slice Ay3 (((sayReq bs).2.2).length) cy3) r0 (nx (qt r0 (lG [I ((sayReq bs).1),(Z10 Aw3 wt cw3),(Z23 Al3 lg cl3),Str ((sayReq bs).2.1)] hs25 5 r0 ag29) (tm (.slice Ay3 (((sayReq bs).2.2).length) cy3) r0 (sG [I ((sayReq bs).1),(Z10 Aw3 wt cw3),(Z23 Al3 lg cl3),Str ((sayReq bs).2.1)] hs25 1 r0 ag29 (fun w20 hs26=>?_)))))
      refine tA (.slice Ay3 (((sayReq bs).2.2).length) cy3) r0 (tA (.bool true) r0 (nn ?_))
      have hs27:SH w w20 [] [(Z7 Aw3 wt cw3),(Z9 Al3 lg cl3),.own Ay3 (((sayReq bs).2.2).length) cy3 3 1 (((sayReq bs).2.2).map I),.blk b2 29 [I ((sayReq bs).1),(Z10 Aw3 wt cw3),(Z23 Al3 lg cl3),Str ((sayReq bs).2.1)]]:=hs26.pk [1,2,3,5] r0
      refine rt (bR (tR ?_))
      refine fret (v:=.tuple #[.agg #[I ((sayReq bs).1),(Z10 Aw3 wt cw3),(Z23 Al3 lg cl3),Str ((sayReq bs).2.1)],.slice Ay3 (((sayReq bs).2.2).length) cy3,.bool true]) (resC hs27 3 r0 r0 ag29 r0 (.tmp (.tmp .nil))) r0 ?_
      have e41:talkSay sx wt lg to bs=(((sayReq bs).1,wt,lg,(sayReq bs).2.1),(sayReq bs).2.2,true):=by exact talkSay_2 ‹_› ‹_› ‹_›
      have e42:=pj11 e41
      have e43:=pj121 e41
      have e44:=congrArg List.length e43
      have e45:=pj1221 e41
      have e46:=congrArg List.length e45
      have e47:=pj1222 e41
      have e48:=pj21 e41
      have e49:=congrArg List.length e48
      have e50:=pj22 e41
      exact⟨Aw3,cw3,Al3,cl3,Ay3,cy3,(tup3 (aggv (lc (congrArg (Value.int .i64) e42) (lc (slv r0 e44 r0) (lc (slv r0 e46 r0) (lc (congrArg (Str) e47) r0))))) (slv r0 e49 r0) (congrArg (Value.bool) e50)),((hs27.pq [0,1,2] r0).cast (lc (own_eq (g:=I) r0 e44 r0 e43) (lc (own_eqf (g:=gLogin) r0 e46 r0 e45) (lc (own_eq (g:=I) r0 e49 r0 e48) r0))))⟩
     ·refine sk (bN (nN (sr (qt r0 (bdv (v:=.agg #[I 0,ns,ns,Str []]) [] r0 (fun _=>by kernel_rfl)) (bsk hs8 sl22 [] [] trivial r0 (fun b8 w21 hs28=>?_))))))
      refine sG [I 0,ns,ns,Str []] hs28 1 r0 ag29 (fun w22 hs29=>?_)
      refine tA (sb b8 (([]:List Int).length) 0) r0 (tA (.bool false) r0 (nn (rt (fret (v:=.tuple #[.agg #[I 0,ns,ns,Str []],sb b8 (([]:List Int).length) 0,.bool false]) (resC hs29 2 r0 r0 ag29 r0 (.tmp (.tmp .nil))) r0 ?_))))
      have hs30:SH w w22 [] [.blk b1 29 (Z2 sx Awt wt cwt Alg lg clg to),(Z27 b8),(Z11 b2),.own none (([]:List Int).length) 0 3 1 (([]:List Int).map I)]:=SH.nils (by intro i hi; simp at hi; subst hi; exact nilItem) hs29
      have hs31:=hs30.nl [.own none (([]:List (List UInt8×List UInt8)).length) 0 51 2 (([]:List (List UInt8×List UInt8)).flatMap gLogin)] r0
      have e51:talkSay sx wt lg to bs=((0,([]:List Int),([]:List (List UInt8×List UInt8)),[]),([]:List Int),false):=by exact talkSay_no (.inr (.inr (by have htp:=talkOk_parts (by assumption:talkOk sx wt lg to=true); have hmw:=methOk_len htp.2.1; omega)))
      have e52:=pj11 e51
      have e53:=pj121 e51
      have e54:=congrArg List.length e53
      have e55:=pj1221 e51
      have e56:=congrArg List.length e55
      have e57:=pj1222 e51
      have e58:=pj21 e51
      have e59:=congrArg List.length e58
      have e60:=pj22 e51
      exact⟨none,0,none,0,(some ⟨b8,0,none⟩),0,(tup3 (aggv (lc (congrArg (Value.int .i64) e52) (lc (slv r0 e54 r0) (lc (slv r0 e56 r0) (lc (congrArg (Str) e57) r0))))) (slv r0 e59 r0) (congrArg (Value.bool) e60)),((hs31.pq [3,4,1] r0).cast (lc (own_eq (g:=I) r0 e54 r0 e53) (lc (own_eqf (g:=gLogin) r0 e56 r0 e55) (lc (own_eq (g:=I) r0 e59 r0 e58) r0))))⟩
theorem sameLogins {Axs:Option Addr} {cxs:Nat} (xs:List (List UInt8×List UInt8)) {Abs:Option Addr} {cbs:Nat} (bs:List (List UInt8×List UInt8)) (w:World) (hxs:Sl w [] 2 Axs xs.length cxs (xs.flatMap gLogin)) (hxs_e: ∀ u∈xs,u.1.length≤9223372036854775807∧u.2.length≤9223372036854775807) (hbs:Sl w [] 2 Abs bs.length cbs (bs.flatMap gLogin)) (hbs_e: ∀ u∈bs,u.1.length≤9223372036854775807∧u.2.length≤9223372036854775807):Does Tryz.prog 59 [.slice Axs xs.length cxs,.slice Abs bs.length cbs] w (fun v w'=>v=.bool (decide (xs=bs))∧SH w w' [] []):=by
 refine fE (N:=26) Tryz.func59 r0 (by kernel_rfl) r0 ?_
 have hs0:=SH.refl w []
 have hxs_m:xs.length≤9223372036854775807:=Nat.le_trans hxs.cap hxs.capMax
 have hbs_m:bs.length≤9223372036854775807:=Nat.le_trans hbs.cap hbs.capMax
 refine sr (tA (.bool false) r0 (nn (sq (sr ?_))))
 refine tm (.slice Axs xs.length cxs) r0 (qt r0 (lnA (n:=xs.length) sl27 r0) (tm (.slice Abs bs.length cbs) r0 (qt r0 (lnA (n:=bs.length) sl27 r0) (qt r0 (nei (k:=.i64) (a:=(xs.length:Int)) (b:=(bs.length:Int)) r0 r0) (nn ?_)))))
 refine cdd (p:=(xs.length:Int)≠(bs.length:Int)) r0 (fun h1=>?_) (fun h1=>?_)
 ·refine sr (tA (.bool false) r0 (nn (rt (tR ?_))))
  refine fT (.bool false) r0 ?_
  have e1:false=(decide (xs=bs)):=by simp; intro h; subst h; exact h1 r0
  exact⟨(congrArg (Value.bool) e1),hs0⟩
 ·refine sk (nN (sq (sr (tA (I 0) r0 (nn ?_)))))
  refine bl (lp (σ:=Nat) (fun(k:Nat) f w'=>Hz f [(0,.slice Axs xs.length cxs),(1,.slice Abs bs.length cbs),(5,I (k:Int))]∧(xs.length=bs.length)∧(k≤xs.length)∧(xs.take k=bs.take k)∧SH w w' [] []) (fun k=>xs.length-k) 0 ⟨(zR r0),(by omega),(by simp),(by simp),hs0⟩ ?_)
  rintro k f w1 ⟨⟨g1,rfl⟩,hl,hk,ha,hs1⟩
  refine sq (sr (tm (I (k:Int)) r0 (tm (.slice Axs xs.length cxs) r0 (qt r0 (lnA (n:=xs.length) sl27 r0) (qt r0 (lss (k:=.i64) (a:=(k:Int)) (b:=(xs.length:Int)) r0 r0) (nl ?_))))))
  refine nN ?_
  refine cdd (p:=(k:Int)<(xs.length:Int)) r0 (fun h2=>?_) (fun h2=>?_)
  ·refine sk (nN (sq (bl (sq (rq (fun w'=>SH w w' [] []) mixed (by kernel_rfl) hs1.drew (qA r0 (mv (v:=.slice Axs xs.length cxs) r0) (qA r0 (mv (v:=I (k:Int)) r0) ?_)))))))
   refine ixqf (g:=gLogin) (zs:=xs) (fun _=>rfl) login0 k sl27 r0 r0 hxs (by omega) (by omega) trivial r0 (fun a1 ha1=>?_)
   refine qB r0 (fun hsq=>ldag (us:=[Str ((xs.getD k login0).1),Str ((xs.getD k login0).2)]) hsq ha1 (fun _ h=>h) r0 r0 ag51) (qA r0 (mv (v:=.slice Abs bs.length cbs) r0) (qA r0 (mv (v:=I (k:Int)) r0) (ixqf (g:=gLogin) (zs:=bs) (fun _=>rfl) login0 k sl27 r0 r0 hbs (by omega) (by omega) trivial r0 (fun a2 ha2=>?_))))
   refine qB r0 (fun hsq=>ldag (us:=[Str ((bs.getD k login0).1),Str ((bs.getD k login0).2)]) hsq ha2 (fun _ h=>h) r0 r0 ag51) (qA r0 (ne2 (a:=(xs.getD k login0).1) (b:=(xs.getD k login0).2) (c:=(bs.getD k login0).1) (e:=(bs.getD k login0).2) s2_51 r0 r0) (qn (fun w2 hs2=>?_)))
   refine nN ?_
   refine cdd (p:=¬ ((xs.getD k login0).1=(bs.getD k login0).1∧(xs.getD k login0).2=(bs.getD k login0).2)) r0 (fun h3=>?_) (fun h3=>?_)
   ·refine sr (tA (.bool false) r0 (nn ?_))
    refine rt (bR (tR (tR (bR (tR ?_)))))
    refine fT (.bool false) r0 ?_
    have e2:false=(decide (xs=bs)):=by simp; intro h; subst h; exact h3 ⟨rfl,rfl⟩
    exact⟨(congrArg (Value.bool) e2),hs2⟩
   ·refine sk (bN (nN (rg (tm (I (k:Int)) r0 (qt r0 (add (a:=(k:Int)) (b:=1) r0 r0 (by exact⟨by omega,by omega⟩)) (tA (I ((k:Int)+1)) r0 (nl ?_)))))))
    refine nN ?_
    refine⟨(k+1),⟨(zR r0),(hl),(by omega),(take_succ_eq (d:=login0) (by omega) (by omega) ha (lg_ext (by exact Decidable.not_not.1 ‹_›))),hs2⟩,?_⟩
    omega
  ·refine ex (tE (tE (bE ?_)))
   refine nN (sr (tA (.bool true) r0 (nn (rt (fT (.bool true) r0 ?_)))))
   have e3:true=(decide (xs=bs)):=by simp; exact take_all_eq hl (by omega) ha
   exact⟨(congrArg (Value.bool) e3),hs1⟩
theorem sameTalk (sa:Int) {Awa:Option Addr} {cwa:Nat} (wa:List Int) {Ala:Option Addr} {cla:Nat} (la:List (List UInt8×List UInt8)) (ta:List UInt8) (sb:Int) {Awb:Option Addr} {cwb:Nat} (wb:List Int) {Alb:Option Addr} {clb:Nat} (lb:List (List UInt8×List UInt8)) (tb:List UInt8) (w:World) (hwa:Sl w [] 1 Awa wa.length cwa (wa.map I)) (hla:Sl w [] 2 Ala la.length cla (la.flatMap gLogin)) (hla_e: ∀ u∈la,u.1.length≤9223372036854775807∧u.2.length≤9223372036854775807) (hwb:Sl w [] 1 Awb wb.length cwb (wb.map I)) (hlb:Sl w [] 2 Alb lb.length clb (lb.flatMap gLogin)) (hlb_e: ∀ u∈lb,u.1.length≤9223372036854775807∧u.2.length≤9223372036854775807):Does Tryz.prog 24 [.agg #[I sa,.slice Awa wa.length cwa,.slice Ala la.length cla,Str ta],.agg #[I sb,.slice Awb wb.length cwb,.slice Alb lb.length clb,Str tb]] w (fun v w'=>v=.bool (decide (sa=sb∧wa=wb∧la=lb∧ta=tb))∧SH w w' [] []):=by
 refine fE (N:=31) Tryz.func24 r0 (by kernel_rfl) r0 ?_
 have hs0:=SH.refl w []
 have hwa_m:wa.length≤9223372036854775807:=Nat.le_trans hwa.cap hwa.capMax
 have hla_m:la.length≤9223372036854775807:=Nat.le_trans hla.cap hla.capMax
 have hwb_m:wb.length≤9223372036854775807:=Nat.le_trans hwb.cap hwb.capMax
 have hlb_m:lb.length≤9223372036854775807:=Nat.le_trans hlb.cap hlb.capMax
 refine sr (bx (v:=.agg #[I sa,(Z10 Awa wa cwa),(Z23 Ala la cla),Str ta]) (cs:=(Z2 sa Awa wa cwa Ala la cla ta)) hs0 r0 r0 trivial r0 (fun b1 w1 hs1=>?_))
 refine bx (v:=.agg #[I sb,(Z10 Awb wb cwb),(Z23 Alb lb clb),Str tb]) (cs:=(Z2 sb Awb wb cwb Alb lb clb tb)) hs1 r0 r0 trivial r0 (fun b2 w2 hs2=>?_)
 refine tA (.bool false) r0 (nx (qt r0 (fa 0 fo29_0 r0) (qt r0 (lD (I sa) hs2 0 r0 one3) (qt r0 (fa 0 fo29_0 r0) ?_))))
 refine qt r0 (lD (I sb) hs2 1 r0 one3) (qt r0 (eqi (k:=.i64) (a:=sa) (b:=sb) r0 r0) (tm (.bool (decide (sa=sb))) r0 ?_))
 refine spd (p:=sa=sb) 10 r0 (fun h1=>?_) (fun h1=>?_)
 ·refine q ⟨_,rfl,rfl⟩ r0 r0 (fa 3 fo29_3 r0) (q ⟨_,rfl,rfl⟩ r0 r0 (lD (Str ta) hs2 0 r0 one9) (q ⟨_,rfl,rfl⟩ r0 r0 (fa 3 fo29_3 r0) (q ⟨_,rfl,rfl⟩ r0 r0 (lD (Str tb) hs2 1 r0 one9) (q ⟨_,rfl,rfl⟩ r0 r0 (eqs (l:=ta) (m:=tb) r0 r0) (qt r0 (pt (v:=.bool (decide (ta=tb))) r0 r0) (tm (.bool (decide (ta=tb))) r0 ?_))))))
  refine spd (p:=ta=tb) 17 r0 (fun h2=>?_) (fun h2=>?_)
  ·refine q ⟨_,rfl,rfl⟩ r0 r0 (fa 1 fo29_1 r0) (q ⟨_,rfl,rfl⟩ r0 r0 (lD (Z13 Awa wa cwa) hs2 0 r0 one22) (q ⟨_,rfl,rfl⟩ r0 r0 (fa 1 fo29_1 r0) (q ⟨_,rfl,rfl⟩ r0 r0 (lD (Z13 Awb wb cwb) hs2 1 r0 one22) (cl ⟨_,rfl,rfl⟩ r0 (sameBytes (Axs:=Awa) (cxs:=cwa) (xs:=wa) (Abs:=Awb) (cbs:=cwb) (bs:=wb) (w:=_) (hxs:=(hwa.up0 hs2)) (hbs:=(hwb.up0 hs2))) ?_))))
   rintro _ w3 ⟨rfl,hs3⟩
   replace hs3:=hs2.call0 hs3
   refine qt r0 (pt (v:=.bool (decide (wa=wb))) r0 r0) (tm (.bool (decide (wa=wb))) r0 ?_)
   refine spd (p:=wa=wb) 24 r0 (fun h3=>?_) (fun h3=>?_)
   ·refine q ⟨_,rfl,rfl⟩ r0 r0 (fa 2 fo29_2 r0) (q ⟨_,rfl,rfl⟩ r0 r0 (lD (.slice Ala la.length cla) hs3 0 r0 one27) (q ⟨_,rfl,rfl⟩ r0 r0 (fa 2 fo29_2 r0) (q ⟨_,rfl,rfl⟩ r0 r0 (lD (.slice Alb lb.length clb) hs3 1 r0 one27) (cl ⟨_,rfl,rfl⟩ r0 (sameLogins (Axs:=Ala) (cxs:=cla) (xs:=la) (Abs:=Alb) (cbs:=clb) (bs:=lb) (w:=_) (hxs:=(hla.up0 hs3)) (hxs_e:=hla_e) (hbs:=(hlb.up0 hs3)) (hbs_e:=hlb_e)) ?_))))
    rintro _ w4 ⟨rfl,hs4⟩
    replace hs4:=hs3.call0 hs4
    refine qt r0 (pt (v:=.bool (decide (la=lb))) r0 r0) (tA (.bool (decide (la=lb))) r0 (nn (rt (fT (.bool (decide (la=lb))) r0 ?_))))
    have e1:(decide (la=lb))=(decide (sa=sb∧wa=wb∧la=lb∧ta=tb)):=by simp[h1,h2,h3] <;> simp_all
    exact⟨(congrArg (Value.bool) e1),(hs4.pk [] r0)⟩
   ·refine gf5 r0 (gf5 r0 (gf5 r0 (gf5 r0 (gf5 r0 (qt r0 (pf (v:=.bool false) r0 r0) (tA (.bool false) r0 (nl ?_)))))))
    refine nN (rt (fT (.bool false) r0 ?_))
    have e2:false=(decide (sa=sb∧wa=wb∧la=lb∧ta=tb)):=by simp[h1,h2,h3] <;> simp_all
    exact⟨(congrArg (Value.bool) e2),(hs3.pk [] r0)⟩
  ·refine gf5 r0 (gf5 r0 (gf5 r0 (gf5 r0 (gf5 r0 (qt r0 (pf (v:=.bool false) r0 r0) (tm (.bool false) r0 (gf5 r0 ?_)))))))
   refine gf5 r0 (gf5 r0 (gf5 r0 (gf5 r0 (qt r0 (pf (v:=.bool false) r0 r0) (tA (.bool false) r0 (nn ?_))))))
   refine rt (fT (.bool false) r0 ?_)
   have e3:false=(decide (sa=sb∧wa=wb∧la=lb∧ta=tb)):=by simp[h1,h2] <;> simp_all
   exact⟨(congrArg (Value.bool) e3),(hs2.pk [] r0)⟩
 ·refine gf5 r0 (gf5 r0 (gf5 r0 (gf5 r0 (gf5 r0 (qt r0 (pf (v:=.bool false) r0 r0) (tm (.bool false) r0 (gf5 r0 ?_)))))))
  refine gf5 r0 (gf5 r0 (gf5 r0 (gf5 r0 (qt r0 (pf (v:=.bool false) r0 r0) (tm (.bool false) r0 (gf5 r0 (gf5 r0 ?_)))))))
  refine gf5 r0 (gf5 r0 (gf5 r0 (qt r0 (pf (v:=.bool false) r0 r0) (tA (.bool false) r0 (nn (rt ?_))))))
  refine fT (.bool false) r0 ?_
  have e4:false=(decide (sa=sb∧wa=wb∧la=lb∧ta=tb)):=by simp[h1] <;> simp_all
  exact⟨(congrArg (Value.bool) e4),(hs2.pk [] r0)⟩
theorem iTalkSayE (sx:Int) {Awt:Option Addr} {cwt:Nat} (wt:List Int) {Alg:Option Addr} {clg:Nat} (lg:List (List UInt8×List UInt8)) (to:List UInt8) {Abs:Option Addr} {cbs:Nat} (bs:List Int) (w:World) (hwt:Sl w [] 1 Awt wt.length cwt (wt.map I)) (hlg:Sl w [] 2 Alg lg.length clg (lg.flatMap gLogin)) (hlg_e: ∀ u∈lg,u.1.length≤9223372036854775807∧u.2.length≤9223372036854775807) (hto_n:to.length≤1099511627776) (hbs:Sl w [] 1 Abs bs.length cbs (bs.map I)) (hGp:VarP Tryz.prog w [] "internal/strconv.uint64pow10" isPow) (hEr:VarP Tryz.prog w [] "strconv.ErrRange" isIfc) (hEs:VarP Tryz.prog w [] "strconv.ErrSyntax" isIfc):Does Tryz.prog 15 [.agg #[I sx,.slice Awt wt.length cwt,.slice Alg lg.length clg,Str to],.slice Abs bs.length cbs] w (fun v w'=>∃ Awr:Option Addr,∃ cwr:Nat,∃ Alr:Option Addr,∃ clr:Nat,∃ Ayr:Option Addr,∃ cyr:Nat,∃ ya:Int,∃ yb:List Int,∃ yc:List Lg,∃ yd:List UInt8,v=.tuple #[.agg #[.int .i64 ya,.slice Awr yb.length cwr,.slice Alr yc.length clr,Str yd],.slice Ayr ((talkSay sx wt lg to bs).2.1).length cyr,.bool ((talkSay sx wt lg to bs).2.2)]∧((ya,yb,yc,yd)=(talkSay sx wt lg to bs).1)∧(yb.length≤8)∧(yc.length≤4)∧(yd.length≤42)∧((∀ u∈yc,u∈lg))∧SH w w' [] [.own Awr yb.length cwr 3 1 (yb.map I),.own Alr yc.length clr 51 2 (yc.flatMap gLogin),.own Ayr (((talkSay sx wt lg to bs).2.1).length) cyr 3 1 (((talkSay sx wt lg to bs).2.1).map I)]):=by
 exact(iTalkSay (sx:=sx) (wt:=wt) (lg:=lg) (to:=to) (bs:=bs) (w:=w) (hwt:=hwt) (hlg:=hlg) (hlg_e:=hlg_e) (hto_n:=hto_n) (hbs:=hbs) (hGp:=hGp) (hEs:=hEs) (hEr:=hEr)).mono fun v w1 ⟨a1,a2,a3,a4,a5,a6,hv,hs⟩=>⟨a1,a2,a3,a4,a5,a6,_,_,_,_,hv,rfl,(talkSay_len sx wt lg to bs).1,(talkSay_len sx wt lg to bs).2.1,talkSay_to sx wt lg to bs,talkSay_lg,hs⟩
theorem sTalkSayE (sx:Int) {Awt:Option Addr} {cwt:Nat} (wt:List Int) {Alg:Option Addr} {clg:Nat} (lg:List (List UInt8×List UInt8)) (to:List UInt8) {Abs:Option Addr} {cbs:Nat} (bs:List Int) (w:World) (hwt:Sl w [] 1 Awt wt.length cwt (wt.map I)) (hlg:Sl w [] 2 Alg lg.length clg (lg.flatMap gLogin)) (hlg_e: ∀ u∈lg,u.1.length≤9223372036854775807∧u.2.length≤9223372036854775807) (hto_n:to.length≤1099511627776) (hbs:Sl w [] 1 Abs bs.length cbs (bs.map I)):Does Tryz.prog 12 [.agg #[I sx,.slice Awt wt.length cwt,.slice Alg lg.length clg,Str to],.slice Abs bs.length cbs] w (fun v w'=>∃ Awr:Option Addr,∃ cwr:Nat,∃ Alr:Option Addr,∃ clr:Nat,∃ Ayr:Option Addr,∃ cyr:Nat,∃ ya:Int,∃ yb:List Int,∃ yc:List Lg,∃ yd:List UInt8,v=.tuple #[.agg #[.int .i64 ya,.slice Awr yb.length cwr,.slice Alr yc.length clr,Str yd],.slice Ayr ((talkSay sx wt lg to bs).2.1).length cyr,.bool ((talkSay sx wt lg to bs).2.2)]∧((ya,yb,yc,yd)=(talkSay sx wt lg to bs).1)∧(yb.length≤8)∧(yc.length≤4)∧(yd.length≤42)∧((∀ u∈yc,u∈lg))∧SH w w' [] [.own Awr yb.length cwr 3 1 (yb.map I),.own Alr yc.length clr 51 2 (yc.flatMap gLogin),.own Ayr (((talkSay sx wt lg to bs).2.1).length) cyr 3 1 (((talkSay sx wt lg to bs).2.1).map I)]):=by
 exact(sTalkSay (sx:=sx) (wt:=wt) (lg:=lg) (to:=to) (bs:=bs) (w:=w) (hwt:=hwt) (hlg:=hlg) (hlg_e:=hlg_e) (hto_n:=hto_n) (hbs:=hbs)).mono fun v w1 ⟨a1,a2,a3,a4,a5,a6,hv,hs⟩=>⟨a1,a2,a3,a4,a5,a6,_,_,_,_,hv,rfl,(talkSay_len sx wt lg to bs).1,(talkSay_len sx wt lg to bs).2.1,talkSay_to sx wt lg to bs,talkSay_lg,hs⟩
set_option maxHeartbeats 8000000 in
theorem iClientRun {Ams:Option Addr} {cms:Nat} (ms:List Int) (lu:List UInt8) (lw:List UInt8) (ak:Int) {Aaq:Option Addr} {caq:Nat} (aq:List Int) (an:List UInt8) (apt:Int) (sx:Int) {Awt:Option Addr} {cwt:Nat} (wt:List Int) {Alg:Option Addr} {clg:Nat} (lg:List (List UInt8×List UInt8)) (to:List UInt8) (w:World) (hms:Sl w [] 1 Ams ms.length cms (ms.map I)) (hlu_n:lu.length≤2147483648) (hlw_n:lw.length≤2147483648) (haq:Sl w [] 1 Aaq aq.length caq (aq.map I)) (han_n:an.length≤1099511627776) (hwt:Sl w [] 1 Awt wt.length cwt (wt.map I)) (hlg:Sl w [] 2 Alg lg.length clg (lg.flatMap gLogin)) (hlg_e: ∀ u∈lg,u.1.length≤9223372036854775807∧u.2.length≤9223372036854775807) (hto_n:to.length≤1099511627776) (hGp:VarP Tryz.prog w [] "internal/strconv.uint64pow10" isPow) (hEr:VarP Tryz.prog w [] "strconv.ErrRange" isIfc) (hEs:VarP Tryz.prog w [] "strconv.ErrSyntax" isIfc):Does Tryz.prog 28 [.agg #[.slice Ams ms.length cms,Str lu,Str lw,I ak,.slice Aaq aq.length caq,Str an,I apt],.agg #[I sx,.slice Awt wt.length cwt,.slice Alg lg.length clg,Str to]] w (fun v w'=>∃ Awr:Option Addr,∃ cwr:Nat,∃ Alr:Option Addr,∃ clr:Nat,v=.tuple #[.agg #[.int .i64 ((clRun ⟨ms,lu,lw,ak,aq,an,apt⟩ (sx,wt,lg,to)).1.1),.slice Awr ((clRun ⟨ms,lu,lw,ak,aq,an,apt⟩ (sx,wt,lg,to)).1.2.1).length cwr,.slice Alr ((clRun ⟨ms,lu,lw,ak,aq,an,apt⟩ (sx,wt,lg,to)).1.2.2.1).length clr,Str ((clRun ⟨ms,lu,lw,ak,aq,an,apt⟩ (sx,wt,lg,to)).1.2.2.2)],.bool ((clRun ⟨ms,lu,lw,ak,aq,an,apt⟩ (sx,wt,lg,to)).2)]∧SH w w' [] [.own Awr (((clRun ⟨ms,lu,lw,ak,aq,an,apt⟩ (sx,wt,lg,to)).1.2.1).length) cwr 3 1 (((clRun ⟨ms,lu,lw,ak,aq,an,apt⟩ (sx,wt,lg,to)).1.2.1).map I),.own Alr (((clRun ⟨ms,lu,lw,ak,aq,an,apt⟩ (sx,wt,lg,to)).1.2.2.1).length) clr 51 2 (((clRun ⟨ms,lu,lw,ak,aq,an,apt⟩ (sx,wt,lg,to)).1.2.2.1).flatMap gLogin)]):=by
 refine fE (N:=42) Tryz.func28 r0 (by kernel_rfl) r0 ?_
 have hs0:SH w w [] []:=SH.refl w []
 have hms_m:ms.length≤9223372036854775807:=Nat.le_trans hms.cap hms.capMax
 have haq_m:aq.length≤9223372036854775807:=Nat.le_trans haq.cap haq.capMax
 have hwt_m:wt.length≤9223372036854775807:=Nat.le_trans hwt.cap hwt.capMax
 have hlg_m:lg.length≤9223372036854775807:=Nat.le_trans hlg.cap hlg.capMax
 refine sr (bx (v:=.agg #[(Z10 Ams ms cms),Str lu,Str lw,I ak,(Z10 Aaq aq caq),Str an,I apt]) (cs:=[(Z10 Ams ms cms),Str lu,Str lw,I ak,(Z10 Aaq aq caq),Str an,I apt]) hs0 r0 r0 trivial r0 (fun b1 w1 hs1=>?_))
 refine bx (v:=.agg #[I sx,(Z10 Awt wt cwt),(Z23 Alg lg clg),Str to]) (cs:=(Z2 sx Awt wt cwt Alg lg clg to)) hs1 r0 r0 trivial r0 (fun b2 w2 hs2=>?_)
 refine al (v:=.agg #[I 0,ns,ns,Str []]) (cs:=[I 0,ns,ns,Str []]) hs2 tz29 r0 trivial r0 (fun b3 w3 hs3=>?_)
 refine tA (.bool false) r0 (nn (sq (sr (qt r0 (lG [(Z10 Ams ms cms),Str lu,Str lw,I ak,(Z10 Aaq aq caq),Str an,I apt] hs3 0 r0 ag53) (cL r0 (iClientValid (Ams:=Ams) (cms:=cms) (ms:=ms) (lu:=lu) (lw:=lw) (ak:=ak) (Aaq:=Aaq) (caq:=caq) (aq:=aq) (an:=an) (apt:=apt) (w:=_) (hms:=(hms.up0 hs3)) (hlu_n:=(by(omega))) (hlw_n:=(by(omega))) (haq:=(haq.up0 hs3)) (han_n:=(by(omega)))) ?_)))))
 rintro _ w4 ⟨rfl,hs4⟩
 replace hs4:=hs3.call0 hs4
 refine qt r0 (nt (b:=clientOk ms lu lw ak aq an apt) r0) (tm (.bool (!(clientOk ms lu lw ak aq an apt))) r0 ?_)
 refine spl (b:=!(clientOk ms lu lw ak aq an apt)) 13 r0 (fun h1=>?_) (fun h1=>?_)
 ·have h2:(clientOk ms lu lw ak aq an apt)=false:=by simpa using h1
  refine gt5 r0 (gt5 r0 (gt5 r0 (qt r0 (pt (v:=.bool true) r0 r0) (nn (cdt r0 (sq ?_))))))
  refine rg (qt r0 (bdv (v:=.agg #[I 0,ns,ns,Str []]) [] r0 (fun _=>by kernel_rfl)) (sG [I 0,ns,ns,Str []] hs4 2 r0 ag29 (fun w5 hs5=>?_)))
  refine tA (.bool false) r0 (nn (rt (tR ?_)))
  refine fret (v:=.tuple #[.agg #[I 0,ns,ns,Str []],.bool false]) (resC hs5 2 r0 r0 ag29 r0 (.tmp .nil)) r0 ?_
  have hs6:=hs5.nl [.own none (([]:List Int).length) 0 3 1 (([]:List Int).map I)] r0
  have hs7:=hs6.nl [.own none (([]:List (List UInt8×List UInt8)).length) 0 51 2 (([]:List (List UInt8×List UInt8)).flatMap gLogin)] r0
  have e1:clRun ⟨ms,lu,lw,ak,aq,an,apt⟩ (sx,wt,lg,to)=((0,([]:List Int),([]:List (List UInt8×List UInt8)),[]),false):=by exact cl_n (.inl ‹_›)
  have e2:=pj11 e1
  have e3:=pj121 e1
  have e4:=congrArg List.length e3
  have e5:=pj1221 e1
  have e6:=congrArg List.length e5
  have e7:=pj1222 e1
  have e8:=pj2 e1
  exact⟨none,0,none,0,(tup2 (aggv (lc (congrArg (Value.int .i64) e2) (lc (slv r0 e4 r0) (lc (slv r0 e6 r0) (lc (congrArg (Str) e7) r0))))) (congrArg (Value.bool) e8)),((hs7.pq [3,4] r0).cast (lc (own_eq (g:=I) r0 e4 r0 e3) (lc (own_eqf (g:=gLogin) r0 e6 r0 e5) r0)))⟩
 ·have h3:(clientOk ms lu lw ak aq an apt)=true:=by simpa using h1
  refine q ⟨_,rfl,rfl⟩ r0 r0 (lG (Z2 sx Awt wt cwt Alg lg clg to) hs4 1 r0 ag29) (cl ⟨_,rfl,rfl⟩ r0 (iTalkValid (sx:=sx) (Awt:=Awt) (cwt:=cwt) (wt:=wt) (Alg:=Alg) (clg:=clg) (lg:=lg) (to:=to) (w:=_) (hwt:=(hwt.up0 hs4)) (hlg:=(hlg.up0 hs4)) (hlg_e:=hlg_e) (hto_n:=(by(omega))) (hGp:=(hGp.up0 hs4)) (hEr:=(hEr.up0 hs4)) (hEs:=(hEs.up0 hs4))) ?_)
  rintro _ w6 ⟨rfl,hs8⟩
  replace hs8:=hs4.call0 hs8
  refine q ⟨_,rfl,rfl⟩ r0 r0 (nt (b:=talkOk sx wt lg to) r0) (qt r0 (pf (v:=.bool (!(talkOk sx wt lg to))) r0 r0) (nn ?_))
  refine cd (b:=!(talkOk sx wt lg to)) r0 (fun h4=>?_) (fun h4=>?_)
  ·have h5:(talkOk sx wt lg to)=false:=by simpa using h4
   refine sr (qt r0 (bdv (v:=.agg #[I 0,ns,ns,Str []]) [] r0 (fun _=>by kernel_rfl)) (sG [I 0,ns,ns,Str []] hs8 2 r0 ag29 (fun w7 hs9=>?_)))
   refine tA (.bool false) r0 (nn (rt (tR ?_)))
   refine fret (v:=.tuple #[.agg #[I 0,ns,ns,Str []],.bool false]) (resC hs9 2 r0 r0 ag29 r0 (.tmp .nil)) r0 ?_
   have hs10:=hs9.nl [.own none (([]:List Int).length) 0 3 1 (([]:List Int).map I)] r0
   have hs11:=hs10.nl [.own none (([]:List (List UInt8×List UInt8)).length) 0 51 2 (([]:List (List UInt8×List UInt8)).flatMap gLogin)] r0
   have e9:clRun ⟨ms,lu,lw,ak,aq,an,apt⟩ (sx,wt,lg,to)=((0,([]:List Int),([]:List (List UInt8×List UInt8)),[]),false):=by exact cl_n (.inr ‹_›)
   have e10:=pj11 e9
   have e11:=pj121 e9
   have e12:=congrArg List.length e11
   have e13:=pj1221 e9
   have e14:=congrArg List.length e13
   have e15:=pj1222 e9
   have e16:=pj2 e9
   exact⟨none,0,none,0,(tup2 (aggv (lc (congrArg (Value.int .i64) e10) (lc (slv r0 e12 r0) (lc (slv r0 e14 r0) (lc (congrArg (Str) e15) r0))))) (congrArg (Value.bool) e16)),((hs11.pq [3,4] r0).cast (lc (own_eq (g:=I) r0 e12 r0 e11) (lc (own_eqf (g:=gLogin) r0 e14 r0 e13) r0)))⟩
  ·have h6:(talkOk sx wt lg to)=true:=by simpa using h4
   refine sk (nN (sr (qt r0 (lG (Z2 sx Awt wt cwt Alg lg clg to) hs8 1 r0 ag29) (cL r0 (iCloneTalk (sx:=sx) (Awt:=Awt) (cwt:=cwt) (wt:=wt) (Alg:=Alg) (clg:=clg) (lg:=lg) (to:=to) (w:=_) (hwt:=(hwt.up0 hs8)) (hwt_n:=(by(have htp:=talkOk_parts (by assumption:talkOk sx wt lg to=true); have hmw:=methOk_len htp.2.1; omega))) (hlg:=(hlg.up0 hs8)) (hlg_e:=hlg_e) (hlg_n:=(by(have htp:=talkOk_parts (by assumption:talkOk sx wt lg to=true); have hmw:=methOk_len htp.2.1; omega)))) ?_))))
   rintro _ w8 ⟨Aw1,cw1,Al1,cl1,rfl,hs12⟩
   replace hs12:=hs8.call0 hs12
   refine sG (Z2 sx Aw1 wt cw1 Al1 lg cl1 to) hs12 1 r0 ag29 (fun w9 hs13=>?_)
   refine nn (bl (ul0 (ulS ?_)))
   refine bl (sr (qt r0 (lG [(Z10 Ams ms cms),Str lu,Str lw,I ak,(Z10 Aaq aq caq),Str an,I apt] hs13 0 r0 ag53) (qt r0 (fa 0 fo29_0 r0) (qt r0 (lD (I sx) hs13 4 r0 one3) (cL r0 (iClientSay (Ams:=Ams) (cms:=cms) (ms:=ms) (lu:=lu) (lw:=lw) (ak:=ak) (Aaq:=Aaq) (caq:=caq) (aq:=aq) (an:=an) (apt:=apt) (n:=sx) (w:=_) (hms:=(hms.up0 hs13)) (hlu_n:=(by(omega))) (hlw_n:=(by(omega))) (haq:=(haq.up0 hs13)) (han_n:=(by(omega)))) ?_)))))
   rintro _ w10 ⟨A1,c1,rfl,hs14⟩
   replace hs14:=hs13.call0 hs14
   refine tm (.tuple #[.slice A1 (((sayP ms lu lw ak aq an apt sx).1).length) c1,.bool ((sayP ms lu lw ak aq an apt sx).2)]) r0 (qt r0 (xt 0 (v:=.slice A1 (((sayP ms lu lw ak aq an apt sx).1).length) c1) r0 r0) (qt r0 (xt 1 (v:=.bool ((sayP ms lu lw ak aq an apt sx).2)) r0 r0) (tA (.slice A1 (((sayP ms lu lw ak aq an apt sx).1).length) c1) r0 (tA (.bool ((sayP ms lu lw ak aq an apt sx).2)) r0 (nn (sq ?_))))))
   refine sr (tm (.bool ((sayP ms lu lw ak aq an apt sx).2)) r0 (qt r0 (nt (b:=(sayP ms lu lw ak aq an apt sx).2) r0) (nn ?_)))
   refine cd (b:=!((sayP ms lu lw ak aq an apt sx).2)) r0 (fun h7=>?_) (fun h7=>?_)
   ·have h8:((sayP ms lu lw ak aq an apt sx).2)=false:=by simpa using h7
    refine sr (qt r0 (lG (Z2 sx Aw1 wt cw1 Al1 lg cl1 to) hs14 4 r0 ag29) (sG (Z2 sx Aw1 wt cw1 Al1 lg cl1 to) hs14 1 r0 ag29 (fun w11 hs15=>?_)))
    refine tA (.bool true) r0 (nn ?_)
    have hs16:SH w w11 [] [(Z7 Aw1 wt cw1),(Z9 Al1 lg cl1),.blk b3 29 (Z2 sx Aw1 wt cw1 Al1 lg cl1 to)]:=hs15.pk [1,2,5] r0
    refine rt (tR (bR (tR (bR ?_))))
    refine fret (v:=.tuple #[.agg #[I sx,(Z10 Aw1 wt cw1),(Z23 Al1 lg cl1),Str to],.bool true]) (resC hs16 2 r0 r0 ag29 r0 (.tmp .nil)) r0 ?_
    have e17:clRun ⟨ms,lu,lw,ak,aq,an,apt⟩ (sx,wt,lg,to)=((sx,wt,lg,to),true):=by(rw[(cl_y (c:=⟨ms,lu,lw,ak,aq,an,apt⟩) (t:=(sx,wt,lg,to)) ‹_› ‹_›),runT_none (by first | exact step_no1 (c:=⟨ms,lu,lw,ak,aq,an,apt⟩) (t:=(sx,wt,lg,to)) ‹_› | exact step_no2 (c:=⟨ms,lu,lw,ak,aq,an,apt⟩) (t:=(sx,wt,lg,to)) ‹_›)]; done)
    have e18:=pj11 e17
    have e19:=pj121 e17
    have e20:=congrArg List.length e19
    have e21:=pj1221 e17
    have e22:=congrArg List.length e21
    have e23:=pj1222 e17
    have e24:=pj2 e17
    exact⟨Aw1,cw1,Al1,cl1,(tup2 (aggv (lc (congrArg (Value.int .i64) e18) (lc (slv r0 e20 r0) (lc (slv r0 e22 r0) (lc (congrArg (Str) e23) r0))))) (congrArg (Value.bool) e24)),((hs16.pq [0,1] r0).cast (lc (own_eq (g:=I) r0 e20 r0 e19) (lc (own_eqf (g:=gLogin) r0 e22 r0 e21) r0)))⟩
   ·have h9:((sayP ms lu lw ak aq an apt sx).2)=true:=by simpa using h7
    refine sk (nN (sr (qt r0 (lG (Z2 sx Aw1 wt cw1 Al1 lg cl1 to) hs14 4 r0 ag29) (tm (.slice A1 (((sayP ms lu lw ak aq an apt sx).1).length) c1) r0 (cL r0 (iTalkSayE (sx:=sx) (Awt:=Aw1) (cwt:=cw1) (wt:=wt) (Alg:=Al1) (clg:=cl1) (lg:=lg) (to:=to) (Abs:=A1) (cbs:=c1) (bs:=(sayP ms lu lw ak aq an apt sx).1) (w:=_) (hwt:=(hs14.sl0 2 r0)) (hlg:=(hs14.sl0 3 r0)) (hlg_e:=‹_›) (hto_n:=(by(omega))) (hbs:=(hs14.sl0 5 r0)) (hGp:=(hGp.up0 hs14)) (hEr:=(hEr.up0 hs14)) (hEs:=(hEs.up0 hs14))) ?_)))))
    rintro _ w12 ⟨Aw2,cw2,Al2,cl2,Ay1,cy1,ya1,yb1,yc1,yd1,rfl,p1,p2,p3,p4,p5,hs17⟩
    replace hs17:=hs14.call0 hs17
    refine tm (.tuple #[.agg #[I ya1,(Z10 Aw2 yb1 cw2),(Z23 Al2 yc1 cl2),Str yd1],.slice Ay1 (((talkSay sx wt lg to ((sayP ms lu lw ak aq an apt sx).1)).2.1).length) cy1,.bool ((talkSay sx wt lg to ((sayP ms lu lw ak aq an apt sx).1)).2.2)]) r0 (qt r0 (xt 0 (v:=.agg #[I ya1,(Z10 Aw2 yb1 cw2),(Z23 Al2 yc1 cl2),Str yd1]) r0 r0) (qt r0 (xt 1 (v:=.slice Ay1 (((talkSay sx wt lg to ((sayP ms lu lw ak aq an apt sx).1)).2.1).length) cy1) r0 r0) (qt r0 (xt 2 (v:=.bool ((talkSay sx wt lg to ((sayP ms lu lw ak aq an apt sx).1)).2.2)) r0 r0) (al (v:=.agg #[I 0,ns,ns,Str []]) (cs:=[I 0,ns,ns,Str []]) hs17 tz29 r0 trivial r0 (fun b4 w13 hs18=>?_)))))
    refine sG (Z2 ya1 Aw2 yb1 cw2 Al2 yc1 cl2 yd1) hs18 9 r0 ag29 (fun w14 hs19=>?_)
    refine tA (.slice Ay1 (((talkSay sx wt lg to ((sayP ms lu lw ak aq an apt sx).1)).2.1).length) cy1) r0 (tA (Z26 sx wt lg to ms lu lw ak aq an apt) r0 (nn ?_))
    have hs20:SH w w14 [] [.blk b1 53 [(Z10 Ams ms cms),Str lu,Str lw,I ak,(Z10 Aaq aq caq),Str an,I apt],(Z11 b3),(Z7 Aw1 wt cw1),(Z9 Al1 lg cl1),.blk b2 29 (Z2 sx Aw1 wt cw1 Al1 lg cl1 to),(Z7 Aw2 yb1 cw2),(Z9 Al2 yc1 cl2),.blk b4 29 (Z2 ya1 Aw2 yb1 cw2 Al2 yc1 cl2 yd1)]:=hs19.pk [0,1,2,3,4,6,7,9] r0
    refine sq (sr (tm (Z26 sx wt lg to ms lu lw ak aq an apt) r0 (qt r0 (nt (b:=(talkSay sx wt lg to ((sayP ms lu lw ak aq an apt sx).1)).2.2) r0) (nn ?_))))
    refine cd (b:=!((talkSay sx wt lg to ((sayP ms lu lw ak aq an apt sx).1)).2.2)) r0 (fun h10=>?_) (fun h10=>?_)
    ·have h11:((talkSay sx wt lg to ((sayP ms lu lw ak aq an apt sx).1)).2.2)=false:=by simpa using h10
     refine sr (qt r0 (lG (Z2 sx Aw1 wt cw1 Al1 lg cl1 to) hs20 4 r0 ag29) (sG (Z2 sx Aw1 wt cw1 Al1 lg cl1 to) hs20 1 r0 ag29 (fun w15 hs21=>?_)))
     refine tA (.bool true) r0 (nn ?_)
     have hs22:=hs21.pq [1,2,7] r0
     refine rt (tR (bR (tR (bR ?_))))
     refine fret (v:=.tuple #[.agg #[I sx,(Z10 Aw1 wt cw1),(Z23 Al1 lg cl1),Str to],.bool true]) (resC hs22 2 r0 r0 ag29 r0 (.tmp .nil)) r0 ?_
     have e25:clRun ⟨ms,lu,lw,ak,aq,an,apt⟩ (sx,wt,lg,to)=((sx,wt,lg,to),true):=by(rw[(cl_y (c:=⟨ms,lu,lw,ak,aq,an,apt⟩) (t:=(sx,wt,lg,to)) ‹_› ‹_›),runT_none (by first | exact step_no1 (c:=⟨ms,lu,lw,ak,aq,an,apt⟩) (t:=(sx,wt,lg,to)) ‹_› | exact step_no2 (c:=⟨ms,lu,lw,ak,aq,an,apt⟩) (t:=(sx,wt,lg,to)) ‹_›)]; done)
     have e26:=pj11 e25
     have e27:=pj121 e25
     have e28:=congrArg List.length e27
     have e29:=pj1221 e25
     have e30:=congrArg List.length e29
     have e31:=pj1222 e25
     have e32:=pj2 e25
     exact⟨Aw1,cw1,Al1,cl1,(tup2 (aggv (lc (congrArg (Value.int .i64) e26) (lc (slv r0 e28 r0) (lc (slv r0 e30 r0) (lc (congrArg (Str) e31) r0))))) (congrArg (Value.bool) e32)),((hs22.pq [0,1] r0).cast (lc (own_eq (g:=I) r0 e28 r0 e27) (lc (own_eqf (g:=gLogin) r0 e30 r0 e29) r0)))⟩
    ·have h12:((talkSay sx wt lg to ((sayP ms lu lw ak aq an apt sx).1)).2.2)=true:=by simpa using h10
     refine sk (nN (rg (qt r0 (lG (Z2 ya1 Aw2 yb1 cw2 Al2 yc1 cl2 yd1) hs20 7 r0 ag29) (sG (Z2 ya1 Aw2 yb1 cw2 Al2 yc1 cl2 yd1) hs20 4 r0 ag29 (fun w16 hs23=>?_)))))
     refine nl (bN (nN (ulS (bl (sr (qt r0 (lG [(Z10 Ams ms cms),Str lu,Str lw,I ak,(Z10 Aaq aq caq),Str an,I apt] hs23 0 r0 ag53) ?_))))))
     refine qt r0 (fa 0 fo29_0 r0) (qt r0 (lD (I ya1) hs23 7 r0 one3) (cL r0 (iClientSay (Ams:=Ams) (cms:=cms) (ms:=ms) (lu:=lu) (lw:=lw) (ak:=ak) (Aaq:=Aaq) (caq:=caq) (aq:=aq) (an:=an) (apt:=apt) (n:=ya1) (w:=_) (hms:=(hms.up0 hs23)) (hlu_n:=(by(omega))) (hlw_n:=(by(omega))) (haq:=(haq.up0 hs23)) (han_n:=(by(omega)))) ?_))
     rintro _ w17 ⟨A2,c2,rfl,hs24⟩
     replace hs24:=hs23.call0 hs24
     refine tm (.tuple #[.slice A2 (((sayP ms lu lw ak aq an apt ya1).1).length) c2,.bool ((sayP ms lu lw ak aq an apt ya1).2)]) r0 (qt r0 (xt 0 (v:=.slice A2 (((sayP ms lu lw ak aq an apt ya1).1).length) c2) r0 r0) (qt r0 (xt 1 (v:=.bool ((sayP ms lu lw ak aq an apt ya1).2)) r0 r0) (tA (.slice A2 (((sayP ms lu lw ak aq an apt ya1).1).length) c2) r0 (tA (.bool ((sayP ms lu lw ak aq an apt ya1).2)) r0 (nn ?_)))))
     have hs25:=hs24.pq [0,1,4,5,7,8] r0
     refine sq (sr (tm (.bool ((sayP ms lu lw ak aq an apt ya1).2)) r0 (qt r0 (nt (b:=(sayP ms lu lw ak aq an apt ya1).2) r0) (nn ?_))))
     refine cd (b:=!((sayP ms lu lw ak aq an apt ya1).2)) r0 (fun h13=>?_) (fun h13=>?_)
     ·have h14:((sayP ms lu lw ak aq an apt ya1).2)=false:=by simpa using h13
      refine sr (qt r0 (lG (Z2 ya1 Aw2 yb1 cw2 Al2 yc1 cl2 yd1) hs25 4 r0 ag29) (sG (Z2 ya1 Aw2 yb1 cw2 Al2 yc1 cl2 yd1) hs25 1 r0 ag29 (fun w18 hs26=>?_)))
      refine tA (.bool true) r0 (nn ?_)
      have hs27:=hs26.pq [1,2,5] r0
      refine rt (tR (bR (tR (bR ?_))))
      refine fret (v:=.tuple #[.agg #[I ya1,(Z10 Aw2 yb1 cw2),(Z23 Al2 yc1 cl2),Str yd1],.bool true]) (resC hs27 2 r0 r0 ag29 r0 (.tmp .nil)) r0 ?_
      have e33:clRun ⟨ms,lu,lw,ak,aq,an,apt⟩ (sx,wt,lg,to)=((ya1,yb1,yc1,yd1),true):=by(rw[(cl_y (c:=⟨ms,lu,lw,ak,aq,an,apt⟩) (t:=(sx,wt,lg,to)) ‹_› ‹_›),runT_some (step_y (c:=⟨ms,lu,lw,ak,aq,an,apt⟩) (t:=(sx,wt,lg,to)) (t':=(ya1,yb1,yc1,yd1)) ‹_› ‹_› p1),runT_none (by first | exact step_no1 (c:=⟨ms,lu,lw,ak,aq,an,apt⟩) (t:=(ya1,yb1,yc1,yd1)) ‹_› | exact step_no2 (c:=⟨ms,lu,lw,ak,aq,an,apt⟩) (t:=(ya1,yb1,yc1,yd1)) ‹_›)]; done)
      have e34:=pj11 e33
      have e35:=pj121 e33
      have e36:=congrArg List.length e35
      have e37:=pj1221 e33
      have e38:=congrArg List.length e37
      have e39:=pj1222 e33
      have e40:=pj2 e33
      exact⟨Aw2,cw2,Al2,cl2,(tup2 (aggv (lc (congrArg (Value.int .i64) e34) (lc (slv r0 e36 r0) (lc (slv r0 e38 r0) (lc (congrArg (Str) e39) r0))))) (congrArg (Value.bool) e40)),((hs27.pq [0,1] r0).cast (lc (own_eq (g:=I) r0 e36 r0 e35) (lc (own_eqf (g:=gLogin) r0 e38 r0 e37) r0)))⟩
     ·have h15:((sayP ms lu lw ak aq an apt ya1).2)=true:=by simpa using h13
      refine sk (nN (sr (qt r0 (lG (Z2 ya1 Aw2 yb1 cw2 Al2 yc1 cl2 yd1) hs25 4 r0 ag29) (tm (.slice A2 (((sayP ms lu lw ak aq an apt ya1).1).length) c2) r0 (cL r0 (iTalkSayE (sx:=ya1) (Awt:=Aw2) (cwt:=cw2) (wt:=yb1) (Alg:=Al2) (clg:=cl2) (lg:=yc1) (to:=yd1) (Abs:=A2) (cbs:=c2) (bs:=(sayP ms lu lw ak aq an apt ya1).1) (w:=_) (hwt:=(hs25.sl0 2 r0)) (hlg:=(hs25.sl0 3 r0)) (hlg_e:=(by exact fun u hu=>hlg_e u (p5 u hu))) (hto_n:=(by(omega))) (hbs:=(hs25.sl0 5 r0)) (hGp:=(hGp.up0 hs25)) (hEr:=(hEr.up0 hs25)) (hEs:=(hEs.up0 hs25))) ?_)))))
      rintro _ w19 ⟨Aw3,cw3,Al3,cl3,Ay2,cy2,ya2,yb2,yc2,yd2,rfl,p6,p7,p8,p9,p10,hs28⟩
      replace hs28:=hs25.call0 hs28
      refine tm (.tuple #[.agg #[I ya2,(Z10 Aw3 yb2 cw3),(Z23 Al3 yc2 cl3),Str yd2],.slice Ay2 (((talkSay ya1 yb1 yc1 yd1 ((sayP ms lu lw ak aq an apt ya1).1)).2.1).length) cy2,.bool ((talkSay ya1 yb1 yc1 yd1 ((sayP ms lu lw ak aq an apt ya1).1)).2.2)]) r0 (qt r0 (xt 0 (v:=.agg #[I ya2,(Z10 Aw3 yb2 cw3),(Z23 Al3 yc2 cl3),Str yd2]) r0 r0) (qt r0 (xt 1 (v:=.slice Ay2 (((talkSay ya1 yb1 yc1 yd1 ((sayP ms lu lw ak aq an apt ya1).1)).2.1).length) cy2) r0 r0) (qt r0 (xt 2 (v:=.bool ((talkSay ya1 yb1 yc1 yd1 ((sayP ms lu lw ak aq an apt ya1).1)).2.2)) r0 r0) (al (v:=.agg #[I 0,ns,ns,Str []]) (cs:=[I 0,ns,ns,Str []]) hs28 tz29 r0 trivial r0 (fun b5 w20 hs29=>?_)))))
      refine sG (Z2 ya2 Aw3 yb2 cw3 Al3 yc2 cl3 yd2) hs29 9 r0 ag29 (fun w21 hs30=>?_)
      refine tA (.slice Ay2 (((talkSay ya1 yb1 yc1 yd1 ((sayP ms lu lw ak aq an apt ya1).1)).2.1).length) cy2) r0 (tA (Z26 ya1 yb1 yc1 yd1 ms lu lw ak aq an apt) r0 (nn ?_))
      have hs31:=hs30.pq [0,1,2,3,4,6,7,9] r0
      refine sq (sr (tm (Z26 ya1 yb1 yc1 yd1 ms lu lw ak aq an apt) r0 (qt r0 (nt (b:=(talkSay ya1 yb1 yc1 yd1 ((sayP ms lu lw ak aq an apt ya1).1)).2.2) r0) (nn ?_))))
      refine cd (b:=!((talkSay ya1 yb1 yc1 yd1 ((sayP ms lu lw ak aq an apt ya1).1)).2.2)) r0 (fun h16=>?_) (fun h16=>?_)
      ·have h17:((talkSay ya1 yb1 yc1 yd1 ((sayP ms lu lw ak aq an apt ya1).1)).2.2)=false:=by simpa using h16
       refine sr (qt r0 (lG (Z2 ya1 Aw2 yb1 cw2 Al2 yc1 cl2 yd1) hs31 4 r0 ag29) (sG (Z2 ya1 Aw2 yb1 cw2 Al2 yc1 cl2 yd1) hs31 1 r0 ag29 (fun w22 (hs32:SH w w22 [] [.blk b1 53 [(Z10 Ams ms cms),Str lu,Str lw,I ak,(Z10 Aaq aq caq),Str an,I apt],(Z7 Aw2 yb1 cw2),(Z9 Al2 yc1 cl2),.blk b2 29 (Z2 ya1 Aw2 yb1 cw2 Al2 yc1 cl2 yd1),(Z7 Aw3 yb2 cw3),(Z9 Al3 yc2 cl3),.blk b5 29 (Z2 ya2 Aw3 yb2 cw3 Al3 yc2 cl3 yd2),.blk b3 29 (Z2 ya1 Aw2 yb1 cw2 Al2 yc1 cl2 yd1)])=>?_)))
       refine tA (.bool true) r0 (nn ?_)
       have hs33:=hs32.pq [1,2,7] r0
       refine rt (tR (bR (tR (bR ?_))))
       refine fret (v:=.tuple #[.agg #[I ya1,(Z10 Aw2 yb1 cw2),(Z23 Al2 yc1 cl2),Str yd1],.bool true]) (resC hs33 2 r0 r0 ag29 r0 (.tmp .nil)) r0 ?_
       have e41:clRun ⟨ms,lu,lw,ak,aq,an,apt⟩ (sx,wt,lg,to)=((ya1,yb1,yc1,yd1),true):=by(rw[(cl_y (c:=⟨ms,lu,lw,ak,aq,an,apt⟩) (t:=(sx,wt,lg,to)) ‹_› ‹_›),runT_some (step_y (c:=⟨ms,lu,lw,ak,aq,an,apt⟩) (t:=(sx,wt,lg,to)) (t':=(ya1,yb1,yc1,yd1)) ‹_› ‹_› p1),runT_none (by first | exact step_no1 (c:=⟨ms,lu,lw,ak,aq,an,apt⟩) (t:=(ya1,yb1,yc1,yd1)) ‹_› | exact step_no2 (c:=⟨ms,lu,lw,ak,aq,an,apt⟩) (t:=(ya1,yb1,yc1,yd1)) ‹_›)]; done)
       have e42:=pj11 e41
       have e43:=pj121 e41
       have e44:=congrArg List.length e43
       have e45:=pj1221 e41
       have e46:=congrArg List.length e45
       have e47:=pj1222 e41
       have e48:=pj2 e41
       exact⟨Aw2,cw2,Al2,cl2,(tup2 (aggv (lc (congrArg (Value.int .i64) e42) (lc (slv r0 e44 r0) (lc (slv r0 e46 r0) (lc (congrArg (Str) e47) r0))))) (congrArg (Value.bool) e48)),((hs33.pq [0,1] r0).cast (lc (own_eq (g:=I) r0 e44 r0 e43) (lc (own_eqf (g:=gLogin) r0 e46 r0 e45) r0)))⟩
      ·have h18:((talkSay ya1 yb1 yc1 yd1 ((sayP ms lu lw ak aq an apt ya1).1)).2.2)=true:=by simpa using h16
       refine sk (nN (rg (qt r0 (lG (Z2 ya2 Aw3 yb2 cw3 Al3 yc2 cl3 yd2) hs31 7 r0 ag29) (sG (Z2 ya2 Aw3 yb2 cw3 Al3 yc2 cl3 yd2) hs31 4 r0 ag29 (fun w23 hs34=>?_)))))
       refine nl (bN (nN (ulS (bl (sr (qt r0 (lG [(Z10 Ams ms cms),Str lu,Str lw,I ak,(Z10 Aaq aq caq),Str an,I apt] hs34 0 r0 ag53) ?_))))))
       refine qt r0 (fa 0 fo29_0 r0) (qt r0 (lD (I ya2) hs34 7 r0 one3) (cL r0 (iClientSay (Ams:=Ams) (cms:=cms) (ms:=ms) (lu:=lu) (lw:=lw) (ak:=ak) (Aaq:=Aaq) (caq:=caq) (aq:=aq) (an:=an) (apt:=apt) (n:=ya2) (w:=_) (hms:=(hms.up0 hs34)) (hlu_n:=(by(omega))) (hlw_n:=(by(omega))) (haq:=(haq.up0 hs34)) (han_n:=(by(omega)))) ?_))
       rintro _ w24 ⟨A3,c3,rfl,hs35⟩
       replace hs35:=hs34.call0 hs35
       refine tm (.tuple #[.slice A3 (((sayP ms lu lw ak aq an apt ya2).1).length) c3,.bool ((sayP ms lu lw ak aq an apt ya2).2)]) r0 (qt r0 (xt 0 (v:=.slice A3 (((sayP ms lu lw ak aq an apt ya2).1).length) c3) r0 r0) (qt r0 (xt 1 (v:=.bool ((sayP ms lu lw ak aq an apt ya2).2)) r0 r0) (tA (.slice A3 (((sayP ms lu lw ak aq an apt ya2).1).length) c3) r0 (tA (.bool ((sayP ms lu lw ak aq an apt ya2).2)) r0 (nn ?_)))))
       have hs36:SH w w24 [] [.blk b1 53 [(Z10 Ams ms cms),Str lu,Str lw,I ak,(Z10 Aaq aq caq),Str an,I apt],(Z11 b3),(Z7 Aw3 yb2 cw3),(Z9 Al3 yc2 cl3),.blk b2 29 (Z2 ya2 Aw3 yb2 cw3 Al3 yc2 cl3 yd2),.own A3 (((sayP ms lu lw ak aq an apt ya2).1).length) c3 3 1 (((sayP ms lu lw ak aq an apt ya2).1).map I)]:=hs35.pk [0,1,4,5,7,8] r0
       refine sq (sr (tm (.bool ((sayP ms lu lw ak aq an apt ya2).2)) r0 (qt r0 (nt (b:=(sayP ms lu lw ak aq an apt ya2).2) r0) (nn ?_))))
       refine cd (b:=!((sayP ms lu lw ak aq an apt ya2).2)) r0 (fun h19=>?_) (fun h19=>?_)
       ·have h20:((sayP ms lu lw ak aq an apt ya2).2)=false:=by simpa using h19
        refine sr (qt r0 (lG (Z2 ya2 Aw3 yb2 cw3 Al3 yc2 cl3 yd2) hs36 4 r0 ag29) (sG (Z2 ya2 Aw3 yb2 cw3 Al3 yc2 cl3 yd2) hs36 1 r0 ag29 (fun w25 hs37=>?_)))
        refine tA (.bool true) r0 (nn ?_)
        have hs38:=hs37.pq [1,2,5] r0
        refine rt (tR (bR (tR (bR ?_))))
        refine fret (v:=.tuple #[.agg #[I ya2,(Z10 Aw3 yb2 cw3),(Z23 Al3 yc2 cl3),Str yd2],.bool true]) (resC hs38 2 r0 r0 ag29 r0 (.tmp .nil)) r0 ?_
        have e49:clRun ⟨ms,lu,lw,ak,aq,an,apt⟩ (sx,wt,lg,to)=((ya2,yb2,yc2,yd2),true):=by(rw[(cl_y (c:=⟨ms,lu,lw,ak,aq,an,apt⟩) (t:=(sx,wt,lg,to)) ‹_› ‹_›),runT_some (step_y (c:=⟨ms,lu,lw,ak,aq,an,apt⟩) (t:=(sx,wt,lg,to)) (t':=(ya1,yb1,yc1,yd1)) ‹_› ‹_› p1),runT_some (step_y (c:=⟨ms,lu,lw,ak,aq,an,apt⟩) (t:=(ya1,yb1,yc1,yd1)) (t':=(ya2,yb2,yc2,yd2)) ‹_› ‹_› p6),runT_none (by first | exact step_no1 (c:=⟨ms,lu,lw,ak,aq,an,apt⟩) (t:=(ya2,yb2,yc2,yd2)) ‹_› | exact step_no2 (c:=⟨ms,lu,lw,ak,aq,an,apt⟩) (t:=(ya2,yb2,yc2,yd2)) ‹_›)]; done)
        have e50:=pj11 e49
        have e51:=pj121 e49
        have e52:=congrArg List.length e51
        have e53:=pj1221 e49
        have e54:=congrArg List.length e53
        have e55:=pj1222 e49
        have e56:=pj2 e49
        exact⟨Aw3,cw3,Al3,cl3,(tup2 (aggv (lc (congrArg (Value.int .i64) e50) (lc (slv r0 e52 r0) (lc (slv r0 e54 r0) (lc (congrArg (Str) e55) r0))))) (congrArg (Value.bool) e56)),((hs38.pq [0,1] r0).cast (lc (own_eq (g:=I) r0 e52 r0 e51) (lc (own_eqf (g:=gLogin) r0 e54 r0 e53) r0)))⟩
       ·have h21:((sayP ms lu lw ak aq an apt ya2).2)=true:=by simpa using h19
        refine sk (nN (sr (qt r0 (lG (Z2 ya2 Aw3 yb2 cw3 Al3 yc2 cl3 yd2) hs36 4 r0 ag29) (tm (.slice A3 (((sayP ms lu lw ak aq an apt ya2).1).length) c3) r0 (cL r0 (iTalkSayE (sx:=ya2) (Awt:=Aw3) (cwt:=cw3) (wt:=yb2) (Alg:=Al3) (clg:=cl3) (lg:=yc2) (to:=yd2) (Abs:=A3) (cbs:=c3) (bs:=(sayP ms lu lw ak aq an apt ya2).1) (w:=_) (hwt:=(hs36.sl0 2 r0)) (hlg:=(hs36.sl0 3 r0)) (hlg_e:=(by exact fun u hu=>hlg_e u (p5 u (p10 u hu)))) (hto_n:=(by(omega))) (hbs:=(hs36.sl0 5 r0)) (hGp:=(hGp.up0 hs36)) (hEr:=(hEr.up0 hs36)) (hEs:=(hEs.up0 hs36))) ?_)))))
        rintro _ w26 ⟨Aw4,cw4,Al4,cl4,Ay3,cy3,ya3,yb3,yc3,yd3,rfl,p11,p12,p13,p14,p15,hs39⟩
        replace hs39:=hs36.call0 hs39
        refine tm (.tuple #[.agg #[I ya3,(Z10 Aw4 yb3 cw4),(Z23 Al4 yc3 cl4),Str yd3],.slice Ay3 (((talkSay ya2 yb2 yc2 yd2 ((sayP ms lu lw ak aq an apt ya2).1)).2.1).length) cy3,.bool ((talkSay ya2 yb2 yc2 yd2 ((sayP ms lu lw ak aq an apt ya2).1)).2.2)]) r0 (qt r0 (xt 0 (v:=.agg #[I ya3,(Z10 Aw4 yb3 cw4),(Z23 Al4 yc3 cl4),Str yd3]) r0 r0) (qt r0 (xt 1 (v:=.slice Ay3 (((talkSay ya2 yb2 yc2 yd2 ((sayP ms lu lw ak aq an apt ya2).1)).2.1).length) cy3) r0 r0) (qt r0 (xt 2 (v:=.bool ((talkSay ya2 yb2 yc2 yd2 ((sayP ms lu lw ak aq an apt ya2).1)).2.2)) r0 r0) (al (v:=.agg #[I 0,ns,ns,Str []]) (cs:=[I 0,ns,ns,Str []]) hs39 tz29 r0 trivial r0 (fun b6 w27 (hs40:SH w w27 [] [.blk b1 53 [(Z10 Ams ms cms),Str lu,Str lw,I ak,(Z10 Aaq aq caq),Str an,I apt],(Z11 b3),(Z7 Aw3 yb2 cw3),(Z9 Al3 yc2 cl3),.blk b2 29 (Z2 ya2 Aw3 yb2 cw3 Al3 yc2 cl3 yd2),.own A3 (((sayP ms lu lw ak aq an apt ya2).1).length) c3 3 1 (((sayP ms lu lw ak aq an apt ya2).1).map I),(Z7 Aw4 yb3 cw4),(Z9 Al4 yc3 cl4),.own Ay3 (((talkSay ya2 yb2 yc2 yd2 ((sayP ms lu lw ak aq an apt ya2).1)).2.1).length) cy3 3 1 (((talkSay ya2 yb2 yc2 yd2 ((sayP ms lu lw ak aq an apt ya2).1)).2.1).map I),(Z11 b6)])=>?_)))))
        refine sG (Z2 ya3 Aw4 yb3 cw4 Al4 yc3 cl4 yd3) hs40 9 r0 ag29 (fun w28 hs41=>?_)
        refine tA (.slice Ay3 (((talkSay ya2 yb2 yc2 yd2 ((sayP ms lu lw ak aq an apt ya2).1)).2.1).length) cy3) r0 (tA (Z26 ya2 yb2 yc2 yd2 ms lu lw ak aq an apt) r0 (nn ?_))
        have hs42:=hs41.pq [0,1,2,3,4,6,7,9] r0
        refine sq (sr (tm (Z26 ya2 yb2 yc2 yd2 ms lu lw ak aq an apt) r0 (qt r0 (nt (b:=(talkSay ya2 yb2 yc2 yd2 ((sayP ms lu lw ak aq an apt ya2).1)).2.2) r0) (nn ?_))))
        refine cd (b:=!((talkSay ya2 yb2 yc2 yd2 ((sayP ms lu lw ak aq an apt ya2).1)).2.2)) r0 (fun h22=>?_) (fun h22=>?_)
        ·have h23:((talkSay ya2 yb2 yc2 yd2 ((sayP ms lu lw ak aq an apt ya2).1)).2.2)=false:=by simpa using h22
         refine sr (qt r0 (lG (Z2 ya2 Aw3 yb2 cw3 Al3 yc2 cl3 yd2) hs42 4 r0 ag29) (sG (Z2 ya2 Aw3 yb2 cw3 Al3 yc2 cl3 yd2) hs42 1 r0 ag29 (fun w29 hs43=>?_)))
         refine tA (.bool true) r0 (nn ?_)
         have hs44:SH w w29 [] [(Z7 Aw3 yb2 cw3),(Z9 Al3 yc2 cl3),.blk b3 29 (Z2 ya2 Aw3 yb2 cw3 Al3 yc2 cl3 yd2)]:=hs43.pk [1,2,7] r0
         refine rt (tR (bR (tR (bR ?_))))
         refine fret (v:=.tuple #[.agg #[I ya2,(Z10 Aw3 yb2 cw3),(Z23 Al3 yc2 cl3),Str yd2],.bool true]) (resC hs44 2 r0 r0 ag29 r0 (.tmp .nil)) r0 ?_
         have e57:clRun ⟨ms,lu,lw,ak,aq,an,apt⟩ (sx,wt,lg,to)=((ya2,yb2,yc2,yd2),true):=by(rw[(cl_y (c:=⟨ms,lu,lw,ak,aq,an,apt⟩) (t:=(sx,wt,lg,to)) ‹_› ‹_›),runT_some (step_y (c:=⟨ms,lu,lw,ak,aq,an,apt⟩) (t:=(sx,wt,lg,to)) (t':=(ya1,yb1,yc1,yd1)) ‹_› ‹_› p1),runT_some (step_y (c:=⟨ms,lu,lw,ak,aq,an,apt⟩) (t:=(ya1,yb1,yc1,yd1)) (t':=(ya2,yb2,yc2,yd2)) ‹_› ‹_› p6),runT_none (by first | exact step_no1 (c:=⟨ms,lu,lw,ak,aq,an,apt⟩) (t:=(ya2,yb2,yc2,yd2)) ‹_› | exact step_no2 (c:=⟨ms,lu,lw,ak,aq,an,apt⟩) (t:=(ya2,yb2,yc2,yd2)) ‹_›)]; done)
         have e58:=pj11 e57
         have e59:=pj121 e57
         have e60:=congrArg List.length e59
         have e61:=pj1221 e57
         have e62:=congrArg List.length e61
         have e63:=pj1222 e57
         have e64:=pj2 e57
         exact⟨Aw3,cw3,Al3,cl3,(tup2 (aggv (lc (congrArg (Value.int .i64) e58) (lc (slv r0 e60 r0) (lc (slv r0 e62 r0) (lc (congrArg (Str) e63) r0))))) (congrArg (Value.bool) e64)),((hs44.pq [0,1] r0).cast (lc (own_eq (g:=I) r0 e60 r0 e59) (lc (own_eqf (g:=gLogin) r0 e62 r0 e61) r0)))⟩
        ·have h24:((talkSay ya2 yb2 yc2 yd2 ((sayP ms lu lw ak aq an apt ya2).1)).2.2)=true:=by simpa using h22
         refine sk (nN (rg (qt r0 (lG (Z2 ya3 Aw4 yb3 cw4 Al4 yc3 cl4 yd3) hs42 7 r0 ag29) (sG (Z2 ya3 Aw4 yb3 cw4 Al4 yc3 cl4 yd3) hs42 4 r0 ag29 (fun w30 hs45=>?_)))))
         refine nl (bN (nN (ulS (bl (sr (qt r0 (lG [(Z10 Ams ms cms),Str lu,Str lw,I ak,(Z10 Aaq aq caq),Str an,I apt] hs45 0 r0 ag53) ?_))))))
         refine qt r0 (fa 0 fo29_0 r0) (qt r0 (lD (I ya3) hs45 7 r0 one3) (cL r0 (iClientSay (Ams:=Ams) (cms:=cms) (ms:=ms) (lu:=lu) (lw:=lw) (ak:=ak) (Aaq:=Aaq) (caq:=caq) (aq:=aq) (an:=an) (apt:=apt) (n:=ya3) (w:=_) (hms:=(hms.up0 hs45)) (hlu_n:=(by(omega))) (hlw_n:=(by(omega))) (haq:=(haq.up0 hs45)) (han_n:=(by(omega)))) ?_))
         rintro _ w31 ⟨A4,c4,rfl,hs46⟩
         replace hs46:=hs45.call0 hs46
         refine tm (.tuple #[.slice A4 (((sayP ms lu lw ak aq an apt ya3).1).length) c4,.bool ((sayP ms lu lw ak aq an apt ya3).2)]) r0 (qt r0 (xt 0 (v:=.slice A4 (((sayP ms lu lw ak aq an apt ya3).1).length) c4) r0 r0) (qt r0 (xt 1 (v:=.bool ((sayP ms lu lw ak aq an apt ya3).2)) r0 r0) (tA (.slice A4 (((sayP ms lu lw ak aq an apt ya3).1).length) c4) r0 (tA (.bool ((sayP ms lu lw ak aq an apt ya3).2)) r0 (nn ?_)))))
         have hs47:=hs46.pq [0,1,4,5,7,8] r0
         refine sq (sr (tm (.bool ((sayP ms lu lw ak aq an apt ya3).2)) r0 (qt r0 (nt (b:=(sayP ms lu lw ak aq an apt ya3).2) r0) (nn ?_))))
         refine cd (b:=!((sayP ms lu lw ak aq an apt ya3).2)) r0 (fun h25=>?_) (fun h25=>absurd (h25.symm.trans (by have u1:=tS_up (by assumption:(talkSay sx wt lg to (sayP ms lu lw ak aq an apt sx).1).2.2=true); have v1:ya1=_:=congrArg Prod.fst p1; have u2:=tS_up (by assumption:(talkSay ya1 yb1 yc1 yd1 (sayP ms lu lw ak aq an apt ya1).1).2.2=true); have v2:ya2=_:=congrArg Prod.fst p6; have u3:=tS_up (by assumption:(talkSay ya2 yb2 yc2 yd2 (sayP ms lu lw ak aq an apt ya2).1).2.2=true); have v3:ya3=_:=congrArg Prod.fst p11; rw[say_hi (by omega)]; rfl:(!((sayP ms lu lw ak aq an apt ya3).2))=true)) (by decide))
         refine sr (qt r0 (lG (Z2 ya3 Aw4 yb3 cw4 Al4 yc3 cl4 yd3) hs47 4 r0 ag29) (sG (Z2 ya3 Aw4 yb3 cw4 Al4 yc3 cl4 yd3) hs47 1 r0 ag29 (fun w32 (hs48:SH w w32 [] [.blk b1 53 [(Z10 Ams ms cms),Str lu,Str lw,I ak,(Z10 Aaq aq caq),Str an,I apt],(Z7 Aw4 yb3 cw4),(Z9 Al4 yc3 cl4),.blk b2 29 (Z2 ya3 Aw4 yb3 cw4 Al4 yc3 cl4 yd3),.own A4 (((sayP ms lu lw ak aq an apt ya3).1).length) c4 3 1 (((sayP ms lu lw ak aq an apt ya3).1).map I),.blk b3 29 (Z2 ya3 Aw4 yb3 cw4 Al4 yc3 cl4 yd3)])=>?_)))
         refine tA (.bool true) r0 (nn ?_)
         have hs49:=hs48.pq [1,2,5] r0
         refine rt (tR (bR (tR (bR ?_))))
         refine fret (v:=.tuple #[.agg #[I ya3,(Z10 Aw4 yb3 cw4),(Z23 Al4 yc3 cl4),Str yd3],.bool true]) (resC hs49 2 r0 r0 ag29 r0 (.tmp .nil)) r0 ?_
         have e65:clRun ⟨ms,lu,lw,ak,aq,an,apt⟩ (sx,wt,lg,to)=((ya3,yb3,yc3,yd3),true):=by(rw[(cl_y (c:=⟨ms,lu,lw,ak,aq,an,apt⟩) (t:=(sx,wt,lg,to)) ‹_› ‹_›),runT_some (step_y (c:=⟨ms,lu,lw,ak,aq,an,apt⟩) (t:=(sx,wt,lg,to)) (t':=(ya1,yb1,yc1,yd1)) ‹_› ‹_› p1),runT_some (step_y (c:=⟨ms,lu,lw,ak,aq,an,apt⟩) (t:=(ya1,yb1,yc1,yd1)) (t':=(ya2,yb2,yc2,yd2)) ‹_› ‹_› p6),runT_some (step_y (c:=⟨ms,lu,lw,ak,aq,an,apt⟩) (t:=(ya2,yb2,yc2,yd2)) (t':=(ya3,yb3,yc3,yd3)) ‹_› ‹_› p11)]; rfl)
         have e66:=pj11 e65
         have e67:=pj121 e65
         have e68:=congrArg List.length e67
         have e69:=pj1221 e65
         have e70:=congrArg List.length e69
         have e71:=pj1222 e65
         have e72:=pj2 e65
         exact⟨Aw4,cw4,Al4,cl4,(tup2 (aggv (lc (congrArg (Value.int .i64) e66) (lc (slv r0 e68 r0) (lc (slv r0 e70 r0) (lc (congrArg (Str) e71) r0))))) (congrArg (Value.bool) e72)),((hs49.pq [0,1] r0).cast (lc (own_eq (g:=I) r0 e68 r0 e67) (lc (own_eqf (g:=gLogin) r0 e70 r0 e69) r0)))⟩
set_option maxHeartbeats 8000000 in
theorem sClientRun {Ams:Option Addr} {cms:Nat} (ms:List Int) (lu:List UInt8) (lw:List UInt8) (ak:Int) {Aaq:Option Addr} {caq:Nat} (aq:List Int) (an:List UInt8) (apt:Int) (sx:Int) {Awt:Option Addr} {cwt:Nat} (wt:List Int) {Alg:Option Addr} {clg:Nat} (lg:List (List UInt8×List UInt8)) (to:List UInt8) (w:World) (hms:Sl w [] 1 Ams ms.length cms (ms.map I)) (hlu_n:lu.length≤2147483648) (hlw_n:lw.length≤2147483648) (haq:Sl w [] 1 Aaq aq.length caq (aq.map I)) (han_n:an.length≤1099511627776) (hwt:Sl w [] 1 Awt wt.length cwt (wt.map I)) (hlg:Sl w [] 2 Alg lg.length clg (lg.flatMap gLogin)) (hlg_e: ∀ u∈lg,u.1.length≤9223372036854775807∧u.2.length≤9223372036854775807) (hto_n:to.length≤1099511627776):Does Tryz.prog 29 [.agg #[.slice Ams ms.length cms,Str lu,Str lw,I ak,.slice Aaq aq.length caq,Str an,I apt],.agg #[I sx,.slice Awt wt.length cwt,.slice Alg lg.length clg,Str to]] w (fun v w'=>∃ Awr:Option Addr,∃ cwr:Nat,∃ Alr:Option Addr,∃ clr:Nat,v=.tuple #[.agg #[.int .i64 ((clRun ⟨ms,lu,lw,ak,aq,an,apt⟩ (sx,wt,lg,to)).1.1),.slice Awr ((clRun ⟨ms,lu,lw,ak,aq,an,apt⟩ (sx,wt,lg,to)).1.2.1).length cwr,.slice Alr ((clRun ⟨ms,lu,lw,ak,aq,an,apt⟩ (sx,wt,lg,to)).1.2.2.1).length clr,Str ((clRun ⟨ms,lu,lw,ak,aq,an,apt⟩ (sx,wt,lg,to)).1.2.2.2)],.bool ((clRun ⟨ms,lu,lw,ak,aq,an,apt⟩ (sx,wt,lg,to)).2)]∧SH w w' [] [.own Awr (((clRun ⟨ms,lu,lw,ak,aq,an,apt⟩ (sx,wt,lg,to)).1.2.1).length) cwr 3 1 (((clRun ⟨ms,lu,lw,ak,aq,an,apt⟩ (sx,wt,lg,to)).1.2.1).map I),.own Alr (((clRun ⟨ms,lu,lw,ak,aq,an,apt⟩ (sx,wt,lg,to)).1.2.2.1).length) clr 51 2 (((clRun ⟨ms,lu,lw,ak,aq,an,apt⟩ (sx,wt,lg,to)).1.2.2.1).flatMap gLogin)]):=by
 refine fE (N:=53) Tryz.func29 r0 (by kernel_rfl) r0 ?_
 have hs0:SH w w [] []:=SH.refl w []
 have hms_m:ms.length≤9223372036854775807:=Nat.le_trans hms.cap hms.capMax
 have haq_m:aq.length≤9223372036854775807:=Nat.le_trans haq.cap haq.capMax
 have hwt_m:wt.length≤9223372036854775807:=Nat.le_trans hwt.cap hwt.capMax
 have hlg_m:lg.length≤9223372036854775807:=Nat.le_trans hlg.cap hlg.capMax
 refine sr (bx (v:=.agg #[(Z10 Ams ms cms),Str lu,Str lw,I ak,(Z10 Aaq aq caq),Str an,I apt]) (cs:=[(Z10 Ams ms cms),Str lu,Str lw,I ak,(Z10 Aaq aq caq),Str an,I apt]) hs0 r0 r0 trivial r0 (fun b1 w1 hs1=>?_))
 refine bx (v:=.agg #[I sx,(Z10 Awt wt cwt),(Z23 Alg lg clg),Str to]) (cs:=(Z2 sx Awt wt cwt Alg lg clg to)) hs1 r0 r0 trivial r0 (fun b2 w2 hs2=>?_)
 refine al (v:=.agg #[I 0,ns,ns,Str []]) (cs:=[I 0,ns,ns,Str []]) hs2 tz29 r0 trivial r0 (fun b3 w3 hs3=>?_)
 refine tA (.bool false) r0 (nn (sq (sr (qt r0 (lG [(Z10 Ams ms cms),Str lu,Str lw,I ak,(Z10 Aaq aq caq),Str an,I apt] hs3 0 r0 ag53) (cL r0 (sClientValid (Ams:=Ams) (cms:=cms) (ms:=ms) (lu:=lu) (lw:=lw) (ak:=ak) (Aaq:=Aaq) (caq:=caq) (aq:=aq) (an:=an) (apt:=apt) (w:=_) (hms:=(hms.up0 hs3)) (hlu_n:=(by(omega))) (hlw_n:=(by(omega))) (haq:=(haq.up0 hs3)) (han_n:=(by(omega)))) ?_)))))
 rintro _ w4 ⟨rfl,hs4⟩
 replace hs4:=hs3.call0 hs4
 refine qt r0 (nt (b:=clientOk ms lu lw ak aq an apt) r0) (tm (.bool (!(clientOk ms lu lw ak aq an apt))) r0 ?_)
 refine spl (b:=!(clientOk ms lu lw ak aq an apt)) 17 r0 (fun h1=>?_) (fun h1=>?_)
 ·have h2:(clientOk ms lu lw ak aq an apt)=false:=by simpa using h1
  refine gt5 r0 (gt5 r0 (gt5 r0 (qt r0 (pt (v:=.bool true) r0 r0) (nn (cdt r0 (sq ?_))))))
  refine rg (qt r0 (bdv (v:=.agg #[I 0,ns,ns,Str []]) [] r0 (fun _=>by kernel_rfl)) (sG [I 0,ns,ns,Str []] hs4 2 r0 ag29 (fun w5 hs5=>?_)))
  refine tA (.bool false) r0 (nn (rt (tR ?_)))
  refine fret (v:=.tuple #[.agg #[I 0,ns,ns,Str []],.bool false]) (resC hs5 2 r0 r0 ag29 r0 (.tmp .nil)) r0 ?_
  have hs6:=hs5.nl [.own none (([]:List Int).length) 0 3 1 (([]:List Int).map I)] r0
  have hs7:=hs6.nl [.own none (([]:List (List UInt8×List UInt8)).length) 0 51 2 (([]:List (List UInt8×List UInt8)).flatMap gLogin)] r0
  have e1:clRun ⟨ms,lu,lw,ak,aq,an,apt⟩ (sx,wt,lg,to)=((0,([]:List Int),([]:List (List UInt8×List UInt8)),[]),false):=by exact cl_n (.inl ‹_›)
  have e2:=pj11 e1
  have e3:=pj121 e1
  have e4:=congrArg List.length e3
  have e5:=pj1221 e1
  have e6:=congrArg List.length e5
  have e7:=pj1222 e1
  have e8:=pj2 e1
  exact⟨none,0,none,0,(tup2 (aggv (lc (congrArg (Value.int .i64) e2) (lc (slv r0 e4 r0) (lc (slv r0 e6 r0) (lc (congrArg (Str) e7) r0))))) (congrArg (Value.bool) e8)),((hs7.pq [3,4] r0).cast (lc (own_eq (g:=I) r0 e4 r0 e3) (lc (own_eqf (g:=gLogin) r0 e6 r0 e5) r0)))⟩
 ·have h3:(clientOk ms lu lw ak aq an apt)=true:=by simpa using h1
  refine q ⟨_,rfl,rfl⟩ r0 r0 (lG (Z2 sx Awt wt cwt Alg lg clg to) hs4 1 r0 ag29) (cl ⟨_,rfl,rfl⟩ r0 (sTalkValid (sx:=sx) (Awt:=Awt) (cwt:=cwt) (wt:=wt) (Alg:=Alg) (clg:=clg) (lg:=lg) (to:=to) (w:=_) (hwt:=(hwt.up0 hs4)) (hlg:=(hlg.up0 hs4)) (hlg_e:=hlg_e) (hto_n:=(by(omega)))) ?_)
  rintro _ w6 ⟨rfl,hs8⟩
  replace hs8:=hs4.call0 hs8
  refine q ⟨_,rfl,rfl⟩ r0 r0 (nt (b:=talkOk sx wt lg to) r0) (qt r0 (pf (v:=.bool (!(talkOk sx wt lg to))) r0 r0) (nn ?_))
  refine cd (b:=!(talkOk sx wt lg to)) r0 (fun h4=>?_) (fun h4=>?_)
  ·have h5:(talkOk sx wt lg to)=false:=by simpa using h4
   refine sr (qt r0 (bdv (v:=.agg #[I 0,ns,ns,Str []]) [] r0 (fun _=>by kernel_rfl)) (sG [I 0,ns,ns,Str []] hs8 2 r0 ag29 (fun w7 hs9=>?_)))
   refine tA (.bool false) r0 (nn (rt (tR ?_)))
   refine fret (v:=.tuple #[.agg #[I 0,ns,ns,Str []],.bool false]) (resC hs9 2 r0 r0 ag29 r0 (.tmp .nil)) r0 ?_
   have hs10:=hs9.nl [.own none (([]:List Int).length) 0 3 1 (([]:List Int).map I)] r0
   have hs11:=hs10.nl [.own none (([]:List (List UInt8×List UInt8)).length) 0 51 2 (([]:List (List UInt8×List UInt8)).flatMap gLogin)] r0
   have e9:clRun ⟨ms,lu,lw,ak,aq,an,apt⟩ (sx,wt,lg,to)=((0,([]:List Int),([]:List (List UInt8×List UInt8)),[]),false):=by exact cl_n (.inr ‹_›)
   have e10:=pj11 e9
   have e11:=pj121 e9
   have e12:=congrArg List.length e11
   have e13:=pj1221 e9
   have e14:=congrArg List.length e13
   have e15:=pj1222 e9
   have e16:=pj2 e9
   exact⟨none,0,none,0,(tup2 (aggv (lc (congrArg (Value.int .i64) e10) (lc (slv r0 e12 r0) (lc (slv r0 e14 r0) (lc (congrArg (Str) e15) r0))))) (congrArg (Value.bool) e16)),((hs11.pq [3,4] r0).cast (lc (own_eq (g:=I) r0 e12 r0 e11) (lc (own_eqf (g:=gLogin) r0 e14 r0 e13) r0)))⟩
  ·have h6:(talkOk sx wt lg to)=true:=by simpa using h4
   refine sk (nN (sr (qt r0 (lG (Z2 sx Awt wt cwt Alg lg clg to) hs8 1 r0 ag29) (al (v:=.agg #[I 0,ns,ns,Str []]) (cs:=[I 0,ns,ns,Str []]) hs8 tz29 r0 trivial r0 (fun b4 w8 (hs12:SH w w8 [] [.blk b1 53 [(Z10 Ams ms cms),Str lu,Str lw,I ak,(Z10 Aaq aq caq),Str an,I apt],.blk b2 29 (Z2 sx Awt wt cwt Alg lg clg to),(Z11 b3),(Z11 b4)])=>?_)))))
   refine sG (Z2 sx Awt wt cwt Alg lg clg to) hs12 3 r0 ag29 (fun w9 hs13=>?_)
   refine nn (sq (sr (tA (I 0) r0 (nn ?_))))
   refine bl (ul0 (ulS ?_))
   refine sq (sr (tm (I 0) r0 (qt r0 (lss (k:=.i64) (a:=0) (b:=3) r0 r0) (nn ?_))))
   refine cdd (p:=0<3) r0 (fun h7=>?_) (fun h7=>absurd (by decide) h7)
   refine sk (nN (sq (bl (sr (qt r0 (lG [(Z10 Ams ms cms),Str lu,Str lw,I ak,(Z10 Aaq aq caq),Str an,I apt] hs13 0 r0 ag53) (qt r0 (fa 0 fo29_0 r0) ?_))))))
   refine qt r0 (lD (I sx) hs13 3 r0 one3) (cL r0 (sClientSay (Ams:=Ams) (cms:=cms) (ms:=ms) (lu:=lu) (lw:=lw) (ak:=ak) (Aaq:=Aaq) (caq:=caq) (aq:=aq) (an:=an) (apt:=apt) (n:=sx) (w:=_) (hms:=(hms.up0 hs13)) (hlu_n:=(by(omega))) (hlw_n:=(by(omega))) (haq:=(haq.up0 hs13)) (han_n:=(by(omega)))) ?_)
   rintro _ w10 ⟨A1,c1,rfl,hs14⟩
   replace hs14:=hs13.call0 hs14
   refine tm (.tuple #[.slice A1 (((sayP ms lu lw ak aq an apt sx).1).length) c1,.bool ((sayP ms lu lw ak aq an apt sx).2)]) r0 (qt r0 (xt 0 (v:=.slice A1 (((sayP ms lu lw ak aq an apt sx).1).length) c1) r0 r0) (qt r0 (xt 1 (v:=.bool ((sayP ms lu lw ak aq an apt sx).2)) r0 r0) (tA (.slice A1 (((sayP ms lu lw ak aq an apt sx).1).length) c1) r0 (tA (.bool ((sayP ms lu lw ak aq an apt sx).2)) r0 (nn (sq ?_))))))
   refine rg (tm (.bool ((sayP ms lu lw ak aq an apt sx).2)) r0 (nn ?_))
   refine cd (b:=(sayP ms lu lw ak aq an apt sx).2) r0 (fun h8=>?_) (fun h8=>?_)
   ·refine sr (qt r0 (lG (Z2 sx Awt wt cwt Alg lg clg to) hs14 3 r0 ag29) (tm (.slice A1 (((sayP ms lu lw ak aq an apt sx).1).length) c1) r0 (cL r0 (sTalkSayE (sx:=sx) (Awt:=Awt) (cwt:=cwt) (wt:=wt) (Alg:=Alg) (clg:=clg) (lg:=lg) (to:=to) (Abs:=A1) (cbs:=c1) (bs:=(sayP ms lu lw ak aq an apt sx).1) (w:=_) (hwt:=(hwt.up0 hs14)) (hlg:=(hlg.up0 hs14)) (hlg_e:=hlg_e) (hto_n:=(by(omega))) (hbs:=(hs14.sl0 4 r0))) ?_)))
    rintro _ w11 ⟨Aw1,cw1,Al1,cl1,Ay1,cy1,ya1,yb1,yc1,yd1,rfl,p1,p2,p3,p4,p5,hs15⟩
    replace hs15:=hs14.call0 hs15
    refine tm (.tuple #[.agg #[I ya1,(Z10 Aw1 yb1 cw1),(Z23 Al1 yc1 cl1),Str yd1],.slice Ay1 (((talkSay sx wt lg to ((sayP ms lu lw ak aq an apt sx).1)).2.1).length) cy1,.bool ((talkSay sx wt lg to ((sayP ms lu lw ak aq an apt sx).1)).2.2)]) r0 (qt r0 (xt 0 (v:=.agg #[I ya1,(Z10 Aw1 yb1 cw1),(Z23 Al1 yc1 cl1),Str yd1]) r0 r0) (qt r0 (xt 1 (v:=.slice Ay1 (((talkSay sx wt lg to ((sayP ms lu lw ak aq an apt sx).1)).2.1).length) cy1) r0 r0) (qt r0 (xt 2 (v:=.bool ((talkSay sx wt lg to ((sayP ms lu lw ak aq an apt sx).1)).2.2)) r0 r0) (al (v:=.agg #[I 0,ns,ns,Str []]) (cs:=[I 0,ns,ns,Str []]) hs15 tz29 r0 trivial r0 (fun b5 w12 (hs16:SH w w12 [] [.blk b1 53 [(Z10 Ams ms cms),Str lu,Str lw,I ak,(Z10 Aaq aq caq),Str an,I apt],.blk b2 29 (Z2 sx Awt wt cwt Alg lg clg to),(Z11 b3),.blk b4 29 (Z2 sx Awt wt cwt Alg lg clg to),.own A1 (((sayP ms lu lw ak aq an apt sx).1).length) c1 3 1 (((sayP ms lu lw ak aq an apt sx).1).map I),(Z7 Aw1 yb1 cw1),(Z9 Al1 yc1 cl1),.own Ay1 (((talkSay sx wt lg to ((sayP ms lu lw ak aq an apt sx).1)).2.1).length) cy1 3 1 (((talkSay sx wt lg to ((sayP ms lu lw ak aq an apt sx).1)).2.1).map I),(Z11 b5)])=>?_)))))
    refine sG (Z2 ya1 Aw1 yb1 cw1 Al1 yc1 cl1 yd1) hs16 8 r0 ag29 (fun w13 hs17=>?_)
    refine tA (.slice Ay1 (((talkSay sx wt lg to ((sayP ms lu lw ak aq an apt sx).1)).2.1).length) cy1) r0 (tA (Z26 sx wt lg to ms lu lw ak aq an apt) r0 (nn ?_))
    have hs18:=hs17.pq [0,2,3,5,6,8] r0
    refine sr (tm (Z26 sx wt lg to ms lu lw ak aq an apt) r0 (nn ?_))
    refine cd (b:=(talkSay sx wt lg to ((sayP ms lu lw ak aq an apt sx).1)).2.2) r0 (fun h9=>?_) (fun h9=>?_)
    ·refine rg (qt r0 (lG (Z2 ya1 Aw1 yb1 cw1 Al1 yc1 cl1 yd1) hs18 5 r0 ag29) (sG (Z2 ya1 Aw1 yb1 cw1 Al1 yc1 cl1 yd1) hs18 2 r0 ag29 (fun w14 hs19=>?_)))
     refine nl (bN (nN (rg (tm (I 0) r0 (qt r0 (add (a:=0) (b:=1) r0 r0 (by(exact⟨by omega,by omega⟩))) (tA (I ((0:Int)+1)) r0 (nl ?_)))))))
     refine nN (ulS (sq (sr (tm (I ((0:Int)+1)) r0 (qt r0 (lss (k:=.i64) (a:=(0:Int)+1) (b:=3) r0 r0) (nl ?_))))))
     refine nN ?_
     refine cdd (p:=((0:Int)+1)<3) r0 (fun h10=>?_) (fun h10=>absurd (by decide) h10)
     refine sk (nN (sq (bl (sr (qt r0 (lG [(Z10 Ams ms cms),Str lu,Str lw,I ak,(Z10 Aaq aq caq),Str an,I apt] hs19 0 r0 ag53) (qt r0 (fa 0 fo29_0 r0) ?_))))))
     refine qt r0 (lD (I ya1) hs19 5 r0 one3) (cL r0 (sClientSay (Ams:=Ams) (cms:=cms) (ms:=ms) (lu:=lu) (lw:=lw) (ak:=ak) (Aaq:=Aaq) (caq:=caq) (aq:=aq) (an:=an) (apt:=apt) (n:=ya1) (w:=_) (hms:=(hms.up0 hs19)) (hlu_n:=(by(omega))) (hlw_n:=(by(omega))) (haq:=(haq.up0 hs19)) (han_n:=(by(omega)))) ?_)
     rintro _ w15 ⟨A2,c2,rfl,hs20⟩
     replace hs20:=hs19.call0 hs20
     refine tm (.tuple #[.slice A2 (((sayP ms lu lw ak aq an apt ya1).1).length) c2,.bool ((sayP ms lu lw ak aq an apt ya1).2)]) r0 (qt r0 (xt 0 (v:=.slice A2 (((sayP ms lu lw ak aq an apt ya1).1).length) c2) r0 r0) (qt r0 (xt 1 (v:=.bool ((sayP ms lu lw ak aq an apt ya1).2)) r0 r0) (tA (.slice A2 (((sayP ms lu lw ak aq an apt ya1).1).length) c2) r0 (tA (.bool ((sayP ms lu lw ak aq an apt ya1).2)) r0 (nn (sq ?_))))))
     refine rg (tm (.bool ((sayP ms lu lw ak aq an apt ya1).2)) r0 (nn ?_))
     refine cd (b:=(sayP ms lu lw ak aq an apt ya1).2) r0 (fun h11=>?_) (fun h11=>?_)
     ·refine sr (qt r0 (lG (Z2 ya1 Aw1 yb1 cw1 Al1 yc1 cl1 yd1) hs20 5 r0 ag29) (tm (.slice A2 (((sayP ms lu lw ak aq an apt ya1).1).length) c2) r0 (cL r0 (sTalkSayE (sx:=ya1) (Awt:=Aw1) (cwt:=cw1) (wt:=yb1) (Alg:=Al1) (clg:=cl1) (lg:=yc1) (to:=yd1) (Abs:=A2) (cbs:=c2) (bs:=(sayP ms lu lw ak aq an apt ya1).1) (w:=_) (hwt:=(hs20.sl0 2 r0)) (hlg:=(hs20.sl0 3 r0)) (hlg_e:=(by exact fun u hu=>hlg_e u (p5 u hu))) (hto_n:=(by(omega))) (hbs:=(hs20.sl0 6 r0))) ?_)))
      rintro _ w16 ⟨Aw2,cw2,Al2,cl2,Ay2,cy2,ya2,yb2,yc2,yd2,rfl,p6,p7,p8,p9,p10,hs21⟩
      replace hs21:=hs20.call0 hs21
      refine tm (.tuple #[.agg #[I ya2,(Z10 Aw2 yb2 cw2),(Z23 Al2 yc2 cl2),Str yd2],.slice Ay2 (((talkSay ya1 yb1 yc1 yd1 ((sayP ms lu lw ak aq an apt ya1).1)).2.1).length) cy2,.bool ((talkSay ya1 yb1 yc1 yd1 ((sayP ms lu lw ak aq an apt ya1).1)).2.2)]) r0 (qt r0 (xt 0 (v:=.agg #[I ya2,(Z10 Aw2 yb2 cw2),(Z23 Al2 yc2 cl2),Str yd2]) r0 r0) (qt r0 (xt 1 (v:=.slice Ay2 (((talkSay ya1 yb1 yc1 yd1 ((sayP ms lu lw ak aq an apt ya1).1)).2.1).length) cy2) r0 r0) (qt r0 (xt 2 (v:=.bool ((talkSay ya1 yb1 yc1 yd1 ((sayP ms lu lw ak aq an apt ya1).1)).2.2)) r0 r0) (al (v:=.agg #[I 0,ns,ns,Str []]) (cs:=[I 0,ns,ns,Str []]) hs21 tz29 r0 trivial r0 (fun b6 w17 hs22=>?_)))))
      refine sG (Z2 ya2 Aw2 yb2 cw2 Al2 yc2 cl2 yd2) hs22 10 r0 ag29 (fun w18 hs23=>?_)
      refine tA (.slice Ay2 (((talkSay ya1 yb1 yc1 yd1 ((sayP ms lu lw ak aq an apt ya1).1)).2.1).length) cy2) r0 (tA (Z26 ya1 yb1 yc1 yd1 ms lu lw ak aq an apt) r0 (nn ?_))
      have hs24:SH w w18 [] [.blk b1 53 [(Z10 Ams ms cms),Str lu,Str lw,I ak,(Z10 Aaq aq caq),Str an,I apt],(Z11 b3),(Z7 Aw1 yb1 cw1),(Z9 Al1 yc1 cl1),.blk b4 29 (Z2 ya1 Aw1 yb1 cw1 Al1 yc1 cl1 yd1),(Z7 Aw2 yb2 cw2),(Z9 Al2 yc2 cl2),.blk b6 29 (Z2 ya2 Aw2 yb2 cw2 Al2 yc2 cl2 yd2)]:=hs23.pk [0,1,2,3,5,7,8,10] r0
      refine sr (tm (Z26 ya1 yb1 yc1 yd1 ms lu lw ak aq an apt) r0 (nn ?_))
      refine cd (b:=(talkSay ya1 yb1 yc1 yd1 ((sayP ms lu lw ak aq an apt ya1).1)).2.2) r0 (fun h12=>?_) (fun h12=>?_)
      ·refine rg (qt r0 (lG (Z2 ya2 Aw2 yb2 cw2 Al2 yc2 cl2 yd2) hs24 7 r0 ag29) (sG (Z2 ya2 Aw2 yb2 cw2 Al2 yc2 cl2 yd2) hs24 4 r0 ag29 (fun w19 hs25=>?_)))
       refine nl (bN (nN ?_))
       have hs26:=hs25.pq [0,1,4,5,7] r0
       refine rg (tm (I ((0:Int)+1)) r0 (qt r0 (add (a:=(0:Int)+1) (b:=1) r0 r0 (by(exact⟨by omega,by omega⟩))) (tA (I (((0:Int)+1)+1)) r0 (nn (ulS (sq ?_))))))
       refine sr (tm (I (((0:Int)+1)+1)) r0 (qt r0 (lss (k:=.i64) (a:=((0:Int)+1)+1) (b:=3) r0 r0) (nn ?_)))
       refine cdd (p:=(((0:Int)+1)+1)<3) r0 (fun h13=>?_) (fun h13=>absurd (by decide) h13)
       refine sk (nN (sq (bl (sr (qt r0 (lG [(Z10 Ams ms cms),Str lu,Str lw,I ak,(Z10 Aaq aq caq),Str an,I apt] hs26 0 r0 ag53) (qt r0 (fa 0 fo29_0 r0) ?_))))))
       refine qt r0 (lD (I ya2) hs26 4 r0 one3) (cL r0 (sClientSay (Ams:=Ams) (cms:=cms) (ms:=ms) (lu:=lu) (lw:=lw) (ak:=ak) (Aaq:=Aaq) (caq:=caq) (aq:=aq) (an:=an) (apt:=apt) (n:=ya2) (w:=_) (hms:=(hms.up0 hs26)) (hlu_n:=(by(omega))) (hlw_n:=(by(omega))) (haq:=(haq.up0 hs26)) (han_n:=(by(omega)))) ?_)
       rintro _ w20 ⟨A3,c3,rfl,hs27⟩
       replace hs27:=hs26.call0 hs27
       refine tm (.tuple #[.slice A3 (((sayP ms lu lw ak aq an apt ya2).1).length) c3,.bool ((sayP ms lu lw ak aq an apt ya2).2)]) r0 (qt r0 (xt 0 (v:=.slice A3 (((sayP ms lu lw ak aq an apt ya2).1).length) c3) r0 r0) (qt r0 (xt 1 (v:=.bool ((sayP ms lu lw ak aq an apt ya2).2)) r0 r0) (tA (.slice A3 (((sayP ms lu lw ak aq an apt ya2).1).length) c3) r0 (tA (.bool ((sayP ms lu lw ak aq an apt ya2).2)) r0 (nn (sq ?_))))))
       refine rg (tm (.bool ((sayP ms lu lw ak aq an apt ya2).2)) r0 (nn ?_))
       refine cd (b:=(sayP ms lu lw ak aq an apt ya2).2) r0 (fun h14=>?_) (fun h14=>?_)
       ·refine sr (qt r0 (lG (Z2 ya2 Aw2 yb2 cw2 Al2 yc2 cl2 yd2) hs27 4 r0 ag29) (tm (.slice A3 (((sayP ms lu lw ak aq an apt ya2).1).length) c3) r0 (cL r0 (sTalkSayE (sx:=ya2) (Awt:=Aw2) (cwt:=cw2) (wt:=yb2) (Alg:=Al2) (clg:=cl2) (lg:=yc2) (to:=yd2) (Abs:=A3) (cbs:=c3) (bs:=(sayP ms lu lw ak aq an apt ya2).1) (w:=_) (hwt:=(hs27.sl0 2 r0)) (hlg:=(hs27.sl0 3 r0)) (hlg_e:=(by exact fun u hu=>hlg_e u (p5 u (p10 u hu)))) (hto_n:=(by(omega))) (hbs:=(hs27.sl0 5 r0))) ?_)))
        rintro _ w21 ⟨Aw3,cw3,Al3,cl3,Ay3,cy3,ya3,yb3,yc3,yd3,rfl,p11,p12,p13,p14,p15,hs28⟩
        replace hs28:=hs27.call0 hs28
        refine tm (.tuple #[.agg #[I ya3,(Z10 Aw3 yb3 cw3),(Z23 Al3 yc3 cl3),Str yd3],.slice Ay3 (((talkSay ya2 yb2 yc2 yd2 ((sayP ms lu lw ak aq an apt ya2).1)).2.1).length) cy3,.bool ((talkSay ya2 yb2 yc2 yd2 ((sayP ms lu lw ak aq an apt ya2).1)).2.2)]) r0 (qt r0 (xt 0 (v:=.agg #[I ya3,(Z10 Aw3 yb3 cw3),(Z23 Al3 yc3 cl3),Str yd3]) r0 r0) (qt r0 (xt 1 (v:=.slice Ay3 (((talkSay ya2 yb2 yc2 yd2 ((sayP ms lu lw ak aq an apt ya2).1)).2.1).length) cy3) r0 r0) (qt r0 (xt 2 (v:=.bool ((talkSay ya2 yb2 yc2 yd2 ((sayP ms lu lw ak aq an apt ya2).1)).2.2)) r0 r0) (al (v:=.agg #[I 0,ns,ns,Str []]) (cs:=[I 0,ns,ns,Str []]) hs28 tz29 r0 trivial r0 (fun b7 w22 hs29=>?_)))))
        refine sG (Z2 ya3 Aw3 yb3 cw3 Al3 yc3 cl3 yd3) hs29 9 r0 ag29 (fun w23 hs30=>?_)
        refine tA (.slice Ay3 (((talkSay ya2 yb2 yc2 yd2 ((sayP ms lu lw ak aq an apt ya2).1)).2.1).length) cy3) r0 (tA (Z26 ya2 yb2 yc2 yd2 ms lu lw ak aq an apt) r0 (nn ?_))
        have hs31:=hs30.pq [0,1,2,3,4,6,7,9] r0
        refine sr (tm (Z26 ya2 yb2 yc2 yd2 ms lu lw ak aq an apt) r0 (nn ?_))
        refine cd (b:=(talkSay ya2 yb2 yc2 yd2 ((sayP ms lu lw ak aq an apt ya2).1)).2.2) r0 (fun h15=>?_) (fun h15=>?_)
        ·refine rg (qt r0 (lG (Z2 ya3 Aw3 yb3 cw3 Al3 yc3 cl3 yd3) hs31 7 r0 ag29) (sG (Z2 ya3 Aw3 yb3 cw3 Al3 yc3 cl3 yd3) hs31 4 r0 ag29 (fun w24 (hs32:SH w w24 [] [.blk b1 53 [(Z10 Ams ms cms),Str lu,Str lw,I ak,(Z10 Aaq aq caq),Str an,I apt],(Z11 b3),(Z7 Aw2 yb2 cw2),(Z9 Al2 yc2 cl2),(Z7 Aw3 yb3 cw3),(Z9 Al3 yc3 cl3),.blk b7 29 (Z2 ya3 Aw3 yb3 cw3 Al3 yc3 cl3 yd3),.blk b4 29 (Z2 ya3 Aw3 yb3 cw3 Al3 yc3 cl3 yd3)])=>?_)))
         refine nl (bN (nN ?_))
         have hs33:=hs32.pq [0,1,4,5,7] r0
         refine rg (tm (I (((0:Int)+1)+1)) r0 (qt r0 (add (a:=((0:Int)+1)+1) (b:=1) r0 r0 (by(exact⟨by omega,by omega⟩))) (tA (I ((((0:Int)+1)+1)+1)) r0 (nn (ulS (sq ?_))))))
         refine sr (tm (I ((((0:Int)+1)+1)+1)) r0 (qt r0 (lss (k:=.i64) (a:=(((0:Int)+1)+1)+1) (b:=3) r0 r0) (nn ?_)))
         refine cdd (p:=((((0:Int)+1)+1)+1)<3) r0 (fun h16=>absurd h16 (by decide)) (fun h16=>?_)
         refine ex (tE (tE (bE ?_)))
         refine nN (sr (qt r0 (lG (Z2 ya3 Aw3 yb3 cw3 Al3 yc3 cl3 yd3) hs33 4 r0 ag29) (qt r0 (fa 0 fo29_0 r0) (qt r0 (lD (I ya3) hs33 4 r0 one3) (cL r0 (sL23Next (sx:=ya3) (Awt:=Aw3) (cwt:=cw3) (wt:=yb3) (Alg:=Al3) (clg:=cl3) (lg:=yc3) (to:=yd3) (nst:=ya3) (w:=_) (hwt:=(hs33.sl0 2 r0)) (hwt_n:=(by(omega))) (hlg:=(hs33.sl0 3 r0)) (hlg_e:=(by exact fun u hu=>hlg_e u (p5 u (p10 u (p15 u hu))))) (hlg_n:=(by(omega)))) ?_)))))
         rintro _ w25 ⟨Aw4,cw4,Al4,cl4,rfl,hs34⟩
         replace hs34:=hs33.call0 hs34
         refine al (v:=.agg #[I 0,ns,ns,Str []]) (cs:=[I 0,ns,ns,Str []]) hs34 tz29 r0 trivial r0 (fun b8 w26 hs35=>?_)
         refine sG [I ya3,(Z10 Aw4 yb3 cw4),(Z23 Al4 yc3 cl4),Str []] hs35 7 r0 ag29 (fun w27 (hs36:SH w w27 [] [.blk b1 53 [(Z10 Ams ms cms),Str lu,Str lw,I ak,(Z10 Aaq aq caq),Str an,I apt],(Z11 b3),(Z7 Aw3 yb3 cw3),(Z9 Al3 yc3 cl3),.blk b4 29 (Z2 ya3 Aw3 yb3 cw3 Al3 yc3 cl3 yd3),(Z7 Aw4 yb3 cw4),(Z9 Al4 yc3 cl4),.blk b8 29 [I ya3,(Z10 Aw4 yb3 cw4),(Z23 Al4 yc3 cl4),Str []]])=>?_)
         refine nx (qt r0 (fa 3 fo29_3 r0) (qt r0 (lD (Str yd3) hs36 4 r0 one9) (qt r0 (fa 3 fo29_3 r0) (sT (Str yd3) hs36 7 r0 one9 (fun w28 hs37=>?_)))))
         refine nn ?_
         have hs38:=hs37.pq [1,5,6,7] r0
         refine sr (qt r0 (lG (Z2 ya3 Aw4 yb3 cw4 Al4 yc3 cl4 yd3) hs38 3 r0 ag29) (sG (Z2 ya3 Aw4 yb3 cw4 Al4 yc3 cl4 yd3) hs38 0 r0 ag29 (fun w29 hs39=>?_)))
         refine tA (.bool true) r0 (nn (rt (fret (v:=.tuple #[.agg #[I ya3,(Z10 Aw4 yb3 cw4),(Z23 Al4 yc3 cl4),Str yd3],.bool true]) (resC hs39 3 r0 r0 ag29 r0 (.tmp .nil)) r0 ?_)))
         have e17:clRun ⟨ms,lu,lw,ak,aq,an,apt⟩ (sx,wt,lg,to)=((ya3,yb3,yc3,yd3),true):=by(rw[(cl_y (c:=⟨ms,lu,lw,ak,aq,an,apt⟩) (t:=(sx,wt,lg,to)) ‹_› ‹_›),runT_some (step_y (c:=⟨ms,lu,lw,ak,aq,an,apt⟩) (t:=(sx,wt,lg,to)) (t':=(ya1,yb1,yc1,yd1)) ‹_› ‹_› p1),runT_some (step_y (c:=⟨ms,lu,lw,ak,aq,an,apt⟩) (t:=(ya1,yb1,yc1,yd1)) (t':=(ya2,yb2,yc2,yd2)) ‹_› ‹_› p6),runT_some (step_y (c:=⟨ms,lu,lw,ak,aq,an,apt⟩) (t:=(ya2,yb2,yc2,yd2)) (t':=(ya3,yb3,yc3,yd3)) ‹_› ‹_› p11)]; rfl)
         have e18:=pj11 e17
         have e19:=pj121 e17
         have e20:=congrArg List.length e19
         have e21:=pj1221 e17
         have e22:=congrArg List.length e21
         have e23:=pj1222 e17
         have e24:=pj2 e17
         exact⟨Aw4,cw4,Al4,cl4,(tup2 (aggv (lc (congrArg (Value.int .i64) e18) (lc (slv r0 e20 r0) (lc (slv r0 e22 r0) (lc (congrArg (Str) e23) r0))))) (congrArg (Value.bool) e24)),((hs39.pq [0,1] r0).cast (lc (own_eq (g:=I) r0 e20 r0 e19) (lc (own_eqf (g:=gLogin) r0 e22 r0 e21) r0)))⟩
        ·refine sk (bN (nN ?_))
         have hs40:SH w w23 [] [.blk b1 53 [(Z10 Ams ms cms),Str lu,Str lw,I ak,(Z10 Aaq aq caq),Str an,I apt],(Z11 b3),(Z7 Aw2 yb2 cw2),(Z9 Al2 yc2 cl2),.blk b4 29 (Z2 ya2 Aw2 yb2 cw2 Al2 yc2 cl2 yd2)]:=hs31.pk [0,1,2,3,4] r0
         refine rg (tm (I (((0:Int)+1)+1)) r0 (qt r0 (add (a:=((0:Int)+1)+1) (b:=1) r0 r0 (by(exact⟨by omega,by omega⟩))) (tA (I ((((0:Int)+1)+1)+1)) r0 (nn (ulS (sq ?_))))))
         refine sr (tm (I ((((0:Int)+1)+1)+1)) r0 (qt r0 (lss (k:=.i64) (a:=(((0:Int)+1)+1)+1) (b:=3) r0 r0) (nn ?_)))
         refine cdd (p:=((((0:Int)+1)+1)+1)<3) r0 (fun h17=>absurd h17 (by decide)) (fun h17=>?_)
         refine ex (tE (tE (bE ?_)))
         refine nN (sr (qt r0 (lG (Z2 ya2 Aw2 yb2 cw2 Al2 yc2 cl2 yd2) hs40 4 r0 ag29) (qt r0 (fa 0 fo29_0 r0) (qt r0 (lD (I ya2) hs40 4 r0 one3) (cL r0 (sL23Next (sx:=ya2) (Awt:=Aw2) (cwt:=cw2) (wt:=yb2) (Alg:=Al2) (clg:=cl2) (lg:=yc2) (to:=yd2) (nst:=ya2) (w:=_) (hwt:=(hs40.sl0 2 r0)) (hwt_n:=(by(omega))) (hlg:=(hs40.sl0 3 r0)) (hlg_e:=(by exact fun u hu=>hlg_e u (p5 u (p10 u hu)))) (hlg_n:=(by(omega)))) ?_)))))
         rintro _ w30 ⟨Aw5,cw5,Al5,cl5,rfl,hs41⟩
         replace hs41:=hs40.call0 hs41
         refine al (v:=.agg #[I 0,ns,ns,Str []]) (cs:=[I 0,ns,ns,Str []]) hs41 tz29 r0 trivial r0 (fun b9 w31 hs42=>?_)
         refine sG [I ya2,(Z10 Aw5 yb2 cw5),(Z23 Al5 yc2 cl5),Str []] hs42 7 r0 ag29 (fun w32 hs43=>?_)
         refine nx (qt r0 (fa 3 fo29_3 r0) (qt r0 (lD (Str yd2) hs43 4 r0 one9) (qt r0 (fa 3 fo29_3 r0) (sT (Str yd2) hs43 7 r0 one9 (fun w33 (hs44:SH w w33 [] [.blk b1 53 [(Z10 Ams ms cms),Str lu,Str lw,I ak,(Z10 Aaq aq caq),Str an,I apt],(Z11 b3),(Z7 Aw2 yb2 cw2),(Z9 Al2 yc2 cl2),.blk b4 29 (Z2 ya2 Aw2 yb2 cw2 Al2 yc2 cl2 yd2),(Z7 Aw5 yb2 cw5),(Z9 Al5 yc2 cl5),.blk b9 29 (Z2 ya2 Aw5 yb2 cw5 Al5 yc2 cl5 yd2)])=>?_)))))
         refine nn ?_
         have hs45:=hs44.pq [1,5,6,7] r0
         refine sr (qt r0 (lG (Z2 ya2 Aw5 yb2 cw5 Al5 yc2 cl5 yd2) hs45 3 r0 ag29) (sG (Z2 ya2 Aw5 yb2 cw5 Al5 yc2 cl5 yd2) hs45 0 r0 ag29 (fun w34 hs46=>?_)))
         refine tA (.bool true) r0 (nn (rt (fret (v:=.tuple #[.agg #[I ya2,(Z10 Aw5 yb2 cw5),(Z23 Al5 yc2 cl5),Str yd2],.bool true]) (resC hs46 3 r0 r0 ag29 r0 (.tmp .nil)) r0 ?_)))
         have e25:clRun ⟨ms,lu,lw,ak,aq,an,apt⟩ (sx,wt,lg,to)=((ya2,yb2,yc2,yd2),true):=by(rw[(cl_y (c:=⟨ms,lu,lw,ak,aq,an,apt⟩) (t:=(sx,wt,lg,to)) ‹_› ‹_›),runT_some (step_y (c:=⟨ms,lu,lw,ak,aq,an,apt⟩) (t:=(sx,wt,lg,to)) (t':=(ya1,yb1,yc1,yd1)) ‹_› ‹_› p1),runT_some (step_y (c:=⟨ms,lu,lw,ak,aq,an,apt⟩) (t:=(ya1,yb1,yc1,yd1)) (t':=(ya2,yb2,yc2,yd2)) ‹_› ‹_› p6),runT_none (by first | exact step_no1 (c:=⟨ms,lu,lw,ak,aq,an,apt⟩) (t:=(ya2,yb2,yc2,yd2)) ‹_› | exact step_no2 (c:=⟨ms,lu,lw,ak,aq,an,apt⟩) (t:=(ya2,yb2,yc2,yd2)) ‹_›)]; done)
         have e26:=pj11 e25
         have e27:=pj121 e25
         have e28:=congrArg List.length e27
         have e29:=pj1221 e25
         have e30:=congrArg List.length e29
         have e31:=pj1222 e25
         have e32:=pj2 e25
         exact⟨Aw5,cw5,Al5,cl5,(tup2 (aggv (lc (congrArg (Value.int .i64) e26) (lc (slv r0 e28 r0) (lc (slv r0 e30 r0) (lc (congrArg (Str) e31) r0))))) (congrArg (Value.bool) e32)),((hs46.pq [0,1] r0).cast (lc (own_eq (g:=I) r0 e28 r0 e27) (lc (own_eqf (g:=gLogin) r0 e30 r0 e29) r0)))⟩
       ·refine sk (bN (nN (rg (tm (I (((0:Int)+1)+1)) r0 (qt r0 (add (a:=((0:Int)+1)+1) (b:=1) r0 r0 (by(exact⟨by omega,by omega⟩))) (tA (I ((((0:Int)+1)+1)+1)) r0 (nl ?_)))))))
        refine nN (ulS (sq (sr (tm (I ((((0:Int)+1)+1)+1)) r0 (qt r0 (lss (k:=.i64) (a:=(((0:Int)+1)+1)+1) (b:=3) r0 r0) (nl ?_))))))
        refine nN ?_
        refine cdd (p:=((((0:Int)+1)+1)+1)<3) r0 (fun h18=>absurd h18 (by decide)) (fun h18=>?_)
        refine ex (tE (tE (bE ?_)))
        refine nN ?_
        have hs47:=hs27.pq [1,2,3,4] r0
        refine sr (qt r0 (lG (Z2 ya2 Aw2 yb2 cw2 Al2 yc2 cl2 yd2) hs47 3 r0 ag29) (qt r0 (fa 0 fo29_0 r0) (qt r0 (lD (I ya2) hs47 3 r0 one3) (cL r0 (sL23Next (sx:=ya2) (Awt:=Aw2) (cwt:=cw2) (wt:=yb2) (Alg:=Al2) (clg:=cl2) (lg:=yc2) (to:=yd2) (nst:=ya2) (w:=_) (hwt:=(hs47.sl0 1 r0)) (hwt_n:=(by(omega))) (hlg:=(hs47.sl0 2 r0)) (hlg_e:=(by exact fun u hu=>hlg_e u (p5 u (p10 u hu)))) (hlg_n:=(by(omega)))) ?_))))
        rintro _ w35 ⟨Aw6,cw6,Al6,cl6,rfl,hs48⟩
        replace hs48:=hs47.call0 hs48
        refine al (v:=.agg #[I 0,ns,ns,Str []]) (cs:=[I 0,ns,ns,Str []]) hs48 tz29 r0 trivial r0 (fun b10 w36 hs49=>?_)
        refine sG [I ya2,(Z10 Aw6 yb2 cw6),(Z23 Al6 yc2 cl6),Str []] hs49 6 r0 ag29 (fun w37 hs50=>?_)
        refine nx (qt r0 (fa 3 fo29_3 r0) (qt r0 (lD (Str yd2) hs50 3 r0 one9) (qt r0 (fa 3 fo29_3 r0) (sT (Str yd2) hs50 6 r0 one9 (fun w38 hs51=>?_)))))
        refine nn ?_
        have hs52:SH w w38 [] [(Z11 b3),(Z7 Aw6 yb2 cw6),(Z9 Al6 yc2 cl6),.blk b10 29 (Z2 ya2 Aw6 yb2 cw6 Al6 yc2 cl6 yd2)]:=hs51.pk [0,4,5,6] r0
        refine sr (qt r0 (lG (Z2 ya2 Aw6 yb2 cw6 Al6 yc2 cl6 yd2) hs52 3 r0 ag29) (sG (Z2 ya2 Aw6 yb2 cw6 Al6 yc2 cl6 yd2) hs52 0 r0 ag29 (fun w39 hs53=>?_)))
        refine tA (.bool true) r0 (nn (rt (fret (v:=.tuple #[.agg #[I ya2,(Z10 Aw6 yb2 cw6),(Z23 Al6 yc2 cl6),Str yd2],.bool true]) (resC hs53 3 r0 r0 ag29 r0 (.tmp .nil)) r0 ?_)))
        have e33:clRun ⟨ms,lu,lw,ak,aq,an,apt⟩ (sx,wt,lg,to)=((ya2,yb2,yc2,yd2),true):=by(rw[(cl_y (c:=⟨ms,lu,lw,ak,aq,an,apt⟩) (t:=(sx,wt,lg,to)) ‹_› ‹_›),runT_some (step_y (c:=⟨ms,lu,lw,ak,aq,an,apt⟩) (t:=(sx,wt,lg,to)) (t':=(ya1,yb1,yc1,yd1)) ‹_› ‹_› p1),runT_some (step_y (c:=⟨ms,lu,lw,ak,aq,an,apt⟩) (t:=(ya1,yb1,yc1,yd1)) (t':=(ya2,yb2,yc2,yd2)) ‹_› ‹_› p6),runT_none (by first | exact step_no1 (c:=⟨ms,lu,lw,ak,aq,an,apt⟩) (t:=(ya2,yb2,yc2,yd2)) ‹_› | exact step_no2 (c:=⟨ms,lu,lw,ak,aq,an,apt⟩) (t:=(ya2,yb2,yc2,yd2)) ‹_›)]; done)
        have e34:=pj11 e33
        have e35:=pj121 e33
        have e36:=congrArg List.length e35
        have e37:=pj1221 e33
        have e38:=congrArg List.length e37
        have e39:=pj1222 e33
        have e40:=pj2 e33
        exact⟨Aw6,cw6,Al6,cl6,(tup2 (aggv (lc (congrArg (Value.int .i64) e34) (lc (slv r0 e36 r0) (lc (slv r0 e38 r0) (lc (congrArg (Str) e39) r0))))) (congrArg (Value.bool) e40)),((hs53.pq [0,1] r0).cast (lc (own_eq (g:=I) r0 e36 r0 e35) (lc (own_eqf (g:=gLogin) r0 e38 r0 e37) r0)))⟩
      ·refine sk (bN (nN ?_))
       have hs54:=hs24.pq [0,1,2,3,4] r0
       refine rg (tm (I ((0:Int)+1)) r0 (qt r0 (add (a:=(0:Int)+1) (b:=1) r0 r0 (by(exact⟨by omega,by omega⟩))) (tA (I (((0:Int)+1)+1)) r0 (nn (ulS (sq ?_))))))
       refine sr (tm (I (((0:Int)+1)+1)) r0 (qt r0 (lss (k:=.i64) (a:=((0:Int)+1)+1) (b:=3) r0 r0) (nn ?_)))
       refine cdd (p:=(((0:Int)+1)+1)<3) r0 (fun h19=>?_) (fun h19=>absurd (by decide) h19)
       refine sk (nN (sq (bl (sr (qt r0 (lG [(Z10 Ams ms cms),Str lu,Str lw,I ak,(Z10 Aaq aq caq),Str an,I apt] hs54 0 r0 ag53) (qt r0 (fa 0 fo29_0 r0) ?_))))))
       refine qt r0 (lD (I ya1) hs54 4 r0 one3) (cL r0 (sClientSay (Ams:=Ams) (cms:=cms) (ms:=ms) (lu:=lu) (lw:=lw) (ak:=ak) (Aaq:=Aaq) (caq:=caq) (aq:=aq) (an:=an) (apt:=apt) (n:=ya1) (w:=_) (hms:=(hms.up0 hs54)) (hlu_n:=(by(omega))) (hlw_n:=(by(omega))) (haq:=(haq.up0 hs54)) (han_n:=(by(omega)))) ?_)
       rintro _ w40 ⟨A4,c4,rfl,hs55⟩
       replace hs55:=hs54.call0 hs55
       refine tm (.tuple #[.slice A4 (((sayP ms lu lw ak aq an apt ya1).1).length) c4,.bool ((sayP ms lu lw ak aq an apt ya1).2)]) r0 (qt r0 (xt 0 (v:=.slice A4 (((sayP ms lu lw ak aq an apt ya1).1).length) c4) r0 r0) (qt r0 (xt 1 (v:=.bool ((sayP ms lu lw ak aq an apt ya1).2)) r0 r0) (tA (.slice A4 (((sayP ms lu lw ak aq an apt ya1).1).length) c4) r0 (tA (.bool ((sayP ms lu lw ak aq an apt ya1).2)) r0 (nn (sq ?_))))))
       refine rg (tm (.bool ((sayP ms lu lw ak aq an apt ya1).2)) r0 (nn ?_))
       refine cd (b:=(sayP ms lu lw ak aq an apt ya1).2) r0 (fun h20=>?_) (fun h20=>absurd (h20.symm.trans (by exact h11:((sayP ms lu lw ak aq an apt ya1).2)=true)) (by decide))
       refine sr (qt r0 (lG (Z2 ya1 Aw1 yb1 cw1 Al1 yc1 cl1 yd1) hs55 4 r0 ag29) (tm (.slice A4 (((sayP ms lu lw ak aq an apt ya1).1).length) c4) r0 (cL r0 (sTalkSayE (sx:=ya1) (Awt:=Aw1) (cwt:=cw1) (wt:=yb1) (Alg:=Al1) (clg:=cl1) (lg:=yc1) (to:=yd1) (Abs:=A4) (cbs:=c4) (bs:=(sayP ms lu lw ak aq an apt ya1).1) (w:=_) (hwt:=(hs55.sl0 2 r0)) (hlg:=(hs55.sl0 3 r0)) (hlg_e:=(by exact fun u hu=>hlg_e u (p5 u hu))) (hto_n:=(by(omega))) (hbs:=(hs55.sl0 5 r0))) ?_)))
       rintro _ w41 ⟨Aw7,cw7,Al7,cl7,Ay4,cy4,ya4,yb4,yc4,yd4,rfl,p16,p17,p18,p19,p20,hs56⟩
       replace hs56:=hs55.call0 hs56
       refine tm (.tuple #[.agg #[I ya4,(Z10 Aw7 yb4 cw7),(Z23 Al7 yc4 cl7),Str yd4],.slice Ay4 (((talkSay ya1 yb1 yc1 yd1 ((sayP ms lu lw ak aq an apt ya1).1)).2.1).length) cy4,.bool ((talkSay ya1 yb1 yc1 yd1 ((sayP ms lu lw ak aq an apt ya1).1)).2.2)]) r0 (qt r0 (xt 0 (v:=.agg #[I ya4,(Z10 Aw7 yb4 cw7),(Z23 Al7 yc4 cl7),Str yd4]) r0 r0) (qt r0 (xt 1 (v:=.slice Ay4 (((talkSay ya1 yb1 yc1 yd1 ((sayP ms lu lw ak aq an apt ya1).1)).2.1).length) cy4) r0 r0) (qt r0 (xt 2 (v:=.bool ((talkSay ya1 yb1 yc1 yd1 ((sayP ms lu lw ak aq an apt ya1).1)).2.2)) r0 r0) (al (v:=.agg #[I 0,ns,ns,Str []]) (cs:=[I 0,ns,ns,Str []]) hs56 tz29 r0 trivial r0 (fun b11 w42 hs57=>?_)))))
       refine sG (Z2 ya4 Aw7 yb4 cw7 Al7 yc4 cl7 yd4) hs57 9 r0 ag29 (fun w43 hs58=>?_)
       refine tA (.slice Ay4 (((talkSay ya1 yb1 yc1 yd1 ((sayP ms lu lw ak aq an apt ya1).1)).2.1).length) cy4) r0 (tA (Z26 ya1 yb1 yc1 yd1 ms lu lw ak aq an apt) r0 (nn ?_))
       have hs59:=hs58.pq [0,1,2,3,4,6,7,9] r0
       refine sr (tm (Z26 ya1 yb1 yc1 yd1 ms lu lw ak aq an apt) r0 (nn ?_))
       refine cd (b:=(talkSay ya1 yb1 yc1 yd1 ((sayP ms lu lw ak aq an apt ya1).1)).2.2) r0 (fun h21=>absurd (h21.symm.trans (by exact h12:((talkSay ya1 yb1 yc1 yd1 ((sayP ms lu lw ak aq an apt ya1).1)).2.2)=false)) (by decide)) (fun h21=>?_)
       refine sk (bN (nN ?_))
       have hs60:SH w w43 [] [.blk b1 53 [(Z10 Ams ms cms),Str lu,Str lw,I ak,(Z10 Aaq aq caq),Str an,I apt],(Z11 b3),(Z7 Aw1 yb1 cw1),(Z9 Al1 yc1 cl1),.blk b4 29 (Z2 ya1 Aw1 yb1 cw1 Al1 yc1 cl1 yd1)]:=hs59.pk [0,1,2,3,4] r0
       refine rg (tm (I (((0:Int)+1)+1)) r0 (qt r0 (add (a:=((0:Int)+1)+1) (b:=1) r0 r0 (by(exact⟨by omega,by omega⟩))) (tA (I ((((0:Int)+1)+1)+1)) r0 (nn (ulS (sq ?_))))))
       refine sr (tm (I ((((0:Int)+1)+1)+1)) r0 (qt r0 (lss (k:=.i64) (a:=(((0:Int)+1)+1)+1) (b:=3) r0 r0) (nn ?_)))
       refine cdd (p:=((((0:Int)+1)+1)+1)<3) r0 (fun h22=>absurd h22 (by decide)) (fun h22=>?_)
       refine ex (tE (tE (bE ?_)))
       refine nN (sr (qt r0 (lG (Z2 ya1 Aw1 yb1 cw1 Al1 yc1 cl1 yd1) hs60 4 r0 ag29) (qt r0 (fa 0 fo29_0 r0) (qt r0 (lD (I ya1) hs60 4 r0 one3) (cL r0 (sL23Next (sx:=ya1) (Awt:=Aw1) (cwt:=cw1) (wt:=yb1) (Alg:=Al1) (clg:=cl1) (lg:=yc1) (to:=yd1) (nst:=ya1) (w:=_) (hwt:=(hs60.sl0 2 r0)) (hwt_n:=(by(omega))) (hlg:=(hs60.sl0 3 r0)) (hlg_e:=(by exact fun u hu=>hlg_e u (p5 u hu))) (hlg_n:=(by(omega)))) ?_)))))
       rintro _ w44 ⟨Aw8,cw8,Al8,cl8,rfl,hs61⟩
       replace hs61:=hs60.call0 hs61
       refine al (v:=.agg #[I 0,ns,ns,Str []]) (cs:=[I 0,ns,ns,Str []]) hs61 tz29 r0 trivial r0 (fun b12 w45 hs62=>?_)
       refine sG [I ya1,(Z10 Aw8 yb1 cw8),(Z23 Al8 yc1 cl8),Str []] hs62 7 r0 ag29 (fun w46 hs63=>?_)
       refine nx (qt r0 (fa 3 fo29_3 r0) (qt r0 (lD (Str yd1) hs63 4 r0 one9) (qt r0 (fa 3 fo29_3 r0) (sT (Str yd1) hs63 7 r0 one9 (fun w47 (hs64:SH w w47 [] [.blk b1 53 [(Z10 Ams ms cms),Str lu,Str lw,I ak,(Z10 Aaq aq caq),Str an,I apt],(Z11 b3),(Z7 Aw1 yb1 cw1),(Z9 Al1 yc1 cl1),.blk b4 29 (Z2 ya1 Aw1 yb1 cw1 Al1 yc1 cl1 yd1),(Z7 Aw8 yb1 cw8),(Z9 Al8 yc1 cl8),.blk b12 29 (Z2 ya1 Aw8 yb1 cw8 Al8 yc1 cl8 yd1)])=>?_)))))
       refine nn ?_
       have hs65:=hs64.pq [1,5,6,7] r0
       refine sr (qt r0 (lG (Z2 ya1 Aw8 yb1 cw8 Al8 yc1 cl8 yd1) hs65 3 r0 ag29) (sG (Z2 ya1 Aw8 yb1 cw8 Al8 yc1 cl8 yd1) hs65 0 r0 ag29 (fun w48 hs66=>?_)))
       refine tA (.bool true) r0 (nn (rt (fret (v:=.tuple #[.agg #[I ya1,(Z10 Aw8 yb1 cw8),(Z23 Al8 yc1 cl8),Str yd1],.bool true]) (resC hs66 3 r0 r0 ag29 r0 (.tmp .nil)) r0 ?_)))
       have e41:clRun ⟨ms,lu,lw,ak,aq,an,apt⟩ (sx,wt,lg,to)=((ya1,yb1,yc1,yd1),true):=by(rw[(cl_y (c:=⟨ms,lu,lw,ak,aq,an,apt⟩) (t:=(sx,wt,lg,to)) ‹_› ‹_›),runT_some (step_y (c:=⟨ms,lu,lw,ak,aq,an,apt⟩) (t:=(sx,wt,lg,to)) (t':=(ya1,yb1,yc1,yd1)) ‹_› ‹_› p1),runT_none (by first | exact step_no1 (c:=⟨ms,lu,lw,ak,aq,an,apt⟩) (t:=(ya1,yb1,yc1,yd1)) ‹_› | exact step_no2 (c:=⟨ms,lu,lw,ak,aq,an,apt⟩) (t:=(ya1,yb1,yc1,yd1)) ‹_›)]; done)
       have e42:=pj11 e41
       have e43:=pj121 e41
       have e44:=congrArg List.length e43
       have e45:=pj1221 e41
       have e46:=congrArg List.length e45
       have e47:=pj1222 e41
       have e48:=pj2 e41
       exact⟨Aw8,cw8,Al8,cl8,(tup2 (aggv (lc (congrArg (Value.int .i64) e42) (lc (slv r0 e44 r0) (lc (slv r0 e46 r0) (lc (congrArg (Str) e47) r0))))) (congrArg (Value.bool) e48)),((hs66.pq [0,1] r0).cast (lc (own_eq (g:=I) r0 e44 r0 e43) (lc (own_eqf (g:=gLogin) r0 e46 r0 e45) r0)))⟩
     ·refine sk (bN (nN ?_))
      have hs67:=hs20.pq [0,1,2,3,5] r0
      refine rg (tm (I ((0:Int)+1)) r0 (qt r0 (add (a:=(0:Int)+1) (b:=1) r0 r0 (by(exact⟨by omega,by omega⟩))) (tA (I (((0:Int)+1)+1)) r0 (nn (ulS (sq ?_))))))
      refine sr (tm (I (((0:Int)+1)+1)) r0 (qt r0 (lss (k:=.i64) (a:=((0:Int)+1)+1) (b:=3) r0 r0) (nn ?_)))
      refine cdd (p:=(((0:Int)+1)+1)<3) r0 (fun h23=>?_) (fun h23=>absurd (by decide) h23)
      refine sk (nN (sq (bl (sr (qt r0 (lG [(Z10 Ams ms cms),Str lu,Str lw,I ak,(Z10 Aaq aq caq),Str an,I apt] hs67 0 r0 ag53) (qt r0 (fa 0 fo29_0 r0) ?_))))))
      refine qt r0 (lD (I ya1) hs67 4 r0 one3) (cL r0 (sClientSay (Ams:=Ams) (cms:=cms) (ms:=ms) (lu:=lu) (lw:=lw) (ak:=ak) (Aaq:=Aaq) (caq:=caq) (aq:=aq) (an:=an) (apt:=apt) (n:=ya1) (w:=_) (hms:=(hms.up0 hs67)) (hlu_n:=(by(omega))) (hlw_n:=(by(omega))) (haq:=(haq.up0 hs67)) (han_n:=(by(omega)))) ?_)
      rintro _ w49 ⟨A5,c5,rfl,hs68⟩
      replace hs68:=hs67.call0 hs68
      refine tm (.tuple #[.slice A5 (((sayP ms lu lw ak aq an apt ya1).1).length) c5,.bool ((sayP ms lu lw ak aq an apt ya1).2)]) r0 (qt r0 (xt 0 (v:=.slice A5 (((sayP ms lu lw ak aq an apt ya1).1).length) c5) r0 r0) (qt r0 (xt 1 (v:=.bool ((sayP ms lu lw ak aq an apt ya1).2)) r0 r0) (tA (.slice A5 (((sayP ms lu lw ak aq an apt ya1).1).length) c5) r0 (tA (.bool ((sayP ms lu lw ak aq an apt ya1).2)) r0 (nn (sq ?_))))))
      refine rg (tm (.bool ((sayP ms lu lw ak aq an apt ya1).2)) r0 (nn ?_))
      refine cd (b:=(sayP ms lu lw ak aq an apt ya1).2) r0 (fun h24=>absurd (h24.symm.trans (by exact h11:((sayP ms lu lw ak aq an apt ya1).2)=false)) (by decide)) (fun h24=>?_)
      refine sk (bN (nN (rg (tm (I (((0:Int)+1)+1)) r0 (qt r0 (add (a:=((0:Int)+1)+1) (b:=1) r0 r0 (by(exact⟨by omega,by omega⟩))) (tA (I ((((0:Int)+1)+1)+1)) r0 (nl ?_)))))))
      refine nN (ulS (sq (sr (tm (I ((((0:Int)+1)+1)+1)) r0 (qt r0 (lss (k:=.i64) (a:=(((0:Int)+1)+1)+1) (b:=3) r0 r0) (nl ?_))))))
      refine nN ?_
      refine cdd (p:=((((0:Int)+1)+1)+1)<3) r0 (fun h25=>absurd h25 (by decide)) (fun h25=>?_)
      refine ex (tE (tE (bE ?_)))
      refine nN ?_
      have hs69:=hs68.pq [1,2,3,4] r0
      refine sr (qt r0 (lG (Z2 ya1 Aw1 yb1 cw1 Al1 yc1 cl1 yd1) hs69 3 r0 ag29) (qt r0 (fa 0 fo29_0 r0) (qt r0 (lD (I ya1) hs69 3 r0 one3) (cL r0 (sL23Next (sx:=ya1) (Awt:=Aw1) (cwt:=cw1) (wt:=yb1) (Alg:=Al1) (clg:=cl1) (lg:=yc1) (to:=yd1) (nst:=ya1) (w:=_) (hwt:=(hs69.sl0 1 r0)) (hwt_n:=(by(omega))) (hlg:=(hs69.sl0 2 r0)) (hlg_e:=(by exact fun u hu=>hlg_e u (p5 u hu))) (hlg_n:=(by(omega)))) ?_))))
      rintro _ w50 ⟨Aw9,cw9,Al9,cl9,rfl,hs70⟩
      replace hs70:=hs69.call0 hs70
      refine al (v:=.agg #[I 0,ns,ns,Str []]) (cs:=[I 0,ns,ns,Str []]) hs70 tz29 r0 trivial r0 (fun b13 w51 hs71=>?_)
      refine sG [I ya1,(Z10 Aw9 yb1 cw9),(Z23 Al9 yc1 cl9),Str []] hs71 6 r0 ag29 (fun w52 (hs72:SH w w52 [] [(Z11 b3),(Z7 Aw1 yb1 cw1),(Z9 Al1 yc1 cl1),.blk b4 29 (Z2 ya1 Aw1 yb1 cw1 Al1 yc1 cl1 yd1),(Z7 Aw9 yb1 cw9),(Z9 Al9 yc1 cl9),.blk b13 29 [I ya1,(Z10 Aw9 yb1 cw9),(Z23 Al9 yc1 cl9),Str []]])=>?_)
      refine nx (qt r0 (fa 3 fo29_3 r0) (qt r0 (lD (Str yd1) hs72 3 r0 one9) (qt r0 (fa 3 fo29_3 r0) (sT (Str yd1) hs72 6 r0 one9 (fun w53 hs73=>?_)))))
      refine nn ?_
      have hs74:=hs73.pq [0,4,5,6] r0
      refine sr (qt r0 (lG (Z2 ya1 Aw9 yb1 cw9 Al9 yc1 cl9 yd1) hs74 3 r0 ag29) (sG (Z2 ya1 Aw9 yb1 cw9 Al9 yc1 cl9 yd1) hs74 0 r0 ag29 (fun w54 hs75=>?_)))
      refine tA (.bool true) r0 (nn (rt (fret (v:=.tuple #[.agg #[I ya1,(Z10 Aw9 yb1 cw9),(Z23 Al9 yc1 cl9),Str yd1],.bool true]) (resC hs75 3 r0 r0 ag29 r0 (.tmp .nil)) r0 ?_)))
      have e49:clRun ⟨ms,lu,lw,ak,aq,an,apt⟩ (sx,wt,lg,to)=((ya1,yb1,yc1,yd1),true):=by(rw[(cl_y (c:=⟨ms,lu,lw,ak,aq,an,apt⟩) (t:=(sx,wt,lg,to)) ‹_› ‹_›),runT_some (step_y (c:=⟨ms,lu,lw,ak,aq,an,apt⟩) (t:=(sx,wt,lg,to)) (t':=(ya1,yb1,yc1,yd1)) ‹_› ‹_› p1),runT_none (by first | exact step_no1 (c:=⟨ms,lu,lw,ak,aq,an,apt⟩) (t:=(ya1,yb1,yc1,yd1)) ‹_› | exact step_no2 (c:=⟨ms,lu,lw,ak,aq,an,apt⟩) (t:=(ya1,yb1,yc1,yd1)) ‹_›)]; done)
      have e50:=pj11 e49
      have e51:=pj121 e49
      have e52:=congrArg List.length e51
      have e53:=pj1221 e49
      have e54:=congrArg List.length e53
      have e55:=pj1222 e49
      have e56:=pj2 e49
      exact⟨Aw9,cw9,Al9,cl9,(tup2 (aggv (lc (congrArg (Value.int .i64) e50) (lc (slv r0 e52 r0) (lc (slv r0 e54 r0) (lc (congrArg (Str) e55) r0))))) (congrArg (Value.bool) e56)),((hs75.pq [0,1] r0).cast (lc (own_eq (g:=I) r0 e52 r0 e51) (lc (own_eqf (g:=gLogin) r0 e54 r0 e53) r0)))⟩
    ·refine sk (bN (nN ?_))
     have hs76:SH w w13 [] [.blk b1 53 [(Z10 Ams ms cms),Str lu,Str lw,I ak,(Z10 Aaq aq caq),Str an,I apt],(Z11 b3),.blk b4 29 (Z2 sx Awt wt cwt Alg lg clg to)]:=hs18.pk [0,1,2] r0
     refine rg (tm (I 0) r0 (qt r0 (add (a:=0) (b:=1) r0 r0 (by(exact⟨by omega,by omega⟩))) (tA (I ((0:Int)+1)) r0 (nn (ulS (sq ?_))))))
     refine sr (tm (I ((0:Int)+1)) r0 (qt r0 (lss (k:=.i64) (a:=(0:Int)+1) (b:=3) r0 r0) (nn ?_)))
     refine cdd (p:=((0:Int)+1)<3) r0 (fun h26=>?_) (fun h26=>absurd (by decide) h26)
     refine sk (nN (sq (bl (sr (qt r0 (lG [(Z10 Ams ms cms),Str lu,Str lw,I ak,(Z10 Aaq aq caq),Str an,I apt] hs76 0 r0 ag53) (qt r0 (fa 0 fo29_0 r0) ?_))))))
     refine qt r0 (lD (I sx) hs76 2 r0 one3) (cL r0 (sClientSay (Ams:=Ams) (cms:=cms) (ms:=ms) (lu:=lu) (lw:=lw) (ak:=ak) (Aaq:=Aaq) (caq:=caq) (aq:=aq) (an:=an) (apt:=apt) (n:=sx) (w:=_) (hms:=(hms.up0 hs76)) (hlu_n:=(by(omega))) (hlw_n:=(by(omega))) (haq:=(haq.up0 hs76)) (han_n:=(by(omega)))) ?_)
     rintro _ w55 ⟨A6,c6,rfl,hs77⟩
     replace hs77:=hs76.call0 hs77
     refine tm (.tuple #[.slice A6 (((sayP ms lu lw ak aq an apt sx).1).length) c6,.bool ((sayP ms lu lw ak aq an apt sx).2)]) r0 (qt r0 (xt 0 (v:=.slice A6 (((sayP ms lu lw ak aq an apt sx).1).length) c6) r0 r0) (qt r0 (xt 1 (v:=.bool ((sayP ms lu lw ak aq an apt sx).2)) r0 r0) (tA (.slice A6 (((sayP ms lu lw ak aq an apt sx).1).length) c6) r0 (tA (.bool ((sayP ms lu lw ak aq an apt sx).2)) r0 (nn (sq ?_))))))
     refine rg (tm (.bool ((sayP ms lu lw ak aq an apt sx).2)) r0 (nn ?_))
     refine cd (b:=(sayP ms lu lw ak aq an apt sx).2) r0 (fun h27=>?_) (fun h27=>absurd (h27.symm.trans (by exact h8:((sayP ms lu lw ak aq an apt sx).2)=true)) (by decide))
     refine sr (qt r0 (lG (Z2 sx Awt wt cwt Alg lg clg to) hs77 2 r0 ag29) (tm (.slice A6 (((sayP ms lu lw ak aq an apt sx).1).length) c6) r0 (cL r0 (sTalkSayE (sx:=sx) (Awt:=Awt) (cwt:=cwt) (wt:=wt) (Alg:=Alg) (clg:=clg) (lg:=lg) (to:=to) (Abs:=A6) (cbs:=c6) (bs:=(sayP ms lu lw ak aq an apt sx).1) (w:=_) (hwt:=(hwt.up0 hs77)) (hlg:=(hlg.up0 hs77)) (hlg_e:=hlg_e) (hto_n:=(by(omega))) (hbs:=(hs77.sl0 3 r0))) ?_)))
     rintro _ w56 ⟨Aw10,cw10,Al10,cl10,Ay5,cy5,ya5,yb5,yc5,yd5,rfl,p21,p22,p23,p24,p25,hs78⟩
     replace hs78:=hs77.call0 hs78
     refine tm (.tuple #[.agg #[I ya5,(Z10 Aw10 yb5 cw10),(Z23 Al10 yc5 cl10),Str yd5],.slice Ay5 (((talkSay sx wt lg to ((sayP ms lu lw ak aq an apt sx).1)).2.1).length) cy5,.bool ((talkSay sx wt lg to ((sayP ms lu lw ak aq an apt sx).1)).2.2)]) r0 (qt r0 (xt 0 (v:=.agg #[I ya5,(Z10 Aw10 yb5 cw10),(Z23 Al10 yc5 cl10),Str yd5]) r0 r0) (qt r0 (xt 1 (v:=.slice Ay5 (((talkSay sx wt lg to ((sayP ms lu lw ak aq an apt sx).1)).2.1).length) cy5) r0 r0) (qt r0 (xt 2 (v:=.bool ((talkSay sx wt lg to ((sayP ms lu lw ak aq an apt sx).1)).2.2)) r0 r0) (al (v:=.agg #[I 0,ns,ns,Str []]) (cs:=[I 0,ns,ns,Str []]) hs78 tz29 r0 trivial r0 (fun b14 w57 hs79=>?_)))))
     refine sG (Z2 ya5 Aw10 yb5 cw10 Al10 yc5 cl10 yd5) hs79 7 r0 ag29 (fun w58 (hs80:SH w w58 [] [.blk b1 53 [(Z10 Ams ms cms),Str lu,Str lw,I ak,(Z10 Aaq aq caq),Str an,I apt],(Z11 b3),.blk b4 29 (Z2 sx Awt wt cwt Alg lg clg to),.own A6 (((sayP ms lu lw ak aq an apt sx).1).length) c6 3 1 (((sayP ms lu lw ak aq an apt sx).1).map I),(Z7 Aw10 yb5 cw10),(Z9 Al10 yc5 cl10),.own Ay5 (((talkSay sx wt lg to ((sayP ms lu lw ak aq an apt sx).1)).2.1).length) cy5 3 1 (((talkSay sx wt lg to ((sayP ms lu lw ak aq an apt sx).1)).2.1).map I),.blk b14 29 (Z2 ya5 Aw10 yb5 cw10 Al10 yc5 cl10 yd5)])=>?_)
     refine tA (.slice Ay5 (((talkSay sx wt lg to ((sayP ms lu lw ak aq an apt sx).1)).2.1).length) cy5) r0 (tA (Z26 sx wt lg to ms lu lw ak aq an apt) r0 (nn ?_))
     have hs81:=hs80.pq [0,1,2,4,5,7] r0
     refine sr (tm (Z26 sx wt lg to ms lu lw ak aq an apt) r0 (nn ?_))
     refine cd (b:=(talkSay sx wt lg to ((sayP ms lu lw ak aq an apt sx).1)).2.2) r0 (fun h28=>absurd (h28.symm.trans (by exact h9:((talkSay sx wt lg to ((sayP ms lu lw ak aq an apt sx).1)).2.2)=false)) (by decide)) (fun h28=>?_)
     refine sk (bN (nN ?_))
     have hs82:=hs81.pq [0,1,2] r0
     refine rg (tm (I ((0:Int)+1)) r0 (qt r0 (add (a:=(0:Int)+1) (b:=1) r0 r0 (by(exact⟨by omega,by omega⟩))) (tA (I (((0:Int)+1)+1)) r0 (nn (ulS (sq ?_))))))
     refine sr (tm (I (((0:Int)+1)+1)) r0 (qt r0 (lss (k:=.i64) (a:=((0:Int)+1)+1) (b:=3) r0 r0) (nn ?_)))
     refine cdd (p:=(((0:Int)+1)+1)<3) r0 (fun h29=>?_) (fun h29=>absurd (by decide) h29)
     refine sk (nN (sq (bl (sr (qt r0 (lG [(Z10 Ams ms cms),Str lu,Str lw,I ak,(Z10 Aaq aq caq),Str an,I apt] hs82 0 r0 ag53) (qt r0 (fa 0 fo29_0 r0) ?_))))))
     refine qt r0 (lD (I sx) hs82 2 r0 one3) (cL r0 (sClientSay (Ams:=Ams) (cms:=cms) (ms:=ms) (lu:=lu) (lw:=lw) (ak:=ak) (Aaq:=Aaq) (caq:=caq) (aq:=aq) (an:=an) (apt:=apt) (n:=sx) (w:=_) (hms:=(hms.up0 hs82)) (hlu_n:=(by(omega))) (hlw_n:=(by(omega))) (haq:=(haq.up0 hs82)) (han_n:=(by(omega)))) ?_)
     rintro _ w59 ⟨A7,c7,rfl,hs83⟩
     replace hs83:=hs82.call0 hs83
     refine tm (.tuple #[.slice A7 (((sayP ms lu lw ak aq an apt sx).1).length) c7,.bool ((sayP ms lu lw ak aq an apt sx).2)]) r0 (qt r0 (xt 0 (v:=.slice A7 (((sayP ms lu lw ak aq an apt sx).1).length) c7) r0 r0) (qt r0 (xt 1 (v:=.bool ((sayP ms lu lw ak aq an apt sx).2)) r0 r0) (tA (.slice A7 (((sayP ms lu lw ak aq an apt sx).1).length) c7) r0 (tA (.bool ((sayP ms lu lw ak aq an apt sx).2)) r0 (nn (sq ?_))))))
     refine rg (tm (.bool ((sayP ms lu lw ak aq an apt sx).2)) r0 (nn ?_))
     refine cd (b:=(sayP ms lu lw ak aq an apt sx).2) r0 (fun h30=>?_) (fun h30=>absurd (h30.symm.trans (by exact h8:((sayP ms lu lw ak aq an apt sx).2)=true)) (by decide))
     refine sr (qt r0 (lG (Z2 sx Awt wt cwt Alg lg clg to) hs83 2 r0 ag29) (tm (.slice A7 (((sayP ms lu lw ak aq an apt sx).1).length) c7) r0 (cL r0 (sTalkSayE (sx:=sx) (Awt:=Awt) (cwt:=cwt) (wt:=wt) (Alg:=Alg) (clg:=clg) (lg:=lg) (to:=to) (Abs:=A7) (cbs:=c7) (bs:=(sayP ms lu lw ak aq an apt sx).1) (w:=_) (hwt:=(hwt.up0 hs83)) (hlg:=(hlg.up0 hs83)) (hlg_e:=hlg_e) (hto_n:=(by(omega))) (hbs:=(hs83.sl0 3 r0))) ?_)))
     rintro _ w60 ⟨Aw11,cw11,Al11,cl11,Ay6,cy6,ya6,yb6,yc6,yd6,rfl,p26,p27,p28,p29,p30,hs84⟩
     replace hs84:=hs83.call0 hs84
     refine tm (.tuple #[.agg #[I ya6,(Z10 Aw11 yb6 cw11),(Z23 Al11 yc6 cl11),Str yd6],.slice Ay6 (((talkSay sx wt lg to ((sayP ms lu lw ak aq an apt sx).1)).2.1).length) cy6,.bool ((talkSay sx wt lg to ((sayP ms lu lw ak aq an apt sx).1)).2.2)]) r0 (qt r0 (xt 0 (v:=.agg #[I ya6,(Z10 Aw11 yb6 cw11),(Z23 Al11 yc6 cl11),Str yd6]) r0 r0) (qt r0 (xt 1 (v:=.slice Ay6 (((talkSay sx wt lg to ((sayP ms lu lw ak aq an apt sx).1)).2.1).length) cy6) r0 r0) (qt r0 (xt 2 (v:=.bool ((talkSay sx wt lg to ((sayP ms lu lw ak aq an apt sx).1)).2.2)) r0 r0) (al (v:=.agg #[I 0,ns,ns,Str []]) (cs:=[I 0,ns,ns,Str []]) hs84 tz29 r0 trivial r0 (fun b15 w61 hs85=>?_)))))
     refine sG (Z2 ya6 Aw11 yb6 cw11 Al11 yc6 cl11 yd6) hs85 7 r0 ag29 (fun w62 hs86=>?_)
     refine tA (.slice Ay6 (((talkSay sx wt lg to ((sayP ms lu lw ak aq an apt sx).1)).2.1).length) cy6) r0 (tA (Z26 sx wt lg to ms lu lw ak aq an apt) r0 (nn ?_))
     have hs87:=hs86.pq [0,1,2,4,5,7] r0
     refine sr (tm (Z26 sx wt lg to ms lu lw ak aq an apt) r0 (nn ?_))
     refine cd (b:=(talkSay sx wt lg to ((sayP ms lu lw ak aq an apt sx).1)).2.2) r0 (fun h31=>absurd (h31.symm.trans (by exact h9:((talkSay sx wt lg to ((sayP ms lu lw ak aq an apt sx).1)).2.2)=false)) (by decide)) (fun h31=>?_)
     refine sk (bN (nN ?_))
     have hs88:SH w w62 [] [.blk b1 53 [(Z10 Ams ms cms),Str lu,Str lw,I ak,(Z10 Aaq aq caq),Str an,I apt],(Z11 b3),.blk b4 29 (Z2 sx Awt wt cwt Alg lg clg to)]:=hs87.pk [0,1,2] r0
     refine rg (tm (I (((0:Int)+1)+1)) r0 (qt r0 (add (a:=((0:Int)+1)+1) (b:=1) r0 r0 (by(exact⟨by omega,by omega⟩))) (tA (I ((((0:Int)+1)+1)+1)) r0 (nn (ulS (sq ?_))))))
     refine sr (tm (I ((((0:Int)+1)+1)+1)) r0 (qt r0 (lss (k:=.i64) (a:=(((0:Int)+1)+1)+1) (b:=3) r0 r0) (nn ?_)))
     refine cdd (p:=((((0:Int)+1)+1)+1)<3) r0 (fun h32=>absurd h32 (by decide)) (fun h32=>?_)
     refine ex (tE (tE (bE ?_)))
     refine nN (sr (qt r0 (lG (Z2 sx Awt wt cwt Alg lg clg to) hs88 2 r0 ag29) (qt r0 (fa 0 fo29_0 r0) (qt r0 (lD (I sx) hs88 2 r0 one3) (cL r0 (sL23Next (sx:=sx) (Awt:=Awt) (cwt:=cwt) (wt:=wt) (Alg:=Alg) (clg:=clg) (lg:=lg) (to:=to) (nst:=sx) (w:=_) (hwt:=(hwt.up0 hs88)) (hwt_n:=(by(have htp:=talkOk_parts (by assumption:talkOk sx wt lg to=true); have hmw:=methOk_len htp.2.1; omega))) (hlg:=(hlg.up0 hs88)) (hlg_e:=hlg_e) (hlg_n:=(by(have htp:=talkOk_parts (by assumption:talkOk sx wt lg to=true); have hmw:=methOk_len htp.2.1; omega)))) ?_)))))
     rintro _ w63 ⟨Aw12,cw12,Al12,cl12,rfl,hs89⟩
     replace hs89:=hs88.call0 hs89
     refine al (v:=.agg #[I 0,ns,ns,Str []]) (cs:=[I 0,ns,ns,Str []]) hs89 tz29 r0 trivial r0 (fun b16 w64 hs90=>?_)
     refine sG [I sx,(Z10 Aw12 wt cw12),(Z23 Al12 lg cl12),Str []] hs90 5 r0 ag29 (fun w65 hs91=>?_)
     refine nx (qt r0 (fa 3 fo29_3 r0) (qt r0 (lD (Str to) hs91 2 r0 one9) (qt r0 (fa 3 fo29_3 r0) (sT (Str to) hs91 5 r0 one9 (fun w66 (hs92:SH w w66 [] [.blk b1 53 [(Z10 Ams ms cms),Str lu,Str lw,I ak,(Z10 Aaq aq caq),Str an,I apt],(Z11 b3),.blk b4 29 (Z2 sx Awt wt cwt Alg lg clg to),(Z7 Aw12 wt cw12),(Z9 Al12 lg cl12),.blk b16 29 (Z2 sx Aw12 wt cw12 Al12 lg cl12 to)])=>?_)))))
     refine nn ?_
     have hs93:=hs92.pq [1,3,4,5] r0
     refine sr (qt r0 (lG (Z2 sx Aw12 wt cw12 Al12 lg cl12 to) hs93 3 r0 ag29) (sG (Z2 sx Aw12 wt cw12 Al12 lg cl12 to) hs93 0 r0 ag29 (fun w67 hs94=>?_)))
     refine tA (.bool true) r0 (nn (rt (fret (v:=.tuple #[.agg #[I sx,(Z10 Aw12 wt cw12),(Z23 Al12 lg cl12),Str to],.bool true]) (resC hs94 3 r0 r0 ag29 r0 (.tmp .nil)) r0 ?_)))
     have e57:clRun ⟨ms,lu,lw,ak,aq,an,apt⟩ (sx,wt,lg,to)=((sx,wt,lg,to),true):=by(rw[(cl_y (c:=⟨ms,lu,lw,ak,aq,an,apt⟩) (t:=(sx,wt,lg,to)) ‹_› ‹_›),runT_none (by first | exact step_no1 (c:=⟨ms,lu,lw,ak,aq,an,apt⟩) (t:=(sx,wt,lg,to)) ‹_› | exact step_no2 (c:=⟨ms,lu,lw,ak,aq,an,apt⟩) (t:=(sx,wt,lg,to)) ‹_›)]; done)
     have e58:=pj11 e57
     have e59:=pj121 e57
     have e60:=congrArg List.length e59
     have e61:=pj1221 e57
     have e62:=congrArg List.length e61
     have e63:=pj1222 e57
     have e64:=pj2 e57
     exact⟨Aw12,cw12,Al12,cl12,(tup2 (aggv (lc (congrArg (Value.int .i64) e58) (lc (slv r0 e60 r0) (lc (slv r0 e62 r0) (lc (congrArg (Str) e63) r0))))) (congrArg (Value.bool) e64)),((hs94.pq [0,1] r0).cast (lc (own_eq (g:=I) r0 e60 r0 e59) (lc (own_eqf (g:=gLogin) r0 e62 r0 e61) r0)))⟩
   ·refine sk (bN (nN ?_))
    have hs95:=hs14.pq [0,2,3] r0
    refine rg (tm (I 0) r0 (qt r0 (add (a:=0) (b:=1) r0 r0 (by(exact⟨by omega,by omega⟩))) (tA (I ((0:Int)+1)) r0 (nn (ulS (sq ?_))))))
    refine sr (tm (I ((0:Int)+1)) r0 (qt r0 (lss (k:=.i64) (a:=(0:Int)+1) (b:=3) r0 r0) (nn ?_)))
    refine cdd (p:=((0:Int)+1)<3) r0 (fun h33=>?_) (fun h33=>absurd (by decide) h33)
    refine sk (nN (sq (bl (sr (qt r0 (lG [(Z10 Ams ms cms),Str lu,Str lw,I ak,(Z10 Aaq aq caq),Str an,I apt] hs95 0 r0 ag53) (qt r0 (fa 0 fo29_0 r0) ?_))))))
    refine qt r0 (lD (I sx) hs95 2 r0 one3) (cL r0 (sClientSay (Ams:=Ams) (cms:=cms) (ms:=ms) (lu:=lu) (lw:=lw) (ak:=ak) (Aaq:=Aaq) (caq:=caq) (aq:=aq) (an:=an) (apt:=apt) (n:=sx) (w:=_) (hms:=(hms.up0 hs95)) (hlu_n:=(by(omega))) (hlw_n:=(by(omega))) (haq:=(haq.up0 hs95)) (han_n:=(by(omega)))) ?_)
    rintro _ w68 ⟨A8,c8,rfl,hs96⟩
    replace hs96:=hs95.call0 hs96
    refine tm (.tuple #[.slice A8 (((sayP ms lu lw ak aq an apt sx).1).length) c8,.bool ((sayP ms lu lw ak aq an apt sx).2)]) r0 (qt r0 (xt 0 (v:=.slice A8 (((sayP ms lu lw ak aq an apt sx).1).length) c8) r0 r0) (qt r0 (xt 1 (v:=.bool ((sayP ms lu lw ak aq an apt sx).2)) r0 r0) (tA (.slice A8 (((sayP ms lu lw ak aq an apt sx).1).length) c8) r0 (tA (.bool ((sayP ms lu lw ak aq an apt sx).2)) r0 (nn (sq ?_))))))
    refine rg (tm (.bool ((sayP ms lu lw ak aq an apt sx).2)) r0 (nn ?_))
    refine cd (b:=(sayP ms lu lw ak aq an apt sx).2) r0 (fun h34=>absurd (h34.symm.trans (by exact h8:((sayP ms lu lw ak aq an apt sx).2)=false)) (by decide)) (fun h34=>?_)
    refine sk (bN (nN (rg (tm (I ((0:Int)+1)) r0 (qt r0 (add (a:=(0:Int)+1) (b:=1) r0 r0 (by(exact⟨by omega,by omega⟩))) (tA (I (((0:Int)+1)+1)) r0 (nl ?_)))))))
    refine nN (ulS (sq (sr (tm (I (((0:Int)+1)+1)) r0 (qt r0 (lss (k:=.i64) (a:=((0:Int)+1)+1) (b:=3) r0 r0) (nl ?_))))))
    refine nN ?_
    refine cdd (p:=(((0:Int)+1)+1)<3) r0 (fun h35=>?_) (fun h35=>absurd (by decide) h35)
    refine sk (nN (sq (bl (sr (qt r0 (lG [(Z10 Ams ms cms),Str lu,Str lw,I ak,(Z10 Aaq aq caq),Str an,I apt] hs96 0 r0 ag53) (qt r0 (fa 0 fo29_0 r0) ?_))))))
    refine qt r0 (lD (I sx) hs96 2 r0 one3) (cL r0 (sClientSay (Ams:=Ams) (cms:=cms) (ms:=ms) (lu:=lu) (lw:=lw) (ak:=ak) (Aaq:=Aaq) (caq:=caq) (aq:=aq) (an:=an) (apt:=apt) (n:=sx) (w:=_) (hms:=(hms.up0 hs96)) (hlu_n:=(by(omega))) (hlw_n:=(by(omega))) (haq:=(haq.up0 hs96)) (han_n:=(by(omega)))) ?_)
    rintro _ w69 ⟨A9,c9,rfl,hs97⟩
    replace hs97:=hs96.call0 hs97
    refine tm (.tuple #[.slice A9 (((sayP ms lu lw ak aq an apt sx).1).length) c9,.bool ((sayP ms lu lw ak aq an apt sx).2)]) r0 (qt r0 (xt 0 (v:=.slice A9 (((sayP ms lu lw ak aq an apt sx).1).length) c9) r0 r0) (qt r0 (xt 1 (v:=.bool ((sayP ms lu lw ak aq an apt sx).2)) r0 r0) (tA (.slice A9 (((sayP ms lu lw ak aq an apt sx).1).length) c9) r0 (tA (.bool ((sayP ms lu lw ak aq an apt sx).2)) r0 (nn (sq ?_))))))
    refine rg (tm (.bool ((sayP ms lu lw ak aq an apt sx).2)) r0 (nn ?_))
    refine cd (b:=(sayP ms lu lw ak aq an apt sx).2) r0 (fun h36=>absurd (h36.symm.trans (by exact h8:((sayP ms lu lw ak aq an apt sx).2)=false)) (by decide)) (fun h36=>?_)
    refine sk (bN (nN ?_))
    have hs98:=hs97.pq [0,1,2] r0
    refine rg (tm (I (((0:Int)+1)+1)) r0 (qt r0 (add (a:=((0:Int)+1)+1) (b:=1) r0 r0 (by(exact⟨by omega,by omega⟩))) (tA (I ((((0:Int)+1)+1)+1)) r0 (nn (ulS (sq ?_))))))
    refine sr (tm (I ((((0:Int)+1)+1)+1)) r0 (qt r0 (lss (k:=.i64) (a:=(((0:Int)+1)+1)+1) (b:=3) r0 r0) (nn ?_)))
    refine cdd (p:=((((0:Int)+1)+1)+1)<3) r0 (fun h37=>absurd h37 (by decide)) (fun h37=>?_)
    refine ex (tE (tE (bE ?_)))
    refine nN (sr (qt r0 (lG (Z2 sx Awt wt cwt Alg lg clg to) hs98 2 r0 ag29) (qt r0 (fa 0 fo29_0 r0) (qt r0 (lD (I sx) hs98 2 r0 one3) (cL r0 (sL23Next (sx:=sx) (Awt:=Awt) (cwt:=cwt) (wt:=wt) (Alg:=Alg) (clg:=clg) (lg:=lg) (to:=to) (nst:=sx) (w:=_) (hwt:=(hwt.up0 hs98)) (hwt_n:=(by(have htp:=talkOk_parts (by assumption:talkOk sx wt lg to=true); have hmw:=methOk_len htp.2.1; omega))) (hlg:=(hlg.up0 hs98)) (hlg_e:=hlg_e) (hlg_n:=(by(have htp:=talkOk_parts (by assumption:talkOk sx wt lg to=true); have hmw:=methOk_len htp.2.1; omega)))) ?_)))))
    rintro _ w70 ⟨Aw13,cw13,Al13,cl13,rfl,hs99⟩
    replace hs99:=hs98.call0 hs99
    refine al (v:=.agg #[I 0,ns,ns,Str []]) (cs:=[I 0,ns,ns,Str []]) hs99 tz29 r0 trivial r0 (fun b17 w71 (hs100:SH w w71 [] [.blk b1 53 [(Z10 Ams ms cms),Str lu,Str lw,I ak,(Z10 Aaq aq caq),Str an,I apt],(Z11 b3),.blk b4 29 (Z2 sx Awt wt cwt Alg lg clg to),(Z7 Aw13 wt cw13),(Z9 Al13 lg cl13),(Z11 b17)])=>?_)
    refine sG [I sx,(Z10 Aw13 wt cw13),(Z23 Al13 lg cl13),Str []] hs100 5 r0 ag29 (fun w72 hs101=>?_)
    refine nx (qt r0 (fa 3 fo29_3 r0) (qt r0 (lD (Str to) hs101 2 r0 one9) (qt r0 (fa 3 fo29_3 r0) (sT (Str to) hs101 5 r0 one9 (fun w73 hs102=>?_)))))
    refine nn ?_
    have hs103:=hs102.pq [1,3,4,5] r0
    refine sr (qt r0 (lG (Z2 sx Aw13 wt cw13 Al13 lg cl13 to) hs103 3 r0 ag29) (sG (Z2 sx Aw13 wt cw13 Al13 lg cl13 to) hs103 0 r0 ag29 (fun w74 (hs104:SH w w74 [] [(Z7 Aw13 wt cw13),(Z9 Al13 lg cl13),.blk b17 29 (Z2 sx Aw13 wt cw13 Al13 lg cl13 to),.blk b3 29 (Z2 sx Aw13 wt cw13 Al13 lg cl13 to)])=>?_)))
    refine tA (.bool true) r0 (nn (rt (fret (v:=.tuple #[.agg #[I sx,(Z10 Aw13 wt cw13),(Z23 Al13 lg cl13),Str to],.bool true]) (resC hs104 3 r0 r0 ag29 r0 (.tmp .nil)) r0 ?_)))
    have e65:clRun ⟨ms,lu,lw,ak,aq,an,apt⟩ (sx,wt,lg,to)=((sx,wt,lg,to),true):=by(rw[(cl_y (c:=⟨ms,lu,lw,ak,aq,an,apt⟩) (t:=(sx,wt,lg,to)) ‹_› ‹_›),runT_none (by first | exact step_no1 (c:=⟨ms,lu,lw,ak,aq,an,apt⟩) (t:=(sx,wt,lg,to)) ‹_› | exact step_no2 (c:=⟨ms,lu,lw,ak,aq,an,apt⟩) (t:=(sx,wt,lg,to)) ‹_›)]; done)
    have e66:=pj11 e65
    have e67:=pj121 e65
    have e68:=congrArg List.length e67
    have e69:=pj1221 e65
    have e70:=congrArg List.length e69
    have e71:=pj1222 e65
    have e72:=pj2 e65
    exact⟨Aw13,cw13,Al13,cl13,(tup2 (aggv (lc (congrArg (Value.int .i64) e66) (lc (slv r0 e68 r0) (lc (slv r0 e70 r0) (lc (congrArg (Str) e71) r0))))) (congrArg (Value.bool) e72)),((hs104.pq [0,1] r0).cast (lc (own_eq (g:=I) r0 e68 r0 e67) (lc (own_eqf (g:=gLogin) r0 e70 r0 e69) r0)))⟩
theorem l92Next {rb:Nat} {Ab:Option Addr} {cb:Nat} {bs:List UInt8} {p:Nat} (sx:Int) {Awt:Option Addr} {cwt:Nat} (wt:List Int) {Alg:Option Addr} {clg:Nat} (lg:List (List UInt8×List UInt8)) (to:List UInt8) (w:World) (hr:w.heap[rb]?=some (.cells [.slice Ab bs.length cb,.int .i64 (p:Int)].toArray 124 (0,0))) (hb:Sl w [rb] 1 Ab bs.length cb (bs.map U)) (hbn:bs.length≤2000) (hp:p≤17179869184) (hwt:Sl w [rb] 1 Awt wt.length cwt (wt.map I)) (hlg:Sl w [rb] 2 Alg lg.length clg (lg.flatMap gLogin)) (hlg_e: ∀ u∈lg,u.1.length≤9223372036854775807∧u.2.length≤9223372036854775807):Does Tryz.prog 56 [pB rb,.agg #[I sx,.slice Awt wt.length cwt,.slice Alg lg.length clg,Str to]] w (fun v w'=>∃ Ar:Option Addr,∃ cr:Nat,∃ r:List Int,∃ q:Nat,v=.slice Ar r.length cr∧(r.length≤30)∧(q≤p+100)∧SH w w' [rb] [.blk rb 124 [.slice Ab bs.length cb,I (q:Int)],.own Ar r.length cr 3 1 (r.map I)]):=by
 refine fE (N:=51) Tryz.func56 r0 (by kernel_rfl) r0 ?_
 have hs0:=SH.entry1 hr
 have hwt_m:wt.length≤9223372036854775807:=Nat.le_trans hwt.cap hwt.capMax
 have hlg_m:lg.length≤9223372036854775807:=Nat.le_trans hlg.cap hlg.capMax
 refine sr (bx (v:=.agg #[I sx,(Z10 Awt wt cwt),(Z23 Alg lg clg),Str to]) (cs:=(Z2 sx Awt wt cwt Alg lg clg to)) hs0 r0 r0 trivial r0 (fun b1 w1 hs1=>?_))
 refine tA ns r0 (nn (sq (sr (qt r0 (fa 0 fo29_0 r0) (qt r0 (lD (I sx) hs1 1 r0 one3) ?_)))))
 refine nn (bl (sr (qt r0 (eqi (k:=.i64) (a:=sx) (b:=0) r0 r0) (tA (.bool (decide (sx=0))) r0 (nl ?_)))))
 refine nN ?_
 refine cdd (p:=sx=0) r0 (fun h1=>?_) (fun h1=>?_)
 ·refine sr (bsk hs1 sl22 [I 0] [I 0] trivial r0 (fun b2 w2 hs2=>?_))
  refine bsk hs2 sl22 [I 2] [I 2] trivial r0 (fun b3 w3 hs3=>?_)
  refine bsk hs3 sl22 [I 0,I 2] [I 0,I 2] trivial r0 (fun b4 w4 hs4=>?_)
  refine bsk hs4 sl22 [I 1] [I 1] trivial r0 (fun b5 w5 hs5=>?_)
  refine bsk hs5 sl91 [sb b2 (([0]:List Int).length) 1,sb b3 (([2]:List Int).length) 1,sb b4 (([0,2]:List Int).length) 2,sb b5 (([1]:List Int).length) 1] [sb b2 (([0]:List Int).length) 1,sb b3 (([2]:List Int).length) 1,sb b4 (([0,2]:List Int).length) 2,sb b5 (([1]:List Int).length) 1] trivial r0 (fun b6 w6 hs6=>?_)
  refine tm (pB rb) r0 (cL r0 (pick (rb:=rb) (Ab:=Ab) (cb:=cb) (bs:=bs) (p:=p) (n:=4) (w:=_) (hr:=(blk_heap hs6 0 r0)) (hb:=(hb.up hs6 (fun _ h=>h) (fun _ h=>.inl h))) (hbn:=‹_›) (hp:=(by omega))) ?_)
  rintro _ w7 ⟨r1,q1,rfl,p1,p2,hs7⟩
  replace hs7:=hs6.callM 0 r0 hs7 m_1
  refine qt r0 (ixo r1.toNat sl91 r0 (ieq (x:=r1) (by omega)) (by omega)) (qt r0 (ldoHd (L:=Z22) (ys:=([(⟨(Z6 b2),1,([0]:List Int)⟩:Hd),(⟨(Z6 b3),1,([2]:List Int)⟩:Hd),(⟨(Z6 b4),2,([0,2]:List Int)⟩:Hd),(⟨(Z6 b5),1,([1]:List Int)⟩:Hd)]:List Hd)) (o:=r1.toNat) r0 hs7 5 r0 r0 (by(simp; omega)) one22) (cL r0 (sHelloBytes (Ams:=(([(⟨(Z6 b2),1,([0]:List Int)⟩:Hd),(⟨(Z6 b3),1,([2]:List Int)⟩:Hd),(⟨(Z6 b4),2,([0,2]:List Int)⟩:Hd),(⟨(Z6 b5),1,([1]:List Int)⟩:Hd)]:List Hd).getD r1.toNat hd0).A) (cms:=(([(⟨(Z6 b2),1,([0]:List Int)⟩:Hd),(⟨(Z6 b3),1,([2]:List Int)⟩:Hd),(⟨(Z6 b4),2,([0,2]:List Int)⟩:Hd),(⟨(Z6 b5),1,([1]:List Int)⟩:Hd)]:List Hd).getD r1.toNat hd0).c) (ms:=Z22.getD r1.toNat []) (w:=_) (hms:=(hd_at2 (L:=Z22) r0 (fa_cons (hs7.sl0 1 r0) (fa_cons (hs7.sl0 2 r0) (fa_cons (hs7.sl0 3 r0) (fa_cons (hs7.sl0 4 r0) fa_nil)))) (by(simp; omega))))) ?_))
  rintro _ w8 ⟨A1,c1,rfl,hs8⟩
  replace hs8:=hs7.call0 hs8
  refine tm (.tuple #[.slice A1 (((helloP (Z22.getD r1.toNat [])).1).length) c1,.bool ((helloP (Z22.getD r1.toNat [])).2)]) r0 (qt r0 (xt 0 (v:=.slice A1 (((helloP (Z22.getD r1.toNat [])).1).length) c1) r0 r0) (qt r0 (xt 1 (v:=.bool ((helloP (Z22.getD r1.toNat [])).2)) r0 r0) (tA (.slice A1 (((helloP (Z22.getD r1.toNat [])).1).length) c1) r0 (tA (.bool ((helloP (Z22.getD r1.toNat [])).2)) r0 (nn ?_)))))
  have hs9:=hs8.pq [6,7] r0
  refine sr (tm (.slice A1 (((helloP (Z22.getD r1.toNat [])).1).length) c1) r0 (tA (.slice A1 (((helloP (Z22.getD r1.toNat [])).1).length) c1) r0 (nn ?_)))
  refine rt (bR (tR ?_))
  refine fT (.slice A1 (((helloP (Z22.getD r1.toNat [])).1).length) c1) r0 ?_
  exact⟨A1,c1,(helloP (Z22.getD r1.toNat [])).1,q1,rfl,(by exact Nat.le_trans (helloP_len _) (by decide)),(by omega),hs9⟩
 ·refine sr (qt r0 (eqi (k:=.i64) (a:=sx) (b:=1) r0 r0) (tA (.bool (decide (sx=1))) r0 (nn ?_)))
  refine cdd (p:=sx=1) r0 (fun h2=>?_) (fun h2=>?_)
  ·refine sr (qt r0 (bdv (v:=.agg #[Str [97,110,110],Str [97,98,99]]) [(0,Str [97,110,110]),(1,Str [97,98,99])] r0 (fun _=>by kernel_rfl)) (qt r0 (bdv (v:=.agg #[Str [98,111,98],Str [57]]) [(0,Str [98,111,98]),(1,Str [57])] r0 (fun _=>by kernel_rfl)) (qt r0 (bdv (v:=.agg #[Str [98,111,98],Str [97,98,99]]) [(0,Str [98,111,98]),(1,Str [97,98,99])] r0 (fun _=>by kernel_rfl)) (bsk hs1 sl27 [.agg #[Str [97,110,110],Str [97,98,99]],.agg #[Str [98,111,98],Str [57]],.agg #[Str [98,111,98],Str [97,98,99]]] [Str [97,110,110],Str [97,98,99],Str [98,111,98],Str [57],Str [98,111,98],Str [97,98,99]] trivial r0 (fun b7 w9 hs10=>?_)))))
   refine tm (pB rb) r0 (cL r0 (pick (rb:=rb) (Ab:=Ab) (cb:=cb) (bs:=bs) (p:=p) (n:=3) (w:=_) (hr:=(blk_heap hs10 0 r0)) (hb:=(hb.up hs10 (fun _ h=>h) (fun _ h=>.inl h))) (hbn:=‹_›) (hp:=(by omega))) ?_)
   rintro _ w10 ⟨r2,q2,rfl,p3,p4,hs11⟩
   replace hs11:=hs10.callM 0 r0 hs11 m_1
   refine qt r0 (ixo r2.toNat sl27 r0 (ieq (x:=r2) (by omega)) (by omega)) (qt r0 (ldofg (g:=gLogin) (ys:=([(([97,110,110],[97,98,99]):List UInt8×List UInt8),(([98,111,98],[57]):List UInt8×List UInt8),(([98,111,98],[97,98,99]):List UInt8×List UInt8)]:List (List UInt8×List UInt8))) (o:=r2.toNat) (vs:=[Str ((([(([97,110,110],[97,98,99]):List UInt8×List UInt8),(([98,111,98],[57]):List UInt8×List UInt8),(([98,111,98],[97,98,99]):List UInt8×List UInt8)]:List (List UInt8×List UInt8)).getD r2.toNat login0).1),Str ((([(([97,110,110],[97,98,99]):List UInt8×List UInt8),(([98,111,98],[57]):List UInt8×List UInt8),(([98,111,98],[97,98,99]):List UInt8×List UInt8)]:List (List UInt8×List UInt8)).getD r2.toNat login0).2)]) login0 (fun _=>rfl) hs11 1 r0 r0 (by(simp; omega)) r0 ag51) (cL r0 (sLoginBytes (lu:=(([(([97,110,110],[97,98,99]):List UInt8×List UInt8),(([98,111,98],[57]):List UInt8×List UInt8),(([98,111,98],[97,98,99]):List UInt8×List UInt8)]:List (List UInt8×List UInt8)).getD r2.toNat login0).1) (lw:=(([(([97,110,110],[97,98,99]):List UInt8×List UInt8),(([98,111,98],[57]):List UInt8×List UInt8),(([98,111,98],[97,98,99]):List UInt8×List UInt8)]:List (List UInt8×List UInt8)).getD r2.toNat login0).2) (w:=_) (hlu_n:=(by(have h3_:=three_login r2.toNat; omega))) (hlw_n:=(by(have h3_:=three_login r2.toNat; omega)))) ?_))
   rintro _ w11 ⟨A2,c2,rfl,hs12⟩
   replace hs12:=hs11.call0 hs12
   refine tm (.tuple #[.slice A2 (((loginP ((([(([97,110,110],[97,98,99]):List UInt8×List UInt8),(([98,111,98],[57]):List UInt8×List UInt8),(([98,111,98],[97,98,99]):List UInt8×List UInt8)]:List (List UInt8×List UInt8)).getD r2.toNat login0).1) ((([(([97,110,110],[97,98,99]):List UInt8×List UInt8),(([98,111,98],[57]):List UInt8×List UInt8),(([98,111,98],[97,98,99]):List UInt8×List UInt8)]:List (List UInt8×List UInt8)).getD r2.toNat login0).2)).1).length) c2,.bool ((loginP ((([(([97,110,110],[97,98,99]):List UInt8×List UInt8),(([98,111,98],[57]):List UInt8×List UInt8),(([98,111,98],[97,98,99]):List UInt8×List UInt8)]:List (List UInt8×List UInt8)).getD r2.toNat login0).1) ((([(([97,110,110],[97,98,99]):List UInt8×List UInt8),(([98,111,98],[57]):List UInt8×List UInt8),(([98,111,98],[97,98,99]):List UInt8×List UInt8)]:List (List UInt8×List UInt8)).getD r2.toNat login0).2)).2)]) r0 (qt r0 (xt 0 (v:=.slice A2 (((loginP ((([(([97,110,110],[97,98,99]):List UInt8×List UInt8),(([98,111,98],[57]):List UInt8×List UInt8),(([98,111,98],[97,98,99]):List UInt8×List UInt8)]:List (List UInt8×List UInt8)).getD r2.toNat login0).1) ((([(([97,110,110],[97,98,99]):List UInt8×List UInt8),(([98,111,98],[57]):List UInt8×List UInt8),(([98,111,98],[97,98,99]):List UInt8×List UInt8)]:List (List UInt8×List UInt8)).getD r2.toNat login0).2)).1).length) c2) r0 r0) (qt r0 (xt 1 (v:=.bool ((loginP ((([(([97,110,110],[97,98,99]):List UInt8×List UInt8),(([98,111,98],[57]):List UInt8×List UInt8),(([98,111,98],[97,98,99]):List UInt8×List UInt8)]:List (List UInt8×List UInt8)).getD r2.toNat login0).1) ((([(([97,110,110],[97,98,99]):List UInt8×List UInt8),(([98,111,98],[57]):List UInt8×List UInt8),(([98,111,98],[97,98,99]):List UInt8×List UInt8)]:List (List UInt8×List UInt8)).getD r2.toNat login0).2)).2)) r0 r0) (tA (.slice A2 (((loginP ((([(([97,110,110],[97,98,99]):List UInt8×List UInt8),(([98,111,98],[57]):List UInt8×List UInt8),(([98,111,98],[97,98,99]):List UInt8×List UInt8)]:List (List UInt8×List UInt8)).getD r2.toNat login0).1) ((([(([97,110,110],[97,98,99]):List UInt8×List UInt8),(([98,111,98],[57]):List UInt8×List UInt8),(([98,111,98],[97,98,99]):List UInt8×List UInt8)]:List (List UInt8×List UInt8)).getD r2.toNat login0).2)).1).length) c2) r0 (tA (.bool ((loginP ((([(([97,110,110],[97,98,99]):List UInt8×List UInt8),(([98,111,98],[57]):List UInt8×List UInt8),(([98,111,98],[97,98,99]):List UInt8×List UInt8)]:List (List UInt8×List UInt8)).getD r2.toNat login0).1) ((([(([97,110,110],[97,98,99]):List UInt8×List UInt8),(([98,111,98],[57]):List UInt8×List UInt8),(([98,111,98],[97,98,99]):List UInt8×List UInt8)]:List (List UInt8×List UInt8)).getD r2.toNat login0).2)).2)) r0 (nn ?_)))))
   have hs13:=hs12.pq [2,3] r0
   refine sr (tm (.slice A2 (((loginP ((([(([97,110,110],[97,98,99]):List UInt8×List UInt8),(([98,111,98],[57]):List UInt8×List UInt8),(([98,111,98],[97,98,99]):List UInt8×List UInt8)]:List (List UInt8×List UInt8)).getD r2.toNat login0).1) ((([(([97,110,110],[97,98,99]):List UInt8×List UInt8),(([98,111,98],[57]):List UInt8×List UInt8),(([98,111,98],[97,98,99]):List UInt8×List UInt8)]:List (List UInt8×List UInt8)).getD r2.toNat login0).2)).1).length) c2) r0 (tA (.slice A2 (((loginP ((([(([97,110,110],[97,98,99]):List UInt8×List UInt8),(([98,111,98],[57]):List UInt8×List UInt8),(([98,111,98],[97,98,99]):List UInt8×List UInt8)]:List (List UInt8×List UInt8)).getD r2.toNat login0).1) ((([(([97,110,110],[97,98,99]):List UInt8×List UInt8),(([98,111,98],[57]):List UInt8×List UInt8),(([98,111,98],[97,98,99]):List UInt8×List UInt8)]:List (List UInt8×List UInt8)).getD r2.toNat login0).2)).1).length) c2) r0 (nn ?_)))
   refine rt (bR (tR ?_))
   refine fT (.slice A2 (((loginP ((([(([97,110,110],[97,98,99]):List UInt8×List UInt8),(([98,111,98],[57]):List UInt8×List UInt8),(([98,111,98],[97,98,99]):List UInt8×List UInt8)]:List (List UInt8×List UInt8)).getD r2.toNat login0).1) ((([(([97,110,110],[97,98,99]):List UInt8×List UInt8),(([98,111,98],[57]):List UInt8×List UInt8),(([98,111,98],[97,98,99]):List UInt8×List UInt8)]:List (List UInt8×List UInt8)).getD r2.toNat login0).2)).1).length) c2) r0 ?_
   exact⟨A2,c2,(loginP ((([(([97,110,110],[97,98,99]):List UInt8×List UInt8),(([98,111,98],[57]):List UInt8×List UInt8),(([98,111,98],[97,98,99]):List UInt8×List UInt8)]:List (List UInt8×List UInt8)).getD r2.toNat login0).1) ((([(([97,110,110],[97,98,99]):List UInt8×List UInt8),(([98,111,98],[57]):List UInt8×List UInt8),(([98,111,98],[97,98,99]):List UInt8×List UInt8)]:List (List UInt8×List UInt8)).getD r2.toNat login0).2)).1,q2,rfl,(by exact Nat.le_trans (loginP_len _ _) (by decide)),(by omega),hs13⟩
  ·refine sk (bN (nN (sr (tm (pB rb) r0 (cL r0 (l92Request (rb:=rb) (Ab:=Ab) (cb:=cb) (bs:=bs) (p:=p) (w:=_) (hr:=(blk_heap hs1 0 r0)) (hb:=(hb.up hs1 (fun _ h=>h) (fun _ h=>.inl h))) (hbn:=‹_›) (hp:=(by omega))) ?_)))))
   rintro _ w12 ⟨Aq1,cq1,cm1,ak1,aq1,an1,apt1,q3,rfl,p5,p6,p7,hs14⟩
   replace hs14:=hs1.callM 0 r0 hs14 m_1
   refine cL r0 (sRequestBytes (n:=cm1) (ak:=ak1) (Aaq:=Aq1) (caq:=cq1) (aq:=aq1) (an:=an1) (apt:=apt1) (w:=_) (haq:=(hs14.sl0 2 r0)) (han_n:=(by omega))) ?_
   rintro _ w13 ⟨A3,c3,rfl,hs15⟩
   replace hs15:=hs14.call0 hs15
   refine tm (.tuple #[.slice A3 (((reqP cm1 ak1 aq1 an1 apt1).1).length) c3,.bool ((reqP cm1 ak1 aq1 an1 apt1).2)]) r0 (qt r0 (xt 0 (v:=.slice A3 (((reqP cm1 ak1 aq1 an1 apt1).1).length) c3) r0 r0) (qt r0 (xt 1 (v:=.bool ((reqP cm1 ak1 aq1 an1 apt1).2)) r0 r0) (tA (.slice A3 (((reqP cm1 ak1 aq1 an1 apt1).1).length) c3) r0 (tA (.bool ((reqP cm1 ak1 aq1 an1 apt1).2)) r0 (nn ?_)))))
   have hs16:=hs15.pq [1,3] r0
   refine sr (tm (.slice A3 (((reqP cm1 ak1 aq1 an1 apt1).1).length) c3) r0 (tA (.slice A3 (((reqP cm1 ak1 aq1 an1 apt1).1).length) c3) r0 (nn (rt (fT (.slice A3 (((reqP cm1 ak1 aq1 an1 apt1).1).length) c3) r0 ?_)))))
   exact⟨A3,c3,(reqP cm1 ak1 aq1 an1 apt1).1,q3,rfl,(by exact Nat.le_trans (reqP_len _ _ _ _ _) (by decide)),(by omega),hs16⟩

end Go.Proofs.YtjehmnojfpedjaaGreatDoor
