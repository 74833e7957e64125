/-
  Part of the proofs over this seat: what each function of the program computes, function by function (the text is written by a program of this hand-in's own).
  Conditions: each theorem states its own.
-/
import Derived.Test.YtjehmnojfpedjaaGreatDoorPfWalks2
namespace Go.Proofs.YtjehmnojfpedjaaGreatDoor
open Go.PF
set_option maxRecDepth 100000
set_option linter.unusedSimpArgs false
set_option linter.unusedVariables false

set_option maxHeartbeats 8000000 in
theorem sL23Next (sx:Int) {Awt:Option Addr} {cwt:Nat} (wt:List Int) {Alg:Option Addr} {clg:Nat} (lg:List (List UInt8×List UInt8)) (to:List UInt8) (nst:Int) (w:World) (hwt:Sl w [] 1 Awt wt.length cwt (wt.map I)) (hwt_n:wt.length≤1099511627776) (hlg:Sl w [] 2 Alg lg.length clg (lg.flatMap gLogin)) (hlg_e: ∀ u∈lg,u.1.length≤9223372036854775807∧u.2.length≤9223372036854775807) (hlg_n:lg.length≤1099511627776):Does Tryz.prog 69 [.agg #[I sx,.slice Awt wt.length cwt,.slice Alg lg.length clg,Str to],I nst] w (fun v w'=>∃ Awr:Option Addr,∃ cwr:Nat,∃ Alr:Option Addr,∃ clr:Nat,v=.agg #[.int .i64 nst,.slice Awr wt.length cwr,.slice Alr lg.length clr,Str []]∧SH w w' [] [.own Awr wt.length cwr 3 1 (wt.map I),.own Alr lg.length clr 51 2 (lg.flatMap gLogin)]):=by
 refine fE (N:=15) Tryz.func69 r0 (by kernel_rfl) r0 ?_
 have hs0:=SH.refl w []
 have hwt_m:wt.length≤9223372036854775807:=Nat.le_trans hwt.cap hwt.capMax
 have hlg_m:lg.length≤9223372036854775807:=Nat.le_trans hlg.cap hlg.capMax
 refine sr (bx (v:=.agg #[I sx,(Z8 Awt wt cwt),(Z13 Alg lg clg),Str to]) (cs:=(Z0 sx Awt wt cwt Alg lg clg to)) hs0 r0 r0 trivial r0 (fun b1 w1 hs1=>?_))
 refine al (v:=.agg #[I 0,ns,ns,Str []]) (cs:=[I 0,ns,ns,Str []]) hs1 tz29 r0 trivial r0 (fun b2 w2 hs2=>?_)
 refine nn (sq ?_)
 refine raJ (fun w'=>∃ L,SH w w' [] L∧(.blk b1 29 (Z0 sx Awt wt cwt Alg lg clg to))∈L∧True) (fun f w'=>∃ (A4':Option Addr) (c4':Nat) (A8':Option Addr) (c8':Nat),Hz f [(4,pB b2)]∧SH w w' [] [.blk b1 29 (Z0 sx Awt wt cwt Alg lg clg to),.blk b2 29 [I nst,(Z8 A4' wt c4'),(Z13 A8' lg c8'),Str []],(Z7 A4' wt c4'),(Z9 A8' lg c8')]) mixed ?_ ?_
 ·refine dG 1 11 1023 (fun f w'=>∃ (A4':Option Addr) (c4':Nat) (A8':Option Addr) (c8':Nat),Hz f [(4,pB b2),(14,.agg #[I nst,(Z8 A4' wt c4'),(Z13 A8' lg c8'),Str []])]∧SH w w' [] [.blk b1 29 (Z0 sx Awt wt cwt Alg lg clg to),(Z5 b2),(Z7 A4' wt c4'),(Z9 A8' lg c8')]) ?_ (fun D_1_0=>?_)
  ·rintro f w3 ⟨A4',c4',A8',c8',⟨g1,rfl⟩,hs3⟩
   refine aO 10 r0 (sG [I nst,(Z8 A4' wt c4'),(Z13 A8' lg c8'),Str []] hs3 1 r0 ag29 (fun w4 hs4=>?_))
   refine nk (m1 hs4 0 r0) ?_
   refine ad (by kernel_rfl) ?_
   exact⟨A4',c4',A8',c8',(zR r0),(hs4.pk [0,3,1,2] r0)⟩
  refine dG 3 11 255 (fun f w'=>∃ (b5':Nat) (A4':Option Addr) (c4':Nat),Hz f [(4,pB b2),(5,I nst),(9,.slice A4' wt.length c4'),(10,sb b5' (([]:List (List UInt8×List UInt8)).length) 0),(12,.slice Alg lg.length clg)]∧SH w w' [] [.blk b1 29 (Z0 sx Awt wt cwt Alg lg clg to),(Z5 b2),(Z7 A4' wt c4'),.own (Z2 b5') (([]:List (List UInt8×List UInt8)).length) 0 51 2 (([]:List (List UInt8×List UInt8)).flatMap gLogin)]) ?_ (fun D_1_1=>?_)
  ·rintro f w5 ⟨b5',A4',c4',⟨g2,rfl⟩,hs5⟩
   refine aO 8 r0 (apf (g:=gLogin) (ys:=([]:List (List UInt8×List UInt8))) (zs:=lg) hs5 3 r0 sl27 r0 (by decide) r0 r0 (hlg.up0 hs5) (fun _=>rfl) (by unfold maxLen; (simp; omega)) (by(simp; omega)) trivial r0 (fun A8' c8' w6 hs6=>?_))
   refine nk (m1 hs6 0 r0) ?_
   refine tk (fuel:=1) (is:=[9]) (.cons r0 (.nil)) (by kernel_rfl) (by kernel_rfl) (m1 hs6 0 r0) (yA r0 (bdv (v:=.agg #[I nst,(Z8 A4' wt c4'),(Z13 A8' lg c8'),Str []]) [(0,I nst),(1,.slice A4' wt.length c4'),(2,.slice A8' lg.length c8')] r0 (fun _=>by kernel_rfl)) (.nil ?_))
   exact alc D_1_0 ⟨A4',c4',A8',c8',(zR r0),hs6⟩
  refine dG 4 11 223 (fun f w'=>∃ (A4':Option Addr) (c4':Nat),Hz f [(4,pB b2),(5,I nst),(9,.slice A4' wt.length c4'),(12,.slice Alg lg.length clg)]∧SH w w' [] [.blk b1 29 (Z0 sx Awt wt cwt Alg lg clg to),(Z5 b2),(Z7 A4' wt c4')]) ?_ (fun D_1_2=>?_)
  ·rintro f w7 ⟨A4',c4',⟨g3,rfl⟩,hs7⟩
   refine aO 5 r0 (bsk hs7 sl27 [] [] trivial r0 (fun b5' w8 hs8=>?_))
   exact nk (m1 hs8 0 r0) (alc D_1_1 ⟨b5',A4',c4',(zR r0),hs8⟩)
  refine dG 4 11 239 (fun f w'=>∃ (b1' b5':Nat),Hz f [(4,pB b2),(5,I nst),(6,sb b1' (([]:List Int).length) 0),(8,.slice Awt wt.length cwt),(10,sb b5' (([]:List (List UInt8×List UInt8)).length) 0),(12,.slice Alg lg.length clg)]∧SH w w' [] [.blk b1 29 (Z0 sx Awt wt cwt Alg lg clg to),(Z5 b2),oI b1' ([]:List Int) 0 3,.own (Z2 b5') (([]:List (List UInt8×List UInt8)).length) 0 51 2 (([]:List (List UInt8×List UInt8)).flatMap gLogin)]) ?_ (fun D_1_3=>?_)
  ·rintro f w9 ⟨b1',b5',⟨g4,rfl⟩,hs9⟩
   refine aO 4 r0 (apm (g:=I) (ys:=([]:List Int)) (zs:=wt) hs9 2 r0 sl22 r0 r0 r0 (hwt.up0 hs9) (fun _=>rfl) (by unfold maxLen; (simp; omega)) (by(simp; omega)) trivial r0 (fun A4' c4' w10 hs10=>?_))
   exact nk (m1 hs10 0 r0) (alc D_1_1 ⟨b5',A4',c4',(zR r0),(hs10.pk [0,1,3,2] r0)⟩)
  refine dG 5 11 207 (fun f w'=>∃ (b1':Nat),Hz f [(4,pB b2),(5,I nst),(6,sb b1' (([]:List Int).length) 0),(8,.slice Awt wt.length cwt),(12,.slice Alg lg.length clg)]∧SH w w' [] [.blk b1 29 (Z0 sx Awt wt cwt Alg lg clg to),(Z5 b2),oI b1' ([]:List Int) 0 3]) ?_ (fun D_1_4=>?_)
  ·rintro f w11 ⟨b1',⟨g5,rfl⟩,hs11⟩
   refine aaL [4,5] (fa_cons ?_ (fa_one ?_))
   ·refine one_ r0 (apm (g:=I) (ys:=([]:List Int)) (zs:=wt) hs11 2 r0 sl22 r0 r0 r0 (hwt.up0 hs11) (fun _=>rfl) (by unfold maxLen; (simp; omega)) (by(simp; omega)) trivial r0 (fun A4' c4' w12 hs12=>?_))
    exact nk (m1 hs12 0 r0) (alc D_1_2 ⟨A4',c4',(zR r0),hs12⟩)
   ·refine one_ r0 (bsk hs11 sl27 [] [] trivial r0 (fun b5' w13 hs13=>?_))
    exact nk (m1 hs13 0 r0) (alc D_1_3 ⟨b1',b5',(zR r0),hs13⟩)
  refine dG 5 11 237 (fun f w'=>∃ (b5':Nat),Hz f [(4,pB b2),(5,I nst),(8,.slice Awt wt.length cwt),(10,sb b5' (([]:List (List UInt8×List UInt8)).length) 0),(12,.slice Alg lg.length clg)]∧SH w w' [] [.blk b1 29 (Z0 sx Awt wt cwt Alg lg clg to),(Z5 b2),.own (Z2 b5') (([]:List (List UInt8×List UInt8)).length) 0 51 2 (([]:List (List UInt8×List UInt8)).flatMap gLogin)]) ?_ (fun D_1_5=>?_)
  ·rintro f w14 ⟨b5',⟨g6,rfl⟩,hs14⟩
   refine aO 1 r0 (bsk hs14 sl22 [] [] trivial r0 (fun b1' w15 hs15=>?_))
   exact nk (m1 hs15 0 r0) (alc D_1_3 ⟨b1',b5',(zR r0),(hs15.pk [0,1,3,2] r0)⟩)
  refine dG 6 11 205 (fun f w'=>Hz f [(4,pB b2),(5,I nst),(8,.slice Awt wt.length cwt),(12,.slice Alg lg.length clg)]∧SH w w' [] [.blk b1 29 (Z0 sx Awt wt cwt Alg lg clg to),(Z5 b2)]) ?_ (fun D_1_6=>?_)
  ·rintro f w16 ⟨⟨g7,rfl⟩,hs16⟩
   refine aaL [1,5] (fa_cons ?_ (fa_one ?_))
   ·refine one_ r0 (bsk hs16 sl22 [] [] trivial r0 (fun b1' w17 hs17=>?_))
    exact nk (m1 hs17 0 r0) (alc D_1_4 ⟨b1',(zR r0),hs17⟩)
   ·refine one_ r0 (bsk hs16 sl27 [] [] trivial r0 (fun b5' w18 hs18=>?_))
    exact nk (m1 hs18 0 r0) (alc D_1_5 ⟨b5',(zR r0),hs18⟩)
  have hs19:=hs2.drew
  refine tk (fuel:=6) (is:=[0,2,3,6,7]) (.cons r0 (.cons r0 (.cons r0 (.cons r0 (.cons r0 (.nil)))))) (by kernel_rfl) (by kernel_rfl) (m1 hs19 0 r0) (yA r0 (mv (v:=I nst) r0) (yA r0 (fa 1 fo29_1 r0) (yB r0 (fun ⟨Lq,hsq,mh0,_⟩=>lM (Z4 Awt wt cwt) hsq mh0 r0 one22) (yA r0 (fa 2 fo29_2 r0) (yB r0 (fun ⟨Lq,hsq,mh0,_⟩=>lM (.slice Alg lg.length clg) hsq mh0 r0 one27) (.nil ?_))))))
  exact alc D_1_6 ⟨(zR r0),hs19⟩
 rintro f w19 ⟨A4',c4',A8',c8',⟨g8,rfl⟩,hs20⟩
 refine nN (rt (fret (v:=.agg #[I nst,(Z8 A4' wt c4'),(Z13 A8' lg c8'),Str []]) (resC hs20 1 r0 r0 ag29 r0 .nil) r0 ?_))
 exact⟨A4',c4',A8',c8',rfl,(hs20.pk [2,3] r0)⟩
theorem tkHello {tb:Nat} {Awt:Option Addr} {cwt:Nat} {Alg:Option Addr} {clg:Nat} (sx:Int) (wt:List Int) (lg:List Lg) (to:List UInt8) {Abs:Option Addr} {cbs:Nat} (bs:List Int) (w:World) (htk:w.heap[tb]?=some (.cells [.int .i64 sx,.slice Awt wt.length cwt,.slice Alg lg.length clg,Str to].toArray 29 (0,0))) (hwt:Sl w [tb] 1 Awt wt.length cwt (wt.map I)) (hlg:Sl w [tb] 2 Alg lg.length clg (lg.flatMap gLogin)) (hlg_e: ∀ u∈lg,u.1.length≤9223372036854775807∧u.2.length≤9223372036854775807) (hbs:Sl w [tb] 1 Abs bs.length cbs (bs.map I)) (hst:sx=4) (hto:to=[]):Does Tryz.prog 48 [pB tb,.slice Abs bs.length cbs] w (fun v w'=>∃ Ar:Option Addr,∃ cr:Nat,v=.slice Ar ((sayHello wt bs).2).length cr∧SH w w' [tb] [.blk tb 29 [I ((sayHello wt bs).1),.slice Awt wt.length cwt,.slice Alg lg.length clg,Str to],.own Ar (((sayHello wt bs).2).length) cr 3 1 (((sayHello wt bs).2).map I)]):=by
 refine fE (N:=48) Tryz.func48 r0 (by kernel_rfl) r0 ?_
 have hwt_m:wt.length≤9223372036854775807:=Nat.le_trans hwt.cap hwt.capMax
 have hlg_m:lg.length≤9223372036854775807:=Nat.le_trans hlg.cap hlg.capMax
 have hs0:=SH.entry1 htk
 have hbs_m:bs.length≤9223372036854775807:=Nat.le_trans hbs.cap hbs.capMax
 refine sr (tA ns r0 (nx (tm (Z4 Abs bs cbs) r0 ?_)))
 refine cL r0 (iHelloFrom (Abs:=Abs) (cbs:=cbs) (bs:=bs) (w:=_) (hbs:=(hbs.up hs0 (fun _ h=>h) (by simp)))) ?_
 rintro _ w1 ⟨A1,c1,rfl,hs1⟩
 replace hs1:=hs0.call0 hs1
 refine tm (.tuple #[.slice A1 (((helloFrom bs).1).length) c1,I ((helloFrom bs).2.1),.bool ((helloFrom bs).2.2)]) r0 (qt r0 (xt 0 (v:=.slice A1 (((helloFrom bs).1).length) c1) r0 r0) (qt r0 (xt 1 (v:=I ((helloFrom bs).2.1)) r0 r0) (qt r0 (xt 2 (v:=.bool ((helloFrom bs).2.2)) r0 r0) (tA (.slice A1 (((helloFrom bs).1).length) c1) r0 (tA (I ((helloFrom bs).2.1)) r0 (tA (.bool ((helloFrom bs).2.2)) r0 (nl ?_)))))))
 refine nN (sq (sr (tm (.bool ((helloFrom bs).2.2)) r0 (qt r0 (nt (b:=(helloFrom bs).2.2) r0) (tm (.bool (!((helloFrom bs).2.2))) r0 ?_)))))
 refine spl (b:=!((helloFrom bs).2.2)) 19 r0 (fun h1=>?_) (fun h1=>?_)
 ·have h2:((helloFrom bs).2.2)=false:=by simpa using h1
  refine gt5 r0 (gt5 r0 (gt5 r0 (gt5 r0 (qt r0 (pt (v:=.bool true) r0 r0) (nn (cdt r0 ?_))))))
  refine sr (tA ns r0 (nn (rt (tR ?_))))
  refine fT ns r0 ?_
  have hs2:=hs1.nl [.own none (([]:List Int).length) 0 3 1 (([]:List Int).map I)] r0
  have e1:([]:List Int)=(sayHello wt bs).2:=by(rw[sayH_no1 (by assumption)]; done)
  have e2:=congrArg List.length e1
  have e3:sx=(sayHello wt bs).1:=by(rw[sayH_no1 (by assumption)]) <;> (exact hst)
  exact⟨none,0,(slv r0 e2 r0),((hs2.pq [0,2] r0).cast (lc (congrArg (It.blk tb 29) (lc (congrArg (Value.int .i64) e3) (lc r0 (lc r0 (lc r0 r0))))) (lc (own_eq (g:=I) r0 e2 r0 e1) r0)))⟩
 ·have h3:((helloFrom bs).2.2)=true:=by simpa using h1
  refine q ⟨_,rfl,rfl⟩ r0 r0 (mv (v:=I ((helloFrom bs).2.1)) r0) (q ⟨_,rfl,rfl⟩ r0 r0 (mv (v:=.slice Abs bs.length cbs) r0) (q ⟨_,rfl,rfl⟩ r0 r0 (lnA (n:=bs.length) sl22 r0) (q ⟨_,rfl,rfl⟩ r0 r0 (lss (k:=.i64) (a:=(helloFrom bs).2.1) (b:=(bs.length:Int)) r0 r0) (qt r0 (pf (v:=.bool (decide (((helloFrom bs).2.1)<(bs.length:Int)))) r0 r0) (nn ?_)))))
  refine cdd (p:=((helloFrom bs).2.1)<(bs.length:Int)) r0 (fun h4=>?_) (fun h4=>?_)
  ·refine sr (tA ns r0 (nn (rt (tR ?_))))
   refine fT ns r0 ?_
   have hs3:=hs1.nl [.own none (([]:List Int).length) 0 3 1 (([]:List Int).map I)] r0
   have e4:([]:List Int)=(sayHello wt bs).2:=by(rw[sayH_no2 (by assumption)]; done)
   have e5:=congrArg List.length e4
   have e6:sx=(sayHello wt bs).1:=by(rw[sayH_no2 (by assumption)]) <;> (exact hst)
   exact⟨none,0,(slv r0 e5 r0),((hs3.pq [0,2] r0).cast (lc (congrArg (It.blk tb 29) (lc (congrArg (Value.int .i64) e6) (lc r0 (lc r0 (lc r0 r0))))) (lc (own_eq (g:=I) r0 e5 r0 e4) r0)))⟩
  ·refine sk (nN (sr (tm (pB tb) r0 (tn r0 (qt r0 (fa 1 fo29_1 r0) (qt r0 (lD (Z4 Awt wt cwt) hs1 0 r0 one22) ?_))))))
   refine tm (.slice A1 (((helloFrom bs).1).length) c1) r0 (cL r0 (iHelloPick (Awt:=Awt) (cwt:=cwt) (wt:=wt) (Ams:=A1) (cms:=c1) (ms:=(helloFrom bs).1) (w:=_) (hwt:=(hwt.up hs1 (fun _ h=>h) (by simp))) (hms:=(hs1.sl0 1 r0))) ?_)
   rintro _ w2 ⟨rfl,hs4⟩
   replace hs4:=hs1.call0 hs4
   refine tA (I (helloPick wt ((helloFrom bs).1))) r0 (nn (sq (sr (tm (I (helloPick wt ((helloFrom bs).1))) r0 (nl ?_)))))
   refine nN (bl (sr (qt r0 (eqi (k:=.i64) (a:=helloPick wt ((helloFrom bs).1)) (b:=0) r0 r0) (tA (.bool (decide ((helloPick wt ((helloFrom bs).1))=0))) r0 (nn ?_)))))
   refine cdd (p:=(helloPick wt ((helloFrom bs).1))=0) r0 (fun h5=>?_) (fun h5=>?_)
   ·refine rg (tm (pB tb) r0 (tn r0 (qt r0 (fa 0 fo29_0 r0) (sT (I 2) hs4 0 r0 one3 (fun w3 hs5=>?_)))))
    refine nl (bN (nN (sr (tm (I (helloPick wt ((helloFrom bs).1))) r0 (cL r0 (iPickBytes (m:=helloPick wt ((helloFrom bs).1)) (w:=_) (hm:=(by exact pick_bd _ _))) ?_)))))
    rintro _ w4 ⟨A2,c2,rfl,hs6⟩
    replace hs6:=hs5.call0 hs6
    refine tm (.tuple #[.slice A2 ([5,(helloPick wt ((helloFrom bs).1))].length) c2,.bool true]) r0 (qt r0 (xt 0 (v:=.slice A2 ([5,(helloPick wt ((helloFrom bs).1))].length) c2) r0 r0) (qt r0 (xt 1 (v:=.bool true) r0 r0) (tA (.slice A2 ([5,(helloPick wt ((helloFrom bs).1))].length) c2) r0 (tA (.bool true) r0 (nn (sq ?_))))))
    refine rg (tm (.slice A2 ([5,(helloPick wt ((helloFrom bs).1))].length) c2) r0 (tA (.slice A2 ([5,(helloPick wt ((helloFrom bs).1))].length) c2) r0 (nn (rt (fT (.slice A2 ([5,(helloPick wt ((helloFrom bs).1))].length) c2) r0 ?_)))))
    have e7:[5,(helloPick wt ((helloFrom bs).1))]=(sayHello wt bs).2:=by(rw[sayH_y (by assumption) (by assumption)]; done)
    have e8:=congrArg List.length e7
    have e9:2=(sayHello wt bs).1:=by(rw[sayH_y (by assumption) (by assumption)]) <;> ((simp[h3,h4,h5]; done))
    exact⟨A2,c2,(slv r0 e8 r0),((hs6.pq [1,2] r0).cast (lc (congrArg (It.blk tb 29) (lc (congrArg (Value.int .i64) e9) (lc r0 (lc r0 (lc r0 r0))))) (lc (own_eq (g:=I) r0 e8 r0 e7) r0)))⟩
   ·refine sr (qt r0 (eqi (k:=.i64) (a:=helloPick wt ((helloFrom bs).1)) (b:=2) r0 r0) (tA (.bool (decide ((helloPick wt ((helloFrom bs).1))=2))) r0 (nn ?_)))
    refine cdd (p:=(helloPick wt ((helloFrom bs).1))=2) r0 (fun h6=>?_) (fun h6=>?_)
    ·refine rg (tm (pB tb) r0 (tn r0 (qt r0 (fa 0 fo29_0 r0) (sT (I 1) hs4 0 r0 one3 (fun w5 hs7=>?_)))))
     refine nl (bN (nN (sr (tm (I (helloPick wt ((helloFrom bs).1))) r0 (cL r0 (iPickBytes (m:=helloPick wt ((helloFrom bs).1)) (w:=_) (hm:=(by exact pick_bd _ _))) ?_)))))
     rintro _ w6 ⟨A3,c3,rfl,hs8⟩
     replace hs8:=hs7.call0 hs8
     refine tm (.tuple #[.slice A3 ([5,(helloPick wt ((helloFrom bs).1))].length) c3,.bool true]) r0 (qt r0 (xt 0 (v:=.slice A3 ([5,(helloPick wt ((helloFrom bs).1))].length) c3) r0 r0) (qt r0 (xt 1 (v:=.bool true) r0 r0) (tA (.slice A3 ([5,(helloPick wt ((helloFrom bs).1))].length) c3) r0 (tA (.bool true) r0 (nn (sq ?_))))))
     refine rg (tm (.slice A3 ([5,(helloPick wt ((helloFrom bs).1))].length) c3) r0 (tA (.slice A3 ([5,(helloPick wt ((helloFrom bs).1))].length) c3) r0 (nn (rt (fT (.slice A3 ([5,(helloPick wt ((helloFrom bs).1))].length) c3) r0 ?_)))))
     have e10:[5,(helloPick wt ((helloFrom bs).1))]=(sayHello wt bs).2:=by(rw[sayH_y (by assumption) (by assumption)]; done)
     have e11:=congrArg List.length e10
     have e12:1=(sayHello wt bs).1:=by(rw[sayH_y (by assumption) (by assumption)]) <;> ((simp[h3,h4,h5,h6]; done))
     exact⟨A3,c3,(slv r0 e11 r0),((hs8.pq [1,2] r0).cast (lc (congrArg (It.blk tb 29) (lc (congrArg (Value.int .i64) e12) (lc r0 (lc r0 (lc r0 r0))))) (lc (own_eq (g:=I) r0 e11 r0 e10) r0)))⟩
    ·refine sk (bN (nN (sr (tm (I (helloPick wt ((helloFrom bs).1))) r0 (cL r0 (iPickBytes (m:=helloPick wt ((helloFrom bs).1)) (w:=_) (hm:=(by exact pick_bd _ _))) ?_)))))
     rintro _ w7 ⟨A4,c4,rfl,hs9⟩
     replace hs9:=hs4.call0 hs9
     refine tm (.tuple #[.slice A4 ([5,(helloPick wt ((helloFrom bs).1))].length) c4,.bool true]) r0 (qt r0 (xt 0 (v:=.slice A4 ([5,(helloPick wt ((helloFrom bs).1))].length) c4) r0 r0) (qt r0 (xt 1 (v:=.bool true) r0 r0) (tA (.slice A4 ([5,(helloPick wt ((helloFrom bs).1))].length) c4) r0 (tA (.bool true) r0 (nn (sq ?_))))))
     refine rg (tm (.slice A4 ([5,(helloPick wt ((helloFrom bs).1))].length) c4) r0 (tA (.slice A4 ([5,(helloPick wt ((helloFrom bs).1))].length) c4) r0 (nn (rt (fT (.slice A4 ([5,(helloPick wt ((helloFrom bs).1))].length) c4) r0 ?_)))))
     have e13:[5,(helloPick wt ((helloFrom bs).1))]=(sayHello wt bs).2:=by(rw[sayH_y (by assumption) (by assumption)]; done)
     have e14:=congrArg List.length e13
     have e15:sx=(sayHello wt bs).1:=by(rw[sayH_y (by assumption) (by assumption)]) <;> ((simp[h3,h4,h5,h6,hst]; done))
     exact⟨A4,c4,(slv r0 e14 r0),((hs9.pq [0,2] r0).cast (lc (congrArg (It.blk tb 29) (lc (congrArg (Value.int .i64) e15) (lc r0 (lc r0 (lc r0 r0))))) (lc (own_eq (g:=I) r0 e14 r0 e13) r0)))⟩
set_option maxHeartbeats 8000000 in
theorem tkLogin {tb:Nat} {Awt:Option Addr} {cwt:Nat} {Alg:Option Addr} {clg:Nat} (sx:Int) (wt:List Int) (lg:List Lg) (to:List UInt8) {Abs:Option Addr} {cbs:Nat} (bs:List Int) (w:World) (htk:w.heap[tb]?=some (.cells [.int .i64 sx,.slice Awt wt.length cwt,.slice Alg lg.length clg,Str to].toArray 29 (0,0))) (hwt:Sl w [tb] 1 Awt wt.length cwt (wt.map I)) (hlg:Sl w [tb] 2 Alg lg.length clg (lg.flatMap gLogin)) (hlg_e: ∀ u∈lg,u.1.length≤9223372036854775807∧u.2.length≤9223372036854775807) (hbs:Sl w [tb] 1 Abs bs.length cbs (bs.map I)) (hst:sx=4) (hto:to=[]):Does Tryz.prog 49 [pB tb,.slice Abs bs.length cbs] w (fun v w'=>∃ Ar:Option Addr,∃ cr:Nat,v=.slice Ar ((sayLogin lg bs).2).length cr∧SH w w' [tb] [.blk tb 29 [I ((sayLogin lg bs).1),.slice Awt wt.length cwt,.slice Alg lg.length clg,Str to],.own Ar (((sayLogin lg bs).2).length) cr 3 1 (((sayLogin lg bs).2).map I)]):=by
 refine fE (N:=35) Tryz.func49 r0 (by kernel_rfl) r0 ?_
 have hwt_m:wt.length≤9223372036854775807:=Nat.le_trans hwt.cap hwt.capMax
 have hlg_m:lg.length≤9223372036854775807:=Nat.le_trans hlg.cap hlg.capMax
 have hs0:=SH.entry1 htk
 have hbs_m:bs.length≤9223372036854775807:=Nat.le_trans hbs.cap hbs.capMax
 refine sr (tA ns r0 (nx (tm (Z4 Abs bs cbs) r0 ?_)))
 refine cL r0 (iLoginFrom (Abs:=Abs) (cbs:=cbs) (bs:=bs) (w:=_) (hbs:=(hbs.up hs0 (fun _ h=>h) (by simp)))) ?_
 rintro _ w1 ⟨rfl,hs1⟩
 replace hs1:=hs0.call0 hs1
 refine tm (.tuple #[.agg #[Str ((loginFrom bs).1.1),Str ((loginFrom bs).1.2)],I ((loginFrom bs).2.1),.bool ((loginFrom bs).2.2)]) r0 (qt r0 (xt 0 (v:=.agg #[Str ((loginFrom bs).1.1),Str ((loginFrom bs).1.2)]) r0 r0) (qt r0 (xt 1 (v:=I ((loginFrom bs).2.1)) r0 r0) (qt r0 (xt 2 (v:=.bool ((loginFrom bs).2.2)) r0 r0) (al (v:=.agg #[Str [],Str []]) (cs:=[Str [],Str []]) hs1 tz51 r0 trivial r0 (fun b1 w2 hs2=>?_)))))
 refine sG [Str ((loginFrom bs).1.1),Str ((loginFrom bs).1.2)] hs2 1 r0 ag51 (fun w3 hs3=>?_)
 refine tA (I ((loginFrom bs).2.1)) r0 (tA (.bool ((loginFrom bs).2.2)) r0 (nn (sq (sr (tm (.bool ((loginFrom bs).2.2)) r0 ?_)))))
 refine qt r0 (nt (b:=(loginFrom bs).2.2) r0) (tm (.bool (!((loginFrom bs).2.2))) r0 ?_)
 refine spl (b:=!((loginFrom bs).2.2)) 17 r0 (fun h1=>?_) (fun h1=>?_)
 ·have h2:((loginFrom bs).2.2)=false:=by simpa using h1
  refine gt5 r0 (gt5 r0 (gt5 r0 (gt5 r0 (qt r0 (pt (v:=.bool true) r0 r0) (nn (cdt r0 ?_))))))
  refine sr (tA ns r0 (nn (rt (tR ?_))))
  refine fT ns r0 ?_
  have hs4:=hs3.nl [.own none (([]:List Int).length) 0 3 1 (([]:List Int).map I)] r0
  have e1:([]:List Int)=(sayLogin lg bs).2:=by(rw[sayL_no1 (by assumption)]; done)
  have e2:=congrArg List.length e1
  have e3:sx=(sayLogin lg bs).1:=by(rw[sayL_no1 (by assumption)]) <;> (exact hst)
  exact⟨none,0,(slv r0 e2 r0),((hs4.pq [0,2] r0).cast (lc (congrArg (It.blk tb 29) (lc (congrArg (Value.int .i64) e3) (lc r0 (lc r0 (lc r0 r0))))) (lc (own_eq (g:=I) r0 e2 r0 e1) r0)))⟩
 ·have h3:((loginFrom bs).2.2)=true:=by simpa using h1
  refine q ⟨_,rfl,rfl⟩ r0 r0 (mv (v:=I ((loginFrom bs).2.1)) r0) (q ⟨_,rfl,rfl⟩ r0 r0 (mv (v:=.slice Abs bs.length cbs) r0) (q ⟨_,rfl,rfl⟩ r0 r0 (lnA (n:=bs.length) sl22 r0) (q ⟨_,rfl,rfl⟩ r0 r0 (lss (k:=.i64) (a:=(loginFrom bs).2.1) (b:=(bs.length:Int)) r0 r0) (qt r0 (pf (v:=.bool (decide (((loginFrom bs).2.1)<(bs.length:Int)))) r0 r0) (nn ?_)))))
  refine cdd (p:=((loginFrom bs).2.1)<(bs.length:Int)) r0 (fun h4=>?_) (fun h4=>?_)
  ·refine sr (tA ns r0 (nn (rt (tR ?_))))
   refine fT ns r0 ?_
   have hs5:=hs3.nl [.own none (([]:List Int).length) 0 3 1 (([]:List Int).map I)] r0
   have e4:([]:List Int)=(sayLogin lg bs).2:=by(rw[sayL_no2 (by assumption)]; done)
   have e5:=congrArg List.length e4
   have e6:sx=(sayLogin lg bs).1:=by(rw[sayL_no2 (by assumption)]) <;> (exact hst)
   exact⟨none,0,(slv r0 e5 r0),((hs5.pq [0,2] r0).cast (lc (congrArg (It.blk tb 29) (lc (congrArg (Value.int .i64) e6) (lc r0 (lc r0 (lc r0 r0))))) (lc (own_eq (g:=I) r0 e5 r0 e4) r0)))⟩
  ·refine sk (nN (sq (rq (fun w'=>SH w w' [tb] [.blk tb 29 (Z0 sx Awt wt cwt Alg lg clg to),.blk b1 51 [Str ((loginFrom bs).1.1),Str ((loginFrom bs).1.2)]]) mixed (by kernel_rfl) hs3.drew (qA r0 (mv (v:=pB tb) r0) (qA r0 (nc r0) (qA r0 (fa 2 fo29_2 r0) (qB r0 (fun hsq=>lD (.slice Alg lg.length clg) hsq 0 r0 one27) ?_)))))))
   refine qB r0 (fun hsq=>lG [Str ((loginFrom bs).1.1),Str ((loginFrom bs).1.2)] hsq 1 r0 ag51) (qc (.bool (fitsL lg ((loginFrom bs).1.1) ((loginFrom bs).1.2))) trivial r0 (fun wq hsq=>(iLoginFits (Alg:=Alg) (clg:=clg) (lg:=lg) (lu:=(loginFrom bs).1.1) (lw:=(loginFrom bs).1.2) (w:=_) (hlg:=(hlg.up hsq (fun _ h=>h) (by simp))) (hlg_e:=hlg_e) (hlu_n:=(by(have hlk:=loginOk_fit (loginFrom_ok (by assumption:(loginFrom bs).2.2=true)).2.1; omega))) (hlw_n:=(by(have hlk:=loginOk_fit (loginFrom_ok (by assumption:(loginFrom bs).2.2=true)).2.1; omega)))).mono (fun v w' h=>⟨h.1,by simpa using hsq.call0 h.2⟩)) (qA r0 (asg (v:=.bool (fitsL lg ((loginFrom bs).1.1) ((loginFrom bs).1.2))) r0) (qn (fun w4 hs6=>?_))))
   refine nN (sq (sr (tm (.bool (fitsL lg ((loginFrom bs).1.1) ((loginFrom bs).1.2))) r0 (nn ?_))))
   refine cd (b:=fitsL lg ((loginFrom bs).1.1) ((loginFrom bs).1.2)) r0 (fun h5=>?_) (fun h5=>?_)
   ·refine rg (tm (pB tb) r0 (tn r0 (qt r0 (fa 0 fo29_0 r0) (sT (I 2) hs6 0 r0 one3 (fun w5 hs7=>?_)))))
    refine nx (tm (.bool (fitsL lg ((loginFrom bs).1.1) ((loginFrom bs).1.2))) r0 (cL r0 (iLoginReply (f:=(fitsL lg ((loginFrom bs).1.1) ((loginFrom bs).1.2))) (w:=_)) ?_))
    rintro _ w6 ⟨A1,c1,rfl,hs8⟩
    replace hs8:=hs7.call0 hs8
    refine tA (.slice A1 ((lrB (fitsL lg ((loginFrom bs).1.1) ((loginFrom bs).1.2))).length) c1) r0 (nn (rt (fT (.slice A1 ((lrB (fitsL lg ((loginFrom bs).1.1) ((loginFrom bs).1.2))).length) c1) r0 ?_)))
    have e7:lrB (fitsL lg ((loginFrom bs).1.1) ((loginFrom bs).1.2))=(sayLogin lg bs).2:=by(rw[sayL_y (by assumption) (by assumption)]; done)
    have e8:=congrArg List.length e7
    have e9:2=(sayLogin lg bs).1:=by(rw[sayL_y (by assumption) (by assumption)]) <;> ((simp[h3,h4,h5]; done))
    exact⟨A1,c1,(slv r0 e8 r0),((hs8.pq [1,2] r0).cast (lc (congrArg (It.blk tb 29) (lc (congrArg (Value.int .i64) e9) (lc r0 (lc r0 (lc r0 r0))))) (lc (own_eq (g:=I) r0 e8 r0 e7) r0)))⟩
   ·refine sk (nN (sr (tm (.bool (fitsL lg ((loginFrom bs).1.1) ((loginFrom bs).1.2))) r0 (cL r0 (iLoginReply (f:=(fitsL lg ((loginFrom bs).1.1) ((loginFrom bs).1.2))) (w:=_)) ?_))))
    rintro _ w7 ⟨A2,c2,rfl,hs9⟩
    replace hs9:=hs6.call0 hs9
    refine tA (.slice A2 ((lrB (fitsL lg ((loginFrom bs).1.1) ((loginFrom bs).1.2))).length) c2) r0 (nn (rt (fT (.slice A2 ((lrB (fitsL lg ((loginFrom bs).1.1) ((loginFrom bs).1.2))).length) c2) r0 ?_)))
    have e10:lrB (fitsL lg ((loginFrom bs).1.1) ((loginFrom bs).1.2))=(sayLogin lg bs).2:=by(rw[sayL_y (by assumption) (by assumption)]; done)
    have e11:=congrArg List.length e10
    have e12:sx=(sayLogin lg bs).1:=by(rw[sayL_y (by assumption) (by assumption)]) <;> ((simp[h3,h4,h5,hst]; done))
    exact⟨A2,c2,(slv r0 e11 r0),((hs9.pq [0,2] r0).cast (lc (congrArg (It.blk tb 29) (lc (congrArg (Value.int .i64) e12) (lc r0 (lc r0 (lc r0 r0))))) (lc (own_eq (g:=I) r0 e11 r0 e10) r0)))⟩
theorem tkRequest {tb:Nat} {Awt:Option Addr} {cwt:Nat} {Alg:Option Addr} {clg:Nat} (sx:Int) (wt:List Int) (lg:List Lg) (to:List UInt8) {Abs:Option Addr} {cbs:Nat} (bs:List Int) (w:World) (htk:w.heap[tb]?=some (.cells [.int .i64 sx,.slice Awt wt.length cwt,.slice Alg lg.length clg,Str to].toArray 29 (0,0))) (hwt:Sl w [tb] 1 Awt wt.length cwt (wt.map I)) (hlg:Sl w [tb] 2 Alg lg.length clg (lg.flatMap gLogin)) (hlg_e: ∀ u∈lg,u.1.length≤9223372036854775807∧u.2.length≤9223372036854775807) (hbs:Sl w [tb] 1 Abs bs.length cbs (bs.map I)) (hst:sx=4) (hto:to=[]) (hGp:VarP Tryz.prog w [tb] "internal/strconv.uint64pow10" isPow):Does Tryz.prog 50 [pB tb,.slice Abs bs.length cbs] w (fun v w'=>∃ Ar:Option Addr,∃ cr:Nat,v=.slice Ar ((sayReq bs).2.2).length cr∧SH w w' [tb] [.blk tb 29 [I ((sayReq bs).1),.slice Awt wt.length cwt,.slice Alg lg.length clg,Str ((sayReq bs).2.1)],.own Ar (((sayReq bs).2.2).length) cr 3 1 (((sayReq bs).2.2).map I)]):=by
 refine fE (N:=45) Tryz.func50 r0 (by kernel_rfl) r0 ?_
 have hwt_m:wt.length≤9223372036854775807:=Nat.le_trans hwt.cap hwt.capMax
 have hlg_m:lg.length≤9223372036854775807:=Nat.le_trans hlg.cap hlg.capMax
 have hs0:=SH.entry1 htk
 have hbs_m:bs.length≤9223372036854775807:=Nat.le_trans hbs.cap hbs.capMax
 refine sr (tA ns r0 (nx (tm (Z4 Abs bs cbs) r0 ?_)))
 refine cL r0 (iRequestFrom (Abs:=Abs) (cbs:=cbs) (bs:=bs) (w:=_) (hbs:=(hbs.up hs0 (fun _ h=>h) (by simp)))) ?_
 rintro _ w1 ⟨Aq1,cq1,rfl,hs1⟩
 replace hs1:=hs0.call0 hs1
 refine tm (.tuple #[.agg #[I ((reqFrom bs).1.1),I ((reqFrom bs).1.2.1),.slice Aq1 (((reqFrom bs).1.2.2.1).length) cq1,(Z15 bs),(Z17 bs)],I ((reqFrom bs).2.1),.bool ((reqFrom bs).2.2)]) r0 (qt r0 (xt 0 (v:=.agg #[I ((reqFrom bs).1.1),I ((reqFrom bs).1.2.1),.slice Aq1 (((reqFrom bs).1.2.2.1).length) cq1,(Z15 bs),(Z17 bs)]) r0 r0) (qt r0 (xt 1 (v:=I ((reqFrom bs).2.1)) r0 r0) (qt r0 (xt 2 (v:=.bool ((reqFrom bs).2.2)) r0 r0) (al (v:=.agg #[I 0,I 0,ns,Str [],I 0]) (cs:=[I 0,I 0,ns,Str [],I 0]) hs1 tz45 r0 trivial r0 (fun b1 w2 hs2=>?_)))))
 refine sG [I ((reqFrom bs).1.1),I ((reqFrom bs).1.2.1),.slice Aq1 (((reqFrom bs).1.2.2.1).length) cq1,(Z15 bs),(Z17 bs)] hs2 2 r0 ag45 (fun w3 hs3=>?_)
 refine tA (I ((reqFrom bs).2.1)) r0 (tA (.bool ((reqFrom bs).2.2)) r0 (nn (sq (sr (tm (.bool ((reqFrom bs).2.2)) r0 ?_)))))
 refine qt r0 (nt (b:=(reqFrom bs).2.2) r0) (tm (.bool (!((reqFrom bs).2.2))) r0 ?_)
 refine spl (b:=!((reqFrom bs).2.2)) 19 r0 (fun h1=>?_) (fun h1=>?_)
 ·have h2:((reqFrom bs).2.2)=false:=by simpa using h1
  refine gt5 r0 (gt5 r0 (gt5 r0 (gt5 r0 (qt r0 (pt (v:=.bool true) r0 r0) (nn (cdt r0 ?_))))))
  refine sr (tA ns r0 (nn (rt (tR ?_))))
  refine fT ns r0 ?_
  have hs4:=hs3.nl [.own none (([]:List Int).length) 0 3 1 (([]:List Int).map I)] r0
  have e1:([]:List Int)=(sayReq bs).2.2:=by(rw[sayR_no1 (by assumption)]; done)
  have e2:=congrArg List.length e1
  have e3:sx=(sayReq bs).1:=by(rw[sayR_no1 (by assumption)]) <;> (exact hst)
  have e4:to=(sayReq bs).2.1:=by(rw[sayR_no1 (by assumption)]) <;> (exact hto)
  exact⟨none,0,(slv r0 e2 r0),((hs4.pq [0,3] r0).cast (lc (congrArg (It.blk tb 29) (lc (congrArg (Value.int .i64) e3) (lc r0 (lc r0 (lc (congrArg Str e4) r0))))) (lc (own_eq (g:=I) r0 e2 r0 e1) r0)))⟩
 ·have h3:((reqFrom bs).2.2)=true:=by simpa using h1
  refine q ⟨_,rfl,rfl⟩ r0 r0 (mv (v:=I ((reqFrom bs).2.1)) r0) (q ⟨_,rfl,rfl⟩ r0 r0 (mv (v:=.slice Abs bs.length cbs) r0) (q ⟨_,rfl,rfl⟩ r0 r0 (lnA (n:=bs.length) sl22 r0) (q ⟨_,rfl,rfl⟩ r0 r0 (lss (k:=.i64) (a:=(reqFrom bs).2.1) (b:=(bs.length:Int)) r0 r0) (qt r0 (pf (v:=.bool (decide (((reqFrom bs).2.1)<(bs.length:Int)))) r0 r0) (nn ?_)))))
  refine cdd (p:=((reqFrom bs).2.1)<(bs.length:Int)) r0 (fun h4=>?_) (fun h4=>?_)
  ·refine sr (tA ns r0 (nn (rt (tR ?_))))
   refine fT ns r0 ?_
   have hs5:=hs3.nl [.own none (([]:List Int).length) 0 3 1 (([]:List Int).map I)] r0
   have e5:([]:List Int)=(sayReq bs).2.2:=by(rw[sayR_no2 (by assumption)]; done)
   have e6:=congrArg List.length e5
   have e7:sx=(sayReq bs).1:=by(rw[sayR_no2 (by assumption)]) <;> (exact hst)
   have e8:to=(sayReq bs).2.1:=by(rw[sayR_no2 (by assumption)]) <;> (exact hto)
   exact⟨none,0,(slv r0 e6 r0),((hs5.pq [0,3] r0).cast (lc (congrArg (It.blk tb 29) (lc (congrArg (Value.int .i64) e7) (lc r0 (lc r0 (lc (congrArg Str e8) r0))))) (lc (own_eq (g:=I) r0 e6 r0 e5) r0)))⟩
  ·refine sk (nN (sr (tA (I 7) r0 (nn (sq ?_)))))
   refine sr (qt r0 (fa 0 fo45_0 r0) (qt r0 (lD (I ((reqFrom bs).1.1)) hs3 2 r0 one3) (qt r0 (eqi (k:=.i64) (a:=(reqFrom bs).1.1) (b:=1) r0 r0) (nn ?_))))
   refine cdd (p:=((reqFrom bs).1.1)=1) r0 (fun h5=>?_) (fun h5=>?_)
   ·refine sr (tA (I 0) r0 (nx (tm (pB tb) r0 ?_)))
    refine tn r0 (qt r0 (fa 0 fo29_0 r0) (sT (I 3) hs3 0 r0 one3 (fun w4 hs6=>?_)))
    refine nn (rg (tm (pB tb) r0 (qt r0 (fa 1 fo45_1 r0) (qt r0 (lG [I ((reqFrom bs).1.2.1),.slice Aq1 (((reqFrom bs).1.2.2.1).length) cq1,(Z15 bs),(Z17 bs)] hs6 1 r0 ag43) (cL r0 (iAddressText (ak:=(reqFrom bs).1.2.1) (Aaq:=Aq1) (caq:=cq1) (aq:=(reqFrom bs).1.2.2.1) (an:=(reqFrom bs).1.2.2.2.1) (apt:=(reqFrom bs).1.2.2.2.2) (w:=_) (haq:=(hs6.sl0 0 r0)) (han_n:=(by(have hrn:=reqFrom_nm bs; omega))) (hok:=(by exact(reqFrom_ok (by assumption)).1)) (hGp:=(hGp.up hs6 (fun _ h=>h) (by simp)))) ?_)))))
    rintro _ w5 ⟨rfl,hs7⟩
    replace hs7:=hs6.call0 hs7
    refine tn r0 (qt r0 (fa 3 fo29_3 r0) (sT (Str (hostT ((reqFrom bs).1.2.1) ((reqFrom bs).1.2.2.1) ((reqFrom bs).1.2.2.2.1)++[58]++Lib.itoa ((reqFrom bs).1.2.2.2.2))) hs7 2 r0 one9 (fun w6 hs8=>?_)))
    refine nx (tm (I 0) r0 (qt r0 (fa 1 fo45_1 r0) (qt r0 (lG [I ((reqFrom bs).1.2.1),.slice Aq1 (((reqFrom bs).1.2.2.1).length) cq1,(Z15 bs),(Z17 bs)] hs8 1 r0 ag43) (cL r0 (iReplyBytes (c:=0) (ak:=(reqFrom bs).1.2.1) (Aaq:=Aq1) (caq:=cq1) (aq:=(reqFrom bs).1.2.2.1) (an:=(reqFrom bs).1.2.2.2.1) (apt:=(reqFrom bs).1.2.2.2.2) (w:=_) (haq:=(hs8.sl0 0 r0)) (han_n:=(by(have hrn:=reqFrom_nm bs; omega)))) ?_))))
    rintro _ w7 ⟨A1,c1,rfl,hs9⟩
    replace hs9:=hs8.call0 hs9
    refine tm (.tuple #[.slice A1 (((replyP 0 ((reqFrom bs).1.2.1) ((reqFrom bs).1.2.2.1) ((reqFrom bs).1.2.2.2.1) ((reqFrom bs).1.2.2.2.2)).1).length) c1,.bool ((replyP 0 ((reqFrom bs).1.2.1) ((reqFrom bs).1.2.2.1) ((reqFrom bs).1.2.2.2.1) ((reqFrom bs).1.2.2.2.2)).2)]) r0 (qt r0 (xt 0 (v:=.slice A1 (((replyP 0 ((reqFrom bs).1.2.1) ((reqFrom bs).1.2.2.1) ((reqFrom bs).1.2.2.2.1) ((reqFrom bs).1.2.2.2.2)).1).length) c1) r0 r0) (qt r0 (xt 1 (v:=.bool ((replyP 0 ((reqFrom bs).1.2.1) ((reqFrom bs).1.2.2.1) ((reqFrom bs).1.2.2.2.1) ((reqFrom bs).1.2.2.2.2)).2)) r0 r0) (tA (.slice A1 (((replyP 0 ((reqFrom bs).1.2.1) ((reqFrom bs).1.2.2.1) ((reqFrom bs).1.2.2.2.1) ((reqFrom bs).1.2.2.2.2)).1).length) c1) r0 (tA (.bool ((replyP 0 ((reqFrom bs).1.2.1) ((reqFrom bs).1.2.2.1) ((reqFrom bs).1.2.2.2.1) ((reqFrom bs).1.2.2.2.2)).2)) r0 (nn ?_)))))
    have hs10:=hs9.pq [2,3] r0
    refine sr (tm (.slice A1 (((replyP 0 ((reqFrom bs).1.2.1) ((reqFrom bs).1.2.2.1) ((reqFrom bs).1.2.2.2.1) ((reqFrom bs).1.2.2.2.2)).1).length) c1) r0 (tA (.slice A1 (((replyP 0 ((reqFrom bs).1.2.1) ((reqFrom bs).1.2.2.1) ((reqFrom bs).1.2.2.2.1) ((reqFrom bs).1.2.2.2.2)).1).length) c1) r0 (nn (rt (fT (.slice A1 (((replyP 0 ((reqFrom bs).1.2.1) ((reqFrom bs).1.2.2.1) ((reqFrom bs).1.2.2.2.1) ((reqFrom bs).1.2.2.2.2)).1).length) c1) r0 ?_)))))
    have e9:(replyP 0 ((reqFrom bs).1.2.1) ((reqFrom bs).1.2.2.1) ((reqFrom bs).1.2.2.2.1) ((reqFrom bs).1.2.2.2.2)).1=(sayReq bs).2.2:=by(rw[sayR_c (by assumption) (reqFrom_n (by assumption) (by assumption)) (by assumption)]; done)
    have e10:=congrArg List.length e9
    have e11:3=(sayReq bs).1:=by(rw[sayR_c (by assumption) (reqFrom_n (by assumption) (by assumption)) (by assumption)]) <;> (first | done | exact hst | exact hto | exact addrT_y (reqFrom_ok (by assumption)).1)
    have e12:hostT ((reqFrom bs).1.2.1) ((reqFrom bs).1.2.2.1) ((reqFrom bs).1.2.2.2.1)++[58]++Lib.itoa ((reqFrom bs).1.2.2.2.2)=(sayReq bs).2.1:=by(rw[sayR_c (by assumption) (reqFrom_n (by assumption) (by assumption)) (by assumption)]) <;> (exact addrT_y (reqFrom_ok (by assumption)).1)
    exact⟨A1,c1,(slv r0 e10 r0),(hs10.cast (lc (congrArg (It.blk tb 29) (lc (congrArg (Value.int .i64) e11) (lc r0 (lc r0 (lc (congrArg Str e12) r0))))) (lc (own_eq (g:=I) r0 e10 r0 e9) r0)))⟩
   ·refine sk (nN (sr (tm (I 7) r0 (qt r0 (fa 1 fo45_1 r0) (qt r0 (lG [I ((reqFrom bs).1.2.1),.slice Aq1 (((reqFrom bs).1.2.2.1).length) cq1,(Z15 bs),(Z17 bs)] hs3 2 r0 ag43) (cL r0 (iReplyBytes (c:=7) (ak:=(reqFrom bs).1.2.1) (Aaq:=Aq1) (caq:=cq1) (aq:=(reqFrom bs).1.2.2.1) (an:=(reqFrom bs).1.2.2.2.1) (apt:=(reqFrom bs).1.2.2.2.2) (w:=_) (haq:=(hs3.sl0 1 r0)) (han_n:=(by(have hrn:=reqFrom_nm bs; omega)))) ?_))))))
    rintro _ w8 ⟨A2,c2,rfl,hs11⟩
    replace hs11:=hs3.call0 hs11
    refine tm (.tuple #[.slice A2 (((replyP 7 ((reqFrom bs).1.2.1) ((reqFrom bs).1.2.2.1) ((reqFrom bs).1.2.2.2.1) ((reqFrom bs).1.2.2.2.2)).1).length) c2,.bool ((replyP 7 ((reqFrom bs).1.2.1) ((reqFrom bs).1.2.2.1) ((reqFrom bs).1.2.2.2.1) ((reqFrom bs).1.2.2.2.2)).2)]) r0 (qt r0 (xt 0 (v:=.slice A2 (((replyP 7 ((reqFrom bs).1.2.1) ((reqFrom bs).1.2.2.1) ((reqFrom bs).1.2.2.2.1) ((reqFrom bs).1.2.2.2.2)).1).length) c2) r0 r0) (qt r0 (xt 1 (v:=.bool ((replyP 7 ((reqFrom bs).1.2.1) ((reqFrom bs).1.2.2.1) ((reqFrom bs).1.2.2.2.1) ((reqFrom bs).1.2.2.2.2)).2)) r0 r0) (tA (.slice A2 (((replyP 7 ((reqFrom bs).1.2.1) ((reqFrom bs).1.2.2.1) ((reqFrom bs).1.2.2.2.1) ((reqFrom bs).1.2.2.2.2)).1).length) c2) r0 (tA (.bool ((replyP 7 ((reqFrom bs).1.2.1) ((reqFrom bs).1.2.2.1) ((reqFrom bs).1.2.2.2.1) ((reqFrom bs).1.2.2.2.2)).2)) r0 (nn ?_)))))
    have hs12:=hs11.pq [0,3] r0
    refine sr (tm (.slice A2 (((replyP 7 ((reqFrom bs).1.2.1) ((reqFrom bs).1.2.2.1) ((reqFrom bs).1.2.2.2.1) ((reqFrom bs).1.2.2.2.2)).1).length) c2) r0 (tA (.slice A2 (((replyP 7 ((reqFrom bs).1.2.1) ((reqFrom bs).1.2.2.1) ((reqFrom bs).1.2.2.2.1) ((reqFrom bs).1.2.2.2.2)).1).length) c2) r0 (nn (rt (fT (.slice A2 (((replyP 7 ((reqFrom bs).1.2.1) ((reqFrom bs).1.2.2.1) ((reqFrom bs).1.2.2.2.1) ((reqFrom bs).1.2.2.2.2)).1).length) c2) r0 ?_)))))
    have e13:(replyP 7 ((reqFrom bs).1.2.1) ((reqFrom bs).1.2.2.1) ((reqFrom bs).1.2.2.2.1) ((reqFrom bs).1.2.2.2.2)).1=(sayReq bs).2.2:=by(rw[sayR_n (by assumption) (reqFrom_n (by assumption) (by assumption)) (by assumption)]; done)
    have e14:=congrArg List.length e13
    have e15:sx=(sayReq bs).1:=by(rw[sayR_n (by assumption) (reqFrom_n (by assumption) (by assumption)) (by assumption)]) <;> (exact hst)
    have e16:to=(sayReq bs).2.1:=by(rw[sayR_n (by assumption) (reqFrom_n (by assumption) (by assumption)) (by assumption)]) <;> (exact hto)
    exact⟨A2,c2,(slv r0 e14 r0),(hs12.cast (lc (congrArg (It.blk tb 29) (lc (congrArg (Value.int .i64) e15) (lc r0 (lc r0 (lc (congrArg Str e16) r0))))) (lc (own_eq (g:=I) r0 e14 r0 e13) r0)))⟩
theorem iTalkSay (sx:Int) {Awt:Option Addr} {cwt:Nat} (wt:List Int) {Alg:Option Addr} {clg:Nat} (lg:List (List UInt8×List UInt8)) (to:List UInt8) {Abs:Option Addr} {cbs:Nat} (bs:List Int) (w:World) (hwt:Sl w [] 1 Awt wt.length cwt (wt.map I)) (hlg:Sl w [] 2 Alg lg.length clg (lg.flatMap gLogin)) (hlg_e: ∀ u∈lg,u.1.length≤9223372036854775807∧u.2.length≤9223372036854775807) (hto_n:to.length≤1099511627776) (hbs:Sl w [] 1 Abs bs.length cbs (bs.map I)) (hGp:VarP Tryz.prog w [] "internal/strconv.uint64pow10" isPow) (hEr:VarP Tryz.prog w [] "strconv.ErrRange" isIfc) (hEs:VarP Tryz.prog w [] "strconv.ErrSyntax" isIfc):Does Tryz.prog 15 [.agg #[I sx,.slice Awt wt.length cwt,.slice Alg lg.length clg,Str to],.slice Abs bs.length cbs] w (fun v w'=>∃ Awr:Option Addr,∃ cwr:Nat,∃ Alr:Option Addr,∃ clr:Nat,∃ Ayr:Option Addr,∃ cyr:Nat,v=.tuple #[.agg #[.int .i64 ((talkSay sx wt lg to bs).1.1),.slice Awr ((talkSay sx wt lg to bs).1.2.1).length cwr,.slice Alr ((talkSay sx wt lg to bs).1.2.2.1).length clr,Str ((talkSay sx wt lg to bs).1.2.2.2)],.slice Ayr ((talkSay sx wt lg to bs).2.1).length cyr,.bool ((talkSay sx wt lg to bs).2.2)]∧SH w w' [] [.own Awr (((talkSay sx wt lg to bs).1.2.1).length) cwr 3 1 (((talkSay sx wt lg to bs).1.2.1).map I),.own Alr (((talkSay sx wt lg to bs).1.2.2.1).length) clr 51 2 (((talkSay sx wt lg to bs).1.2.2.1).flatMap gLogin),.own Ayr (((talkSay sx wt lg to bs).2.1).length) cyr 3 1 (((talkSay sx wt lg to bs).2.1).map I)]):=by
 refine fE (N:=44) Tryz.func15 r0 (by kernel_rfl) r0 ?_
 have hs0:SH w w [] []:=SH.refl w []
 have hwt_m:wt.length≤9223372036854775807:=Nat.le_trans hwt.cap hwt.capMax
 have hlg_m:lg.length≤9223372036854775807:=Nat.le_trans hlg.cap hlg.capMax
 have hbs_m:bs.length≤9223372036854775807:=Nat.le_trans hbs.cap hbs.capMax
 refine sr (bx (v:=.agg #[I sx,(Z8 Awt wt cwt),(Z13 Alg lg clg),Str to]) (cs:=(Z0 sx Awt wt cwt Alg lg clg to)) hs0 r0 r0 trivial r0 (fun b1 w1 hs1=>?_))
 refine al (v:=.agg #[I 0,ns,ns,Str []]) (cs:=[I 0,ns,ns,Str []]) hs1 tz29 r0 trivial r0 (fun b2 w2 hs2=>?_)
 refine tA ns r0 (tA (.bool false) r0 (nn (sq (sr (qt r0 (lG (Z0 sx Awt wt cwt Alg lg clg to) hs2 0 r0 ag29) ?_)))))
 refine cL r0 (iTalkValid (sx:=sx) (Awt:=Awt) (cwt:=cwt) (wt:=wt) (Alg:=Alg) (clg:=clg) (lg:=lg) (to:=to) (w:=_) (hwt:=(hwt.up0 hs2)) (hlg:=(hlg.up0 hs2)) (hlg_e:=hlg_e) (hto_n:=(by(omega))) (hGp:=(hGp.up0 hs2)) (hEr:=(hEr.up0 hs2)) (hEs:=(hEs.up0 hs2))) ?_
 rintro _ w3 ⟨rfl,hs3⟩
 replace hs3:=hs2.call0 hs3
 refine qt r0 (nt (b:=talkOk sx wt lg to) r0) (tm (.bool (!(talkOk sx wt lg to))) r0 ?_)
 refine spl (b:=!(talkOk sx wt lg to)) 13 r0 (fun h1=>?_) (fun h1=>?_)
 ·have h2:(talkOk sx wt lg to)=false:=by simpa using h1
  refine gt5 r0 (gt5 r0 (gt5 r0 (qt r0 (pt (v:=.bool true) r0 r0) (tm (.bool true) r0 (gt5 r0 (gt5 r0 (gt5 r0 ?_)))))))
  refine qt r0 (pt (v:=.bool true) r0 r0) (nn (cdt r0 (sr (qt r0 (bdv (v:=.agg #[I 0,ns,ns,Str []]) [] r0 (fun _=>by kernel_rfl)) (sG [I 0,ns,ns,Str []] hs3 1 r0 ag29 (fun w4 hs4=>?_))))))
  refine tA ns r0 (tA (.bool false) r0 (nn (rt (tR ?_))))
  refine fret (v:=.tuple #[.agg #[I 0,ns,ns,Str []],ns,.bool false]) (resC hs4 1 r0 r0 ag29 r0 (.tmp (.tmp .nil))) r0 ?_
  have hs5:=hs4.nl [.own none (([]:List Int).length) 0 3 1 (([]:List Int).map I)] r0
  have hs6:SH w w4 [] [.blk b1 29 (Z0 sx Awt wt cwt Alg lg clg to),(Z5 b2),.own none (([]:List Int).length) 0 3 1 (([]:List Int).map I),.own none (([]:List (List UInt8×List UInt8)).length) 0 51 2 (([]:List (List UInt8×List UInt8)).flatMap gLogin)]:=SH.nils (by intro i hi; simp at hi; subst hi; exact nilItemF) hs5
  have hs7:=hs6.nl [.own none (([]:List Int).length) 0 3 1 (([]:List Int).map I)] r0
  have e1:talkSay sx wt lg to bs=((0,([]:List Int),([]:List (List UInt8×List UInt8)),[]),([]:List Int),false):=by exact talkSay_no (.inl (by assumption))
  have e2:=pj11 e1
  have e3:=pj121 e1
  have e4:=congrArg List.length e3
  have e5:=pj1221 e1
  have e6:=congrArg List.length e5
  have e7:=pj1222 e1
  have e8:=pj21 e1
  have e9:=congrArg List.length e8
  have e10:=pj22 e1
  exact⟨none,0,none,0,none,0,(tup3 (aggv (lc (congrArg (Value.int .i64) e2) (lc (slv r0 e4 r0) (lc (slv r0 e6 r0) (lc (congrArg (Str) e7) r0))))) (slv r0 e9 r0) (congrArg (Value.bool) e10)),((hs7.pq [2,3,4] r0).cast (lc (own_eq (g:=I) r0 e4 r0 e3) (lc (own_eqf (g:=gLogin) r0 e6 r0 e5) (lc (own_eq (g:=I) r0 e9 r0 e8) r0))))⟩
 ·have h3:(talkOk sx wt lg to)=true:=by simpa using h1
  refine q ⟨_,rfl,rfl⟩ r0 r0 (mv (v:=.slice Abs bs.length cbs) r0) (cl ⟨_,rfl,rfl⟩ r0 (iBytesValid (Azs:=Abs) (czs:=cbs) (zs:=bs) (w:=_) (hzs:=(hbs.up0 hs3))) ?_)
  rintro _ w5 ⟨rfl,hs8⟩
  replace hs8:=hs3.call0 hs8
  refine q ⟨_,rfl,rfl⟩ r0 r0 (nt (b:=isBytes bs) r0) (qt r0 (pf (v:=.bool (!(isBytes bs))) r0 r0) (tm (.bool (!(isBytes bs))) r0 ?_))
  refine spl (b:=!(isBytes bs)) 18 r0 (fun h4=>?_) (fun h4=>?_)
  ·have h5:(isBytes bs)=false:=by simpa using h4
   refine gt5 r0 (gt5 r0 (gt5 r0 (qt r0 (pt (v:=.bool true) r0 r0) (nn (cdt r0 (sq ?_))))))
   refine rg (qt r0 (bdv (v:=.agg #[I 0,ns,ns,Str []]) [] r0 (fun _=>by kernel_rfl)) (sG [I 0,ns,ns,Str []] hs8 1 r0 ag29 (fun w6 (hs9:SH w w6 [] [.blk b1 29 (Z0 sx Awt wt cwt Alg lg clg to),(Z5 b2)])=>?_)))
   refine tA ns r0 (tA (.bool false) r0 (nn (rt (tR ?_))))
   refine fret (v:=.tuple #[.agg #[I 0,ns,ns,Str []],ns,.bool false]) (resC hs9 1 r0 r0 ag29 r0 (.tmp (.tmp .nil))) r0 ?_
   have hs10:=hs9.nl [.own none (([]:List Int).length) 0 3 1 (([]:List Int).map I)] r0
   have hs11:=hs10.nl [.own none (([]:List (List UInt8×List UInt8)).length) 0 51 2 (([]:List (List UInt8×List UInt8)).flatMap gLogin)] r0
   have hs12:SH w w6 [] [.blk b1 29 (Z0 sx Awt wt cwt Alg lg clg to),(Z5 b2),.own none (([]:List Int).length) 0 3 1 (([]:List Int).map I),.own none (([]:List (List UInt8×List UInt8)).length) 0 51 2 (([]:List (List UInt8×List UInt8)).flatMap gLogin),.own none (([]:List Int).length) 0 3 1 (([]:List Int).map I)]:=SH.nils (by intro i hi; simp at hi; subst hi; exact nilItem) hs11
   have e11:talkSay sx wt lg to bs=((0,([]:List Int),([]:List (List UInt8×List UInt8)),[]),([]:List Int),false):=by exact talkSay_no (.inr (.inl (by assumption)))
   have e12:=pj11 e11
   have e13:=pj121 e11
   have e14:=congrArg List.length e13
   have e15:=pj1221 e11
   have e16:=congrArg List.length e15
   have e17:=pj1222 e11
   have e18:=pj21 e11
   have e19:=congrArg List.length e18
   have e20:=pj22 e11
   exact⟨none,0,none,0,none,0,(tup3 (aggv (lc (congrArg (Value.int .i64) e12) (lc (slv r0 e14 r0) (lc (slv r0 e16 r0) (lc (congrArg (Str) e17) r0))))) (slv r0 e19 r0) (congrArg (Value.bool) e20)),((hs12.pq [2,3,4] r0).cast (lc (own_eq (g:=I) r0 e14 r0 e13) (lc (own_eqf (g:=gLogin) r0 e16 r0 e15) (lc (own_eq (g:=I) r0 e19 r0 e18) r0))))⟩
  ·have h6:(isBytes bs)=true:=by simpa using h4
   refine q ⟨_,rfl,rfl⟩ r0 r0 (fa 0 fo29_0 r0) (q ⟨_,rfl,rfl⟩ r0 r0 (lD (I sx) hs8 0 r0 one3) (q ⟨_,rfl,rfl⟩ r0 r0 (geq (k:=.i64) (a:=sx) (b:=3) r0 r0) (qt r0 (pf (v:=.bool (decide ((3:Int)≤sx))) r0 r0) (nn ?_))))
   refine cdd (p:=(3:Int)≤sx) r0 (fun h7=>?_) (fun h7=>?_)
   ·refine sr (qt r0 (bdv (v:=.agg #[I 0,ns,ns,Str []]) [] r0 (fun _=>by kernel_rfl)) (sG [I 0,ns,ns,Str []] hs8 1 r0 ag29 (fun w7 hs13=>?_)))
    refine tA ns r0 (tA (.bool false) r0 (nn (rt (tR ?_))))
    refine fret (v:=.tuple #[.agg #[I 0,ns,ns,Str []],ns,.bool false]) (resC hs13 1 r0 r0 ag29 r0 (.tmp (.tmp .nil))) r0 ?_
    have hs14:=hs13.nl [.own none (([]:List Int).length) 0 3 1 (([]:List Int).map I)] r0
    have hs15:SH w w7 [] [.blk b1 29 (Z0 sx Awt wt cwt Alg lg clg to),(Z5 b2),.own none (([]:List Int).length) 0 3 1 (([]:List Int).map I),.own none (([]:List (List UInt8×List UInt8)).length) 0 51 2 (([]:List (List UInt8×List UInt8)).flatMap gLogin)]:=SH.nils (by intro i hi; simp at hi; subst hi; exact nilItemF) hs14
    have hs16:=hs15.nl [.own none (([]:List Int).length) 0 3 1 (([]:List Int).map I)] r0
    have e21:talkSay sx wt lg to bs=((0,([]:List Int),([]:List (List UInt8×List UInt8)),[]),([]:List Int),false):=by exact talkSay_no (.inr (.inr (by assumption)))
    have e22:=pj11 e21
    have e23:=pj121 e21
    have e24:=congrArg List.length e23
    have e25:=pj1221 e21
    have e26:=congrArg List.length e25
    have e27:=pj1222 e21
    have e28:=pj21 e21
    have e29:=congrArg List.length e28
    have e30:=pj22 e21
    exact⟨none,0,none,0,none,0,(tup3 (aggv (lc (congrArg (Value.int .i64) e22) (lc (slv r0 e24 r0) (lc (slv r0 e26 r0) (lc (congrArg (Str) e27) r0))))) (slv r0 e29 r0) (congrArg (Value.bool) e30)),((hs16.pq [2,3,4] r0).cast (lc (own_eq (g:=I) r0 e24 r0 e23) (lc (own_eqf (g:=gLogin) r0 e26 r0 e25) (lc (own_eq (g:=I) r0 e29 r0 e28) r0))))⟩
   ·refine sk (nN (sr (qt r0 (fa 0 fo29_0 r0) (qt r0 (lD (I sx) hs8 0 r0 one3) (tA (I sx) r0 (nl ?_))))))
    refine nN (sr (qt r0 (lG (Z0 sx Awt wt cwt Alg lg clg to) hs8 0 r0 ag29) (cL r0 (iCloneTalk (sx:=sx) (Awt:=Awt) (cwt:=cwt) (wt:=wt) (Alg:=Alg) (clg:=clg) (lg:=lg) (to:=to) (w:=_) (hwt:=(hwt.up0 hs8)) (hwt_n:=(by(have htp:=talkOk_parts (by assumption:talkOk sx wt lg to=true); have hmw:=methOk_len htp.2.1; omega))) (hlg:=(hlg.up0 hs8)) (hlg_e:=hlg_e) (hlg_n:=(by(have htp:=talkOk_parts (by assumption:talkOk sx wt lg to=true); have hmw:=methOk_len htp.2.1; omega)))) ?_)))
    rintro _ w8 ⟨Aw1,cw1,Al1,cl1,rfl,hs17⟩
    replace hs17:=hs8.call0 hs17
    refine al (v:=.agg #[I 0,ns,ns,Str []]) (cs:=[I 0,ns,ns,Str []]) hs17 tz29 r0 trivial r0 (fun b3 w9 (hs18:SH w w9 [] [.blk b1 29 (Z0 sx Awt wt cwt Alg lg clg to),(Z5 b2),(Z7 Aw1 wt cw1),(Z9 Al1 lg cl1),(Z5 b3)])=>?_)
    refine sG (Z0 sx Aw1 wt cw1 Al1 lg cl1 to) hs18 4 r0 ag29 (fun w10 hs19=>?_)
    refine nx (qt r0 (fa 0 fo29_0 r0) (sT (I 4) hs19 4 r0 one3 (fun w11 hs20=>?_)))
    refine nx (tA ns r0 (nn (sq ?_)))
    refine sr (tm (I sx) r0 (nn (bl (sr ?_))))
    refine qt r0 (eqi (k:=.i64) (a:=sx) (b:=0) r0 r0) (tA (.bool (decide (sx=0))) r0 (nn ?_))
    refine cdd (p:=sx=0) r0 (fun h8=>?_) (fun h8=>?_)
    ·refine rg (tm (Z4 Abs bs cbs) r0 (cL r0 (tkHello (tb:=b3) (Awt:=Aw1) (cwt:=cw1) (Alg:=Al1) (clg:=cl1) (sx:=4) (wt:=wt) (lg:=lg) (to:=to) (Abs:=Abs) (cbs:=cbs) (bs:=bs) (w:=_) (htk:=(blk_heap hs20 4 r0)) (hwt:=(hs20.sl 2 r0 (by intro k hk; simp at hk; subst hk; exact⟨_,memi 3 r0,rfl⟩))) (hlg:=(hs20.sl 3 r0 (by intro k hk; simp at hk; subst hk; exact⟨_,memi 3 r0,rfl⟩))) (hlg_e:=(by(first | assumption | (simp; done) | exact fun u hu=>Nat.le_trans (by first | exact p1 u hu | exact p2 u hu | exact p3 u hu) (by decide) | (intro u hu; simp at hu; simp[hu])))) (hbs:=(hbs.up hs20 (by simp) (fun k h=>.inr (hs20.lo1 4 r0 k h)))) (hst:=(by rfl)) (hto:=(by have htp:=talkOk_parts (by assumption:talkOk sx wt lg to=true); have hmw:=methOk_len htp.2.1; exact htp.2.2.2.2.2.2.2 (by omega)))) ?_))
     rintro _ w12 ⟨A1,c1,rfl,hs21⟩
     replace hs21:SH w w12 [] [.blk b1 29 (Z0 sx Awt wt cwt Alg lg clg to),(Z5 b2),(Z7 Aw1 wt cw1),(Z9 Al1 lg cl1),.blk b3 29 [I ((sayHello wt bs).1),(Z8 Aw1 wt cw1),(Z13 Al1 lg cl1),Str to],.own A1 (((sayHello wt bs).2).length) c1 3 1 (((sayHello wt bs).2).map I)]:=SH.callK (K:=[.blk b3 29 [I 4,(Z8 Aw1 wt cw1),(Z13 Al1 lg cl1),Str to]]) (R:=[.blk b1 29 (Z0 sx Awt wt cwt Alg lg clg to),(Z5 b2),(Z7 Aw1 wt cw1),(Z9 Al1 lg cl1)]) (hs20.pk [4,0,1,2,3] r0) hs21 r0
     refine tA (.slice A1 (((sayHello wt bs).2).length) c1) r0 (nl (bN (nN (sr (qt r0 (lG [I ((sayHello wt bs).1),(Z8 Aw1 wt cw1),(Z13 Al1 lg cl1),Str to] hs21 4 r0 ag29) (tm (.slice A1 (((sayHello wt bs).2).length) c1) r0 ?_))))))
     refine sG [I ((sayHello wt bs).1),(Z8 Aw1 wt cw1),(Z13 Al1 lg cl1),Str to] hs21 1 r0 ag29 (fun w13 hs22=>?_)
     refine tA (.slice A1 (((sayHello wt bs).2).length) c1) r0 (tA (.bool true) r0 (nn ?_))
     have hs23:=hs22.pq [1,2,4,5] r0
     refine rt (fret (v:=.tuple #[.agg #[I ((sayHello wt bs).1),(Z8 Aw1 wt cw1),(Z13 Al1 lg cl1),Str to],.slice A1 (((sayHello wt bs).2).length) c1,.bool true]) (resC hs23 3 r0 r0 ag29 r0 (.tmp (.tmp .nil))) r0 ?_)
     have e31:talkSay sx wt lg to bs=(((sayHello wt bs).1,wt,lg,to),(sayHello wt bs).2,true):=by exact talkSay_0 (by assumption) (by assumption) (by assumption)
     have e32:=pj11 e31
     have e33:=pj121 e31
     have e34:=congrArg List.length e33
     have e35:=pj1221 e31
     have e36:=congrArg List.length e35
     have e37:=pj1222 e31
     have e38:=pj21 e31
     have e39:=congrArg List.length e38
     have e40:=pj22 e31
     exact⟨Aw1,cw1,Al1,cl1,A1,c1,(tup3 (aggv (lc (congrArg (Value.int .i64) e32) (lc (slv r0 e34 r0) (lc (slv r0 e36 r0) (lc (congrArg (Str) e37) r0))))) (slv r0 e39 r0) (congrArg (Value.bool) e40)),((hs23.pq [0,1,2] r0).cast (lc (own_eq (g:=I) r0 e34 r0 e33) (lc (own_eqf (g:=gLogin) r0 e36 r0 e35) (lc (own_eq (g:=I) r0 e39 r0 e38) r0))))⟩
    ·refine sr (qt r0 (eqi (k:=.i64) (a:=sx) (b:=1) r0 r0) (tA (.bool (decide (sx=1))) r0 (nn ?_)))
     refine cdd (p:=sx=1) r0 (fun h9=>?_) (fun h9=>?_)
     ·refine rg (tm (Z4 Abs bs cbs) r0 (cL r0 (tkLogin (tb:=b3) (Awt:=Aw1) (cwt:=cw1) (Alg:=Al1) (clg:=cl1) (sx:=4) (wt:=wt) (lg:=lg) (to:=to) (Abs:=Abs) (cbs:=cbs) (bs:=bs) (w:=_) (htk:=(blk_heap hs20 4 r0)) (hwt:=(hs20.sl 2 r0 (by intro k hk; simp at hk; subst hk; exact⟨_,memi 3 r0,rfl⟩))) (hlg:=(hs20.sl 3 r0 (by intro k hk; simp at hk; subst hk; exact⟨_,memi 3 r0,rfl⟩))) (hlg_e:=(by(first | assumption | (simp; done) | exact fun u hu=>Nat.le_trans (by first | exact p1 u hu | exact p2 u hu | exact p3 u hu) (by decide) | (intro u hu; simp at hu; simp[hu])))) (hbs:=(hbs.up hs20 (by simp) (fun k h=>.inr (hs20.lo1 4 r0 k h)))) (hst:=(by rfl)) (hto:=(by have htp:=talkOk_parts (by assumption:talkOk sx wt lg to=true); have hmw:=methOk_len htp.2.1; exact htp.2.2.2.2.2.2.2 (by omega)))) ?_))
      rintro _ w14 ⟨A2,c2,rfl,hs24⟩
      replace hs24:SH w w14 [] [.blk b1 29 (Z0 sx Awt wt cwt Alg lg clg to),(Z5 b2),(Z7 Aw1 wt cw1),(Z9 Al1 lg cl1),.blk b3 29 [I ((sayLogin lg bs).1),(Z8 Aw1 wt cw1),(Z13 Al1 lg cl1),Str to],.own A2 (((sayLogin lg bs).2).length) c2 3 1 (((sayLogin lg bs).2).map I)]:=SH.callK (K:=[.blk b3 29 [I 4,(Z8 Aw1 wt cw1),(Z13 Al1 lg cl1),Str to]]) (R:=[.blk b1 29 (Z0 sx Awt wt cwt Alg lg clg to),(Z5 b2),(Z7 Aw1 wt cw1),(Z9 Al1 lg cl1)]) (hs20.pk [4,0,1,2,3] r0) hs24 r0
      refine tA (.slice A2 (((sayLogin lg bs).2).length) c2) r0 (nl (bN (nN (sr (qt r0 (lG [I ((sayLogin lg bs).1),(Z8 Aw1 wt cw1),(Z13 Al1 lg cl1),Str to] hs24 4 r0 ag29) (tm (.slice A2 (((sayLogin lg bs).2).length) c2) r0 ?_))))))
      refine sG [I ((sayLogin lg bs).1),(Z8 Aw1 wt cw1),(Z13 Al1 lg cl1),Str to] hs24 1 r0 ag29 (fun w15 hs25=>?_)
      refine tA (.slice A2 (((sayLogin lg bs).2).length) c2) r0 (tA (.bool true) r0 (nn ?_))
      have hs26:=hs25.pq [1,2,4,5] r0
      refine rt (fret (v:=.tuple #[.agg #[I ((sayLogin lg bs).1),(Z8 Aw1 wt cw1),(Z13 Al1 lg cl1),Str to],.slice A2 (((sayLogin lg bs).2).length) c2,.bool true]) (resC hs26 3 r0 r0 ag29 r0 (.tmp (.tmp .nil))) r0 ?_)
      have e41:talkSay sx wt lg to bs=(((sayLogin lg bs).1,wt,lg,to),(sayLogin lg bs).2,true):=by exact talkSay_1 (by assumption) (by assumption) (by assumption)
      have e42:=pj11 e41
      have e43:=pj121 e41
      have e44:=congrArg List.length e43
      have e45:=pj1221 e41
      have e46:=congrArg List.length e45
      have e47:=pj1222 e41
      have e48:=pj21 e41
      have e49:=congrArg List.length e48
      have e50:=pj22 e41
      exact⟨Aw1,cw1,Al1,cl1,A2,c2,(tup3 (aggv (lc (congrArg (Value.int .i64) e42) (lc (slv r0 e44 r0) (lc (slv r0 e46 r0) (lc (congrArg (Str) e47) r0))))) (slv r0 e49 r0) (congrArg (Value.bool) e50)),((hs26.pq [0,1,2] r0).cast (lc (own_eq (g:=I) r0 e44 r0 e43) (lc (own_eqf (g:=gLogin) r0 e46 r0 e45) (lc (own_eq (g:=I) r0 e49 r0 e48) r0))))⟩
     ·refine sr (qt r0 (eqi (k:=.i64) (a:=sx) (b:=2) r0 r0) (tA (.bool (decide (sx=2))) r0 (nn ?_)))
      refine cdd (p:=sx=2) r0 (fun h10=>?_) (fun h10=>?_)
      ·refine rg (tm (Z4 Abs bs cbs) r0 (cL r0 (tkRequest (tb:=b3) (Awt:=Aw1) (cwt:=cw1) (Alg:=Al1) (clg:=cl1) (sx:=4) (wt:=wt) (lg:=lg) (to:=to) (Abs:=Abs) (cbs:=cbs) (bs:=bs) (w:=_) (htk:=(blk_heap hs20 4 r0)) (hwt:=(hs20.sl 2 r0 (by intro k hk; simp at hk; subst hk; exact⟨_,memi 3 r0,rfl⟩))) (hlg:=(hs20.sl 3 r0 (by intro k hk; simp at hk; subst hk; exact⟨_,memi 3 r0,rfl⟩))) (hlg_e:=(by(first | assumption | (simp; done) | exact fun u hu=>Nat.le_trans (by first | exact p1 u hu | exact p2 u hu | exact p3 u hu) (by decide) | (intro u hu; simp at hu; simp[hu])))) (hbs:=(hbs.up hs20 (by simp) (fun k h=>.inr (hs20.lo1 4 r0 k h)))) (hst:=(by rfl)) (hto:=(by have htp:=talkOk_parts (by assumption:talkOk sx wt lg to=true); have hmw:=methOk_len htp.2.1; exact htp.2.2.2.2.2.2.2 (by omega))) (hGp:=(hGp.up hs20 (by simp) (fun k h=>.inr (hs20.lo1 4 r0 k h))))) ?_))
       rintro _ w16 ⟨A3,c3,rfl,hs27⟩
       replace hs27:SH w w16 [] [.blk b1 29 (Z0 sx Awt wt cwt Alg lg clg to),(Z5 b2),(Z7 Aw1 wt cw1),(Z9 Al1 lg cl1),.blk b3 29 [I ((sayReq bs).1),(Z8 Aw1 wt cw1),(Z13 Al1 lg cl1),Str ((sayReq bs).2.1)],.own A3 (((sayReq bs).2.2).length) c3 3 1 (((sayReq bs).2.2).map I)]:=SH.callK (K:=[.blk b3 29 [I 4,(Z8 Aw1 wt cw1),(Z13 Al1 lg cl1),Str to]]) (R:=[.blk b1 29 (Z0 sx Awt wt cwt Alg lg clg to),(Z5 b2),(Z7 Aw1 wt cw1),(Z9 Al1 lg cl1)]) (hs20.pk [4,0,1,2,3] r0) hs27 r0
       refine tA (.slice A3 (((sayReq bs).2.2).length) c3) r0 (nl (bN (nN (sr (qt r0 (lG [I ((sayReq bs).1),(Z8 Aw1 wt cw1),(Z13 Al1 lg cl1),Str ((sayReq bs).2.1)] hs27 4 r0 ag29) (tm (.slice A3 (((sayReq bs).2.2).length) c3) r0 ?_))))))
       refine sG [I ((sayReq bs).1),(Z8 Aw1 wt cw1),(Z13 Al1 lg cl1),Str ((sayReq bs).2.1)] hs27 1 r0 ag29 (fun w17 hs28=>?_)
       refine tA (.slice A3 (((sayReq bs).2.2).length) c3) r0 (tA (.bool true) r0 (nn ?_))
       have hs29:=hs28.pq [1,2,4,5] r0
       refine rt (fret (v:=.tuple #[.agg #[I ((sayReq bs).1),(Z8 Aw1 wt cw1),(Z13 Al1 lg cl1),Str ((sayReq bs).2.1)],.slice A3 (((sayReq bs).2.2).length) c3,.bool true]) (resC hs29 3 r0 r0 ag29 r0 (.tmp (.tmp .nil))) r0 ?_)
       have e51:talkSay sx wt lg to bs=(((sayReq bs).1,wt,lg,(sayReq bs).2.1),(sayReq bs).2.2,true):=by exact talkSay_2 (by assumption) (by assumption) (by assumption)
       have e52:=pj11 e51
       have e53:=pj121 e51
       have e54:=congrArg List.length e53
       have e55:=pj1221 e51
       have e56:=congrArg List.length e55
       have e57:=pj1222 e51
       have e58:=pj21 e51
       have e59:=congrArg List.length e58
       have e60:=pj22 e51
       exact⟨Aw1,cw1,Al1,cl1,A3,c3,(tup3 (aggv (lc (congrArg (Value.int .i64) e52) (lc (slv r0 e54 r0) (lc (slv r0 e56 r0) (lc (congrArg (Str) e57) r0))))) (slv r0 e59 r0) (congrArg (Value.bool) e60)),((hs29.pq [0,1,2] r0).cast (lc (own_eq (g:=I) r0 e54 r0 e53) (lc (own_eqf (g:=gLogin) r0 e56 r0 e55) (lc (own_eq (g:=I) r0 e59 r0 e58) r0))))⟩
      ·refine sk (bN (nN (sr (qt r0 (lG [I 4,(Z8 Aw1 wt cw1),(Z13 Al1 lg cl1),Str to] hs20 4 r0 ag29) (tm ns r0 (sG [I 4,(Z8 Aw1 wt cw1),(Z13 Al1 lg cl1),Str to] hs20 1 r0 ag29 (fun w18 (hs30:SH w w18 [] [.blk b1 29 (Z0 sx Awt wt cwt Alg lg clg to),(Z7 Aw1 wt cw1),(Z9 Al1 lg cl1),.blk b3 29 [I 4,(Z8 Aw1 wt cw1),(Z13 Al1 lg cl1),Str to],.blk b2 29 [I 4,(Z8 Aw1 wt cw1),(Z13 Al1 lg cl1),Str to]])=>?_)))))))
       refine tA ns r0 (tA (.bool true) r0 (nn ?_))
       have hs31:=hs30.pq [1,2,4] r0
       refine rt (fret (v:=.tuple #[.agg #[I 4,(Z8 Aw1 wt cw1),(Z13 Al1 lg cl1),Str to],ns,.bool true]) (resC hs31 2 r0 r0 ag29 r0 (.tmp (.tmp .nil))) r0 ?_)
       have hs32:=hs31.nl [.own none (([]:List Int).length) 0 3 1 (([]:List Int).map I)] r0
       have e61:talkSay sx wt lg to bs=((4,wt,lg,to),([]:List Int),true):=by(exfalso; have htp:=talkOk_parts (by assumption:talkOk sx wt lg to=true); have hmw:=methOk_len htp.2.1; omega)
       have e62:=pj11 e61
       have e63:=pj121 e61
       have e64:=congrArg List.length e63
       have e65:=pj1221 e61
       have e66:=congrArg List.length e65
       have e67:=pj1222 e61
       have e68:=pj21 e61
       have e69:=congrArg List.length e68
       have e70:=pj22 e61
       exact⟨Aw1,cw1,Al1,cl1,none,0,(tup3 (aggv (lc (congrArg (Value.int .i64) e62) (lc (slv r0 e64 r0) (lc (slv r0 e66 r0) (lc (congrArg (Str) e67) r0))))) (slv r0 e69 r0) (congrArg (Value.bool) e70)),((hs32.pq [0,1,3] r0).cast (lc (own_eq (g:=I) r0 e64 r0 e63) (lc (own_eqf (g:=gLogin) r0 e66 r0 e65) (lc (own_eq (g:=I) r0 e69 r0 e68) r0))))⟩
theorem sL23Hello (sx:Int) {Awt:Option Addr} {cwt:Nat} (wt:List Int) {Alg:Option Addr} {clg:Nat} (lg:List (List UInt8×List UInt8)) (to:List UInt8) {Abs:Option Addr} {cbs:Nat} (bs:List Int) (w:World) (hwt:Sl w [] 1 Awt wt.length cwt (wt.map I)) (hwt_n:wt.length≤1099511627776) (hlg:Sl w [] 2 Alg lg.length clg (lg.flatMap gLogin)) (hlg_e: ∀ u∈lg,u.1.length≤9223372036854775807∧u.2.length≤9223372036854775807) (hlg_n:lg.length≤1099511627776) (hbs:Sl w [] 1 Abs bs.length cbs (bs.map I)):Does Tryz.prog 42 [.agg #[I sx,.slice Awt wt.length cwt,.slice Alg lg.length clg,Str to],.slice Abs bs.length cbs] w (fun v w'=>∃ Awr:Option Addr,∃ cwr:Nat,∃ Alr:Option Addr,∃ clr:Nat,∃ Ayr:Option Addr,∃ cyr:Nat,v=.tuple #[.agg #[.int .i64 ((sayHello wt bs).1),.slice Awr wt.length cwr,.slice Alr lg.length clr,Str []],.slice Ayr ((sayHello wt bs).2).length cyr]∧SH w w' [] [.own Awr wt.length cwr 3 1 (wt.map I),.own Alr lg.length clr 51 2 (lg.flatMap gLogin),.own Ayr (((sayHello wt bs).2).length) cyr 3 1 (((sayHello wt bs).2).map I)]):=by
 refine fE (N:=52) Tryz.func42 r0 (by kernel_rfl) r0 ?_
 have hs0:=SH.refl w []
 have hwt_m:wt.length≤9223372036854775807:=Nat.le_trans hwt.cap hwt.capMax
 have hlg_m:lg.length≤9223372036854775807:=Nat.le_trans hlg.cap hlg.capMax
 have hbs_m:bs.length≤9223372036854775807:=Nat.le_trans hbs.cap hbs.capMax
 refine sr (bx (v:=.agg #[I sx,(Z8 Awt wt cwt),(Z13 Alg lg clg),Str to]) (cs:=(Z0 sx Awt wt cwt Alg lg clg to)) hs0 r0 r0 trivial r0 (fun b1 w1 hs1=>?_))
 refine al (v:=.agg #[I 0,ns,ns,Str []]) (cs:=[I 0,ns,ns,Str []]) hs1 tz29 r0 trivial r0 (fun b2 w2 hs2=>?_)
 refine tA ns r0 (nx (tm (Z4 Abs bs cbs) r0 (cL r0 (sHelloFrom (Abs:=Abs) (cbs:=cbs) (bs:=bs) (w:=_) (hbs:=(hbs.up0 hs2))) ?_)))
 rintro _ w3 ⟨A1,c1,rfl,hs3⟩
 replace hs3:=hs2.call0 hs3
 refine tm (.tuple #[.slice A1 (((helloFrom bs).1).length) c1,I ((helloFrom bs).2.1),.bool ((helloFrom bs).2.2)]) r0 (qt r0 (xt 0 (v:=.slice A1 (((helloFrom bs).1).length) c1) r0 r0) (qt r0 (xt 1 (v:=I ((helloFrom bs).2.1)) r0 r0) (qt r0 (xt 2 (v:=.bool ((helloFrom bs).2.2)) r0 r0) (tA (.slice A1 (((helloFrom bs).1).length) c1) r0 (tA (I ((helloFrom bs).2.1)) r0 (tA (.bool ((helloFrom bs).2.2)) r0 (nl ?_)))))))
 refine nN (sq (sr (tm (.bool ((helloFrom bs).2.2)) r0 (qt r0 (nt (b:=(helloFrom bs).2.2) r0) (tm (.bool (!((helloFrom bs).2.2))) r0 ?_)))))
 refine spl (b:=!((helloFrom bs).2.2)) 20 r0 (fun h1=>?_) (fun h1=>?_)
 ·have h2:((helloFrom bs).2.2)=false:=by simpa using h1
  refine gt5 r0 (gt5 r0 (gt5 r0 (gt5 r0 (qt r0 (pt (v:=.bool true) r0 r0) (nn (cdt r0 ?_))))))
  refine sr (qt r0 (lG (Z0 sx Awt wt cwt Alg lg clg to) hs3 0 r0 ag29) (cL r0 (sL23Next (sx:=sx) (Awt:=Awt) (cwt:=cwt) (wt:=wt) (Alg:=Alg) (clg:=clg) (lg:=lg) (to:=to) (nst:=4) (w:=_) (hwt:=(hwt.up0 hs3)) (hwt_n:=(by omega)) (hlg:=(hlg.up0 hs3)) (hlg_e:=hlg_e) (hlg_n:=(by omega))) ?_))
  rintro _ w4 ⟨Aw1,cw1,Al1,cl1,rfl,hs4⟩
  replace hs4:=hs3.call0 hs4
  refine bsk hs4 sl22 [] [] trivial r0 (fun b3 w5 hs5=>?_)
  refine sG [I 4,(Z8 Aw1 wt cw1),(Z13 Al1 lg cl1),Str []] hs5 1 r0 ag29 (fun w6 hs6=>?_)
  refine tA (sb b3 (([]:List Int).length) 0) r0 (nn ?_)
  have hs7:=hs6.pq [2,3,4,5] r0
  refine rt (tR ?_)
  refine fret (v:=.tuple #[.agg #[I 4,(Z8 Aw1 wt cw1),(Z13 Al1 lg cl1),Str []],sb b3 (([]:List Int).length) 0]) (resC hs7 3 r0 r0 ag29 r0 (.tmp .nil)) r0 ?_
  have e1:4=(sayHello wt bs).1:=by(rw[sayH_no1 (by assumption)]; done)
  have e2:([]:List Int)=(sayHello wt bs).2:=by(rw[sayH_no1 (by assumption)]; done)
  have e3:=congrArg List.length e2
  exact⟨Aw1,cw1,Al1,cl1,(Z2 b3),0,(tup2 (aggv (lc (congrArg (Value.int .i64) e1) (lc r0 (lc r0 (lc r0 r0))))) (slv r0 e3 r0)),((hs7.pq [0,1,2] r0).cast (lc r0 (lc r0 (lc (own_eq (g:=I) r0 e3 r0 e2) r0))))⟩
 ·have h3:((helloFrom bs).2.2)=true:=by simpa using h1
  refine q ⟨_,rfl,rfl⟩ r0 r0 (mv (v:=I ((helloFrom bs).2.1)) r0) (q ⟨_,rfl,rfl⟩ r0 r0 (mv (v:=.slice Abs bs.length cbs) r0) (q ⟨_,rfl,rfl⟩ r0 r0 (lnA (n:=bs.length) sl22 r0) (q ⟨_,rfl,rfl⟩ r0 r0 (nei (k:=.i64) (a:=(helloFrom bs).2.1) (b:=(bs.length:Int)) r0 r0) (qt r0 (pf (v:=.bool (decide (((helloFrom bs).2.1)≠(bs.length:Int)))) r0 r0) (nn ?_)))))
  refine cdd (p:=((helloFrom bs).2.1)≠(bs.length:Int)) r0 (fun h4=>?_) (fun h4=>?_)
  ·refine sr (qt r0 (lG (Z0 sx Awt wt cwt Alg lg clg to) hs3 0 r0 ag29) (cL r0 (sL23Next (sx:=sx) (Awt:=Awt) (cwt:=cwt) (wt:=wt) (Alg:=Alg) (clg:=clg) (lg:=lg) (to:=to) (nst:=4) (w:=_) (hwt:=(hwt.up0 hs3)) (hwt_n:=(by omega)) (hlg:=(hlg.up0 hs3)) (hlg_e:=hlg_e) (hlg_n:=(by omega))) ?_))
   rintro _ w7 ⟨Aw2,cw2,Al2,cl2,rfl,hs8⟩
   replace hs8:=hs3.call0 hs8
   refine bsk hs8 sl22 [] [] trivial r0 (fun b4 w8 hs9=>?_)
   refine sG [I 4,(Z8 Aw2 wt cw2),(Z13 Al2 lg cl2),Str []] hs9 1 r0 ag29 (fun w9 hs10=>?_)
   refine tA (sb b4 (([]:List Int).length) 0) r0 (nn ?_)
   have hs11:=hs10.pq [2,3,4,5] r0
   refine rt (tR ?_)
   refine fret (v:=.tuple #[.agg #[I 4,(Z8 Aw2 wt cw2),(Z13 Al2 lg cl2),Str []],sb b4 (([]:List Int).length) 0]) (resC hs11 3 r0 r0 ag29 r0 (.tmp .nil)) r0 ?_
   have e4:4=(sayHello wt bs).1:=by(rw[sayH_no3 (by assumption)]; done)
   have e5:([]:List Int)=(sayHello wt bs).2:=by(rw[sayH_no3 (by assumption)]; done)
   have e6:=congrArg List.length e5
   exact⟨Aw2,cw2,Al2,cl2,(Z2 b4),0,(tup2 (aggv (lc (congrArg (Value.int .i64) e4) (lc r0 (lc r0 (lc r0 r0))))) (slv r0 e6 r0)),((hs11.pq [0,1,2] r0).cast (lc r0 (lc r0 (lc (own_eq (g:=I) r0 e6 r0 e5) r0))))⟩
  ·refine sk (nN (sr (qt r0 (fa 1 fo29_1 r0) (qt r0 (lD (Z4 Awt wt cwt) hs3 0 r0 one22) (tm (.slice A1 (((helloFrom bs).1).length) c1) r0 (cL r0 (sHelloPick (Awt:=Awt) (cwt:=cwt) (wt:=wt) (Ams:=A1) (cms:=c1) (ms:=(helloFrom bs).1) (w:=_) (hwt:=(hwt.up0 hs3)) (hms:=(hs3.sl0 2 r0))) ?_))))))
   rintro _ w10 ⟨rfl,hs12⟩
   replace hs12:=hs3.call0 hs12
   refine tA (I (helloPick wt ((helloFrom bs).1))) r0 (nx (tm (I (helloPick wt ((helloFrom bs).1))) r0 (cL r0 (sPickBytes (m:=helloPick wt ((helloFrom bs).1)) (w:=_) (hm:=(by exact pick_bd _ _))) ?_)))
   rintro _ w11 ⟨A2,c2,rfl,hs13⟩
   replace hs13:=hs12.call0 hs13
   refine tm (.tuple #[.slice A2 ([5,(helloPick wt ((helloFrom bs).1))].length) c2,.bool true]) r0 (qt r0 (xt 0 (v:=.slice A2 ([5,(helloPick wt ((helloFrom bs).1))].length) c2) r0 r0) (qt r0 (xt 1 (v:=.bool true) r0 r0) (tA (.slice A2 ([5,(helloPick wt ((helloFrom bs).1))].length) c2) r0 (tA (.bool true) r0 (nn (sq ?_))))))
   refine sr (tm (I (helloPick wt ((helloFrom bs).1))) r0 (nn (bl (sr ?_))))
   refine qt r0 (eqi (k:=.i64) (a:=helloPick wt ((helloFrom bs).1)) (b:=0) r0 r0) (tA (.bool (decide ((helloPick wt ((helloFrom bs).1))=0))) r0 (nn ?_))
   refine cdd (p:=(helloPick wt ((helloFrom bs).1))=0) r0 (fun h5=>?_) (fun h5=>?_)
   ·refine sr (qt r0 (lG (Z0 sx Awt wt cwt Alg lg clg to) hs13 0 r0 ag29) (cL r0 (sL23Next (sx:=sx) (Awt:=Awt) (cwt:=cwt) (wt:=wt) (Alg:=Alg) (clg:=clg) (lg:=lg) (to:=to) (nst:=2) (w:=_) (hwt:=(hwt.up0 hs13)) (hwt_n:=(by omega)) (hlg:=(hlg.up0 hs13)) (hlg_e:=hlg_e) (hlg_n:=(by omega))) ?_))
    rintro _ w12 ⟨Aw3,cw3,Al3,cl3,rfl,hs14⟩
    replace hs14:=hs13.call0 hs14
    refine tm (.slice A2 ([5,(helloPick wt ((helloFrom bs).1))].length) c2) r0 (sG [I 2,(Z8 Aw3 wt cw3),(Z13 Al3 lg cl3),Str []] hs14 1 r0 ag29 (fun w13 hs15=>?_))
    refine tA (.slice A2 ([5,(helloPick wt ((helloFrom bs).1))].length) c2) r0 (nn ?_)
    have hs16:=hs15.pq [2,3,4,5] r0
    refine rt (bR (tR ?_))
    refine fret (v:=.tuple #[.agg #[I 2,(Z8 Aw3 wt cw3),(Z13 Al3 lg cl3),Str []],.slice A2 ([5,(helloPick wt ((helloFrom bs).1))].length) c2]) (resC hs16 3 r0 r0 ag29 r0 (.tmp .nil)) r0 ?_
    have e7:2=(sayHello wt bs).1:=by(rw[sayH_y2 (by assumption) (by assumption)]; simp[h3,h4,h5]; done)
    have e8:[5,(helloPick wt ((helloFrom bs).1))]=(sayHello wt bs).2:=by(rw[sayH_y2 (by assumption) (by assumption)]; done)
    have e9:=congrArg List.length e8
    exact⟨Aw3,cw3,Al3,cl3,A2,c2,(tup2 (aggv (lc (congrArg (Value.int .i64) e7) (lc r0 (lc r0 (lc r0 r0))))) (slv r0 e9 r0)),((hs16.pq [1,2,0] r0).cast (lc r0 (lc r0 (lc (own_eq (g:=I) r0 e9 r0 e8) r0))))⟩
   ·refine sr (qt r0 (eqi (k:=.i64) (a:=helloPick wt ((helloFrom bs).1)) (b:=2) r0 r0) (tA (.bool (decide ((helloPick wt ((helloFrom bs).1))=2))) r0 (nn ?_)))
    refine cdd (p:=(helloPick wt ((helloFrom bs).1))=2) r0 (fun h6=>?_) (fun h6=>?_)
    ·refine sr (qt r0 (lG (Z0 sx Awt wt cwt Alg lg clg to) hs13 0 r0 ag29) (cL r0 (sL23Next (sx:=sx) (Awt:=Awt) (cwt:=cwt) (wt:=wt) (Alg:=Alg) (clg:=clg) (lg:=lg) (to:=to) (nst:=1) (w:=_) (hwt:=(hwt.up0 hs13)) (hwt_n:=(by omega)) (hlg:=(hlg.up0 hs13)) (hlg_e:=hlg_e) (hlg_n:=(by omega))) ?_))
     rintro _ w14 ⟨Aw4,cw4,Al4,cl4,rfl,hs17⟩
     replace hs17:=hs13.call0 hs17
     refine tm (.slice A2 ([5,(helloPick wt ((helloFrom bs).1))].length) c2) r0 (sG [I 1,(Z8 Aw4 wt cw4),(Z13 Al4 lg cl4),Str []] hs17 1 r0 ag29 (fun w15 hs18=>?_))
     refine tA (.slice A2 ([5,(helloPick wt ((helloFrom bs).1))].length) c2) r0 (nn ?_)
     have hs19:=hs18.pq [2,3,4,5] r0
     refine rt (bR (tR ?_))
     refine fret (v:=.tuple #[.agg #[I 1,(Z8 Aw4 wt cw4),(Z13 Al4 lg cl4),Str []],.slice A2 ([5,(helloPick wt ((helloFrom bs).1))].length) c2]) (resC hs19 3 r0 r0 ag29 r0 (.tmp .nil)) r0 ?_
     have e10:1=(sayHello wt bs).1:=by(rw[sayH_y2 (by assumption) (by assumption)]; simp[h3,h4,h5,h6]; done)
     have e11:[5,(helloPick wt ((helloFrom bs).1))]=(sayHello wt bs).2:=by(rw[sayH_y2 (by assumption) (by assumption)]; done)
     have e12:=congrArg List.length e11
     exact⟨Aw4,cw4,Al4,cl4,A2,c2,(tup2 (aggv (lc (congrArg (Value.int .i64) e10) (lc r0 (lc r0 (lc r0 r0))))) (slv r0 e12 r0)),((hs19.pq [1,2,0] r0).cast (lc r0 (lc r0 (lc (own_eq (g:=I) r0 e12 r0 e11) r0))))⟩
    ·refine sk (bN (nN (sr (qt r0 (lG (Z0 sx Awt wt cwt Alg lg clg to) hs13 0 r0 ag29) (cL r0 (sL23Next (sx:=sx) (Awt:=Awt) (cwt:=cwt) (wt:=wt) (Alg:=Alg) (clg:=clg) (lg:=lg) (to:=to) (nst:=4) (w:=_) (hwt:=(hwt.up0 hs13)) (hwt_n:=(by omega)) (hlg:=(hlg.up0 hs13)) (hlg_e:=hlg_e) (hlg_n:=(by omega))) ?_)))))
     rintro _ w16 ⟨Aw5,cw5,Al5,cl5,rfl,hs20⟩
     replace hs20:=hs13.call0 hs20
     refine tm (.slice A2 ([5,(helloPick wt ((helloFrom bs).1))].length) c2) r0 (sG [I 4,(Z8 Aw5 wt cw5),(Z13 Al5 lg cl5),Str []] hs20 1 r0 ag29 (fun w17 hs21=>?_))
     refine tA (.slice A2 ([5,(helloPick wt ((helloFrom bs).1))].length) c2) r0 (nn ?_)
     have hs22:=hs21.pq [2,3,4,5] r0
     refine rt (fret (v:=.tuple #[.agg #[I 4,(Z8 Aw5 wt cw5),(Z13 Al5 lg cl5),Str []],.slice A2 ([5,(helloPick wt ((helloFrom bs).1))].length) c2]) (resC hs22 3 r0 r0 ag29 r0 (.tmp .nil)) r0 ?_)
     have e13:4=(sayHello wt bs).1:=by(rw[sayH_y2 (by assumption) (by assumption)]; simp[h3,h4,h5,h6]; done)
     have e14:[5,(helloPick wt ((helloFrom bs).1))]=(sayHello wt bs).2:=by(rw[sayH_y2 (by assumption) (by assumption)]; done)
     have e15:=congrArg List.length e14
     exact⟨Aw5,cw5,Al5,cl5,A2,c2,(tup2 (aggv (lc (congrArg (Value.int .i64) e13) (lc r0 (lc r0 (lc r0 r0))))) (slv r0 e15 r0)),((hs22.pq [1,2,0] r0).cast (lc r0 (lc r0 (lc (own_eq (g:=I) r0 e15 r0 e14) r0))))⟩
theorem sL23Login (sx:Int) {Awt:Option Addr} {cwt:Nat} (wt:List Int) {Alg:Option Addr} {clg:Nat} (lg:List (List UInt8×List UInt8)) (to:List UInt8) {Abs:Option Addr} {cbs:Nat} (bs:List Int) (w:World) (hwt:Sl w [] 1 Awt wt.length cwt (wt.map I)) (hwt_n:wt.length≤1099511627776) (hlg:Sl w [] 2 Alg lg.length clg (lg.flatMap gLogin)) (hlg_e: ∀ u∈lg,u.1.length≤9223372036854775807∧u.2.length≤9223372036854775807) (hlg_n:lg.length≤1099511627776) (hbs:Sl w [] 1 Abs bs.length cbs (bs.map I)):Does Tryz.prog 43 [.agg #[I sx,.slice Awt wt.length cwt,.slice Alg lg.length clg,Str to],.slice Abs bs.length cbs] w (fun v w'=>∃ Awr:Option Addr,∃ cwr:Nat,∃ Alr:Option Addr,∃ clr:Nat,∃ Ayr:Option Addr,∃ cyr:Nat,v=.tuple #[.agg #[.int .i64 ((sayLogin lg bs).1),.slice Awr wt.length cwr,.slice Alr lg.length clr,Str []],.slice Ayr ((sayLogin lg bs).2).length cyr]∧SH w w' [] [.own Awr wt.length cwr 3 1 (wt.map I),.own Alr lg.length clr 51 2 (lg.flatMap gLogin),.own Ayr (((sayLogin lg bs).2).length) cyr 3 1 (((sayLogin lg bs).2).map I)]):=by
 refine fE (N:=37) Tryz.func43 r0 (by kernel_rfl) r0 ?_
 have hs0:SH w w [] []:=SH.refl w []
 have hwt_m:wt.length≤9223372036854775807:=Nat.le_trans hwt.cap hwt.capMax
 have hlg_m:lg.length≤9223372036854775807:=Nat.le_trans hlg.cap hlg.capMax
 have hbs_m:bs.length≤9223372036854775807:=Nat.le_trans hbs.cap hbs.capMax
 refine sr (bx (v:=.agg #[I sx,(Z8 Awt wt cwt),(Z13 Alg lg clg),Str to]) (cs:=(Z0 sx Awt wt cwt Alg lg clg to)) hs0 r0 r0 trivial r0 (fun b1 w1 hs1=>?_))
 refine al (v:=.agg #[I 0,ns,ns,Str []]) (cs:=[I 0,ns,ns,Str []]) hs1 tz29 r0 trivial r0 (fun b2 w2 hs2=>?_)
 refine tA ns r0 (nx (tm (Z4 Abs bs cbs) r0 (cL r0 (sLoginFrom (Abs:=Abs) (cbs:=cbs) (bs:=bs) (w:=_) (hbs:=(hbs.up0 hs2))) ?_)))
 rintro _ w3 ⟨rfl,hs3⟩
 replace hs3:=hs2.call0 hs3
 refine tm (.tuple #[.agg #[Str ((loginFrom bs).1.1),Str ((loginFrom bs).1.2)],I ((loginFrom bs).2.1),.bool ((loginFrom bs).2.2)]) r0 (qt r0 (xt 0 (v:=.agg #[Str ((loginFrom bs).1.1),Str ((loginFrom bs).1.2)]) r0 r0) (qt r0 (xt 1 (v:=I ((loginFrom bs).2.1)) r0 r0) (qt r0 (xt 2 (v:=.bool ((loginFrom bs).2.2)) r0 r0) (al (v:=.agg #[Str [],Str []]) (cs:=[Str [],Str []]) hs3 tz51 r0 trivial r0 (fun b3 w4 hs4=>?_)))))
 refine sG [Str ((loginFrom bs).1.1),Str ((loginFrom bs).1.2)] hs4 2 r0 ag51 (fun w5 hs5=>?_)
 refine tA (I ((loginFrom bs).2.1)) r0 (tA (.bool ((loginFrom bs).2.2)) r0 (nn (sq (sr (tm (.bool ((loginFrom bs).2.2)) r0 ?_)))))
 refine qt r0 (nt (b:=(loginFrom bs).2.2) r0) (tm (.bool (!((loginFrom bs).2.2))) r0 ?_)
 refine spl (b:=!((loginFrom bs).2.2)) 17 r0 (fun h1=>?_) (fun h1=>?_)
 ·have h2:((loginFrom bs).2.2)=false:=by simpa using h1
  refine gt5 r0 (gt5 r0 (gt5 r0 (gt5 r0 (qt r0 (pt (v:=.bool true) r0 r0) (nn (cdt r0 ?_))))))
  refine sr (qt r0 (lG (Z0 sx Awt wt cwt Alg lg clg to) hs5 0 r0 ag29) (cL r0 (sL23Next (sx:=sx) (Awt:=Awt) (cwt:=cwt) (wt:=wt) (Alg:=Alg) (clg:=clg) (lg:=lg) (to:=to) (nst:=4) (w:=_) (hwt:=(hwt.up0 hs5)) (hwt_n:=(by(omega))) (hlg:=(hlg.up0 hs5)) (hlg_e:=hlg_e) (hlg_n:=(by(omega)))) ?_))
  rintro _ w6 ⟨Aw1,cw1,Al1,cl1,rfl,hs6⟩
  replace hs6:=hs5.call0 hs6
  refine bsk hs6 sl22 [] [] trivial r0 (fun b4 w7 hs7=>?_)
  refine sG [I 4,(Z8 Aw1 wt cw1),(Z13 Al1 lg cl1),Str []] hs7 1 r0 ag29 (fun w8 hs8=>?_)
  refine tA (sb b4 (([]:List Int).length) 0) r0 (nn ?_)
  have hs9:SH w w8 [] [(Z7 Aw1 wt cw1),(Z9 Al1 lg cl1),oI b4 ([]:List Int) 0 3,.blk b2 29 [I 4,(Z8 Aw1 wt cw1),(Z13 Al1 lg cl1),Str []]]:=hs8.pk [2,3,4,5] r0
  refine rt (tR ?_)
  refine fret (v:=.tuple #[.agg #[I 4,(Z8 Aw1 wt cw1),(Z13 Al1 lg cl1),Str []],sb b4 (([]:List Int).length) 0]) (resC hs9 3 r0 r0 ag29 r0 (.tmp .nil)) r0 ?_
  have e1:4=(sayLogin lg bs).1:=by(rw[sayL_no1 (by assumption)]; done)
  have e2:([]:List Int)=(sayLogin lg bs).2:=by(rw[sayL_no1 (by assumption)]; done)
  have e3:=congrArg List.length e2
  exact⟨Aw1,cw1,Al1,cl1,(Z2 b4),0,(tup2 (aggv (lc (congrArg (Value.int .i64) e1) (lc r0 (lc r0 (lc r0 r0))))) (slv r0 e3 r0)),((hs9.pq [0,1,2] r0).cast (lc r0 (lc r0 (lc (own_eq (g:=I) r0 e3 r0 e2) r0))))⟩
 ·have h3:((loginFrom bs).2.2)=true:=by simpa using h1
  refine q ⟨_,rfl,rfl⟩ r0 r0 (mv (v:=I ((loginFrom bs).2.1)) r0) (q ⟨_,rfl,rfl⟩ r0 r0 (mv (v:=.slice Abs bs.length cbs) r0) (q ⟨_,rfl,rfl⟩ r0 r0 (lnA (n:=bs.length) sl22 r0) (q ⟨_,rfl,rfl⟩ r0 r0 (nei (k:=.i64) (a:=(loginFrom bs).2.1) (b:=(bs.length:Int)) r0 r0) (qt r0 (pf (v:=.bool (decide (((loginFrom bs).2.1)≠(bs.length:Int)))) r0 r0) (nn ?_)))))
  refine cdd (p:=((loginFrom bs).2.1)≠(bs.length:Int)) r0 (fun h4=>?_) (fun h4=>?_)
  ·refine sr (qt r0 (lG (Z0 sx Awt wt cwt Alg lg clg to) hs5 0 r0 ag29) (cL r0 (sL23Next (sx:=sx) (Awt:=Awt) (cwt:=cwt) (wt:=wt) (Alg:=Alg) (clg:=clg) (lg:=lg) (to:=to) (nst:=4) (w:=_) (hwt:=(hwt.up0 hs5)) (hwt_n:=(by(omega))) (hlg:=(hlg.up0 hs5)) (hlg_e:=hlg_e) (hlg_n:=(by(omega)))) ?_))
   rintro _ w9 ⟨Aw2,cw2,Al2,cl2,rfl,hs10⟩
   replace hs10:=hs5.call0 hs10
   refine bsk hs10 sl22 [] [] trivial r0 (fun b5 w10 hs11=>?_)
   refine sG [I 4,(Z8 Aw2 wt cw2),(Z13 Al2 lg cl2),Str []] hs11 1 r0 ag29 (fun w11 (hs12:SH w w11 [] [.blk b1 29 (Z0 sx Awt wt cwt Alg lg clg to),.blk b3 51 [Str ((loginFrom bs).1.1),Str ((loginFrom bs).1.2)],(Z7 Aw2 wt cw2),(Z9 Al2 lg cl2),oI b5 ([]:List Int) 0 3,.blk b2 29 [I 4,(Z8 Aw2 wt cw2),(Z13 Al2 lg cl2),Str []]])=>?_)
   refine tA (sb b5 (([]:List Int).length) 0) r0 (nn ?_)
   have hs13:=hs12.pq [2,3,4,5] r0
   refine rt (tR ?_)
   refine fret (v:=.tuple #[.agg #[I 4,(Z8 Aw2 wt cw2),(Z13 Al2 lg cl2),Str []],sb b5 (([]:List Int).length) 0]) (resC hs13 3 r0 r0 ag29 r0 (.tmp .nil)) r0 ?_
   have e4:4=(sayLogin lg bs).1:=by(rw[sayL_no3 (by assumption)]; done)
   have e5:([]:List Int)=(sayLogin lg bs).2:=by(rw[sayL_no3 (by assumption)]; done)
   have e6:=congrArg List.length e5
   exact⟨Aw2,cw2,Al2,cl2,(Z2 b5),0,(tup2 (aggv (lc (congrArg (Value.int .i64) e4) (lc r0 (lc r0 (lc r0 r0))))) (slv r0 e6 r0)),((hs13.pq [0,1,2] r0).cast (lc r0 (lc r0 (lc (own_eq (g:=I) r0 e6 r0 e5) r0))))⟩
  ·refine sk (nN (sq (sr (qt r0 (fa 2 fo29_2 r0) (qt r0 (lD (.slice Alg lg.length clg) hs5 0 r0 one27) (qt r0 (lG [Str ((loginFrom bs).1.1),Str ((loginFrom bs).1.2)] hs5 2 r0 ag51) ?_))))))
   refine cL r0 (sLoginFits (Alg:=Alg) (clg:=clg) (lg:=lg) (lu:=(loginFrom bs).1.1) (lw:=(loginFrom bs).1.2) (w:=_) (hlg:=(hlg.up0 hs5)) (hlg_e:=hlg_e) (hlu_n:=(by(have hlk:=loginOk_fit (loginFrom_ok (by assumption:(loginFrom bs).2.2=true)).2.1; omega))) (hlw_n:=(by(have hlk:=loginOk_fit (loginFrom_ok (by assumption:(loginFrom bs).2.2=true)).2.1; omega)))) ?_
   rintro _ w12 ⟨rfl,hs14⟩
   replace hs14:=hs5.call0 hs14
   refine qt r0 (nt (b:=fitsL lg ((loginFrom bs).1.1) ((loginFrom bs).1.2)) r0) (nn ?_)
   refine cd (b:=!(fitsL lg ((loginFrom bs).1.1) ((loginFrom bs).1.2))) r0 (fun h5=>?_) (fun h5=>?_)
   ·have h6:(fitsL lg ((loginFrom bs).1.1) ((loginFrom bs).1.2))=false:=by simpa using h5
    refine sr (qt r0 (lG (Z0 sx Awt wt cwt Alg lg clg to) hs14 0 r0 ag29) (cL r0 (sL23Next (sx:=sx) (Awt:=Awt) (cwt:=cwt) (wt:=wt) (Alg:=Alg) (clg:=clg) (lg:=lg) (to:=to) (nst:=4) (w:=_) (hwt:=(hwt.up0 hs14)) (hwt_n:=(by(omega))) (hlg:=(hlg.up0 hs14)) (hlg_e:=hlg_e) (hlg_n:=(by(omega)))) ?_))
    rintro _ w13 ⟨Aw3,cw3,Al3,cl3,rfl,hs15⟩
    replace hs15:=hs14.call0 hs15
    refine cL r0 (sLoginReply (f:=false) (w:=_)) ?_
    rintro _ w14 ⟨A1,c1,rfl,hs16⟩
    replace hs16:=hs15.call0 hs16
    refine sG [I 4,(Z8 Aw3 wt cw3),(Z13 Al3 lg cl3),Str []] hs16 1 r0 ag29 (fun w15 hs17=>?_)
    refine tA (.slice A1 ((lrB false).length) c1) r0 (nn ?_)
    have hs18:SH w w15 [] [(Z7 Aw3 wt cw3),(Z9 Al3 lg cl3),.own A1 ((lrB false).length) c1 3 1 ((lrB false).map I),.blk b2 29 [I 4,(Z8 Aw3 wt cw3),(Z13 Al3 lg cl3),Str []]]:=hs17.pk [2,3,4,5] r0
    refine rt (tR ?_)
    refine fret (v:=.tuple #[.agg #[I 4,(Z8 Aw3 wt cw3),(Z13 Al3 lg cl3),Str []],.slice A1 ((lrB false).length) c1]) (resC hs18 3 r0 r0 ag29 r0 (.tmp .nil)) r0 ?_
    have e7:4=(sayLogin lg bs).1:=by(rw[sayL_y2 (by assumption) (by assumption)]; simp[h3,h4,h6]; done)
    have e8:lrB false=(sayLogin lg bs).2:=by(rw[sayL_y2 (by assumption) (by assumption)]; simp[h3,h4,h6]; done)
    have e9:=congrArg List.length e8
    exact⟨Aw3,cw3,Al3,cl3,A1,c1,(tup2 (aggv (lc (congrArg (Value.int .i64) e7) (lc r0 (lc r0 (lc r0 r0))))) (slv r0 e9 r0)),((hs18.pq [0,1,2] r0).cast (lc r0 (lc r0 (lc (own_eq (g:=I) r0 e9 r0 e8) r0))))⟩
   ·have h7:(fitsL lg ((loginFrom bs).1.1) ((loginFrom bs).1.2))=true:=by simpa using h5
    refine sk (nN (sr (qt r0 (lG (Z0 sx Awt wt cwt Alg lg clg to) hs14 0 r0 ag29) (cL r0 (sL23Next (sx:=sx) (Awt:=Awt) (cwt:=cwt) (wt:=wt) (Alg:=Alg) (clg:=clg) (lg:=lg) (to:=to) (nst:=2) (w:=_) (hwt:=(hwt.up0 hs14)) (hwt_n:=(by(omega))) (hlg:=(hlg.up0 hs14)) (hlg_e:=hlg_e) (hlg_n:=(by(omega)))) ?_))))
    rintro _ w16 ⟨Aw4,cw4,Al4,cl4,rfl,hs19⟩
    replace hs19:=hs14.call0 hs19
    refine cL r0 (sLoginReply (f:=true) (w:=_)) ?_
    rintro _ w17 ⟨A2,c2,rfl,hs20⟩
    replace hs20:=hs19.call0 hs20
    refine sG [I 2,(Z8 Aw4 wt cw4),(Z13 Al4 lg cl4),Str []] hs20 1 r0 ag29 (fun w18 (hs21:SH w w18 [] [.blk b1 29 (Z0 sx Awt wt cwt Alg lg clg to),.blk b3 51 [Str ((loginFrom bs).1.1),Str ((loginFrom bs).1.2)],(Z7 Aw4 wt cw4),(Z9 Al4 lg cl4),.own A2 ((lrB true).length) c2 3 1 ((lrB true).map I),.blk b2 29 [I 2,(Z8 Aw4 wt cw4),(Z13 Al4 lg cl4),Str []]])=>?_)
    refine tA (.slice A2 ((lrB true).length) c2) r0 (nn ?_)
    have hs22:=hs21.pq [2,3,4,5] r0
    refine rt (fret (v:=.tuple #[.agg #[I 2,(Z8 Aw4 wt cw4),(Z13 Al4 lg cl4),Str []],.slice A2 ((lrB true).length) c2]) (resC hs22 3 r0 r0 ag29 r0 (.tmp .nil)) r0 ?_)
    have e10:2=(sayLogin lg bs).1:=by(rw[sayL_y2 (by assumption) (by assumption)]; simp[h3,h4,h7]; done)
    have e11:lrB true=(sayLogin lg bs).2:=by(rw[sayL_y2 (by assumption) (by assumption)]; simp[h3,h4,h7]; done)
    have e12:=congrArg List.length e11
    exact⟨Aw4,cw4,Al4,cl4,A2,c2,(tup2 (aggv (lc (congrArg (Value.int .i64) e10) (lc r0 (lc r0 (lc r0 r0))))) (slv r0 e12 r0)),((hs22.pq [0,1,2] r0).cast (lc r0 (lc r0 (lc (own_eq (g:=I) r0 e12 r0 e11) r0))))⟩
theorem sL23Request (sx:Int) {Awt:Option Addr} {cwt:Nat} (wt:List Int) {Alg:Option Addr} {clg:Nat} (lg:List (List UInt8×List UInt8)) (to:List UInt8) {Abs:Option Addr} {cbs:Nat} (bs:List Int) (w:World) (hwt:Sl w [] 1 Awt wt.length cwt (wt.map I)) (hwt_n:wt.length≤1099511627776) (hlg:Sl w [] 2 Alg lg.length clg (lg.flatMap gLogin)) (hlg_e: ∀ u∈lg,u.1.length≤9223372036854775807∧u.2.length≤9223372036854775807) (hlg_n:lg.length≤1099511627776) (hbs:Sl w [] 1 Abs bs.length cbs (bs.map I)):Does Tryz.prog 44 [.agg #[I sx,.slice Awt wt.length cwt,.slice Alg lg.length clg,Str to],.slice Abs bs.length cbs] w (fun v w'=>∃ Awr:Option Addr,∃ cwr:Nat,∃ Alr:Option Addr,∃ clr:Nat,∃ Ayr:Option Addr,∃ cyr:Nat,v=.tuple #[.agg #[.int .i64 ((sayReq bs).1),.slice Awr wt.length cwr,.slice Alr lg.length clr,Str ((sayReq bs).2.1)],.slice Ayr ((sayReq bs).2.2).length cyr]∧SH w w' [] [.own Awr wt.length cwr 3 1 (wt.map I),.own Alr lg.length clr 51 2 (lg.flatMap gLogin),.own Ayr (((sayReq bs).2.2).length) cyr 3 1 (((sayReq bs).2.2).map I)]):=by
 refine fE (N:=57) Tryz.func44 r0 (by kernel_rfl) r0 ?_
 have hs0:SH w w [] []:=SH.refl w []
 have hwt_m:wt.length≤9223372036854775807:=Nat.le_trans hwt.cap hwt.capMax
 have hlg_m:lg.length≤9223372036854775807:=Nat.le_trans hlg.cap hlg.capMax
 have hbs_m:bs.length≤9223372036854775807:=Nat.le_trans hbs.cap hbs.capMax
 refine sr (bx (v:=.agg #[I sx,(Z8 Awt wt cwt),(Z13 Alg lg clg),Str to]) (cs:=(Z0 sx Awt wt cwt Alg lg clg to)) hs0 r0 r0 trivial r0 (fun b1 w1 hs1=>?_))
 refine al (v:=.agg #[I 0,ns,ns,Str []]) (cs:=[I 0,ns,ns,Str []]) hs1 tz29 r0 trivial r0 (fun b2 w2 hs2=>?_)
 refine tA ns r0 (nx (tm (Z4 Abs bs cbs) r0 (cL r0 (sRequestFrom (Abs:=Abs) (cbs:=cbs) (bs:=bs) (w:=_) (hbs:=(hbs.up0 hs2))) ?_)))
 rintro _ w3 ⟨Aq1,cq1,rfl,hs3⟩
 replace hs3:=hs2.call0 hs3
 refine tm (.tuple #[.agg #[I ((reqFrom bs).1.1),I ((reqFrom bs).1.2.1),.slice Aq1 (((reqFrom bs).1.2.2.1).length) cq1,(Z15 bs),(Z17 bs)],I ((reqFrom bs).2.1),.bool ((reqFrom bs).2.2)]) r0 (qt r0 (xt 0 (v:=.agg #[I ((reqFrom bs).1.1),I ((reqFrom bs).1.2.1),.slice Aq1 (((reqFrom bs).1.2.2.1).length) cq1,(Z15 bs),(Z17 bs)]) r0 r0) (qt r0 (xt 1 (v:=I ((reqFrom bs).2.1)) r0 r0) (qt r0 (xt 2 (v:=.bool ((reqFrom bs).2.2)) r0 r0) (al (v:=.agg #[I 0,I 0,ns,Str [],I 0]) (cs:=[I 0,I 0,ns,Str [],I 0]) hs3 tz45 r0 trivial r0 (fun b3 w4 hs4=>?_)))))
 refine sG [I ((reqFrom bs).1.1),I ((reqFrom bs).1.2.1),.slice Aq1 (((reqFrom bs).1.2.2.1).length) cq1,(Z15 bs),(Z17 bs)] hs4 3 r0 ag45 (fun w5 hs5=>?_)
 refine tA (I ((reqFrom bs).2.1)) r0 (tA (.bool ((reqFrom bs).2.2)) r0 (nn (sq (sr (tm (.bool ((reqFrom bs).2.2)) r0 ?_)))))
 refine qt r0 (nt (b:=(reqFrom bs).2.2) r0) (tm (.bool (!((reqFrom bs).2.2))) r0 ?_)
 refine spl (b:=!((reqFrom bs).2.2)) 22 r0 (fun h1=>?_) (fun h1=>?_)
 ·have h2:((reqFrom bs).2.2)=false:=by simpa using h1
  refine gt5 r0 (gt5 r0 (gt5 r0 (gt5 r0 (qt r0 (pt (v:=.bool true) r0 r0) (nn (cdt r0 ?_))))))
  refine sr (qt r0 (lG (Z0 sx Awt wt cwt Alg lg clg to) hs5 0 r0 ag29) (cL r0 (sL23Next (sx:=sx) (Awt:=Awt) (cwt:=cwt) (wt:=wt) (Alg:=Alg) (clg:=clg) (lg:=lg) (to:=to) (nst:=4) (w:=_) (hwt:=(hwt.up0 hs5)) (hwt_n:=(by(omega))) (hlg:=(hlg.up0 hs5)) (hlg_e:=hlg_e) (hlg_n:=(by(omega)))) ?_))
  rintro _ w6 ⟨Aw1,cw1,Al1,cl1,rfl,hs6⟩
  replace hs6:=hs5.call0 hs6
  refine bsk hs6 sl22 [] [] trivial r0 (fun b4 w7 hs7=>?_)
  refine sG [I 4,(Z8 Aw1 wt cw1),(Z13 Al1 lg cl1),Str []] hs7 1 r0 ag29 (fun w8 hs8=>?_)
  refine tA (sb b4 (([]:List Int).length) 0) r0 (nn ?_)
  have hs9:SH w w8 [] [(Z7 Aw1 wt cw1),(Z9 Al1 lg cl1),oI b4 ([]:List Int) 0 3,.blk b2 29 [I 4,(Z8 Aw1 wt cw1),(Z13 Al1 lg cl1),Str []]]:=hs8.pk [3,4,5,6] r0
  refine rt (tR ?_)
  refine fret (v:=.tuple #[.agg #[I 4,(Z8 Aw1 wt cw1),(Z13 Al1 lg cl1),Str []],sb b4 (([]:List Int).length) 0]) (resC hs9 3 r0 r0 ag29 r0 (.tmp .nil)) r0 ?_
  have e1:4=(sayReq bs).1:=by(rw[sayR_no1 (by assumption)]; done)
  have e2:[]=(sayReq bs).2.1:=by(rw[sayR_no1 (by assumption)]; done)
  have e3:([]:List Int)=(sayReq bs).2.2:=by(rw[sayR_no1 (by assumption)]; done)
  have e4:=congrArg List.length e3
  exact⟨Aw1,cw1,Al1,cl1,(Z2 b4),0,(tup2 (aggv (lc (congrArg (Value.int .i64) e1) (lc r0 (lc r0 (lc (congrArg (Str) e2) r0))))) (slv r0 e4 r0)),((hs9.pq [0,1,2] r0).cast (lc r0 (lc r0 (lc (own_eq (g:=I) r0 e4 r0 e3) r0))))⟩
 ·have h3:((reqFrom bs).2.2)=true:=by simpa using h1
  refine q ⟨_,rfl,rfl⟩ r0 r0 (mv (v:=I ((reqFrom bs).2.1)) r0) (q ⟨_,rfl,rfl⟩ r0 r0 (mv (v:=.slice Abs bs.length cbs) r0) (q ⟨_,rfl,rfl⟩ r0 r0 (lnA (n:=bs.length) sl22 r0) (q ⟨_,rfl,rfl⟩ r0 r0 (nei (k:=.i64) (a:=(reqFrom bs).2.1) (b:=(bs.length:Int)) r0 r0) (qt r0 (pf (v:=.bool (decide (((reqFrom bs).2.1)≠(bs.length:Int)))) r0 r0) (nn ?_)))))
  refine cdd (p:=((reqFrom bs).2.1)≠(bs.length:Int)) r0 (fun h4=>?_) (fun h4=>?_)
  ·refine sr (qt r0 (lG (Z0 sx Awt wt cwt Alg lg clg to) hs5 0 r0 ag29) (cL r0 (sL23Next (sx:=sx) (Awt:=Awt) (cwt:=cwt) (wt:=wt) (Alg:=Alg) (clg:=clg) (lg:=lg) (to:=to) (nst:=4) (w:=_) (hwt:=(hwt.up0 hs5)) (hwt_n:=(by(omega))) (hlg:=(hlg.up0 hs5)) (hlg_e:=hlg_e) (hlg_n:=(by(omega)))) ?_))
   rintro _ w9 ⟨Aw2,cw2,Al2,cl2,rfl,hs10⟩
   replace hs10:=hs5.call0 hs10
   refine bsk hs10 sl22 [] [] trivial r0 (fun b5 w10 hs11=>?_)
   refine sG [I 4,(Z8 Aw2 wt cw2),(Z13 Al2 lg cl2),Str []] hs11 1 r0 ag29 (fun w11 (hs12:SH w w11 [] [.blk b1 29 (Z0 sx Awt wt cwt Alg lg clg to),.own Aq1 (((reqFrom bs).1.2.2.1).length) cq1 3 1 (((reqFrom bs).1.2.2.1).map I),.blk b3 45 [I ((reqFrom bs).1.1),I ((reqFrom bs).1.2.1),.slice Aq1 (((reqFrom bs).1.2.2.1).length) cq1,(Z15 bs),(Z17 bs)],(Z7 Aw2 wt cw2),(Z9 Al2 lg cl2),oI b5 ([]:List Int) 0 3,.blk b2 29 [I 4,(Z8 Aw2 wt cw2),(Z13 Al2 lg cl2),Str []]])=>?_)
   refine tA (sb b5 (([]:List Int).length) 0) r0 (nn ?_)
   have hs13:=hs12.pq [3,4,5,6] r0
   refine rt (tR ?_)
   refine fret (v:=.tuple #[.agg #[I 4,(Z8 Aw2 wt cw2),(Z13 Al2 lg cl2),Str []],sb b5 (([]:List Int).length) 0]) (resC hs13 3 r0 r0 ag29 r0 (.tmp .nil)) r0 ?_
   have e5:4=(sayReq bs).1:=by(rw[sayR_no3 (by assumption)]; done)
   have e6:[]=(sayReq bs).2.1:=by(rw[sayR_no3 (by assumption)]; done)
   have e7:([]:List Int)=(sayReq bs).2.2:=by(rw[sayR_no3 (by assumption)]; done)
   have e8:=congrArg List.length e7
   exact⟨Aw2,cw2,Al2,cl2,(Z2 b5),0,(tup2 (aggv (lc (congrArg (Value.int .i64) e5) (lc r0 (lc r0 (lc (congrArg (Str) e6) r0))))) (slv r0 e8 r0)),((hs13.pq [0,1,2] r0).cast (lc r0 (lc r0 (lc (own_eq (g:=I) r0 e8 r0 e7) r0))))⟩
  ·refine sk (nN (sq (sr (qt r0 (fa 0 fo45_0 r0) (qt r0 (lD (I ((reqFrom bs).1.1)) hs5 3 r0 one3) (qt r0 (nei (k:=.i64) (a:=(reqFrom bs).1.1) (b:=1) r0 r0) ?_))))))
   refine nn ?_
   refine cdd (p:=((reqFrom bs).1.1)≠1) r0 (fun h5=>?_) (fun h5=>?_)
   ·refine sr (qt r0 (fa 1 fo45_1 r0) (qt r0 (lG [I ((reqFrom bs).1.2.1),.slice Aq1 (((reqFrom bs).1.2.2.1).length) cq1,(Z15 bs),(Z17 bs)] hs5 3 r0 ag43) (cL r0 (sReplyBytes (c:=7) (ak:=(reqFrom bs).1.2.1) (Aaq:=Aq1) (caq:=cq1) (aq:=(reqFrom bs).1.2.2.1) (an:=(reqFrom bs).1.2.2.2.1) (apt:=(reqFrom bs).1.2.2.2.2) (w:=_) (haq:=(hs5.sl0 2 r0)) (han_n:=(by(have hrn:=reqFrom_nm bs; omega)))) ?_)))
    rintro _ w12 ⟨A1,c1,rfl,hs14⟩
    replace hs14:=hs5.call0 hs14
    refine tm (.tuple #[.slice A1 (((replyP 7 ((reqFrom bs).1.2.1) ((reqFrom bs).1.2.2.1) ((reqFrom bs).1.2.2.2.1) ((reqFrom bs).1.2.2.2.2)).1).length) c1,.bool ((replyP 7 ((reqFrom bs).1.2.1) ((reqFrom bs).1.2.2.1) ((reqFrom bs).1.2.2.2.1) ((reqFrom bs).1.2.2.2.2)).2)]) r0 (qt r0 (xt 0 (v:=.slice A1 (((replyP 7 ((reqFrom bs).1.2.1) ((reqFrom bs).1.2.2.1) ((reqFrom bs).1.2.2.2.1) ((reqFrom bs).1.2.2.2.2)).1).length) c1) r0 r0) (qt r0 (xt 1 (v:=.bool ((replyP 7 ((reqFrom bs).1.2.1) ((reqFrom bs).1.2.2.1) ((reqFrom bs).1.2.2.2.1) ((reqFrom bs).1.2.2.2.2)).2)) r0 r0) (tA (.slice A1 (((replyP 7 ((reqFrom bs).1.2.1) ((reqFrom bs).1.2.2.1) ((reqFrom bs).1.2.2.2.1) ((reqFrom bs).1.2.2.2.2)).1).length) c1) r0 (tA (.bool ((replyP 7 ((reqFrom bs).1.2.1) ((reqFrom bs).1.2.2.1) ((reqFrom bs).1.2.2.2.1) ((reqFrom bs).1.2.2.2.2)).2)) r0 (nn ?_)))))
    have hs15:SH w w12 [] [.blk b1 29 (Z0 sx Awt wt cwt Alg lg clg to),(Z5 b2),.own A1 (((replyP 7 ((reqFrom bs).1.2.1) ((reqFrom bs).1.2.2.1) ((reqFrom bs).1.2.2.2.1) ((reqFrom bs).1.2.2.2.2)).1).length) c1 3 1 (((replyP 7 ((reqFrom bs).1.2.1) ((reqFrom bs).1.2.2.1) ((reqFrom bs).1.2.2.2.1) ((reqFrom bs).1.2.2.2.2)).1).map I)]:=hs14.pk [0,1,4] r0
    refine sr (qt r0 (lG (Z0 sx Awt wt cwt Alg lg clg to) hs15 0 r0 ag29) (cL r0 (sL23Next (sx:=sx) (Awt:=Awt) (cwt:=cwt) (wt:=wt) (Alg:=Alg) (clg:=clg) (lg:=lg) (to:=to) (nst:=4) (w:=_) (hwt:=(hwt.up0 hs15)) (hwt_n:=(by(omega))) (hlg:=(hlg.up0 hs15)) (hlg_e:=hlg_e) (hlg_n:=(by(omega)))) ?_))
    rintro _ w13 ⟨Aw3,cw3,Al3,cl3,rfl,hs16⟩
    replace hs16:=hs15.call0 hs16
    refine tm (.slice A1 (((replyP 7 ((reqFrom bs).1.2.1) ((reqFrom bs).1.2.2.1) ((reqFrom bs).1.2.2.2.1) ((reqFrom bs).1.2.2.2.2)).1).length) c1) r0 (sG [I 4,(Z8 Aw3 wt cw3),(Z13 Al3 lg cl3),Str []] hs16 1 r0 ag29 (fun w14 hs17=>?_))
    refine tA (.slice A1 (((replyP 7 ((reqFrom bs).1.2.1) ((reqFrom bs).1.2.2.1) ((reqFrom bs).1.2.2.2.1) ((reqFrom bs).1.2.2.2.2)).1).length) c1) r0 (nn (rt (tR ?_)))
    refine fret (v:=.tuple #[.agg #[I 4,(Z8 Aw3 wt cw3),(Z13 Al3 lg cl3),Str []],.slice A1 (((replyP 7 ((reqFrom bs).1.2.1) ((reqFrom bs).1.2.2.1) ((reqFrom bs).1.2.2.2.1) ((reqFrom bs).1.2.2.2.2)).1).length) c1]) (resC hs17 4 r0 r0 ag29 r0 (.tmp .nil)) r0 ?_
    have e9:4=(sayReq bs).1:=by(rw[sayR_n (by assumption) (Decidable.not_not.1 (by assumption)) (by assumption)]; done)
    have e10:[]=(sayReq bs).2.1:=by(rw[sayR_n (by assumption) (Decidable.not_not.1 (by assumption)) (by assumption)]; done)
    have e11:(replyP 7 ((reqFrom bs).1.2.1) ((reqFrom bs).1.2.2.1) ((reqFrom bs).1.2.2.2.1) ((reqFrom bs).1.2.2.2.2)).1=(sayReq bs).2.2:=by(rw[sayR_n (by assumption) (Decidable.not_not.1 (by assumption)) (by assumption)]; done)
    have e12:=congrArg List.length e11
    exact⟨Aw3,cw3,Al3,cl3,A1,c1,(tup2 (aggv (lc (congrArg (Value.int .i64) e9) (lc r0 (lc r0 (lc (congrArg (Str) e10) r0))))) (slv r0 e12 r0)),((hs17.pq [2,3,1] r0).cast (lc r0 (lc r0 (lc (own_eq (g:=I) r0 e12 r0 e11) r0))))⟩
   ·refine sk (nN (sr (qt r0 (fa 1 fo45_1 r0) (qt r0 (lG [I ((reqFrom bs).1.2.1),.slice Aq1 (((reqFrom bs).1.2.2.1).length) cq1,(Z15 bs),(Z17 bs)] hs5 3 r0 ag43) (cL r0 (sReplyBytes (c:=0) (ak:=(reqFrom bs).1.2.1) (Aaq:=Aq1) (caq:=cq1) (aq:=(reqFrom bs).1.2.2.1) (an:=(reqFrom bs).1.2.2.2.1) (apt:=(reqFrom bs).1.2.2.2.2) (w:=_) (haq:=(hs5.sl0 2 r0)) (han_n:=(by(have hrn:=reqFrom_nm bs; omega)))) ?_)))))
    rintro _ w15 ⟨A2,c2,rfl,hs18⟩
    replace hs18:=hs5.call0 hs18
    refine tm (.tuple #[.slice A2 (((replyP 0 ((reqFrom bs).1.2.1) ((reqFrom bs).1.2.2.1) ((reqFrom bs).1.2.2.2.1) ((reqFrom bs).1.2.2.2.2)).1).length) c2,.bool ((replyP 0 ((reqFrom bs).1.2.1) ((reqFrom bs).1.2.2.1) ((reqFrom bs).1.2.2.2.1) ((reqFrom bs).1.2.2.2.2)).2)]) r0 (qt r0 (xt 0 (v:=.slice A2 (((replyP 0 ((reqFrom bs).1.2.1) ((reqFrom bs).1.2.2.1) ((reqFrom bs).1.2.2.2.1) ((reqFrom bs).1.2.2.2.2)).1).length) c2) r0 r0) (qt r0 (xt 1 (v:=.bool ((replyP 0 ((reqFrom bs).1.2.1) ((reqFrom bs).1.2.2.1) ((reqFrom bs).1.2.2.2.1) ((reqFrom bs).1.2.2.2.2)).2)) r0 r0) (tA (.slice A2 (((replyP 0 ((reqFrom bs).1.2.1) ((reqFrom bs).1.2.2.1) ((reqFrom bs).1.2.2.2.1) ((reqFrom bs).1.2.2.2.2)).1).length) c2) r0 (tA (.bool ((replyP 0 ((reqFrom bs).1.2.1) ((reqFrom bs).1.2.2.1) ((reqFrom bs).1.2.2.2.1) ((reqFrom bs).1.2.2.2.2)).2)) r0 (nn (sq ?_))))))
    refine rg (qt r0 (lG (Z0 sx Awt wt cwt Alg lg clg to) hs18 0 r0 ag29) (cL r0 (sL23Next (sx:=sx) (Awt:=Awt) (cwt:=cwt) (wt:=wt) (Alg:=Alg) (clg:=clg) (lg:=lg) (to:=to) (nst:=3) (w:=_) (hwt:=(hwt.up0 hs18)) (hwt_n:=(by(omega))) (hlg:=(hlg.up0 hs18)) (hlg_e:=hlg_e) (hlg_n:=(by(omega)))) ?_))
    rintro _ w16 ⟨Aw4,cw4,Al4,cl4,rfl,hs19⟩
    replace hs19:=hs18.call0 hs19
    refine al (v:=.agg #[I 0,ns,ns,Str []]) (cs:=[I 0,ns,ns,Str []]) hs19 tz29 r0 trivial r0 (fun b6 w17 hs20=>?_)
    refine sG [I 3,(Z8 Aw4 wt cw4),(Z13 Al4 lg cl4),Str []] hs20 7 r0 ag29 (fun w18 (hs21:SH w w18 [] [.blk b1 29 (Z0 sx Awt wt cwt Alg lg clg to),(Z5 b2),.own Aq1 (((reqFrom bs).1.2.2.1).length) cq1 3 1 (((reqFrom bs).1.2.2.1).map I),.blk b3 45 [I ((reqFrom bs).1.1),I ((reqFrom bs).1.2.1),.slice Aq1 (((reqFrom bs).1.2.2.1).length) cq1,(Z15 bs),(Z17 bs)],.own A2 (((replyP 0 ((reqFrom bs).1.2.1) ((reqFrom bs).1.2.2.1) ((reqFrom bs).1.2.2.2.1) ((reqFrom bs).1.2.2.2.2)).1).length) c2 3 1 (((replyP 0 ((reqFrom bs).1.2.1) ((reqFrom bs).1.2.2.1) ((reqFrom bs).1.2.2.2.1) ((reqFrom bs).1.2.2.2.2)).1).map I),(Z7 Aw4 wt cw4),(Z9 Al4 lg cl4),.blk b6 29 [I 3,(Z8 Aw4 wt cw4),(Z13 Al4 lg cl4),Str []]])=>?_)
    refine nx (qt r0 (fa 1 fo45_1 r0) (qt r0 (lG [I ((reqFrom bs).1.2.1),.slice Aq1 (((reqFrom bs).1.2.2.1).length) cq1,(Z15 bs),(Z17 bs)] hs21 3 r0 ag43) (cL r0 (sAddressText (ak:=(reqFrom bs).1.2.1) (Aaq:=Aq1) (caq:=cq1) (aq:=(reqFrom bs).1.2.2.1) (an:=(reqFrom bs).1.2.2.2.1) (apt:=(reqFrom bs).1.2.2.2.2) (w:=_) (haq:=(hs21.sl0 2 r0)) (han_n:=(by(have hrn:=reqFrom_nm bs; omega)))) ?_)))
    rintro _ w19 ⟨rfl,hs22⟩
    replace hs22:=hs21.call0 hs22
    refine qt r0 (fa 3 fo29_3 r0) (sT (Str (addrT ((reqFrom bs).1.2.1) ((reqFrom bs).1.2.2.1) ((reqFrom bs).1.2.2.2.1) ((reqFrom bs).1.2.2.2.2))) hs22 7 r0 one9 (fun w20 hs23=>?_))
    refine nn ?_
    have hs24:SH w w20 [] [(Z5 b2),.own A2 (((replyP 0 ((reqFrom bs).1.2.1) ((reqFrom bs).1.2.2.1) ((reqFrom bs).1.2.2.2.1) ((reqFrom bs).1.2.2.2.2)).1).length) c2 3 1 (((replyP 0 ((reqFrom bs).1.2.1) ((reqFrom bs).1.2.2.1) ((reqFrom bs).1.2.2.2.1) ((reqFrom bs).1.2.2.2.2)).1).map I),(Z7 Aw4 wt cw4),(Z9 Al4 lg cl4),.blk b6 29 [I 3,(Z8 Aw4 wt cw4),(Z13 Al4 lg cl4),Str (addrT ((reqFrom bs).1.2.1) ((reqFrom bs).1.2.2.1) ((reqFrom bs).1.2.2.2.1) ((reqFrom bs).1.2.2.2.2))]]:=hs23.pk [1,4,5,6,7] r0
    refine sr (qt r0 (lG [I 3,(Z8 Aw4 wt cw4),(Z13 Al4 lg cl4),Str (addrT ((reqFrom bs).1.2.1) ((reqFrom bs).1.2.2.1) ((reqFrom bs).1.2.2.2.1) ((reqFrom bs).1.2.2.2.2))] hs24 4 r0 ag29) (tm (.slice A2 (((replyP 0 ((reqFrom bs).1.2.1) ((reqFrom bs).1.2.2.1) ((reqFrom bs).1.2.2.2.1) ((reqFrom bs).1.2.2.2.2)).1).length) c2) r0 (sG [I 3,(Z8 Aw4 wt cw4),(Z13 Al4 lg cl4),Str (addrT ((reqFrom bs).1.2.1) ((reqFrom bs).1.2.2.1) ((reqFrom bs).1.2.2.2.1) ((reqFrom bs).1.2.2.2.2))] hs24 0 r0 ag29 (fun w21 hs25=>?_))))
    refine tA (.slice A2 (((replyP 0 ((reqFrom bs).1.2.1) ((reqFrom bs).1.2.2.1) ((reqFrom bs).1.2.2.2.1) ((reqFrom bs).1.2.2.2.2)).1).length) c2) r0 (nn (rt (fret (v:=.tuple #[.agg #[I 3,(Z8 Aw4 wt cw4),(Z13 Al4 lg cl4),Str (addrT ((reqFrom bs).1.2.1) ((reqFrom bs).1.2.2.1) ((reqFrom bs).1.2.2.2.1) ((reqFrom bs).1.2.2.2.2))],.slice A2 (((replyP 0 ((reqFrom bs).1.2.1) ((reqFrom bs).1.2.2.1) ((reqFrom bs).1.2.2.2.1) ((reqFrom bs).1.2.2.2.2)).1).length) c2]) (resC hs25 4 r0 r0 ag29 r0 (.tmp .nil)) r0 ?_)))
    have e13:3=(sayReq bs).1:=by(rw[sayR_c (by assumption) (Decidable.not_not.1 (by assumption)) (Decidable.not_not.1 (by assumption))]; done)
    have e14:addrT ((reqFrom bs).1.2.1) ((reqFrom bs).1.2.2.1) ((reqFrom bs).1.2.2.2.1) ((reqFrom bs).1.2.2.2.2)=(sayReq bs).2.1:=by(rw[sayR_c (by assumption) (Decidable.not_not.1 (by assumption)) (Decidable.not_not.1 (by assumption))]; done)
    have e15:(replyP 0 ((reqFrom bs).1.2.1) ((reqFrom bs).1.2.2.1) ((reqFrom bs).1.2.2.2.1) ((reqFrom bs).1.2.2.2.2)).1=(sayReq bs).2.2:=by(rw[sayR_c (by assumption) (Decidable.not_not.1 (by assumption)) (Decidable.not_not.1 (by assumption))]; done)
    have e16:=congrArg List.length e15
    exact⟨Aw4,cw4,Al4,cl4,A2,c2,(tup2 (aggv (lc (congrArg (Value.int .i64) e13) (lc r0 (lc r0 (lc (congrArg (Str) e14) r0))))) (slv r0 e16 r0)),((hs25.pq [1,2,0] r0).cast (lc r0 (lc r0 (lc (own_eq (g:=I) r0 e16 r0 e15) r0))))⟩
theorem sTalkSay (sx:Int) {Awt:Option Addr} {cwt:Nat} (wt:List Int) {Alg:Option Addr} {clg:Nat} (lg:List (List UInt8×List UInt8)) (to:List UInt8) {Abs:Option Addr} {cbs:Nat} (bs:List Int) (w:World) (hwt:Sl w [] 1 Awt wt.length cwt (wt.map I)) (hlg:Sl w [] 2 Alg lg.length clg (lg.flatMap gLogin)) (hlg_e: ∀ u∈lg,u.1.length≤9223372036854775807∧u.2.length≤9223372036854775807) (hto_n:to.length≤1099511627776) (hbs:Sl w [] 1 Abs bs.length cbs (bs.map I)):Does Tryz.prog 12 [.agg #[I sx,.slice Awt wt.length cwt,.slice Alg lg.length clg,Str to],.slice Abs bs.length cbs] w (fun v w'=>∃ Awr:Option Addr,∃ cwr:Nat,∃ Alr:Option Addr,∃ clr:Nat,∃ Ayr:Option Addr,∃ cyr:Nat,v=.tuple #[.agg #[.int .i64 ((talkSay sx wt lg to bs).1.1),.slice Awr ((talkSay sx wt lg to bs).1.2.1).length cwr,.slice Alr ((talkSay sx wt lg to bs).1.2.2.1).length clr,Str ((talkSay sx wt lg to bs).1.2.2.2)],.slice Ayr ((talkSay sx wt lg to bs).2.1).length cyr,.bool ((talkSay sx wt lg to bs).2.2)]∧SH w w' [] [.own Awr (((talkSay sx wt lg to bs).1.2.1).length) cwr 3 1 (((talkSay sx wt lg to bs).1.2.1).map I),.own Alr (((talkSay sx wt lg to bs).1.2.2.1).length) clr 51 2 (((talkSay sx wt lg to bs).1.2.2.1).flatMap gLogin),.own Ayr (((talkSay sx wt lg to bs).2.1).length) cyr 3 1 (((talkSay sx wt lg to bs).2.1).map I)]):=by
 refine fE (N:=57) Tryz.func12 r0 (by kernel_rfl) r0 ?_
 have hs0:SH w w [] []:=SH.refl w []
 have hwt_m:wt.length≤9223372036854775807:=Nat.le_trans hwt.cap hwt.capMax
 have hlg_m:lg.length≤9223372036854775807:=Nat.le_trans hlg.cap hlg.capMax
 have hbs_m:bs.length≤9223372036854775807:=Nat.le_trans hbs.cap hbs.capMax
 refine sr (bx (v:=.agg #[I sx,(Z8 Awt wt cwt),(Z13 Alg lg clg),Str to]) (cs:=(Z0 sx Awt wt cwt Alg lg clg to)) hs0 r0 r0 trivial r0 (fun b1 w1 hs1=>?_))
 refine al (v:=.agg #[I 0,ns,ns,Str []]) (cs:=[I 0,ns,ns,Str []]) hs1 tz29 r0 trivial r0 (fun b2 w2 hs2=>?_)
 refine tA ns r0 (tA (.bool false) r0 (nn (sq (sr (qt r0 (lG (Z0 sx Awt wt cwt Alg lg clg to) hs2 0 r0 ag29) ?_)))))
 refine cL r0 (sTalkValid (sx:=sx) (Awt:=Awt) (cwt:=cwt) (wt:=wt) (Alg:=Alg) (clg:=clg) (lg:=lg) (to:=to) (w:=_) (hwt:=(hwt.up0 hs2)) (hlg:=(hlg.up0 hs2)) (hlg_e:=hlg_e) (hto_n:=(by(omega)))) ?_
 rintro _ w3 ⟨rfl,hs3⟩
 replace hs3:=hs2.call0 hs3
 refine qt r0 (nt (b:=talkOk sx wt lg to) r0) (tm (.bool (!(talkOk sx wt lg to))) r0 ?_)
 refine spl (b:=!(talkOk sx wt lg to)) 16 r0 (fun h1=>?_) (fun h1=>?_)
 ·have h2:(talkOk sx wt lg to)=false:=by simpa using h1
  refine gt5 r0 (gt5 r0 (gt5 r0 (qt r0 (pt (v:=.bool true) r0 r0) (nn (cdt r0 (sq ?_))))))
  refine rg (qt r0 (bdv (v:=.agg #[I 0,ns,ns,Str []]) [] r0 (fun _=>by kernel_rfl)) (bsk hs3 sl22 [] [] trivial r0 (fun b3 w4 hs4=>?_)))
  refine sG [I 0,ns,ns,Str []] hs4 1 r0 ag29 (fun w5 hs5=>?_)
  refine tA (sb b3 (([]:List Int).length) 0) r0 (tA (.bool false) r0 (nn (rt (tR ?_))))
  refine fret (v:=.tuple #[.agg #[I 0,ns,ns,Str []],sb b3 (([]:List Int).length) 0,.bool false]) (resC hs5 2 r0 r0 ag29 r0 (.tmp (.tmp .nil))) r0 ?_
  have hs6:SH w w5 [] [.blk b1 29 (Z0 sx Awt wt cwt Alg lg clg to),oI b3 ([]:List Int) 0 3,(Z5 b2),.own none (([]:List Int).length) 0 3 1 (([]:List Int).map I)]:=SH.nils (by intro i hi; simp at hi; subst hi; exact nilItem) hs5
  have hs7:=hs6.nl [.own none (([]:List (List UInt8×List UInt8)).length) 0 51 2 (([]:List (List UInt8×List UInt8)).flatMap gLogin)] r0
  have e1:talkSay sx wt lg to bs=((0,([]:List Int),([]:List (List UInt8×List UInt8)),[]),([]:List Int),false):=by exact talkSay_no (.inl (by assumption))
  have e2:=pj11 e1
  have e3:=pj121 e1
  have e4:=congrArg List.length e3
  have e5:=pj1221 e1
  have e6:=congrArg List.length e5
  have e7:=pj1222 e1
  have e8:=pj21 e1
  have e9:=congrArg List.length e8
  have e10:=pj22 e1
  exact⟨none,0,none,0,(some ⟨b3,0,none⟩),0,(tup3 (aggv (lc (congrArg (Value.int .i64) e2) (lc (slv r0 e4 r0) (lc (slv r0 e6 r0) (lc (congrArg (Str) e7) r0))))) (slv r0 e9 r0) (congrArg (Value.bool) e10)),((hs7.pq [3,4,1] r0).cast (lc (own_eq (g:=I) r0 e4 r0 e3) (lc (own_eqf (g:=gLogin) r0 e6 r0 e5) (lc (own_eq (g:=I) r0 e9 r0 e8) r0))))⟩
 ·have h3:(talkOk sx wt lg to)=true:=by simpa using h1
  refine q ⟨_,rfl,rfl⟩ r0 r0 (mv (v:=.slice Abs bs.length cbs) r0) (cl ⟨_,rfl,rfl⟩ r0 (sBytesValid (Azs:=Abs) (czs:=cbs) (zs:=bs) (w:=_) (hzs:=(hbs.up0 hs3))) ?_)
  rintro _ w6 ⟨rfl,hs8⟩
  replace hs8:=hs3.call0 hs8
  refine q ⟨_,rfl,rfl⟩ r0 r0 (nt (b:=isBytes bs) r0) (qt r0 (pf (v:=.bool (!(isBytes bs))) r0 r0) (nn ?_))
  refine cd (b:=!(isBytes bs)) r0 (fun h4=>?_) (fun h4=>?_)
  ·have h5:(isBytes bs)=false:=by simpa using h4
   refine sr (qt r0 (bdv (v:=.agg #[I 0,ns,ns,Str []]) [] r0 (fun _=>by kernel_rfl)) (bsk hs8 sl22 [] [] trivial r0 (fun b4 w7 (hs9:SH w w7 [] [.blk b1 29 (Z0 sx Awt wt cwt Alg lg clg to),(Z5 b2),oI b4 ([]:List Int) 0 3])=>?_)))
   refine sG [I 0,ns,ns,Str []] hs9 1 r0 ag29 (fun w8 hs10=>?_)
   refine tA (sb b4 (([]:List Int).length) 0) r0 (tA (.bool false) r0 (nn (rt (tR ?_))))
   refine fret (v:=.tuple #[.agg #[I 0,ns,ns,Str []],sb b4 (([]:List Int).length) 0,.bool false]) (resC hs10 2 r0 r0 ag29 r0 (.tmp (.tmp .nil))) r0 ?_
   have hs11:=hs10.nl [.own none (([]:List Int).length) 0 3 1 (([]:List Int).map I)] r0
   have hs12:SH w w8 [] [.blk b1 29 (Z0 sx Awt wt cwt Alg lg clg to),oI b4 ([]:List Int) 0 3,(Z5 b2),.own none (([]:List Int).length) 0 3 1 (([]:List Int).map I),.own none (([]:List (List UInt8×List UInt8)).length) 0 51 2 (([]:List (List UInt8×List UInt8)).flatMap gLogin)]:=SH.nils (by intro i hi; simp at hi; subst hi; exact nilItemF) hs11
   have e11:talkSay sx wt lg to bs=((0,([]:List Int),([]:List (List UInt8×List UInt8)),[]),([]:List Int),false):=by exact talkSay_no (.inr (.inl (by assumption)))
   have e12:=pj11 e11
   have e13:=pj121 e11
   have e14:=congrArg List.length e13
   have e15:=pj1221 e11
   have e16:=congrArg List.length e15
   have e17:=pj1222 e11
   have e18:=pj21 e11
   have e19:=congrArg List.length e18
   have e20:=pj22 e11
   exact⟨none,0,none,0,(some ⟨b4,0,none⟩),0,(tup3 (aggv (lc (congrArg (Value.int .i64) e12) (lc (slv r0 e14 r0) (lc (slv r0 e16 r0) (lc (congrArg (Str) e17) r0))))) (slv r0 e19 r0) (congrArg (Value.bool) e20)),((hs12.pq [3,4,1] r0).cast (lc (own_eq (g:=I) r0 e14 r0 e13) (lc (own_eqf (g:=gLogin) r0 e16 r0 e15) (lc (own_eq (g:=I) r0 e19 r0 e18) r0))))⟩
  ·have h6:(isBytes bs)=true:=by simpa using h4
   refine sk (nN (sq (sr (qt r0 (fa 0 fo29_0 r0) (qt r0 (lD (I sx) hs8 0 r0 one3) (nl ?_))))))
   refine nN (bl (sr (qt r0 (eqi (k:=.i64) (a:=sx) (b:=0) r0 r0) (tA (.bool (decide (sx=0))) r0 (nn ?_)))))
   refine cdd (p:=sx=0) r0 (fun h7=>?_) (fun h7=>?_)
   ·refine sr (qt r0 (lG (Z0 sx Awt wt cwt Alg lg clg to) hs8 0 r0 ag29) (tm (Z4 Abs bs cbs) r0 (cL r0 (sL23Hello (sx:=sx) (Awt:=Awt) (cwt:=cwt) (wt:=wt) (Alg:=Alg) (clg:=clg) (lg:=lg) (to:=to) (Abs:=Abs) (cbs:=cbs) (bs:=bs) (w:=_) (hwt:=(hwt.up0 hs8)) (hwt_n:=(by(have htp:=talkOk_parts (by assumption:talkOk sx wt lg to=true); have hmw:=methOk_len htp.2.1; omega))) (hlg:=(hlg.up0 hs8)) (hlg_e:=hlg_e) (hlg_n:=(by(have htp:=talkOk_parts (by assumption:talkOk sx wt lg to=true); have hmw:=methOk_len htp.2.1; omega))) (hbs:=(hbs.up0 hs8))) ?_)))
    rintro _ w9 ⟨Aw1,cw1,Al1,cl1,Ay1,cy1,rfl,hs13⟩
    replace hs13:=hs8.call0 hs13
    refine tm (.tuple #[.agg #[I ((sayHello wt bs).1),(Z8 Aw1 wt cw1),(Z13 Al1 lg cl1),Str []],.slice Ay1 (((sayHello wt bs).2).length) cy1]) r0 (qt r0 (xt 0 (v:=.agg #[I ((sayHello wt bs).1),(Z8 Aw1 wt cw1),(Z13 Al1 lg cl1),Str []]) r0 r0) (qt r0 (xt 1 (v:=.slice Ay1 (((sayHello wt bs).2).length) cy1) r0 r0) (al (v:=.agg #[I 0,ns,ns,Str []]) (cs:=[I 0,ns,ns,Str []]) hs13 tz29 r0 trivial r0 (fun b5 w10 hs14=>?_))))
    refine sG [I ((sayHello wt bs).1),(Z8 Aw1 wt cw1),(Z13 Al1 lg cl1),Str []] hs14 5 r0 ag29 (fun w11 (hs15:SH w w11 [] [.blk b1 29 (Z0 sx Awt wt cwt Alg lg clg to),(Z5 b2),(Z7 Aw1 wt cw1),(Z9 Al1 lg cl1),.own Ay1 (((sayHello wt bs).2).length) cy1 3 1 (((sayHello wt bs).2).map I),.blk b5 29 [I ((sayHello wt bs).1),(Z8 Aw1 wt cw1),(Z13 Al1 lg cl1),Str []]])=>?_)
    refine tA (.slice Ay1 (((sayHello wt bs).2).length) cy1) r0 (nx (qt r0 (lG [I ((sayHello wt bs).1),(Z8 Aw1 wt cw1),(Z13 Al1 lg cl1),Str []] hs15 5 r0 ag29) (tm (.slice Ay1 (((sayHello wt bs).2).length) cy1) r0 (sG [I ((sayHello wt bs).1),(Z8 Aw1 wt cw1),(Z13 Al1 lg cl1),Str []] hs15 1 r0 ag29 (fun w12 hs16=>?_)))))
    refine tA (.slice Ay1 (((sayHello wt bs).2).length) cy1) r0 (tA (.bool true) r0 (nn ?_))
    have hs17:=hs16.pq [1,2,3,5] r0
    refine rt (bR (tR ?_))
    refine fret (v:=.tuple #[.agg #[I ((sayHello wt bs).1),(Z8 Aw1 wt cw1),(Z13 Al1 lg cl1),Str []],.slice Ay1 (((sayHello wt bs).2).length) cy1,.bool true]) (resC hs17 3 r0 r0 ag29 r0 (.tmp (.tmp .nil))) r0 ?_
    have e21:talkSay sx wt lg to bs=(((sayHello wt bs).1,wt,lg,[]),(sayHello wt bs).2,true):=by exact talkSay_0n (by assumption) (by assumption) (by assumption)
    have e22:=pj11 e21
    have e23:=pj121 e21
    have e24:=congrArg List.length e23
    have e25:=pj1221 e21
    have e26:=congrArg List.length e25
    have e27:=pj1222 e21
    have e28:=pj21 e21
    have e29:=congrArg List.length e28
    have e30:=pj22 e21
    exact⟨Aw1,cw1,Al1,cl1,Ay1,cy1,(tup3 (aggv (lc (congrArg (Value.int .i64) e22) (lc (slv r0 e24 r0) (lc (slv r0 e26 r0) (lc (congrArg (Str) e27) r0))))) (slv r0 e29 r0) (congrArg (Value.bool) e30)),((hs17.pq [0,1,2] r0).cast (lc (own_eq (g:=I) r0 e24 r0 e23) (lc (own_eqf (g:=gLogin) r0 e26 r0 e25) (lc (own_eq (g:=I) r0 e29 r0 e28) r0))))⟩
   ·refine sr (qt r0 (eqi (k:=.i64) (a:=sx) (b:=1) r0 r0) (tA (.bool (decide (sx=1))) r0 (nn ?_)))
    refine cdd (p:=sx=1) r0 (fun h8=>?_) (fun h8=>?_)
    ·refine sr (qt r0 (lG (Z0 sx Awt wt cwt Alg lg clg to) hs8 0 r0 ag29) (tm (Z4 Abs bs cbs) r0 (cL r0 (sL23Login (sx:=sx) (Awt:=Awt) (cwt:=cwt) (wt:=wt) (Alg:=Alg) (clg:=clg) (lg:=lg) (to:=to) (Abs:=Abs) (cbs:=cbs) (bs:=bs) (w:=_) (hwt:=(hwt.up0 hs8)) (hwt_n:=(by(have htp:=talkOk_parts (by assumption:talkOk sx wt lg to=true); have hmw:=methOk_len htp.2.1; omega))) (hlg:=(hlg.up0 hs8)) (hlg_e:=hlg_e) (hlg_n:=(by(have htp:=talkOk_parts (by assumption:talkOk sx wt lg to=true); have hmw:=methOk_len htp.2.1; omega))) (hbs:=(hbs.up0 hs8))) ?_)))
     rintro _ w13 ⟨Aw2,cw2,Al2,cl2,Ay2,cy2,rfl,hs18⟩
     replace hs18:=hs8.call0 hs18
     refine tm (.tuple #[.agg #[I ((sayLogin lg bs).1),(Z8 Aw2 wt cw2),(Z13 Al2 lg cl2),Str []],.slice Ay2 (((sayLogin lg bs).2).length) cy2]) r0 (qt r0 (xt 0 (v:=.agg #[I ((sayLogin lg bs).1),(Z8 Aw2 wt cw2),(Z13 Al2 lg cl2),Str []]) r0 r0) (qt r0 (xt 1 (v:=.slice Ay2 (((sayLogin lg bs).2).length) cy2) r0 r0) (al (v:=.agg #[I 0,ns,ns,Str []]) (cs:=[I 0,ns,ns,Str []]) hs18 tz29 r0 trivial r0 (fun b6 w14 hs19=>?_))))
     refine sG [I ((sayLogin lg bs).1),(Z8 Aw2 wt cw2),(Z13 Al2 lg cl2),Str []] hs19 5 r0 ag29 (fun w15 hs20=>?_)
     refine tA (.slice Ay2 (((sayLogin lg bs).2).length) cy2) r0 (nx (qt r0 (lG [I ((sayLogin lg bs).1),(Z8 Aw2 wt cw2),(Z13 Al2 lg cl2),Str []] hs20 5 r0 ag29) (tm (.slice Ay2 (((sayLogin lg bs).2).length) cy2) r0 (sG [I ((sayLogin lg bs).1),(Z8 Aw2 wt cw2),(Z13 Al2 lg cl2),Str []] hs20 1 r0 ag29 (fun w16 (hs21:SH w w16 [] [.blk b1 29 (Z0 sx Awt wt cwt Alg lg clg to),(Z7 Aw2 wt cw2),(Z9 Al2 lg cl2),.own Ay2 (((sayLogin lg bs).2).length) cy2 3 1 (((sayLogin lg bs).2).map I),.blk b6 29 [I ((sayLogin lg bs).1),(Z8 Aw2 wt cw2),(Z13 Al2 lg cl2),Str []],.blk b2 29 [I ((sayLogin lg bs).1),(Z8 Aw2 wt cw2),(Z13 Al2 lg cl2),Str []]])=>?_)))))
     refine tA (.slice Ay2 (((sayLogin lg bs).2).length) cy2) r0 (tA (.bool true) r0 (nn ?_))
     have hs22:=hs21.pq [1,2,3,5] r0
     refine rt (bR (tR ?_))
     refine fret (v:=.tuple #[.agg #[I ((sayLogin lg bs).1),(Z8 Aw2 wt cw2),(Z13 Al2 lg cl2),Str []],.slice Ay2 (((sayLogin lg bs).2).length) cy2,.bool true]) (resC hs22 3 r0 r0 ag29 r0 (.tmp (.tmp .nil))) r0 ?_
     have e31:talkSay sx wt lg to bs=(((sayLogin lg bs).1,wt,lg,[]),(sayLogin lg bs).2,true):=by exact talkSay_1n (by assumption) (by assumption) (by assumption)
     have e32:=pj11 e31
     have e33:=pj121 e31
     have e34:=congrArg List.length e33
     have e35:=pj1221 e31
     have e36:=congrArg List.length e35
     have e37:=pj1222 e31
     have e38:=pj21 e31
     have e39:=congrArg List.length e38
     have e40:=pj22 e31
     exact⟨Aw2,cw2,Al2,cl2,Ay2,cy2,(tup3 (aggv (lc (congrArg (Value.int .i64) e32) (lc (slv r0 e34 r0) (lc (slv r0 e36 r0) (lc (congrArg (Str) e37) r0))))) (slv r0 e39 r0) (congrArg (Value.bool) e40)),((hs22.pq [0,1,2] r0).cast (lc (own_eq (g:=I) r0 e34 r0 e33) (lc (own_eqf (g:=gLogin) r0 e36 r0 e35) (lc (own_eq (g:=I) r0 e39 r0 e38) r0))))⟩
    ·refine sr (qt r0 (eqi (k:=.i64) (a:=sx) (b:=2) r0 r0) (tA (.bool (decide (sx=2))) r0 (nn ?_)))
     refine cdd (p:=sx=2) r0 (fun h9=>?_) (fun h9=>?_)
     ·refine sr (qt r0 (lG (Z0 sx Awt wt cwt Alg lg clg to) hs8 0 r0 ag29) (tm (Z4 Abs bs cbs) r0 (cL r0 (sL23Request (sx:=sx) (Awt:=Awt) (cwt:=cwt) (wt:=wt) (Alg:=Alg) (clg:=clg) (lg:=lg) (to:=to) (Abs:=Abs) (cbs:=cbs) (bs:=bs) (w:=_) (hwt:=(hwt.up0 hs8)) (hwt_n:=(by(have htp:=talkOk_parts (by assumption:talkOk sx wt lg to=true); have hmw:=methOk_len htp.2.1; omega))) (hlg:=(hlg.up0 hs8)) (hlg_e:=hlg_e) (hlg_n:=(by(have htp:=talkOk_parts (by assumption:talkOk sx wt lg to=true); have hmw:=methOk_len htp.2.1; omega))) (hbs:=(hbs.up0 hs8))) ?_)))
      rintro _ w17 ⟨Aw3,cw3,Al3,cl3,Ay3,cy3,rfl,hs23⟩
      replace hs23:=hs8.call0 hs23
      refine tm (.tuple #[.agg #[I ((sayReq bs).1),(Z8 Aw3 wt cw3),(Z13 Al3 lg cl3),Str ((sayReq bs).2.1)],.slice Ay3 (((sayReq bs).2.2).length) cy3]) r0 (qt r0 (xt 0 (v:=.agg #[I ((sayReq bs).1),(Z8 Aw3 wt cw3),(Z13 Al3 lg cl3),Str ((sayReq bs).2.1)]) r0 r0) (qt r0 (xt 1 (v:=.slice Ay3 (((sayReq bs).2.2).length) cy3) r0 r0) (al (v:=.agg #[I 0,ns,ns,Str []]) (cs:=[I 0,ns,ns,Str []]) hs23 tz29 r0 trivial r0 (fun b7 w18 (hs24:SH w w18 [] [.blk b1 29 (Z0 sx Awt wt cwt Alg lg clg to),(Z5 b2),(Z7 Aw3 wt cw3),(Z9 Al3 lg cl3),.own Ay3 (((sayReq bs).2.2).length) cy3 3 1 (((sayReq bs).2.2).map I),(Z5 b7)])=>?_))))
      refine sG [I ((sayReq bs).1),(Z8 Aw3 wt cw3),(Z13 Al3 lg cl3),Str ((sayReq bs).2.1)] hs24 5 r0 ag29 (fun w19 hs25=>?_)
      refine tA (.slice Ay3 (((sayReq bs).2.2).length) cy3) r0 (nx (qt r0 (lG [I ((sayReq bs).1),(Z8 Aw3 wt cw3),(Z13 Al3 lg cl3),Str ((sayReq bs).2.1)] hs25 5 r0 ag29) (tm (.slice Ay3 (((sayReq bs).2.2).length) cy3) r0 (sG [I ((sayReq bs).1),(Z8 Aw3 wt cw3),(Z13 Al3 lg cl3),Str ((sayReq bs).2.1)] hs25 1 r0 ag29 (fun w20 hs26=>?_)))))
      refine tA (.slice Ay3 (((sayReq bs).2.2).length) cy3) r0 (tA (.bool true) r0 (nn ?_))
      have hs27:SH w w20 [] [(Z7 Aw3 wt cw3),(Z9 Al3 lg cl3),.own Ay3 (((sayReq bs).2.2).length) cy3 3 1 (((sayReq bs).2.2).map I),.blk b2 29 [I ((sayReq bs).1),(Z8 Aw3 wt cw3),(Z13 Al3 lg cl3),Str ((sayReq bs).2.1)]]:=hs26.pk [1,2,3,5] r0
      refine rt (bR (tR ?_))
      refine fret (v:=.tuple #[.agg #[I ((sayReq bs).1),(Z8 Aw3 wt cw3),(Z13 Al3 lg cl3),Str ((sayReq bs).2.1)],.slice Ay3 (((sayReq bs).2.2).length) cy3,.bool true]) (resC hs27 3 r0 r0 ag29 r0 (.tmp (.tmp .nil))) r0 ?_
      have e41:talkSay sx wt lg to bs=(((sayReq bs).1,wt,lg,(sayReq bs).2.1),(sayReq bs).2.2,true):=by exact talkSay_2 (by assumption) (by assumption) (by assumption)
      have e42:=pj11 e41
      have e43:=pj121 e41
      have e44:=congrArg List.length e43
      have e45:=pj1221 e41
      have e46:=congrArg List.length e45
      have e47:=pj1222 e41
      have e48:=pj21 e41
      have e49:=congrArg List.length e48
      have e50:=pj22 e41
      exact⟨Aw3,cw3,Al3,cl3,Ay3,cy3,(tup3 (aggv (lc (congrArg (Value.int .i64) e42) (lc (slv r0 e44 r0) (lc (slv r0 e46 r0) (lc (congrArg (Str) e47) r0))))) (slv r0 e49 r0) (congrArg (Value.bool) e50)),((hs27.pq [0,1,2] r0).cast (lc (own_eq (g:=I) r0 e44 r0 e43) (lc (own_eqf (g:=gLogin) r0 e46 r0 e45) (lc (own_eq (g:=I) r0 e49 r0 e48) r0))))⟩
     ·refine sk (bN (nN (sr (qt r0 (bdv (v:=.agg #[I 0,ns,ns,Str []]) [] r0 (fun _=>by kernel_rfl)) (bsk hs8 sl22 [] [] trivial r0 (fun b8 w21 hs28=>?_))))))
      refine sG [I 0,ns,ns,Str []] hs28 1 r0 ag29 (fun w22 hs29=>?_)
      refine tA (sb b8 (([]:List Int).length) 0) r0 (tA (.bool false) r0 (nn (rt (fret (v:=.tuple #[.agg #[I 0,ns,ns,Str []],sb b8 (([]:List Int).length) 0,.bool false]) (resC hs29 2 r0 r0 ag29 r0 (.tmp (.tmp .nil))) r0 ?_))))
      have hs30:SH w w22 [] [.blk b1 29 (Z0 sx Awt wt cwt Alg lg clg to),oI b8 ([]:List Int) 0 3,(Z5 b2),.own none (([]:List Int).length) 0 3 1 (([]:List Int).map I)]:=SH.nils (by intro i hi; simp at hi; subst hi; exact nilItem) hs29
      have hs31:=hs30.nl [.own none (([]:List (List UInt8×List UInt8)).length) 0 51 2 (([]:List (List UInt8×List UInt8)).flatMap gLogin)] r0
      have e51:talkSay sx wt lg to bs=((0,([]:List Int),([]:List (List UInt8×List UInt8)),[]),([]:List Int),false):=by exact talkSay_no (.inr (.inr (by have htp:=talkOk_parts (by assumption:talkOk sx wt lg to=true); have hmw:=methOk_len htp.2.1; omega)))
      have e52:=pj11 e51
      have e53:=pj121 e51
      have e54:=congrArg List.length e53
      have e55:=pj1221 e51
      have e56:=congrArg List.length e55
      have e57:=pj1222 e51
      have e58:=pj21 e51
      have e59:=congrArg List.length e58
      have e60:=pj22 e51
      exact⟨none,0,none,0,(some ⟨b8,0,none⟩),0,(tup3 (aggv (lc (congrArg (Value.int .i64) e52) (lc (slv r0 e54 r0) (lc (slv r0 e56 r0) (lc (congrArg (Str) e57) r0))))) (slv r0 e59 r0) (congrArg (Value.bool) e60)),((hs31.pq [3,4,1] r0).cast (lc (own_eq (g:=I) r0 e54 r0 e53) (lc (own_eqf (g:=gLogin) r0 e56 r0 e55) (lc (own_eq (g:=I) r0 e59 r0 e58) r0))))⟩
theorem sameLogins {Axs:Option Addr} {cxs:Nat} (xs:List (List UInt8×List UInt8)) {Abs:Option Addr} {cbs:Nat} (bs:List (List UInt8×List UInt8)) (w:World) (hxs:Sl w [] 2 Axs xs.length cxs (xs.flatMap gLogin)) (hxs_e: ∀ u∈xs,u.1.length≤9223372036854775807∧u.2.length≤9223372036854775807) (hbs:Sl w [] 2 Abs bs.length cbs (bs.flatMap gLogin)) (hbs_e: ∀ u∈bs,u.1.length≤9223372036854775807∧u.2.length≤9223372036854775807):Does Tryz.prog 59 [.slice Axs xs.length cxs,.slice Abs bs.length cbs] w (fun v w'=>v=.bool (decide (xs=bs))∧SH w w' [] []):=by
 refine fE (N:=26) Tryz.func59 r0 (by kernel_rfl) r0 ?_
 have hs0:=SH.refl w []
 have hxs_m:xs.length≤9223372036854775807:=Nat.le_trans hxs.cap hxs.capMax
 have hbs_m:bs.length≤9223372036854775807:=Nat.le_trans hbs.cap hbs.capMax
 refine sr (tA (.bool false) r0 (nn (sq (sr ?_))))
 refine tm (.slice Axs xs.length cxs) r0 (qt r0 (lnA (n:=xs.length) sl27 r0) (tm (.slice Abs bs.length cbs) r0 (qt r0 (lnA (n:=bs.length) sl27 r0) (qt r0 (nei (k:=.i64) (a:=(xs.length:Int)) (b:=(bs.length:Int)) r0 r0) (nn ?_)))))
 refine cdd (p:=(xs.length:Int)≠(bs.length:Int)) r0 (fun h1=>?_) (fun h1=>?_)
 ·refine sr (tA (.bool false) r0 (nn (rt (tR ?_))))
  refine fT (.bool false) r0 ?_
  have e1:false=(decide (xs=bs)):=by simp; intro h; subst h; exact h1 r0
  exact⟨(congrArg (Value.bool) e1),hs0⟩
 ·refine sk (nN (sq (sr (tA (I 0) r0 (nn ?_)))))
  refine bl (lp (σ:=Nat) (fun(k:Nat) f w'=>Hz f [(0,.slice Axs xs.length cxs),(1,.slice Abs bs.length cbs),(5,I (k:Int))]∧(xs.length=bs.length)∧(k≤xs.length)∧(xs.take k=bs.take k)∧SH w w' [] []) (fun k=>xs.length-k) 0 ⟨(zR r0),(by omega),(by simp),(by simp),hs0⟩ ?_)
  rintro k f w1 ⟨⟨g1,rfl⟩,hl,hk,ha,hs1⟩
  refine sq (sr (tm (I (k:Int)) r0 (tm (.slice Axs xs.length cxs) r0 (qt r0 (lnA (n:=xs.length) sl27 r0) (qt r0 (lss (k:=.i64) (a:=(k:Int)) (b:=(xs.length:Int)) r0 r0) (nl ?_))))))
  refine nN ?_
  refine cdd (p:=(k:Int)<(xs.length:Int)) r0 (fun h2=>?_) (fun h2=>?_)
  ·refine sk (nN (sq (bl (sq (rq (fun w'=>SH w w' [] []) mixed (by kernel_rfl) hs1.drew (qA r0 (mv (v:=.slice Axs xs.length cxs) r0) (qA r0 (mv (v:=I (k:Int)) r0) ?_)))))))
   refine ixqf (g:=gLogin) (zs:=xs) (fun _=>rfl) login0 k sl27 r0 r0 hxs (by omega) (by omega) trivial r0 (fun a1 ha1=>?_)
   refine qB r0 (fun hsq=>ldag (us:=[Str ((xs.getD k login0).1),Str ((xs.getD k login0).2)]) hsq ha1 (fun _ h=>h) r0 r0 ag51) (qA r0 (mv (v:=.slice Abs bs.length cbs) r0) (qA r0 (mv (v:=I (k:Int)) r0) (ixqf (g:=gLogin) (zs:=bs) (fun _=>rfl) login0 k sl27 r0 r0 hbs (by omega) (by omega) trivial r0 (fun a2 ha2=>?_))))
   refine qB r0 (fun hsq=>ldag (us:=[Str ((bs.getD k login0).1),Str ((bs.getD k login0).2)]) hsq ha2 (fun _ h=>h) r0 r0 ag51) (qA r0 (ne2 (a:=(xs.getD k login0).1) (b:=(xs.getD k login0).2) (c:=(bs.getD k login0).1) (e:=(bs.getD k login0).2) s2_51 r0 r0) (qn (fun w2 hs2=>?_)))
   refine nN ?_
   refine cdd (p:=¬ ((xs.getD k login0).1=(bs.getD k login0).1∧(xs.getD k login0).2=(bs.getD k login0).2)) r0 (fun h3=>?_) (fun h3=>?_)
   ·refine sr (tA (.bool false) r0 (nn ?_))
    refine rt (bR (tR (tR (bR (tR ?_)))))
    refine fT (.bool false) r0 ?_
    have e2:false=(decide (xs=bs)):=by simp; intro h; subst h; exact h3 ⟨rfl,rfl⟩
    exact⟨(congrArg (Value.bool) e2),hs2⟩
   ·refine sk (bN (nN (rg (tm (I (k:Int)) r0 (qt r0 (add (a:=(k:Int)) (b:=1) r0 r0 (by exact⟨by omega,by omega⟩)) (tA (I ((k:Int)+1)) r0 (nl ?_)))))))
    refine nN ?_
    refine⟨(k+1),⟨(zR r0),(hl),(by omega),(take_succ_eq (d:=login0) (by omega) (by omega) ha (lg_ext (by exact Decidable.not_not.1 (by assumption)))),hs2⟩,?_⟩
    omega
  ·refine ex (tE (tE (bE ?_)))
   refine nN (sr (tA (.bool true) r0 (nn (rt (fT (.bool true) r0 ?_)))))
   have e3:true=(decide (xs=bs)):=by simp; exact take_all_eq hl (by omega) ha
   exact⟨(congrArg (Value.bool) e3),hs1⟩
theorem sameTalk (sa:Int) {Awa:Option Addr} {cwa:Nat} (wa:List Int) {Ala:Option Addr} {cla:Nat} (la:List (List UInt8×List UInt8)) (ta:List UInt8) (sb:Int) {Awb:Option Addr} {cwb:Nat} (wb:List Int) {Alb:Option Addr} {clb:Nat} (lb:List (List UInt8×List UInt8)) (tb:List UInt8) (w:World) (hwa:Sl w [] 1 Awa wa.length cwa (wa.map I)) (hla:Sl w [] 2 Ala la.length cla (la.flatMap gLogin)) (hla_e: ∀ u∈la,u.1.length≤9223372036854775807∧u.2.length≤9223372036854775807) (hwb:Sl w [] 1 Awb wb.length cwb (wb.map I)) (hlb:Sl w [] 2 Alb lb.length clb (lb.flatMap gLogin)) (hlb_e: ∀ u∈lb,u.1.length≤9223372036854775807∧u.2.length≤9223372036854775807):Does Tryz.prog 24 [.agg #[I sa,.slice Awa wa.length cwa,.slice Ala la.length cla,Str ta],.agg #[I sb,.slice Awb wb.length cwb,.slice Alb lb.length clb,Str tb]] w (fun v w'=>v=.bool (decide (sa=sb∧wa=wb∧la=lb∧ta=tb))∧SH w w' [] []):=by
 refine fE (N:=31) Tryz.func24 r0 (by kernel_rfl) r0 ?_
 have hs0:=SH.refl w []
 have hwa_m:wa.length≤9223372036854775807:=Nat.le_trans hwa.cap hwa.capMax
 have hla_m:la.length≤9223372036854775807:=Nat.le_trans hla.cap hla.capMax
 have hwb_m:wb.length≤9223372036854775807:=Nat.le_trans hwb.cap hwb.capMax
 have hlb_m:lb.length≤9223372036854775807:=Nat.le_trans hlb.cap hlb.capMax
 refine sr (bx (v:=.agg #[I sa,(Z8 Awa wa cwa),(Z13 Ala la cla),Str ta]) (cs:=(Z0 sa Awa wa cwa Ala la cla ta)) hs0 r0 r0 trivial r0 (fun b1 w1 hs1=>?_))
 refine bx (v:=.agg #[I sb,(Z8 Awb wb cwb),(Z13 Alb lb clb),Str tb]) (cs:=(Z0 sb Awb wb cwb Alb lb clb tb)) hs1 r0 r0 trivial r0 (fun b2 w2 hs2=>?_)
 refine tA (.bool false) r0 (nx (qt r0 (fa 0 fo29_0 r0) (qt r0 (lD (I sa) hs2 0 r0 one3) (qt r0 (fa 0 fo29_0 r0) ?_))))
 refine qt r0 (lD (I sb) hs2 1 r0 one3) (qt r0 (eqi (k:=.i64) (a:=sa) (b:=sb) r0 r0) (tm (.bool (decide (sa=sb))) r0 ?_))
 refine spd (p:=sa=sb) 10 r0 (fun h1=>?_) (fun h1=>?_)
 ·refine q ⟨_,rfl,rfl⟩ r0 r0 (fa 3 fo29_3 r0) (q ⟨_,rfl,rfl⟩ r0 r0 (lD (Str ta) hs2 0 r0 one9) (q ⟨_,rfl,rfl⟩ r0 r0 (fa 3 fo29_3 r0) (q ⟨_,rfl,rfl⟩ r0 r0 (lD (Str tb) hs2 1 r0 one9) (q ⟨_,rfl,rfl⟩ r0 r0 (eqs (l:=ta) (m:=tb) r0 r0) (qt r0 (pt (v:=.bool (decide (ta=tb))) r0 r0) (tm (.bool (decide (ta=tb))) r0 ?_))))))
  refine spd (p:=ta=tb) 17 r0 (fun h2=>?_) (fun h2=>?_)
  ·refine q ⟨_,rfl,rfl⟩ r0 r0 (fa 1 fo29_1 r0) (q ⟨_,rfl,rfl⟩ r0 r0 (lD (Z4 Awa wa cwa) hs2 0 r0 one22) (q ⟨_,rfl,rfl⟩ r0 r0 (fa 1 fo29_1 r0) (q ⟨_,rfl,rfl⟩ r0 r0 (lD (Z4 Awb wb cwb) hs2 1 r0 one22) (cl ⟨_,rfl,rfl⟩ r0 (sameBytes (Axs:=Awa) (cxs:=cwa) (xs:=wa) (Abs:=Awb) (cbs:=cwb) (bs:=wb) (w:=_) (hxs:=(hwa.up0 hs2)) (hbs:=(hwb.up0 hs2))) ?_))))
   rintro _ w3 ⟨rfl,hs3⟩
   replace hs3:=hs2.call0 hs3
   refine qt r0 (pt (v:=.bool (decide (wa=wb))) r0 r0) (tm (.bool (decide (wa=wb))) r0 ?_)
   refine spd (p:=wa=wb) 24 r0 (fun h3=>?_) (fun h3=>?_)
   ·refine q ⟨_,rfl,rfl⟩ r0 r0 (fa 2 fo29_2 r0) (q ⟨_,rfl,rfl⟩ r0 r0 (lD (.slice Ala la.length cla) hs3 0 r0 one27) (q ⟨_,rfl,rfl⟩ r0 r0 (fa 2 fo29_2 r0) (q ⟨_,rfl,rfl⟩ r0 r0 (lD (.slice Alb lb.length clb) hs3 1 r0 one27) (cl ⟨_,rfl,rfl⟩ r0 (sameLogins (Axs:=Ala) (cxs:=cla) (xs:=la) (Abs:=Alb) (cbs:=clb) (bs:=lb) (w:=_) (hxs:=(hla.up0 hs3)) (hxs_e:=hla_e) (hbs:=(hlb.up0 hs3)) (hbs_e:=hlb_e)) ?_))))
    rintro _ w4 ⟨rfl,hs4⟩
    replace hs4:=hs3.call0 hs4
    refine qt r0 (pt (v:=.bool (decide (la=lb))) r0 r0) (tA (.bool (decide (la=lb))) r0 (nn (rt (fT (.bool (decide (la=lb))) r0 ?_))))
    have e1:(decide (la=lb))=(decide (sa=sb∧wa=wb∧la=lb∧ta=tb)):=by simp[h1,h2,h3] <;> simp_all
    exact⟨(congrArg (Value.bool) e1),(hs4.pk [] r0)⟩
   ·refine gf5 r0 (gf5 r0 (gf5 r0 (gf5 r0 (gf5 r0 (qt r0 (pf (v:=.bool false) r0 r0) (tA (.bool false) r0 (nl ?_)))))))
    refine nN (rt (fT (.bool false) r0 ?_))
    have e2:false=(decide (sa=sb∧wa=wb∧la=lb∧ta=tb)):=by simp[h1,h2,h3] <;> simp_all
    exact⟨(congrArg (Value.bool) e2),(hs3.pk [] r0)⟩
  ·refine gf5 r0 (gf5 r0 (gf5 r0 (gf5 r0 (gf5 r0 (qt r0 (pf (v:=.bool false) r0 r0) (tm (.bool false) r0 (gf5 r0 ?_)))))))
   refine gf5 r0 (gf5 r0 (gf5 r0 (gf5 r0 (qt r0 (pf (v:=.bool false) r0 r0) (tA (.bool false) r0 (nn ?_))))))
   refine rt (fT (.bool false) r0 ?_)
   have e3:false=(decide (sa=sb∧wa=wb∧la=lb∧ta=tb)):=by simp[h1,h2] <;> simp_all
   exact⟨(congrArg (Value.bool) e3),(hs2.pk [] r0)⟩
 ·refine gf5 r0 (gf5 r0 (gf5 r0 (gf5 r0 (gf5 r0 (qt r0 (pf (v:=.bool false) r0 r0) (tm (.bool false) r0 (gf5 r0 ?_)))))))
  refine gf5 r0 (gf5 r0 (gf5 r0 (gf5 r0 (qt r0 (pf (v:=.bool false) r0 r0) (tm (.bool false) r0 (gf5 r0 (gf5 r0 ?_)))))))
  refine gf5 r0 (gf5 r0 (gf5 r0 (qt r0 (pf (v:=.bool false) r0 r0) (tA (.bool false) r0 (nn (rt ?_))))))
  refine fT (.bool false) r0 ?_
  have e4:false=(decide (sa=sb∧wa=wb∧la=lb∧ta=tb)):=by simp[h1] <;> simp_all
  exact⟨(congrArg (Value.bool) e4),(hs2.pk [] r0)⟩
theorem l91Changed {rb:Nat} {Ab:Option Addr} {cb:Nat} {bs:List UInt8} {p:Nat} {Axs:Option Addr} {cxs:Nat} (xs:List Int) (w:World) (hr:w.heap[rb]?=some (.cells [.slice Ab bs.length cb,.int .i64 (p:Int)].toArray 124 (0,0))) (hb:Sl w ([rb]++(ownM Axs cxs++[])) 1 Ab bs.length cb (bs.map U)) (hbn:bs.length≤2000) (hp:p≤68719476736) (hxr: ∀ k,(It.own Axs xs.length cxs 3 1 (xs.map I)).has k→ ¬ (It.blk rb 124 [.slice Ab bs.length cb,.int .i64 (p:Int)]).has k) (hxs:OwnR w Axs xs.length cxs 3 1 (xs.map I)) (hxs_n:xs.length≤2147483648):Does Tryz.prog 58 [pB rb,.slice Axs xs.length cxs] w (fun v w'=>∃ Ar:Option Addr,∃ cr:Nat,∃ r:List Int,∃ q:Nat,v=.slice Ar r.length cr∧(r.length≤xs.length+3)∧(q≤p+40)∧SH w w' ([rb]++(ownM Axs cxs++[])) [.blk rb 124 [.slice Ab bs.length cb,I (q:Int)],.own Ar r.length cr 3 1 (r.map I)]):=by
 refine fE (N:=36) Tryz.func58 r0 (by kernel_rfl) r0 ?_
 have hs0:SH w w ([rb]++(ownM Axs cxs++[])) [(Z3 rb Ab bs cb p),(Z7 Axs xs cxs)]:=entryB hr hxs hxr
 have hxs_m:xs.length≤9223372036854775807:=Nat.le_trans hxs.2.1 hxs.2.2.1
 refine sr (tA ns r0 (nn (sq (sr ?_))))
 refine tm (Z4 Axs xs cxs) r0 (qt r0 (lnA (n:=xs.length) sl22 r0) (qt r0 (eqi (k:=.i64) (a:=(xs.length:Int)) (b:=0) r0 r0) (nn ?_)))
 refine cdd (p:=(xs.length:Int)=0) r0 (fun h1=>?_) (fun h1=>?_)
 ·refine sr (bsk hs0 sl22 [I 5,I 1,I 0] [I 5,I 1,I 0] trivial r0 (fun b1 w1 hs1=>?_))
  refine tA (sb b1 (([5,1,0]:List Int).length) 3) r0 (nn (rt (tR ?_)))
  refine fT (sb b1 (([5,1,0]:List Int).length) 3) r0 ?_
  exact⟨(Z2 b1),3,([5,1,0]:List Int),p,rfl,(by(simp; done)),(by omega),(hs1.pk [0,2] r0)⟩
 ·refine sk (nN (sr (tm (pB rb) r0 (tm (Z4 Axs xs cxs) r0 (qt r0 (lnA (n:=xs.length) sl22 r0) (cL r0 (pick (rb:=rb) (Ab:=Ab) (cb:=cb) (bs:=bs) (p:=p) (n:=(xs.length:Int)) (w:=_) (hr:=(blk_heap hs0 0 r0)) (hb:=(hb.up hs0 (fun _ h=>h) (fun _ h=>.inl (List.mem_append_left _ h)))) (hbn:=(by assumption)) (hp:=(by omega))) ?_))))))
  rintro _ w2 ⟨r1,q1,rfl,p1,p2,hs2⟩
  replace hs2:=hs0.callM 0 r0 hs2 m_1
  refine tA (I r1) r0 (nn (sq (sr (tm (pB rb) r0 (cL r0 (pick (rb:=rb) (Ab:=Ab) (cb:=cb) (bs:=bs) (p:=q1) (n:=7) (w:=_) (hr:=(blk_heap hs2 1 r0)) (hb:=(hb.up hs2 (fun _ h=>h) (fun _ h=>.inl (List.mem_append_left _ h)))) (hbn:=(by assumption)) (hp:=(by omega))) ?_)))))
  rintro _ w3 ⟨r2,q2,rfl,p3,p4,hs3⟩
  replace hs3:=hs2.callM 1 r0 hs3 m_1
  refine nn (bl (sr (qt r0 (eqi (k:=.i64) (a:=r2) (b:=0) r0 r0) (tA (.bool (decide (r2=0))) r0 (nl ?_)))))
  refine nN ?_
  refine cdd (p:=r2=0) r0 (fun h2=>?_) (fun h2=>?_)
  ·refine rg (tm (Z4 Axs xs cxs) r0 (tm (I r1) r0 (tm (pB rb) r0 (cL r0 (pick (rb:=rb) (Ab:=Ab) (cb:=cb) (bs:=bs) (p:=q2) (n:=256) (w:=_) (hr:=(blk_heap hs3 1 r0)) (hb:=(hb.up hs3 (fun _ h=>h) (fun _ h=>.inl (List.mem_append_left _ h)))) (hbn:=(by assumption)) (hp:=(by omega))) ?_))))
   rintro _ w4 ⟨r3,q3,rfl,p5,p6,hs4⟩
   replace hs4:=hs3.callM 1 r0 hs4 m_1
   obtain ⟨b2,rfl⟩:=own_form hs4 0 r0 (by omega)
   refine qt r0 (ixo r1.toNat sl22 r0 (ieq (x:=r1) (by omega)) (by omega)) (stomn (g:=I) (ys:=xs) (o:=r1.toNat) (u:=r3) hs4 0 r0 r0 r0 r0 (by omega) r0 one3 trivial (fun w5 hs5=>?_))
   refine nl (bN (nN (sr (tm (sb b2 xs.length cxs) r0 (tA (sb b2 xs.length cxs) r0 ?_)))))
   have e1:xs.length=(xs.set r1.toNat r3).length:=by(simp; done)
   have hs6:SH w w5 ([rb]++(ownM (Z2 b2) cxs++[])) [(Z3 rb Ab bs cb q3),oI b2 (xs.set r1.toNat r3) cxs 3]:=(hs5.cast (lc r0 (lc (own_eq (g:=I) r0 e1 r0 r0) r0)))
   refine re 4 (v:=sb b2 ((xs.set r1.toNat r3).length) cxs) (show (sb b2 xs.length cxs:Value)=sb b2 ((xs.set r1.toNat r3).length) cxs from slv r0 e1 r0) (nn (rt (fT (sb b2 ((xs.set r1.toNat r3).length) cxs) r0 ?_)))
   exact⟨(Z2 b2),cxs,xs.set r1.toNat r3,q3,rfl,(by omega),(by omega),hs6⟩
  ·refine sr (qt r0 (eqi (k:=.i64) (a:=r2) (b:=1) r0 r0) (tA (.bool (decide (r2=1))) r0 (nn ?_)))
   refine cdd (p:=r2=1) r0 (fun h3=>?_) (fun h3=>?_)
   ·refine sr (tm (Z4 Axs xs cxs) r0 (tm (I r1) r0 ?_))
    have e2:(xs.map I).take (r1.toNat*1)=(xs.take r1.toNat).map I:=by simp[List.map_take]
    have hs7:SH w w3 ([rb]++(ownM Axs cxs++[])) [(Z3 rb Ab bs cb q2),.own Axs r1.toNat cxs 3 1 ((xs.take r1.toNat).map I)]:=e2 ▸ SH.trunc hs3 0 (r1.toNat) r0 (by omega)
    refine qt r0 (cuh r1.toNat sl22 r0 (ieq (x:=r1) (by omega)) (Nat.le_trans (by omega) (own_cap hs3 0 r0).1)) (tA (.slice Axs r1.toNat cxs) r0 ?_)
    have e3:r1.toNat=(xs.take r1.toNat).length:=by(simp; omega)
    have hs8:SH w w3 ([rb]++(ownM Axs cxs++[])) [(Z3 rb Ab bs cb q2),.own Axs ((xs.take r1.toNat).length) cxs 3 1 ((xs.take r1.toNat).map I)]:=(hs7.cast (lc r0 (lc (own_eq (g:=I) r0 e3 r0 r0) r0)))
    refine re 4 (v:=.slice Axs ((xs.take r1.toNat).length) cxs) (show (.slice Axs r1.toNat cxs:Value)=.slice Axs ((xs.take r1.toNat).length) cxs from slv r0 e3 r0) (nn ?_)
    refine rt (bR (tR ?_))
    refine fT (.slice Axs ((xs.take r1.toNat).length) cxs) r0 ?_
    exact⟨Axs,cxs,xs.take r1.toNat,q2,rfl,(by omega),(by omega),hs8⟩
   ·refine sq (sr (qt r0 (eqi (k:=.i64) (a:=r2) (b:=2) r0 r0) (tA (.bool (decide (r2=2))) r0 (nn ?_))))
    refine cdd (p:=r2=2) r0 (fun h4=>?_) (fun h4=>?_)
    ·refine sk (nN ?_)
     refine cdd (p:=r2=2) r0 (fun h5=>?_) (fun h5=>?_)
     ·refine sr (tm (Z4 Axs xs cxs) r0 (tm (pB rb) r0 (cL r0 (l91Bytes (rb:=rb) (Ab:=Ab) (cb:=cb) (bs:=bs) (p:=q2) (n:=3) (w:=_) (hr:=(blk_heap hs3 1 r0)) (hb:=(hb.up hs3 (fun _ h=>h) (fun _ h=>.inl (List.mem_append_left _ h)))) (hbn:=(by assumption)) (hp:=(by omega)) (hn:=(by omega))) ?_)))
      rintro _ w6 ⟨A1,c1,r4,q4,rfl,p7,p8,hs9⟩
      replace hs9:=hs3.callM 1 r0 hs9 m_1
      refine apm (g:=I) (ys:=xs) (zs:=r4) hs9 0 r0 sl22 r0 r0 r0 (hs9.sl0 2 r0) (fun _=>rfl) (by unfold maxLen; omega) (by omega) trivial r0 (fun A2 c2 w7 hs10=>?_)
      refine tA (.slice A2 ((xs++r4).length) c2) r0 (nn ?_)
      refine rt (bR (tR ?_))
      refine fT (.slice A2 ((xs++r4).length) c2) r0 ?_
      exact⟨A2,c2,xs++r4,q4,rfl,(by(simp; omega)),(by omega),(hs10.pk [0,2] r0)⟩
     ·refine sk (bN (nN (sr (tm (Z4 Axs xs cxs) r0 (tA (Z4 Axs xs cxs) r0 (nl ?_))))))
      refine nN (rt (fT (Z4 Axs xs cxs) r0 ?_))
      exact⟨Axs,cxs,xs,q2,rfl,(by omega),(by omega),(hs3.pk [1,0] r0)⟩
    ·refine rg (qt r0 (eqi (k:=.i64) (a:=r2) (b:=3) r0 r0) (tA (.bool (decide (r2=3))) r0 (nn ?_)))
     refine cdd (p:=r2=3) r0 (fun h6=>?_) (fun h6=>?_)
     ·refine sr (tm (Z4 Axs xs cxs) r0 (tm (pB rb) r0 (cL r0 (l91Bytes (rb:=rb) (Ab:=Ab) (cb:=cb) (bs:=bs) (p:=q2) (n:=3) (w:=_) (hr:=(blk_heap hs3 1 r0)) (hb:=(hb.up hs3 (fun _ h=>h) (fun _ h=>.inl (List.mem_append_left _ h)))) (hbn:=(by assumption)) (hp:=(by omega)) (hn:=(by omega))) ?_)))
      rintro _ w8 ⟨A3,c3,r5,q5,rfl,p9,p10,hs11⟩
      replace hs11:=hs3.callM 1 r0 hs11 m_1
      refine apm (g:=I) (ys:=xs) (zs:=r5) hs11 0 r0 sl22 r0 r0 r0 (hs11.sl0 2 r0) (fun _=>rfl) (by unfold maxLen; omega) (by omega) trivial r0 (fun A4 c4 w9 hs12=>?_)
      refine tA (.slice A4 ((xs++r5).length) c4) r0 (nn ?_)
      refine rt (bR (tR ?_))
      refine fT (.slice A4 ((xs++r5).length) c4) r0 ?_
      exact⟨A4,c4,xs++r5,q5,rfl,(by(simp; omega)),(by omega),(hs12.pk [0,2] r0)⟩
     ·refine sk (bN (nN (sr (tm (Z4 Axs xs cxs) r0 (tA (Z4 Axs xs cxs) r0 (nl ?_))))))
      refine nN (rt (fT (Z4 Axs xs cxs) r0 ?_))
      exact⟨Axs,cxs,xs,q2,rfl,(by omega),(by omega),(hs3.pk [1,0] r0)⟩
theorem l92Next {rb:Nat} {Ab:Option Addr} {cb:Nat} {bs:List UInt8} {p:Nat} (sx:Int) {Awt:Option Addr} {cwt:Nat} (wt:List Int) {Alg:Option Addr} {clg:Nat} (lg:List (List UInt8×List UInt8)) (to:List UInt8) (w:World) (hr:w.heap[rb]?=some (.cells [.slice Ab bs.length cb,.int .i64 (p:Int)].toArray 124 (0,0))) (hb:Sl w [rb] 1 Ab bs.length cb (bs.map U)) (hbn:bs.length≤2000) (hp:p≤17179869184) (hwt:Sl w [rb] 1 Awt wt.length cwt (wt.map I)) (hlg:Sl w [rb] 2 Alg lg.length clg (lg.flatMap gLogin)) (hlg_e: ∀ u∈lg,u.1.length≤9223372036854775807∧u.2.length≤9223372036854775807):Does Tryz.prog 56 [pB rb,.agg #[I sx,.slice Awt wt.length cwt,.slice Alg lg.length clg,Str to]] w (fun v w'=>∃ Ar:Option Addr,∃ cr:Nat,∃ r:List Int,∃ q:Nat,v=.slice Ar r.length cr∧(r.length≤30)∧(q≤p+100)∧SH w w' [rb] [.blk rb 124 [.slice Ab bs.length cb,I (q:Int)],.own Ar r.length cr 3 1 (r.map I)]):=by
 refine fE (N:=51) Tryz.func56 r0 (by kernel_rfl) r0 ?_
 have hs0:=SH.entry1 hr
 have hwt_m:wt.length≤9223372036854775807:=Nat.le_trans hwt.cap hwt.capMax
 have hlg_m:lg.length≤9223372036854775807:=Nat.le_trans hlg.cap hlg.capMax
 refine sr (bx (v:=.agg #[I sx,(Z8 Awt wt cwt),(Z13 Alg lg clg),Str to]) (cs:=(Z0 sx Awt wt cwt Alg lg clg to)) hs0 r0 r0 trivial r0 (fun b1 w1 hs1=>?_))
 refine tA ns r0 (nn (sq (sr (qt r0 (fa 0 fo29_0 r0) (qt r0 (lD (I sx) hs1 1 r0 one3) ?_)))))
 refine nn (bl (sr (qt r0 (eqi (k:=.i64) (a:=sx) (b:=0) r0 r0) (tA (.bool (decide (sx=0))) r0 (nl ?_)))))
 refine nN ?_
 refine cdd (p:=sx=0) r0 (fun h1=>?_) (fun h1=>?_)
 ·refine sr (bsk hs1 sl22 [I 0] [I 0] trivial r0 (fun b2 w2 hs2=>?_))
  refine bsk hs2 sl22 [I 2] [I 2] trivial r0 (fun b3 w3 hs3=>?_)
  refine bsk hs3 sl22 [I 0,I 2] [I 0,I 2] trivial r0 (fun b4 w4 hs4=>?_)
  refine bsk hs4 sl22 [I 1] [I 1] trivial r0 (fun b5 w5 hs5=>?_)
  refine bsk hs5 sl91 [sb b2 (([0]:List Int).length) 1,sb b3 (([2]:List Int).length) 1,sb b4 (([0,2]:List Int).length) 2,sb b5 (([1]:List Int).length) 1] [sb b2 (([0]:List Int).length) 1,sb b3 (([2]:List Int).length) 1,sb b4 (([0,2]:List Int).length) 2,sb b5 (([1]:List Int).length) 1] trivial r0 (fun b6 w6 hs6=>?_)
  refine tm (pB rb) r0 (cL r0 (pick (rb:=rb) (Ab:=Ab) (cb:=cb) (bs:=bs) (p:=p) (n:=4) (w:=_) (hr:=(blk_heap hs6 0 r0)) (hb:=(hb.up hs6 (fun _ h=>h) (fun _ h=>.inl h))) (hbn:=(by assumption)) (hp:=(by omega))) ?_)
  rintro _ w7 ⟨r1,q1,rfl,p1,p2,hs7⟩
  replace hs7:=hs6.callM 0 r0 hs7 m_1
  refine qt r0 (ixo r1.toNat sl91 r0 (ieq (x:=r1) (by omega)) (by omega)) (qt r0 (ldoHd (L:=Z10) (ys:=([(⟨(Z2 b2),1,([0]:List Int)⟩:Hd),(⟨(Z2 b3),1,([2]:List Int)⟩:Hd),(⟨(Z2 b4),2,([0,2]:List Int)⟩:Hd),(⟨(Z2 b5),1,([1]:List Int)⟩:Hd)]:List Hd)) (o:=r1.toNat) r0 hs7 5 r0 r0 (by(simp; omega)) one22) (cL r0 (sHelloBytes (Ams:=(([(⟨(Z2 b2),1,([0]:List Int)⟩:Hd),(⟨(Z2 b3),1,([2]:List Int)⟩:Hd),(⟨(Z2 b4),2,([0,2]:List Int)⟩:Hd),(⟨(Z2 b5),1,([1]:List Int)⟩:Hd)]:List Hd).getD r1.toNat hd0).A) (cms:=(([(⟨(Z2 b2),1,([0]:List Int)⟩:Hd),(⟨(Z2 b3),1,([2]:List Int)⟩:Hd),(⟨(Z2 b4),2,([0,2]:List Int)⟩:Hd),(⟨(Z2 b5),1,([1]:List Int)⟩:Hd)]:List Hd).getD r1.toNat hd0).c) (ms:=Z10.getD r1.toNat []) (w:=_) (hms:=(hd_at2 (L:=Z10) r0 (fa_cons (hs7.sl0 1 r0) (fa_cons (hs7.sl0 2 r0) (fa_cons (hs7.sl0 3 r0) (fa_cons (hs7.sl0 4 r0) fa_nil)))) (by(simp; omega))))) ?_))
  rintro _ w8 ⟨A1,c1,rfl,hs8⟩
  replace hs8:=hs7.call0 hs8
  refine tm (.tuple #[.slice A1 (((helloP (Z10.getD r1.toNat [])).1).length) c1,.bool ((helloP (Z10.getD r1.toNat [])).2)]) r0 (qt r0 (xt 0 (v:=.slice A1 (((helloP (Z10.getD r1.toNat [])).1).length) c1) r0 r0) (qt r0 (xt 1 (v:=.bool ((helloP (Z10.getD r1.toNat [])).2)) r0 r0) (tA (.slice A1 (((helloP (Z10.getD r1.toNat [])).1).length) c1) r0 (tA (.bool ((helloP (Z10.getD r1.toNat [])).2)) r0 (nn ?_)))))
  have hs9:=hs8.pq [6,7] r0
  refine sr (tm (.slice A1 (((helloP (Z10.getD r1.toNat [])).1).length) c1) r0 (tA (.slice A1 (((helloP (Z10.getD r1.toNat [])).1).length) c1) r0 (nn ?_)))
  refine rt (bR (tR ?_))
  refine fT (.slice A1 (((helloP (Z10.getD r1.toNat [])).1).length) c1) r0 ?_
  exact⟨A1,c1,(helloP (Z10.getD r1.toNat [])).1,q1,rfl,(by exact Nat.le_trans (helloP_len _) (by decide)),(by omega),hs9⟩
 ·refine sr (qt r0 (eqi (k:=.i64) (a:=sx) (b:=1) r0 r0) (tA (.bool (decide (sx=1))) r0 (nn ?_)))
  refine cdd (p:=sx=1) r0 (fun h2=>?_) (fun h2=>?_)
  ·refine sr (qt r0 (bdv (v:=.agg #[Str [97,110,110],Str [97,98,99]]) [(0,Str [97,110,110]),(1,Str [97,98,99])] r0 (fun _=>by kernel_rfl)) (qt r0 (bdv (v:=.agg #[Str [98,111,98],Str [57]]) [(0,Str [98,111,98]),(1,Str [57])] r0 (fun _=>by kernel_rfl)) (qt r0 (bdv (v:=.agg #[Str [98,111,98],Str [97,98,99]]) [(0,Str [98,111,98]),(1,Str [97,98,99])] r0 (fun _=>by kernel_rfl)) (bsk hs1 sl27 [.agg #[Str [97,110,110],Str [97,98,99]],.agg #[Str [98,111,98],Str [57]],.agg #[Str [98,111,98],Str [97,98,99]]] [Str [97,110,110],Str [97,98,99],Str [98,111,98],Str [57],Str [98,111,98],Str [97,98,99]] trivial r0 (fun b7 w9 hs10=>?_)))))
   refine tm (pB rb) r0 (cL r0 (pick (rb:=rb) (Ab:=Ab) (cb:=cb) (bs:=bs) (p:=p) (n:=3) (w:=_) (hr:=(blk_heap hs10 0 r0)) (hb:=(hb.up hs10 (fun _ h=>h) (fun _ h=>.inl h))) (hbn:=(by assumption)) (hp:=(by omega))) ?_)
   rintro _ w10 ⟨r2,q2,rfl,p3,p4,hs11⟩
   replace hs11:=hs10.callM 0 r0 hs11 m_1
   refine qt r0 (ixo r2.toNat sl27 r0 (ieq (x:=r2) (by omega)) (by omega)) (qt r0 (ldofg (g:=gLogin) (ys:=([(([97,110,110],[97,98,99]):List UInt8×List UInt8),(([98,111,98],[57]):List UInt8×List UInt8),(([98,111,98],[97,98,99]):List UInt8×List UInt8)]:List (List UInt8×List UInt8))) (o:=r2.toNat) (vs:=[Str ((([(([97,110,110],[97,98,99]):List UInt8×List UInt8),(([98,111,98],[57]):List UInt8×List UInt8),(([98,111,98],[97,98,99]):List UInt8×List UInt8)]:List (List UInt8×List UInt8)).getD r2.toNat login0).1),Str ((([(([97,110,110],[97,98,99]):List UInt8×List UInt8),(([98,111,98],[57]):List UInt8×List UInt8),(([98,111,98],[97,98,99]):List UInt8×List UInt8)]:List (List UInt8×List UInt8)).getD r2.toNat login0).2)]) login0 (fun _=>rfl) hs11 1 r0 r0 (by(simp; omega)) r0 ag51) (cL r0 (sLoginBytes (lu:=(([(([97,110,110],[97,98,99]):List UInt8×List UInt8),(([98,111,98],[57]):List UInt8×List UInt8),(([98,111,98],[97,98,99]):List UInt8×List UInt8)]:List (List UInt8×List UInt8)).getD r2.toNat login0).1) (lw:=(([(([97,110,110],[97,98,99]):List UInt8×List UInt8),(([98,111,98],[57]):List UInt8×List UInt8),(([98,111,98],[97,98,99]):List UInt8×List UInt8)]:List (List UInt8×List UInt8)).getD r2.toNat login0).2) (w:=_) (hlu_n:=(by(have h3_:=three_login r2.toNat; omega))) (hlw_n:=(by(have h3_:=three_login r2.toNat; omega)))) ?_))
   rintro _ w11 ⟨A2,c2,rfl,hs12⟩
   replace hs12:=hs11.call0 hs12
   refine tm (.tuple #[.slice A2 (((loginP ((([(([97,110,110],[97,98,99]):List UInt8×List UInt8),(([98,111,98],[57]):List UInt8×List UInt8),(([98,111,98],[97,98,99]):List UInt8×List UInt8)]:List (List UInt8×List UInt8)).getD r2.toNat login0).1) ((([(([97,110,110],[97,98,99]):List UInt8×List UInt8),(([98,111,98],[57]):List UInt8×List UInt8),(([98,111,98],[97,98,99]):List UInt8×List UInt8)]:List (List UInt8×List UInt8)).getD r2.toNat login0).2)).1).length) c2,.bool ((loginP ((([(([97,110,110],[97,98,99]):List UInt8×List UInt8),(([98,111,98],[57]):List UInt8×List UInt8),(([98,111,98],[97,98,99]):List UInt8×List UInt8)]:List (List UInt8×List UInt8)).getD r2.toNat login0).1) ((([(([97,110,110],[97,98,99]):List UInt8×List UInt8),(([98,111,98],[57]):List UInt8×List UInt8),(([98,111,98],[97,98,99]):List UInt8×List UInt8)]:List (List UInt8×List UInt8)).getD r2.toNat login0).2)).2)]) r0 (qt r0 (xt 0 (v:=.slice A2 (((loginP ((([(([97,110,110],[97,98,99]):List UInt8×List UInt8),(([98,111,98],[57]):List UInt8×List UInt8),(([98,111,98],[97,98,99]):List UInt8×List UInt8)]:List (List UInt8×List UInt8)).getD r2.toNat login0).1) ((([(([97,110,110],[97,98,99]):List UInt8×List UInt8),(([98,111,98],[57]):List UInt8×List UInt8),(([98,111,98],[97,98,99]):List UInt8×List UInt8)]:List (List UInt8×List UInt8)).getD r2.toNat login0).2)).1).length) c2) r0 r0) (qt r0 (xt 1 (v:=.bool ((loginP ((([(([97,110,110],[97,98,99]):List UInt8×List UInt8),(([98,111,98],[57]):List UInt8×List UInt8),(([98,111,98],[97,98,99]):List UInt8×List UInt8)]:List (List UInt8×List UInt8)).getD r2.toNat login0).1) ((([(([97,110,110],[97,98,99]):List UInt8×List UInt8),(([98,111,98],[57]):List UInt8×List UInt8),(([98,111,98],[97,98,99]):List UInt8×List UInt8)]:List (List UInt8×List UInt8)).getD r2.toNat login0).2)).2)) r0 r0) (tA (.slice A2 (((loginP ((([(([97,110,110],[97,98,99]):List UInt8×List UInt8),(([98,111,98],[57]):List UInt8×List UInt8),(([98,111,98],[97,98,99]):List UInt8×List UInt8)]:List (List UInt8×List UInt8)).getD r2.toNat login0).1) ((([(([97,110,110],[97,98,99]):List UInt8×List UInt8),(([98,111,98],[57]):List UInt8×List UInt8),(([98,111,98],[97,98,99]):List UInt8×List UInt8)]:List (List UInt8×List UInt8)).getD r2.toNat login0).2)).1).length) c2) r0 (tA (.bool ((loginP ((([(([97,110,110],[97,98,99]):List UInt8×List UInt8),(([98,111,98],[57]):List UInt8×List UInt8),(([98,111,98],[97,98,99]):List UInt8×List UInt8)]:List (List UInt8×List UInt8)).getD r2.toNat login0).1) ((([(([97,110,110],[97,98,99]):List UInt8×List UInt8),(([98,111,98],[57]):List UInt8×List UInt8),(([98,111,98],[97,98,99]):List UInt8×List UInt8)]:List (List UInt8×List UInt8)).getD r2.toNat login0).2)).2)) r0 (nn ?_)))))
   have hs13:=hs12.pq [2,3] r0
   refine sr (tm (.slice A2 (((loginP ((([(([97,110,110],[97,98,99]):List UInt8×List UInt8),(([98,111,98],[57]):List UInt8×List UInt8),(([98,111,98],[97,98,99]):List UInt8×List UInt8)]:List (List UInt8×List UInt8)).getD r2.toNat login0).1) ((([(([97,110,110],[97,98,99]):List UInt8×List UInt8),(([98,111,98],[57]):List UInt8×List UInt8),(([98,111,98],[97,98,99]):List UInt8×List UInt8)]:List (List UInt8×List UInt8)).getD r2.toNat login0).2)).1).length) c2) r0 (tA (.slice A2 (((loginP ((([(([97,110,110],[97,98,99]):List UInt8×List UInt8),(([98,111,98],[57]):List UInt8×List UInt8),(([98,111,98],[97,98,99]):List UInt8×List UInt8)]:List (List UInt8×List UInt8)).getD r2.toNat login0).1) ((([(([97,110,110],[97,98,99]):List UInt8×List UInt8),(([98,111,98],[57]):List UInt8×List UInt8),(([98,111,98],[97,98,99]):List UInt8×List UInt8)]:List (List UInt8×List UInt8)).getD r2.toNat login0).2)).1).length) c2) r0 (nn ?_)))
   refine rt (bR (tR ?_))
   refine fT (.slice A2 (((loginP ((([(([97,110,110],[97,98,99]):List UInt8×List UInt8),(([98,111,98],[57]):List UInt8×List UInt8),(([98,111,98],[97,98,99]):List UInt8×List UInt8)]:List (List UInt8×List UInt8)).getD r2.toNat login0).1) ((([(([97,110,110],[97,98,99]):List UInt8×List UInt8),(([98,111,98],[57]):List UInt8×List UInt8),(([98,111,98],[97,98,99]):List UInt8×List UInt8)]:List (List UInt8×List UInt8)).getD r2.toNat login0).2)).1).length) c2) r0 ?_
   exact⟨A2,c2,(loginP ((([(([97,110,110],[97,98,99]):List UInt8×List UInt8),(([98,111,98],[57]):List UInt8×List UInt8),(([98,111,98],[97,98,99]):List UInt8×List UInt8)]:List (List UInt8×List UInt8)).getD r2.toNat login0).1) ((([(([97,110,110],[97,98,99]):List UInt8×List UInt8),(([98,111,98],[57]):List UInt8×List UInt8),(([98,111,98],[97,98,99]):List UInt8×List UInt8)]:List (List UInt8×List UInt8)).getD r2.toNat login0).2)).1,q2,rfl,(by exact Nat.le_trans (loginP_len _ _) (by decide)),(by omega),hs13⟩
  ·refine sk (bN (nN (sr (tm (pB rb) r0 (cL r0 (l92Request (rb:=rb) (Ab:=Ab) (cb:=cb) (bs:=bs) (p:=p) (w:=_) (hr:=(blk_heap hs1 0 r0)) (hb:=(hb.up hs1 (fun _ h=>h) (fun _ h=>.inl h))) (hbn:=(by assumption)) (hp:=(by omega))) ?_)))))
   rintro _ w12 ⟨Aq1,cq1,cm1,ak1,aq1,an1,apt1,q3,rfl,p5,p6,p7,hs14⟩
   replace hs14:=hs1.callM 0 r0 hs14 m_1
   refine cL r0 (sRequestBytes (n:=cm1) (ak:=ak1) (Aaq:=Aq1) (caq:=cq1) (aq:=aq1) (an:=an1) (apt:=apt1) (w:=_) (haq:=(hs14.sl0 2 r0)) (han_n:=(by omega))) ?_
   rintro _ w13 ⟨A3,c3,rfl,hs15⟩
   replace hs15:=hs14.call0 hs15
   refine tm (.tuple #[.slice A3 (((reqP cm1 ak1 aq1 an1 apt1).1).length) c3,.bool ((reqP cm1 ak1 aq1 an1 apt1).2)]) r0 (qt r0 (xt 0 (v:=.slice A3 (((reqP cm1 ak1 aq1 an1 apt1).1).length) c3) r0 r0) (qt r0 (xt 1 (v:=.bool ((reqP cm1 ak1 aq1 an1 apt1).2)) r0 r0) (tA (.slice A3 (((reqP cm1 ak1 aq1 an1 apt1).1).length) c3) r0 (tA (.bool ((reqP cm1 ak1 aq1 an1 apt1).2)) r0 (nn ?_)))))
   have hs16:=hs15.pq [1,3] r0
   refine sr (tm (.slice A3 (((reqP cm1 ak1 aq1 an1 apt1).1).length) c3) r0 (tA (.slice A3 (((reqP cm1 ak1 aq1 an1 apt1).1).length) c3) r0 (nn (rt (fT (.slice A3 (((reqP cm1 ak1 aq1 an1 apt1).1).length) c3) r0 ?_)))))
   exact⟨A3,c3,(reqP cm1 ak1 aq1 an1 apt1).1,q3,rfl,(by exact Nat.le_trans (reqP_len _ _ _ _ _) (by decide)),(by omega),hs16⟩
set_option maxHeartbeats 8000000 in
theorem l92Talk {rb:Nat} {Ab:Option Addr} {cb:Nat} {bs:List UInt8} {p:Nat} (w:World) (hr:w.heap[rb]?=some (.cells [.slice Ab bs.length cb,.int .i64 (p:Int)].toArray 124 (0,0))) (hb:Sl w [rb] 1 Ab bs.length cb (bs.map U)) (hbn:bs.length≤2000) (hp:p≤4294967296):Does Tryz.prog 55 [pB rb] w (fun v w'=>∃ Awr:Option Addr,∃ cwr:Nat,∃ Alr:Option Addr,∃ clr:Nat,∃ sx:Int,∃ wt:List Int,∃ lg:List Lg,∃ to:List UInt8,∃ q:Nat,v=.agg #[.int .i64 sx,.slice Awr wt.length cwr,.slice Alr lg.length clr,Str to]∧(wt.length≤8)∧(lg.length≤4)∧(to.length≤42)∧((∀ u∈lg,u.1.length≤5∧u.2.length≤5))∧(q≤p+500)∧SH w w' [rb] [.blk rb 124 [.slice Ab bs.length cb,I (q:Int)],.own Awr wt.length cwr 3 1 (wt.map I),.own Alr lg.length clr 51 2 (lg.flatMap gLogin)]):=by
 refine fE (N:=64) Tryz.func55 r0 (by kernel_rfl) r0 ?_
 have hs0:SH w w [rb] [(Z3 rb Ab bs cb p)]:=SH.entry1 hr
 refine sr (al (v:=.agg #[I 0,ns,ns,Str []]) (cs:=[I 0,ns,ns,Str []]) hs0 tz29 r0 trivial r0 (fun b1 w1 hs1=>?_))
 refine nx (bsk hs1 sl22 [I 0] [I 0] trivial r0 (fun b2 w2 hs2=>?_))
 refine bsk hs2 sl22 [I 2] [I 2] trivial r0 (fun b3 w3 (hs3:SH w w3 [rb] [(Z3 rb Ab bs cb p),(Z5 b1),oI b2 ([0]:List Int) 1 3,oI b3 ([2]:List Int) 1 3])=>?_)
 refine bsk hs3 sl22 [I 2,I 0] [I 2,I 0] trivial r0 (fun b4 w4 hs4=>?_)
 refine bsk hs4 sl22 [I 0,I 2] [I 0,I 2] trivial r0 (fun b5 w5 hs5=>?_)
 refine bsk hs5 sl91 [sb b2 (([0]:List Int).length) 1,sb b3 (([2]:List Int).length) 1,sb b4 (([2,0]:List Int).length) 2,sb b5 (([0,2]:List Int).length) 2] [sb b2 (([0]:List Int).length) 1,sb b3 (([2]:List Int).length) 1,sb b4 (([2,0]:List Int).length) 2,sb b5 (([0,2]:List Int).length) 2] trivial r0 (fun b6 w6 (hs6:SH w w6 [rb] [(Z3 rb Ab bs cb p),(Z5 b1),oI b2 ([0]:List Int) 1 3,oI b3 ([2]:List Int) 1 3,oI b4 ([2,0]:List Int) 2 3,oI b5 ([0,2]:List Int) 2 3,.own (Z2 b6) (([(⟨(Z2 b2),1,([0]:List Int)⟩:Hd),(⟨(Z2 b3),1,([2]:List Int)⟩:Hd),(⟨(Z2 b4),2,([2,0]:List Int)⟩:Hd),(⟨(Z2 b5),2,([0,2]:List Int)⟩:Hd)]:List Hd).length) 4 22 1 (([(⟨(Z2 b2),1,([0]:List Int)⟩:Hd),(⟨(Z2 b3),1,([2]:List Int)⟩:Hd),(⟨(Z2 b4),2,([2,0]:List Int)⟩:Hd),(⟨(Z2 b5),2,([0,2]:List Int)⟩:Hd)]:List Hd).map hv)])=>?_)
 refine tm (pB rb) r0 (cL r0 (pick (rb:=rb) (Ab:=Ab) (cb:=cb) (bs:=bs) (p:=p) (n:=4) (w:=_) (hr:=(blk_heap hs6 0 r0)) (hb:=(hb.up hs6 (fun _ h=>h) (fun _ h=>.inl h))) (hbn:=(by assumption)) (hp:=(by omega))) ?_)
 rintro _ w7 ⟨r1,q1,rfl,p1,p2,hs7⟩
 replace hs7:=hs6.callM 0 r0 hs7 m_1
 refine qt r0 (ixo r1.toNat sl91 r0 (ieq (x:=r1) (by omega)) (by omega)) (qt r0 (ldoHd (L:=Z1) (ys:=([(⟨(Z2 b2),1,([0]:List Int)⟩:Hd),(⟨(Z2 b3),1,([2]:List Int)⟩:Hd),(⟨(Z2 b4),2,([2,0]:List Int)⟩:Hd),(⟨(Z2 b5),2,([0,2]:List Int)⟩:Hd)]:List Hd)) (o:=r1.toNat) r0 hs7 5 r0 r0 (by(simp; omega)) one22) (tA (.slice ((([(⟨(Z2 b2),1,([0]:List Int)⟩:Hd),(⟨(Z2 b3),1,([2]:List Int)⟩:Hd),(⟨(Z2 b4),2,([2,0]:List Int)⟩:Hd),(⟨(Z2 b5),2,([0,2]:List Int)⟩:Hd)]:List Hd).getD r1.toNat hd0).A) ((Z1.getD r1.toNat []).length) ((([(⟨(Z2 b2),1,([0]:List Int)⟩:Hd),(⟨(Z2 b3),1,([2]:List Int)⟩:Hd),(⟨(Z2 b4),2,([2,0]:List Int)⟩:Hd),(⟨(Z2 b5),2,([0,2]:List Int)⟩:Hd)]:List Hd).getD r1.toNat hd0).c)) r0 (nx (bsk hs7 sl22 [] [] trivial r0 (fun b7 w8 hs8=>?_)))))
 refine tm (.slice ((([(⟨(Z2 b2),1,([0]:List Int)⟩:Hd),(⟨(Z2 b3),1,([2]:List Int)⟩:Hd),(⟨(Z2 b4),2,([2,0]:List Int)⟩:Hd),(⟨(Z2 b5),2,([0,2]:List Int)⟩:Hd)]:List Hd).getD r1.toNat hd0).A) ((Z1.getD r1.toNat []).length) ((([(⟨(Z2 b2),1,([0]:List Int)⟩:Hd),(⟨(Z2 b3),1,([2]:List Int)⟩:Hd),(⟨(Z2 b4),2,([2,0]:List Int)⟩:Hd),(⟨(Z2 b5),2,([0,2]:List Int)⟩:Hd)]:List Hd).getD r1.toNat hd0).c)) r0 (apm (g:=I) (ys:=([]:List Int)) (zs:=Z1.getD r1.toNat []) hs8 7 r0 sl22 r0 r0 r0 (hd_at2 (L:=Z1) r0 (fa_cons (hs8.sl0 1 r0) (fa_cons (hs8.sl0 2 r0) (fa_cons (hs8.sl0 3 r0) (fa_cons (hs8.sl0 4 r0) fa_nil)))) (by(simp; omega))) (fun _=>rfl) (by unfold maxLen; (have h4_:=four_len3 r1.toNat; (try simp only[List.length_nil,Nat.zero_add]); omega)) (by(have h4_:=four_len3 r1.toNat; (try simp only[List.length_nil,Nat.zero_add]); omega)) trivial r0 (fun A1 c1 w9 (hs9:SH w w9 [rb] [(Z5 b1),oI b2 ([0]:List Int) 1 3,oI b3 ([2]:List Int) 1 3,oI b4 ([2,0]:List Int) 2 3,oI b5 ([0,2]:List Int) 2 3,.own (Z2 b6) (([(⟨(Z2 b2),1,([0]:List Int)⟩:Hd),(⟨(Z2 b3),1,([2]:List Int)⟩:Hd),(⟨(Z2 b4),2,([2,0]:List Int)⟩:Hd),(⟨(Z2 b5),2,([0,2]:List Int)⟩:Hd)]:List Hd).length) 4 22 1 (([(⟨(Z2 b2),1,([0]:List Int)⟩:Hd),(⟨(Z2 b3),1,([2]:List Int)⟩:Hd),(⟨(Z2 b4),2,([2,0]:List Int)⟩:Hd),(⟨(Z2 b5),2,([0,2]:List Int)⟩:Hd)]:List Hd).map hv),(Z3 rb Ab bs cb q1),.own A1 ((Z1.getD r1.toNat []).length) c1 3 1 ((Z1.getD r1.toNat []).map I)])=>?_))
 refine qt r0 (bdv (v:=.agg #[Str [97,110,110],Str [97,98,99]]) [(0,Str [97,110,110]),(1,Str [97,98,99])] r0 (fun _=>by kernel_rfl)) (qt r0 (bdv (v:=.agg #[Str [98,111,98],Str [57]]) [(0,Str [98,111,98]),(1,Str [57])] r0 (fun _=>by kernel_rfl)) (bsk hs9 sl27 [.agg #[Str [97,110,110],Str [97,98,99]],.agg #[Str [98,111,98],Str [57]]] [Str [97,110,110],Str [97,98,99],Str [98,111,98],Str [57]] trivial r0 (fun b8 w10 hs10=>?_)))
 refine cL r0 (sTalkNew (Awt:=A1) (cwt:=c1) (wt:=Z1.getD r1.toNat []) (Alg:=(Z2 b8)) (clg:=2) (lg:=([(([97,110,110],[97,98,99]):List UInt8×List UInt8),(([98,111,98],[57]):List UInt8×List UInt8)]:List (List UInt8×List UInt8))) (w:=_) (hwt:=(hs10.sl0 7 r0)) (hwt_n:=(by(have h4_:=four_len3 r1.toNat; omega))) (hlg:=(hs10.sl0 8 r0)) (hlg_e:=(by exact lg_R lgs2)) (hlg_n:=(by(simp; done)))) ?_
 rintro _ w11 ⟨Aw1,cw1,Al1,cl1,rfl,hs11⟩
 replace hs11:=hs10.call0 hs11
 refine tm (.tuple #[.agg #[I ((talkNew (Z1.getD r1.toNat []) ([(([97,110,110],[97,98,99]):List UInt8×List UInt8),(([98,111,98],[57]):List UInt8×List UInt8)]:List (List UInt8×List UInt8))).1.1),.slice Aw1 (((talkNew (Z1.getD r1.toNat []) ([(([97,110,110],[97,98,99]):List UInt8×List UInt8),(([98,111,98],[57]):List UInt8×List UInt8)]:List (List UInt8×List UInt8))).1.2.1).length) cw1,.slice Al1 (((talkNew (Z1.getD r1.toNat []) ([(([97,110,110],[97,98,99]):List UInt8×List UInt8),(([98,111,98],[57]):List UInt8×List UInt8)]:List (List UInt8×List UInt8))).1.2.2.1).length) cl1,Str ((talkNew (Z1.getD r1.toNat []) ([(([97,110,110],[97,98,99]):List UInt8×List UInt8),(([98,111,98],[57]):List UInt8×List UInt8)]:List (List UInt8×List UInt8))).1.2.2.2)],.bool ((talkNew (Z1.getD r1.toNat []) ([(([97,110,110],[97,98,99]):List UInt8×List UInt8),(([98,111,98],[57]):List UInt8×List UInt8)]:List (List UInt8×List UInt8))).2)]) r0 (qt r0 (xt 0 (v:=.agg #[I ((talkNew (Z1.getD r1.toNat []) ([(([97,110,110],[97,98,99]):List UInt8×List UInt8),(([98,111,98],[57]):List UInt8×List UInt8)]:List (List UInt8×List UInt8))).1.1),.slice Aw1 (((talkNew (Z1.getD r1.toNat []) ([(([97,110,110],[97,98,99]):List UInt8×List UInt8),(([98,111,98],[57]):List UInt8×List UInt8)]:List (List UInt8×List UInt8))).1.2.1).length) cw1,.slice Al1 (((talkNew (Z1.getD r1.toNat []) ([(([97,110,110],[97,98,99]):List UInt8×List UInt8),(([98,111,98],[57]):List UInt8×List UInt8)]:List (List UInt8×List UInt8))).1.2.2.1).length) cl1,Str ((talkNew (Z1.getD r1.toNat []) ([(([97,110,110],[97,98,99]):List UInt8×List UInt8),(([98,111,98],[57]):List UInt8×List UInt8)]:List (List UInt8×List UInt8))).1.2.2.2)]) r0 r0) (qt r0 (xt 1 (v:=.bool ((talkNew (Z1.getD r1.toNat []) ([(([97,110,110],[97,98,99]):List UInt8×List UInt8),(([98,111,98],[57]):List UInt8×List UInt8)]:List (List UInt8×List UInt8))).2)) r0 r0) (al (v:=.agg #[I 0,ns,ns,Str []]) (cs:=[I 0,ns,ns,Str []]) hs11 tz29 r0 trivial r0 (fun b9 w12 (hs12:SH w w12 [rb] [(Z5 b1),oI b2 ([0]:List Int) 1 3,oI b3 ([2]:List Int) 1 3,oI b4 ([2,0]:List Int) 2 3,oI b5 ([0,2]:List Int) 2 3,.own (Z2 b6) (([(⟨(Z2 b2),1,([0]:List Int)⟩:Hd),(⟨(Z2 b3),1,([2]:List Int)⟩:Hd),(⟨(Z2 b4),2,([2,0]:List Int)⟩:Hd),(⟨(Z2 b5),2,([0,2]:List Int)⟩:Hd)]:List Hd).length) 4 22 1 (([(⟨(Z2 b2),1,([0]:List Int)⟩:Hd),(⟨(Z2 b3),1,([2]:List Int)⟩:Hd),(⟨(Z2 b4),2,([2,0]:List Int)⟩:Hd),(⟨(Z2 b5),2,([0,2]:List Int)⟩:Hd)]:List Hd).map hv),(Z3 rb Ab bs cb q1),.own A1 ((Z1.getD r1.toNat []).length) c1 3 1 ((Z1.getD r1.toNat []).map I),.own (Z2 b8) (([(([97,110,110],[97,98,99]):List UInt8×List UInt8),(([98,111,98],[57]):List UInt8×List UInt8)]:List (List UInt8×List UInt8)).length) 2 51 2 (([(([97,110,110],[97,98,99]):List UInt8×List UInt8),(([98,111,98],[57]):List UInt8×List UInt8)]:List (List UInt8×List UInt8)).flatMap gLogin),.own Aw1 (((talkNew (Z1.getD r1.toNat []) ([(([97,110,110],[97,98,99]):List UInt8×List UInt8),(([98,111,98],[57]):List UInt8×List UInt8)]:List (List UInt8×List UInt8))).1.2.1).length) cw1 3 1 (((talkNew (Z1.getD r1.toNat []) ([(([97,110,110],[97,98,99]):List UInt8×List UInt8),(([98,111,98],[57]):List UInt8×List UInt8)]:List (List UInt8×List UInt8))).1.2.1).map I),.own Al1 (((talkNew (Z1.getD r1.toNat []) ([(([97,110,110],[97,98,99]):List UInt8×List UInt8),(([98,111,98],[57]):List UInt8×List UInt8)]:List (List UInt8×List UInt8))).1.2.2.1).length) cl1 51 2 (((talkNew (Z1.getD r1.toNat []) ([(([97,110,110],[97,98,99]):List UInt8×List UInt8),(([98,111,98],[57]):List UInt8×List UInt8)]:List (List UInt8×List UInt8))).1.2.2.1).flatMap gLogin),(Z5 b9)])=>?_))))
 refine sG [I ((talkNew (Z1.getD r1.toNat []) ([(([97,110,110],[97,98,99]):List UInt8×List UInt8),(([98,111,98],[57]):List UInt8×List UInt8)]:List (List UInt8×List UInt8))).1.1),.slice Aw1 (((talkNew (Z1.getD r1.toNat []) ([(([97,110,110],[97,98,99]):List UInt8×List UInt8),(([98,111,98],[57]):List UInt8×List UInt8)]:List (List UInt8×List UInt8))).1.2.1).length) cw1,.slice Al1 (((talkNew (Z1.getD r1.toNat []) ([(([97,110,110],[97,98,99]):List UInt8×List UInt8),(([98,111,98],[57]):List UInt8×List UInt8)]:List (List UInt8×List UInt8))).1.2.2.1).length) cl1,Str ((talkNew (Z1.getD r1.toNat []) ([(([97,110,110],[97,98,99]):List UInt8×List UInt8),(([98,111,98],[57]):List UInt8×List UInt8)]:List (List UInt8×List UInt8))).1.2.2.2)] hs12 11 r0 ag29 (fun w13 hs13=>?_)
 refine tA (.bool ((talkNew (Z1.getD r1.toNat []) ([(([97,110,110],[97,98,99]):List UInt8×List UInt8),(([98,111,98],[57]):List UInt8×List UInt8)]:List (List UInt8×List UInt8))).2)) r0 (nn ?_)
 have hs14:=hs13.pq [0,6,9,10,11] r0
 refine sr (tm (pB rb) r0 (cL r0 (pick (rb:=rb) (Ab:=Ab) (cb:=cb) (bs:=bs) (p:=q1) (n:=4) (w:=_) (hr:=(blk_heap hs14 1 r0)) (hb:=(hb.up hs14 (fun _ h=>h) (fun _ h=>.inl h))) (hbn:=(by assumption)) (hp:=(by omega))) ?_))
 rintro _ w14 ⟨r2,q2,rfl,p3,p4,hs15⟩
 replace hs15:=hs14.callM 1 r0 hs15 m_1
 refine tA (I r2) r0 (nn (sq (sr (tA (I 0) r0 (nl ?_)))))
 refine nN (bl (lp (σ:=Int×(Option Addr)×Nat×(List Int)×(Option Addr)×Nat×(List Lg)×(List UInt8)×Nat×Nat) (fun⟨zs,Azw,czw,zw,Azl,czl,zl,zt,q0,k⟩ f w'=>Hz f [(0,pB rb),(2,pB b1),(4,pB b9),(6,I r2),(7,I (k:Int))]∧(k≤3)∧(zw.length≤8)∧(zl.length≤4)∧(zt.length≤42)∧(∀ u∈zl,u.1.length≤5∧u.2.length≤5)∧(q0≤p+10+100*k)∧SH w w' [rb] [(Z5 b1),.own Azw zw.length czw 3 1 (zw.map I),.own Azl zl.length czl 51 2 (zl.flatMap gLogin),.blk b9 29 [I zs,.slice Azw zw.length czw,.slice Azl zl.length czl,Str zt],(Z3 rb Ab bs cb q0)]) (fun⟨zs,Azw,czw,zw,Azl,czl,zl,zt,q0,k⟩=>3-k) ((talkNew (Z1.getD r1.toNat []) ([(([97,110,110],[97,98,99]):List UInt8×List UInt8),(([98,111,98],[57]):List UInt8×List UInt8)]:List (List UInt8×List UInt8))).1.1,Aw1,cw1,(talkNew (Z1.getD r1.toNat []) ([(([97,110,110],[97,98,99]):List UInt8×List UInt8),(([98,111,98],[57]):List UInt8×List UInt8)]:List (List UInt8×List UInt8))).1.2.1,Al1,cl1,(talkNew (Z1.getD r1.toNat []) ([(([97,110,110],[97,98,99]):List UInt8×List UInt8),(([98,111,98],[57]):List UInt8×List UInt8)]:List (List UInt8×List UInt8))).1.2.2.1,(talkNew (Z1.getD r1.toNat []) ([(([97,110,110],[97,98,99]):List UInt8×List UInt8),(([98,111,98],[57]):List UInt8×List UInt8)]:List (List UInt8×List UInt8))).1.2.2.2,q2,0) ⟨(zR r0),(by omega),(Nat.le_trans talkNew_fit.1 (by have h4_:=four_len3 r1.toNat; omega)),(Nat.le_trans talkNew_fit.2.1 (by decide)),(talkNew_fit.2.2.1),(fun u hu=>lgs2 u (talkNew_fit.2.2.2 u hu)),(by omega),hs15⟩ ?_))
 rintro ⟨zs,Azw,czw,zw,Azl,czl,zl,zt,q0,k⟩ f w15 ⟨⟨g1,rfl⟩,hk,hzw,hzl,hzt,hze,hq,hs16⟩
 refine sq (sr (tm (I (k:Int)) r0 (tm (I r2) r0 (qt r0 (lss (k:=.i64) (a:=(k:Int)) (b:=r2) r0 r0) (nn ?_)))))
 refine cdd (p:=(k:Int)<r2) r0 (fun h1=>?_) (fun h1=>?_)
 ·refine sk (nN (sq (bl (sq ?_))))
  refine raJ (fun w'=>∃ L,SH w w' [rb] L∧(.blk b1 29 [I 0,ns,ns,Str []])∈L∧(.blk b9 29 [I zs,.slice Azw zw.length czw,.slice Azl zl.length czl,Str zt])∈L∧True) (fun f w'=>∃ (A3':Option Addr) (c3':Nat) (r3':List Int) (q3' b9':Nat) (Aw4':Option Addr) (cw4':Nat) (Al4':Option Addr) (cl4':Nat) (Ay4':Option Addr) (cy4':Nat),Hz f [(0,pB rb),(2,pB b1),(4,pB b9),(6,I r2),(7,I (k:Int)),(8,pB b9'),(10,.bool ((talkSay zs zw zl zt r3').2.2))]∧(r3'.length≤30)∧(q3'≤q0+100)∧SH w w' [rb] [(Z5 b1),.own Azw zw.length czw 3 1 (zw.map I),.own Azl zl.length czl 51 2 (zl.flatMap gLogin),.blk b9 29 [I zs,.slice Azw zw.length czw,.slice Azl zl.length czl,Str zt],(Z3 rb Ab bs cb q3'),(Z7 A3' r3' c3'),.own Aw4' (((talkSay zs zw zl zt r3').1.2.1).length) cw4' 3 1 (((talkSay zs zw zl zt r3').1.2.1).map I),.blk b9' 29 [I ((talkSay zs zw zl zt r3').1.1),.slice Aw4' (((talkSay zs zw zl zt r3').1.2.1).length) cw4',.slice Al4' (((talkSay zs zw zl zt r3').1.2.2.1).length) cl4',Str ((talkSay zs zw zl zt r3').1.2.2.2)],.own Al4' (((talkSay zs zw zl zt r3').1.2.2.1).length) cl4' 51 2 (((talkSay zs zw zl zt r3').1.2.2.1).flatMap gLogin),.own Ay4' (((talkSay zs zw zl zt r3').2.1).length) cy4' 3 1 (((talkSay zs zw zl zt r3').2.1).map I)]) mixed ?_ ?_
  ·refine dG 3 13 1023 (fun f w'=>∃ (A3':Option Addr) (c3':Nat) (r3':List Int) (q3' b9':Nat) (Aw4':Option Addr) (cw4':Nat) (Al4':Option Addr) (cl4':Nat) (Ay4':Option Addr) (cy4':Nat),Hz f [(0,pB rb),(2,pB b1),(4,pB b9),(6,I r2),(7,I (k:Int)),(8,pB b9'),(43,.agg #[I ((talkSay zs zw zl zt r3').1.1),.slice Aw4' (((talkSay zs zw zl zt r3').1.2.1).length) cw4',.slice Al4' (((talkSay zs zw zl zt r3').1.2.2.1).length) cl4',Str ((talkSay zs zw zl zt r3').1.2.2.2)]),(44,.slice Ay4' (((talkSay zs zw zl zt r3').2.1).length) cy4'),(45,.bool ((talkSay zs zw zl zt r3').2.2))]∧(r3'.length≤30)∧(q3'≤q0+100)∧SH w w' [rb] [(Z5 b1),.own Azw zw.length czw 3 1 (zw.map I),.own Azl zl.length czl 51 2 (zl.flatMap gLogin),.blk b9 29 [I zs,.slice Azw zw.length czw,.slice Azl zl.length czl,Str zt],(Z3 rb Ab bs cb q3'),(Z7 A3' r3' c3'),.own Aw4' (((talkSay zs zw zl zt r3').1.2.1).length) cw4' 3 1 (((talkSay zs zw zl zt r3').1.2.1).map I),(Z5 b9'),.own Al4' (((talkSay zs zw zl zt r3').1.2.2.1).length) cl4' 51 2 (((talkSay zs zw zl zt r3').1.2.2.1).flatMap gLogin),.own Ay4' (((talkSay zs zw zl zt r3').2.1).length) cy4' 3 1 (((talkSay zs zw zl zt r3').2.1).map I)]) ?_ (fun D_7_0=>?_)
   ·rintro f w16 ⟨A3',c3',r3',q3',b9',Aw4',cw4',Al4',cl4',Ay4',cy4',⟨g2,rfl⟩,p5,p6,hs17⟩
    refine aO 10 r0 (sG [I ((talkSay zs zw zl zt r3').1.1),.slice Aw4' (((talkSay zs zw zl zt r3').1.2.1).length) cw4',.slice Al4' (((talkSay zs zw zl zt r3').1.2.2.1).length) cl4',Str ((talkSay zs zw zl zt r3').1.2.2.2)] hs17 7 r0 ag29 (fun w17 hs18=>?_))
    refine nk ⟨_,hs18,memi 0 r0,memi 3 r0,trivial⟩ ?_
    refine tk (fuel:=0) (is:=[11,12]) (.cons r0 (.cons r0 (.nil))) (by kernel_rfl) (by kernel_rfl) ⟨_,hs18,memi 0 r0,memi 3 r0,trivial⟩ (yA r0 (asg (v:=.slice Ay4' (((talkSay zs zw zl zt r3').2.1).length) cy4') r0) (yA r0 (asg (v:=.bool ((talkSay zs zw zl zt r3').2.2)) r0) (.nil (ad (by kernel_rfl) ?_))))
    exact⟨A3',c3',r3',q3',b9',Aw4',cw4',Al4',cl4',Ay4',cy4',(zR r0),p5,p6,(hs18.pk [0,1,2,3,4,5,6,9,7,8] r0)⟩
   refine dG 4 13 511 (fun f w'=>∃ (A3':Option Addr) (c3':Nat) (r3':List Int) (q3':Nat) (Aw4':Option Addr) (cw4':Nat) (Al4':Option Addr) (cl4':Nat) (Ay4':Option Addr) (cy4':Nat),Hz f [(0,pB rb),(2,pB b1),(4,pB b9),(6,I r2),(7,I (k:Int)),(43,.agg #[I ((talkSay zs zw zl zt r3').1.1),.slice Aw4' (((talkSay zs zw zl zt r3').1.2.1).length) cw4',.slice Al4' (((talkSay zs zw zl zt r3').1.2.2.1).length) cl4',Str ((talkSay zs zw zl zt r3').1.2.2.2)]),(44,.slice Ay4' (((talkSay zs zw zl zt r3').2.1).length) cy4'),(45,.bool ((talkSay zs zw zl zt r3').2.2))]∧(r3'.length≤30)∧(q3'≤q0+100)∧SH w w' [rb] [(Z5 b1),.own Azw zw.length czw 3 1 (zw.map I),.own Azl zl.length czl 51 2 (zl.flatMap gLogin),.blk b9 29 [I zs,.slice Azw zw.length czw,.slice Azl zl.length czl,Str zt],(Z3 rb Ab bs cb q3'),(Z7 A3' r3' c3'),.own Aw4' (((talkSay zs zw zl zt r3').1.2.1).length) cw4' 3 1 (((talkSay zs zw zl zt r3').1.2.1).map I),.own Al4' (((talkSay zs zw zl zt r3').1.2.2.1).length) cl4' 51 2 (((talkSay zs zw zl zt r3').1.2.2.1).flatMap gLogin),.own Ay4' (((talkSay zs zw zl zt r3').2.1).length) cy4' 3 1 (((talkSay zs zw zl zt r3').2.1).map I)]) ?_ (fun D_7_1=>?_)
   ·rintro f w18 ⟨A3',c3',r3',q3',Aw4',cw4',Al4',cl4',Ay4',cy4',⟨g3,rfl⟩,p7,p8,hs19⟩
    refine aO 9 r0 (al (v:=.agg #[I 0,ns,ns,Str []]) (cs:=[I 0,ns,ns,Str []]) hs19 tz29 r0 trivial r0 (fun b9' w19 hs20=>?_))
    exact nk ⟨_,hs20,memi 0 r0,memi 3 r0,trivial⟩ (alc D_7_0 ⟨A3',c3',r3',q3',b9',Aw4',cw4',Al4',cl4',Ay4',cy4',(zR r0),p7,p8,(hs20.pk [0,1,2,3,4,5,6,9,7,8] r0)⟩)
   refine dG 8 13 527 (fun f w'=>∃ (A3':Option Addr) (c3':Nat) (r3':List Int) (q3' b9':Nat),Hz f [(0,pB rb),(2,pB b1),(4,pB b9),(6,I r2),(7,I (k:Int)),(8,pB b9'),(38,.agg #[I zs,.slice Azw zw.length czw,.slice Azl zl.length czl,Str zt]),(41,.slice A3' r3'.length c3')]∧(r3'.length≤30)∧(q3'≤q0+100)∧SH w w' [rb] [(Z5 b1),.own Azw zw.length czw 3 1 (zw.map I),.own Azl zl.length czl 51 2 (zl.flatMap gLogin),.blk b9 29 [I zs,.slice Azw zw.length czw,.slice Azl zl.length czl,Str zt],(Z3 rb Ab bs cb q3'),(Z7 A3' r3' c3'),(Z5 b9')]) ?_ (fun D_7_2=>?_)
   ·rintro f w20 ⟨A3',c3',r3',q3',b9',⟨g4,rfl⟩,p9,p10,hs21⟩
    refine aO 4 r0 (cL r0 (sTalkSay (sx:=zs) (Awt:=Azw) (cwt:=czw) (wt:=zw) (Alg:=Azl) (clg:=czl) (lg:=zl) (to:=zt) (Abs:=A3') (cbs:=c3') (bs:=r3') (w:=_) (hwt:=(hs21.sl0 1 r0)) (hlg:=(hs21.sl0 2 r0)) (hlg_e:=(by exact lg_R (by assumption))) (hto_n:=(by omega)) (hbs:=(hs21.sl0 5 r0))) ?_)
    rintro _ w21 ⟨Aw4',cw4',Al4',cl4',Ay4',cy4',rfl,hs22⟩
    replace hs22:=hs21.call0 hs22
    refine nk ⟨_,hs22,memi 0 r0,memi 3 r0,trivial⟩ ?_
    refine tk (fuel:=3) (is:=[5,6,7,8]) (.cons r0 (.cons r0 (.cons r0 (.cons r0 (.nil))))) (by kernel_rfl) (by kernel_rfl) ⟨_,hs22,memi 0 r0,memi 3 r0,trivial⟩ (yA r0 (mv (v:=.tuple #[.agg #[I ((talkSay zs zw zl zt r3').1.1),.slice Aw4' (((talkSay zs zw zl zt r3').1.2.1).length) cw4',.slice Al4' (((talkSay zs zw zl zt r3').1.2.2.1).length) cl4',Str ((talkSay zs zw zl zt r3').1.2.2.2)],.slice Ay4' (((talkSay zs zw zl zt r3').2.1).length) cy4',.bool ((talkSay zs zw zl zt r3').2.2)]) r0) (yA r0 (xt 0 (v:=.agg #[I ((talkSay zs zw zl zt r3').1.1),.slice Aw4' (((talkSay zs zw zl zt r3').1.2.1).length) cw4',.slice Al4' (((talkSay zs zw zl zt r3').1.2.2.1).length) cl4',Str ((talkSay zs zw zl zt r3').1.2.2.2)]) r0 r0) (yA r0 (xt 1 (v:=.slice Ay4' (((talkSay zs zw zl zt r3').2.1).length) cy4') r0 r0) (yA r0 (xt 2 (v:=.bool ((talkSay zs zw zl zt r3').2.2)) r0 r0) (.nil ?_)))))
    exact alc D_7_0 ⟨A3',c3',r3',q3',b9',Aw4',cw4',Al4',cl4',Ay4',cy4',(zR r0),p9,p10,(hs22.pk [0,1,2,3,4,5,7,6,8,9] r0)⟩
   refine dG 9 13 15 (fun f w'=>∃ (A3':Option Addr) (c3':Nat) (r3':List Int) (q3':Nat),Hz f [(0,pB rb),(2,pB b1),(4,pB b9),(6,I r2),(7,I (k:Int)),(38,.agg #[I zs,.slice Azw zw.length czw,.slice Azl zl.length czl,Str zt]),(41,.slice A3' r3'.length c3')]∧(r3'.length≤30)∧(q3'≤q0+100)∧SH w w' [rb] [(Z5 b1),.own Azw zw.length czw 3 1 (zw.map I),.own Azl zl.length czl 51 2 (zl.flatMap gLogin),.blk b9 29 [I zs,.slice Azw zw.length czw,.slice Azl zl.length czl,Str zt],(Z3 rb Ab bs cb q3'),(Z7 A3' r3' c3')]) ?_ (fun D_7_3=>?_)
   ·rintro f w22 ⟨A3',c3',r3',q3',⟨g5,rfl⟩,p11,p12,hs23⟩
    refine aaL [4,9] (fa_cons ?_ (fa_one ?_))
    ·refine one_ r0 (cL r0 (sTalkSay (sx:=zs) (Awt:=Azw) (cwt:=czw) (wt:=zw) (Alg:=Azl) (clg:=czl) (lg:=zl) (to:=zt) (Abs:=A3') (cbs:=c3') (bs:=r3') (w:=_) (hwt:=(hs23.sl0 1 r0)) (hlg:=(hs23.sl0 2 r0)) (hlg_e:=(by exact lg_R (by assumption))) (hto_n:=(by omega)) (hbs:=(hs23.sl0 5 r0))) ?_)
     rintro _ w23 ⟨Aw4',cw4',Al4',cl4',Ay4',cy4',rfl,hs24⟩
     replace hs24:=hs23.call0 hs24
     refine nk ⟨_,hs24,memi 0 r0,memi 3 r0,trivial⟩ ?_
     refine tk (fuel:=4) (is:=[5,6,7,8]) (.cons r0 (.cons r0 (.cons r0 (.cons r0 (.nil))))) (by kernel_rfl) (by kernel_rfl) ⟨_,hs24,memi 0 r0,memi 3 r0,trivial⟩ (yA r0 (mv (v:=.tuple #[.agg #[I ((talkSay zs zw zl zt r3').1.1),.slice Aw4' (((talkSay zs zw zl zt r3').1.2.1).length) cw4',.slice Al4' (((talkSay zs zw zl zt r3').1.2.2.1).length) cl4',Str ((talkSay zs zw zl zt r3').1.2.2.2)],.slice Ay4' (((talkSay zs zw zl zt r3').2.1).length) cy4',.bool ((talkSay zs zw zl zt r3').2.2)]) r0) (yA r0 (xt 0 (v:=.agg #[I ((talkSay zs zw zl zt r3').1.1),.slice Aw4' (((talkSay zs zw zl zt r3').1.2.1).length) cw4',.slice Al4' (((talkSay zs zw zl zt r3').1.2.2.1).length) cl4',Str ((talkSay zs zw zl zt r3').1.2.2.2)]) r0 r0) (yA r0 (xt 1 (v:=.slice Ay4' (((talkSay zs zw zl zt r3').2.1).length) cy4') r0 r0) (yA r0 (xt 2 (v:=.bool ((talkSay zs zw zl zt r3').2.2)) r0 r0) (.nil ?_)))))
     exact alc D_7_1 ⟨A3',c3',r3',q3',Aw4',cw4',Al4',cl4',Ay4',cy4',(zR r0),p11,p12,hs24⟩
    ·refine one_ r0 (al (v:=.agg #[I 0,ns,ns,Str []]) (cs:=[I 0,ns,ns,Str []]) hs23 tz29 r0 trivial r0 (fun b9' w24 hs25=>?_))
     exact nk ⟨_,hs25,memi 0 r0,memi 3 r0,trivial⟩ (alc D_7_2 ⟨A3',c3',r3',q3',b9',(zR r0),p11,p12,hs25⟩)
   refine dG 9 13 519 (fun f w'=>∃ (b9':Nat),Hz f [(0,pB rb),(2,pB b1),(4,pB b9),(6,I r2),(7,I (k:Int)),(8,pB b9'),(38,.agg #[I zs,.slice Azw zw.length czw,.slice Azl zl.length czl,Str zt]),(39,pB rb),(40,.agg #[I zs,.slice Azw zw.length czw,.slice Azl zl.length czl,Str zt])]∧SH w w' [rb] [(Z5 b1),.own Azw zw.length czw 3 1 (zw.map I),.own Azl zl.length czl 51 2 (zl.flatMap gLogin),.blk b9 29 [I zs,.slice Azw zw.length czw,.slice Azl zl.length czl,Str zt],(Z3 rb Ab bs cb q0),(Z5 b9')]) ?_ (fun D_7_4=>?_)
   ·rintro f w25 ⟨b9',⟨g6,rfl⟩,hs26⟩
    refine aO 3 r0 (cL r0 (l92Next (rb:=rb) (Ab:=Ab) (cb:=cb) (bs:=bs) (p:=q0) (sx:=zs) (Awt:=Azw) (cwt:=czw) (wt:=zw) (Alg:=Azl) (clg:=czl) (lg:=zl) (to:=zt) (w:=_) (hr:=(blk_heap hs26 4 r0)) (hb:=(hb.up hs26 (fun _ h=>h) (fun _ h=>.inl h))) (hbn:=(by assumption)) (hp:=(by omega)) (hwt:=(hs26.sl 1 r0 (by intro k hk; simp at hk; subst hk; exact⟨_,memi 3 r0,rfl⟩))) (hlg:=(hs26.sl 2 r0 (by intro k hk; simp at hk; subst hk; exact⟨_,memi 3 r0,rfl⟩))) (hlg_e:=(by exact lg_R (by assumption)))) ?_)
    rintro _ w26 ⟨A3',c3',r3',q3',rfl,p13,p14,hs27⟩
    replace hs27:=hs26.callM 4 r0 hs27 m_1
    exact nk ⟨_,hs27,memi 0 r0,memi 3 r0,trivial⟩ (alc D_7_2 ⟨A3',c3',r3',q3',b9',(zR r0),p13,p14,(hs27.pk [0,1,2,3,5,6,4] r0)⟩)
   refine dG 10 13 7 (fun f w'=>Hz f [(0,pB rb),(2,pB b1),(4,pB b9),(6,I r2),(7,I (k:Int)),(38,.agg #[I zs,.slice Azw zw.length czw,.slice Azl zl.length czl,Str zt]),(39,pB rb),(40,.agg #[I zs,.slice Azw zw.length czw,.slice Azl zl.length czl,Str zt])]∧SH w w' [rb] [(Z5 b1),.own Azw zw.length czw 3 1 (zw.map I),.own Azl zl.length czl 51 2 (zl.flatMap gLogin),.blk b9 29 [I zs,.slice Azw zw.length czw,.slice Azl zl.length czl,Str zt],(Z3 rb Ab bs cb q0)]) ?_ (fun D_7_5=>?_)
   ·rintro f w27 ⟨⟨g7,rfl⟩,hs28⟩
    refine aaL [3,9] (fa_cons ?_ (fa_one ?_))
    ·refine one_ r0 (cL r0 (l92Next (rb:=rb) (Ab:=Ab) (cb:=cb) (bs:=bs) (p:=q0) (sx:=zs) (Awt:=Azw) (cwt:=czw) (wt:=zw) (Alg:=Azl) (clg:=czl) (lg:=zl) (to:=zt) (w:=_) (hr:=(blk_heap hs28 4 r0)) (hb:=(hb.up hs28 (fun _ h=>h) (fun _ h=>.inl h))) (hbn:=(by assumption)) (hp:=(by omega)) (hwt:=(hs28.sl 1 r0 (by intro k hk; simp at hk; subst hk; exact⟨_,memi 3 r0,rfl⟩))) (hlg:=(hs28.sl 2 r0 (by intro k hk; simp at hk; subst hk; exact⟨_,memi 3 r0,rfl⟩))) (hlg_e:=(by exact lg_R (by assumption)))) ?_)
     rintro _ w28 ⟨A3',c3',r3',q3',rfl,p15,p16,hs29⟩
     replace hs29:=hs28.callM 4 r0 hs29 m_1
     exact nk ⟨_,hs29,memi 0 r0,memi 3 r0,trivial⟩ (alc D_7_3 ⟨A3',c3',r3',q3',(zR r0),p15,p16,hs29⟩)
    ·refine one_ r0 (al (v:=.agg #[I 0,ns,ns,Str []]) (cs:=[I 0,ns,ns,Str []]) hs28 tz29 r0 trivial r0 (fun b9' w29 hs30=>?_))
     exact nk ⟨_,hs30,memi 0 r0,memi 3 r0,trivial⟩ (alc D_7_4 ⟨b9',(zR r0),hs30⟩)
   have hs31:=hs16.drew
   refine tk (fuel:=10) (is:=[0,1,2]) (.cons r0 (.cons r0 (.cons r0 (.nil)))) (by kernel_rfl) (by kernel_rfl) ⟨_,hs31,memi 0 r0,memi 3 r0,trivial⟩ (yB r0 (fun ⟨Lq,hsq,mh0,mh1,_⟩=>ldgm (vs:=[I zs,.slice Azw zw.length czw,.slice Azl zl.length czl,Str zt]) hsq mh1 r0 r0 r0 ag29) (yA r0 (mv (v:=pB rb) r0) (yB r0 (fun ⟨Lq,hsq,mh0,mh1,_⟩=>ldgm (vs:=[I zs,.slice Azw zw.length czw,.slice Azl zl.length czl,Str zt]) hsq mh1 r0 r0 r0 ag29) (.nil ?_))))
   exact alc D_7_5 ⟨(zR r0),hs31⟩
  rintro f w30 ⟨A3',c3',r3',q3',b9',Aw4',cw4',Al4',cl4',Ay4',cy4',⟨g8,rfl⟩,p17,p18,hs32⟩
  refine nN ?_
  have hs33:SH w w30 [rb] [(Z5 b1),.own Azw zw.length czw 3 1 (zw.map I),.own Azl zl.length czl 51 2 (zl.flatMap gLogin),.blk b9 29 [I zs,.slice Azw zw.length czw,.slice Azl zl.length czl,Str zt],(Z3 rb Ab bs cb q3'),.own Aw4' (((talkSay zs zw zl zt r3').1.2.1).length) cw4' 3 1 (((talkSay zs zw zl zt r3').1.2.1).map I),.blk b9' 29 [I ((talkSay zs zw zl zt r3').1.1),.slice Aw4' (((talkSay zs zw zl zt r3').1.2.1).length) cw4',.slice Al4' (((talkSay zs zw zl zt r3').1.2.2.1).length) cl4',Str ((talkSay zs zw zl zt r3').1.2.2.2)],.own Al4' (((talkSay zs zw zl zt r3').1.2.2.1).length) cl4' 51 2 (((talkSay zs zw zl zt r3').1.2.2.1).flatMap gLogin)]:=hs32.pk [0,1,2,3,4,6,7,8] r0
  refine sr (tm (.bool ((talkSay zs zw zl zt r3').2.2)) r0 (nn ?_))
  refine cd (b:=(talkSay zs zw zl zt r3').2.2) r0 (fun h2=>?_) (fun h2=>?_)
  ·refine rg (qt r0 (lG [I ((talkSay zs zw zl zt r3').1.1),.slice Aw4' (((talkSay zs zw zl zt r3').1.2.1).length) cw4',.slice Al4' (((talkSay zs zw zl zt r3').1.2.2.1).length) cl4',Str ((talkSay zs zw zl zt r3').1.2.2.2)] hs33 6 r0 ag29) (sG [I ((talkSay zs zw zl zt r3').1.1),.slice Aw4' (((talkSay zs zw zl zt r3').1.2.1).length) cw4',.slice Al4' (((talkSay zs zw zl zt r3').1.2.2.1).length) cl4',Str ((talkSay zs zw zl zt r3').1.2.2.2)] hs33 3 r0 ag29 (fun w31 hs34=>?_)))
   refine nl (bN (nN ?_))
   have hs35:=hs34.pq [0,3,4,6,7] r0
   refine rg (tm (I (k:Int)) r0 (qt r0 (add (a:=(k:Int)) (b:=1) r0 r0 (by exact⟨by omega,by omega⟩)) (tA (I ((k:Int)+1)) r0 (nn ?_))))
   refine⟨((talkSay zs zw zl zt r3').1.1,Aw4',cw4',(talkSay zs zw zl zt r3').1.2.1,Al4',cl4',(talkSay zs zw zl zt r3').1.2.2.1,(talkSay zs zw zl zt r3').1.2.2.2,q3',k+1),⟨(zR r0),(by omega),((talkSay_len _ _ _ _ _).1),((talkSay_len _ _ _ _ _).2.1),(talkSay_to _ _ _ _ _),(fun u hu=>hze u (talkSay_lg u hu)),(by omega),(hs35.pk [0,2,3,4,1] r0)⟩,?_⟩
   show 3-(k+1)<3-k
   omega
  ·refine sk (bN (nN ?_))
   have hs36:SH w w30 [rb] [(Z5 b1),.own Azw zw.length czw 3 1 (zw.map I),.own Azl zl.length czl 51 2 (zl.flatMap gLogin),.blk b9 29 [I zs,.slice Azw zw.length czw,.slice Azl zl.length czl,Str zt],(Z3 rb Ab bs cb q3')]:=hs33.pk [0,1,2,3,4] r0
   refine rg (tm (I (k:Int)) r0 (qt r0 (add (a:=(k:Int)) (b:=1) r0 r0 (by exact⟨by omega,by omega⟩)) (tA (I ((k:Int)+1)) r0 (nn ?_))))
   refine⟨(zs,Azw,czw,zw,Azl,czl,zl,zt,q3',k+1),⟨(zR r0),(by omega),(hzw),(hzl),(hzt),(hze),(by omega),hs36⟩,?_⟩
   show 3-(k+1)<3-k
   omega
 ·refine ex (tE (tE (bE ?_)))
  refine nN (sq (sr (tm (pB rb) r0 (cL r0 (pick (rb:=rb) (Ab:=Ab) (cb:=cb) (bs:=bs) (p:=q0) (n:=30) (w:=_) (hr:=(blk_heap hs16 4 r0)) (hb:=(hb.up hs16 (fun _ h=>h) (fun _ h=>.inl h))) (hbn:=(by assumption)) (hp:=(by omega))) ?_))))
  rintro _ w32 ⟨r3,q3,rfl,p19,p20,hs37⟩
  replace hs37:=hs16.callM 4 r0 hs37 m_1
  refine nn (bl (sr (qt r0 (eqi (k:=.i64) (a:=r3) (b:=0) r0 r0) (tA (.bool (decide (r3=0))) r0 (nl ?_)))))
  refine nN ?_
  refine cdd (p:=r3=0) r0 (fun h3=>?_) (fun h3=>?_)
  ·refine rg (tm (pB rb) r0 (cL r0 (pick (rb:=rb) (Ab:=Ab) (cb:=cb) (bs:=bs) (p:=q3) (n:=7) (w:=_) (hr:=(blk_heap hs37 4 r0)) (hb:=(hb.up hs37 (fun _ h=>h) (fun _ h=>.inl h))) (hbn:=(by assumption)) (hp:=(by omega))) ?_))
   rintro _ w33 ⟨r4,q4,rfl,p21,p22,hs38⟩
   replace hs38:=hs37.callM 4 r0 hs38 m_1
   refine qt r0 (sub (a:=r4) (b:=1) r0 r0 (by exact⟨by omega,by omega⟩)) (qt r0 (fa 0 fo29_0 r0) (sT (I (r4-1)) hs38 3 r0 one3 (fun w34 (hs39:SH w w34 [rb] [(Z5 b1),.own Azw zw.length czw 3 1 (zw.map I),.own Azl zl.length czl 51 2 (zl.flatMap gLogin),(Z3 rb Ab bs cb q4),.blk b9 29 [I (r4-1),.slice Azw zw.length czw,.slice Azl zl.length czl,Str zt]])=>?_)))
   refine nl (bN (nN (sr (qt r0 (lG [I (r4-1),.slice Azw zw.length czw,.slice Azl zl.length czl,Str zt] hs39 4 r0 ag29) (sG [I (r4-1),.slice Azw zw.length czw,.slice Azl zl.length czl,Str zt] hs39 0 r0 ag29 (fun w35 hs40=>?_))))))
   refine nn (rt (fret (v:=.agg #[I (r4-1),.slice Azw zw.length czw,.slice Azl zl.length czl,Str zt]) (resC hs40 4 r0 r0 ag29 r0 .nil) r0 ?_))
   exact⟨Azw,czw,Azl,czl,r4-1,zw,zl,zt,q4,rfl,(by omega),(by omega),(by omega),(by assumption),(by omega),(hs40.pk [2,0,1] r0)⟩
  ·refine sr (qt r0 (eqi (k:=.i64) (a:=r3) (b:=1) r0 r0) (tA (.bool (decide (r3=1))) r0 (nn ?_)))
   refine cdd (p:=r3=1) r0 (fun h4=>?_) (fun h4=>?_)
   ·refine rg (bsk hs37 sl22 [I 1] [I 1] trivial r0 (fun b10 w36 hs41=>?_))
    refine qt r0 (fa 1 fo29_1 r0) (sT (sb b10 (([1]:List Int).length) 1) hs41 3 r0 one22 (fun w37 (hs42:SH w w37 [rb] [(Z5 b1),.own Azw zw.length czw 3 1 (zw.map I),.own Azl zl.length czl 51 2 (zl.flatMap gLogin),(Z3 rb Ab bs cb q3),oI b10 ([1]:List Int) 1 3,.blk b9 29 [I zs,sb b10 (([1]:List Int).length) 1,.slice Azl zl.length czl,Str zt]])=>?_))
    refine nl (bN (nN (sr (qt r0 (lG [I zs,sb b10 (([1]:List Int).length) 1,.slice Azl zl.length czl,Str zt] hs42 5 r0 ag29) (sG [I zs,sb b10 (([1]:List Int).length) 1,.slice Azl zl.length czl,Str zt] hs42 0 r0 ag29 (fun w38 hs43=>?_))))))
    refine nn ?_
    have hs44:=hs43.pq [1,2,3,5] r0
    refine rt (fret (v:=.agg #[I zs,sb b10 (([1]:List Int).length) 1,.slice Azl zl.length czl,Str zt]) (resC hs44 3 r0 r0 ag29 r0 .nil) r0 ?_)
    exact⟨(Z2 b10),1,Azl,czl,zs,([1]:List Int),zl,zt,q3,rfl,(by(simp; done)),(by omega),(by omega),(by assumption),(by omega),(hs44.pk [1,2,0] r0)⟩
   ·refine sr (qt r0 (eqi (k:=.i64) (a:=r3) (b:=2) r0 r0) (tA (.bool (decide (r3=2))) r0 (nn ?_)))
    refine cdd (p:=r3=2) r0 (fun h5=>?_) (fun h5=>?_)
    ·refine rg (qt r0 (fa 3 fo29_3 r0) (sT (Str [120]) hs37 3 r0 one9 (fun w39 (hs45:SH w w39 [rb] [(Z5 b1),.own Azw zw.length czw 3 1 (zw.map I),.own Azl zl.length czl 51 2 (zl.flatMap gLogin),(Z3 rb Ab bs cb q3),.blk b9 29 [I zs,.slice Azw zw.length czw,.slice Azl zl.length czl,Str [120]]])=>?_)))
     refine nl (bN (nN (sr (qt r0 (lG [I zs,.slice Azw zw.length czw,.slice Azl zl.length czl,Str [120]] hs45 4 r0 ag29) (sG [I zs,.slice Azw zw.length czw,.slice Azl zl.length czl,Str [120]] hs45 0 r0 ag29 (fun w40 hs46=>?_))))))
     refine nn (rt (fret (v:=.agg #[I zs,.slice Azw zw.length czw,.slice Azl zl.length czl,Str [120]]) (resC hs46 4 r0 r0 ag29 r0 .nil) r0 ?_))
     exact⟨Azw,czw,Azl,czl,zs,zw,zl,[120],q3,rfl,(by omega),(by omega),(by(simp; done)),(by assumption),(by omega),(hs46.pk [2,0,1] r0)⟩
    ·refine sk (bN (nN (sr (qt r0 (lG [I zs,.slice Azw zw.length czw,.slice Azl zl.length czl,Str zt] hs37 3 r0 ag29) (sG [I zs,.slice Azw zw.length czw,.slice Azl zl.length czl,Str zt] hs37 0 r0 ag29 (fun w41 hs47=>?_))))))
     refine nn (rt (fret (v:=.agg #[I zs,.slice Azw zw.length czw,.slice Azl zl.length czl,Str zt]) (resC hs47 4 r0 r0 ag29 r0 .nil) r0 ?_))
     exact⟨Azw,czw,Azl,czl,zs,zw,zl,zt,q3,rfl,(by omega),(by omega),(by omega),(by assumption),(by omega),(hs47.pk [3,0,1] r0)⟩
set_option maxHeartbeats 8000000 in
theorem drawTalkSay {Acs:Option Addr} {ccs:Nat} (cs:List UInt8) (w:World) (hcs:Sl w [] 1 Acs cs.length ccs (cs.map U)):Does Tryz.prog 22 [.slice Acs cs.length ccs] w (fun v w'=>∃ Awr:Option Addr,∃ cwr:Nat,∃ Alr:Option Addr,∃ clr:Nat,∃ Abr:Option Addr,∃ cbr:Nat,∃ sx:Int,∃ wt:List Int,∃ lg:List Lg,∃ to:List UInt8,∃ b:List Int,v=.tuple #[.agg #[.int .i64 sx,.slice Awr wt.length cwr,.slice Alr lg.length clr,Str to],.slice Abr b.length cbr]∧(wt.length≤8)∧(lg.length≤4)∧(to.length≤42)∧((∀ u∈lg,u.1.length≤5∧u.2.length≤5))∧(b.length≤40)∧SH w w' [] [.own Awr wt.length cwr 3 1 (wt.map I),.own Alr lg.length clr 51 2 (lg.flatMap gLogin),.own Abr b.length cbr 3 1 (b.map I)]):=by
 refine fE (N:=23) Tryz.func22 r0 (by kernel_rfl) r0 ?_
 have hs0:=SH.refl w []
 have hcs_m:cs.length≤9223372036854775807:=Nat.le_trans hcs.cap hcs.capMax
 refine sr (al (v:=.agg #[I 0,ns,ns,Str []]) (cs:=[I 0,ns,ns,Str []]) hs0 tz29 r0 trivial r0 (fun b1 w1 hs1=>?_))
 refine tA ns r0 (nx (tm (.slice Acs cs.length ccs) r0 (cL r0 (l6Open (Acs:=Acs) (ccs:=ccs) (cs:=cs) (w:=_) (hcs:=(hcs.up0 hs1))) ?_)))
 rintro _ w2 ⟨g1,rfl,hs2⟩
 replace hs2:=hs1.call0 hs2
 refine tA (pB g1) r0 (nx (tm (pB g1) r0 (cL r0 (l92Talk (rb:=g1) (Ab:=Acs) (cb:=ccs) (bs:=cs.take 2000) (p:=0) (w:=_) (hr:=(blk_heap hs2 1 r0)) (hb:=(Sl.take_ (hcs.up hs2 (by simp) (fun k h=>.inr (hs2.lo1 1 r0 k h))) 2000)) (hbn:=(by(simp; omega))) (hp:=(by omega))) ?_)))
 rintro _ w3 ⟨Aw1,cw1,Al1,cl1,sx1,wt1,lg1,to1,q1,rfl,p1,p2,p3,p4,p5,hs3⟩
 replace hs3:=hs2.callM 1 r0 hs3 m_1
 refine al (v:=.agg #[I 0,ns,ns,Str []]) (cs:=[I 0,ns,ns,Str []]) hs3 tz29 r0 trivial r0 (fun b2 w4 hs4=>?_)
 refine sG (Z0 sx1 Aw1 wt1 cw1 Al1 lg1 cl1 to1) hs4 4 r0 ag29 (fun w5 hs5=>?_)
 refine nx (tm (pB g1) r0 (qt r0 (lG (Z0 sx1 Aw1 wt1 cw1 Al1 lg1 cl1 to1) hs5 4 r0 ag29) (cL r0 (l92Next (rb:=g1) (Ab:=Acs) (cb:=ccs) (bs:=cs.take 2000) (p:=q1) (sx:=sx1) (Awt:=Aw1) (cwt:=cw1) (wt:=wt1) (Alg:=Al1) (clg:=cl1) (lg:=lg1) (to:=to1) (w:=_) (hr:=(blk_heap hs5 1 r0)) (hb:=(Sl.take_ (hcs.up hs5 (by simp) (fun k h=>.inr (hs5.lo1 1 r0 k h))) 2000)) (hbn:=(by(simp; omega))) (hp:=(by omega)) (hwt:=(hs5.sl 2 r0 (by intro k hk; simp at hk; subst hk; exact⟨_,memi 1 r0,rfl⟩))) (hlg:=(hs5.sl 3 r0 (by intro k hk; simp at hk; subst hk; exact⟨_,memi 1 r0,rfl⟩))) (hlg_e:=(by exact lg_R (by assumption)))) ?_)))
 rintro _ w6 ⟨A1,c1,r1,q2,rfl,p6,p7,hs6⟩
 replace hs6:=hs5.callM 1 r0 hs6 m_1
 refine tA (.slice A1 r1.length c1) r0 (nn (sq (sr (tm (pB g1) r0 (cL r0 (pick (rb:=g1) (Ab:=Acs) (cb:=ccs) (bs:=cs.take 2000) (p:=q2) (n:=5) (w:=_) (hr:=(blk_heap hs6 4 r0)) (hb:=(Sl.take_ (hcs.up hs6 (by simp) (fun k h=>.inr (hs6.lo1 4 r0 k h))) 2000)) (hbn:=(by(simp; omega))) (hp:=(by omega))) ?_)))))
 rintro _ w7 ⟨r2,q3,rfl,p8,p9,hs7⟩
 replace hs7:=hs6.callM 4 r0 hs7 m_1
 refine qt r0 (eqi (k:=.i64) (a:=r2) (b:=0) r0 r0) (nn ?_)
 refine cdd (p:=r2=0) r0 (fun h1=>?_) (fun h1=>?_)
 ·refine sq ?_
  refine raJ (fun w'=>∃ L,SH w w' [] L∧(.blk b2 29 (Z0 sx1 Aw1 wt1 cw1 Al1 lg1 cl1 to1))∈L∧True) (fun f w'=>∃ (A3':Option Addr) (c3':Nat) (r3':List Int) (q3':Nat),Hz f [(2,pB b1),(3,.slice A3' r3'.length c3')]∧(r3'.length≤r1.length+3)∧(q3'≤q3+40)∧SH w w' [] [.blk b1 29 (Z0 sx1 Aw1 wt1 cw1 Al1 lg1 cl1 to1),(Z7 Aw1 wt1 cw1),(Z9 Al1 lg1 cl1),.blk b2 29 (Z0 sx1 Aw1 wt1 cw1 Al1 lg1 cl1 to1),.blk g1 124 [.slice Acs ((cs.take 2000).length) ccs,I (q3':Int)],(Z7 A3' r3' c3')]) mixed ?_ ?_
  ·refine dG 2 6 15 (fun f w'=>∃ (A3':Option Addr) (c3':Nat) (r3':List Int) (q3':Nat),Hz f [(2,pB b1),(3,ns),(17,.agg #[I sx1,(Z8 Aw1 wt1 cw1),(Z13 Al1 lg1 cl1),Str to1]),(20,.slice A3' r3'.length c3')]∧(r3'.length≤r1.length+3)∧(q3'≤q3+40)∧SH w w' [] [(Z5 b1),(Z7 Aw1 wt1 cw1),(Z9 Al1 lg1 cl1),.blk b2 29 (Z0 sx1 Aw1 wt1 cw1 Al1 lg1 cl1 to1),.blk g1 124 [.slice Acs ((cs.take 2000).length) ccs,I (q3':Int)],(Z7 A3' r3' c3')]) ?_ (fun D_5_0=>?_)
   ·rintro f w8 ⟨A3',c3',r3',q3',⟨g2,rfl⟩,p10,p11,hs8⟩
    refine aO 4 r0 (sG (Z0 sx1 Aw1 wt1 cw1 Al1 lg1 cl1 to1) hs8 0 r0 ag29 (fun w9 hs9=>?_))
    refine nk (m1 hs9 2 r0) ?_
    refine tk (fuel:=0) (is:=[5]) (.cons r0 (.nil)) (by kernel_rfl) (by kernel_rfl) (m1 hs9 2 r0) (yA r0 (asg (v:=.slice A3' r3'.length c3') r0) (.nil (ad (by kernel_rfl) ?_)))
    exact⟨A3',c3',r3',q3',(zR r0),p10,p11,(hs9.pk [5,0,1,2,3,4] r0)⟩
   refine dG 3 6 7 (fun f w'=>Hz f [(2,pB b1),(3,ns),(17,.agg #[I sx1,(Z8 Aw1 wt1 cw1),(Z13 Al1 lg1 cl1),Str to1]),(18,pB g1),(19,.slice A1 r1.length c1)]∧SH w w' [] [(Z5 b1),(Z7 Aw1 wt1 cw1),(Z9 Al1 lg1 cl1),.blk b2 29 (Z0 sx1 Aw1 wt1 cw1 Al1 lg1 cl1 to1),.own A1 r1.length c1 3 1 (r1.map I),.blk g1 124 [.slice Acs ((cs.take 2000).length) ccs,I (q3:Int)]]) ?_ (fun D_5_1=>?_)
   ·rintro f w10 ⟨⟨g3,rfl⟩,hs10⟩
    refine aO 3 r0 (cL r0 (l91Changed (rb:=g1) (Ab:=Acs) (cb:=ccs) (bs:=cs.take 2000) (p:=q3) (Axs:=A1) (cxs:=c1) (xs:=r1) (w:=_) (hr:=(blk_heap hs10 5 r0)) (hb:=(Sl.take_ (hcs.up hs10 (by simp) (fun k h=>.inr ((hs10.lo3 5 r0 4 r0 k h).resolve_left (by simp)))) 2000)) (hbn:=(by(simp; omega))) (hp:=(by omega)) (hxr:=(it_dis hs10 4 5 (by decide) r0 r0)) (hxs:=(own_ok hs10 4 r0)) (hxs_n:=(by omega))) ?_)
    rintro _ w11 ⟨A3',c3',r3',q3',rfl,p12,p13,hs11⟩
    replace hs11:=hs10.cK [5,4] [0,1,2,3] hs11 r0
    exact nk (m1 hs11 3 r0) (alc D_5_0 ⟨A3',c3',r3',q3',(zR r0),p12,p13,hs11⟩)
   have hs12:=hs7.drew
   refine tk (fuel:=3) (is:=[0,1,2]) (.cons r0 (.cons r0 (.cons r0 (.nil)))) (by kernel_rfl) (by kernel_rfl) (m1 hs12 3 r0) (yB r0 (fun ⟨Lq,hsq,mh0,_⟩=>ldgm (vs:=(Z0 sx1 Aw1 wt1 cw1 Al1 lg1 cl1 to1)) hsq mh0 r0 r0 r0 ag29) (yA r0 (mv (v:=pB g1) r0) (yA r0 (mv (v:=.slice A1 r1.length c1) r0) (.nil ?_))))
   exact alc D_5_1 ⟨(zR r0),hs12⟩
  rintro f w12 ⟨A3',c3',r3',q3',⟨g4,rfl⟩,p14,p15,hs13⟩
  refine nN ?_
  have hs14:=hs13.pq [0,1,2,5] r0
  refine rt (tR ?_)
  refine fret (v:=.tuple #[.agg #[I sx1,(Z8 Aw1 wt1 cw1),(Z13 Al1 lg1 cl1),Str to1],(Z8 A3' r3' c3')]) (resC hs14 0 r0 r0 ag29 r0 (.tmp .nil)) r0 ?_
  exact⟨Aw1,cw1,Al1,cl1,A3',c3',sx1,wt1,lg1,to1,r3',rfl,(by assumption),(by assumption),(by assumption),(by assumption),(by omega),(hs14.pk [1,2,3] r0)⟩
 ·refine sk (nN (sr (qt r0 (lG (Z0 sx1 Aw1 wt1 cw1 Al1 lg1 cl1 to1) hs7 3 r0 ag29) (tm (.slice A1 r1.length c1) r0 (sG (Z0 sx1 Aw1 wt1 cw1 Al1 lg1 cl1 to1) hs7 0 r0 ag29 (fun w13 hs15=>?_))))))
  refine tA (.slice A1 r1.length c1) r0 (nn ?_)
  have hs16:=hs15.pq [0,1,3,5] r0
  refine rt (fret (v:=.tuple #[.agg #[I sx1,(Z8 Aw1 wt1 cw1),(Z13 Al1 lg1 cl1),Str to1],.slice A1 r1.length c1]) (resC hs16 3 r0 r0 ag29 r0 (.tmp .nil)) r0 ?_)
  exact⟨Aw1,cw1,Al1,cl1,A1,c1,sx1,wt1,lg1,to1,r1,rfl,(by assumption),(by assumption),(by assumption),(by assumption),(by omega),(hs16.pk [0,1,2] r0)⟩

end Go.Proofs.YtjehmnojfpedjaaGreatDoor
