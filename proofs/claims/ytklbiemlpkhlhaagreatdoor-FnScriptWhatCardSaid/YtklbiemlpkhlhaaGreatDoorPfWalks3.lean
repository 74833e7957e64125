/-
  Part of the proofs over this seat: what each function of the program computes, function by function (the text is written by a program of this hand-in's own).
  Conditions: each theorem states its own.
-/
import Derived.Test.YtklbiemlpkhlhaaGreatDoorPfWalks2
namespace Go.Proofs.YtklbiemlpkhlhaaGreatDoor
open Go.PF Tryz
set_option maxRecDepth 100000
set_option linter.unusedSimpArgs false
set_option linter.unusedVariables false
set_option maxHeartbeats 8000000

theorem Ta (sx:Int) {Awt:aM} {cwt:Nat} (wt:aC) {Alg:aM} {clg:Nat} (lg:List (aD×aD)) (to:aD) {Abs:aM} {cbs:Nat} (bs:aC) (w:World) (hwt:Sl w [] 1 Awt wt.length cwt (wt.map I)) (H0:wt.length≤1099511627776) (hlg:Sl w [] 2 Alg lg.length clg (lg.flatMap eH)) (jS: ∀ u∈lg,u.1.length≤9223372036854775807∧u.2.length≤9223372036854775807) (HU:lg.length≤1099511627776) (hbs:Sl w [] 1 Abs bs.length cbs (bs.map I)):bF prog 149 [.agg #[I sx,.slice Awt wt.length cwt,.slice Alg lg.length clg,aA to],.slice Abs bs.length cbs] w (fun v w'=>∃ Awr:aM,∃ cwr:Nat,∃ Alr:aM,∃ clr:Nat,∃ Ayr:aM,∃ cyr:Nat,v=.tuple #[.agg #[.int .i64 ((gX lg bs).1),.slice Awr wt.length cwr,.slice Alr lg.length clr,aA []],.slice Ayr ((gX lg bs).2).length cyr]∧SH w w' [] [.own Awr wt.length cwr 3 1 (wt.map I),.own Alr lg.length clr 38 2 (lg.flatMap eH),.own Ayr (((gX lg bs).2).length) cyr 3 1 (((gX lg bs).2).map I)]):=by
 refine fQ 37 func149 r0 r0 ?_
 have aK:SH w w [] []:=SH.refl w []
 have rB:wt.length≤9223372036854775807:=cB hwt.cap hwt.cO
 have rA:lg.length≤9223372036854775807:=cB hlg.cap hlg.cO
 have nW:bs.length≤9223372036854775807:=cB hbs.cap hbs.cO
 refine sr (bx (v:=.agg #[I sx,(Z4 Awt wt cwt),(cA Alg lg clg),aA to]) (cs:=[I sx,(Z4 Awt wt cwt),(cA Alg lg clg),aA to]) aK r0 r0 aH r0 (fun b1 w1 aE=>al (cs:=fN) aE oY r0 aH r0 (fun b2 w2 aI=>tA ns r0 (nx (tm (cD Abs bs cbs) r0 (cS aI r0 (To _ _ (hbs.aP aI)) (fun w3 aN=>tm (.tuple #[.agg #[aA ((fA bs).1.1),aA ((fA bs).1.2)],I ((fA bs).2.1),.bool ((fA bs).2.2)]) r0 (qt r0 (xt 0 r0 r0) (qt r0 (xt 1 r0 r0) (qt r0 (xt 2 r0 r0) (al (cs:=lB) aN B3 r0 aH r0 (fun b3 w4 aR=>sG (EB bs) aR 2 r0 jI (fun w5 aZ=>tA (I ((fA bs).2.1)) r0 (tA (.bool ((fA bs).2.2)) r0 (nn (sq (sr (tm (.bool ((fA bs).2.2)) r0 (qt r0 (nt r0) (tm (.bool (!((fA bs).2.2))) r0 (hP 17 r0 (fun h1=>?_) (fun h1=>?_))))))))))))))))))))))
 ·have h2:=dX h1
  refine aT r0 (aT r0 (aT r0 (aT r0 (qt r0 (pt (v:=.bool true) r0 r0) (nn (fX r0 (sr (qt r0 (lG [I sx,(Z4 Awt wt cwt),(cA Alg lg clg),aA to] aZ 0 r0 cV) (cL r0 (wC _ _ _ _ 4 _ (hwt.aP aZ) (by omega) (hlg.aP aZ) jS (by omega)) ?_)))))))))
  rintro _ w6 ⟨dS,dU,dR,dT,rfl,bG⟩
  replace bG:=aZ.cJ bG
  refine cR bG aV [] [] aH r0 (fun b4 w7 bU=>sG [I 4,(Z4 dS wt dU),(cA dR lg dT),aA []] bU 1 r0 cV (fun w8 bV=>tA (sb b4 (([]:aC).length) 0) r0 (nn ?_)))
  have b9:SH w w8 [] [(jE dS wt dU),(j7 dR lg dT),(oZ b4),.blk b2 34 [I 4,(Z4 dS wt dU),(cA dR lg dT),aA []]]:=bV.pk [2,3,4,5] r0
  refine rt (tR (bO (cX b9 3 r0 r0 cV r0 (.tmp .nil)) r0 ?_))
  have e1:4=(gX lg bs).1:=by(rw[PG ‹_›]; done)
  have e2:([]:aC)=(gX lg bs).2:=by(rw[PG ‹_›]; done)
  have e3:=aS List.length e2
  exact⟨dS,dU,dR,dT,(Z7 b4),0,(kE (oP (lc (aS (Value.int .i64) e1) (lc r0 (lc r0 (lc r0 r0))))) (eE r0 e3 r0)),((b9.pq [0,1,2] r0).cast (lc r0 (lc r0 (lc (dZ (g:=I) r0 e3 r0 e2) r0))))⟩
 have h3:=dY h1
 refine qh r0 (mv (v:=I ((fA bs).2.1)) r0) (qh r0 (mv (v:=.slice Abs bs.length cbs) r0) (qh r0 (dK aV r0) (qh r0 (nK r0 r0) (qt r0 (pf (v:=.bool (decide (((fA bs).2.1)≠(bs.length:Int)))) r0 r0) (nn (bI r0 (fun h4=>?_) (fun h4=>?_)))))))
 ·refine sr (qt r0 (lG [I sx,(Z4 Awt wt cwt),(cA Alg lg clg),aA to] aZ 0 r0 cV) (cL r0 (wC _ _ _ _ 4 _ (hwt.aP aZ) (by omega) (hlg.aP aZ) jS (by omega)) ?_))
  rintro _ w9 ⟨nC,nH,nB,nF,rfl,cM⟩
  replace cM:=aZ.cJ cM
  refine cR cM aV [] [] aH r0 (fun b5 kF cW=>sG [I 4,(Z4 nC wt nH),(cA nB lg nF),aA []] cW 1 r0 cV (fun kB (dB:SH w kB [] [.blk b1 34 [I sx,(Z4 Awt wt cwt),(cA Alg lg clg),aA to],.blk b3 38 (EB bs),(jE nC wt nH),(j7 nB lg nF),(oZ b5),.blk b2 34 [I 4,(Z4 nC wt nH),(cA nB lg nF),aA []]])=>tA (sb b5 (([]:aC).length) 0) r0 (nn ?_)))
  have cY:=dB.pq [2,3,4,5] r0
  refine rt (tR (bO (cX cY 3 r0 r0 cV r0 (.tmp .nil)) r0 ?_))
  have e4:4=(gX lg bs).1:=by(rw[Bl ‹_›]; done)
  have e5:([]:aC)=(gX lg bs).2:=by(rw[Bl ‹_›]; done)
  have e6:=aS List.length e5
  exact⟨nC,nH,nB,nF,(Z7 b5),0,(kE (oP (lc (aS (Value.int .i64) e4) (lc r0 (lc r0 (lc r0 r0))))) (eE r0 e6 r0)),((cY.pq [0,1,2] r0).cast (lc r0 (lc r0 (lc (dZ (g:=I) r0 e6 r0 e5) r0))))⟩
 refine sk (nN (sq (sr (qt r0 (fa 2 CR r0) (qt r0 (lD (oN Alg lg clg) aZ 0 r0 AE) (qt r0 (lG (EB bs) aZ 2 r0 jI) (cS aZ r0 (Tn _ _ _ _ (hlg.aP aZ) jS (by(have hlk:=FL (KP (by assumption:(fA bs).2.2=true)).2.1; omega)) (by(have hlk:=FL (KP (by assumption:(fA bs).2.2=true)).2.1; omega))) (fun kI dJ=>qt r0 (nt r0) (nn (cd r0 (fun h5=>?_) (fun h5=>?_)))))))))))
 ·have h6:=dX h5
  refine sr (qt r0 (lG [I sx,(Z4 Awt wt cwt),(cA Alg lg clg),aA to] dJ 0 r0 cV) (cL r0 (wC _ _ _ _ 4 _ (hwt.aP dJ) (by omega) (hlg.aP dJ) jS (by omega)) ?_))
  rintro _ lU ⟨sH,sS,sE,sQ,rfl,dM⟩
  replace dM:=dJ.cJ dM
  refine dP dM r0 (Be false _) (fun A1 c1 mH eO=>sG [I 4,(Z4 sH wt sS),(cA sE lg sQ),aA []] eO 1 r0 cV (fun mI eK=>tA (.slice A1 ((l6 false).length) c1) r0 (nn ?_)))
  have eZ:SH w mI [] [(jE sH wt sS),(j7 sE lg sQ),.own A1 ((l6 false).length) c1 3 1 ((l6 false).map I),.blk b2 34 [I 4,(Z4 sH wt sS),(cA sE lg sQ),aA []]]:=eK.pk [2,3,4,5] r0
  refine rt (tR (bO (cX eZ 3 r0 r0 cV r0 (.tmp .nil)) r0 ?_))
  have e7:4=(gX lg bs).1:=by(rw[PI ‹_› ‹_›]; simp[h3,h4,h6]; done)
  have e8:l6 false=(gX lg bs).2:=by(rw[PI ‹_› ‹_›]; simp[h3,h4,h6]; done)
  have e9:=aS List.length e8
  exact⟨sH,sS,sE,sQ,A1,c1,(kE (oP (lc (aS (Value.int .i64) e7) (lc r0 (lc r0 (lc r0 r0))))) (eE r0 e9 r0)),((eZ.pq [0,1,2] r0).cast (lc r0 (lc r0 (lc (dZ (g:=I) r0 e9 r0 e8) r0))))⟩
 have h7:=dY h5
 refine sk (nN (sr (qt r0 (lG [I sx,(Z4 Awt wt cwt),(cA Alg lg clg),aA to] dJ 0 r0 cV) (cL r0 (wC _ _ _ _ 2 _ (hwt.aP dJ) (by omega) (hlg.aP dJ) jS (by omega)) ?_))))
 rintro _ mU ⟨sI,sU,sF,sR,rfl,fV⟩
 replace fV:=dJ.cJ fV
 refine dP fV r0 (Be true _) (fun A2 c2 n6 fD=>sG [I 2,(Z4 sI wt sU),(cA sF lg sR),aA []] fD 1 r0 cV (fun m9 (gK:SH w m9 [] [.blk b1 34 [I sx,(Z4 Awt wt cwt),(cA Alg lg clg),aA to],.blk b3 38 (EB bs),(jE sI wt sU),(j7 sF lg sR),.own A2 ((l6 true).length) c2 3 1 ((l6 true).map I),.blk b2 34 [I 2,(Z4 sI wt sU),(cA sF lg sR),aA []]])=>tA (.slice A2 ((l6 true).length) c2) r0 (nn ?_)))
 have hU:=gK.pq [2,3,4,5] r0
 refine rt (bO (cX hU 3 r0 r0 cV r0 (.tmp .nil)) r0 ?_)
 have lP:2=(gX lg bs).1:=by(rw[PI ‹_› ‹_›]; simp[h3,h4,h7]; done)
 have mB:l6 true=(gX lg bs).2:=by(rw[PI ‹_› ‹_›]; simp[h3,h4,h7]; done)
 have nU:=aS List.length mB
 exact⟨sI,sU,sF,sR,A2,c2,(kE (oP (lc (aS (Value.int .i64) lP) (lc r0 (lc r0 (lc r0 r0))))) (eE r0 nU r0)),((hU.pq [0,1,2] r0).cast (lc r0 (lc r0 (lc (dZ (g:=I) r0 nU r0 mB) r0))))⟩
theorem Tb (sx:Int) {Awt:aM} {cwt:Nat} (wt:aC) {Alg:aM} {clg:Nat} (lg:List (aD×aD)) (to:aD) {Abs:aM} {cbs:Nat} (bs:aC) (w:World) (hwt:Sl w [] 1 Awt wt.length cwt (wt.map I)) (H0:wt.length≤1099511627776) (hlg:Sl w [] 2 Alg lg.length clg (lg.flatMap eH)) (jS: ∀ u∈lg,u.1.length≤9223372036854775807∧u.2.length≤9223372036854775807) (HU:lg.length≤1099511627776) (hbs:Sl w [] 1 Abs bs.length cbs (bs.map I)):bF prog 150 [.agg #[I sx,.slice Awt wt.length cwt,.slice Alg lg.length clg,aA to],.slice Abs bs.length cbs] w (fun v w'=>∃ Awr:aM,∃ cwr:Nat,∃ Alr:aM,∃ clr:Nat,∃ Ayr:aM,∃ cyr:Nat,v=.tuple #[.agg #[.int .i64 ((fM bs).1),.slice Awr wt.length cwr,.slice Alr lg.length clr,aA ((fM bs).2.1)],.slice Ayr ((fM bs).2.2).length cyr]∧SH w w' [] [.own Awr wt.length cwr 3 1 (wt.map I),.own Alr lg.length clr 38 2 (lg.flatMap eH),.own Ayr (((fM bs).2.2).length) cyr 3 1 (((fM bs).2.2).map I)]):=by
 refine fQ 57 func150 r0 r0 ?_
 have aK:SH w w [] []:=SH.refl w []
 have rB:wt.length≤9223372036854775807:=cB hwt.cap hwt.cO
 have rA:lg.length≤9223372036854775807:=cB hlg.cap hlg.cO
 have nW:bs.length≤9223372036854775807:=cB hbs.cap hbs.cO
 refine sr (bx (v:=.agg #[I sx,(Z4 Awt wt cwt),(cA Alg lg clg),aA to]) (cs:=[I sx,(Z4 Awt wt cwt),(cA Alg lg clg),aA to]) aK r0 r0 aH r0 (fun b1 w1 aE=>al (cs:=fN) aE oY r0 aH r0 (fun b2 w2 aI=>tA ns r0 (nx (tm (cD Abs bs cbs) r0 (dP aI r0 (Tx _ _ (hbs.aP aI)) (fun eF eG w3 aN=>tm (.tuple #[.agg #[I ((dD bs).1.1),I ((dD bs).1.2.1),.slice eF (((dD bs).1.2.2.1).length) eG,aA ((dD bs).1.2.2.2.1),I ((dD bs).1.2.2.2.2)],I ((dD bs).2.1),.bool ((dD bs).2.2)]) r0 (qt r0 (xt 0 r0 r0) (qt r0 (xt 1 r0 r0) (qt r0 (xt 2 r0 r0) (al (cs:=AP) aN LB r0 aH r0 (fun b3 w4 aR=>sG (L2 bs eF eG) aR 3 r0 qU (fun w5 aZ=>tA (I ((dD bs).2.1)) r0 (tA (.bool ((dD bs).2.2)) r0 (nn (sq (sr (tm (.bool ((dD bs).2.2)) r0 (qt r0 (nt r0) (tm (.bool (!((dD bs).2.2))) r0 (hP 22 r0 (fun h1=>?_) (fun h1=>?_))))))))))))))))))))))
 ·have h2:=dX h1
  refine aT r0 (aT r0 (aT r0 (aT r0 (qt r0 (pt (v:=.bool true) r0 r0) (nn (fX r0 (sr (qt r0 (lG [I sx,(Z4 Awt wt cwt),(cA Alg lg clg),aA to] aZ 0 r0 cV) (cL r0 (wC _ _ _ _ 4 _ (hwt.aP aZ) (by omega) (hlg.aP aZ) jS (by omega)) ?_)))))))))
  rintro _ w6 ⟨dS,dU,dR,dT,rfl,bG⟩
  replace bG:=aZ.cJ bG
  refine cR bG aV [] [] aH r0 (fun b4 w7 bU=>sG [I 4,(Z4 dS wt dU),(cA dR lg dT),aA []] bU 1 r0 cV (fun w8 bV=>tA (sb b4 (([]:aC).length) 0) r0 (nn ?_)))
  have b9:SH w w8 [] [(jE dS wt dU),(j7 dR lg dT),(oZ b4),.blk b2 34 [I 4,(Z4 dS wt dU),(cA dR lg dT),aA []]]:=bV.pk [3,4,5,6] r0
  refine rt (tR (bO (cX b9 3 r0 r0 cV r0 (.tmp .nil)) r0 ?_))
  have e1:4=(fM bs).1:=by(rw[IX ‹_›]; done)
  have e2:[]=(fM bs).2.1:=by(rw[IX ‹_›]; done)
  have e3:([]:aC)=(fM bs).2.2:=by(rw[IX ‹_›]; done)
  have e4:=aS List.length e3
  exact⟨dS,dU,dR,dT,(Z7 b4),0,(kE (oP (lc (aS (Value.int .i64) e1) (lc r0 (lc r0 (lc (aS (aA) e2) r0))))) (eE r0 e4 r0)),((b9.pq [0,1,2] r0).cast (lc r0 (lc r0 (lc (dZ (g:=I) r0 e4 r0 e3) r0))))⟩
 have h3:=dY h1
 refine qh r0 (mv (v:=I ((dD bs).2.1)) r0) (qh r0 (mv (v:=.slice Abs bs.length cbs) r0) (qh r0 (dK aV r0) (qh r0 (nK r0 r0) (qt r0 (pf (v:=.bool (decide (((dD bs).2.1)≠(bs.length:Int)))) r0 r0) (nn (bI r0 (fun h4=>?_) (fun h4=>?_)))))))
 ·refine sr (qt r0 (lG [I sx,(Z4 Awt wt cwt),(cA Alg lg clg),aA to] aZ 0 r0 cV) (cL r0 (wC _ _ _ _ 4 _ (hwt.aP aZ) (by omega) (hlg.aP aZ) jS (by omega)) ?_))
  rintro _ w9 ⟨nC,nH,nB,nF,rfl,cM⟩
  replace cM:=aZ.cJ cM
  refine cR cM aV [] [] aH r0 (fun b5 kF cW=>sG [I 4,(Z4 nC wt nH),(cA nB lg nF),aA []] cW 1 r0 cV (fun kB (dB:SH w kB [] [.blk b1 34 [I sx,(Z4 Awt wt cwt),(cA Alg lg clg),aA to],.own eF (((dD bs).1.2.2.1).length) eG 3 1 (((dD bs).1.2.2.1).map I),.blk b3 83 (L2 bs eF eG),(jE nC wt nH),(j7 nB lg nF),(oZ b5),.blk b2 34 [I 4,(Z4 nC wt nH),(cA nB lg nF),aA []]])=>tA (sb b5 (([]:aC).length) 0) r0 (nn ?_)))
  have cY:=dB.pq [3,4,5,6] r0
  refine rt (tR (bO (cX cY 3 r0 r0 cV r0 (.tmp .nil)) r0 ?_))
  have e5:4=(fM bs).1:=by(rw[TL ‹_›]; done)
  have e6:[]=(fM bs).2.1:=by(rw[TL ‹_›]; done)
  have e7:([]:aC)=(fM bs).2.2:=by(rw[TL ‹_›]; done)
  have e8:=aS List.length e7
  exact⟨nC,nH,nB,nF,(Z7 b5),0,(kE (oP (lc (aS (Value.int .i64) e5) (lc r0 (lc r0 (lc (aS (aA) e6) r0))))) (eE r0 e8 r0)),((cY.pq [0,1,2] r0).cast (lc r0 (lc r0 (lc (dZ (g:=I) r0 e8 r0 e7) r0))))⟩
 refine sk (nN (sq (sr (qt r0 (fa 0 HM r0) (qt r0 (lD (I ((dD bs).1.1)) aZ 3 r0 cN) (qt r0 (nK r0 r0) (nn (bI r0 (fun h5=>?_) (fun h5=>?_)))))))))
 ·refine sr (qt r0 (fa 1 zT r0) (qt r0 (lG (HB bs eF eG) aZ 3 r0 cG) (dP aZ r0 (Bg 7 _ _ _ _ _ (aZ.cI 2 r0) (by(have hrn:=IL bs; omega))) (fun A1 c1 kI dJ=>tm (.tuple #[.slice A1 (((rN bs).1).length) c1,.bool ((rN bs).2)]) r0 (qt r0 (xt 0 r0 r0) (qt r0 (xt 1 r0 r0) (tA (.slice A1 (((rN bs).1).length) c1) r0 (tA (.bool ((rN bs).2)) r0 (nn ?_)))))))))
  have dM:SH w kI [] [.blk b1 34 [I sx,(Z4 Awt wt cwt),(cA Alg lg clg),aA to],.blk b2 34 fN,.own A1 (((rN bs).1).length) c1 3 1 (((rN bs).1).map I)]:=dJ.pk [0,1,4] r0
  refine sr (qt r0 (lG [I sx,(Z4 Awt wt cwt),(cA Alg lg clg),aA to] dM 0 r0 cV) (cL r0 (wC _ _ _ _ 4 _ (hwt.aP dM) (by omega) (hlg.aP dM) jS (by omega)) ?_))
  rintro _ lU ⟨sH,sS,sE,sQ,rfl,eO⟩
  replace eO:=dM.cJ eO
  refine tm (.slice A1 (((rN bs).1).length) c1) r0 (sG [I 4,(Z4 sH wt sS),(cA sE lg sQ),aA []] eO 1 r0 cV (fun mH eK=>tA (.slice A1 (((rN bs).1).length) c1) r0 (nn (rt (tR (bO (cX eK 4 r0 r0 cV r0 (.tmp .nil)) r0 ?_))))))
  have e9:4=(fM bs).1:=by(rw[IW ‹_› (Decidable.not_not.1 ‹_›) ‹_›]; done)
  have lP:[]=(fM bs).2.1:=by(rw[IW ‹_› (Decidable.not_not.1 ‹_›) ‹_›]; done)
  have mB:(rN bs).1=(fM bs).2.2:=by(rw[IW ‹_› (Decidable.not_not.1 ‹_›) ‹_›]; done)
  have nU:=aS List.length mB
  exact⟨sH,sS,sE,sQ,A1,c1,(kE (oP (lc (aS (Value.int .i64) e9) (lc r0 (lc r0 (lc (aS (aA) lP) r0))))) (eE r0 nU r0)),((eK.pq [2,3,1] r0).cast (lc r0 (lc r0 (lc (dZ (g:=I) r0 nU r0 mB) r0))))⟩
 refine sk (nN (sr (qt r0 (fa 1 zT r0) (qt r0 (lG (HB bs eF eG) aZ 3 r0 cG) (dP aZ r0 (Bg 0 _ _ _ _ _ (aZ.cI 2 r0) (by(have hrn:=IL bs; omega))) (fun A2 c2 mI eZ=>tm (.tuple #[.slice A2 (((qE bs).1).length) c2,.bool ((qE bs).2)]) r0 (qt r0 (xt 0 r0 r0) (qt r0 (xt 1 r0 r0) (tA (.slice A2 (((qE bs).1).length) c2) r0 (tA (.bool ((qE bs).2)) r0 (nn (sq (rg (qt r0 (lG [I sx,(Z4 Awt wt cwt),(cA Alg lg clg),aA to] eZ 0 r0 cV) (cL r0 (wC _ _ _ _ 3 _ (hwt.aP eZ) (by omega) (hlg.aP eZ) jS (by omega)) ?_)))))))))))))))
 rintro _ mU ⟨sI,sU,sF,sR,rfl,fV⟩
 replace fV:=eZ.cJ fV
 refine al (cs:=fN) fV oY r0 aH r0 (fun b6 n6 fD=>sG [I 3,(Z4 sI wt sU),(cA sF lg sR),aA []] fD 7 r0 cV (fun m9 (gK:SH w m9 [] [.blk b1 34 [I sx,(Z4 Awt wt cwt),(cA Alg lg clg),aA to],.blk b2 34 fN,.own eF (((dD bs).1.2.2.1).length) eG 3 1 (((dD bs).1.2.2.1).map I),.blk b3 83 (L2 bs eF eG),.own A2 (((qE bs).1).length) c2 3 1 (((qE bs).1).map I),(jE sI wt sU),(j7 sF lg sR),.blk b6 34 [I 3,(Z4 sI wt sU),(cA sF lg sR),aA []]])=>nx (qt r0 (fa 1 zT r0) (qt r0 (lG (HB bs eF eG) gK 3 r0 cG) (cS gK r0 (TD _ _ _ _ _ (gK.cI 2 r0) (by(have hrn:=IL bs; omega))) (fun qQ hU=>qt r0 (fa 3 A0 r0) (sT (aA (L6 bs)) hU 7 r0 eC (fun rJ iN=>nn ?_))))))))
 have iB:SH w rJ [] [.blk b2 34 fN,.own A2 (((qE bs).1).length) c2 3 1 (((qE bs).1).map I),(jE sI wt sU),(j7 sF lg sR),.blk b6 34 [I 3,(Z4 sI wt sU),(cA sF lg sR),aA (L6 bs)]]:=iN.pk [1,4,5,6,7] r0
 refine sr (qt r0 (lG [I 3,(Z4 sI wt sU),(cA sF lg sR),aA (L6 bs)] iB 4 r0 cV) (tm (.slice A2 (((qE bs).1).length) c2) r0 (sG [I 3,(Z4 sI wt sU),(cA sF lg sR),aA (L6 bs)] iB 0 r0 cV (fun tL iE=>tA (.slice A2 (((qE bs).1).length) c2) r0 (nn (rt (bO (cX iE 4 r0 r0 cV r0 (.tmp .nil)) r0 ?_)))))))
 have pU:3=(fM bs).1:=by(rw[IV ‹_› (Decidable.not_not.1 ‹_›) (Decidable.not_not.1 ‹_›)]; done)
 have qW:gZ ((dD bs).1.2.1) ((dD bs).1.2.2.1) ((dD bs).1.2.2.2.1) ((dD bs).1.2.2.2.2)=(fM bs).2.1:=by(rw[IV ‹_› (Decidable.not_not.1 ‹_›) (Decidable.not_not.1 ‹_›)]; done)
 have rR:(qE bs).1=(fM bs).2.2:=by(rw[IV ‹_› (Decidable.not_not.1 ‹_›) (Decidable.not_not.1 ‹_›)]; done)
 have wR:=aS List.length rR
 exact⟨sI,sU,sF,sR,A2,c2,(kE (oP (lc (aS (Value.int .i64) pU) (lc r0 (lc r0 (lc (aS (aA) qW) r0))))) (eE r0 wR r0)),((iE.pq [1,2,0] r0).cast (lc r0 (lc r0 (lc (dZ (g:=I) r0 wR r0 rR) r0))))⟩
theorem Ub (sx:Int) {Awt:aM} {cwt:Nat} (wt:aC) {Alg:aM} {clg:Nat} (lg:List (aD×aD)) (to:aD) {Abs:aM} {cbs:Nat} (bs:aC) (w:World) (hwt:Sl w [] 1 Awt wt.length cwt (wt.map I)) (hlg:Sl w [] 2 Alg lg.length clg (lg.flatMap eH)) (jS: ∀ u∈lg,u.1.length≤9223372036854775807∧u.2.length≤9223372036854775807) (RP:to.length≤1099511627776) (hbs:Sl w [] 1 Abs bs.length cbs (bs.map I)):bF prog 94 [.agg #[I sx,.slice Awt wt.length cwt,.slice Alg lg.length clg,aA to],.slice Abs bs.length cbs] w (fun v w'=>∃ Awr:aM,∃ cwr:Nat,∃ Alr:aM,∃ clr:Nat,∃ Ayr:aM,∃ cyr:Nat,v=.tuple #[.agg #[.int .i64 ((bY sx wt lg to bs).1.1),.slice Awr ((bY sx wt lg to bs).1.2.1).length cwr,.slice Alr ((bY sx wt lg to bs).1.2.2.1).length clr,aA ((bY sx wt lg to bs).1.2.2.2)],.slice Ayr ((bY sx wt lg to bs).2.1).length cyr,.bool ((bY sx wt lg to bs).2.2)]∧SH w w' [] [.own Awr (((bY sx wt lg to bs).1.2.1).length) cwr 3 1 (((bY sx wt lg to bs).1.2.1).map I),.own Alr (((bY sx wt lg to bs).1.2.2.1).length) clr 38 2 (((bY sx wt lg to bs).1.2.2.1).flatMap eH),.own Ayr (((bY sx wt lg to bs).2.1).length) cyr 3 1 (((bY sx wt lg to bs).2.1).map I)]):=by
 refine fQ 57 func94 r0 r0 ?_
 have aK:=SH.refl w []
 have rB:wt.length≤9223372036854775807:=cB hwt.cap hwt.cO
 have rA:lg.length≤9223372036854775807:=cB hlg.cap hlg.cO
 have nW:bs.length≤9223372036854775807:=cB hbs.cap hbs.cO
 refine sr (bx (v:=.agg #[I sx,(Z4 Awt wt cwt),(cA Alg lg clg),aA to]) (cs:=[I sx,(Z4 Awt wt cwt),(cA Alg lg clg),aA to]) aK r0 r0 aH r0 (fun b1 w1 aE=>al (cs:=fN) aE oY r0 aH r0 (fun b2 w2 aI=>tA ns r0 (tA (.bool false) r0 (nn (sq (sr (qt r0 (lG [I sx,(Z4 Awt wt cwt),(cA Alg lg clg),aA to] aI 0 r0 cV) (cS aI r0 (Uc _ _ _ _ _ (hwt.aP aI) (hlg.aP aI) jS (by omega)) (fun w3 aN=>qt r0 (nt r0) (tm (.bool (!(iV sx wt lg to))) r0 (hP 16 r0 (fun h1=>?_) (fun h1=>?_)))))))))))))
 ·have h2:=dX h1
  refine aT r0 (aT r0 (aT r0 (qt r0 (pt (v:=.bool true) r0 r0) (nn (fX r0 (sq (rg (qt r0 (bQ (v:=.agg #[I 0,ns,ns,aA []]) [] r0) (cR aN aV [] [] aH r0 (fun b3 w4 aR=>sG fN aR 1 r0 cV (fun w5 aZ=>tA (sb b3 (([]:aC).length) 0) r0 (tA (.bool false) r0 (nn (rt (tR (bO (cX aZ 2 r0 r0 cV r0 (.tmp (.tmp .nil))) r0 ?_))))))))))))))))
  have bG:=aZ.nl [Z0] r0
  have bU:=bG.nl [.own none (([]:List (aD×aD)).length) 0 38 2 (([]:List (aD×aD)).flatMap eH)] r0
  have e1:bY sx wt lg to bs=((0,([]:aC),([]:List (aD×aD)),[]),([]:aC),false):=by exact I3 (.inl ‹_›)
  rw[e1]
  exact⟨none,0,none,0,(Z7 b3),0,rfl,(bU.pk [3,4,1] r0)⟩
 have h3:=dY h1
 refine qh r0 (mv (v:=.slice Abs bs.length cbs) r0) (cl ⟨_,rfl,rfl⟩ r0 (wU _ _ (hbs.aP aN)) ?_)
 rintro _ w6 ⟨rfl,bV⟩
 replace bV:=aN.cJ bV
 refine qh r0 (nt r0) (qt r0 (pf (v:=.bool (!(bJ bs))) r0 r0) (nn (cd r0 (fun h4=>?_) (fun h4=>?_))))
 ·have h5:=dX h4
  refine sr (qt r0 (bQ (v:=.agg #[I 0,ns,ns,aA []]) [] r0) (cR bV aV [] [] aH r0 (fun b4 w7 b9=>sG fN b9 1 r0 cV (fun w8 cM=>tA (sb b4 (([]:aC).length) 0) r0 (tA (.bool false) r0 (nn (rt (tR (bO (cX cM 2 r0 r0 cV r0 (.tmp (.tmp .nil))) r0 ?_)))))))))
  have cW:=cM.nl [Z0] r0
  have dB:=cW.nl [.own none (([]:List (aD×aD)).length) 0 38 2 (([]:List (aD×aD)).flatMap eH)] r0
  have e2:bY sx wt lg to bs=((0,([]:aC),([]:List (aD×aD)),[]),([]:aC),false):=by exact I3 (.inr (.inl ‹_›))
  rw[e2]
  exact⟨none,0,none,0,(Z7 b4),0,rfl,(dB.pk [3,4,1] r0)⟩
 have h6:=dY h4
 refine sk (nN (sq (sr (qt r0 (fa 0 o7 r0) (qt r0 (lD (I sx) bV 0 r0 cN) (nl (nN (bl (sr (qt r0 (dO r0 r0) (tA (.bool (decide (sx=0))) r0 (nn (bI r0 (fun h7=>?_) (fun h7=>?_))))))))))))))
 ·have htp:=wY (by assumption:iV sx wt lg to=true)
  have hmw:=BT htp.2.1
  refine sr (qt r0 (lG [I sx,(Z4 Awt wt cwt),(cA Alg lg clg),aA to] bV 0 r0 cV) (tm (cD Abs bs cbs) r0 (cL r0 (Sz _ _ _ _ _ _ (hwt.aP bV) (by omega) (hlg.aP bV) jS (by omega) (hbs.aP bV)) ?_)))
  rintro _ w9 ⟨dS,dU,dR,dT,nO,nT,rfl,cY⟩
  replace cY:=bV.cJ cY
  refine tm (.tuple #[.agg #[I ((hG wt bs).1),(Z4 dS wt dU),(cA dR lg dT),aA []],.slice nO (((hG wt bs).2).length) nT]) r0 (qt r0 (xt 0 r0 r0) (qt r0 (xt 1 r0 r0) (al (cs:=fN) cY oY r0 aH r0 (fun b5 kF dJ=>sG [I ((hG wt bs).1),(Z4 dS wt dU),(cA dR lg dT),aA []] dJ 5 r0 cV (fun kB dM=>tA (.slice nO (((hG wt bs).2).length) nT) r0 (nx (qt r0 (lG [I ((hG wt bs).1),(Z4 dS wt dU),(cA dR lg dT),aA []] dM 5 r0 cV) (tm (.slice nO (((hG wt bs).2).length) nT) r0 (sG [I ((hG wt bs).1),(Z4 dS wt dU),(cA dR lg dT),aA []] dM 1 r0 cV (fun kI eO=>tA (.slice nO (((hG wt bs).2).length) nT) r0 (tA (.bool true) r0 (nn ?_))))))))))))
  have eK:=eO.pq [1,2,3,5] r0
  refine rt (bR (tR (bO (cX eK 3 r0 r0 cV r0 (.tmp (.tmp .nil))) r0 ?_)))
  have e3:bY sx wt lg to bs=(((hG wt bs).1,wt,lg,[]),(hG wt bs).2,true):=by exact Wy ‹_› ‹_› ‹_›
  rw[e3]
  exact⟨dS,dU,dR,dT,nO,nT,rfl,(eK.pk [0,1,2] r0)⟩
 refine sr (qt r0 (dO r0 r0) (tA (sP sx) r0 (nn (bI r0 (fun h8=>?_) (fun h8=>?_)))))
 ·have htp:=wY (by assumption:iV sx wt lg to=true)
  have hmw:=BT htp.2.1
  refine sr (qt r0 (lG [I sx,(Z4 Awt wt cwt),(cA Alg lg clg),aA to] bV 0 r0 cV) (tm (cD Abs bs cbs) r0 (cL r0 (Ta _ _ _ _ _ _ (hwt.aP bV) (by omega) (hlg.aP bV) jS (by omega) (hbs.aP bV)) ?_)))
  rintro _ lU ⟨nC,nH,nB,nF,JA,JZ,rfl,eZ⟩
  replace eZ:=bV.cJ eZ
  refine tm (.tuple #[.agg #[I ((gX lg bs).1),(Z4 nC wt nH),(cA nB lg nF),aA []],.slice JA (((gX lg bs).2).length) JZ]) r0 (qt r0 (xt 0 r0 r0) (qt r0 (xt 1 r0 r0) (al (cs:=fN) eZ oY r0 aH r0 (fun b6 mH fV=>sG [I ((gX lg bs).1),(Z4 nC wt nH),(cA nB lg nF),aA []] fV 5 r0 cV (fun mI fD=>tA (.slice JA (((gX lg bs).2).length) JZ) r0 (nx (qt r0 (lG [I ((gX lg bs).1),(Z4 nC wt nH),(cA nB lg nF),aA []] fD 5 r0 cV) (tm (.slice JA (((gX lg bs).2).length) JZ) r0 (sG [I ((gX lg bs).1),(Z4 nC wt nH),(cA nB lg nF),aA []] fD 1 r0 cV (fun mU gK=>tA (.slice JA (((gX lg bs).2).length) JZ) r0 (tA (.bool true) r0 (nn ?_))))))))))))
  have hU:=gK.pq [1,2,3,5] r0
  refine rt (bR (tR (bO (cX hU 3 r0 r0 cV r0 (.tmp (.tmp .nil))) r0 ?_)))
  have e4:bY sx wt lg to bs=(((gX lg bs).1,wt,lg,[]),(gX lg bs).2,true):=by exact Wz ‹_› ‹_› ‹_›
  rw[e4]
  exact⟨nC,nH,nB,nF,JA,JZ,rfl,(hU.pk [0,1,2] r0)⟩
 refine sr (qt r0 (dO r0 r0) (tA (.bool (decide (sx=2))) r0 (nn (bI r0 (fun h9=>?_) (fun h9=>?_)))))
 ·refine sr (qt r0 (lG [I sx,(Z4 Awt wt cwt),(cA Alg lg clg),aA to] bV 0 r0 cV) (tm (cD Abs bs cbs) r0 (cL r0 (Tb _ _ _ _ _ _ (hwt.aP bV) (by(have htp:=wY (by assumption:iV sx wt lg to=true); have hmw:=BT htp.2.1; omega)) (hlg.aP bV) jS (by(have htp:=wY (by assumption:iV sx wt lg to=true); have hmw:=BT htp.2.1; omega)) (hbs.aP bV)) ?_)))
  rintro _ n6 ⟨sH,sS,sE,sQ,JB,J0,rfl,iN⟩
  replace iN:=bV.cJ iN
  refine tm (.tuple #[.agg #[I ((fM bs).1),(Z4 sH wt sS),(cA sE lg sQ),aA ((fM bs).2.1)],.slice JB (((fM bs).2.2).length) J0]) r0 (qt r0 (xt 0 r0 r0) (qt r0 (xt 1 r0 r0) (al (cs:=fN) iN oY r0 aH r0 (fun b7 m9 iB=>sG [I ((fM bs).1),(Z4 sH wt sS),(cA sE lg sQ),aA ((fM bs).2.1)] iB 5 r0 cV (fun qQ iE=>tA (.slice JB (((fM bs).2.2).length) J0) r0 (nx (qt r0 (lG [I ((fM bs).1),(Z4 sH wt sS),(cA sE lg sQ),aA ((fM bs).2.1)] iE 5 r0 cV) (tm (.slice JB (((fM bs).2.2).length) J0) r0 (sG [I ((fM bs).1),(Z4 sH wt sS),(cA sE lg sQ),aA ((fM bs).2.1)] iE 1 r0 cV (fun rJ jB=>tA (.slice JB (((fM bs).2.2).length) J0) r0 (tA (.bool true) r0 (nn ?_))))))))))))
  have gV:=jB.pq [1,2,3,5] r0
  refine rt (bR (tR (bO (cX gV 3 r0 r0 cV r0 (.tmp (.tmp .nil))) r0 ?_)))
  have e5:bY sx wt lg to bs=(((fM bs).1,wt,lg,(fM bs).2.1),(fM bs).2.2,true):=by exact Cp ‹_› ‹_› ‹_›
  rw[e5]
  exact⟨sH,sS,sE,sQ,JB,J0,rfl,(gV.pk [0,1,2] r0)⟩
 refine sk (bN (nN (sr (qt r0 (bQ (v:=.agg #[I 0,ns,ns,aA []]) [] r0) (cR bV aV [] [] aH r0 (fun b8 tL kU=>sG fN kU 1 r0 cV (fun sC kV=>tA (sb b8 (([]:aC).length) 0) r0 (tA (.bool false) r0 (nn (rt (bO (cX kV 2 r0 r0 cV r0 (.tmp (.tmp .nil))) r0 ?_)))))))))))
 have kY:=kV.nl [Z0] r0
 have kH:=kY.nl [.own none (([]:List (aD×aD)).length) 0 38 2 (([]:List (aD×aD)).flatMap eH)] r0
 have e6:bY sx wt lg to bs=((0,([]:aC),([]:List (aD×aD)),[]),([]:aC),false):=by exact I3 (.inr (.inr (by have htp:=wY (by assumption:iV sx wt lg to=true); have hmw:=BT htp.2.1; omega)))
 rw[e6]
 exact⟨none,0,none,0,(Z7 b8),0,rfl,(kH.pk [3,4,1] r0)⟩
theorem Ts (ka:Int) {Aqa:aM} {cqa:Nat} (qa:aC) (na:aD) (pa:Int) (kb:Int) {Aqb:aM} {cqb:Nat} (qb:aC) (nb:aD) (pb:Int) (w:World) (hqa:Sl w [] 1 Aqa qa.length cqa (qa.map I)) (NF:na.length≤1099511627776) (hqb:Sl w [] 1 Aqb qb.length cqb (qb.map I)) (NG:nb.length≤1099511627776):bF prog 229 [.agg #[I ka,.slice Aqa qa.length cqa,aA na,I pa,I kb,.slice Aqb qb.length cqb,aA nb,I pb]] w (fun v w'=>v=.bool (l7 ka qa na pa kb qb nb pb)∧SH w w' [] []):=by
 refine fQ 23 func229 r0 r0 ?_
 have aK:=SH.refl w []
 have NH:qa.length≤9223372036854775807:=cB hqa.cap hqa.cO
 have NI:qb.length≤9223372036854775807:=cB hqb.cap hqb.cO
 refine sr (bx (v:=.agg #[I ka,(Z4 Aqa qa cqa),aA na,I pa,I kb,(Z4 Aqb qb cqb),aA nb,I pb]) (cs:=[I ka,(Z4 Aqa qa cqa),aA na,I pa,I kb,(Z4 Aqb qb cqb),aA nb,I pb]) aK r0 r0 aH r0 (fun b1 w1 aE=>tA (.bool false) r0 (nx (qt r0 (fa 0 CQ r0) (qt r0 (lG [I ka,(Z4 Aqa qa cqa),aA na,I pa] aE 0 r0 cG) (cS aE r0 (AF _ _ _ _ _ (hqa.aP aE) (by omega)) (fun w2 aI=>tm (.bool (dN ka qa na pa)) r0 (hP 6 r0 (fun h1=>?_) (fun h1=>?_)))))))))
 ·refine qh r0 (fa 4 AZ r0) (qh r0 (lG [I kb,(Z4 Aqb qb cqb),aA nb,I pb] aI 0 r0 cG) (cl ⟨_,rfl,rfl⟩ r0 (AF _ _ _ _ _ (hqb.aP aI) (by omega)) ?_))
  rintro _ w3 ⟨rfl,aN⟩
  replace aN:=aI.cJ aN
  refine qt r0 (pt (v:=.bool (dN kb qb nb pb)) r0 r0) (tm (.bool (dN kb qb nb pb)) r0 (hP 11 r0 (fun h2=>?_) (fun h2=>?_)))
  ·refine qh r0 (fa 0 CQ r0) (qh r0 (fa 0 o8 r0) (qh r0 (lD (I ka) aN 0 r0 cN) (qh r0 (dO r0 r0) (qt r0 (pt (v:=.bool (decide (ka=1))) r0 r0) (tm (sP ka) r0 (fF 17 r0 (fun h3=>?_) (fun h3=>?_)))))))
   ·refine qh r0 (fa 4 AZ r0) (qh r0 (fa 0 o8 r0) (qh r0 (lD (I kb) aN 0 r0 cN) (qh r0 (dO r0 r0) (qt r0 (pt (v:=.bool (decide (kb=1))) r0 r0) (tA (sP kb) r0 (nn (rt (fT (sP kb) r0 ?_))))))))
    have e1:(decide (kb=1))=l7 ka qa na pa kb qb nb pb:=by(simp[l7]; intros; simp_all; done)
    exact⟨(aS (Value.bool) e1),(aN.pk [] r0)⟩
   refine bA r0 (bA r0 (bA r0 (bA r0 (qt r0 (pf (v:=.bool false) r0 r0) (tA (.bool false) r0 (nn (rt (fT (.bool false) r0 ?_))))))))
   have e2:false=l7 ka qa na pa kb qb nb pb:=by(simp[l7,h1,h2,h3]; done)
   exact⟨(aS (Value.bool) e2),(aN.pk [] r0)⟩
  refine bA r0 (bA r0 (bA r0 (bA r0 (qt r0 (pf (v:=.bool false) r0 r0) (tm (.bool false) r0 (bA r0 (bA r0 (bA r0 (bA r0 (qt r0 (pf (v:=.bool false) r0 r0) (tA (.bool false) r0 (nn (rt (fT (.bool false) r0 ?_))))))))))))))
  have e3:false=l7 ka qa na pa kb qb nb pb:=by(simp[l7,h1,h2]; done)
  exact⟨(aS (Value.bool) e3),(aN.pk [] r0)⟩
 refine bA r0 (bA r0 (bA r0 (qt r0 (pf (v:=.bool false) r0 r0) (tm (.bool false) r0 (bA r0 (bA r0 (bA r0 (bA r0 (qt r0 (pf (v:=.bool false) r0 r0) (tm (.bool false) r0 (bA r0 (bA r0 (bA r0 (bA r0 (qt r0 (pf (v:=.bool false) r0 r0) (tA (.bool false) r0 (nn (rt (fT (.bool false) r0 ?_)))))))))))))))))))
 have e4:false=l7 ka qa na pa kb qb nb pb:=by(simp[l7,h1]; done)
 exact⟨(aS (Value.bool) e4),(aI.pk [] r0)⟩
theorem Sx (w:World):bF prog 195 [] w (fun v w'=>∃ Ar:aM,∃ cr:Nat,v=.slice Ar eD.length cr∧SH w w' [] [.own Ar eD.length cr 3 1 (eD.map I)]):=by
 refine fQ 2 func195 r0 r0 ?_
 have aK:=SH.refl w []
 refine sr (tA ns r0 (nx (cR aK aV L7 L7 aH r0 (fun b1 w1 aE=>tA (sb b1 (HE.length) 14) r0 (nn (rt (fT (sb b1 (HE.length) 14) r0 ?_)))))))
 have e1:HE=eD:=by rfl
 have e2:=aS List.length e1
 exact⟨(Z7 b1),14,(eE r0 e2 r0),(aE.cast (lc (dZ (g:=I) r0 e2 r0 e1) r0))⟩
theorem W9 (w:World):bF prog 114 [] w (fun v w'=>∃ Ar:aM,∃ cr:Nat,v=.slice Ar eD.length cr∧SH w w' [] [.own Ar eD.length cr 3 1 (eD.map I)]):=by
 refine fQ 2 func114 r0 r0 ?_
 have aK:=SH.refl w []
 refine sr (tA ns r0 (nx (cR aK aV L7 L7 aH r0 (fun b1 w1 aE=>tA (sb b1 (HE.length) 14) r0 (nn (rt (fT (sb b1 (HE.length) 14) r0 ?_)))))))
 have e1:HE=eD:=by rfl
 have e2:=aS List.length e1
 exact⟨(Z7 b1),14,(eE r0 e2 r0),(aE.cast (lc (dZ (g:=I) r0 e2 r0 e1) r0))⟩
theorem TF (f:Bool) (k:Int) (w:World):bF prog 145 [.bool f,I k] w (fun v w'=>v=.int .i64 (if f=true then k else 0)∧SH w w' [] []):=by
 refine fQ 7 func145 r0 r0 ?_
 have aK:=SH.refl w []
 refine sr (tA (I 0) r0 (nn (sq (sr (tm (.bool f) r0 (nn (cd r0 (fun h1=>?_) (fun h1=>?_))))))))
 ·exact sr (tm (I k) r0 (tA (I k) r0 (nn (rt (tR (fI r0 (by simp[h1]) aK))))))
 exact sk (nN (sr (tA (I 0) r0 (nn (rt (fI r0 (by simp[h1]) aK))))))
theorem Ay {Ab:aM} {cb:Nat} (b:aC) (w:World) (hb:Sl w [] 1 Ab b.length cb (b.map I)):bF prog 146 [.slice Ab b.length cb] w (fun v w'=>v=.bool (oA b eD)∧SH w w' [] []):=by
 refine fQ 27 func146 r0 r0 ?_
 have aK:=SH.refl w []
 have q7:b.length≤9223372036854775807:=cB hb.cap hb.cO
 refine sr (tA (.bool false) r0 (nx (dP aK r0 (Sx _) (fun A1 c1 w1 aE=>tA (.slice A1 eD.length c1) r0 (nn (sq (sr (tA (I 0) r0 (nl (nN (bl (lp (σ:=Nat) (fun(k:Nat) f w'=>Hz f [(0,.slice Ab b.length cb),(3,.slice A1 eD.length c1),(4,I (k:Int))]∧(k≤b.length∧k≤eD.length)∧(b.take k=eD.take k)∧SH w w' [] [.own A1 eD.length c1 3 1 (eD.map I)]) (fun k=>b.length-k) 0 ⟨(zR r0),(by simp),(by simp),aE⟩ ?_))))))))))))
 rintro k f w2 ⟨⟨g1,rfl⟩,hk,hz,aI⟩
 refine sq (sr (tm (I (k:Int)) r0 (tm (cD Ab b cb) r0 (qt r0 (dK aV r0) (qt r0 (lss r0 r0) (tm (.bool (decide ((k:Int)<(b.length:Int)))) r0 (fF 10 r0 (fun h1=>?_) (fun h1=>?_))))))))
 ·refine qh r0 (mv (v:=I (k:Int)) r0) (qh r0 (mv (v:=.slice A1 eD.length c1) r0) (qh r0 (dK aV r0) (qh r0 (lss r0 r0) (qt r0 (pt (v:=.bool (decide ((k:Int)<(eD.length:Int)))) r0 r0) (nn (bI r0 (fun h2=>?_) (fun h2=>?_)))))))
  ·refine sk (nN (sq (bl (sq ?_))))
   obtain ⟨b1,rfl⟩:=sA aI 0 r0 (by(have hhl:eD.length=14:=rfl; omega))
   refine rq (fun w'=>SH w w' [] [oI b1 eD c1 3]) mixed (by kernel_rfl) aI.drew (qA r0 (mv (v:=.slice Ab b.length cb) r0) (qA r0 (mv (v:=I (k:Int)) r0) (qL k aV r0 r0 hb (by omega) (eQ I 0 (by omega)) aH r0 (fun a1 eL=>qB r0 (fun aU=>eW aU eL (fun _ h=>h) r0 r0 cN) (qA r0 (mv (v:=sb b1 eD.length c1) r0) (qA r0 (mv (v:=I (k:Int)) r0) (qA r0 (lR k aV r0 r0 (by omega)) (qB r0 (fun aU=>H9 (g:=I) (ys:=eD) (o:=k) 0 aU 0 r0 r0 (by omega) cN) (qA r0 (nK r0 r0) (qn (fun w3 aN=>nN (bI r0 (fun h3=>?_) (fun h3=>?_)))))))))))))
   ·exact sr (tA (.bool false) r0 (nn (rt (bR (tR (tR (bR (tR (fB r0 (by exact(UM (k:=k) (by omega) (by omega) ‹_›).symm) (aN.pk [] r0))))))))))
   refine sk (bN (nN (rg (tm (I (k:Int)) r0 (qt r0 (add r0 r0 (by(exact⟨by omega,by omega⟩))) (tA (I ((k:Int)+1)) r0 (nl (nN ?_))))))))
   refine⟨(k+1),⟨(zR r0),(by omega),(UN (by omega) (by omega) hz (by omega)),aN⟩,?_⟩
   omega
  refine ex (tE (tE (bE (nN (sr (tA (.bool true) r0 (nn (rt (fT (.bool true) r0 ?_)))))))))
  have e2:true=oA b eD:=by exact(MF (k:=k) hk.1 hk.2 hz (by omega)).symm
  exact⟨(aS (Value.bool) e2),(aI.pk [] r0)⟩
 refine bA r0 (bA r0 (bA r0 (bA r0 (qt r0 (pf (v:=.bool false) r0 r0) (nn (qV r0 (ex (tE (tE (bE (nN (sr (tA (.bool true) r0 (nn (rt (fT (.bool true) r0 ?_))))))))))))))))
 have e3:true=oA b eD:=by exact(MF (k:=k) hk.1 hk.2 hz (by omega)).symm
 exact⟨(aS (Value.bool) e3),(aI.pk [] r0)⟩
theorem Az {Ab:aM} {cb:Nat} (b:aC) (s:aD) (w:World) (hb:Sl w [] 1 Ab b.length cb (b.map I)) (hs_n:s.length≤2147483648):bF prog 144 [.slice Ab b.length cb,aA s] w (fun v w'=>v=.bool (oA b (aW s))∧SH w w' [] []):=by
 refine fQ 27 func144 r0 r0 ?_
 have aK:=SH.refl w []
 have q7:b.length≤9223372036854775807:=cB hb.cap hb.cO
 refine sr (tA (.bool false) r0 (nn (sq (sr (tA (I 0) r0 (nn (bl (lp (σ:=Nat) (fun(k:Nat) f w'=>Hz f [(0,.slice Ab b.length cb),(1,aA s),(5,I (k:Int))]∧(k≤b.length∧k≤s.length)∧(b.take k=(aW s).take k)∧SH w w' [] []) (fun k=>b.length-k) 0 ⟨(zR r0),(by omega),(by simp),aK⟩ ?_))))))))
 rintro k f w1 ⟨⟨g1,rfl⟩,hk,hz,aE⟩
 refine sq (sr (tm (I (k:Int)) r0 (tm (cD Ab b cb) r0 (qt r0 (dK aV r0) (qt r0 (lss r0 r0) (tm (.bool (decide ((k:Int)<(b.length:Int)))) r0 (fF 10 r0 (fun h1=>?_) (fun h1=>?_))))))))
 ·refine qh r0 (mv (v:=I (k:Int)) r0) (qh r0 (mv (v:=aA s) r0) (qh r0 (gG dI r0) (qh r0 (lss r0 r0) (qt r0 (pt (v:=.bool (decide ((k:Int)<(s.length:Int)))) r0 r0) (nn (bI r0 (fun h2=>?_) (fun h2=>?_)))))))
  ·refine sk (nN (sq (bl (sq (rq (fun w'=>SH w w' [] []) mixed (by kernel_rfl) aE.drew (qA r0 (mv (v:=.slice Ab b.length cb) r0) (qA r0 (mv (v:=I (k:Int)) r0) (qL k aV r0 r0 hb (by omega) (eQ I 0 (by omega)) aH r0 (fun a1 eL=>qB r0 (fun aU=>eW aU eL (fun _ h=>h) r0 r0 cN) (qA r0 (mv (v:=aA s) r0) (qA r0 (mv (v:=I (k:Int)) r0) (qA r0 (l5 k dI r0 r0 (by omega)) (qA r0 (EV (a:=(((s.getD k 0).toNat:Nat):Int)) (s:=.u8) tJ xB r0 (by have:=iL ((s.getD k 0)); exact⟨by omega,by omega⟩)) (qA r0 (nK r0 r0) (qn (fun w2 aI=>nN (bI r0 (fun h3=>?_) (fun h3=>?_))))))))))))))))))
   ·exact sr (tA (.bool false) r0 (nn (rt (bR (tR (tR (bR (tR (fB r0 (by exact(UM (k:=k) (by omega) (by rw[cT]; omega) (by rw[PV (by omega)]; omega)).symm) aI)))))))))
   refine sk (bN (nN (rg (tm (I (k:Int)) r0 (qt r0 (add r0 r0 (by(exact⟨by omega,by omega⟩))) (tA (I ((k:Int)+1)) r0 (nl (nN ?_))))))))
   refine⟨(k+1),⟨(zR r0),(by omega),(UN (by omega) (by rw[cT]; omega) hz (by rw[PV (by omega)]; omega)),aI⟩,?_⟩
   omega
  refine ex (tE (tE (bE (nN (sr (tA (.bool true) r0 (nn (rt (fT (.bool true) r0 ?_)))))))))
  have e2:true=oA b (aW s):=by exact(MF (k:=k) hk.1 (by rw[cT]; exact hk.2) hz (by rw[cT]; omega)).symm
  exact⟨(aS (Value.bool) e2),aE⟩
 refine bA r0 (bA r0 (bA r0 (bA r0 (qt r0 (pf (v:=.bool false) r0 r0) (nn (qV r0 (ex (tE (tE (bE (nN (sr (tA (.bool true) r0 (nn (rt (fT (.bool true) r0 ?_))))))))))))))))
 have e3:true=oA b (aW s):=by exact(MF (k:=k) hk.1 (by rw[cT]; exact hk.2) hz (by rw[cT]; omega)).symm
 exact⟨(aS (Value.bool) e3),aE⟩
theorem TI {Ab:aM} {cb:Nat} (b:aC) (w:World) (hb:Sl w [] 1 Ab b.length cb (b.map I)):bF prog 92 [.slice Ab b.length cb] w (fun v w'=>v=.int .i64 (eY b)∧SH w w' [] []):=by
 refine fQ 42 func92 r0 r0 ?_
 have aK:=SH.refl w []
 have q7:b.length≤9223372036854775807:=cB hb.cap hb.cO
 refine sr (tA (I 0) r0 (nn (sq (bl (sq (rg (tm (cD Ab b cb) r0 (cS aK r0 (wU _ _ (hb.aP aK)) (fun w1 aE=>qt r0 (nt r0) (tA (xK b) r0 (nn (cd r0 (fun h1=>?_) (fun h1=>?_)))))))))))))
 ·have h2:=dX h1
  exact sr (tA (I 6) r0 (nn (rt (bR (tR (fI r0 (by(have y1:=qH; have y2:=qO; have y3:xS.length=8:=rfl; have y4:yD.length=6:=rfl; have y5:eD.length=14:=rfl; grind [eY,pA])) aE))))))
 have h3:=dY h1
 refine sr (tm (cD Ab b cb) r0 (qt r0 (dK aV r0) (qt r0 (dO r0 r0) (tA (.bool (decide ((b.length:Int)=0))) r0 (nn (bI r0 (fun h4=>?_) (fun h4=>?_)))))))
 ·exact sr (tA (I 0) r0 (nn (rt (bR (tR (fI r0 (by(have y1:=qH; have y2:=qO; have y3:xS.length=8:=rfl; have y4:yD.length=6:=rfl; have y5:eD.length=14:=rfl; grind [eY,pA])) aE))))))
 refine sr (tm (cD Ab b cb) r0 (gN 0 aV r0 r0 hb (by omega) (eQ I 0 (by omega)) aH r0 (fun a1 eL=>qt r0 (eW aE eL (fun _ h=>h) r0 r0 cN) (qt r0 (dO r0 r0) (tA (.bool (decide ((b.getD 0 0)=4))) r0 (nn (bI r0 (fun h5=>?_) (fun h5=>?_))))))))
 ·exact sr (tA (I 1) r0 (nn (rt (bR (tR (fI r0 (by(have y1:=qH; have y2:=qO; have y3:xS.length=8:=rfl; have y4:yD.length=6:=rfl; have y5:eD.length=14:=rfl; grind [eY,pA])) aE))))))
 refine sr (tm (cD Ab b cb) r0 (gN 0 aV r0 r0 hb (by omega) (eQ I 0 (by omega)) aH r0 (fun a2 jG=>qt r0 (eW aE jG (fun _ h=>h) r0 r0 cN) (qt r0 (dO r0 r0) (tA (.bool (decide ((b.getD 0 0)=5))) r0 (nn (bI r0 (fun h6=>?_) (fun h6=>?_))))))))
 ·exact sr (tA (I 2) r0 (nn (rt (bR (tR (fI r0 (by(have y1:=qH; have y2:=qO; have y3:xS.length=8:=rfl; have y4:yD.length=6:=rfl; have y5:eD.length=14:=rfl; grind [eY,pA])) aE))))))
 refine sr (tm (cD Ab b cb) r0 (cS aE r0 (Az _ [67,79,78,78,69,67,84,32] _ (hb.aP aE) (by(simp; done))) (fun w2 aI=>tA (.bool (oA b (aW [67,79,78,78,69,67,84,32]))) r0 (nn (cd r0 (fun h7=>?_) (fun h7=>?_))))))
 ·exact sr (tm (cD Ab b cb) r0 (qt r0 (dK aV r0) (qt r0 (geq r0 r0) (cS aI r0 (TF _ 3 _) (fun w3 aN=>tA (I (if (decide ((8:Int)≤(b.length:Int)))=true then 3 else 0)) r0 (nn (rt (bR (tR (fI r0 (by(have y1:=qH; have y2:=qO; have y3:xS.length=8:=rfl; have y4:yD.length=6:=rfl; have y5:eD.length=14:=rfl; grind [eY,pA])) aN))))))))))
 refine sr (tm (cD Ab b cb) r0 (cS aI r0 (Az _ [80,82,79,88,89,32] _ (hb.aP aI) (by(simp; done))) (fun w4 aR=>tA (.bool (oA b (aW [80,82,79,88,89,32]))) r0 (nn (cd r0 (fun h8=>?_) (fun h8=>?_))))))
 ·exact sr (tm (cD Ab b cb) r0 (qt r0 (dK aV r0) (qt r0 (geq r0 r0) (cS aR r0 (TF _ 4 _) (fun w5 aZ=>tA (I (if (decide ((6:Int)≤(b.length:Int)))=true then 4 else 0)) r0 (nn (rt (bR (tR (fI r0 (by(have y1:=qH; have y2:=qO; have y3:xS.length=8:=rfl; have y4:yD.length=6:=rfl; have y5:eD.length=14:=rfl; grind [eY,pA])) aZ))))))))))
 refine sr (tm (cD Ab b cb) r0 (cS aR r0 (Ay _ _ (hb.aP aR)) (fun w6 bG=>tA (.bool (oA b eD)) r0 (nn (cd r0 (fun h9=>?_) (fun h9=>?_))))))
 ·exact sr (tm (cD Ab b cb) r0 (qt r0 (dK aV r0) (qt r0 (geq r0 r0) (cS bG r0 (TF _ 5 _) (fun w7 bU=>tA (I (if (decide ((14:Int)≤(b.length:Int)))=true then 5 else 0)) r0 (nn (rt (bR (tR (fI r0 (by(have y1:=qH; have y2:=qO; have y3:xS.length=8:=rfl; have y4:yD.length=6:=rfl; have y5:eD.length=14:=rfl; grind [eY,pA])) bU))))))))))
 refine sk (bN (nN (sr (tA (I 6) r0 (nn (rt (fT (I 6) r0 ?_)))))))
 have e8:6=eY b:=by(have y1:=qH; have y2:=qO; have y3:xS.length=8:=rfl; have y4:yD.length=6:=rfl; have y5:eD.length=14:=rfl; grind [eY,pA])
 exact⟨(aS (Value.int .i64) e8),bG⟩
theorem H3 {Ab:aM} {cb:Nat} (b:aC) {Af:aM} {cf:Nat} (f:aC) (w:World) (hb:Sl w [] 1 Ab b.length cb (b.map I)) (hf:Sl w [] 1 Af f.length cf (f.map I)):bF prog 115 [.slice Ab b.length cb,.slice Af f.length cf] w (fun v w'=>v=.bool (pE b f)∧SH w w' [] []):=by
 refine fQ 18 func115 r0 r0 ?_
 have aK:=SH.refl w []
 have q7:b.length≤9223372036854775807:=cB hb.cap hb.cO
 have Zc:f.length≤9223372036854775807:=cB hf.cap hf.cO
 refine sr (tA (.bool false) r0 (nx (tm (cD Ab b cb) r0 (qt r0 (dK aV r0) (tm (cD Af f cf) r0 (qt r0 (dK aV r0) (qt r0 (geq r0 r0) (tm (.bool (decide ((f.length:Int)≤(b.length:Int)))) r0 (fF 10 r0 (fun h1=>?_) (fun h1=>?_))))))))))
 ·refine qh r0 (mv (v:=.slice Ab b.length cb) r0) (qh r0 (mv (v:=.slice Af f.length cf) r0) (qh r0 (dK aV r0) (qh r0 (JU (zs:=b) f.length aV r0 r0 (by omega) hb.cap) (qh r0 (mv (v:=.slice Af f.length cf) r0) (cl ⟨_,rfl,rfl⟩ r0 (PK _ _ _ (Sl.JX (hb.aP aK) (by omega)) (hf.aP aK)) ?_)))))
  rintro _ w1 ⟨rfl,aE⟩
  replace aE:=aK.cJ aE
  refine qt r0 (pt (v:=.bool (decide ((b.take f.length)=f))) r0 r0) (tA (.bool (decide ((b.take f.length)=f))) r0 (nn (rt (fT (.bool (decide ((b.take f.length)=f))) r0 ?_))))
  have e1:(decide ((b.take f.length)=f))=pE b f:=by(simp[pE]; omega)
  exact⟨(aS (Value.bool) e1),aE⟩
 refine bA r0 (bA r0 (bA r0 (bA r0 (bA r0 (bA r0 (qt r0 (pf (v:=.bool false) r0 r0) (tA (.bool false) r0 (nn (rt (fT (.bool false) r0 ?_))))))))))
 have e2:false=pE b f:=by(simp[pE]; omega)
 exact⟨(aS (Value.bool) e2),aK⟩
theorem Sw (ka:Int) {Aqa:aM} {cqa:Nat} (qa:aC) (na:aD) (pa:Int) (kb:Int) {Aqb:aM} {cqb:Nat} (qb:aC) (nb:aD) (pb:Int) (w:World) (hqa:Sl w [] 1 Aqa qa.length cqa (qa.map I)) (NF:na.length≤1099511627776) (hqb:Sl w [] 1 Aqb qb.length cqb (qb.map I)) (NG:nb.length≤1099511627776) (ho:dN ka qa na pa=true∧ka=1∧dN kb qb nb pb=true∧kb=1):bF prog 230 [.agg #[I ka,.slice Aqa qa.length cqa,aA na,I pa,I kb,.slice Aqb qb.length cqb,aA nb,I pb]] w (fun v w'=>v=aA (qM ((ka,qa,na,pa),(kb,qb,nb,pb)))∧SH w w' [] []):=by
 refine fQ 27 func230 r0 r0 ?_
 have aK:=SH.refl w []
 have NH:qa.length≤9223372036854775807:=cB hqa.cap hqa.cO
 have NI:qb.length≤9223372036854775807:=cB hqb.cap hqb.cO
 refine sr (bx (v:=.agg #[I ka,(Z4 Aqa qa cqa),aA na,I pa,I kb,(Z4 Aqb qb cqb),aA nb,I pb]) (cs:=[I ka,(Z4 Aqa qa cqa),aA na,I pa,I kb,(Z4 Aqb qb cqb),aA nb,I pb]) aK r0 r0 aH r0 (fun b1 w1 aE=>tA (aA []) r0 (nn (sq (rq (fun w'=>SH w w' [] [.blk b1 135 [I ka,(Z4 Aqa qa cqa),aA na,I pa,I kb,(Z4 Aqb qb cqb),aA nb,I pb]]) mixed (by kernel_rfl) aE.drew (qA r0 (fa 0 CQ r0) (qA r0 (fa 1 pL r0) (qB r0 (fun aU=>lD (cD Aqa qa cqa) aU 0 r0 j4) (qc (aA (fJ qa)) aH r0 (fun wq aU=>(PC _ _ (hqa.aP aU) (by exact(rG ho).1)).mono (fun v w' h=>⟨h.1,by simpa using aU.cJ h.2⟩)) (qA r0 (cat r0 r0 (by(have hpb:=rG ho; (try simp only[bH,bP,bK]); omega))) (qA r0 (cat r0 r0 (by(have hpb:=rG ho; (try simp only[bH,bP,bK]); omega))) (qA r0 (fa 4 AZ r0) (qA r0 (fa 1 pL r0) (qB r0 (fun aU=>lD (cD Aqb qb cqb) aU 0 r0 j4) (qc (aA (fJ qb)) aH r0 (fun wq aU=>(PC _ _ (hqb.aP aU) (by exact(rG ho).2.1)).mono (fun v w' h=>⟨h.1,by simpa using aU.cJ h.2⟩)) (qA r0 (cat r0 r0 (by(have hpb:=rG ho; (try simp only[bH,bP,bK]); omega))) (qA r0 (cat r0 r0 (by(have hpb:=rG ho; (try simp only[bH,bP,bK]); omega))) (qA r0 (fa 0 CQ r0) (qA r0 (fa 3 pV r0) (qB r0 (fun aU=>lD (I pa) aU 0 r0 cN) (qc (aA (Lib.itoa pa)) aH r0 (fun wq aU=>(DC _ _ (by exact(rG ho).2.2.1)).mono (fun v w' h=>⟨h.1,by simpa using aU.cJ h.2⟩)) (qA r0 (cat r0 r0 (by(have hpb:=rG ho; (try simp only[bH,bP,bK]); omega))) (qA r0 (cat r0 r0 (by(have hpb:=rG ho; (try simp only[bH,bP,bK]); omega))) (qA r0 (fa 4 AZ r0) (qA r0 (fa 3 pV r0) (qB r0 (fun aU=>lD (I pb) aU 0 r0 cN) (qc (aA (Lib.itoa pb)) aH r0 (fun wq aU=>(DC _ _ (by exact(rG ho).2.2.2.1)).mono (fun v w' h=>⟨h.1,by simpa using aU.cJ h.2⟩)) (qA r0 (cat r0 r0 (by(have hpb:=rG ho; (try simp only[bH,bP,bK]); omega))) (qA r0 (cat r0 r0 (by(have hpb:=rG ho; (try simp only[bH,bP,bK]); omega))) (qA r0 (fW (v:=aA (((((((([80,82,79,88,89,32,84,67,80,52,32]++(fJ qa))++[32])++(fJ qb))++[32])++(Lib.itoa pa))++[32])++(Lib.itoa pb))++[13,10])) r0) (qn (fun w2 aI=>nN (rt (fT (aA (((((((([80,82,79,88,89,32,84,67,80,52,32]++(fJ qa))++[32])++(fJ qb))++[32])++(Lib.itoa pa))++[32])++(Lib.itoa pb))++[13,10])) r0 ?_))))))))))))))))))))))))))))))))))
 have e1:((((((([80,82,79,88,89,32,84,67,80,52,32]++(fJ qa))++[32])++(fJ qb))++[32])++(Lib.itoa pa))++[32])++(Lib.itoa pb))++[13,10]=qM ((ka,qa,na,pa),(kb,qb,nb,pb)):=by simp[qM]
 exact⟨(aS (aA) e1),(aI.pk [] r0)⟩
theorem XI {Ab:aM} {cb:Nat} (b:aC) (w:World) (hb:Sl w [] 1 Ab b.length cb (b.map I)):bF prog 72 [.slice Ab b.length cb] w (fun v w'=>v=.int .i64 (eY b)∧SH w w' [] []):=by
 refine fE (N:=44) func72 r0 (by kernel_rfl) r0 ?_
 have aK:=SH.refl w []
 have q7:b.length≤9223372036854775807:=cB hb.cap hb.cO
 refine sr (tA (I 0) r0 (nn (sq (bl (sq (rg (tm (cD Ab b cb) r0 (cS aK r0 (H4 (Azs:=Ab) (czs:=cb) (zs:=b) (w:=_) (hzs:=(hb.aP aK))) (fun w1 aE=>?_)))))))))
 refine qt r0 (nt r0) (tA (xK b) r0 (nn (cd r0 (fun h1=>?_) (fun h1=>?_))))
 ·have h2:=dX h1
  exact sr (tA (I 6) r0 (nn (rt (bR (tR (fI r0 (by(have y1:=qH; have y2:=qO; have y6:=@yI b; have y7:=@wW b; have y8:=@yK b; have y9:=@yJ b; (try simp only[uX,uY,xI,pT]at*); grind [eY,pA])) aE))))))
 have h3:=dY h1
 refine sr (tm (cD Ab b cb) r0 (qt r0 (dK (n:=b.length) aV r0) (qt r0 (dO (k:=.i64) (a:=(b.length:Int)) (b:=0) r0 r0) (tA (.bool (decide ((b.length:Int)=0))) r0 (nn (bI r0 (fun h4=>?_) (fun h4=>?_)))))))
 ·exact sr (tA (I 0) r0 (nn (rt (bR (tR (fI r0 (by(have y1:=qH; have y2:=qO; have y6:=@yI b; have y7:=@wW b; have y8:=@yK b; have y9:=@yJ b; (try simp only[uX,uY,xI,pT]at*); grind [eY,pA])) aE))))))
 refine sr (tm (cD Ab b cb) r0 (gN 0 aV r0 r0 hb (by omega) (eQ I 0 (by omega)) aH r0 (fun a1 eL=>?_)))
 refine qt r0 (eW (v:=I (b.getD 0 0)) aE eL (fun _ h=>h) r0 r0 cN) (qt r0 (dO (k:=.i64) (a:=b.getD 0 0) (b:=4) r0 r0) (tA (.bool (decide ((b.getD 0 0)=4))) r0 (nn (bI r0 (fun h5=>?_) (fun h5=>?_)))))
 ·exact sr (tA (I 1) r0 (nn (rt (bR (tR (fI r0 (by(have y1:=qH; have y2:=qO; have y6:=@yI b; have y7:=@wW b; have y8:=@yK b; have y9:=@yJ b; (try simp only[uX,uY,xI,pT]at*); grind [eY,pA])) aE))))))
 refine sr (tm (cD Ab b cb) r0 (gN 0 aV r0 r0 hb (by omega) (eQ I 0 (by omega)) aH r0 (fun a2 jG=>?_)))
 refine qt r0 (eW (v:=I (b.getD 0 0)) aE jG (fun _ h=>h) r0 r0 cN) (qt r0 (dO (k:=.i64) (a:=b.getD 0 0) (b:=5) r0 r0) (tA (.bool (decide ((b.getD 0 0)=5))) r0 (nn (bI r0 (fun h6=>?_) (fun h6=>?_)))))
 ·exact sr (tA (I 2) r0 (nn (rt (bR (tR (fI r0 (by(have y1:=qH; have y2:=qO; have y6:=@yI b; have y7:=@wW b; have y8:=@yK b; have y9:=@yJ b; (try simp only[uX,uY,xI,pT]at*); grind [eY,pA])) aE))))))
 refine sk (bN (nN (sq (sr (dP aE r0 (r7 (s:=[67,79,78,78,69,67,84,32]) (w:=_) (hs_n:=(by(simp; done)))) (fun A1 c1 w2 aI=>?_))))))
 refine dP aI r0 (r7 (s:=[80,82,79,88,89,32]) (w:=_) (hs_n:=(by(simp; done)))) (fun A2 c2 w3 aN=>?_)
 refine dP aN r0 (W9 (w:=_)) (fun A3 c3 w4 aR=>?_)
 refine cR aR AG [.slice A1 ((aW [67,79,78,78,69,67,84,32]).length) c1,.slice A2 ((aW [80,82,79,88,89,32]).length) c2,.slice A3 eD.length c3] [.slice A1 ((aW [67,79,78,78,69,67,84,32]).length) c1,.slice A2 ((aW [80,82,79,88,89,32]).length) c2,.slice A3 eD.length c3] aH r0 (fun b1 w5 aZ=>?_)
 refine qt r0 (dK (n:=([(⟨A1,c1,aW [67,79,78,78,69,67,84,32]⟩:Hd),(⟨A2,c2,aW [80,82,79,88,89,32]⟩:Hd),(⟨A3,c3,eD⟩:Hd)]:List Hd).length) AG r0) (tm (I 0) r0 (nn (bl (ul0 (PY (sr (qt r0 (lss (k:=.i64) (a:=0) (b:=((([(⟨A1,c1,aW [67,79,78,78,69,67,84,32]⟩:Hd),(⟨A2,c2,aW [80,82,79,88,89,32]⟩:Hd),(⟨A3,c3,eD⟩:Hd)]:List Hd).length:Nat):Int)) r0 r0) (nn (sq (bI r0 (fun h7=>?_) (fun h7=>absurd (by(simp; done)) h7)))))))))))
 refine sk (nN (sq (bl (sr (tm (I 0) r0 (qt r0 (lR 0 AG r0 r0 (by omega)) (qt r0 (SB (L:=Z8) (ys:=([(⟨A1,c1,aW [67,79,78,78,69,67,84,32]⟩:Hd),(⟨A2,c2,aW [80,82,79,88,89,32]⟩:Hd),(⟨A3,c3,eD⟩:Hd)]:List Hd)) (o:=0) r0 aZ 3 r0 r0 (by omega) j4) (tA (I 0) r0 (tA (.slice ((([(⟨A1,c1,aW [67,79,78,78,69,67,84,32]⟩:Hd),(⟨A2,c2,aW [80,82,79,88,89,32]⟩:Hd),(⟨A3,c3,eD⟩:Hd)]:List Hd).getD 0 gU).A) ((Z8.getD 0 []).length) ((([(⟨A1,c1,aW [67,79,78,78,69,67,84,32]⟩:Hd),(⟨A2,c2,aW [80,82,79,88,89,32]⟩:Hd),(⟨A3,c3,eD⟩:Hd)]:List Hd).getD 0 gU).c)) r0 (nn (bl (sr (tm (cD Ab b cb) r0 (tm (.slice ((([(⟨A1,c1,aW [67,79,78,78,69,67,84,32]⟩:Hd),(⟨A2,c2,aW [80,82,79,88,89,32]⟩:Hd),(⟨A3,c3,eD⟩:Hd)]:List Hd).getD 0 gU).A) ((Z8.getD 0 []).length) ((([(⟨A1,c1,aW [67,79,78,78,69,67,84,32]⟩:Hd),(⟨A2,c2,aW [80,82,79,88,89,32]⟩:Hd),(⟨A3,c3,eD⟩:Hd)]:List Hd).getD 0 gU).c)) r0 (cS aZ r0 (H3 (Ab:=Ab) (cb:=cb) (b:=b) (Af:=(([(⟨A1,c1,aW [67,79,78,78,69,67,84,32]⟩:Hd),(⟨A2,c2,aW [80,82,79,88,89,32]⟩:Hd),(⟨A3,c3,eD⟩:Hd)]:List Hd).getD 0 gU).A) (cf:=(([(⟨A1,c1,aW [67,79,78,78,69,67,84,32]⟩:Hd),(⟨A2,c2,aW [80,82,79,88,89,32]⟩:Hd),(⟨A3,c3,eD⟩:Hd)]:List Hd).getD 0 gU).c) (f:=Z8.getD 0 []) (w:=_) (hb:=(hb.aP aZ)) (hf:=(HR (L:=Z8) r0 (eX (aZ.cI 0 r0) (eX (aZ.cI 1 r0) (eX (aZ.cI 2 r0) o5))) (by omega)))) (fun w6 bG=>?_))))))))))))))))
 refine tA (.bool (pE b (Z8.getD 0 []))) r0 (nn (cd r0 (fun h8=>?_) (fun h8=>?_)))
 ·refine sr (tm (I 0) r0 (qt r0 (add (a:=3) (b:=0) r0 r0 (by exact⟨by omega,by omega⟩)) (tA (I ((3:Int)+0)) r0 (nn ?_))))
  have bU:=bG.pq [] r0
  exact rt (bR (bR (tR (tR (bR (tR (fI r0 (by(have y1:=qH; have y2:=qO; have y6:=@yI b; have y7:=@wW b; have y8:=@yK b; have y9:=@yJ b; (try simp only[uX,uY,xI,pT]at*); grind [eY,pA])) bU)))))))
 refine sr (tm (.slice ((([(⟨A1,c1,aW [67,79,78,78,69,67,84,32]⟩:Hd),(⟨A2,c2,aW [80,82,79,88,89,32]⟩:Hd),(⟨A3,c3,eD⟩:Hd)]:List Hd).getD 0 gU).A) ((Z8.getD 0 []).length) ((([(⟨A1,c1,aW [67,79,78,78,69,67,84,32]⟩:Hd),(⟨A2,c2,aW [80,82,79,88,89,32]⟩:Hd),(⟨A3,c3,eD⟩:Hd)]:List Hd).getD 0 gU).c)) r0 (tm (cD Ab b cb) r0 (cS bG r0 (H3 (Ab:=(([(⟨A1,c1,aW [67,79,78,78,69,67,84,32]⟩:Hd),(⟨A2,c2,aW [80,82,79,88,89,32]⟩:Hd),(⟨A3,c3,eD⟩:Hd)]:List Hd).getD 0 gU).A) (cb:=(([(⟨A1,c1,aW [67,79,78,78,69,67,84,32]⟩:Hd),(⟨A2,c2,aW [80,82,79,88,89,32]⟩:Hd),(⟨A3,c3,eD⟩:Hd)]:List Hd).getD 0 gU).c) (b:=Z8.getD 0 []) (Af:=Ab) (cf:=cb) (f:=b) (w:=_) (hb:=(HR (L:=Z8) r0 (eX (bG.cI 0 r0) (eX (bG.cI 1 r0) (eX (bG.cI 2 r0) o5))) (by omega))) (hf:=(hb.aP bG))) (fun w7 bV=>?_))))
 refine tA (.bool (pE (Z8.getD 0 []) b)) r0 (nn (cd r0 (fun h9=>?_) (fun h9=>?_)))
 ·refine sr (tA (I 0) r0 (nn ?_))
  have b9:=bV.pq [] r0
  exact rt (bR (bR (tR (tR (bR (tR (fI r0 (by(have y1:=qH; have y2:=qO; have y6:=@yI b; have y7:=@wW b; have y8:=@yK b; have y9:=@yJ b; (try simp only[uX,uY,xI,pT]at*); grind [eY,pA])) b9)))))))
 refine sk (bN (bN (nN (rg (qt r0 (add (a:=0) (b:=1) r0 r0 (by exact⟨by omega,by omega⟩)) (tm (I ((0:Int)+1)) r0 (nl (nN (PY (sr (qt r0 (lss (k:=.i64) (a:=(0:Int)+1) (b:=((([(⟨A1,c1,aW [67,79,78,78,69,67,84,32]⟩:Hd),(⟨A2,c2,aW [80,82,79,88,89,32]⟩:Hd),(⟨A3,c3,eD⟩:Hd)]:List Hd).length:Nat):Int)) r0 r0) (nn (sq (bI r0 (fun mR=>?_) (fun mR=>absurd (by(simp; done)) mR)))))))))))))))
 refine sk (nN (sq (bl (sr (tm (I ((0:Int)+1)) r0 (qt r0 (lR (0+1) AG r0 r0 (by omega)) (qt r0 (SB (L:=Z8) (ys:=([(⟨A1,c1,aW [67,79,78,78,69,67,84,32]⟩:Hd),(⟨A2,c2,aW [80,82,79,88,89,32]⟩:Hd),(⟨A3,c3,eD⟩:Hd)]:List Hd)) (o:=0+1) r0 bV 3 r0 r0 (by omega) j4) (tA (I ((0:Int)+1)) r0 (tA (.slice ((([(⟨A1,c1,aW [67,79,78,78,69,67,84,32]⟩:Hd),(⟨A2,c2,aW [80,82,79,88,89,32]⟩:Hd),(⟨A3,c3,eD⟩:Hd)]:List Hd).getD (0+1) gU).A) ((Z8.getD (0+1) []).length) ((([(⟨A1,c1,aW [67,79,78,78,69,67,84,32]⟩:Hd),(⟨A2,c2,aW [80,82,79,88,89,32]⟩:Hd),(⟨A3,c3,eD⟩:Hd)]:List Hd).getD (0+1) gU).c)) r0 (nn (bl (sr (tm (cD Ab b cb) r0 (tm (.slice ((([(⟨A1,c1,aW [67,79,78,78,69,67,84,32]⟩:Hd),(⟨A2,c2,aW [80,82,79,88,89,32]⟩:Hd),(⟨A3,c3,eD⟩:Hd)]:List Hd).getD (0+1) gU).A) ((Z8.getD (0+1) []).length) ((([(⟨A1,c1,aW [67,79,78,78,69,67,84,32]⟩:Hd),(⟨A2,c2,aW [80,82,79,88,89,32]⟩:Hd),(⟨A3,c3,eD⟩:Hd)]:List Hd).getD (0+1) gU).c)) r0 (cS bV r0 (H3 (Ab:=Ab) (cb:=cb) (b:=b) (Af:=(([(⟨A1,c1,aW [67,79,78,78,69,67,84,32]⟩:Hd),(⟨A2,c2,aW [80,82,79,88,89,32]⟩:Hd),(⟨A3,c3,eD⟩:Hd)]:List Hd).getD (0+1) gU).A) (cf:=(([(⟨A1,c1,aW [67,79,78,78,69,67,84,32]⟩:Hd),(⟨A2,c2,aW [80,82,79,88,89,32]⟩:Hd),(⟨A3,c3,eD⟩:Hd)]:List Hd).getD (0+1) gU).c) (f:=Z8.getD (0+1) []) (w:=_) (hb:=(hb.aP bV)) (hf:=(HR (L:=Z8) r0 (eX (bV.cI 0 r0) (eX (bV.cI 1 r0) (eX (bV.cI 2 r0) o5))) (by omega)))) (fun w8 cM=>?_))))))))))))))))
 refine tA (.bool (pE b (Z8.getD (0+1) []))) r0 (nn (cd r0 (fun vX=>?_) (fun vX=>?_)))
 ·refine sr (tm (I ((0:Int)+1)) r0 (qt r0 (add (a:=3) (b:=(0:Int)+1) r0 r0 (by exact⟨by omega,by omega⟩)) (tA (I (3+((0:Int)+1))) r0 (nn ?_))))
  have cW:=cM.pq [] r0
  exact rt (bR (bR (tR (tR (bR (tR (fI r0 (by(have y1:=qH; have y2:=qO; have y6:=@yI b; have y7:=@wW b; have y8:=@yK b; have y9:=@yJ b; (try simp only[uX,uY,xI,pT]at*); grind [eY,pA])) cW)))))))
 refine sr (tm (.slice ((([(⟨A1,c1,aW [67,79,78,78,69,67,84,32]⟩:Hd),(⟨A2,c2,aW [80,82,79,88,89,32]⟩:Hd),(⟨A3,c3,eD⟩:Hd)]:List Hd).getD (0+1) gU).A) ((Z8.getD (0+1) []).length) ((([(⟨A1,c1,aW [67,79,78,78,69,67,84,32]⟩:Hd),(⟨A2,c2,aW [80,82,79,88,89,32]⟩:Hd),(⟨A3,c3,eD⟩:Hd)]:List Hd).getD (0+1) gU).c)) r0 (tm (cD Ab b cb) r0 (cS cM r0 (H3 (Ab:=(([(⟨A1,c1,aW [67,79,78,78,69,67,84,32]⟩:Hd),(⟨A2,c2,aW [80,82,79,88,89,32]⟩:Hd),(⟨A3,c3,eD⟩:Hd)]:List Hd).getD (0+1) gU).A) (cb:=(([(⟨A1,c1,aW [67,79,78,78,69,67,84,32]⟩:Hd),(⟨A2,c2,aW [80,82,79,88,89,32]⟩:Hd),(⟨A3,c3,eD⟩:Hd)]:List Hd).getD (0+1) gU).c) (b:=Z8.getD (0+1) []) (Af:=Ab) (cf:=cb) (f:=b) (w:=_) (hb:=(HR (L:=Z8) r0 (eX (cM.cI 0 r0) (eX (cM.cI 1 r0) (eX (cM.cI 2 r0) o5))) (by omega))) (hf:=(hb.aP cM))) (fun w9 dB=>?_))))
 refine tA (.bool (pE (Z8.getD (0+1) []) b)) r0 (nn (cd r0 (fun zU=>?_) (fun zU=>?_)))
 ·refine sr (tA (I 0) r0 (nn ?_))
  have cY:=dB.pq [] r0
  exact rt (bR (bR (tR (tR (bR (tR (fI r0 (by(have y1:=qH; have y2:=qO; have y6:=@yI b; have y7:=@wW b; have y8:=@yK b; have y9:=@yJ b; (try simp only[uX,uY,xI,pT]at*); grind [eY,pA])) cY)))))))
 refine sk (bN (bN (nN (rg (qt r0 (add (a:=(0:Int)+1) (b:=1) r0 r0 (by exact⟨by omega,by omega⟩)) (tm (I (((0:Int)+1)+1)) r0 (nl (nN (PY (sr (qt r0 (lss (k:=.i64) (a:=((0:Int)+1)+1) (b:=((([(⟨A1,c1,aW [67,79,78,78,69,67,84,32]⟩:Hd),(⟨A2,c2,aW [80,82,79,88,89,32]⟩:Hd),(⟨A3,c3,eD⟩:Hd)]:List Hd).length:Nat):Int)) r0 r0) (nn (sq (bI r0 (fun BC=>?_) (fun BC=>absurd (by(simp; done)) BC)))))))))))))))
 refine sk (nN (sq (bl (sr (tm (I (((0:Int)+1)+1)) r0 (qt r0 (lR ((0+1)+1) AG r0 r0 (by omega)) (qt r0 (SB (L:=Z8) (ys:=([(⟨A1,c1,aW [67,79,78,78,69,67,84,32]⟩:Hd),(⟨A2,c2,aW [80,82,79,88,89,32]⟩:Hd),(⟨A3,c3,eD⟩:Hd)]:List Hd)) (o:=(0+1)+1) r0 dB 3 r0 r0 (by omega) j4) (tA (I (((0:Int)+1)+1)) r0 (tA (.slice ((([(⟨A1,c1,aW [67,79,78,78,69,67,84,32]⟩:Hd),(⟨A2,c2,aW [80,82,79,88,89,32]⟩:Hd),(⟨A3,c3,eD⟩:Hd)]:List Hd).getD ((0+1)+1) gU).A) ((Z8.getD ((0+1)+1) []).length) ((([(⟨A1,c1,aW [67,79,78,78,69,67,84,32]⟩:Hd),(⟨A2,c2,aW [80,82,79,88,89,32]⟩:Hd),(⟨A3,c3,eD⟩:Hd)]:List Hd).getD ((0+1)+1) gU).c)) r0 (nn (bl (sr (tm (cD Ab b cb) r0 (tm (.slice ((([(⟨A1,c1,aW [67,79,78,78,69,67,84,32]⟩:Hd),(⟨A2,c2,aW [80,82,79,88,89,32]⟩:Hd),(⟨A3,c3,eD⟩:Hd)]:List Hd).getD ((0+1)+1) gU).A) ((Z8.getD ((0+1)+1) []).length) ((([(⟨A1,c1,aW [67,79,78,78,69,67,84,32]⟩:Hd),(⟨A2,c2,aW [80,82,79,88,89,32]⟩:Hd),(⟨A3,c3,eD⟩:Hd)]:List Hd).getD ((0+1)+1) gU).c)) r0 (cS dB r0 (H3 (Ab:=Ab) (cb:=cb) (b:=b) (Af:=(([(⟨A1,c1,aW [67,79,78,78,69,67,84,32]⟩:Hd),(⟨A2,c2,aW [80,82,79,88,89,32]⟩:Hd),(⟨A3,c3,eD⟩:Hd)]:List Hd).getD ((0+1)+1) gU).A) (cf:=(([(⟨A1,c1,aW [67,79,78,78,69,67,84,32]⟩:Hd),(⟨A2,c2,aW [80,82,79,88,89,32]⟩:Hd),(⟨A3,c3,eD⟩:Hd)]:List Hd).getD ((0+1)+1) gU).c) (f:=Z8.getD ((0+1)+1) []) (w:=_) (hb:=(hb.aP dB)) (hf:=(HR (L:=Z8) r0 (eX (dB.cI 0 r0) (eX (dB.cI 1 r0) (eX (dB.cI 2 r0) o5))) (by omega)))) (fun kF dJ=>?_))))))))))))))))
 refine tA (.bool (pE b (Z8.getD ((0+1)+1) []))) r0 (nn (cd r0 (fun Q3=>?_) (fun Q3=>?_)))
 ·refine sr (tm (I (((0:Int)+1)+1)) r0 (qt r0 (add (a:=3) (b:=((0:Int)+1)+1) r0 r0 (by exact⟨by omega,by omega⟩)) (tA (I (3+(((0:Int)+1)+1))) r0 (nn ?_))))
  have dM:=dJ.pq [] r0
  exact rt (bR (bR (tR (tR (bR (tR (fI r0 (by(have y1:=qH; have y2:=qO; have y6:=@yI b; have y7:=@wW b; have y8:=@yK b; have y9:=@yJ b; (try simp only[uX,uY,xI,pT]at*); grind [eY,pA])) dM)))))))
 refine sr (tm (.slice ((([(⟨A1,c1,aW [67,79,78,78,69,67,84,32]⟩:Hd),(⟨A2,c2,aW [80,82,79,88,89,32]⟩:Hd),(⟨A3,c3,eD⟩:Hd)]:List Hd).getD ((0+1)+1) gU).A) ((Z8.getD ((0+1)+1) []).length) ((([(⟨A1,c1,aW [67,79,78,78,69,67,84,32]⟩:Hd),(⟨A2,c2,aW [80,82,79,88,89,32]⟩:Hd),(⟨A3,c3,eD⟩:Hd)]:List Hd).getD ((0+1)+1) gU).c)) r0 (tm (cD Ab b cb) r0 (cS dJ r0 (H3 (Ab:=(([(⟨A1,c1,aW [67,79,78,78,69,67,84,32]⟩:Hd),(⟨A2,c2,aW [80,82,79,88,89,32]⟩:Hd),(⟨A3,c3,eD⟩:Hd)]:List Hd).getD ((0+1)+1) gU).A) (cb:=(([(⟨A1,c1,aW [67,79,78,78,69,67,84,32]⟩:Hd),(⟨A2,c2,aW [80,82,79,88,89,32]⟩:Hd),(⟨A3,c3,eD⟩:Hd)]:List Hd).getD ((0+1)+1) gU).c) (b:=Z8.getD ((0+1)+1) []) (Af:=Ab) (cf:=cb) (f:=b) (w:=_) (hb:=(HR (L:=Z8) r0 (eX (dJ.cI 0 r0) (eX (dJ.cI 1 r0) (eX (dJ.cI 2 r0) o5))) (by omega))) (hf:=(hb.aP dJ))) (fun kB eO=>?_))))
 refine tA (.bool (pE (Z8.getD ((0+1)+1) []) b)) r0 (nn (cd r0 (fun HO=>?_) (fun HO=>?_)))
 ·refine sr (tA (I 0) r0 (nn ?_))
  have eK:=eO.pq [] r0
  exact rt (bR (bR (tR (tR (bR (tR (fI r0 (by(have y1:=qH; have y2:=qO; have y6:=@yI b; have y7:=@wW b; have y8:=@yK b; have y9:=@yJ b; (try simp only[uX,uY,xI,pT]at*); grind [eY,pA])) eK)))))))
 refine sk (bN (bN (nN (rg (qt r0 (add (a:=((0:Int)+1)+1) (b:=1) r0 r0 (by exact⟨by omega,by omega⟩)) (tm (I ((((0:Int)+1)+1)+1)) r0 (nl (nN (PY (sr (qt r0 (lss (k:=.i64) (a:=(((0:Int)+1)+1)+1) (b:=((([(⟨A1,c1,aW [67,79,78,78,69,67,84,32]⟩:Hd),(⟨A2,c2,aW [80,82,79,88,89,32]⟩:Hd),(⟨A3,c3,eD⟩:Hd)]:List Hd).length:Nat):Int)) r0 r0) (nn (sq (bI r0 (fun HP=>absurd HP (by(simp; done))) (fun HP=>?_)))))))))))))))
 refine ex (tE (tE (bE (nN ?_))))
 have eZ:=eO.pq [] r0
 refine sr (tA (I 6) r0 (nn (rt (fT (I 6) r0 ?_))))
 have mB:6=eY b:=by(have y1:=qH; have y2:=qO; have y6:=@yI b; have y7:=@wW b; have y8:=@yK b; have y9:=@yJ b; (try simp only[uX,uY,xI,pT]at*); grind [eY,pA])
 exact⟨(aS (Value.int .i64) mB),eZ⟩
theorem Sy {Atg:aM} {ctg:Nat} (tg:List dL) (w:World) (htg:Sl w [] 2 Atg tg.length ctg (tg.flatMap mD)) (RO: ∀ u∈tg,GP w [] u.2):bF prog 231 [.slice Atg tg.length ctg] w (fun v w'=>v=.bool (wX (n0 tg))∧SH w w' [] []):=by
 refine fQ 38 func231 r0 r0 ?_
 have aK:=SH.refl w []
 have La:tg.length≤9223372036854775807:=cB htg.cap htg.cO
 refine sr (tA (.bool false) r0 (nn (sq (sr (tA (I 0) r0 (nn (bl (lp (σ:=Nat) (fun(k:Nat) f w'=>Hz f [(0,.slice Atg tg.length ctg),(3,I (k:Int))]∧(k≤tg.length)∧((tg.take k).all pR=true)∧SH w w' [] []) (fun k=>tg.length-k) 0 ⟨(zR r0),(by simp),(by simp),aK⟩ ?_))))))))
 rintro k f w1 ⟨⟨g1,rfl⟩,hk,ha,aE⟩
 refine sq (sr (tm (I (k:Int)) r0 (tm (.slice Atg tg.length ctg) r0 (qt r0 (dK pD r0) (qt r0 (lss r0 r0) (nl (nN (bI r0 (fun h1=>?_) (fun h1=>?_)))))))))
 ·refine sk (nN (sq (bl (sr (tm (.slice Atg tg.length ctg) r0 (tm (I (k:Int)) r0 (H6 (g:=mD) (zs:=tg) (fun _=>rfl) nL k pD r0 r0 htg (by omega) (by omega) aH r0 (fun a1 eL=>qt r0 (fap 0 V1 r0) (qt r0 (SA (v:=I ((tg.getD k nL).1)) 0 aE eL (fun _ h=>h) r0 r0 cN) (cS aE r0 (wV _ 0 255 _) (fun w2 aI=>qt r0 (nd r0) (tm (.bool (decide (¬ (0≤((tg.getD k nL).1)∧((tg.getD k nL).1)≤255)))) r0 (fF 17 r0 (fun h2=>?_) (fun h2=>?_))))))))))))))
  ·exact aT r0 (aT r0 (aT r0 (aT r0 (aT r0 (aT r0 (aT r0 (qt r0 (pt (v:=.bool true) r0 r0) (tm (.bool true) r0 (aT r0 (aT r0 (aT r0 (aT r0 (aT r0 (aT r0 (aT r0 (qt r0 (pt (v:=.bool true) r0 r0) (nn (fX r0 (sr (tA (.bool false) r0 (nl (nN (rt (bR (tR (tR (bR (tR (fB r0 (by exact(TS (k:=k) (by omega) (TR (.inl ‹_›))).symm) aI)))))))))))))))))))))))))))))
  refine qh r0 (mv (v:=.slice Atg tg.length ctg) r0) (qh r0 (mv (v:=I (k:Int)) r0) (H6 (g:=mD) (zs:=tg) (fun _=>rfl) nL k pD r0 r0 htg (by omega) (by omega) ⟨_,rfl,rfl⟩ r0 (fun a2 jG=>qh r0 (fap 1 M5 r0) (qh r0 (SA (v:=.slice (((tg.getD k nL).2).A) ((((tg.getD k nL).2).xs).length) (((tg.getD k nL).2).c)) 1 aI jG (fun _ h=>h) r0 r0 j4) (cl ⟨_,rfl,rfl⟩ r0 (wU _ _ (Sl.aP (RO _ (CV (by omega))) aI)) ?_)))))
  rintro _ w3 ⟨rfl,aN⟩
  replace aN:=aI.cJ aN
  refine qh r0 (nt r0) (qt r0 (pf (v:=.bool (!(bJ (((tg.getD k nL).2).xs)))) r0 r0) (tm (.bool (!(bJ (((tg.getD k nL).2).xs)))) r0 (hP 26 r0 (fun h3=>?_) (fun h3=>?_))))
  ·have h4:=dX h3
   exact aT r0 (aT r0 (aT r0 (aT r0 (aT r0 (aT r0 (aT r0 (qt r0 (pt (v:=.bool true) r0 r0) (nn (fX r0 (sr (tA (.bool false) r0 (nn (rt (bR (tR (tR (bR (tR (fB r0 (by exact(TS (k:=k) (by omega) (TR (.inr (.inl ‹_›)))).symm) aN)))))))))))))))))))
  have h5:=dY h3
  refine qh r0 (mv (v:=.slice Atg tg.length ctg) r0) (qh r0 (mv (v:=I (k:Int)) r0) (H6 (g:=mD) (zs:=tg) (fun _=>rfl) nL k pD r0 r0 htg (by omega) (by omega) ⟨_,rfl,rfl⟩ r0 (fun a3 nV=>qh r0 (fap 1 M5 r0) (qh r0 (SA (v:=.slice (((tg.getD k nL).2).A) ((((tg.getD k nL).2).xs).length) (((tg.getD k nL).2).c)) 1 aN nV (fun _ h=>h) r0 r0 j4) (qh r0 (dK aV r0) (qh r0 (gtr r0 r0) (qt r0 (pf (v:=.bool (decide ((16:Int)<(((((tg.getD k nL).2).xs).length:Nat):Int)))) r0 r0) (nn (bI r0 (fun h6=>?_) (fun h6=>?_))))))))))
  ·exact sr (tA (.bool false) r0 (nn (rt (bR (tR (tR (bR (tR (fB r0 (by exact(TS (k:=k) (by omega) (TR (.inr (.inr (by omega))))).symm) aN)))))))))
  refine sk (bN (nN (rg (tm (I (k:Int)) r0 (qt r0 (add r0 r0 (by exact⟨by omega,by omega⟩)) (tA (I ((k:Int)+1)) r0 (nl (nN ?_))))))))
  refine⟨(k+1),⟨(zR r0),(by omega),(wL (d:=nL) (by omega) ha (Xj (by omega) ‹_› (by omega))),aN⟩,?_⟩
  omega
 refine ex (tE (tE (bE (nN (sr (tm (.slice Atg tg.length ctg) r0 (qt r0 (dK pD r0) (qt r0 (leq r0 r0) (tA (.bool (decide ((tg.length:Int)≤4))) r0 (nl (nN (rt (fT (.bool (decide ((tg.length:Int)≤4))) r0 ?_)))))))))))))
 have e4:(decide ((tg.length:Int)≤4))=wX (n0 tg):=by(rw[Xk (k:=k) (by omega) ha]; exact decide_eq_decide.2 (by omega))
 exact⟨(aS (Value.bool) e4),aE⟩
theorem Tl (ka:Int) {Aqa:aM} {cqa:Nat} (qa:aC) (na:aD) (pa:Int) (kb:Int) {Aqb:aM} {cqb:Nat} (qb:aC) (nb:aD) (pb:Int) (w:World) (hqa:Sl w [] 1 Aqa qa.length cqa (qa.map I)) (NF:na.length≤1099511627776) (hqb:Sl w [] 1 Aqb qb.length cqb (qb.map I)) (NG:nb.length≤1099511627776):bF prog 193 [.agg #[I ka,.slice Aqa qa.length cqa,aA na,I pa,I kb,.slice Aqb qb.length cqb,aA nb,I pb]] w (fun v w'=>v=aA (kD ((ka,qa,na,pa),(kb,qb,nb,pb)))∧SH w w' [] []):=by
 refine fQ 8 func193 r0 r0 ?_
 have aK:=SH.refl w []
 have NH:qa.length≤9223372036854775807:=cB hqa.cap hqa.cO
 have NI:qb.length≤9223372036854775807:=cB hqb.cap hqb.cO
 refine sr (bx (v:=.agg #[I ka,(Z4 Aqa qa cqa),aA na,I pa,I kb,(Z4 Aqb qb cqb),aA nb,I pb]) (cs:=[I ka,(Z4 Aqa qa cqa),aA na,I pa,I kb,(Z4 Aqb qb cqb),aA nb,I pb]) aK r0 r0 aH r0 (fun b1 w1 aE=>tA (aA []) r0 (nn (sq (sr (qt r0 (lG [I ka,(Z4 Aqa qa cqa),aA na,I pa,I kb,(Z4 Aqb qb cqb),aA nb,I pb] aE 0 r0 iA) (cS aE r0 (Ts _ _ _ _ _ _ _ _ _ (hqa.aP aE) (by omega) (hqb.aP aE) (by omega)) (fun w2 aI=>qt r0 (nt r0) (nn (cd r0 (fun h1=>?_) (fun h1=>?_)))))))))))
 ·have h2:=dX h1
  exact sr (tA (aA []) r0 (nn (rt (tR (fS r0 (by exact(SD ‹_›).symm) (aI.pk [] r0))))))
 have h3:=dY h1
 refine sk (nN (sr (qt r0 (lG [I ka,(Z4 Aqa qa cqa),aA na,I pa,I kb,(Z4 Aqb qb cqb),aA nb,I pb] aI 0 r0 iA) (cS aI r0 (Sw _ _ _ _ _ _ _ _ _ (hqa.aP aI) (by omega) (hqb.aP aI) (by omega) (by exact FQ ‹_›)) (fun w3 aN=>tA (aA (qM ((ka,qa,na,pa),(kb,qb,nb,pb)))) r0 (nn (rt (fT (aA (qM ((ka,qa,na,pa),(kb,qb,nb,pb)))) r0 ?_))))))))
 have e2:qM ((ka,qa,na,pa),(kb,qb,nb,pb))=kD ((ka,qa,na,pa),(kb,qb,nb,pb)):=by exact(SE ‹_›).symm
 exact⟨(aS (aA) e2),(aN.pk [] r0)⟩
theorem Av (z:Int) (w:World):bF prog 91 [I z] w (fun v w'=>v=aA (mL z)∧SH w w' [] []):=by
 refine fQ 18 func91 r0 r0 ?_
 have aK:=SH.refl w []
 refine sr (tA (aA []) r0 (nn (sq (sr (tm (I z) r0 (nn (bl (sr (qt r0 (dO r0 r0) (tA (.bool (decide (z=0))) r0 (nn (bI r0 (fun h1=>?_) (fun h1=>?_)))))))))))))
 ·exact sr (tA (aA [109,111,114,101]) r0 (nn (rt (bR (tR (fS r0 (by(try subst_vars); rfl) aK))))))
 refine sr (qt r0 (dO r0 r0) (tA (sP z) r0 (nn (bI r0 (fun h2=>?_) (fun h2=>?_)))))
 ·exact sr (tA (aA [111,108,100]) r0 (nn (rt (bR (tR (fS r0 (by(try subst_vars); rfl) aK))))))
 refine sr (qt r0 (dO r0 r0) (tA (.bool (decide (z=2))) r0 (nn (bI r0 (fun h3=>?_) (fun h3=>?_)))))
 ·exact sr (tA (aA [104,101,108,108,111]) r0 (nn (rt (bR (tR (fS r0 (by(try subst_vars); rfl) aK))))))
 refine sr (qt r0 (dO r0 r0) (tA (.bool (decide (z=3))) r0 (nn (bI r0 (fun h4=>?_) (fun h4=>?_)))))
 ·exact sr (tA (aA [116,117,110,110,101,108]) r0 (nn (rt (bR (tR (fS r0 (by(try subst_vars); rfl) aK))))))
 refine sr (qt r0 (dO r0 r0) (tA (.bool (decide (z=4))) r0 (nn (bI r0 (fun h5=>?_) (fun h5=>?_)))))
 ·exact sr (tA (aA [108,105,110,101]) r0 (nn (rt (bR (tR (fS r0 (by(try subst_vars); rfl) aK))))))
 refine sr (qt r0 (dO r0 r0) (tA (.bool (decide (z=5))) r0 (nn (bI r0 (fun h6=>?_) (fun h6=>?_)))))
 ·exact sr (tA (aA [104,101,97,100]) r0 (nn (rt (bR (tR (fS r0 (by(try subst_vars); rfl) aK))))))
 refine sr (qt r0 (dO r0 r0) (tA (.bool (decide (z=6))) r0 (nn (bI r0 (fun h7=>?_) (fun h7=>?_)))))
 ·exact sr (tA (aA [111,116,104,101,114]) r0 (nn (rt (bR (tR (fS r0 (by(try subst_vars); rfl) aK))))))
 refine sk (bN (nN (sr (tA (aA []) r0 (nn (rt (fT (aA []) r0 ?_)))))))
 have e8:[]=mL z:=by(try subst_vars); exact(XS (by omega)).symm
 exact⟨(aS (aA) e8),aK⟩
theorem Lo (z:Int) (w:World) (hGk:PA w [] ⟨1,0,none⟩ (jY.map aA)):bF prog 71 [I z] w (fun v w'=>v=aA (mL z)∧SH w w' [] []):=by
 refine fQ 9 func71 r0 r0 ?_
 have aK:=SH.refl w []
 refine sr (tA (aA []) r0 (nn (sq (sr (tm (I z) r0 (cS aK r0 (x4 _ 0 6 _) (fun w1 aE=>qt r0 (nd r0) (nn (bI r0 (fun h1=>?_) (fun h1=>?_))))))))))
 ·exact sr (tA (aA []) r0 (nn (rt (tR (fS r0 (by exact(XS (by omega)).symm) aE)))))
 refine sk (nN (sr (tm (I z) r0 (R5 (n:=7) z.toNat Fm r0 (jK (x:=z) (by omega)) hGk (by omega) (eQ aA [] (by rw[BS]; omega)) aH r0 (fun a1 eL=>qt r0 (eW aE eL (fun _ h=>h) r0 r0 eC) (tA (aA (jY.getD z.toNat [])) r0 (nn (rt (fT (aA (jY.getD z.toNat [])) r0 ?_)))))))))
 have e2:jY.getD z.toNat []=mL z:=by exact(Nb (by omega)).symm
 exact⟨(aS (aA) e2),aE⟩
theorem TH (k:Int) (w:World):bF prog 28 [I k] w (fun v w'=>v=aA (stateT k)∧SH w w' [] []):=by
 refine fQ 12 func28 r0 r0 ?_
 have aK:=SH.refl w []
 refine sr (tA (aA []) r0 (nn (sq (sr (tm (I k) r0 (nn (bl (sr (qt r0 (dO r0 r0) (tA (.bool (decide (k=0))) r0 (nn (bI r0 (fun h1=>?_) (fun h1=>?_)))))))))))))
 ·exact sr (tA (aA [104,101,108,108,111]) r0 (nn (rt (bR (tR (fS r0 (by simp[stateT,h1]) aK))))))
 refine sr (qt r0 (dO r0 r0) (tA (sP k) r0 (nn (bI r0 (fun h2=>?_) (fun h2=>?_)))))
 ·exact sr (tA (aA [108,111,103,105,110]) r0 (nn (rt (bR (tR (fS r0 (by simp[stateT,h1,h2]) aK))))))
 refine sr (qt r0 (dO r0 r0) (tA (.bool (decide (k=2))) r0 (nn (bI r0 (fun h3=>?_) (fun h3=>?_)))))
 ·exact sr (tA (aA [114,101,113,117,101,115,116]) r0 (nn (rt (bR (tR (fS r0 (by simp[stateT,h1,h2,h3]) aK))))))
 refine sr (qt r0 (dO r0 r0) (tA (.bool (decide (k=3))) r0 (nn (bI r0 (fun h4=>?_) (fun h4=>?_)))))
 ·exact sr (tA (aA [111,112,101,110]) r0 (nn (rt (bR (tR (fS r0 (by simp[stateT,h1,h2,h3,h4]) aK))))))
 refine sk (bN (nN (sr (tA (aA [115,104,117,116]) r0 (nn (rt (fT (aA [115,104,117,116]) r0 ?_)))))))
 have e5:[115,104,117,116]=stateT k:=by simp[stateT,h1,h2,h3,h4]
 exact⟨(aS (aA) e5),aK⟩
theorem TG {Ab:aM} {cb:Nat} (b:aC) (f:Bool) (w:World) (hb:Sl w [] 1 Ab b.length cb (b.map I)):bF prog 46 [.slice Ab b.length cb,.bool f] w (fun v w'=>v=aA (kC b f++[10])∧SH w w' [] []):=by
 refine fQ 10 func46 r0 r0 ?_
 have aK:=SH.refl w []
 have q7:b.length≤9223372036854775807:=cB hb.cap hb.cO
 refine sr (tA (aA []) r0 (nn (sq (sr (tm (.bool f) r0 (qt r0 (nt r0) (nn (cd r0 (fun h1=>?_) (fun h1=>?_)))))))))
 ·have h2:=dX h1
  exact sr (tA (aA [110,111,10]) r0 (nn (rt (tR (fS r0 (by simp[kC,h2]) aK)))))
 have h3:=dY h1
 refine sk (nN (sr (tm (cD Ab b cb) r0 (cS aK r0 (Au _ _ (hb.aP aK)) (fun w1 aE=>qt r0 (cat r0 r0 (by(have hxl:=BJ b; simp; omega))) (tA (aA ((mX b)++[10])) r0 (nn (rt (fT (aA ((mX b)++[10])) r0 ?_)))))))))
 have e2:(mX b)++[10]=(kC b f++[10]):=by simp[kC,h3]
 exact⟨(aS (aA) e2),aE⟩
theorem RX {Ab:aM} {cb:Nat} (b:aC) (f:Bool) (w:World) (hb:Sl w [] 1 Ab b.length cb (b.map I)):bF prog 67 [.slice Ab b.length cb,.bool f] w (fun v w'=>v=aA (kC b f)∧SH w w' [] []):=by
 refine fQ 9 func67 r0 r0 ?_
 have aK:=SH.refl w []
 have q7:b.length≤9223372036854775807:=cB hb.cap hb.cO
 refine sr (tA (aA []) r0 (nn (sq (sr (tm (.bool f) r0 (qt r0 (nt r0) (nn (cd r0 (fun h1=>?_) (fun h1=>?_)))))))))
 ·have h2:=dX h1
  exact sr (tA (aA [110,111]) r0 (nn (rt (tR (fS r0 (by simp[kC,h2]) aK)))))
 have h3:=dY h1
 refine sk (nN (sr (tm (cD Ab b cb) r0 (cS aK r0 (XC _ _ (hb.aP aK)) (fun w1 aE=>tA (aA (mX b)) r0 (nn (rt (fT (aA (mX b)) r0 ?_))))))))
 have e2:mX b=kC b f:=by simp[kC,h3]
 exact⟨(aS (aA) e2),aE⟩
theorem Tg (s:aD) (w:World) (hs_n:s.length≤1099511627776):bF prog 49 [aA s] w (fun v w'=>v=.agg #[aA ((m7 s).1),aA ((m7 s).2)]∧SH w w' [] []):=by
 refine fQ 17 func49 r0 r0 ?_
 have aK:=SH.refl w []
 refine sr (al (cs:=lB) aK B3 r0 aH r0 (fun b1 w1 aE=>nx (tm (aA s) r0 (dP aE r0 (H8 _ (47:UInt8) _ (by omega)) (fun A1 c1 w2 aI=>tA (.slice A1 ((aB (47:UInt8) s).length) c1) r0 (nn (sq (sr (tm (.slice A1 ((aB (47:UInt8) s).length) c1) r0 (qt r0 (dK fZ r0) (qt r0 (nK r0 r0) (nn (bI r0 (fun h1=>?_) (fun h1=>?_))))))))))))))
 ·refine sr (qt r0 (bQ (v:=.agg #[aA [],aA []]) [] r0) (sG lB aI 0 r0 jI (fun w3 aN=>nn (rt (tR (bO (cX aN 1 r0 r0 jI r0 .nil) r0 ?_))))))
  have e1:[]=(m7 s).1:=by(have C8: ¬ (aB 47 s).length=2:=(by omega); simp only[m7,b0 C8])
  have e2:[]=(m7 s).2:=by(have C8: ¬ (aB 47 s).length=2:=(by omega); simp only[m7,b0 C8])
  exact⟨(oP (lc (aS (aA) e1) (lc (aS (aA) e2) r0))),(aN.pk [] r0)⟩
 refine sk (nN (sq ?_))
 obtain ⟨b2,rfl⟩:=sA aI 1 r0 (by(have C8:(aB 47 s).length=2:=(by omega); omega))
 refine kA (fun w'=>∃ L,SH w w' [] L∧(.own (Z7 b2) ((aB (47:UInt8) s).length) c1 9 1 ((aB (47:UInt8) s).map aA))∈L∧True) (fun f w'=>Hz f [(2,pB b1)]∧SH w w' [] [.blk b1 38 [aA ((aB (47:UInt8) s).getD 0 []),aA ((aB (47:UInt8) s).getD 1 [])],.own (Z7 b2) ((aB (47:UInt8) s).length) c1 9 1 ((aB (47:UInt8) s).map aA)]) mixed ?_ ?_
 ·refine dG 1 8 127 (fun f w'=>Hz f [(2,pB b1),(16,.agg #[aA ((aB (47:UInt8) s).getD 0 []),aA ((aB (47:UInt8) s).getD 1 [])])]∧SH w w' [] [.blk b1 38 lB,.own (Z7 b2) ((aB (47:UInt8) s).length) c1 9 1 ((aB (47:UInt8) s).map aA)]) ?_ (fun D_4_0=>?_)
  ·rintro f w4 ⟨⟨g1,rfl⟩,aR⟩
   refine aO 7 r0 (sG [aA ((aB (47:UInt8) s).getD 0 []),aA ((aB (47:UInt8) s).getD 1 [])] aR 0 r0 jI (fun w5 aZ=>nk (m1 aZ 0 r0) (aQ ?_)))
   exact⟨(zR r0),(aZ.pk [1,0] r0)⟩
  have bG:=aI.drew
  exact tQ (fuel:=1) (is:=[0,1,2,3,4,5,6]) (.cons r0 (.cons r0 (.cons r0 (.cons r0 (.cons r0 (.cons r0 (.cons r0 (.nil)))))))) (m1 bG 1 r0) (yA r0 (mv (v:=sb b2 ((aB (47:UInt8) s).length) c1) r0) (yA r0 (lR 0 fZ r0 r0 (by omega)) (yB r0 (fun ⟨Lq,aU,dH,_⟩=>s8 (g:=aA) (ys:=aB (47:UInt8) s) (o:=0) [] aU dH r0 (by omega) eC) (yA r0 (mv (v:=sb b2 ((aB (47:UInt8) s).length) c1) r0) (yA r0 (lR 1 fZ r0 r0 (by omega)) (yB r0 (fun ⟨Lq,aU,dH,_⟩=>s8 (g:=aA) (ys:=aB (47:UInt8) s) (o:=1) [] aU dH r0 (by omega) eC) (yA r0 (bQ (v:=.agg #[aA ((aB (47:UInt8) s).getD 0 []),aA ((aB (47:UInt8) s).getD 1 [])]) [(0,aA ((aB (47:UInt8) s).getD 0 [])),(1,aA ((aB (47:UInt8) s).getD 1 []))] r0) (.nil (bS D_4_0 ⟨(zR r0),bG⟩)))))))))
 rintro f w6 ⟨⟨g2,rfl⟩,bU⟩
 refine nN (rt (bO (cX bU 0 r0 r0 jI r0 .nil) r0 ?_))
 have e3:(aB (47:UInt8) s).getD 0 []=(m7 s).1:=by(have C8:(aB 47 s).length=2:=(by omega); simp only[m7,cF C8])
 have e4:(aB (47:UInt8) s).getD 1 []=(m7 s).2:=by(have C8:(aB 47 s).length=2:=(by omega); simp only[m7,cF C8])
 exact⟨(oP (lc (aS (aA) e3) (lc (aS (aA) e4) r0))),(bU.pk [] r0)⟩
theorem Ax (s:aD) (t:aD) (w:World) (hs_n:s.length≤1099511627776) (C7:t.length≤1099511627776):bF prog 189 [aA s,aA t] w (fun v w'=>v=.bool (decide (iX s t))∧SH w w' [] []):=by
 refine fQ 18 func189 r0 r0 ?_
 have aK:=SH.refl w []
 refine sr (tA (.bool false) r0 (nx (tm (aA s) r0 (qt r0 (gG dI r0) (tm (aA t) r0 (qt r0 (gG dI r0) (qt r0 (geq r0 r0) (tm (.bool (decide ((t.length:Int)≤(s.length:Int)))) r0 (fF 10 r0 (fun h1=>?_) (fun h1=>?_))))))))))
 ·refine qh r0 (mv (v:=aA s) r0) (qh r0 (mv (v:=aA t) r0) (qh r0 (gG dI r0) (qh r0 (xU (l:=s) t.length dI r0 r0 (by omega)) (qh r0 (mv (v:=aA t) r0) (qh r0 (eqs r0 r0) (qt r0 (pt (v:=.bool (decide (s.take t.length=t))) r0 r0) (tA (.bool (decide (s.take t.length=t))) r0 (nn (rt (fT (.bool (decide (s.take t.length=t))) r0 ?_))))))))))
  have e1:(decide (s.take t.length=t))=decide (iX s t):=by(have hx:t.length≤s.length:=(by omega); simp[iX,hx]; done)
  exact⟨(aS (Value.bool) e1),aK⟩
 refine bA r0 (bA r0 (bA r0 (bA r0 (bA r0 (bA r0 (qt r0 (pf (v:=.bool false) r0 r0) (tA (.bool false) r0 (nn (rt (fT (.bool false) r0 ?_))))))))))
 have e2:false=decide (iX s t):=by(have hx: ¬ t.length≤s.length:=(by omega); simp[iX,hx]; done)
 exact⟨(aS (Value.bool) e2),aK⟩
theorem Bb {Ab:aM} {cb:Nat} (b:aC) (k0:Int) (w:World) (hb:Sl w [] 1 Ab b.length cb (b.map I)) (C1:0≤k0):bF prog 187 [.slice Ab b.length cb,I k0] w (fun v w'=>v=.int .i64 (zE b (Int.toNat k0))∧SH w w' [] []):=by
 refine fQ 19 func187 r0 r0 ?_
 have aK:=SH.refl w []
 have q7:b.length≤9223372036854775807:=cB hb.cap hb.cO
 refine sr (tA (I 0) r0 (nn (sq (sr (tm (I k0) r0 (tA (I k0) r0 (nn (bl (lp (σ:=Nat) (fun(k:Nat) f w'=>Hz f [(0,.slice Ab b.length cb),(5,I (k:Int))]∧(k0.toNat≤k)∧(k≤b.length∨k=k0.toNat)∧(∀ j,k0.toNat≤j→j<k→b.getD j 0≠0)∧SH w w' [] []) (fun k=>b.length-k) k0.toNat ⟨(zH ⟨rfl,(show (I k0:Value)=I (k0.toNat:Int) from aS (Value.int .i64) (by omega)),aH⟩),(by omega),(by omega),(by intros; omega),aK⟩ ?_)))))))))
 rintro k f w1 ⟨⟨g1,rfl⟩,hk,hz,ha,aE⟩
 refine sq (sr (tm (I (k:Int)) r0 (tm (cD Ab b cb) r0 (qt r0 (dK aV r0) (qt r0 (lss r0 r0) (nl (nN (bI r0 (fun h1=>?_) (fun h1=>?_)))))))))
 ·refine sk (nN (sq (bl (sr (tm (cD Ab b cb) r0 (tm (I (k:Int)) r0 (gN k aV r0 r0 hb (by omega) (eQ I 0 (by omega)) aH r0 (fun a1 eL=>qt r0 (eW aE eL (fun _ h=>h) r0 r0 cN) (qt r0 (dO r0 r0) (nn (bI r0 (fun h2=>?_) (fun h2=>?_))))))))))))
  ·exact sr (tm (I (k:Int)) r0 (tA (I (k:Int)) r0 (nn (rt (bR (tR (tR (bR (tR (fI r0 (by exact(Yy (by omega) (by omega) ha ‹_›).symm) aE))))))))))
  refine sk (bN (nN (rg (tm (I (k:Int)) r0 (qt r0 (add r0 r0 (by exact⟨by omega,by omega⟩)) (tA (I ((k:Int)+1)) r0 (nl (nN ?_))))))))
  refine⟨(k+1),⟨(zH ⟨rfl,(show (I ((k:Int)+1):Value)=I (((k+1):Nat):Int) from aS (Value.int .i64) (by omega)),aH⟩),(by omega),(by omega),(fun j h1 h2=>by rcases qR j k with h | h; exact ha j h1 h; rw[show j=k by omega]; assumption),aE⟩,?_⟩
  omega
 refine ex (tE (tE (bE (nN (sr (tA (I (-1)) r0 (nn (rt (fT (I (-1)) r0 ?_)))))))))
 have e2:(-1)=zE b (Int.toNat k0):=by exact(Yz (k:=k) (by omega) ha).symm
 exact⟨(aS (Value.int .i64) e2),aE⟩
theorem Su (s:aD) (k0:Int) (w:World) (hs_n:s.length≤1099511627776) (C1:0≤k0∧k0≤1099511627776):bF prog 190 [aA s,I k0] w (fun v w'=>v=aA (gO s (Int.toNat k0))∧SH w w' [] []):=by
 refine fQ 21 func190 r0 r0 ?_
 have aK:=SH.refl w []
 refine sr (tA (aA []) r0 (nn (sq (sr (tm (I k0) r0 (tA (I k0) r0 (nn (bl (lp (σ:=Nat) (fun(k:Nat) f w'=>Hz f [(0,aA s),(1,I k0),(5,I (k:Int))]∧(k0.toNat≤k)∧(k≤s.length∨k=k0.toNat)∧(∀ j,k0.toNat≤j→j<k→s.getD j 0≠32)∧SH w w' [] []) (fun k=>s.length-k) k0.toNat ⟨(zH ⟨rfl,rfl,(show (I k0:Value)=I (k0.toNat:Int) from aS (Value.int .i64) (by omega)),aH⟩),(by omega),(by omega),(by intros; omega),aK⟩ ?_)))))))))
 rintro k f w1 ⟨⟨g1,rfl⟩,hk,hz,ha,aE⟩
 refine sq (sr (tm (I (k:Int)) r0 (tm (aA s) r0 (qt r0 (gG dI r0) (qt r0 (lss r0 r0) (nl (nN (bI r0 (fun h1=>?_) (fun h1=>?_)))))))))
 ·refine sk (nN (sq (bl (sr (tm (aA s) r0 (tm (I (k:Int)) r0 (qt r0 (l5 k dI r0 r0 (by omega)) (qt r0 (dO r0 r0) (nn (bI r0 (fun h2=>?_) (fun h2=>?_)))))))))))
  ·exact sr (tm (aA s) r0 (tm (I k0) r0 (tm (I (k:Int)) r0 (qt r0 (JV (l:=s) k0.toNat k dI r0 (jK (x:=k0) (by omega)) r0 (by omega) (by omega)) (tA (aA ((s.take k).drop k0.toNat)) r0 (nl (nN (rt (bR (tR (tR (bR (tR (fS r0 (by exact(Yu (by omega) (by omega) ha (UU.1 ‹_›)).symm) aE))))))))))))))
  refine sk (bN (nN (rg (tm (I (k:Int)) r0 (qt r0 (add r0 r0 (by exact⟨by omega,by omega⟩)) (tA (I ((k:Int)+1)) r0 (nl (nN ?_))))))))
  refine⟨(k+1),⟨(zH ⟨rfl,rfl,(show (I ((k:Int)+1):Value)=I (((k+1):Nat):Int) from aS (Value.int .i64) (by omega)),aH⟩),(by omega),(by omega),(fun j h1 h2=>by rcases qR j k with h | h; exact ha j h1 h; rw[show j=k by omega]; exact fun hh=>absurd (UU.2 hh) ‹_›),aE⟩,?_⟩
  omega
 refine ex (tE (tE (bE (nN (sr (tA (aA []) r0 (nn (rt (fT (aA []) r0 ?_)))))))))
 have e2:[]=gO s (Int.toNat k0):=by exact(Yw (k:=k) (by omega) ha).symm
 exact⟨(aS (aA) e2),aE⟩
theorem Sv (s:aD) (w:World) (hs_n:s.length≤1099511627776):bF prog 192 [aA s] w (fun v w'=>v=.int .i64 (bM s)∧SH w w' [] []):=by
 refine fQ 23 func192 r0 r0 ?_
 have aK:=SH.refl w []
 refine sr (tA (I 0) r0 (nn (sq (sr (tA (I 1) r0 (nn (bl (lp (σ:=Nat) (fun(k:Nat) f w'=>Hz f [(0,aA s),(3,I (k:Int))]∧(1≤k)∧(k≤s.length∨k=1)∧(∀ j,1≤j→j<k→ ¬ (s.getD (j-1) 0=13∧s.getD j 0=10))∧SH w w' [] []) (fun k=>s.length-k) 1 ⟨(zR r0),(by omega),(by omega),(by intros; omega),aK⟩ ?_))))))))
 rintro k f w1 ⟨⟨g1,rfl⟩,hk,hz,ha,aE⟩
 refine sq (sr (tm (I (k:Int)) r0 (tm (aA s) r0 (qt r0 (gG dI r0) (qt r0 (lss r0 r0) (nl (nN (bI r0 (fun h1=>?_) (fun h1=>?_)))))))))
 ·refine sk (nN (sq (bl (sr (tm (aA s) r0 (tm (I (k:Int)) r0 (qt r0 (sub r0 r0 (by exact⟨by omega,by omega⟩)) (qt r0 (l5 (((k:Int)-1).toNat) dI r0 (jK (x:=(k:Int)-1) (by omega)) (by omega)) (qt r0 (dO r0 r0) (tm (.bool (decide ((((s.getD (((k:Int)-1).toNat) 0).toNat:Nat):Int)=13))) r0 (fF 15 r0 (fun h2=>?_) (fun h2=>?_))))))))))))
  ·refine qh r0 (mv (v:=aA s) r0) (qh r0 (mv (v:=I (k:Int)) r0) (qh r0 (l5 k dI r0 r0 (by omega)) (qh r0 (dO r0 r0) (qt r0 (pt (v:=.bool (decide ((((s.getD k 0).toNat:Nat):Int)=10))) r0 r0) (nn (bI r0 (fun h3=>?_) (fun h3=>?_)))))))
   ·exact sr (tm (I (k:Int)) r0 (qt r0 (add r0 r0 (by exact⟨by omega,by omega⟩)) (tA (I ((k:Int)+1)) r0 (nn (rt (bR (tR (tR (bR (tR (fI r0 (by(have e0_:((k:Int)-1).toNat=k-1:=(by omega); simp only[e0_]at*; exact(VO (k:=k) (by omega) (by omega) ha ⟨HI.1 ‹_›,wP.1 ‹_›⟩).symm)) aE)))))))))))
   refine sk (bN (nN (rg (tm (I (k:Int)) r0 (qt r0 (add r0 r0 (by exact⟨by omega,by omega⟩)) (tA (I ((k:Int)+1)) r0 (nl (nN ?_))))))))
   refine⟨(k+1),⟨(zR r0),(by omega),(by omega),(fun j h1 h2=>by rcases qR j k with h | h; exact ha j h1 h; rw[show j=k by omega]; intro hh; have q1:=HI.2 hh.1; have q2:=wP.2 hh.2; omega),aE⟩,?_⟩
   omega
  refine bA r0 (bA r0 (bA r0 (bA r0 (qt r0 (pf (v:=.bool false) r0 r0) (nn (qV r0 (sk (bN (nN (rg (tm (I (k:Int)) r0 (qt r0 (add r0 r0 (by exact⟨by omega,by omega⟩)) (tA (I ((k:Int)+1)) r0 (nl (nN ?_)))))))))))))))
  refine⟨(k+1),⟨(zR r0),(by omega),(by omega),(fun j h1 h2=>by rcases qR j k with h | h; exact ha j h1 h; rw[show j=k by omega]; intro hh; have q1:=HI.2 hh.1; have q2:=wP.2 hh.2; (simp_all; done)),aE⟩,?_⟩
  omega
 refine ex (tE (tE (bE (nN (sr (tA (I (-1)) r0 (nn (rt (fT (I (-1)) r0 ?_)))))))))
 have e2:(-1)=bM s:=by exact(VN (k:=k) (by omega) ha).symm
 exact⟨(aS (Value.int .i64) e2),aE⟩
theorem Tr {Abs:aM} {cbs:Nat} (bs:aC) (w:World) (hbs:Sl w [] 1 Abs bs.length cbs (bs.map I)):bF prog 138 [.slice Abs bs.length cbs] w (fun v w'=>∃ Aqr:aM,∃ cqr:Nat,∃ c:Int,∃ ak:Int,∃ aq:aC,∃ an:aD,∃ apt:Int,∃ us:aD,v=.tuple #[.agg #[.int .i64 c,.int .i64 ak,.slice Aqr aq.length cqr,aA an,.int .i64 apt,aA us],.int .i64 ((gW bs).1),.bool ((gW bs).2)]∧SH w w' [] [.own Aqr aq.length cqr 3 1 (aq.map I)]):=by
 refine fQ 94 func138 r0 r0 ?_
 have aK:=SH.refl w []
 have nW:bs.length≤9223372036854775807:=cB hbs.cap hbs.cO
 refine sr (al (cs:=iR) aK I7 r0 aH r0 (fun b1 w1 aE=>tA (I 0) r0 (tA (.bool false) r0 (nn (sq (sr (tm (cD Abs bs cbs) r0 (cS aE r0 (wU _ _ (hbs.aP aE)) (fun w2 aI=>qt r0 (nt r0) (tm (xK bs) r0 (hP 11 r0 (fun h1=>?_) (fun h1=>?_))))))))))))
 ·have h2:=dX h1
  refine aT r0 (aT r0 (aT r0 (qt r0 (pt (v:=.bool true) r0 r0) (tm (.bool true) r0 (aT r0 (aT r0 (aT r0 (aT r0 (qt r0 (pt (v:=.bool true) r0 r0) (nn (fX r0 (sr (qt r0 (bQ (v:=.agg #[I 0,I 0,ns,aA [],I 0,aA []]) [] r0) (sG iR aI 0 r0 hH (fun w3 aN=>tA (I 0) r0 (tA (.bool false) r0 (nn (rt (tR (bO (cX aN 0 r0 r0 hH r0 (.tmp (.tmp .nil))) r0 ?_))))))))))))))))))))
  have aR:=aN.nl [Z0] r0
  have e1:gW bs=(0,false):=by(have t8:Int.toNat 8=8:=rfl; (try simp only[t8]at*); exact IH (by exact .inl ‹_›))
  rw[e1]
  exact⟨none,0,0,0,([]:aC),[],0,[],rfl,(aR.pk [1] r0)⟩
 have h3:=dY h1
 refine qh r0 (mv (v:=.slice Abs bs.length cbs) r0) (qh r0 (dK aV r0) (qh r0 (lss r0 r0) (qt r0 (pf (v:=.bool (decide ((bs.length:Int)<9))) r0 r0) (tm (.bool (decide ((bs.length:Int)<9))) r0 (fF 16 r0 (fun h4=>?_) (fun h4=>?_))))))
 ·refine aT r0 (aT r0 (aT r0 (aT r0 (qt r0 (pt (v:=.bool true) r0 r0) (nn (fX r0 (sr (qt r0 (bQ (v:=.agg #[I 0,I 0,ns,aA [],I 0,aA []]) [] r0) (sG iR aI 0 r0 hH (fun w4 aZ=>tA (I 0) r0 (tA (.bool false) r0 (nn (rt (tR (bO (cX aZ 0 r0 r0 hH r0 (.tmp (.tmp .nil))) r0 ?_)))))))))))))))
  have bG:=aZ.nl [Z0] r0
  have e2:gW bs=(0,false):=by(have t8:Int.toNat 8=8:=rfl; (try simp only[t8]at*); exact IH (by exact .inr (.inl (by omega))))
  rw[e2]
  exact⟨none,0,0,0,([]:aC),[],0,[],rfl,(bG.pk [1] r0)⟩
 refine qh r0 (mv (v:=.slice Abs bs.length cbs) r0) (gN 0 aV r0 r0 hbs (by omega) (eQ I 0 (by omega)) ⟨_,rfl,rfl⟩ r0 (fun a1 eL=>qh r0 (eW aI eL (fun _ h=>h) r0 r0 cN) (qh r0 (nK r0 r0) (qt r0 (pf (v:=.bool (decide ((bs.getD 0 0)≠4))) r0 r0) (nn (bI r0 (fun h5=>?_) (fun h5=>?_)))))))
 ·refine sr (qt r0 (bQ (v:=.agg #[I 0,I 0,ns,aA [],I 0,aA []]) [] r0) (sG iR aI 0 r0 hH (fun w5 bU=>tA (I 0) r0 (tA (.bool false) r0 (nn (rt (tR (bO (cX bU 0 r0 r0 hH r0 (.tmp (.tmp .nil))) r0 ?_))))))))
  have bV:=bU.nl [Z0] r0
  have e3:gW bs=(0,false):=by(have t8:Int.toNat 8=8:=rfl; (try simp only[t8]at*); exact IH (by exact .inr (.inr (.inl ‹_›))))
  rw[e3]
  exact⟨none,0,0,0,([]:aC),[],0,[],rfl,(bV.pk [1] r0)⟩
 refine sk (nN (sr (tm (cD Abs bs cbs) r0 (cS aI r0 (Bb _ 8 _ (hbs.aP aI) (by omega)) (fun w6 b9=>tA (I (zE bs (Int.toNat 8))) r0 (nn (sq (sr (tm (I (zE bs (Int.toNat 8))) r0 (qt r0 (lss r0 r0) (nn (bI r0 (fun h6=>?_) (fun h6=>?_)))))))))))))
 ·refine sr (qt r0 (bQ (v:=.agg #[I 0,I 0,ns,aA [],I 0,aA []]) [] r0) (sG iR b9 0 r0 hH (fun w7 cM=>tA (I 0) r0 (tA (.bool false) r0 (nn (rt (tR (bO (cX cM 0 r0 r0 hH r0 (.tmp (.tmp .nil))) r0 ?_))))))))
  have cW:=cM.nl [Z0] r0
  have e4:gW bs=(0,false):=by(have t8:Int.toNat 8=8:=rfl; (try simp only[t8]at*); exact IH (by exact .inr (.inr (.inr (.inl ‹_›)))))
  rw[e4]
  exact⟨none,0,0,0,([]:aC),[],0,[],rfl,(cW.pk [1] r0)⟩
 refine sk (nN (sq ?_))
 refine kA (fun w'=>∃ L,SH w w' [] L∧(.blk b1 79 iR)∈L∧True) (fun f w'=>∃ (gA:Nat),Hz f [(0,.slice Abs bs.length cbs),(2,pB b1),(5,I (zE bs (Int.toNat 8))),(6,pB gA)]∧SH w w' [] [.blk b1 79 iR,.blk gA 79 [I (bs.getD 1 0),I 0,ns,aA [],I 0,aA (sN bs)]]) mixed ?_ ?_
 ·refine dG 1 10 511 (fun f w'=>∃ (gA:Nat),Hz f [(0,.slice Abs bs.length cbs),(2,pB b1),(5,I (zE bs (Int.toNat 8))),(6,pB gA),(35,.agg #[I (bs.getD 1 0),I 0,ns,aA [],I 0,aA (sN bs)])]∧SH w w' [] [.blk b1 79 iR,.blk gA 79 iR]) ?_ (fun D_6_0=>?_)
  ·rintro f w8 ⟨gA,⟨g1,rfl⟩,dB⟩
   refine aO 9 r0 (sG [I (bs.getD 1 0),I 0,ns,aA [],I 0,aA (sN bs)] dB 1 r0 hH (fun w9 cY=>nk (m1 cY 0 r0) (aQ ?_)))
   exact⟨gA,(zR r0),cY⟩
  refine dG 2 10 255 (fun f w'=>Hz f [(0,.slice Abs bs.length cbs),(2,pB b1),(5,I (zE bs (Int.toNat 8))),(35,.agg #[I (bs.getD 1 0),I 0,ns,aA [],I 0,aA (sN bs)])]∧SH w w' [] [.blk b1 79 iR]) ?_ (fun D_6_1=>?_)
  ·rintro f kF ⟨⟨g2,rfl⟩,dJ⟩
   exact aO 8 r0 (al (cs:=iR) dJ I7 r0 aH r0 (fun gA kB dM=>nk (m1 dM 0 r0) (bS D_6_0 ⟨gA,(zR r0),dM⟩)))
  refine dG 3 10 319 (fun f w'=>∃ (gA:Nat),Hz f [(0,.slice Abs bs.length cbs),(2,pB b1),(5,I (zE bs (Int.toNat 8))),(6,pB gA),(30,I (bs.getD 1 0)),(33,.slice (if cbs=8 then Abs else Abs.map (·.add (8*1))) (((bs.take ((zE bs (Int.toNat 8)).toNat)).drop 8).length) (cbs-8))]∧SH w w' [] [.blk b1 79 iR,.blk gA 79 iR]) ?_ (fun D_6_2=>?_)
  ·rintro f kI ⟨gA,⟨g3,rfl⟩,eO⟩
   have hbl:=hZ (by assumption:bJ bs=true)
   have uO:=pH bs (Int.toNat 8)
   have BQ:=pH bs (Int.toNat (zE bs (Int.toNat 8)+1))
   exact aO 6 r0 (cS eO r0 (yF _ _ (Sl.lZ (hbs.aP eO) (by((try simp only[fC,dV,bK,bH]); omega)) (by((try simp only[fC,dV,bK,bH]); omega))) (by exact wE ‹_›) (by((try simp only[fC,dV,bK,bH]); omega))) (fun lU eK=>nk (m1 eK 0 r0) (tQ (fuel:=1) (is:=[7]) (.cons r0 (.nil)) (m1 eK 0 r0) (yA r0 (bQ (v:=.agg #[I (bs.getD 1 0),I 0,ns,aA [],I 0,aA (sN bs)]) [(0,I (bs.getD 1 0)),(2,aA (sN bs))] r0) (.nil (bS D_6_0 ⟨gA,(zR r0),eK⟩))))))
  refine dG 4 10 63 (fun f w'=>Hz f [(0,.slice Abs bs.length cbs),(2,pB b1),(5,I (zE bs (Int.toNat 8))),(30,I (bs.getD 1 0)),(33,.slice (if cbs=8 then Abs else Abs.map (·.add (8*1))) (((bs.take ((zE bs (Int.toNat 8)).toNat)).drop 8).length) (cbs-8))]∧SH w w' [] [.blk b1 79 iR]) ?_ (fun D_6_3=>?_)
  ·rintro f mH ⟨⟨g4,rfl⟩,eZ⟩
   refine jN [6,8] (eX ?_ (jP ?_))
   ·have hbl:=hZ (by assumption:bJ bs=true)
    have uO:=pH bs (Int.toNat 8)
    have BQ:=pH bs (Int.toNat (zE bs (Int.toNat 8)+1))
    exact eI r0 (cS eZ r0 (yF _ _ (Sl.lZ (hbs.aP eZ) (by((try simp only[fC,dV,bK,bH]); omega)) (by((try simp only[fC,dV,bK,bH]); omega))) (by exact wE ‹_›) (by((try simp only[fC,dV,bK,bH]); omega))) (fun mI fV=>nk (m1 fV 0 r0) (tQ (fuel:=2) (is:=[7]) (.cons r0 (.nil)) (m1 fV 0 r0) (yA r0 (bQ (v:=.agg #[I (bs.getD 1 0),I 0,ns,aA [],I 0,aA (sN bs)]) [(0,I (bs.getD 1 0)),(2,aA (sN bs))] r0) (.nil (bS D_6_1 ⟨(zR r0),fV⟩))))))
   exact eI r0 (al (cs:=iR) eZ I7 r0 aH r0 (fun gA mU fD=>nk (m1 fD 0 r0) (bS D_6_2 ⟨gA,(zR r0),fD⟩)))
  have gK:=b9.drew
  refine tQ (fuel:=4) (is:=[0,1,2,3,4,5]) (.cons r0 (.cons r0 (.cons r0 (.cons r0 (.cons r0 (.cons r0 (.nil))))))) (m1 gK 0 r0) (yA r0 (mv (v:=.slice Abs bs.length cbs) r0) (N4 1 aV r0 r0 hbs (by omega) (eQ I 0 (by omega)) aH r0 (fun a2 jG=>?_)))
  have hbl:=hZ (by assumption:bJ bs=true)
  have uO:=pH bs (Int.toNat 8)
  have BQ:=pH bs (Int.toNat (zE bs (Int.toNat 8)+1))
  exact yB r0 (fun ⟨Lq,aU,dH,_⟩=>eW aU jG (fun _ h=>h) r0 r0 cN) (yA r0 (mv (v:=.slice Abs bs.length cbs) r0) (yA r0 (mv (v:=I (zE bs (Int.toNat 8))) r0) (yA r0 (pK (zs:=bs) 8 ((zE bs (Int.toNat 8)).toNat) aV r0 r0 (jK (x:=zE bs (Int.toNat 8)) (by omega)) (by((try simp only[fC,dV,bK,bH]); omega)) (by((try simp only[fC,dV,bK,bH]); omega)) hbs.cap) (.nil (bS D_6_3 ⟨(zR r0),gK⟩)))))
 rintro f n6 ⟨gA,⟨g5,rfl⟩,hU⟩
 refine nN (sq ?_)
 refine kA (fun w'=>∃ L,SH w w' [] L∧(.blk b1 79 iR)∈L∧True) (fun f w'=>∃ (A3'':aM) (c3'':Nat),Hz f [(0,.slice Abs bs.length cbs),(2,pB b1),(5,I (zE bs (Int.toNat 8))),(6,pB gA)]∧SH w w' [] [.blk b1 79 iR,.blk gA 79 (sM bs A3'' c3''),(zF A3'' bs c3'')]) mixed ?_ ?_
 ·refine dG 1 10 511 (fun f w'=>∃ (A3'':aM) (c3'':Nat),Hz f [(0,.slice Abs bs.length cbs),(2,pB b1),(5,I (zE bs (Int.toNat 8))),(6,pB gA),(43,.agg #[I 1,.slice A3'' (((bs.take 8).drop 4).length) c3'',aA [],(xN bs)]),(44,.pointer (some ⟨gA,1,none⟩))]∧SH w w' [] [.blk b1 79 iR,.blk gA 79 [I (bs.getD 1 0),I 0,ns,aA [],I 0,aA (sN bs)],(zF A3'' bs c3'')]) ?_ (fun D_7_0=>?_)
  ·rintro f m9 ⟨A3'',c3'',⟨g6,rfl⟩,iN⟩
   refine aO 9 r0 (sG [I 1,.slice A3'' (((bs.take 8).drop 4).length) c3'',aA [],(xN bs)] iN 1 r0 cG (fun qQ iB=>nk (m1 iB 0 r0) (aQ ?_)))
   exact⟨A3'',c3'',(zR r0),(iB.pk [0,2,1] r0)⟩
  refine dG 4 10 63 (fun f w'=>∃ (A3'':aM) (c3'':Nat),Hz f [(0,.slice Abs bs.length cbs),(2,pB b1),(5,I (zE bs (Int.toNat 8))),(6,pB gA),(39,.slice A3'' (((bs.take 8).drop 4).length) c3''),(41,.slice (if cbs=2 then Abs else Abs.map (·.add (2*1))) (((bs.take 4).drop 2).length) (cbs-2))]∧SH w w' [] [.blk b1 79 iR,.blk gA 79 [I (bs.getD 1 0),I 0,ns,aA [],I 0,aA (sN bs)],(zF A3'' bs c3'')]) ?_ (fun D_7_1=>?_)
  ·rintro f rJ ⟨A3'',c3'',⟨g7,rfl⟩,iE⟩
   exact aO 6 r0 (cS iE r0 (wB _ _ (Sl.lZ (hbs.aP iE) (by omega) (by omega)) (by exact wE ‹_›) (by((simp; omega)))) (fun tL jB=>nk (m1 jB 0 r0) (tQ (fuel:=1) (is:=[7,8]) (.cons r0 (.cons r0 (.nil))) (m1 jB 0 r0) (yA r0 (bQ (v:=.agg #[I 1,.slice A3'' (((bs.take 8).drop 4).length) c3'',aA [],(xN bs)]) [(0,I 1),(1,.slice A3'' (((bs.take 8).drop 4).length) c3''),(3,I (aL ((bs.take 4).drop 2)))] r0) (yA r0 (fa 1 mW r0) (.nil (bS D_7_0 ⟨A3'',c3'',(zR r0),jB⟩)))))))
  refine dG 5 10 55 (fun f w'=>∃ (b0'':Nat),Hz f [(0,.slice Abs bs.length cbs),(2,pB b1),(5,I (zE bs (Int.toNat 8))),(6,pB gA),(36,sb b0'' (([]:aC).length) 0),(38,.slice (if cbs=4 then Abs else Abs.map (·.add (4*1))) (((bs.take 8).drop 4).length) (cbs-4)),(41,.slice (if cbs=2 then Abs else Abs.map (·.add (2*1))) (((bs.take 4).drop 2).length) (cbs-2))]∧SH w w' [] [.blk b1 79 iR,.blk gA 79 [I (bs.getD 1 0),I 0,ns,aA [],I 0,aA (sN bs)],(oZ b0'')]) ?_ (fun D_7_2=>?_)
  ·rintro f sC ⟨b0'',⟨g8,rfl⟩,gV⟩
   exact aO 3 r0 (gI (g:=I) (ys:=([]:aC)) (zs:=(bs.take 8).drop 4) gV 2 r0 aV r0 r0 r0 (Sl.lZ (hbs.aP gV) (by omega) (by omega)) (fun _=>rfl) (by unfold maxLen; ((simp; omega))) (by((simp; omega))) aH r0 (fun A3'' c3'' vK kU=>nk (m1 kU 0 r0) (bS D_7_1 ⟨A3'',c3'',(zR r0),kU⟩)))
  refine dG 6 10 54 (fun f w'=>Hz f [(0,.slice Abs bs.length cbs),(2,pB b1),(5,I (zE bs (Int.toNat 8))),(6,pB gA),(38,.slice (if cbs=4 then Abs else Abs.map (·.add (4*1))) (((bs.take 8).drop 4).length) (cbs-4)),(41,.slice (if cbs=2 then Abs else Abs.map (·.add (2*1))) (((bs.take 4).drop 2).length) (cbs-2))]∧SH w w' [] [.blk b1 79 iR,.blk gA 79 [I (bs.getD 1 0),I 0,ns,aA [],I 0,aA (sN bs)]]) ?_ (fun D_7_3=>?_)
  ·rintro f xC ⟨⟨g9,rfl⟩,kV⟩
   exact aO 0 r0 (cR kV aV [] [] aH r0 (fun b0'' vL kY=>nk (m1 kY 0 r0) (bS D_7_2 ⟨b0'',(zR r0),kY⟩)))
  have kH:=hU.drew
  exact tQ (fuel:=6) (is:=[1,2,4,5]) (.cons r0 (.cons r0 (.cons r0 (.cons r0 (.nil))))) (m1 kH 0 r0) (yA r0 (mv (v:=.slice Abs bs.length cbs) r0) (yA r0 (pK (zs:=bs) 4 8 aV r0 r0 r0 (by omega) (by omega) hbs.cap) (yA r0 (mv (v:=.slice Abs bs.length cbs) r0) (yA r0 (pK (zs:=bs) 2 4 aV r0 r0 r0 (by omega) (by omega) hbs.cap) (.nil (bS D_7_3 ⟨(zR r0),kH⟩))))))
 rintro f vM ⟨A3'',c3'',⟨EZ,rfl⟩,iU⟩
 refine nN (sq (sr (tm (cD Abs bs cbs) r0 (gN 4 aV r0 r0 hbs (by omega) (eQ I 0 (by omega)) aH r0 (fun a3 nV=>qt r0 (eW iU nV (fun _ h=>h) r0 r0 cN) (qt r0 (dO r0 r0) (tm (.bool (decide ((bs.getD 4 0)=0))) r0 (fF 49 r0 (fun h7=>?_) (fun h7=>?_)))))))))
 ·refine qh r0 (mv (v:=.slice Abs bs.length cbs) r0) (gN 5 aV r0 r0 hbs (by omega) (eQ I 0 (by omega)) ⟨_,rfl,rfl⟩ r0 (fun a4 xW=>qh r0 (eW iU xW (fun _ h=>h) r0 r0 cN) (qh r0 (dO r0 r0) (qt r0 (pt (v:=.bool (decide ((bs.getD 5 0)=0))) r0 r0) (tm (.bool (decide ((bs.getD 5 0)=0))) r0 (fF 55 r0 (fun h8=>?_) (fun h8=>?_)))))))
  ·refine qh r0 (mv (v:=.slice Abs bs.length cbs) r0) (gN 6 aV r0 r0 hbs (by omega) (eQ I 0 (by omega)) ⟨_,rfl,rfl⟩ r0 (fun a5 E3=>qh r0 (eW iU E3 (fun _ h=>h) r0 r0 cN) (qh r0 (dO r0 r0) (qt r0 (pt (v:=.bool (decide ((bs.getD 6 0)=0))) r0 r0) (nn (bI r0 (fun h9=>?_) (fun h9=>?_)))))))
   ·have hbl:=hZ (by assumption:bJ bs=true)
    have uO:=pH bs (Int.toNat 8)
    have BQ:=pH bs (Int.toNat (zE bs (Int.toNat 8)+1))
    refine sr (tm (cD Abs bs cbs) r0 (tm (I (zE bs (Int.toNat 8))) r0 (qt r0 (add r0 r0 (by((try simp only[fC,dV,bK,bH]); exact⟨by omega,by omega⟩))) (cS iU r0 (Bb _ _ _ (hbs.aP iU) (by omega)) (fun B5 mK=>tA (I (zE bs (Int.toNat ((zE bs (Int.toNat 8))+1)))) r0 (nn (sq (sr (tm (I (zE bs (Int.toNat ((zE bs (Int.toNat 8))+1)))) r0 (qt r0 (lss r0 r0) (tm (.bool (decide ((zE bs (Int.toNat ((zE bs (Int.toNat 8))+1)))<0))) r0 (fF 67 r0 (fun mR=>?_) (fun mR=>?_)))))))))))))
    ·refine aT r0 (aT r0 (aT r0 (aT r0 (qt r0 (pt (v:=.bool true) r0 r0) (nn (fX r0 (sr (qt r0 (bQ (v:=.agg #[I 0,I 0,ns,aA [],I 0,aA []]) [] r0) (sG iR mK 0 r0 hH (fun AJ lL=>tA (I 0) r0 (tA (.bool false) r0 (nn (rt (tR (tR (bO (cX lL 2 r0 r0 hH r0 (.tmp (.tmp .nil))) r0 ?_))))))))))))))))
     have mY:=lL.nl [Z0] r0
     have e5:gW bs=(0,false):=by(have t8:Int.toNat 8=8:=rfl; (try simp only[t8]at*); exact IH (by exact .inr (.inr (.inr (.inr ⟨⟨by assumption,by assumption,by assumption⟩,.inl ‹_›⟩)))))
     rw[e5]
     exact⟨none,0,0,0,([]:aC),[],0,[],rfl,(mY.pk [3] r0)⟩
    refine qh r0 (mv (v:=.slice Abs bs.length cbs) r0) (gN 7 aV r0 r0 hbs (by omega) (eQ I 0 (by omega)) ⟨_,rfl,rfl⟩ r0 (fun a6 Q9=>qh r0 (eW mK Q9 (fun _ h=>h) r0 r0 cN) (qh r0 (nK r0 r0) (qt r0 (pf (v:=.bool (decide ((bs.getD 7 0)≠1))) r0 r0) (nn (bI r0 (fun vX=>?_) (fun vX=>?_)))))))
    ·refine sr (qt r0 (bQ (v:=.agg #[I 0,I 0,ns,aA [],I 0,aA []]) [] r0) (sG iR mK 0 r0 hH (fun DS lN=>tA (I 0) r0 (tA (.bool false) r0 (nn (rt (tR (tR (bO (cX lN 2 r0 r0 hH r0 (.tmp (.tmp .nil))) r0 ?_)))))))))
     have mS:=lN.nl [Z0] r0
     have e6:gW bs=(0,false):=by(have t8:Int.toNat 8=8:=rfl; (try simp only[t8]at*); exact IH (by exact .inr (.inr (.inr (.inr ⟨⟨by assumption,by assumption,by assumption⟩,.inr ‹_›⟩)))))
     rw[e6]
     exact⟨none,0,0,0,([]:aC),[],0,[],rfl,(mS.pk [3] r0)⟩
    refine sk (nN (sq ?_))
    refine kA (fun w'=>∃ L,SH w w' [] L∧(.blk b1 79 iR)∈L∧True) (fun f w'=>∃ (b0''':Nat),Hz f [(2,pB b1),(6,pB gA),(7,I (zE bs (Int.toNat ((zE bs (Int.toNat 8))+1))))]∧SH w w' [] [.blk b1 79 iR,.blk gA 79 [I (bs.getD 1 0),I 3,(n9 b0'''),aA (vS bs),(xN bs),aA (sN bs)],(zF A3'' bs c3''),(oZ b0''')]) mixed ?_ ?_
    ·refine dG 1 13 4095 (fun f w'=>∃ (b0''':Nat),Hz f [(2,pB b1),(6,pB gA),(7,I (zE bs (Int.toNat ((zE bs (Int.toNat 8))+1)))),(84,.agg #[I 3,(n9 b0'''),aA (vS bs),(xN bs)]),(85,.pointer (some ⟨gA,1,none⟩))]∧SH w w' [] [.blk b1 79 iR,.blk gA 79 (sM bs A3'' c3''),(zF A3'' bs c3''),(oZ b0''')]) ?_ (fun D_12_0=>?_)
     ·rintro f B6 ⟨b0''',⟨HN,rfl⟩,mZ⟩
      refine aO 12 r0 (sG [I 3,(n9 b0'''),aA (vS bs),(xN bs)] mZ 1 r0 cG (fun GK m0=>nk (m1 m0 0 r0) (aQ ?_)))
      exact⟨b0''',(zR r0),(m0.pk [0,3,1,2] r0)⟩
     refine dG 4 13 511 (fun f w'=>∃ (b0''':Nat),Hz f [(2,pB b1),(6,pB gA),(7,I (zE bs (Int.toNat ((zE bs (Int.toNat 8))+1)))),(74,sb b0''' (([]:aC).length) 0),(80,aA (vS bs)),(82,.slice (if cbs=2 then Abs else Abs.map (·.add (2*1))) (((bs.take 4).drop 2).length) (cbs-2))]∧SH w w' [] [.blk b1 79 iR,.blk gA 79 (sM bs A3'' c3''),(zF A3'' bs c3''),(oZ b0''')]) ?_ (fun D_12_1=>?_)
     ·rintro f GL ⟨b0''',⟨J5,rfl⟩,oE⟩
      exact aO 9 r0 (cS oE r0 (wB _ _ (Sl.lZ (hbs.aP oE) (by omega) (by omega)) (by exact wE ‹_›) (by((simp; omega)))) (fun GM oV=>nk (m1 oV 0 r0) (tQ (fuel:=1) (is:=[10,11]) (.cons r0 (.cons r0 (.nil))) (m1 oV 0 r0) (yA r0 (bQ (v:=.agg #[I 3,(n9 b0'''),aA (vS bs),(xN bs)]) [(0,I 3),(1,sb b0''' (([]:aC).length) 0),(2,aA (vS bs)),(3,I (aL ((bs.take 4).drop 2)))] r0) (yA r0 (fa 1 mW r0) (.nil (bS D_12_0 ⟨b0''',(zR r0),oV⟩)))))))
     refine dG 4 13 1022 (fun f w'=>Hz f [(2,pB b1),(6,pB gA),(7,I (zE bs (Int.toNat ((zE bs (Int.toNat 8))+1)))),(80,aA (vS bs)),(83,I (aL ((bs.take 4).drop 2)))]∧SH w w' [] [.blk b1 79 iR,.blk gA 79 (sM bs A3'' c3''),(zF A3'' bs c3'')]) ?_ (fun D_12_2=>?_)
     ·rintro f LF ⟨⟨J6,rfl⟩,qI⟩
      exact aO 0 r0 (cR qI aV [] [] aH r0 (fun b0''' LG rV=>nk (m1 rV 0 r0) (tQ (fuel:=1) (is:=[10,11]) (.cons r0 (.cons r0 (.nil))) (m1 rV 0 r0) (yA r0 (bQ (v:=.agg #[I 3,(n9 b0'''),aA (vS bs),(xN bs)]) [(0,I 3),(1,sb b0''' (([]:aC).length) 0),(2,aA (vS bs)),(3,I (aL ((bs.take 4).drop 2)))] r0) (yA r0 (fa 1 mW r0) (.nil (bS D_12_0 ⟨b0''',(zR r0),rV⟩)))))))
     refine dG 5 13 447 (fun f w'=>∃ (b0''':Nat),Hz f [(2,pB b1),(6,pB gA),(7,I (zE bs (Int.toNat ((zE bs (Int.toNat 8))+1)))),(74,sb b0''' (([]:aC).length) 0),(79,.slice (if cbs=((zE bs (Int.toNat 8))+1).toNat then Abs else Abs.map (·.add ((((zE bs (Int.toNat 8))+1).toNat)*1))) (((bs.take ((zE bs (Int.toNat ((zE bs (Int.toNat 8))+1))).toNat)).drop (((zE bs (Int.toNat 8))+1).toNat)).length) (cbs-(((zE bs (Int.toNat 8))+1).toNat))),(82,.slice (if cbs=2 then Abs else Abs.map (·.add (2*1))) (((bs.take 4).drop 2).length) (cbs-2))]∧SH w w' [] [.blk b1 79 iR,.blk gA 79 (sM bs A3'' c3''),(zF A3'' bs c3''),(oZ b0''')]) ?_ (fun D_12_3=>?_)
     ·rintro f LH ⟨b0''',⟨M8,rfl⟩,vD⟩
      exact aO 6 r0 (cS vD r0 (yF _ _ (Sl.lZ (hbs.aP vD) (by((try simp only[fC,dV,bK,bH]); omega)) (by((try simp only[fC,dV,bK,bH]); omega))) (by exact wE ‹_›) (by((try simp only[fC,dV,bK,bH]); omega))) (fun LI pO=>nk (m1 pO 0 r0) (bS D_12_1 ⟨b0''',(zR r0),pO⟩)))
     refine dG 5 13 510 (fun f w'=>Hz f [(2,pB b1),(6,pB gA),(7,I (zE bs (Int.toNat ((zE bs (Int.toNat 8))+1)))),(80,aA (vS bs)),(82,.slice (if cbs=2 then Abs else Abs.map (·.add (2*1))) (((bs.take 4).drop 2).length) (cbs-2))]∧SH w w' [] [.blk b1 79 iR,.blk gA 79 (sM bs A3'' c3''),(zF A3'' bs c3'')]) ?_ (fun D_12_4=>?_)
     ·rintro f P1 ⟨⟨g15,rfl⟩,pW⟩
      refine jN [0,9] (eX ?_ (jP ?_))
      ·exact eI r0 (cR pW aV [] [] aH r0 (fun b0''' T3 pX=>nk (m1 pX 0 r0) (bS D_12_1 ⟨b0''',(zR r0),pX⟩)))
      exact eI r0 (cS pW r0 (wB _ _ (Sl.lZ (hbs.aP pW) (by omega) (by omega)) (by exact wE ‹_›) (by((simp; omega)))) (fun T5 uD=>nk (m1 uD 0 r0) (bS D_12_2 ⟨(zR r0),uD⟩)))
     refine dG 6 13 446 (fun f w'=>Hz f [(2,pB b1),(6,pB gA),(7,I (zE bs (Int.toNat ((zE bs (Int.toNat 8))+1)))),(79,.slice (if cbs=((zE bs (Int.toNat 8))+1).toNat then Abs else Abs.map (·.add ((((zE bs (Int.toNat 8))+1).toNat)*1))) (((bs.take ((zE bs (Int.toNat ((zE bs (Int.toNat 8))+1))).toNat)).drop (((zE bs (Int.toNat 8))+1).toNat)).length) (cbs-(((zE bs (Int.toNat 8))+1).toNat))),(82,.slice (if cbs=2 then Abs else Abs.map (·.add (2*1))) (((bs.take 4).drop 2).length) (cbs-2))]∧SH w w' [] [.blk b1 79 iR,.blk gA 79 (sM bs A3'' c3''),(zF A3'' bs c3'')]) ?_ (fun D_12_5=>?_)
     ·rintro f T6 ⟨⟨g16,rfl⟩,rW⟩
      refine jN [0,6] (eX ?_ (jP ?_))
      ·exact eI r0 (cR rW aV [] [] aH r0 (fun b0''' T7 vZ=>nk (m1 vZ 0 r0) (bS D_12_3 ⟨b0''',(zR r0),vZ⟩)))
      exact eI r0 (cS rW r0 (yF _ _ (Sl.lZ (hbs.aP rW) (by((try simp only[fC,dV,bK,bH]); omega)) (by((try simp only[fC,dV,bK,bH]); omega))) (by exact wE ‹_›) (by((try simp only[fC,dV,bK,bH]); omega))) (fun Dw BL=>nk (m1 BL 0 r0) (bS D_12_4 ⟨(zR r0),BL⟩)))
     have zX:=mK.drew
     exact tQ (fuel:=6) (is:=[1,2,3,4,5,7,8]) (.cons r0 (.cons r0 (.cons r0 (.cons r0 (.cons r0 (.cons r0 (.cons r0 (.nil)))))))) (m1 zX 0 r0) (yA r0 (mv (v:=.slice Abs bs.length cbs) r0) (yA r0 (mv (v:=I (zE bs (Int.toNat 8))) r0) (yA r0 (add r0 r0 (by((try simp only[fC,dV,bK,bH]); exact⟨by omega,by omega⟩))) (yA r0 (mv (v:=I (zE bs (Int.toNat ((zE bs (Int.toNat 8))+1)))) r0) (yA r0 (pK (zs:=bs) (((zE bs (Int.toNat 8))+1).toNat) ((zE bs (Int.toNat ((zE bs (Int.toNat 8))+1))).toNat) aV r0 (jK (x:=(zE bs (Int.toNat 8))+1) (by omega)) (jK (x:=zE bs (Int.toNat ((zE bs (Int.toNat 8))+1))) (by omega)) (by((try simp only[fC,dV,bK,bH]); omega)) (by((try simp only[fC,dV,bK,bH]); omega)) hbs.cap) (yA r0 (mv (v:=.slice Abs bs.length cbs) r0) (yA r0 (pK (zs:=bs) 2 4 aV r0 r0 r0 (by omega) (by omega) hbs.cap) (.nil (bS D_12_5 ⟨(zR r0),zX⟩)))))))))
    rintro f Dx ⟨b0''',⟨g17,rfl⟩,BM⟩
    refine nN (rg (tm (I (zE bs (Int.toNat ((zE bs (Int.toNat 8))+1)))) r0 (tA (I (zE bs (Int.toNat ((zE bs (Int.toNat 8))+1)))) r0 (nn (sq (sq (rg (qt r0 (lG [I (bs.getD 1 0),I 3,(n9 b0'''),aA (vS bs),(xN bs),aA (sN bs)] BM 1 r0 hH) (cS BM r0 (K0 (c:=bs.getD 1 0) (ak:=3) (Aaq:=(Z7 b0''')) (caq:=0) (aq:=([]:aC)) (an:=bT ((bs.take ((zE bs (Int.toNat ((zE bs (Int.toNat 8))+1))).toNat)).drop (((zE bs (Int.toNat 8))+1).toNat))) (apt:=aL ((bs.take 4).drop 2)) (us:=bT ((bs.take ((zE bs (Int.toNat 8)).toNat)).drop 8)) (w:=_) (haq:=(BM.cI 3 r0)) (han_n:=(by((try simp only[fC,dV,bK,bH]); (simp; omega)))) (hus_n:=(by((try simp only[fC,dV,bK,bH]); (simp; omega))))) (fun Dy zY=>qt r0 (nt r0) (nn (cd r0 (fun zU=>?_) (fun zU=>?_)))))))))))))
    ·have BC:=dX zU
     refine sr (qt r0 (bQ (v:=.agg #[I 0,I 0,ns,aA [],I 0,aA []]) [] r0) (sG iR zY 0 r0 hH (fun Dz FA=>tA (I 0) r0 (tA (.bool false) r0 (nn ?_)))))
     have C2:=FA.pq [3] r0
     refine rt (tR (bO (cX C2 0 r0 r0 hH r0 (.tmp (.tmp .nil))) r0 ?_))
     have HY:=C2.nl [Z0] r0
     have e7:gW bs=(0,false):=by(have t8:Int.toNat 8=8:=rfl; (try simp only[t8]at*); exact Y9 (b:=bs) (f:=false) ‹_› (by omega) (by omega) (by omega) ⟨by assumption,by assumption,by assumption⟩ (by omega) (by omega) ‹_›)
     rw[e7]
     exact⟨none,0,0,0,([]:aC),[],0,[],rfl,(HY.pk [1] r0)⟩
    have Q3:=dY zU
    refine sk (nN (sr (qt r0 (lG [I (bs.getD 1 0),I 3,(n9 b0'''),aA (vS bs),(xN bs),aA (sN bs)] zY 1 r0 hH) (tm (I (zE bs (Int.toNat ((zE bs (Int.toNat 8))+1)))) r0 (qt r0 (add r0 r0 (by((try simp only[fC,dV,bK,bH]); exact⟨by omega,by omega⟩))) (sG [I (bs.getD 1 0),I 3,(n9 b0'''),aA (vS bs),(xN bs),aA (sN bs)] zY 0 r0 hH (fun Ea FB=>tA (I ((zE bs (Int.toNat ((zE bs (Int.toNat 8))+1)))+1)) r0 (tA (.bool true) r0 (nn ?_)))))))))
    have BN:=FB.pq [2,3] r0
    refine rt (bO (cX BN 1 r0 r0 hH r0 (.tmp (.tmp .nil))) r0 ?_)
    have e8:gW bs=((zE bs (Int.toNat ((zE bs (Int.toNat 8))+1)))+1,true):=by(have t8:Int.toNat 8=8:=rfl; (try simp only[t8]at*); exact Y9 (b:=bs) (f:=true) ‹_› (by omega) (by omega) (by omega) ⟨by assumption,by assumption,by assumption⟩ (by omega) (by omega) ‹_›)
    rw[e8]
    exact⟨(Z7 b0'''),0,bs.getD 1 0,3,([]:aC),bT ((bs.take ((zE bs (Int.toNat ((zE bs (Int.toNat 8))+1))).toNat)).drop (((zE bs (Int.toNat 8))+1).toNat)),aL ((bs.take 4).drop 2),bT ((bs.take ((zE bs (Int.toNat 8)).toNat)).drop 8),rfl,(BN.pk [0] r0)⟩
   refine sk (nN (sq (sr (qt r0 (lG (sM bs A3'' c3'') iU 1 r0 hH) (cS iU r0 (K0 _ 1 _ [] _ _ _ (iU.cI 2 r0) (by((simp; done))) (by(have hbl:=hZ (by assumption:bJ bs=true); have uO:=pH bs (Int.toNat 8); have BQ:=pH bs (Int.toNat (zE bs (Int.toNat 8)+1)); (try simp only[fC,dV,bK,bH]); (simp; omega)))) (fun w48 BO=>qt r0 (nt r0) (nn (cd r0 (fun HO=>?_) (fun HO=>?_)))))))))
   ·have HP:=dX HO
    refine sr (qt r0 (bQ (v:=.agg #[I 0,I 0,ns,aA [],I 0,aA []]) [] r0) (sG iR BO 0 r0 hH (fun w49 C3=>tA (I 0) r0 (tA (.bool false) r0 (nn (rt (tR (bO (cX C3 2 r0 r0 hH r0 (.tmp (.tmp .nil))) r0 ?_))))))))
    have NK:=C3.nl [Z0] r0
    have e9:gW bs=(0,false):=by(have t8:Int.toNat 8=8:=rfl; (try simp only[t8]at*); exact IG (b:=bs) (f:=false) ‹_› (by omega) (by omega) (by omega) (fun hh=>by exact absurd hh.2.2 ‹_›) ‹_›)
    rw[e9]
    exact⟨none,0,0,0,([]:aC),[],0,[],rfl,(NK.pk [3] r0)⟩
   have h17:=dY HO
   refine sk (nN (sr (qt r0 (lG (sM bs A3'' c3'') BO 1 r0 hH) (tm (I (zE bs (Int.toNat 8))) r0 (qt r0 (add r0 r0 (by(have hbl:=hZ (by assumption:bJ bs=true); have uO:=pH bs (Int.toNat 8); have BQ:=pH bs (Int.toNat (zE bs (Int.toNat 8)+1)); (try simp only[fC,dV,bK,bH]); exact⟨by omega,by omega⟩))) (sG (sM bs A3'' c3'') BO 0 r0 hH (fun w50 NL=>tA (I ((zE bs (Int.toNat 8))+1)) r0 (tA (.bool true) r0 (nn (rt (bO (cX NL 2 r0 r0 hH r0 (.tmp (.tmp .nil))) r0 ?_)))))))))))
   have lP:gW bs=((zE bs (Int.toNat 8))+1,true):=by(have t8:Int.toNat 8=8:=rfl; (try simp only[t8]at*); exact IG (b:=bs) (f:=true) ‹_› (by omega) (by omega) (by omega) (fun hh=>by exact absurd hh.2.2 ‹_›) ‹_›)
   rw[lP]
   exact⟨A3'',c3'',bs.getD 1 0,1,(bs.take 8).drop 4,[],aL ((bs.take 4).drop 2),bT ((bs.take ((zE bs (Int.toNat 8)).toNat)).drop 8),rfl,(NL.pk [1] r0)⟩
  refine bA r0 (bA r0 (bA r0 (bA r0 (qt r0 (pf (v:=.bool false) r0 r0) (nn (qV r0 (sk (nN (sq (sr (qt r0 (lG (sM bs A3'' c3'') iU 1 r0 hH) (cS iU r0 (K0 _ 1 _ [] _ _ _ (iU.cI 2 r0) (by((simp; done))) (by(have hbl:=hZ (by assumption:bJ bs=true); have uO:=pH bs (Int.toNat 8); have BQ:=pH bs (Int.toNat (zE bs (Int.toNat 8)+1)); (try simp only[fC,dV,bK,bH]); (simp; omega)))) (fun w51 C4=>qt r0 (nt r0) (nn (cd r0 (fun Q4=>?_) (fun Q4=>?_))))))))))))))))
  ·have h19:=dX Q4
   refine sr (qt r0 (bQ (v:=.agg #[I 0,I 0,ns,aA [],I 0,aA []]) [] r0) (sG iR C4 0 r0 hH (fun w52 KE=>tA (I 0) r0 (tA (.bool false) r0 (nn (rt (tR (bO (cX KE 2 r0 r0 hH r0 (.tmp (.tmp .nil))) r0 ?_))))))))
   have RN:=KE.nl [Z0] r0
   have mB:gW bs=(0,false):=by(have t8:Int.toNat 8=8:=rfl; (try simp only[t8]at*); exact IG (b:=bs) (f:=false) ‹_› (by omega) (by omega) (by omega) (fun hh=>by exact absurd hh.2.1 ‹_›) ‹_›)
   rw[mB]
   exact⟨none,0,0,0,([]:aC),[],0,[],rfl,(RN.pk [3] r0)⟩
  have h20:=dY Q4
  refine sk (nN (sr (qt r0 (lG (sM bs A3'' c3'') C4 1 r0 hH) (tm (I (zE bs (Int.toNat 8))) r0 (qt r0 (add r0 r0 (by(have hbl:=hZ (by assumption:bJ bs=true); have uO:=pH bs (Int.toNat 8); have BQ:=pH bs (Int.toNat (zE bs (Int.toNat 8)+1)); (try simp only[fC,dV,bK,bH]); exact⟨by omega,by omega⟩))) (sG (sM bs A3'' c3'') C4 0 r0 hH (fun w53 KF=>tA (I ((zE bs (Int.toNat 8))+1)) r0 (tA (.bool true) r0 (nn (rt (bO (cX KF 2 r0 r0 hH r0 (.tmp (.tmp .nil))) r0 ?_)))))))))))
  have nU:gW bs=((zE bs (Int.toNat 8))+1,true):=by(have t8:Int.toNat 8=8:=rfl; (try simp only[t8]at*); exact IG (b:=bs) (f:=true) ‹_› (by omega) (by omega) (by omega) (fun hh=>by exact absurd hh.2.1 ‹_›) ‹_›)
  rw[nU]
  exact⟨A3'',c3'',bs.getD 1 0,1,(bs.take 8).drop 4,[],aL ((bs.take 4).drop 2),bT ((bs.take ((zE bs (Int.toNat 8)).toNat)).drop 8),rfl,(KF.pk [1] r0)⟩
 refine bA r0 (bA r0 (bA r0 (bA r0 (qt r0 (pf (v:=.bool false) r0 r0) (tm (.bool false) r0 (bA r0 (bA r0 (bA r0 (bA r0 (qt r0 (pf (v:=.bool false) r0 r0) (nn (qV r0 (sk (nN (sq (sr (qt r0 (lG (sM bs A3'' c3'') iU 1 r0 hH) (cS iU r0 (K0 _ 1 _ [] _ _ _ (iU.cI 2 r0) (by((simp; done))) (by(have hbl:=hZ (by assumption:bJ bs=true); have uO:=pH bs (Int.toNat 8); have BQ:=pH bs (Int.toNat (zE bs (Int.toNat 8)+1)); (try simp only[fC,dV,bK,bH]); (simp; omega)))) (fun w54 KG=>qt r0 (nt r0) (nn (cd r0 (fun Q5=>?_) (fun Q5=>?_))))))))))))))))))))))
 ·have h22:=dX Q5
  refine sr (qt r0 (bQ (v:=.agg #[I 0,I 0,ns,aA [],I 0,aA []]) [] r0) (sG iR KG 0 r0 hH (fun w55 NM=>tA (I 0) r0 (tA (.bool false) r0 (nn (rt (tR (bO (cX NM 2 r0 r0 hH r0 (.tmp (.tmp .nil))) r0 ?_))))))))
  have Ky:=NM.nl [Z0] r0
  have pU:gW bs=(0,false):=by(have t8:Int.toNat 8=8:=rfl; (try simp only[t8]at*); exact IG (b:=bs) (f:=false) ‹_› (by omega) (by omega) (by omega) (fun hh=>by exact absurd hh.1 ‹_›) ‹_›)
  rw[pU]
  exact⟨none,0,0,0,([]:aC),[],0,[],rfl,(Ky.pk [3] r0)⟩
 have h23:=dY Q5
 refine sk (nN (sr (qt r0 (lG (sM bs A3'' c3'') KG 1 r0 hH) (tm (I (zE bs (Int.toNat 8))) r0 (qt r0 (add r0 r0 (by(have hbl:=hZ (by assumption:bJ bs=true); have uO:=pH bs (Int.toNat 8); have BQ:=pH bs (Int.toNat (zE bs (Int.toNat 8)+1)); (try simp only[fC,dV,bK,bH]); exact⟨by omega,by omega⟩))) (sG (sM bs A3'' c3'') KG 0 r0 hH (fun w56 WY=>tA (I ((zE bs (Int.toNat 8))+1)) r0 (tA (.bool true) r0 (nn (rt (bO (cX WY 2 r0 r0 hH r0 (.tmp (.tmp .nil))) r0 ?_)))))))))))
 have qW:gW bs=((zE bs (Int.toNat 8))+1,true):=by(have t8:Int.toNat 8=8:=rfl; (try simp only[t8]at*); exact IG (b:=bs) (f:=true) ‹_› (by omega) (by omega) (by omega) (fun hh=>by exact absurd hh.1 ‹_›) ‹_›)
 rw[qW]
 exact⟨A3'',c3'',bs.getD 1 0,1,(bs.take 8).drop 4,[],aL ((bs.take 4).drop 2),bT ((bs.take ((zE bs (Int.toNat 8)).toNat)).drop 8),rfl,(WY.pk [1] r0)⟩
theorem Sp (s:aD) (w:World) (hs_n:s.length≤2147483648):bF prog 140 [aA s] w (fun v w'=>∃ Aqr:aM,∃ cqr:Nat,∃ ak:Int,∃ aq:aC,∃ an:aD,∃ apt:Int,v=.tuple #[.agg #[.int .i64 ak,.slice Aqr aq.length cqr,aA an,.int .i64 apt],.int .i64 ((jO s).1),.bool ((jO s).2)]∧SH w w' [] [.own Aqr aq.length cqr 3 1 (aq.map I)]):=by
 refine fQ 31 func140 r0 r0 ?_
 have aK:=SH.refl w []
 refine sr (al (cs:=eA) aK kZ r0 aH r0 (fun b1 w1 aE=>tA (I 0) r0 (tA (.bool false) r0 (nn (sq (sr (tm (aA s) r0 (cS aE r0 (Ax _ [67,79,78,78,69,67,84,32] _ (by omega) (by((simp; done)))) (fun w2 aI=>qt r0 (nt r0) (nn (cd r0 (fun h1=>?_) (fun h1=>?_))))))))))))
 ·have h2:=dX h1
  refine sr (qt r0 (bQ (v:=.agg #[I 0,ns,aA [],I 0]) [] r0) (sG eA aI 0 r0 cG (fun w3 aN=>tA (I 0) r0 (tA (.bool false) r0 (nn (rt (tR (bO (cX aN 0 r0 r0 cG r0 (.tmp (.tmp .nil))) r0 ?_))))))))
  have aR:=aN.nl [Z0] r0
  have e1:jO s=(0,false):=by(have t8:Int.toNat 8=8:=rfl; (try simp only[t8]at*); exact QN (.inl (yT ‹_›)))
  rw[e1]
  exact⟨none,0,0,([]:aC),[],0,rfl,(aR.pk [1] r0)⟩
 have h3:=dY h1
 refine sk (nN (sr (tm (aA s) r0 (cS aI r0 (Su _ 8 _ (by omega) (by omega)) (fun w4 aZ=>?_)))))
 have hwl:=Yv s (Int.toNat 8)
 have hnl:=EE (gO s (Int.toNat 8))
 have hcl:=QM (aG (gO s (Int.toNat 8))).1.1 (aG (gO s (Int.toNat 8))).1.2.1 (aG (gO s (Int.toNat 8))).1.2.2.1 (aG (gO s (Int.toNat 8))).1.2.2.2
 refine dP aZ r0 (TC _ _ (by omega)) (fun eF eG w5 bG=>tm (.tuple #[.agg #[I ((aG (gO s (Int.toNat 8))).1.1),.slice eF (((aG (gO s (Int.toNat 8))).1.2.1).length) eG,aA ((aG (gO s (Int.toNat 8))).1.2.2.1),I ((aG (gO s (Int.toNat 8))).1.2.2.2)],.bool ((aG (gO s (Int.toNat 8))).2)]) r0 (qt r0 (xt 0 r0 r0) (qt r0 (xt 1 r0 r0) (al (cs:=eA) bG kZ r0 aH r0 (fun b2 w6 bU=>sG (yZ s eF eG) bU 2 r0 cG (fun w7 bV=>tA (.bool ((aG (gO s (Int.toNat 8))).2)) r0 (nn (sq (sr (tm (.bool ((aG (gO s (Int.toNat 8))).2)) r0 (qt r0 (nt r0) (tm (.bool (!((aG (gO s (Int.toNat 8))).2))) r0 (hP 19 r0 (fun h4=>?_) (fun h4=>?_))))))))))))))
 ·have h5:=dX h4
  refine aT r0 (aT r0 (aT r0 (aT r0 (aT r0 (qt r0 (pt (v:=.bool true) r0 r0) (nn (fX r0 (sr (qt r0 (bQ (v:=.agg #[I 0,ns,aA [],I 0]) [] r0) (sG eA bV 0 r0 cG (fun w8 b9=>tA (I 0) r0 (tA (.bool false) r0 (nn (rt (tR (bO (cX b9 2 r0 r0 cG r0 (.tmp (.tmp .nil))) r0 ?_))))))))))))))))
  have cM:=b9.nl [Z0] r0
  have e2:jO s=(0,false):=by(have t8:Int.toNat 8=8:=rfl; (try simp only[t8]at*); exact QN (.inr (.inl ‹_›)))
  rw[e2]
  exact⟨none,0,0,([]:aC),[],0,rfl,(cM.pk [3] r0)⟩
 have h6:=dY h4
 refine qh r0 (mv (v:=aA s) r0) (qh r0 (lG (yZ s eF eG) bV 2 r0 cG) (cl ⟨_,rfl,rfl⟩ r0 (Ao _ _ _ _ _ (bV.cI 1 r0) (by omega)) ?_))
 rintro _ w9 ⟨rfl,cW⟩
 replace cW:=bV.cJ cW
 refine cl ⟨_,rfl,rfl⟩ r0 (Ax _ _ _ (by omega) (by omega)) ?_
 rintro _ kF ⟨rfl,dB⟩
 replace dB:=cW.cJ dB
 refine qh r0 (nt r0) (qt r0 (pf (v:=.bool (!(decide (iX s (JI s))))) r0 r0) (nn (cd r0 (fun h7=>?_) (fun h7=>?_))))
 ·have h8:=dX h7
  refine sr (qt r0 (bQ (v:=.agg #[I 0,ns,aA [],I 0]) [] r0) (sG eA dB 0 r0 cG (fun kB cY=>tA (I 0) r0 (tA (.bool false) r0 (nn (rt (tR (bO (cX cY 2 r0 r0 cG r0 (.tmp (.tmp .nil))) r0 ?_))))))))
  have dJ:=cY.nl [Z0] r0
  have e3:jO s=(0,false):=by(have t8:Int.toNat 8=8:=rfl; (try simp only[t8]at*); exact QN (.inr (.inr (yT ‹_›))))
  rw[e3]
  exact⟨none,0,0,([]:aC),[],0,rfl,(dJ.pk [3] r0)⟩
 have h9:=dY h7
 refine sk (nN (sq ?_))
 refine kA (fun w'=>∃ L,SH w w' [] L∧(.blk b2 74 (yZ s eF eG))∈L∧True) (fun f w'=>Hz f [(2,pB b1),(3,I (((JI s).length:Nat):Int)),(4,.bool true)]∧SH w w' [] [.blk b1 74 (yZ s eF eG),(P9 eF s eG),.blk b2 74 (yZ s eF eG)]) mixed ?_ ?_
 ·refine dG 3 7 15 (fun f w'=>Hz f [(2,pB b1),(3,I 0),(4,.bool false),(27,.agg #[I ((aG (gO s (Int.toNat 8))).1.1),.slice eF (((aG (gO s (Int.toNat 8))).1.2.1).length) eG,aA ((aG (gO s (Int.toNat 8))).1.2.2.1),I ((aG (gO s (Int.toNat 8))).1.2.2.2)]),(30,I (((JI s).length:Nat):Int))]∧SH w w' [] [.blk b1 74 eA,(P9 eF s eG),.blk b2 74 (yZ s eF eG)]) ?_ (fun D_6_0=>?_)
  ·rintro f kI ⟨⟨g1,rfl⟩,dM⟩
   refine aO 4 r0 (sG (yZ s eF eG) dM 0 r0 cG (fun lU eO=>nk (m1 eO 1 r0) (tQ (fuel:=0) (is:=[5,6]) (.cons r0 (.cons r0 (.nil))) (m1 eO 1 r0) (yA r0 (fW (v:=I (((JI s).length:Nat):Int)) r0) (yA r0 (fW (v:=.bool true) r0) (.nil (aQ ?_)))))))
   exact⟨(zR r0),(eO.pk [2,0,1] r0)⟩
  refine dG 5 7 3 (fun f w'=>Hz f [(2,pB b1),(3,I 0),(4,.bool false),(27,.agg #[I ((aG (gO s (Int.toNat 8))).1.1),.slice eF (((aG (gO s (Int.toNat 8))).1.2.1).length) eG,aA ((aG (gO s (Int.toNat 8))).1.2.2.1),I ((aG (gO s (Int.toNat 8))).1.2.2.2)]),(28,.agg #[I ((aG (gO s (Int.toNat 8))).1.1),.slice eF (((aG (gO s (Int.toNat 8))).1.2.1).length) eG,aA ((aG (gO s (Int.toNat 8))).1.2.2.1),I ((aG (gO s (Int.toNat 8))).1.2.2.2)])]∧SH w w' [] [.blk b1 74 eA,(P9 eF s eG),.blk b2 74 (yZ s eF eG)]) ?_ (fun D_6_1=>?_)
  ·rintro f mH ⟨⟨g2,rfl⟩,eK⟩
   exact aO 2 r0 (cS eK r0 (Ao _ _ _ _ _ (eK.cI 1 r0) (by omega)) (fun mI eZ=>nk (m1 eZ 2 r0) (tQ (fuel:=3) (is:=[3]) (.cons r0 (.nil)) (m1 eZ 2 r0) (yA r0 (gG dI r0) (.nil (bS D_6_0 ⟨(zR r0),eZ⟩))))))
  have fV:=dB.drew
  exact tQ (fuel:=5) (is:=[0,1]) (.cons r0 (.cons r0 (.nil))) (m1 fV 2 r0) (yB r0 (fun ⟨Lq,aU,dH,_⟩=>rD (vs:=(yZ s eF eG)) aU dH r0 r0 r0 cG) (yB r0 (fun ⟨Lq,aU,dH,_⟩=>rD (vs:=(yZ s eF eG)) aU dH r0 r0 r0 cG) (.nil (bS D_6_1 ⟨(zR r0),fV⟩))))
 rintro f mU ⟨⟨g3,rfl⟩,fD⟩
 refine nN (rt (bO (cX fD 0 r0 r0 cG r0 (.tmp (.tmp .nil))) r0 ?_))
 have e4:jO s=((((JI s).length:Nat):Int),true):=by(have t8:Int.toNat 8=8:=rfl; (try simp only[t8]at*); exact Gv (pI ‹_›) ‹_› (pI ‹_›))
 rw[e4]
 exact⟨eF,eG,(aG (gO s (Int.toNat 8))).1.1,(aG (gO s (Int.toNat 8))).1.2.1,(aG (gO s (Int.toNat 8))).1.2.2.1,(aG (gO s (Int.toNat 8))).1.2.2.2,rfl,(fD.pk [1] r0)⟩
theorem Tj (s:aD) (w:World) (hs_n:s.length≤2147483648):bF prog 142 [aA s] w (fun v w'=>∃ Aqar:aM,∃ cqar:Nat,∃ Aqbr:aM,∃ cqbr:Nat,∃ ka:Int,∃ qa:aC,∃ na:aD,∃ pa:Int,∃ kb:Int,∃ qb:aC,∃ nb:aD,∃ pb:Int,v=.tuple #[.agg #[.int .i64 ka,.slice Aqar qa.length cqar,aA na,.int .i64 pa,.int .i64 kb,.slice Aqbr qb.length cqbr,aA nb,.int .i64 pb],.int .i64 ((iO s).1),.bool ((iO s).2)]∧SH w w' [] [.own Aqar qa.length cqar 3 1 (qa.map I),.own Aqbr qb.length cqbr 3 1 (qb.map I)]):=by
 refine fQ 48 func142 r0 r0 ?_
 have aK:=SH.refl w []
 refine sr (al (cs:=Z5) aK tK r0 aH r0 (fun b1 w1 aE=>tA (I 0) r0 (tA (.bool false) r0 (nx (tm (aA s) r0 (cS aE r0 (Sv _ _ (by omega)) (fun w2 aI=>tA (I (bM s)) r0 (nn (sq (sr (tm (I (bM s)) r0 (qt r0 (lss r0 r0) (nn (bI r0 (fun h1=>?_) (fun h1=>?_)))))))))))))))
 ·refine sr (qt r0 (bQ (v:=.agg #[I 0,ns,aA [],I 0,I 0,ns,aA [],I 0]) [] r0) (sG Z5 aI 0 r0 iA (fun w3 aN=>tA (I 0) r0 (tA (.bool false) r0 (nn (rt (tR (bO (cX aN 0 r0 r0 iA r0 (.tmp (.tmp .nil))) r0 ?_))))))))
  have aR:=aN.nl [Z0] r0
  have aZ:=aR.nl [Z0] r0
  have e1:iO s=(0,false):=by(have hel:=CO s; exact SG (.inl ‹_›))
  rw[e1]
  exact⟨none,0,none,0,0,([]:aC),[],0,0,([]:aC),[],0,rfl,(aZ.pk [1,2] r0)⟩
 have hlf:=Ot s
 have w2:=hlf.2.1 2
 have w3:=hlf.2.1 3
 have w4:=hlf.2.1 4
 have w5:=hlf.2.1 5
 refine sk (nN (sr (tm (aA s) r0 (tm (I (bM s)) r0 (qt r0 (sub r0 r0 (by(exact⟨by omega,by omega⟩))) (qt r0 (xU (l:=s) (((bM s)-2).toNat) dI r0 (jK (x:=(bM s)-2) (by omega)) (by omega)) (dP aI r0 (H8 _ (32:UInt8) _ (by((simp; omega)))) (fun A1 c1 w4 bG=>tA (.slice A1 ((aB (32:UInt8) (s.take (((bM s)-2).toNat))).length) c1) r0 (nn (sq (sr (tm (.slice A1 ((aB (32:UInt8) (s.take (((bM s)-2).toNat))).length) c1) r0 (qt r0 (dK fZ r0) (qt r0 (nK r0 r0) (nn (bI r0 (fun h2=>?_) (fun h2=>?_)))))))))))))))))
 ·refine sr (qt r0 (bQ (v:=.agg #[I 0,ns,aA [],I 0,I 0,ns,aA [],I 0]) [] r0) (sG Z5 bG 0 r0 iA (fun w5 bU=>tA (I 0) r0 (tA (.bool false) r0 (nn (rt (tR (bO (cX bU 1 r0 r0 iA r0 (.tmp (.tmp .nil))) r0 ?_))))))))
  have bV:=bU.nl [Z0] r0
  have b9:=bV.nl [Z0] r0
  have e2:iO s=(0,false):=by(have hel:=CO s; exact Oj (by omega) ‹_›)
  rw[e2]
  exact⟨none,0,none,0,0,([]:aC),[],0,0,([]:aC),[],0,rfl,(b9.pk [2,3] r0)⟩
 refine sk (nN (sq ?_))
 obtain ⟨b2,rfl⟩:=sA bG 1 r0 (by omega)
 refine kA (fun w'=>∃ L,SH w w' [] L∧(.blk b1 135 Z5)∈L∧(.own (Z7 b2) ((aB (32:UInt8) (s.take (((bM s)-2).toNat))).length) c1 9 1 ((aB (32:UInt8) (s.take (((bM s)-2).toNat))).map aA))∈L∧True) (fun f w'=>∃ (kM:Nat) (fR:aM) (fU:Nat) (mN:aM) (mQ:Nat),Hz f [(0,aA s),(2,pB b1),(5,I (bM s)),(7,pB kM)]∧SH w w' [] [.blk b1 135 Z5,.own (Z7 b2) ((aB (32:UInt8) (s.take (((bM s)-2).toNat))).length) c1 9 1 ((aB (32:UInt8) (s.take (((bM s)-2).toNat))).map aA),(LY mN s mQ),.blk kM 135 (Z1 s fR fU mN mQ),(CD fR s fU)]) mixed ?_ ?_
 ·refine dG 1 19 262143 (fun f w'=>∃ (kM:Nat) (fR:aM) (fU:Nat) (mN:aM) (mQ:Nat),Hz f [(0,aA s),(2,pB b1),(5,I (bM s)),(7,pB kM),(38,.agg #[(zC s),(y0 fR s fU),(zA s),(zB s),(HA s),(G7 mN s mQ),(G8 s),(G9 s)])]∧SH w w' [] [.blk b1 135 Z5,.own (Z7 b2) ((aB (32:UInt8) (s.take (((bM s)-2).toNat))).length) c1 9 1 ((aB (32:UInt8) (s.take (((bM s)-2).toNat))).map aA),(LY mN s mQ),.blk kM 135 Z5,(CD fR s fU)]) ?_ (fun D_7_0=>?_)
  ·rintro f w6 ⟨kM,fR,fU,mN,mQ,⟨g1,rfl⟩,cM⟩
   refine aO 18 r0 (sG (Z1 s fR fU mN mQ) cM 3 r0 iA (fun w7 cW=>?_))
   refine nk ⟨_,cW,cC 0 r0,cC 1 r0,aH⟩ (aQ ?_)
   exact⟨kM,fR,fU,mN,mQ,(zR r0),(cW.pk [0,1,2,4,3] r0)⟩
  refine dG 2 19 131071 (fun f w'=>∃ (fR:aM) (fU:Nat) (mN:aM) (mQ:Nat),Hz f [(0,aA s),(2,pB b1),(5,I (bM s)),(38,.agg #[(zC s),(y0 fR s fU),(zA s),(zB s),(HA s),(G7 mN s mQ),(G8 s),(G9 s)])]∧SH w w' [] [.blk b1 135 Z5,.own (Z7 b2) ((aB (32:UInt8) (s.take (((bM s)-2).toNat))).length) c1 9 1 ((aB (32:UInt8) (s.take (((bM s)-2).toNat))).map aA),(LY mN s mQ),(CD fR s fU)]) ?_ (fun D_7_1=>?_)
  ·rintro f w8 ⟨fR,fU,mN,mQ,⟨g2,rfl⟩,dB⟩
   exact aO 17 r0 (al (cs:=Z5) dB tK r0 aH r0 (fun kM w9 cY=>nk ⟨_,cY,cC 0 r0,cC 1 r0,aH⟩ (bS D_7_0 ⟨kM,fR,fU,mN,mQ,(zR r0),(cY.pk [0,1,2,4,3] r0)⟩)))
  refine dG 3 19 163839 (fun f w'=>∃ (kM:Nat) (fR:aM) (fU:Nat),Hz f [(0,aA s),(2,pB b1),(5,I (bM s)),(7,pB kM),(29,.agg #[(zC s),(y0 fR s fU),(zA s),(zB s)]),(32,aA ((aB (32:UInt8) (s.take (((bM s)-2).toNat))).getD 3 [])),(36,I (cZ ((aB (32:UInt8) (s.take (((bM s)-2).toNat))).getD 5 [])))]∧SH w w' [] [.blk b1 135 Z5,.own (Z7 b2) ((aB (32:UInt8) (s.take (((bM s)-2).toNat))).length) c1 9 1 ((aB (32:UInt8) (s.take (((bM s)-2).toNat))).map aA),.blk kM 135 Z5,(CD fR s fU)]) ?_ (fun D_7_2=>?_)
  ·rintro f kF ⟨kM,fR,fU,⟨g3,rfl⟩,dJ⟩
   refine aO 15 r0 (dP dJ r0 (IP ((aB (32:UInt8) (s.take (((bM s)-2).toNat))).getD 3 []) (cZ ((aB (32:UInt8) (s.take (((bM s)-2).toNat))).getD 5 [])) _ (by omega)) (fun mN mQ kB dM=>nk ⟨_,dM,cC 0 r0,cC 1 r0,aH⟩ (tQ (fuel:=1) (is:=[16]) (.cons r0 (.nil)) ⟨_,dM,cC 0 r0,cC 1 r0,aH⟩ (yA r0 (bQ (v:=.agg #[(zC s),(y0 fR s fU),(zA s),(zB s),(HA s),(G7 mN s mQ),(G8 s),(G9 s)]) [(0,.agg #[(zC s),(y0 fR s fU),(zA s),(zB s)]),(1,.agg #[(HA s),(G7 mN s mQ),(G8 s),(G9 s)])] r0) (.nil ?_)))))
   exact bS D_7_0 ⟨kM,fR,fU,mN,mQ,(zR r0),(dM.pk [0,1,4,2,3] r0)⟩
  refine dG 4 19 32767 (fun f w'=>∃ (fR:aM) (fU:Nat),Hz f [(0,aA s),(2,pB b1),(5,I (bM s)),(29,.agg #[(zC s),(y0 fR s fU),(zA s),(zB s)]),(32,aA ((aB (32:UInt8) (s.take (((bM s)-2).toNat))).getD 3 [])),(36,I (cZ ((aB (32:UInt8) (s.take (((bM s)-2).toNat))).getD 5 [])))]∧SH w w' [] [.blk b1 135 Z5,.own (Z7 b2) ((aB (32:UInt8) (s.take (((bM s)-2).toNat))).length) c1 9 1 ((aB (32:UInt8) (s.take (((bM s)-2).toNat))).map aA),(CD fR s fU)]) ?_ (fun D_7_3=>?_)
  ·rintro f kI ⟨fR,fU,⟨g4,rfl⟩,eO⟩
   refine jN [15,17] (eX ?_ (jP ?_))
   ·refine eI r0 (dP eO r0 (IP ((aB (32:UInt8) (s.take (((bM s)-2).toNat))).getD 3 []) (cZ ((aB (32:UInt8) (s.take (((bM s)-2).toNat))).getD 5 [])) _ (by omega)) (fun mN mQ lU eK=>nk ⟨_,eK,cC 0 r0,cC 1 r0,aH⟩ (tQ (fuel:=2) (is:=[16]) (.cons r0 (.nil)) ⟨_,eK,cC 0 r0,cC 1 r0,aH⟩ (yA r0 (bQ (v:=.agg #[(zC s),(y0 fR s fU),(zA s),(zB s),(HA s),(G7 mN s mQ),(G8 s),(G9 s)]) [(0,.agg #[(zC s),(y0 fR s fU),(zA s),(zB s)]),(1,.agg #[(HA s),(G7 mN s mQ),(G8 s),(G9 s)])] r0) (.nil ?_)))))
    exact bS D_7_1 ⟨fR,fU,mN,mQ,(zR r0),(eK.pk [0,1,3,2] r0)⟩
   exact eI r0 (al (cs:=Z5) eO tK r0 aH r0 (fun kM mH eZ=>nk ⟨_,eZ,cC 0 r0,cC 1 r0,aH⟩ (bS D_7_2 ⟨kM,fR,fU,(zR r0),(eZ.pk [0,1,3,2] r0)⟩)))
  refine dG 4 19 147455 (fun f w'=>∃ (kM:Nat) (fR:aM) (fU:Nat),Hz f [(0,aA s),(2,pB b1),(5,I (bM s)),(7,pB kM),(29,.agg #[(zC s),(y0 fR s fU),(zA s),(zB s)]),(32,aA ((aB (32:UInt8) (s.take (((bM s)-2).toNat))).getD 3 [])),(35,aA ((aB (32:UInt8) (s.take (((bM s)-2).toNat))).getD 5 []))]∧SH w w' [] [.blk b1 135 Z5,.own (Z7 b2) ((aB (32:UInt8) (s.take (((bM s)-2).toNat))).length) c1 9 1 ((aB (32:UInt8) (s.take (((bM s)-2).toNat))).map aA),.blk kM 135 Z5,(CD fR s fU)]) ?_ (fun D_7_4=>?_)
  ·rintro f mI ⟨kM,fR,fU,⟨g5,rfl⟩,fV⟩
   exact aO 14 r0 (cS fV r0 (GC ((aB (32:UInt8) (s.take (((bM s)-2).toNat))).getD 5 []) _ (by omega)) (fun mU fD=>nk ⟨_,fD,cC 0 r0,cC 1 r0,aH⟩ (bS D_7_2 ⟨kM,fR,fU,(zR r0),fD⟩)))
  refine dG 5 19 16383 (fun f w'=>∃ (fR:aM) (fU:Nat),Hz f [(0,aA s),(2,pB b1),(5,I (bM s)),(29,.agg #[(zC s),(y0 fR s fU),(zA s),(zB s)]),(32,aA ((aB (32:UInt8) (s.take (((bM s)-2).toNat))).getD 3 [])),(35,aA ((aB (32:UInt8) (s.take (((bM s)-2).toNat))).getD 5 []))]∧SH w w' [] [.blk b1 135 Z5,.own (Z7 b2) ((aB (32:UInt8) (s.take (((bM s)-2).toNat))).length) c1 9 1 ((aB (32:UInt8) (s.take (((bM s)-2).toNat))).map aA),(CD fR s fU)]) ?_ (fun D_7_5=>?_)
  ·rintro f n6 ⟨fR,fU,⟨g6,rfl⟩,gK⟩
   refine jN [14,17] (eX ?_ (jP ?_))
   ·exact eI r0 (cS gK r0 (GC ((aB (32:UInt8) (s.take (((bM s)-2).toNat))).getD 5 []) _ (by omega)) (fun m9 hU=>nk ⟨_,hU,cC 0 r0,cC 1 r0,aH⟩ (bS D_7_3 ⟨fR,fU,(zR r0),hU⟩)))
   exact eI r0 (al (cs:=Z5) gK tK r0 aH r0 (fun kM qQ iN=>nk ⟨_,iN,cC 0 r0,cC 1 r0,aH⟩ (bS D_7_4 ⟨kM,fR,fU,(zR r0),(iN.pk [0,1,3,2] r0)⟩)))
  refine dG 5 19 147327 (fun f w'=>∃ (kM:Nat),Hz f [(0,aA s),(2,pB b1),(5,I (bM s)),(7,pB kM),(24,aA ((aB (32:UInt8) (s.take (((bM s)-2).toNat))).getD 2 [])),(28,I (cZ ((aB (32:UInt8) (s.take (((bM s)-2).toNat))).getD 4 []))),(32,aA ((aB (32:UInt8) (s.take (((bM s)-2).toNat))).getD 3 [])),(35,aA ((aB (32:UInt8) (s.take (((bM s)-2).toNat))).getD 5 []))]∧SH w w' [] [.blk b1 135 Z5,.own (Z7 b2) ((aB (32:UInt8) (s.take (((bM s)-2).toNat))).length) c1 9 1 ((aB (32:UInt8) (s.take (((bM s)-2).toNat))).map aA),.blk kM 135 Z5]) ?_ (fun D_7_6=>?_)
  ·rintro f rJ ⟨kM,⟨g7,rfl⟩,iB⟩
   exact aO 7 r0 (dP iB r0 (IP ((aB (32:UInt8) (s.take (((bM s)-2).toNat))).getD 2 []) (cZ ((aB (32:UInt8) (s.take (((bM s)-2).toNat))).getD 4 [])) _ (by omega)) (fun fR fU tL iE=>nk ⟨_,iE,cC 0 r0,cC 1 r0,aH⟩ (bS D_7_4 ⟨kM,fR,fU,(zR r0),iE⟩)))
  refine dG 6 19 16255 (fun f w'=>Hz f [(0,aA s),(2,pB b1),(5,I (bM s)),(24,aA ((aB (32:UInt8) (s.take (((bM s)-2).toNat))).getD 2 [])),(28,I (cZ ((aB (32:UInt8) (s.take (((bM s)-2).toNat))).getD 4 []))),(32,aA ((aB (32:UInt8) (s.take (((bM s)-2).toNat))).getD 3 [])),(35,aA ((aB (32:UInt8) (s.take (((bM s)-2).toNat))).getD 5 []))]∧SH w w' [] [.blk b1 135 Z5,.own (Z7 b2) ((aB (32:UInt8) (s.take (((bM s)-2).toNat))).length) c1 9 1 ((aB (32:UInt8) (s.take (((bM s)-2).toNat))).map aA)]) ?_ (fun D_7_7=>?_)
  ·rintro f sC ⟨⟨g8,rfl⟩,jB⟩
   refine jN [7,17] (eX ?_ (jP ?_))
   ·exact eI r0 (dP jB r0 (IP ((aB (32:UInt8) (s.take (((bM s)-2).toNat))).getD 2 []) (cZ ((aB (32:UInt8) (s.take (((bM s)-2).toNat))).getD 4 [])) _ (by omega)) (fun fR fU vK gV=>nk ⟨_,gV,cC 0 r0,cC 1 r0,aH⟩ (bS D_7_5 ⟨fR,fU,(zR r0),gV⟩)))
   exact eI r0 (al (cs:=Z5) jB tK r0 aH r0 (fun kM xC kU=>nk ⟨_,kU,cC 0 r0,cC 1 r0,aH⟩ (bS D_7_6 ⟨kM,(zR r0),kU⟩)))
  refine dG 6 19 147263 (fun f w'=>∃ (kM:Nat),Hz f [(0,aA s),(2,pB b1),(5,I (bM s)),(7,pB kM),(24,aA ((aB (32:UInt8) (s.take (((bM s)-2).toNat))).getD 2 [])),(27,aA ((aB (32:UInt8) (s.take (((bM s)-2).toNat))).getD 4 [])),(32,aA ((aB (32:UInt8) (s.take (((bM s)-2).toNat))).getD 3 [])),(35,aA ((aB (32:UInt8) (s.take (((bM s)-2).toNat))).getD 5 []))]∧SH w w' [] [.blk b1 135 Z5,.own (Z7 b2) ((aB (32:UInt8) (s.take (((bM s)-2).toNat))).length) c1 9 1 ((aB (32:UInt8) (s.take (((bM s)-2).toNat))).map aA),.blk kM 135 Z5]) ?_ (fun D_7_8=>?_)
  ·rintro f vL ⟨kM,⟨g9,rfl⟩,kV⟩
   exact aO 6 r0 (cS kV r0 (GC ((aB (32:UInt8) (s.take (((bM s)-2).toNat))).getD 4 []) _ (by omega)) (fun vM kY=>nk ⟨_,kY,cC 0 r0,cC 1 r0,aH⟩ (bS D_7_6 ⟨kM,(zR r0),kY⟩)))
  refine dG 7 19 16191 (fun f w'=>Hz f [(0,aA s),(2,pB b1),(5,I (bM s)),(24,aA ((aB (32:UInt8) (s.take (((bM s)-2).toNat))).getD 2 [])),(27,aA ((aB (32:UInt8) (s.take (((bM s)-2).toNat))).getD 4 [])),(32,aA ((aB (32:UInt8) (s.take (((bM s)-2).toNat))).getD 3 [])),(35,aA ((aB (32:UInt8) (s.take (((bM s)-2).toNat))).getD 5 []))]∧SH w w' [] [.blk b1 135 Z5,.own (Z7 b2) ((aB (32:UInt8) (s.take (((bM s)-2).toNat))).length) c1 9 1 ((aB (32:UInt8) (s.take (((bM s)-2).toNat))).map aA)]) ?_ (fun D_7_9=>?_)
  ·rintro f B5 ⟨⟨EZ,rfl⟩,kH⟩
   refine jN [6,17] (eX ?_ (jP ?_))
   ·exact eI r0 (cS kH r0 (GC ((aB (32:UInt8) (s.take (((bM s)-2).toNat))).getD 4 []) _ (by omega)) (fun AJ iU=>nk ⟨_,iU,cC 0 r0,cC 1 r0,aH⟩ (bS D_7_7 ⟨(zR r0),iU⟩)))
   exact eI r0 (al (cs:=Z5) kH tK r0 aH r0 (fun kM DS mK=>nk ⟨_,mK,cC 0 r0,cC 1 r0,aH⟩ (bS D_7_8 ⟨kM,(zR r0),mK⟩)))
  have lL:=bG.drew
  exact tQ (fuel:=7) (is:=[0,1,2,3,4,5,8,9,10,11,12,13]) (.cons r0 (.cons r0 (.cons r0 (.cons r0 (.cons r0 (.cons r0 (.cons r0 (.cons r0 (.cons r0 (.cons r0 (.cons r0 (.cons r0 (.nil))))))))))))) ⟨_,lL,cC 0 r0,cC 1 r0,aH⟩ (yA r0 (mv (v:=sb b2 ((aB (32:UInt8) (s.take (((bM s)-2).toNat))).length) c1) r0) (yA r0 (lR 2 fZ r0 r0 (by omega)) (yB r0 (fun ⟨Lq,aU,dH,j0,_⟩=>s8 (g:=aA) (ys:=aB (32:UInt8) (s.take (((bM s)-2).toNat))) (o:=2) [] aU j0 r0 (by omega) eC) (yA r0 (mv (v:=sb b2 ((aB (32:UInt8) (s.take (((bM s)-2).toNat))).length) c1) r0) (yA r0 (lR 4 fZ r0 r0 (by omega)) (yB r0 (fun ⟨Lq,aU,dH,j0,_⟩=>s8 (g:=aA) (ys:=aB (32:UInt8) (s.take (((bM s)-2).toNat))) (o:=4) [] aU j0 r0 (by omega) eC) (yA r0 (mv (v:=sb b2 ((aB (32:UInt8) (s.take (((bM s)-2).toNat))).length) c1) r0) (yA r0 (lR 3 fZ r0 r0 (by omega)) (yB r0 (fun ⟨Lq,aU,dH,j0,_⟩=>s8 (g:=aA) (ys:=aB (32:UInt8) (s.take (((bM s)-2).toNat))) (o:=3) [] aU j0 r0 (by omega) eC) (yA r0 (mv (v:=sb b2 ((aB (32:UInt8) (s.take (((bM s)-2).toNat))).length) c1) r0) (yA r0 (lR 5 fZ r0 r0 (by omega)) (yB r0 (fun ⟨Lq,aU,dH,j0,_⟩=>s8 (g:=aA) (ys:=aB (32:UInt8) (s.take (((bM s)-2).toNat))) (o:=5) [] aU j0 r0 (by omega) eC) (.nil (bS D_7_9 ⟨(zR r0),lL⟩))))))))))))))
 rintro f B6 ⟨kM,fR,fU,mN,mQ,⟨HN,rfl⟩,mY⟩
 refine nN (sq (sq (rq (fun w'=>SH w w' [] [.blk b1 135 Z5,.own (Z7 b2) ((aB (32:UInt8) (s.take (((bM s)-2).toNat))).length) c1 9 1 ((aB (32:UInt8) (s.take (((bM s)-2).toNat))).map aA),(LY mN s mQ),.blk kM 135 (Z1 s fR fU mN mQ),(CD fR s fU)]) mixed (by kernel_rfl) mY.drew (qB r0 (fun aU=>lG (Z1 s fR fU mN mQ) aU 3 r0 iA) (qc (aA (kD ((((addrOf ((aB (32:UInt8) (s.take (((bM s)-2).toNat))).getD 2 []) (cZ ((aB (32:UInt8) (s.take (((bM s)-2).toNat))).getD 4 []))).1),((addrOf ((aB (32:UInt8) (s.take (((bM s)-2).toNat))).getD 2 []) (cZ ((aB (32:UInt8) (s.take (((bM s)-2).toNat))).getD 4 []))).2.1),((addrOf ((aB (32:UInt8) (s.take (((bM s)-2).toNat))).getD 2 []) (cZ ((aB (32:UInt8) (s.take (((bM s)-2).toNat))).getD 4 []))).2.2.1),((addrOf ((aB (32:UInt8) (s.take (((bM s)-2).toNat))).getD 2 []) (cZ ((aB (32:UInt8) (s.take (((bM s)-2).toNat))).getD 4 []))).2.2.2)),(((addrOf ((aB (32:UInt8) (s.take (((bM s)-2).toNat))).getD 3 []) (cZ ((aB (32:UInt8) (s.take (((bM s)-2).toNat))).getD 5 []))).1),((addrOf ((aB (32:UInt8) (s.take (((bM s)-2).toNat))).getD 3 []) (cZ ((aB (32:UInt8) (s.take (((bM s)-2).toNat))).getD 5 []))).2.1),((addrOf ((aB (32:UInt8) (s.take (((bM s)-2).toNat))).getD 3 []) (cZ ((aB (32:UInt8) (s.take (((bM s)-2).toNat))).getD 5 []))).2.2.1),((addrOf ((aB (32:UInt8) (s.take (((bM s)-2).toNat))).getD 3 []) (cZ ((aB (32:UInt8) (s.take (((bM s)-2).toNat))).getD 5 []))).2.2.2))))) aH r0 (fun wq aU=>(Tl ((addrOf ((aB (32:UInt8) (s.take (((bM s)-2).toNat))).getD 2 []) (cZ ((aB (32:UInt8) (s.take (((bM s)-2).toNat))).getD 4 []))).1) ((addrOf ((aB (32:UInt8) (s.take (((bM s)-2).toNat))).getD 2 []) (cZ ((aB (32:UInt8) (s.take (((bM s)-2).toNat))).getD 4 []))).2.1) ((addrOf ((aB (32:UInt8) (s.take (((bM s)-2).toNat))).getD 2 []) (cZ ((aB (32:UInt8) (s.take (((bM s)-2).toNat))).getD 4 []))).2.2.1) ((addrOf ((aB (32:UInt8) (s.take (((bM s)-2).toNat))).getD 2 []) (cZ ((aB (32:UInt8) (s.take (((bM s)-2).toNat))).getD 4 []))).2.2.2) ((addrOf ((aB (32:UInt8) (s.take (((bM s)-2).toNat))).getD 3 []) (cZ ((aB (32:UInt8) (s.take (((bM s)-2).toNat))).getD 5 []))).1) ((addrOf ((aB (32:UInt8) (s.take (((bM s)-2).toNat))).getD 3 []) (cZ ((aB (32:UInt8) (s.take (((bM s)-2).toNat))).getD 5 []))).2.1) ((addrOf ((aB (32:UInt8) (s.take (((bM s)-2).toNat))).getD 3 []) (cZ ((aB (32:UInt8) (s.take (((bM s)-2).toNat))).getD 5 []))).2.2.1) ((addrOf ((aB (32:UInt8) (s.take (((bM s)-2).toNat))).getD 3 []) (cZ ((aB (32:UInt8) (s.take (((bM s)-2).toNat))).getD 5 []))).2.2.2) _ (aU.cI 4 r0) (by omega) (aU.cI 2 r0) (by omega)).mono (fun v w' h=>⟨h.1,by simpa using aU.cJ h.2⟩)) (qA r0 (mv (v:=aA s) r0) (qA r0 (mv (v:=I (bM s)) r0) ?_)))))))
 refine qA r0 (xU (l:=s) ((bM s).toNat) dI r0 (jK (x:=bM s) (by omega)) (by omega)) (qA r0 (v8 r0 r0) (qn (fun GK lN=>nN (bI r0 (fun h3=>?_) (fun h3=>?_)))))
 ·refine sr (qt r0 (bQ (v:=.agg #[I 0,ns,aA [],I 0,I 0,ns,aA [],I 0]) [] r0) (sG Z5 lN 0 r0 iA (fun GL mS=>tA (I 0) r0 (tA (.bool false) r0 (nn ?_)))))
  have mZ:=mS.pq [4] r0
  refine rt (tR (bO (cX mZ 0 r0 r0 iA r0 (.tmp (.tmp .nil))) r0 ?_))
  have m0:=mZ.nl [Z0] r0
  have oE:=m0.nl [Z0] r0
  have e3:iO s=(0,false):=by(have hel:=CO s; exact Ok (by omega) ‹_›)
  rw[e3]
  exact⟨none,0,none,0,0,([]:aC),[],0,0,([]:aC),[],0,rfl,(oE.pk [1,2] r0)⟩
 refine sk (nN (sr (qt r0 (lG (Z1 s fR fU mN mQ) lN 3 r0 iA) (tm (I (bM s)) r0 (sG (Z1 s fR fU mN mQ) lN 0 r0 iA (fun GM oV=>?_))))))
 refine tA (I (bM s)) r0 (tA (.bool true) r0 (nn ?_))
 have qI:=oV.pq [1,3,4] r0
 refine rt (bO (cX qI 2 r0 r0 iA r0 (.tmp (.tmp .nil))) r0 ?_)
 have e4:iO s=(bM s,true):=by(have hel:=CO s; exact Ol (by omega) ‹_› ‹_›)
 rw[e4]
 exact⟨fR,fU,mN,mQ,(addrOf ((aB (32:UInt8) (s.take (((bM s)-2).toNat))).getD 2 []) (cZ ((aB (32:UInt8) (s.take (((bM s)-2).toNat))).getD 4 []))).1,(addrOf ((aB (32:UInt8) (s.take (((bM s)-2).toNat))).getD 2 []) (cZ ((aB (32:UInt8) (s.take (((bM s)-2).toNat))).getD 4 []))).2.1,(addrOf ((aB (32:UInt8) (s.take (((bM s)-2).toNat))).getD 2 []) (cZ ((aB (32:UInt8) (s.take (((bM s)-2).toNat))).getD 4 []))).2.2.1,(addrOf ((aB (32:UInt8) (s.take (((bM s)-2).toNat))).getD 2 []) (cZ ((aB (32:UInt8) (s.take (((bM s)-2).toNat))).getD 4 []))).2.2.2,(addrOf ((aB (32:UInt8) (s.take (((bM s)-2).toNat))).getD 3 []) (cZ ((aB (32:UInt8) (s.take (((bM s)-2).toNat))).getD 5 []))).1,(addrOf ((aB (32:UInt8) (s.take (((bM s)-2).toNat))).getD 3 []) (cZ ((aB (32:UInt8) (s.take (((bM s)-2).toNat))).getD 5 []))).2.1,(addrOf ((aB (32:UInt8) (s.take (((bM s)-2).toNat))).getD 3 []) (cZ ((aB (32:UInt8) (s.take (((bM s)-2).toNat))).getD 5 []))).2.2.1,(addrOf ((aB (32:UInt8) (s.take (((bM s)-2).toNat))).getD 3 []) (cZ ((aB (32:UInt8) (s.take (((bM s)-2).toNat))).getD 5 []))).2.2.2,rfl,(qI.pk [1,0] r0)⟩
theorem Bu (s:aD) (t:aD) (w:World) (hs_n:s.length≤1099511627776) (C7:t.length≤1099511627776):bF prog 215 [aA s,aA t] w (fun v w'=>v=.bool (decide (iX s t))∧SH w w' [] []):=by
 refine fQ 18 func215 r0 r0 ?_
 have aK:=SH.refl w []
 refine sr (tA (.bool false) r0 (nx (tm (aA s) r0 (qt r0 (gG dI r0) (tm (aA t) r0 (qt r0 (gG dI r0) (qt r0 (geq r0 r0) (tm (.bool (decide ((t.length:Int)≤(s.length:Int)))) r0 (fF 10 r0 (fun h1=>?_) (fun h1=>?_))))))))))
 ·refine qh r0 (mv (v:=aA s) r0) (qh r0 (mv (v:=aA t) r0) (qh r0 (gG dI r0) (qh r0 (xU (l:=s) t.length dI r0 r0 (by omega)) (qh r0 (mv (v:=aA t) r0) (qh r0 (eqs r0 r0) (qt r0 (pt (v:=.bool (decide (s.take t.length=t))) r0 r0) (tA (.bool (decide (s.take t.length=t))) r0 (nn (rt (fT (.bool (decide (s.take t.length=t))) r0 ?_))))))))))
  have e1:(decide (s.take t.length=t))=decide (iX s t):=by(have hx:t.length≤s.length:=(by omega); simp[iX,hx]; done)
  exact⟨(aS (Value.bool) e1),aK⟩
 refine bA r0 (bA r0 (bA r0 (bA r0 (bA r0 (bA r0 (qt r0 (pf (v:=.bool false) r0 r0) (tA (.bool false) r0 (nn (rt (fT (.bool false) r0 ?_))))))))))
 have e2:false=decide (iX s t):=by(have hx: ¬ t.length≤s.length:=(by omega); simp[iX,hx]; done)
 exact⟨(aS (Value.bool) e2),aK⟩
theorem Cf (s:aD) (t:aD) (w:World) (hs_n:s.length≤1099511627776) (C7:t.length≤1099511627776):bF prog 172 [aA s,aA t] w (fun v w'=>v=.bool (decide (iX s t))∧SH w w' [] []):=by
 refine fQ 8 func172 r0 r0 ?_
 have aK:=SH.refl w []
 refine sr (tA (.bool false) r0 (nx (tm (aA s) r0 (tm (aA t) r0 (cS aK r0 (Bu _ _ _ (by omega) (by omega)) (fun w1 aE=>tA (.bool (decide (iX s t))) r0 (nn (rt (fT (.bool (decide (iX s t))) r0 ?_)))))))))
 exact⟨rfl,aE⟩
theorem Ve (s:aD) (t:aD) (w:World) (hs_n:s.length≤1099511627776) (C7:t.length≤1099511627776):bF prog 213 [aA s,aA t] w (fun v w'=>v=.tuple #[aA (fG s t),.bool (decide (iX s t))]∧SH w w' [] []):=by
 refine fQ 15 func213 r0 r0 ?_
 have aK:=SH.refl w []
 refine sr (tA (aA []) r0 (tA (.bool false) r0 (nn (sq (sq (rg (tm (aA s) r0 (tm (aA t) r0 (cS aK r0 (Bu _ _ _ (by omega) (by omega)) (fun w1 aE=>qt r0 (nt r0) (nn (cd r0 (fun h1=>?_) (fun h1=>?_)))))))))))))
 ·have h2:=dX h1
  refine sr (tm (aA s) r0 (tA (aA s) r0 (tA (.bool false) r0 (nn (rt (tR (bO (.tmp (.tmp .nil)) r0 ?_)))))))
  have e1:s=fG s t:=by(simp_all [fG]; done)
  have e2:false=(decide (iX s t)):=by(simp[fG,h2]; done)
  exact⟨(kE (aS (aA) e1) (aS (Value.bool) e2)),aE⟩
 have h3:=dY h1
 refine sk (nN (sr (tm (aA s) r0 (tm (aA t) r0 (qt r0 (gG dI r0) (qt r0 (CK (l:=s) t.length dI r0 r0 (by(have hx:=pI (by assumption:decide (iX s t)=true); have hy:=hx.1; omega))) (tA (aA (s.drop t.length)) r0 (tA (.bool true) r0 (nn (rt (bO (.tmp (.tmp .nil)) r0 ?_)))))))))))
 have e3:s.drop t.length=fG s t:=by(simp_all [fG]; done)
 have e4:true=(decide (iX s t)):=by(simp[fG,h3]; done)
 exact⟨(kE (aS (aA) e3) (aS (Value.bool) e4)),aE⟩
theorem We (s:aD) (t:aD) (w:World) (hs_n:s.length≤1099511627776) (C7:t.length≤1099511627776):bF prog 170 [aA s,aA t] w (fun v w'=>v=.tuple #[aA (fG s t),.bool (decide (iX s t))]∧SH w w' [] []):=by
 refine fQ 11 func170 r0 r0 ?_
 have aK:=SH.refl w []
 refine sr (tA (aA []) r0 (tA (.bool false) r0 (nx (tm (aA s) r0 (tm (aA t) r0 (cS aK r0 (Ve _ _ _ (by omega) (by omega)) (fun w1 aE=>qt r0 (xt 0 r0 r0) (qt r0 (xt 1 r0 r0) (tA (aA (fG s t)) r0 (tA (.bool (decide (iX s t))) r0 (nn (rt (bO (.tmp (.tmp .nil)) r0 ?_)))))))))))))
 exact⟨rfl,aE⟩
theorem Li (s:aD) (w:World) (hs_n:s.length≤2147483648) (hGp:bZ prog w [] "internal/strconv.uint64pow10" jH) (hEr:bZ prog w [] "strconv.ErrRange" fH) (hEs:bZ prog w [] "strconv.ErrSyntax" fH):bF prog 118 [aA s] w (fun v w'=>∃ Aqr:aM,∃ cqr:Nat,∃ ak:Int,∃ aq:aC,∃ an:aD,∃ apt:Int,v=.tuple #[.agg #[.int .i64 ak,.slice Aqr aq.length cqr,aA an,.int .i64 apt],.int .i64 ((jO s).1),.bool ((jO s).2)]∧SH w w' [] [.own Aqr aq.length cqr 3 1 (aq.map I)]):=by
 refine fQ 43 func118 r0 r0 ?_
 have aK:=SH.refl w []
 refine sr (al (cs:=eA) aK kZ r0 aH r0 (fun b1 w1 aE=>tA (I 0) r0 (tA (.bool false) r0 (nx (tm (aA s) r0 (cS aE r0 (We _ [67,79,78,78,69,67,84,32] _ (by omega) (by((simp; done)))) (fun w2 aI=>tm (.tuple #[aA (fG s [67,79,78,78,69,67,84,32]),.bool (decide (iX s [67,79,78,78,69,67,84,32]))]) r0 (qt r0 (xt 0 r0 r0) (qt r0 (xt 1 r0 r0) (tA (aA (fG s [67,79,78,78,69,67,84,32])) r0 (tA (.bool (decide (iX s [67,79,78,78,69,67,84,32]))) r0 (nn (sq (rg (tm (aA (fG s [67,79,78,78,69,67,84,32])) r0 (cS aI r0 (Ce _ 32 _ (by(have hcf:=MT s [67,79,78,78,69,67,84,32]; omega))) (fun w3 aN=>tm (.tuple #[aA (dW (fG s [67,79,78,78,69,67,84,32]) 32),aA (kS (fG s [67,79,78,78,69,67,84,32]) 32),.bool (decide (0≤cE (fG s [67,79,78,78,69,67,84,32]) 32))]) r0 (qt r0 (xt 0 r0 r0) (qt r0 (xt 1 r0 r0) (qt r0 (xt 2 r0 r0) (tA (aA (dW (fG s [67,79,78,78,69,67,84,32]) 32)) r0 (tA (aA (kS (fG s [67,79,78,78,69,67,84,32]) 32)) r0 (tA (.bool (decide (0≤cE (fG s [67,79,78,78,69,67,84,32]) 32))) r0 (nl (nN (sr (tm (aA (dW (fG s [67,79,78,78,69,67,84,32]) 32)) r0 (dP aN r0 (C9 _ _ (by(have hcf:=MT s [67,79,78,78,69,67,84,32]; omega)) (hGp.aP aN) (hEr.aP aN) (hEs.aP aN)) (fun eF eG w4 aR=>tm (.tuple #[.agg #[I ((aG (dW (fG s [67,79,78,78,69,67,84,32]) 32)).1.1),.slice eF (((aG (dW (fG s [67,79,78,78,69,67,84,32]) 32)).1.2.1).length) eG,aA ((aG (dW (fG s [67,79,78,78,69,67,84,32]) 32)).1.2.2.1),I ((aG (dW (fG s [67,79,78,78,69,67,84,32]) 32)).1.2.2.2)],.bool ((aG (dW (fG s [67,79,78,78,69,67,84,32]) 32)).2)]) r0 (qt r0 (xt 0 r0 r0) (qt r0 (xt 1 r0 r0) (al (cs:=eA) aR kZ r0 aH r0 (fun b2 w5 aZ=>sG (LZ s eF eG) aZ 2 r0 cG (fun w6 bG=>tA (.bool ((aG (dW (fG s [67,79,78,78,69,67,84,32]) 32)).2)) r0 (nx (qt r0 (lG (LZ s eF eG) bG 2 r0 cG) (cS bG r0 (Lj _ _ _ _ _ (bG.cI 1 r0) (by(have hcf:=MT s [67,79,78,78,69,67,84,32]; omega)) (hGp.aP bG)) (fun w7 bU=>?_))))))))))))))))))))))))))))))))))))))
 refine tA (aA (nG ((aG (dW (fG s [67,79,78,78,69,67,84,32]) 32)).1.1) ((aG (dW (fG s [67,79,78,78,69,67,84,32]) 32)).1.2.1) ((aG (dW (fG s [67,79,78,78,69,67,84,32]) 32)).1.2.2.1) ((aG (dW (fG s [67,79,78,78,69,67,84,32]) 32)).1.2.2.2))) r0 (nn (sq (sr (tm (.bool ((aG (dW (fG s [67,79,78,78,69,67,84,32]) 32)).2)) r0 (qt r0 (nt r0) (tm (.bool (!((aG (dW (fG s [67,79,78,78,69,67,84,32]) 32)).2))) r0 (hP 33 r0 (fun h1=>?_) (fun h1=>?_))))))))
 ·have h2:=dX h1
  refine aT r0 (aT r0 (aT r0 (aT r0 (qt r0 (pt (v:=.bool true) r0 r0) (nn (fX r0 (sr (qt r0 (bQ (v:=.agg #[I 0,ns,aA [],I 0]) [] r0) (sG eA bU 0 r0 cG (fun w8 bV=>tA (I 0) r0 (tA (.bool false) r0 (nn (rt (tR (bO (cX bV 2 r0 r0 cG r0 (.tmp (.tmp .nil))) r0 ?_)))))))))))))))
  have b9:=bV.nl [Z0] r0
  have e1:jO s=(0,false):=by(exact U2 (.inl ‹_›))
  rw[e1]
  exact⟨none,0,0,([]:aC),[],0,rfl,(b9.pk [3] r0)⟩
 have h3:=dY h1
 refine qh r0 (mv (v:=aA s) r0) (qh r0 (mv (v:=aA (nG ((aG (dW (fG s [67,79,78,78,69,67,84,32]) 32)).1.1) ((aG (dW (fG s [67,79,78,78,69,67,84,32]) 32)).1.2.1) ((aG (dW (fG s [67,79,78,78,69,67,84,32]) 32)).1.2.2.1) ((aG (dW (fG s [67,79,78,78,69,67,84,32]) 32)).1.2.2.2))) r0) (cl ⟨_,rfl,rfl⟩ r0 (Cf _ _ _ (by omega) (by(have hcf:=MT s [67,79,78,78,69,67,84,32]; omega))) ?_))
 rintro _ w9 ⟨rfl,cM⟩
 replace cM:=bU.cJ cM
 refine qh r0 (nt r0) (qt r0 (pf (v:=.bool (!(decide (iX s (nG ((aG (dW (fG s [67,79,78,78,69,67,84,32]) 32)).1.1) ((aG (dW (fG s [67,79,78,78,69,67,84,32]) 32)).1.2.1) ((aG (dW (fG s [67,79,78,78,69,67,84,32]) 32)).1.2.2.1) ((aG (dW (fG s [67,79,78,78,69,67,84,32]) 32)).1.2.2.2)))))) r0 r0) (nn (cd r0 (fun h4=>?_) (fun h4=>?_))))
 ·have h5:=dX h4
  refine sr (qt r0 (bQ (v:=.agg #[I 0,ns,aA [],I 0]) [] r0) (sG eA cM 0 r0 cG (fun kF cW=>tA (I 0) r0 (tA (.bool false) r0 (nn (rt (tR (bO (cX cW 2 r0 r0 cG r0 (.tmp (.tmp .nil))) r0 ?_))))))))
  have dB:=cW.nl [Z0] r0
  have e2:jO s=(0,false):=by(exact U2 (.inr (yT ‹_›)))
  rw[e2]
  exact⟨none,0,0,([]:aC),[],0,rfl,(dB.pk [3] r0)⟩
 have h6:=dY h4
 refine sk (nN (sr (qt r0 (lG (LZ s eF eG) cM 2 r0 cG) (tm (aA (nG ((aG (dW (fG s [67,79,78,78,69,67,84,32]) 32)).1.1) ((aG (dW (fG s [67,79,78,78,69,67,84,32]) 32)).1.2.1) ((aG (dW (fG s [67,79,78,78,69,67,84,32]) 32)).1.2.2.1) ((aG (dW (fG s [67,79,78,78,69,67,84,32]) 32)).1.2.2.2))) r0 (qt r0 (gG dI r0) (sG (LZ s eF eG) cM 0 r0 cG (fun kB cY=>tA (I (((nG ((aG (dW (fG s [67,79,78,78,69,67,84,32]) 32)).1.1) ((aG (dW (fG s [67,79,78,78,69,67,84,32]) 32)).1.2.1) ((aG (dW (fG s [67,79,78,78,69,67,84,32]) 32)).1.2.2.1) ((aG (dW (fG s [67,79,78,78,69,67,84,32]) 32)).1.2.2.2)).length:Nat):Int)) r0 (tA (.bool true) r0 (nn (rt (bO (cX cY 2 r0 r0 cG r0 (.tmp (.tmp .nil))) r0 ?_)))))))))))
 have e3:jO s=((((nG ((aG (dW (fG s [67,79,78,78,69,67,84,32]) 32)).1.1) ((aG (dW (fG s [67,79,78,78,69,67,84,32]) 32)).1.2.1) ((aG (dW (fG s [67,79,78,78,69,67,84,32]) 32)).1.2.2.1) ((aG (dW (fG s [67,79,78,78,69,67,84,32]) 32)).1.2.2.2)).length:Nat):Int),true):=by(exact Gu ‹_› (pI ‹_›))
 rw[e3]
 exact⟨eF,eG,(aG (dW (fG s [67,79,78,78,69,67,84,32]) 32)).1.1,(aG (dW (fG s [67,79,78,78,69,67,84,32]) 32)).1.2.1,(aG (dW (fG s [67,79,78,78,69,67,84,32]) 32)).1.2.2.1,(aG (dW (fG s [67,79,78,78,69,67,84,32]) 32)).1.2.2.2,rfl,(cY.pk [0] r0)⟩
theorem Ma (ka:Int) {Aqa:aM} {cqa:Nat} (qa:aC) (na:aD) (pa:Int) (kb:Int) {Aqb:aM} {cqb:Nat} (qb:aC) (nb:aD) (pb:Int) (w:World) (hqa:Sl w [] 1 Aqa qa.length cqa (qa.map I)) (NF:na.length≤1099511627776) (hqb:Sl w [] 1 Aqb qb.length cqb (qb.map I)) (NG:nb.length≤1099511627776):bF prog 216 [.agg #[I ka,.slice Aqa qa.length cqa,aA na,I pa,I kb,.slice Aqb qb.length cqb,aA nb,I pb]] w (fun v w'=>v=.bool (l7 ka qa na pa kb qb nb pb)∧SH w w' [] []):=by
 refine fQ 23 func216 r0 r0 ?_
 have aK:=SH.refl w []
 have NH:qa.length≤9223372036854775807:=cB hqa.cap hqa.cO
 have NI:qb.length≤9223372036854775807:=cB hqb.cap hqb.cO
 refine sr (bx (v:=.agg #[I ka,(Z4 Aqa qa cqa),aA na,I pa,I kb,(Z4 Aqb qb cqb),aA nb,I pb]) (cs:=[I ka,(Z4 Aqa qa cqa),aA na,I pa,I kb,(Z4 Aqb qb cqb),aA nb,I pb]) aK r0 r0 aH r0 (fun b1 w1 aE=>tA (.bool false) r0 (nx (qt r0 (fa 0 CQ r0) (qt r0 (lG [I ka,(Z4 Aqa qa cqa),aA na,I pa] aE 0 r0 cG) (cS aE r0 (x0 _ _ _ _ _ (hqa.aP aE) (by omega)) (fun w2 aI=>tm (.bool (dN ka qa na pa)) r0 (hP 6 r0 (fun h1=>?_) (fun h1=>?_)))))))))
 ·refine qh r0 (fa 4 AZ r0) (qh r0 (lG [I kb,(Z4 Aqb qb cqb),aA nb,I pb] aI 0 r0 cG) (cl ⟨_,rfl,rfl⟩ r0 (x0 _ _ _ _ _ (hqb.aP aI) (by omega)) ?_))
  rintro _ w3 ⟨rfl,aN⟩
  replace aN:=aI.cJ aN
  refine qt r0 (pt (v:=.bool (dN kb qb nb pb)) r0 r0) (tm (.bool (dN kb qb nb pb)) r0 (hP 11 r0 (fun h2=>?_) (fun h2=>?_)))
  ·refine qh r0 (fa 0 CQ r0) (qh r0 (fa 0 o8 r0) (qh r0 (lD (I ka) aN 0 r0 cN) (qh r0 (dO r0 r0) (qt r0 (pt (v:=.bool (decide (ka=1))) r0 r0) (tm (sP ka) r0 (fF 17 r0 (fun h3=>?_) (fun h3=>?_)))))))
   ·refine qh r0 (fa 4 AZ r0) (qh r0 (fa 0 o8 r0) (qh r0 (lD (I kb) aN 0 r0 cN) (qh r0 (dO r0 r0) (qt r0 (pt (v:=.bool (decide (kb=1))) r0 r0) (tA (sP kb) r0 (nn (rt (fT (sP kb) r0 ?_))))))))
    have e1:(decide (kb=1))=l7 ka qa na pa kb qb nb pb:=by(simp[l7]; intros; simp_all; done)
    exact⟨(aS (Value.bool) e1),(aN.pk [] r0)⟩
   refine bA r0 (bA r0 (bA r0 (bA r0 (qt r0 (pf (v:=.bool false) r0 r0) (tA (.bool false) r0 (nn (rt (fT (.bool false) r0 ?_))))))))
   have e2:false=l7 ka qa na pa kb qb nb pb:=by(simp[l7,h1,h2,h3]; done)
   exact⟨(aS (Value.bool) e2),(aN.pk [] r0)⟩
  refine bA r0 (bA r0 (bA r0 (bA r0 (qt r0 (pf (v:=.bool false) r0 r0) (tm (.bool false) r0 (bA r0 (bA r0 (bA r0 (bA r0 (qt r0 (pf (v:=.bool false) r0 r0) (tA (.bool false) r0 (nn (rt (fT (.bool false) r0 ?_))))))))))))))
  have e3:false=l7 ka qa na pa kb qb nb pb:=by(simp[l7,h1,h2]; done)
  exact⟨(aS (Value.bool) e3),(aN.pk [] r0)⟩
 refine bA r0 (bA r0 (bA r0 (qt r0 (pf (v:=.bool false) r0 r0) (tm (.bool false) r0 (bA r0 (bA r0 (bA r0 (bA r0 (qt r0 (pf (v:=.bool false) r0 r0) (tm (.bool false) r0 (bA r0 (bA r0 (bA r0 (bA r0 (qt r0 (pf (v:=.bool false) r0 r0) (tA (.bool false) r0 (nn (rt (fT (.bool false) r0 ?_)))))))))))))))))))
 have e4:false=l7 ka qa na pa kb qb nb pb:=by(simp[l7,h1]; done)
 exact⟨(aS (Value.bool) e4),(aI.pk [] r0)⟩
theorem Lr (ka:Int) {Aqa:aM} {cqa:Nat} (qa:aC) (na:aD) (pa:Int) (kb:Int) {Aqb:aM} {cqb:Nat} (qb:aC) (nb:aD) (pb:Int) (w:World) (hqa:Sl w [] 1 Aqa qa.length cqa (qa.map I)) (NF:na.length≤1099511627776) (hqb:Sl w [] 1 Aqb qb.length cqb (qb.map I)) (NG:nb.length≤1099511627776) (hGp:bZ prog w [] "internal/strconv.uint64pow10" jH):bF prog 173 [.agg #[I ka,.slice Aqa qa.length cqa,aA na,I pa,I kb,.slice Aqb qb.length cqb,aA nb,I pb]] w (fun v w'=>v=aA (kD ((ka,qa,na,pa),(kb,qb,nb,pb)))∧SH w w' [] []):=by
 refine fQ 27 func173 r0 r0 ?_
 have aK:=SH.refl w []
 have NH:qa.length≤9223372036854775807:=cB hqa.cap hqa.cO
 have NI:qb.length≤9223372036854775807:=cB hqb.cap hqb.cO
 refine sr (bx (v:=.agg #[I ka,(Z4 Aqa qa cqa),aA na,I pa,I kb,(Z4 Aqb qb cqb),aA nb,I pb]) (cs:=[I ka,(Z4 Aqa qa cqa),aA na,I pa,I kb,(Z4 Aqb qb cqb),aA nb,I pb]) aK r0 r0 aH r0 (fun b1 w1 aE=>tA (aA []) r0 (nn (sq (sr (qt r0 (lG [I ka,(Z4 Aqa qa cqa),aA na,I pa,I kb,(Z4 Aqb qb cqb),aA nb,I pb] aE 0 r0 iA) (cS aE r0 (Ma _ _ _ _ _ _ _ _ _ (hqa.aP aE) (by omega) (hqb.aP aE) (by omega)) (fun w2 aI=>qt r0 (nt r0) (nn (cd r0 (fun h1=>?_) (fun h1=>?_)))))))))))
 ·have h2:=dX h1
  exact sr (tA (aA []) r0 (nn (rt (tR (fS r0 (by exact(SD ‹_›).symm) (aI.pk [] r0))))))
 have h3:=dY h1
 refine sk (nN (sq ?_))
 refine kA (fun w'=>∃ L,SH w w' [] L∧(.blk b1 135 [I ka,(Z4 Aqa qa cqa),aA na,I pa,I kb,(Z4 Aqb qb cqb),aA nb,I pb])∈L∧True) (fun f w'=>∃ (EJ:Nat),Hz f [(3,sb EJ (([[80,82,79,88,89],[84,67,80,52],fJ qa,fJ qb,Lib.itoa pa,Lib.itoa pb]:List aD).length) 6)]∧SH w w' [] [.blk b1 135 [I ka,(Z4 Aqa qa cqa),aA na,I pa,I kb,(Z4 Aqb qb cqb),aA nb,I pb],.own (Z7 EJ) (([[80,82,79,88,89],[84,67,80,52],fJ qa,fJ qb,Lib.itoa pa,Lib.itoa pb]:List aD).length) 6 9 1 (([[80,82,79,88,89],[84,67,80,52],fJ qa,fJ qb,Lib.itoa pa,Lib.itoa pb]:List aD).map aA)]) mixed ?_ ?_
 ·refine dG 2 18 65535 (fun f w'=>Hz f [(10,aA (fJ qa)),(14,aA (fJ qb)),(18,aA (Lib.itoa pa)),(22,aA (Lib.itoa pb))]∧SH w w' [] [.blk b1 135 [I ka,(Z4 Aqa qa cqa),aA na,I pa,I kb,(Z4 Aqb qb cqb),aA nb,I pb]]) ?_ (fun D_3_0=>?_)
  ·rintro f w3 ⟨⟨g1,rfl⟩,aN⟩
   refine aO 16 r0 (cR aN fZ [aA [80,82,79,88,89],aA [84,67,80,52],aA (fJ qa),aA (fJ qb),aA (Lib.itoa pa),aA (Lib.itoa pb)] [aA [80,82,79,88,89],aA [84,67,80,52],aA (fJ qa),aA (fJ qb),aA (Lib.itoa pa),aA (Lib.itoa pb)] aH r0 (fun EJ w4 aR=>nk (m1 aR 0 r0) (tQ (fuel:=0) (is:=[17]) (.cons r0 (.nil)) (m1 aR 0 r0) (yA r0 (fW (v:=sb EJ (([[80,82,79,88,89],[84,67,80,52],fJ qa,fJ qb,Lib.itoa pa,Lib.itoa pb]:List aD).length) 6) r0) (.nil (aQ ?_))))))
   exact⟨EJ,(zR r0),aR⟩
  refine dG 3 18 32767 (fun f w'=>Hz f [(10,aA (fJ qa)),(14,aA (fJ qb)),(18,aA (Lib.itoa pa)),(21,I pb)]∧SH w w' [] [.blk b1 135 [I ka,(Z4 Aqa qa cqa),aA na,I pa,I kb,(Z4 Aqb qb cqb),aA nb,I pb]]) ?_ (fun D_3_1=>?_)
  ·rintro f w5 ⟨⟨g2,rfl⟩,aZ⟩
   exact aO 15 r0 (cS aZ r0 (I0 _ _ (by(have hpb:=rG (FQ (by assumption:l7 ka qa na pa kb qb nb pb=true)); omega)) (hGp.aP aZ)) (fun w6 bG=>nk (m1 bG 0 r0) (bS D_3_0 ⟨(zR r0),bG⟩)))
  refine dG 4 18 30719 (fun f w'=>Hz f [(10,aA (fJ qa)),(14,aA (fJ qb)),(17,I pa),(21,I pb)]∧SH w w' [] [.blk b1 135 [I ka,(Z4 Aqa qa cqa),aA na,I pa,I kb,(Z4 Aqb qb cqb),aA nb,I pb]]) ?_ (fun D_3_2=>?_)
  ·rintro f w7 ⟨⟨g3,rfl⟩,bU⟩
   exact aO 11 r0 (cS bU r0 (I0 _ _ (by(have hpb:=rG (FQ (by assumption:l7 ka qa na pa kb qb nb pb=true)); omega)) (hGp.aP bU)) (fun w8 bV=>nk (m1 bV 0 r0) (bS D_3_1 ⟨(zR r0),bV⟩)))
  refine dG 5 18 30591 (fun f w'=>Hz f [(10,aA (fJ qa)),(13,.slice Aqb qb.length cqb),(17,I pa),(21,I pb)]∧SH w w' [] [.blk b1 135 [I ka,(Z4 Aqa qa cqa),aA na,I pa,I kb,(Z4 Aqb qb cqb),aA nb,I pb]]) ?_ (fun D_3_3=>?_)
  ·rintro f w9 ⟨⟨g4,rfl⟩,b9⟩
   exact aO 7 r0 (cS b9 r0 (R0 _ _ (hqb.aP b9) (by exact(rG (FQ (by assumption:l7 ka qa na pa kb qb nb pb=true))).2.1) (hGp.aP b9)) (fun kF cM=>nk (m1 cM 0 r0) (bS D_3_2 ⟨(zR r0),cM⟩)))
  refine dG 6 18 30583 (fun f w'=>Hz f [(9,.slice Aqa qa.length cqa),(13,.slice Aqb qb.length cqb),(17,I pa),(21,I pb)]∧SH w w' [] [.blk b1 135 [I ka,(Z4 Aqa qa cqa),aA na,I pa,I kb,(Z4 Aqb qb cqb),aA nb,I pb]]) ?_ (fun D_3_4=>?_)
  ·rintro f kB ⟨⟨g5,rfl⟩,cW⟩
   exact aO 3 r0 (cS cW r0 (R0 _ _ (hqa.aP cW) (by exact(rG (FQ (by assumption:l7 ka qa na pa kb qb nb pb=true))).1) (hGp.aP cW)) (fun kI dB=>nk (m1 dB 0 r0) (bS D_3_3 ⟨(zR r0),dB⟩)))
  have cY:=aI.drew
  exact tQ (fuel:=6) (is:=[0,1,2,4,5,6,8,9,10,12,13,14]) (.cons r0 (.cons r0 (.cons r0 (.cons r0 (.cons r0 (.cons r0 (.cons r0 (.cons r0 (.cons r0 (.cons r0 (.cons r0 (.cons r0 (.nil))))))))))))) (m1 cY 0 r0) (yA r0 (fa 0 CQ r0) (yA r0 (fa 1 pL r0) (yB r0 (fun ⟨Lq,aU,dH,_⟩=>lM (cD Aqa qa cqa) aU dH r0 j4) (yA r0 (fa 4 AZ r0) (yA r0 (fa 1 pL r0) (yB r0 (fun ⟨Lq,aU,dH,_⟩=>lM (cD Aqb qb cqb) aU dH r0 j4) (yA r0 (fa 0 CQ r0) (yA r0 (fa 3 pV r0) (yB r0 (fun ⟨Lq,aU,dH,_⟩=>lM (I pa) aU dH r0 cN) (yA r0 (fa 4 AZ r0) (yA r0 (fa 3 pV r0) (yB r0 (fun ⟨Lq,aU,dH,_⟩=>lM (I pb) aU dH r0 cN) (.nil (bS D_3_4 ⟨(zR r0),cY⟩))))))))))))))
 rintro f lU ⟨EJ,⟨g6,rfl⟩,dJ⟩
 refine nN (sr (tm (sb EJ (([[80,82,79,88,89],[84,67,80,52],fJ qa,fJ qb,Lib.itoa pa,Lib.itoa pb]:List aD).length) 6) r0 (cS dJ r0 (Cg ([[80,82,79,88,89],[84,67,80,52],fJ qa,fJ qb,Lib.itoa pa,Lib.itoa pb]:List aD) [32] _ (dJ.cI 1 r0) (by(have hpb:=rG (FQ (by assumption:l7 ka qa na pa kb qb nb pb=true)); (try simp only[bH,bP,bK]); omega)) (by exact cB (SI ‹_›) (by decide))) (fun mH dM=>qt r0 (cat r0 r0 (by(have hjl:=SI (by assumption:l7 ka qa na pa kb qb nb pb=true); (try simp only[bH,bP,bK]); omega))) (tA (aA ((Lib.join ([[80,82,79,88,89],[84,67,80,52],fJ qa,fJ qb,Lib.itoa pa,Lib.itoa pb]:List aD) [32])++[13,10])) r0 (nn (rt (fT (aA ((Lib.join ([[80,82,79,88,89],[84,67,80,52],fJ qa,fJ qb,Lib.itoa pa,Lib.itoa pb]:List aD) [32])++[13,10])) r0 ?_))))))))
 have e2:(Lib.join ([[80,82,79,88,89],[84,67,80,52],fJ qa,fJ qb,Lib.itoa pa,Lib.itoa pb]:List aD) [32])++[13,10]=kD ((ka,qa,na,pa),(kb,qb,nb,pb)):=by exact X3.trans (SE ‹_›).symm
 exact⟨(aS (aA) e2),(dM.pk [] r0)⟩
theorem Aa {rb:Nat} {Ab:aM} {cb:Nat} (bs:aC) (sa:Nat) (sf:Bool) (w:World) (hr:w.heap[rb]?=some (.cells [.slice Ab bs.length cb,.int .i64 (sa:Int),.bool sf].toArray 156 (0,0))) (hb:Sl w [rb] 1 Ab bs.length cb (bs.map I)) (hbv:sf=false→bJ bs=true) (HZ:sa≤bs.length):bF prog 169 [pB rb] w (fun v w'=>∃ qa:Nat,∃ qf:Bool,v=aA (bT (gH bs (sa,sf)))∧(qa≤bs.length)∧((qf=false→bJ bs=true))∧((qa,qf)=qP bs (sa,sf))∧SH w w' [rb] [.blk rb 156 [.slice Ab bs.length cb,I (qa:Int),.bool qf]]):=by
 refine fQ 20 func169 r0 r0 ?_
 have q7:bs.length≤9223372036854775807:=cB hb.cap hb.cO
 have aK:=SH.rS hr
 refine sr (tA (aA []) r0 (nx (tA ns r0 (nn (sq (bl ?_))))))
 have aE:=aK.nl [Z0] r0
 have e1:([]:aC)=(bs.drop sa).take 0:=by simp
 have e2:([]:aC).length=((bs.drop sa).take 0).length:=by rw[e1]
 refine lp (σ:=(aM)×Nat×Nat×Nat×Bool) (fun⟨k9,k6,k,ya,yf⟩ f w'=>Hz f [(0,pB rb),(3,.slice k9 (((bs.drop sa).take k).length) k6)]∧(ya=sa+k)∧(ya≤bs.length)∧(yf=sf)∧(sf=true→k=0)∧(yf=false→bJ bs=true)∧(∀ j,j<k→bs.getD (sa+j) 0≠0)∧SH w w' [rb] [.blk rb 156 [(Z4 Ab bs cb),I (ya:Int),.bool yf],.own k9 (((bs.drop sa).take k).length) k6 3 1 (((bs.drop sa).take k).map I)]) (fun⟨k9,k6,k,ya,yf⟩=>bs.length-ya) (none,0,0,sa,sf) ⟨(zH ⟨rfl,(show (.slice none (([]:aC).length) 0:Value)=.slice none (((bs.drop sa).take 0).length) 0 from eE r0 e2 r0),aH⟩),(rfl),(by omega),(rfl),(fun _=>rfl),(hbv),(by intros; omega),(aE.cast (lc r0 (lc (dZ (g:=I) r0 e2 r0 e1) r0)))⟩ ?_
 rintro ⟨k9,k6,k,ya,yf⟩ f w1 ⟨⟨g1,rfl⟩,v7,xZ,qK,C1,HQ,hz,aI⟩
 refine sq (sr (tm (pB rb) r0 (tn r0 (qt r0 (fa 2 qY r0) (qt r0 (lD (.bool yf) aI 0 r0 rF) (qt r0 (nt r0) (nn (cd r0 (fun h1=>?_) (fun h1=>?_)))))))))
 ·have h2:=dX h1
  refine sk (nN (bl (sr (tm (pB rb) r0 (cL r0 (GA _ _ _ _ (gM aI 0 r0) (hb.up aI (fun _ h=>h) (fun _ h=>.inl h)) (‹_›) (‹_›)) ?_)))))
  rintro _ w2 ⟨aX,aY,rfl,p1,p2,p3,aN⟩
  replace aN:=aI.cK [0] [1] aN r0
  refine tA (I (cH bs (ya,yf))) r0 (nn (sq (sr (tm (I (cH bs (ya,yf))) r0 (qt r0 (dO r0 r0) (nn (bI r0 (fun h3=>?_) (fun h3=>?_))))))))
  ·refine ex (tE (bX r0 (tE (bE (nN (sr (tm (.slice k9 (((bs.drop sa).take k).length) k6) r0 (cS aN r0 (KK _ _ (aN.cI 0 r0) (by exact Dp HQ qK C1) (by exact Dt HQ qK C1)) (fun w3 aR=>tA (aA (bT ((bs.drop sa).take k))) r0 (nn (rt (fT (aA (bT ((bs.drop sa).take k))) r0 ?_))))))))))))
   have e3:bT ((bs.drop sa).take k)=bT (gH bs (sa,sf)):=by rw[(Dq v7 xZ qK hz ‹_› ‹_› p3).2]
   exact⟨aX,aY,(aS (aA) e3),‹_›,‹_›,(by exact(Dq v7 xZ qK hz ‹_› ‹_› p3).1),(aR.pk [1] r0)⟩
  refine sk (nN (rg (tm (.slice k9 (((bs.drop sa).take k).length) k6) r0 (tm (I (cH bs (ya,yf))) r0 (cR aN aV [I (cH bs (ya,yf))] [I (cH bs (ya,yf))] aH r0 (fun b1 w4 aZ=>gI (g:=I) (ys:=(bs.drop sa).take k) (zs:=([cH bs (ya,yf)]:aC)) aZ 0 r0 aV r0 r0 r0 (aZ.cI 2 r0) (fun _=>rfl) (by unfold maxLen; (have yR:=(B4 v7 xZ qK ‹_› p3); have Jt:=hZ (HQ (by rw[qK]; exact yR.2.2.2.1)); have hlt:((bs.drop sa).take k).length≤k:=List.length_take_le _ _; (try simp only[bH,bP,bK]); omega)) (by(have yR:=(B4 v7 xZ qK ‹_› p3); have Jt:=hZ (HQ (by rw[qK]; exact yR.2.2.2.1)); have hlt:((bs.drop sa).take k).length≤k:=List.length_take_le _ _; (try simp only[bH,bP,bK]); omega)) aH r0 (fun A1 c1 w5 bG=>tA (.slice A1 ((((bs.drop sa).take k)++([cH bs (ya,yf)]:aC)).length) c1) r0 (nl (bN (nN ?_))))))))))
  have e4:((bs.drop sa).take k)++([cH bs (ya,yf)]:aC)=(bs.drop sa).take (k+1):=by(have yR:=(B4 v7 xZ qK ‹_› p3); rw[yR.2.2.2.2.1]; exact Yj yR.2.2.2.2.2.2)
  have e5:(((bs.drop sa).take k)++([cH bs (ya,yf)]:aC)).length=((bs.drop sa).take (k+1)).length:=by rw[e4]
  refine⟨(A1,c1,k+1,aX,aY),⟨(zH ⟨rfl,(show (.slice A1 ((((bs.drop sa).take k)++([cH bs (ya,yf)]:aC)).length) c1:Value)=.slice A1 (((bs.drop sa).take (k+1)).length) c1 from eE r0 e5 r0),aH⟩),((B4 v7 xZ qK ‹_› p3).1),((B4 v7 xZ qK ‹_› p3).2.1),((B4 v7 xZ qK ‹_› p3).2.2.1),(fun hh=>by have yR:=(B4 v7 xZ qK ‹_› p3); rw[yR.2.2.2.1]at hh; cases hh),(p2),(fun j hj=>by rcases qR j k with h | h; exact hz j h; rw[show j=k by omega]; exact(B4 v7 xZ qK ‹_› p3).2.2.2.2.2.1),((bG.pq [0,2] r0).cast (lc r0 (lc (dZ (g:=I) r0 e5 r0 e4) r0)))⟩,?_⟩
  show bs.length-aX<bs.length-ya
  (have yR:=(B4 v7 xZ qK ‹_› p3); omega)
 have h4:=dY h1
 refine ex (tE (tE (bE (nN (sr (tm (.slice k9 (((bs.drop sa).take k).length) k6) r0 (cS aI r0 (KK _ _ (aI.cI 1 r0) (by exact Dp HQ qK C1) (by exact Dt HQ qK C1)) (fun w6 bU=>tA (aA (bT ((bs.drop sa).take k))) r0 (nn (rt (fT (aA (bT ((bs.drop sa).take k))) r0 ?_)))))))))))
 have e6:bT ((bs.drop sa).take k)=bT (gH bs (sa,sf)):=by rw[(Dr (b:=bs) v7 qK C1 ‹_›).2]
 exact⟨ya,yf,(aS (aA) e6),‹_›,‹_›,(by exact(Dr (b:=bs) v7 qK C1 ‹_›).1),(bU.pk [0] r0)⟩
theorem Lz {Abs:aM} {cbs:Nat} (bs:aC) (w:World) (hbs:Sl w [] 1 Abs bs.length cbs (bs.map I)):bF prog 116 [.slice Abs bs.length cbs] w (fun v w'=>∃ Aqr:aM,∃ cqr:Nat,∃ c:Int,∃ ak:Int,∃ aq:aC,∃ an:aD,∃ apt:Int,∃ us:aD,v=.tuple #[.agg #[.int .i64 c,.int .i64 ak,.slice Aqr aq.length cqr,aA an,.int .i64 apt,aA us],.int .i64 ((gW bs).1),.bool ((gW bs).2)]∧SH w w' [] [.own Aqr aq.length cqr 3 1 (aq.map I)]):=by
 refine fQ 51 func116 r0 r0 ?_
 have aK:SH w w [] []:=SH.refl w []
 have nW:bs.length≤9223372036854775807:=cB hbs.cap hbs.cO
 refine sr (al (cs:=iR) aK I7 r0 aH r0 (fun b1 w1 aE=>tA (I 0) r0 (tA (.bool false) r0 (nx (tm (cD Abs bs cbs) r0 (cL r0 (FN _ _ (hbs.aP aE)) ?_))))))
 rintro _ w2 ⟨g1,rfl,aI⟩
 replace aI:=aE.cJ aI
 refine tA (pB g1) r0 (nx (tm (pB g1) r0 (cR aI aV [I 4] [I 4] aH r0 (fun b2 w3 aN=>cL r0 (IJ _ 0 _ ([4]:aC) _ (gM aN 1 r0) (hbs.up aN (by simp) (fun k h=>.inr (aN.mE 1 r0 k h))) (by(simp; done)) (by omega) (aN.sl 2 r0 (by intro k hk; simp at hk; subst hk; exact⟨_,cC 1 r0,rfl⟩)) (by((simp; done)))) ?_))))
 rintro _ w4 ⟨aX,aY,rfl,p1,p2,p3,aR⟩
 replace aR:=aN.cK [1] [0,2] aR r0
 refine nx (tm (pB g1) r0 (cL r0 (GA _ _ _ _ (gM aR 2 r0) (hbs.up aR (by simp) (fun k h=>.inr (aR.mE 2 r0 k h))) (‹_›) (by(assumption))) ?_))
 rintro _ w5 ⟨bC,bD,rfl,p4,p5,p6,aZ⟩
 replace aZ:=aR.cK [2] [0,1] aZ r0
 refine qt r0 (bQ (v:=.agg #[I (cH bs (aX,aY)),I 0,ns,aA [],I 0,aA []]) [(0,I (cH bs (aX,aY)))] r0) (al (cs:=iR) aZ I7 r0 aH r0 (fun b3 w6 (bG:SH w w6 [] [.blk b1 79 iR,oI b2 ([4]:aC) 1 3,.blk g1 156 [(Z4 Abs bs cbs),I (bC:Int),.bool bD],.blk b3 79 iR])=>sG [I (cH bs (aX,aY)),I 0,ns,aA [],I 0,aA []] bG 3 r0 hH (fun w7 bU=>nx (tm (pB g1) r0 (cL r0 (DI _ _ _ _ _ (gM bU 2 r0) (hbs.up bU (by simp) (fun k h=>.inr (bU.mE 2 r0 k h))) (‹_›) (by(assumption)) (by omega)) ?_)))))
 rintro _ w8 ⟨dQ,eB,rfl,p7,p8,p9,bV⟩
 replace bV:=bU.cK [2] [0,1,3] bV r0
 refine tm (pB g1) r0 (cL r0 (yE _ _ _ _ _ (gM bV 3 r0) (hbs.up bV (by simp) (fun k h=>.inr (bV.mE 3 r0 k h))) (‹_›) (by(assumption)) (by omega)) ?_)
 rintro _ w9 ⟨A1,c1,eR,eS,rfl,OQ,FP,nY,b9⟩
 replace b9:=bV.cK [3] [0,1,2] b9 r0
 refine tA (I (aL (aF bs (bC,bD) (2:Int).toNat))) r0 (tA (.slice A1 ((aF bs (dQ,eB) (4:Int).toNat).length) c1) r0 (nx (tm (pB g1) r0 (cL r0 (Aa _ _ _ _ (gM b9 3 r0) (hbs.up b9 (by simp) (fun k h=>.inr (b9.mE 3 r0 k h))) (‹_›) (by(assumption))) ?_))))
 rintro _ kF ⟨iJ,jC,rfl,ZA,OR,pC,cM⟩
 replace cM:=b9.cK [3] [0,1,2,4] cM r0
 refine qt r0 (fa 5 EY r0) (sT (aA (bT (gH bs (eR,eS)))) cM 2 r0 eC (fun kB cW=>nx (tm (.slice A1 ((aF bs (dQ,eB) (4:Int).toNat).length) c1) r0 (tm (I (aL (aF bs (bC,bD) (2:Int).toNat))) r0 (qt r0 (bQ (v:=.agg #[I 1,.slice A1 ((aF bs (dQ,eB) (4:Int).toNat).length) c1,aA [],I (aL (aF bs (bC,bD) (2:Int).toNat))]) [(0,I 1),(1,.slice A1 ((aF bs (dQ,eB) (4:Int).toNat).length) c1),(3,I (aL (aF bs (bC,bD) (2:Int).toNat)))] r0) (qt r0 (fa 1 mW r0) (sG [I 1,.slice A1 ((aF bs (dQ,eB) (4:Int).toNat).length) c1,aA [],I (aL (aF bs (bC,bD) (2:Int).toNat))] cW 4 r0 cG (fun kI (dB:SH w kI [] [.blk b1 79 iR,oI b2 ([4]:aC) 1 3,.own A1 ((aF bs (dQ,eB) (4:Int).toNat).length) c1 3 1 ((aF bs (dQ,eB) (4:Int).toNat).map I),.blk g1 156 [(Z4 Abs bs cbs),I (iJ:Int),.bool jC],.blk b3 79 [I (cH bs (aX,aY)),I 1,.slice A1 ((aF bs (dQ,eB) (4:Int).toNat).length) c1,aA [],I (aL (aF bs (bC,bD) (2:Int).toNat)),aA (bT (gH bs (eR,eS)))]])=>nn (sq (sr (tm (.slice A1 ((aF bs (dQ,eB) (4:Int).toNat).length) c1) r0 (cR dB aV [I 0,I 0,I 0,I 1] [I 0,I 0,I 0,I 1] aH r0 (fun b4 lU cY=>cS cY r0 (PK _ ([0,0,0,1]:aC) _ (cY.cI 2 r0) (cY.cI 5 r0)) (fun mH dJ=>nn ?_))))))))))))))
 have dM:=dJ.pq [0,2,3,4] r0
 refine bI r0 (fun h1=>?_) (fun h1=>?_)
 ·refine rg (tm (pB g1) r0 (cL r0 (Aa _ _ _ _ (gM dM 2 r0) (hbs.up dM (by simp) (fun k h=>.inr (dM.mE 2 r0 k h))) (‹_›) (by(assumption))) ?_))
  rintro _ mI ⟨lF,mM,rfl,ZB,ZC,qN,eO⟩
  replace eO:=dM.cK [2] [0,1,3] eO r0
  refine tm (I (aL (aF bs (bC,bD) (2:Int).toNat))) r0 (qt r0 (bQ (v:=.agg #[I 3,ns,aA (bT (gH bs (iJ,jC))),I (aL (aF bs (bC,bD) (2:Int).toNat))]) [(0,I 3),(2,aA (bT (gH bs (iJ,jC)))),(3,I (aL (aF bs (bC,bD) (2:Int).toNat)))] r0) (qt r0 (fa 1 mW r0) (sG [I 3,ns,aA (bT (gH bs (iJ,jC))),I (aL (aF bs (bC,bD) (2:Int).toNat))] eO 2 r0 cG (fun mU eK=>nn (sq (sr (tm (pB g1) r0 (tn r0 (qt r0 (fa 2 qY r0) (qt r0 (lD (.bool mM) eK 2 r0 rF) (tm (.bool mM) r0 (hP 40 r0 (fun h2=>?_) (fun h2=>?_)))))))))))))
  ·refine aT r0 (aT r0 (aT r0 (qt r0 (pt (v:=.bool true) r0 r0) (nn (fX r0 (sq (rg (qt r0 (bQ (v:=.agg #[I 0,I 0,ns,aA [],I 0,aA []]) [] r0) (sG iR eK 0 r0 hH (fun n6 (eZ:SH w n6 [] [.own A1 ((aF bs (dQ,eB) (4:Int).toNat).length) c1 3 1 ((aF bs (dQ,eB) (4:Int).toNat).map I),.blk g1 156 [(Z4 Abs bs cbs),I (lF:Int),.bool mM],.blk b3 79 [I (cH bs (aX,aY)),I 3,ns,aA (bT (gH bs (iJ,jC))),I (aL (aF bs (bC,bD) (2:Int).toNat)),aA (bT (gH bs (eR,eS)))],.blk b1 79 iR])=>tA (I 0) r0 (tA (.bool false) r0 (nn ?_))))))))))))
   have fV:=eZ.pq [3] r0
   refine rt (tR (bO (cX fV 0 r0 r0 hH r0 (.tmp (.tmp .nil))) r0 ?_))
   have fD:=fV.nl [Z0] r0
   have e1:gW bs=(0,false):=by exact(S3 p3 p6 p9 nY pC qN ‹_›).trans (b0 (fun hh=>by have h_:=hh.1; simp_all; done))
   rw[e1]
   exact⟨none,0,0,0,([]:aC),[],0,[],rfl,(fD.pk [1] r0)⟩
  have zV:=HH (bs:=bs) (s:=(aX,aY)) p2
  have Lb:=PZ (b:=bs) (s:=(eR,eS)) FP
  have Lc:=PZ (b:=bs) (s:=(iJ,jC)) OR
  refine qh r0 (lG [I (cH bs (aX,aY)),I 3,ns,aA (bT (gH bs (iJ,jC))),I (aL (aF bs (bC,bD) (2:Int).toNat)),aA (bT (gH bs (eR,eS)))] eK 3 r0 hH) (cl ⟨_,rfl,rfl⟩ r0 (RY (c:=cH bs (aX,aY)) (ak:=3) (Aaq:=none) (caq:=0) (aq:=([]:aC)) (an:=bT (gH bs (iJ,jC))) (apt:=aL (aF bs (bC,bD) (2:Int).toNat)) (us:=bT (gH bs (eR,eS))) (w:=_) (haq:=Sl.nil) (han_n:=(by omega)) (hus_n:=(by omega))) ?_)
  rintro _ m9 ⟨rfl,gK⟩
  replace gK:=eK.cJ gK
  refine qh r0 (nt r0) (qt r0 (pf (v:=.bool (!(gL (cH bs (aX,aY)) 3 ([]:aC) (bT (gH bs (iJ,jC))) (aL (aF bs (bC,bD) (2:Int).toNat)) (bT (gH bs (eR,eS)))))) r0 r0) (nn (cd r0 (fun h3=>?_) (fun h3=>?_))))
  ·have h4:=dX h3
   refine sr (qt r0 (bQ (v:=.agg #[I 0,I 0,ns,aA [],I 0,aA []]) [] r0) (sG iR gK 0 r0 hH (fun qQ hU=>tA (I 0) r0 (tA (.bool false) r0 (nn ?_)))))
   have iN:=hU.pq [3] r0
   refine rt (tR (bO (cX iN 0 r0 r0 hH r0 (.tmp (.tmp .nil))) r0 ?_))
   have iB:SH w qQ [] [.blk b1 79 iR,Z0]:=SH.AB (by intro i hi; simp at hi; subst hi; exact DF) iN
   have e2:gW bs=(0,false):=by exact(S3 p3 p6 p9 nY pC qN ‹_›).trans (b0 (fun hh=>by have h_:=hh.1; simp_all; done))
   rw[e2]
   exact⟨none,0,0,0,([]:aC),[],0,[],rfl,(iB.pk [1] r0)⟩
  have h5:=dY h3
  refine sk (nN (sq ?_))
  refine kA (fun w'=>∃ L,SH w w' [] L∧(.blk g1 156 [(Z4 Abs bs cbs),I (lF:Int),.bool mM])∈L∧(.blk b3 79 [I (cH bs (aX,aY)),I 3,ns,aA (bT (gH bs (iJ,jC))),I (aL (aF bs (bC,bD) (2:Int).toNat)),aA (bT (gH bs (eR,eS)))])∈L∧True) (fun f w'=>Hz f [(2,pB b1),(3,I (lF:Int)),(4,.bool true)]∧SH w w' [] [.blk b1 79 [I (cH bs (aX,aY)),I 3,ns,aA (bT (gH bs (iJ,jC))),I (aL (aF bs (bC,bD) (2:Int).toNat)),aA (bT (gH bs (eR,eS)))],.own A1 ((aF bs (dQ,eB) (4:Int).toNat).length) c1 3 1 ((aF bs (dQ,eB) (4:Int).toNat).map I),.blk g1 156 [(Z4 Abs bs cbs),I (lF:Int),.bool mM],.blk b3 79 [I (cH bs (aX,aY)),I 3,ns,aA (bT (gH bs (iJ,jC))),I (aL (aF bs (bC,bD) (2:Int).toNat)),aA (bT (gH bs (eR,eS)))]]) mixed ?_ ?_
  ·refine dG 3 8 31 (fun f w'=>Hz f [(2,pB b1),(3,I 0),(4,.bool false),(46,.agg #[I (cH bs (aX,aY)),I 3,ns,aA (bT (gH bs (iJ,jC))),I (aL (aF bs (bC,bD) (2:Int).toNat)),aA (bT (gH bs (eR,eS)))]),(50,I (lF:Int))]∧SH w w' [] [.blk b1 79 iR,.own A1 ((aF bs (dQ,eB) (4:Int).toNat).length) c1 3 1 ((aF bs (dQ,eB) (4:Int).toNat).map I),.blk g1 156 [(Z4 Abs bs cbs),I (lF:Int),.bool mM],.blk b3 79 [I (cH bs (aX,aY)),I 3,ns,aA (bT (gH bs (iJ,jC))),I (aL (aF bs (bC,bD) (2:Int).toNat)),aA (bT (gH bs (eR,eS)))]]) ?_ (fun D_11_0=>?_)
   ·rintro f rJ ⟨⟨g2,rfl⟩,iE⟩
    refine aO 5 r0 (sG [I (cH bs (aX,aY)),I 3,ns,aA (bT (gH bs (iJ,jC))),I (aL (aF bs (bC,bD) (2:Int).toNat)),aA (bT (gH bs (eR,eS)))] iE 0 r0 hH (fun tL jB=>nk ⟨_,jB,cC 1 r0,cC 2 r0,aH⟩ (tQ (fuel:=0) (is:=[6,7]) (.cons r0 (.cons r0 (.nil))) ⟨_,jB,cC 1 r0,cC 2 r0,aH⟩ (yA r0 (fW (v:=I (lF:Int)) r0) (yA r0 (fW (v:=.bool true) r0) (.nil (aQ ?_)))))))
    exact⟨(zR r0),(jB.pk [3,0,1,2] r0)⟩
   have gV:=gK.drew
   exact tQ (fuel:=3) (is:=[0,1,2,3,4]) (.cons r0 (.cons r0 (.cons r0 (.cons r0 (.cons r0 (.nil)))))) ⟨_,gV,cC 2 r0,cC 3 r0,aH⟩ (yB r0 (fun ⟨Lq,aU,dH,j0,_⟩=>rD (vs:=[I (cH bs (aX,aY)),I 3,ns,aA (bT (gH bs (iJ,jC))),I (aL (aF bs (bC,bD) (2:Int).toNat)),aA (bT (gH bs (eR,eS)))]) aU j0 r0 r0 r0 hH) (yA r0 (mv (v:=pB g1) r0) (yA r0 (nc r0) (yA r0 (fa 1 vW r0) (yB r0 (fun ⟨Lq,aU,dH,j0,_⟩=>lM (I (lF:Int)) aU dH r0 cN) (.nil (bS D_11_0 ⟨(zR r0),gV⟩)))))))
  rintro f sC ⟨⟨g3,rfl⟩,kU⟩
  refine nN ?_
  have kV:=kU.pq [0] r0
  refine rt (bO (cX kV 0 r0 r0 hH r0 (.tmp (.tmp .nil))) r0 ?_)
  have kY:SH w sC [] [.blk b1 79 [I (cH bs (aX,aY)),I 3,ns,aA (bT (gH bs (iJ,jC))),I (aL (aF bs (bC,bD) (2:Int).toNat)),aA (bT (gH bs (eR,eS)))],Z0]:=SH.AB (by intro i hi; simp at hi; subst hi; exact DF) kV
  have e3:gW bs=((lF:Int),true):=by exact(S3 p3 p6 p9 nY pC qN ‹_›).trans (cF ⟨by assumption,by assumption⟩)
  rw[e3]
  exact⟨none,0,cH bs (aX,aY),3,([]:aC),bT (gH bs (iJ,jC)),aL (aF bs (bC,bD) (2:Int).toNat),bT (gH bs (eR,eS)),rfl,(kY.pk [1] r0)⟩
 refine sk (nN (sq (sr (tm (pB g1) r0 (tn r0 (qt r0 (fa 2 qY r0) (qt r0 (lD (.bool jC) dM 2 r0 rF) (tm (.bool jC) r0 (hP 40 r0 (fun h6=>?_) (fun h6=>?_))))))))))
 ·refine aT r0 (aT r0 (aT r0 (qt r0 (pt (v:=.bool true) r0 r0) (nn (fX r0 (sq (rg (qt r0 (bQ (v:=.agg #[I 0,I 0,ns,aA [],I 0,aA []]) [] r0) (sG iR dM 0 r0 hH (fun vK kH=>tA (I 0) r0 (tA (.bool false) r0 (nn ?_))))))))))))
  have iU:=kH.pq [3] r0
  refine rt (tR (bO (cX iU 0 r0 r0 hH r0 (.tmp (.tmp .nil))) r0 ?_))
  have mK:=iU.nl [Z0] r0
  have e4:gW bs=(0,false):=by exact(S2 p3 p6 p9 nY pC ‹_›).trans (b0 (fun hh=>by have h_:=hh.1; simp_all; done))
  rw[e4]
  exact⟨none,0,0,0,([]:aC),[],0,[],rfl,(mK.pk [1] r0)⟩
 refine qh r0 (lG [I (cH bs (aX,aY)),I 1,.slice A1 ((aF bs (dQ,eB) (4:Int).toNat).length) c1,aA [],I (aL (aF bs (bC,bD) (2:Int).toNat)),aA (bT (gH bs (eR,eS)))] dM 3 r0 hH) (cl ⟨_,rfl,rfl⟩ r0 (RY _ 1 _ [] _ _ _ (dM.cI 1 r0) (by((simp; done))) (by(have zV:=HH (bs:=bs) (s:=(aX,aY)) p2; have Lb:=PZ (b:=bs) (s:=(eR,eS)) FP; have Lc:=PZ (b:=bs) (s:=(iJ,jC)) OR; omega))) ?_)
 rintro _ xC ⟨rfl,lL⟩
 replace lL:=dM.cJ lL
 refine qh r0 (nt r0) (qt r0 (pf (v:=.bool (!(gL (cH bs (aX,aY)) 1 (aF bs (dQ,eB) (4:Int).toNat) [] (aL (aF bs (bC,bD) (2:Int).toNat)) (bT (gH bs (eR,eS)))))) r0 r0) (nn (cd r0 (fun h7=>?_) (fun h7=>?_))))
 ·have h8:=dX h7
  refine sr (qt r0 (bQ (v:=.agg #[I 0,I 0,ns,aA [],I 0,aA []]) [] r0) (sG iR lL 0 r0 hH (fun vL mY=>tA (I 0) r0 (tA (.bool false) r0 (nn ?_)))))
  have lN:SH w vL [] [.blk b1 79 iR]:=mY.pk [3] r0
  refine rt (tR (bO (cX lN 0 r0 r0 hH r0 (.tmp (.tmp .nil))) r0 ?_))
  have mS:=lN.nl [Z0] r0
  have e5:gW bs=(0,false):=by exact(S2 p3 p6 p9 nY pC ‹_›).trans (b0 (fun hh=>by have h_:=hh.1; simp_all; done))
  rw[e5]
  exact⟨none,0,0,0,([]:aC),[],0,[],rfl,(mS.pk [1] r0)⟩
 have h9:=dY h7
 refine sk (nN (sq ?_))
 refine kA (fun w'=>∃ L,SH w w' [] L∧(.blk g1 156 [(Z4 Abs bs cbs),I (iJ:Int),.bool jC])∈L∧(.blk b3 79 [I (cH bs (aX,aY)),I 1,.slice A1 ((aF bs (dQ,eB) (4:Int).toNat).length) c1,aA [],I (aL (aF bs (bC,bD) (2:Int).toNat)),aA (bT (gH bs (eR,eS)))])∈L∧True) (fun f w'=>Hz f [(2,pB b1),(3,I (iJ:Int)),(4,.bool true)]∧SH w w' [] [.blk b1 79 [I (cH bs (aX,aY)),I 1,.slice A1 ((aF bs (dQ,eB) (4:Int).toNat).length) c1,aA [],I (aL (aF bs (bC,bD) (2:Int).toNat)),aA (bT (gH bs (eR,eS)))],.own A1 ((aF bs (dQ,eB) (4:Int).toNat).length) c1 3 1 ((aF bs (dQ,eB) (4:Int).toNat).map I),.blk g1 156 [(Z4 Abs bs cbs),I (iJ:Int),.bool jC],.blk b3 79 [I (cH bs (aX,aY)),I 1,.slice A1 ((aF bs (dQ,eB) (4:Int).toNat).length) c1,aA [],I (aL (aF bs (bC,bD) (2:Int).toNat)),aA (bT (gH bs (eR,eS)))]]) mixed ?_ ?_
 ·refine dG 3 8 31 (fun f w'=>Hz f [(2,pB b1),(3,I 0),(4,.bool false),(46,.agg #[I (cH bs (aX,aY)),I 1,.slice A1 ((aF bs (dQ,eB) (4:Int).toNat).length) c1,aA [],I (aL (aF bs (bC,bD) (2:Int).toNat)),aA (bT (gH bs (eR,eS)))]),(50,I (iJ:Int))]∧SH w w' [] [.blk b1 79 iR,.own A1 ((aF bs (dQ,eB) (4:Int).toNat).length) c1 3 1 ((aF bs (dQ,eB) (4:Int).toNat).map I),.blk g1 156 [(Z4 Abs bs cbs),I (iJ:Int),.bool jC],.blk b3 79 [I (cH bs (aX,aY)),I 1,.slice A1 ((aF bs (dQ,eB) (4:Int).toNat).length) c1,aA [],I (aL (aF bs (bC,bD) (2:Int).toNat)),aA (bT (gH bs (eR,eS)))]]) ?_ (fun D_11_0=>?_)
  ·rintro f vM ⟨⟨g4,rfl⟩,mZ⟩
   refine aO 5 r0 (sG [I (cH bs (aX,aY)),I 1,.slice A1 ((aF bs (dQ,eB) (4:Int).toNat).length) c1,aA [],I (aL (aF bs (bC,bD) (2:Int).toNat)),aA (bT (gH bs (eR,eS)))] mZ 0 r0 hH (fun B5 m0=>nk ⟨_,m0,cC 1 r0,cC 2 r0,aH⟩ (tQ (fuel:=0) (is:=[6,7]) (.cons r0 (.cons r0 (.nil))) ⟨_,m0,cC 1 r0,cC 2 r0,aH⟩ (yA r0 (fW (v:=I (iJ:Int)) r0) (yA r0 (fW (v:=.bool true) r0) (.nil (aQ ?_)))))))
   exact⟨(zR r0),(m0.pk [3,0,1,2] r0)⟩
  have oE:=lL.drew
  exact tQ (fuel:=3) (is:=[0,1,2,3,4]) (.cons r0 (.cons r0 (.cons r0 (.cons r0 (.cons r0 (.nil)))))) ⟨_,oE,cC 2 r0,cC 3 r0,aH⟩ (yB r0 (fun ⟨Lq,aU,dH,j0,_⟩=>rD (vs:=[I (cH bs (aX,aY)),I 1,.slice A1 ((aF bs (dQ,eB) (4:Int).toNat).length) c1,aA [],I (aL (aF bs (bC,bD) (2:Int).toNat)),aA (bT (gH bs (eR,eS)))]) aU j0 r0 r0 r0 hH) (yA r0 (mv (v:=pB g1) r0) (yA r0 (nc r0) (yA r0 (fa 1 vW r0) (yB r0 (fun ⟨Lq,aU,dH,j0,_⟩=>lM (I (iJ:Int)) aU dH r0 cN) (.nil (bS D_11_0 ⟨(zR r0),oE⟩)))))))
 rintro f AJ ⟨⟨g5,rfl⟩,oV⟩
 refine nN ?_
 have qI:SH w AJ [] [.blk b1 79 [I (cH bs (aX,aY)),I 1,.slice A1 ((aF bs (dQ,eB) (4:Int).toNat).length) c1,aA [],I (aL (aF bs (bC,bD) (2:Int).toNat)),aA (bT (gH bs (eR,eS)))],.own A1 ((aF bs (dQ,eB) (4:Int).toNat).length) c1 3 1 ((aF bs (dQ,eB) (4:Int).toNat).map I)]:=oV.pk [0,1] r0
 refine rt (bO (cX qI 0 r0 r0 hH r0 (.tmp (.tmp .nil))) r0 ?_)
 have e6:gW bs=((iJ:Int),true):=by exact(S2 p3 p6 p9 nY pC ‹_›).trans (cF ⟨by assumption,by assumption⟩)
 rw[e6]
 exact⟨A1,c1,cH bs (aX,aY),1,aF bs (dQ,eB) (4:Int).toNat,[],aL (aF bs (bC,bD) (2:Int).toNat),bT (gH bs (eR,eS)),rfl,(qI.pk [1] r0)⟩
theorem Tz {Abs:aM} {cbs:Nat} (bs:aC) (w:World) (hbs:Sl w [] 1 Abs bs.length cbs (bs.map I)):bF prog 194 [.slice Abs bs.length cbs] w (fun v w'=>∃ Atr:aM,∃ ntr:Nat,∃ ctr:Nat,v=.tuple #[.slice Atr ntr ctr,.bool (kX bs)]∧SH w w' [] []):=by
 refine fQ 68 func194 r0 r0 ?_
 have aK:=SH.refl w []
 have nW:bs.length≤9223372036854775807:=cB hbs.cap hbs.cO
 refine sr (tA ns r0 (tA (.bool false) r0 (nx (cR aK pD [] [] aH r0 (fun b1 w1 aE=>tA (sb b1 (([]:List dL).length) 0) r0 (nn (sq (sr (tm (cD Abs bs cbs) r0 (cS aE r0 (wU _ _ (hbs.aP aE)) (fun w2 aI=>qt r0 (nt r0) (nn (cd r0 (fun h1=>?_) (fun h1=>?_))))))))))))))
 ·have h2:=dX h1
  refine sr (tm (sb b1 (([]:List dL).length) 0) r0 (tA (sb b1 (([]:List dL).length) 0) r0 (tA (.bool false) r0 (nn (rt (tR (bO (.tmp (.tmp .nil)) r0 ?_)))))))
  have e1:false=kX bs:=by exact(Db ‹_›).symm
  exact⟨(Z7 b1),([]:List dL).length,0,(kE r0 (aS (Value.bool) e1)),(aI.pk [] r0)⟩
 have h3:=dY h1
 refine sk (nN (sr (tA (I 0) r0 (nn (sq (bl ?_))))))
 have aN:SH w w2 [] [.own (Z7 b1) (([]:List dL).length) 0 177 2 (([]:List dL).flatMap mD),.rows 3 ([]:List Hd)]:=aI.Ag 3
 have e2:([]:List Hd)=(([]:List dL).map Prod.snd):=by rfl
 refine lp (σ:=(aM)×Nat×Nat×(List dL)) (fun⟨iQ,iT,k,tg⟩ f w'=>Hz f [(0,.slice Abs bs.length cbs),(4,.slice iQ tg.length iT),(5,I (k:Int))]∧(k≤bs.length)∧(mG bs=(mG (bs.drop k)).map (n0 tg++ ·))∧(tg.length≤k)∧SH w w' [] [.own iQ tg.length iT 177 2 (tg.flatMap mD),.rows 3 (tg.map Prod.snd)]) (fun⟨iQ,iT,k,tg⟩=>bs.length-k) ((Z7 b1),0,0,([]:List dL)) ⟨(zH ⟨rfl,rfl,(show (I 0:Value)=I ((0:Nat):Int) from aS (Value.int .i64) (by rfl)),aH⟩),(by omega),(by simp[n0]),(by simp),(aN.cast (lc r0 (lc (aS (It.rows 3) e2) r0)))⟩ ?_
 rintro ⟨iQ,iT,k,tg⟩ f w3 ⟨⟨g1,rfl⟩,hk,hz,hg,aR⟩
 refine sq (sr (tm (I (k:Int)) r0 (tm (cD Abs bs cbs) r0 (qt r0 (dK aV r0) (qt r0 (lss r0 r0) (nl (nN (bI r0 (fun h4=>?_) (fun h4=>?_)))))))))
 ·refine sk (nN (bl (sq (sr (tm (cD Abs bs cbs) r0 (qt r0 (dK aV r0) (tm (I (k:Int)) r0 (qt r0 (sub r0 r0 (by exact⟨by omega,by omega⟩)) (qt r0 (lss r0 r0) (tm (.bool (decide (((bs.length:Int)-(k:Int))<3))) r0 (fF 21 r0 (fun h5=>?_) (fun h5=>?_))))))))))))
  ·refine aT r0 (aT r0 (aT r0 (aT r0 (aT r0 (aT r0 (aT r0 (aT r0 (aT r0 (aT r0 (aT r0 (aT r0 (aT r0 (qt r0 (pt (v:=.bool true) r0 r0) (nn (fX r0 (sr (cR aR pD [] [] aH r0 (fun b2 w4 aZ=>tA (sb b2 (([]:List dL).length) 0) r0 (tA (.bool false) r0 (nn (rt (tR (bR (tR (bR (tR (bO (.tmp (.tmp .nil)) r0 ?_)))))))))))))))))))))))))))
   have e3:false=kX bs:=by exact(Da hz (by omega) (by omega)).symm
   exact⟨(Z7 b2),([]:List dL).length,0,(kE r0 (aS (Value.bool) e3)),(aZ.pk [] r0)⟩
  have hob:=KV (by assumption:bJ bs=true) k
  have hbl:=hZ (by assumption:bJ bs=true)
  refine qh r0 (mv (v:=.slice Abs bs.length cbs) r0) (qh r0 (mv (v:=I (k:Int)) r0) (qh r0 (add r0 r0 (by(exact⟨by omega,by omega⟩))) (qh r0 (mv (v:=I (k:Int)) r0) (qh r0 (add r0 r0 (by(exact⟨by omega,by omega⟩))) (qh r0 (pK (zs:=bs) (k+1) (k+3) aV r0 r0 r0 (by omega) (by omega) hbs.cap) (cl ⟨_,rfl,rfl⟩ r0 (wB _ _ (Sl.lZ (hbs.aP aR) (by omega) (by omega)) (by exact wE ‹_›) (by((try simp only[fC,dV]); omega))) ?_))))))
  rintro _ w5 ⟨rfl,bG⟩
  replace bG:=aR.cJ bG
  refine qh r0 (mv (v:=.slice Abs bs.length cbs) r0) (qh r0 (dK aV r0) (qh r0 (mv (v:=I (k:Int)) r0) (qh r0 (sub r0 r0 (by exact⟨by omega,by omega⟩)) (qh r0 (sub r0 r0 (by exact⟨by omega,by omega⟩)) (qh r0 (gtr r0 r0) (qt r0 (pf (v:=.bool (decide ((((bs.length:Int)-(k:Int))-3)<(aL ((bs.take (k+3)).drop (k+1)))))) r0 r0) (nl (nN (bI r0 (fun h6=>?_) (fun h6=>?_))))))))))
  ·refine sr (cR bG pD [] [] aH r0 (fun b3 w6 bU=>tA (sb b3 (([]:List dL).length) 0) r0 (tA (.bool false) r0 (nn (rt (tR (bR (tR (bR (tR (bO (.tmp (.tmp .nil)) r0 ?_)))))))))))
   have e4:false=kX bs:=by exact(Da hz (by omega) (by omega)).symm
   exact⟨(Z7 b3),([]:List dL).length,0,(kE r0 (aS (Value.bool) e4)),(bU.pk [] r0)⟩
  refine sk (nN (sr (tm (I (k:Int)) r0 (qt r0 (add r0 r0 (by(exact⟨by omega,by omega⟩))) (tm (cD Abs bs cbs) r0 (tm (I (k:Int)) r0 (qt r0 (add r0 r0 (by(exact⟨by omega,by omega⟩))) (tm (I (k:Int)) r0 (qt r0 (add r0 r0 (by(exact⟨by omega,by omega⟩))) (qt r0 (pK (zs:=bs) (k+1) (k+3) aV r0 r0 r0 (by omega) (by omega) hbs.cap) (cS bG r0 (wB _ _ (Sl.lZ (hbs.aP bG) (by omega) (by omega)) (by exact wE ‹_›) (by((try simp only[fC,dV]); omega))) (fun w7 bV=>qt r0 (add r0 r0 (by(exact⟨by omega,by omega⟩))) (tA (I (((k:Int)+3)+(aL ((bs.take (k+3)).drop (k+1))))) r0 (nn (sq ?_)))))))))))))))
  refine kA (fun w'=>∃ L,SH w w' [] L∧True) (fun f w'=>∃ (kJ:aM) (kK xQ:Nat) (AM:aM) (AU:Nat),Hz f [(0,.slice Abs bs.length cbs),(4,.slice AM ((tg++([((bs.getD k 0,(⟨kJ,kK,(bs.take ((((k:Int)+3)+(aL ((bs.take (k+3)).drop (k+1)))).toNat)).drop (k+3)⟩:Hd)):dL)]:List dL)).length) AU),(6,I (((k:Int)+3)+(aL ((bs.take (k+3)).drop (k+1))))),(22,.slice Abs bs.length cbs),(23,I (k:Int)),(24,I ((k:Int)+1)),(25,I (k:Int)),(26,I ((k:Int)+3)),(27,.slice (if cbs=k+1 then Abs else Abs.map (·.add ((k+1)*1))) (((bs.take (k+3)).drop (k+1)).length) (cbs-(k+1))),(28,I (aL ((bs.take (k+3)).drop (k+1)))),(29,.slice Abs bs.length cbs),(30,I (bs.length:Int)),(31,I (k:Int)),(32,I ((bs.length:Int)-(k:Int))),(33,I (((bs.length:Int)-(k:Int))-3)),(34,.bool (decide ((((bs.length:Int)-(k:Int))-3)<(aL ((bs.take (k+3)).drop (k+1))))))]∧SH w w' [] [.own AM ((tg++([((bs.getD k 0,(⟨kJ,kK,(bs.take ((((k:Int)+3)+(aL ((bs.take (k+3)).drop (k+1)))).toNat)).drop (k+3)⟩:Hd)):dL)]:List dL)).length) AU 177 2 ((tg++([((bs.getD k 0,(⟨kJ,kK,(bs.take ((((k:Int)+3)+(aL ((bs.take (k+3)).drop (k+1)))).toNat)).drop (k+3)⟩:Hd)):dL)]:List dL)).flatMap mD),.rows 3 ((tg.map Prod.snd)++[(⟨kJ,kK,(bs.take ((((k:Int)+3)+(aL ((bs.take (k+3)).drop (k+1)))).toNat)).drop (k+3)⟩:Hd)]),.own (Z7 xQ) (([((bs.getD k 0,(⟨kJ,kK,(bs.take ((((k:Int)+3)+(aL ((bs.take (k+3)).drop (k+1)))).toNat)).drop (k+3)⟩:Hd)):dL)]:List dL).length) 1 177 2 (([((bs.getD k 0,(⟨kJ,kK,(bs.take ((((k:Int)+3)+(aL ((bs.take (k+3)).drop (k+1)))).toNat)).drop (k+3)⟩:Hd)):dL)]:List dL).flatMap mD)]) mixed ?_ ?_
  ·refine dG 2 16 16383 (fun f w'=>∃ (kJ:aM) (kK xQ:Nat),Hz f [(0,.slice Abs bs.length cbs),(4,.slice iQ tg.length iT),(6,I (((k:Int)+3)+(aL ((bs.take (k+3)).drop (k+1))))),(22,.slice Abs bs.length cbs),(23,I (k:Int)),(24,I ((k:Int)+1)),(25,I (k:Int)),(26,I ((k:Int)+3)),(27,.slice (if cbs=k+1 then Abs else Abs.map (·.add ((k+1)*1))) (((bs.take (k+3)).drop (k+1)).length) (cbs-(k+1))),(28,I (aL ((bs.take (k+3)).drop (k+1)))),(29,.slice Abs bs.length cbs),(30,I (bs.length:Int)),(31,I (k:Int)),(32,I ((bs.length:Int)-(k:Int))),(33,I (((bs.length:Int)-(k:Int))-3)),(34,.bool (decide ((((bs.length:Int)-(k:Int))-3)<(aL ((bs.take (k+3)).drop (k+1)))))),(47,.slice iQ tg.length iT),(60,sb xQ (([((bs.getD k 0,(⟨kJ,kK,(bs.take ((((k:Int)+3)+(aL ((bs.take (k+3)).drop (k+1)))).toNat)).drop (k+3)⟩:Hd)):dL)]:List dL).length) 1)]∧SH w w' [] [.own iQ tg.length iT 177 2 (tg.flatMap mD),.rows 3 (tg.map Prod.snd),.own (Z7 xQ) (([((bs.getD k 0,(⟨kJ,kK,(bs.take ((((k:Int)+3)+(aL ((bs.take (k+3)).drop (k+1)))).toNat)).drop (k+3)⟩:Hd)):dL)]:List dL).length) 1 177 2 (([((bs.getD k 0,(⟨kJ,kK,(bs.take ((((k:Int)+3)+(aL ((bs.take (k+3)).drop (k+1)))).toNat)).drop (k+3)⟩:Hd)):dL)]:List dL).flatMap mD),.own kJ (((bs.take ((((k:Int)+3)+(aL ((bs.take (k+3)).drop (k+1)))).toNat)).drop (k+3)).length) kK 3 1 (((bs.take ((((k:Int)+3)+(aL ((bs.take (k+3)).drop (k+1)))).toNat)).drop (k+3)).map I)]) ?_ (fun D_9_0=>?_)
   ·rintro f w8 ⟨kJ,kK,xQ,⟨g2,rfl⟩,b9⟩
    refine aO 14 r0 (JP (g:=mD) (ys:=tg) (zs:=([((bs.getD k 0,(⟨kJ,kK,(bs.take ((((k:Int)+3)+(aL ((bs.take (k+3)).drop (k+1)))).toNat)).drop (k+3)⟩:Hd)):dL)]:List dL)) b9 0 r0 pD r0 (by decide) r0 r0 (b9.cI 2 r0) (fun _=>rfl) (by unfold maxLen; ((try simp only[bH,bP,bK,fC,dV]); omega)) (by((try simp only[bH,bP,bK,fC,dV]); omega)) aH r0 (fun AM AU w9 cM=>?_))
    have cW:SH w w9 [] [.own (Z7 xQ) (([((bs.getD k 0,(⟨kJ,kK,(bs.take ((((k:Int)+3)+(aL ((bs.take (k+3)).drop (k+1)))).toNat)).drop (k+3)⟩:Hd)):dL)]:List dL).length) 1 177 2 (([((bs.getD k 0,(⟨kJ,kK,(bs.take ((((k:Int)+3)+(aL ((bs.take (k+3)).drop (k+1)))).toNat)).drop (k+3)⟩:Hd)):dL)]:List dL).flatMap mD),.own AM ((tg++([((bs.getD k 0,(⟨kJ,kK,(bs.take ((((k:Int)+3)+(aL ((bs.take (k+3)).drop (k+1)))).toNat)).drop (k+3)⟩:Hd)):dL)]:List dL)).length) AU 177 2 ((tg++([((bs.getD k 0,(⟨kJ,kK,(bs.take ((((k:Int)+3)+(aL ((bs.take (k+3)).drop (k+1)))).toNat)).drop (k+3)⟩:Hd)):dL)]:List dL)).flatMap mD),.rows 3 ((tg.map Prod.snd)++[(⟨kJ,kK,(bs.take ((((k:Int)+3)+(aL ((bs.take (k+3)).drop (k+1)))).toNat)).drop (k+3)⟩:Hd)])]:=SH.Ah (e:=3) (us:=(tg.map Prod.snd)) (L:=[.own (Z7 xQ) (([((bs.getD k 0,(⟨kJ,kK,(bs.take ((((k:Int)+3)+(aL ((bs.take (k+3)).drop (k+1)))).toNat)).drop (k+3)⟩:Hd)):dL)]:List dL).length) 1 177 2 (([((bs.getD k 0,(⟨kJ,kK,(bs.take ((((k:Int)+3)+(aL ((bs.take (k+3)).drop (k+1)))).toNat)).drop (k+3)⟩:Hd)):dL)]:List dL).flatMap mD),.own AM ((tg++([((bs.getD k 0,(⟨kJ,kK,(bs.take ((((k:Int)+3)+(aL ((bs.take (k+3)).drop (k+1)))).toNat)).drop (k+3)⟩:Hd)):dL)]:List dL)).length) AU 177 2 ((tg++([((bs.getD k 0,(⟨kJ,kK,(bs.take ((((k:Int)+3)+(aL ((bs.take (k+3)).drop (k+1)))).toNat)).drop (k+3)⟩:Hd)):dL)]:List dL)).flatMap mD)]) kJ kK ((bs.take ((((k:Int)+3)+(aL ((bs.take (k+3)).drop (k+1)))).toNat)).drop (k+3)) (cM.pk [0,2,1,3] r0)
    refine nk ⟨_,cW,aH⟩ (tQ (fuel:=0) (is:=[15]) (.cons r0 (.nil)) ⟨_,cW,aH⟩ (yA r0 (fW (v:=.slice AM ((tg++([((bs.getD k 0,(⟨kJ,kK,(bs.take ((((k:Int)+3)+(aL ((bs.take (k+3)).drop (k+1)))).toNat)).drop (k+3)⟩:Hd)):dL)]:List dL)).length) AU) r0) (.nil (aQ ?_))))
    exact⟨kJ,kK,xQ,AM,AU,(zR r0),(cW.pk [1,2,0] r0)⟩
   refine dG 3 16 8191 (fun f w'=>∃ (kJ:aM) (kK:Nat),Hz f [(0,.slice Abs bs.length cbs),(4,.slice iQ tg.length iT),(6,I (((k:Int)+3)+(aL ((bs.take (k+3)).drop (k+1))))),(22,.slice Abs bs.length cbs),(23,I (k:Int)),(24,I ((k:Int)+1)),(25,I (k:Int)),(26,I ((k:Int)+3)),(27,.slice (if cbs=k+1 then Abs else Abs.map (·.add ((k+1)*1))) (((bs.take (k+3)).drop (k+1)).length) (cbs-(k+1))),(28,I (aL ((bs.take (k+3)).drop (k+1)))),(29,.slice Abs bs.length cbs),(30,I (bs.length:Int)),(31,I (k:Int)),(32,I ((bs.length:Int)-(k:Int))),(33,I (((bs.length:Int)-(k:Int))-3)),(34,.bool (decide ((((bs.length:Int)-(k:Int))-3)<(aL ((bs.take (k+3)).drop (k+1)))))),(47,.slice iQ tg.length iT),(59,.agg #[I (bs.getD k 0),.slice kJ (((bs.take ((((k:Int)+3)+(aL ((bs.take (k+3)).drop (k+1)))).toNat)).drop (k+3)).length) kK])]∧SH w w' [] [.own iQ tg.length iT 177 2 (tg.flatMap mD),.rows 3 (tg.map Prod.snd),.own kJ (((bs.take ((((k:Int)+3)+(aL ((bs.take (k+3)).drop (k+1)))).toNat)).drop (k+3)).length) kK 3 1 (((bs.take ((((k:Int)+3)+(aL ((bs.take (k+3)).drop (k+1)))).toNat)).drop (k+3)).map I)]) ?_ (fun D_9_1=>?_)
   ·rintro f kF ⟨kJ,kK,⟨g3,rfl⟩,dB⟩
    exact aO 13 r0 (cR dB pD [.agg #[I (bs.getD k 0),.slice kJ (((bs.take ((((k:Int)+3)+(aL ((bs.take (k+3)).drop (k+1)))).toNat)).drop (k+3)).length) kK]] [I (bs.getD k 0),.slice kJ (((bs.take ((((k:Int)+3)+(aL ((bs.take (k+3)).drop (k+1)))).toNat)).drop (k+3)).length) kK] aH r0 (fun xQ kB cY=>nk ⟨_,cY,aH⟩ (bS D_9_0 ⟨kJ,kK,xQ,(zR r0),(cY.pk [0,1,3,2] r0)⟩)))
   refine dG 5 16 2047 (fun f w'=>∃ (nS:Nat),Hz f [(0,.slice Abs bs.length cbs),(4,.slice iQ tg.length iT),(6,I (((k:Int)+3)+(aL ((bs.take (k+3)).drop (k+1))))),(22,.slice Abs bs.length cbs),(23,I (k:Int)),(24,I ((k:Int)+1)),(25,I (k:Int)),(26,I ((k:Int)+3)),(27,.slice (if cbs=k+1 then Abs else Abs.map (·.add ((k+1)*1))) (((bs.take (k+3)).drop (k+1)).length) (cbs-(k+1))),(28,I (aL ((bs.take (k+3)).drop (k+1)))),(29,.slice Abs bs.length cbs),(30,I (bs.length:Int)),(31,I (k:Int)),(32,I ((bs.length:Int)-(k:Int))),(33,I (((bs.length:Int)-(k:Int))-3)),(34,.bool (decide ((((bs.length:Int)-(k:Int))-3)<(aL ((bs.take (k+3)).drop (k+1)))))),(47,.slice iQ tg.length iT),(51,I (bs.getD k 0)),(52,sb nS (([]:aC).length) 0),(57,.slice (if cbs=k+3 then Abs else Abs.map (·.add ((k+3)*1))) (((bs.take ((((k:Int)+3)+(aL ((bs.take (k+3)).drop (k+1)))).toNat)).drop (k+3)).length) (cbs-(k+3)))]∧SH w w' [] [.own iQ tg.length iT 177 2 (tg.flatMap mD),.rows 3 (tg.map Prod.snd),(oZ nS)]) ?_ (fun D_9_2=>?_)
   ·rintro f kI ⟨nS,⟨g4,rfl⟩,dJ⟩
    exact aO 11 r0 (gI (g:=I) (ys:=([]:aC)) (zs:=(bs.take ((((k:Int)+3)+(aL ((bs.take (k+3)).drop (k+1)))).toNat)).drop (k+3)) dJ 2 r0 aV r0 r0 r0 (Sl.lZ (hbs.aP dJ) (by omega) (by omega)) (fun _=>rfl) (by unfold maxLen; ((try simp only[bH,bP,bK,fC,dV]); omega)) (by((try simp only[bH,bP,bK,fC,dV]); omega)) aH r0 (fun kJ kK lU dM=>nk ⟨_,dM,aH⟩ (tQ (fuel:=3) (is:=[12]) (.cons r0 (.nil)) ⟨_,dM,aH⟩ (yA r0 (bQ (v:=.agg #[I (bs.getD k 0),.slice kJ (((bs.take ((((k:Int)+3)+(aL ((bs.take (k+3)).drop (k+1)))).toNat)).drop (k+3)).length) kK]) [(0,I (bs.getD k 0)),(1,.slice kJ (((bs.take ((((k:Int)+3)+(aL ((bs.take (k+3)).drop (k+1)))).toNat)).drop (k+3)).length) kK)] r0) (.nil (bS D_9_1 ⟨kJ,kK,(zR r0),dM⟩))))))
   refine dG 6 16 2015 (fun f w'=>Hz f [(0,.slice Abs bs.length cbs),(4,.slice iQ tg.length iT),(6,I (((k:Int)+3)+(aL ((bs.take (k+3)).drop (k+1))))),(22,.slice Abs bs.length cbs),(23,I (k:Int)),(24,I ((k:Int)+1)),(25,I (k:Int)),(26,I ((k:Int)+3)),(27,.slice (if cbs=k+1 then Abs else Abs.map (·.add ((k+1)*1))) (((bs.take (k+3)).drop (k+1)).length) (cbs-(k+1))),(28,I (aL ((bs.take (k+3)).drop (k+1)))),(29,.slice Abs bs.length cbs),(30,I (bs.length:Int)),(31,I (k:Int)),(32,I ((bs.length:Int)-(k:Int))),(33,I (((bs.length:Int)-(k:Int))-3)),(34,.bool (decide ((((bs.length:Int)-(k:Int))-3)<(aL ((bs.take (k+3)).drop (k+1)))))),(47,.slice iQ tg.length iT),(51,I (bs.getD k 0)),(57,.slice (if cbs=k+3 then Abs else Abs.map (·.add ((k+3)*1))) (((bs.take ((((k:Int)+3)+(aL ((bs.take (k+3)).drop (k+1)))).toNat)).drop (k+3)).length) (cbs-(k+3)))]∧SH w w' [] [.own iQ tg.length iT 177 2 (tg.flatMap mD),.rows 3 (tg.map Prod.snd)]) ?_ (fun D_9_3=>?_)
   ·rintro f mH ⟨⟨g5,rfl⟩,eO⟩
    exact aO 5 r0 (cR eO aV [] [] aH r0 (fun nS mI eK=>nk ⟨_,eK,aH⟩ (bS D_9_2 ⟨nS,(zR r0),eK⟩)))
   have eZ:=bV.drew
   exact tQ (fuel:=6) (is:=[0,1,2,3,4,6,7,8,9,10]) (.cons r0 (.cons r0 (.cons r0 (.cons r0 (.cons r0 (.cons r0 (.cons r0 (.cons r0 (.cons r0 (.cons r0 (.nil))))))))))) ⟨_,eZ,aH⟩ (yA r0 (mv (v:=.slice iQ tg.length iT) r0) (yA r0 (mv (v:=.slice Abs bs.length cbs) r0) (yA r0 (mv (v:=I (k:Int)) r0) (N4 k aV r0 r0 hbs (by omega) (eQ I 0 (by omega)) aH r0 (fun a1 eL=>yB r0 (fun ⟨Lq,aU,_⟩=>eW aU eL (fun _ h=>h) r0 r0 cN) (yA r0 (mv (v:=.slice Abs bs.length cbs) r0) (yA r0 (mv (v:=I (k:Int)) r0) (yA r0 (add r0 r0 (by(exact⟨by omega,by omega⟩))) (yA r0 (mv (v:=I (((k:Int)+3)+(aL ((bs.take (k+3)).drop (k+1))))) r0) (yA r0 (pK (zs:=bs) (k+3) ((((k:Int)+3)+(aL ((bs.take (k+3)).drop (k+1)))).toNat) aV r0 r0 (jK (x:=((k:Int)+3)+(aL ((bs.take (k+3)).drop (k+1)))) (by omega)) (by omega) (by omega) hbs.cap) (.nil (bS D_9_3 ⟨(zR r0),eZ⟩))))))))))))
  rintro f mU ⟨kJ,kK,xQ,AM,AU,⟨g6,rfl⟩,fV⟩
  refine nN (rg (tm (I (((k:Int)+3)+(aL ((bs.take (k+3)).drop (k+1))))) r0 (tA (I (((k:Int)+3)+(aL ((bs.take (k+3)).drop (k+1))))) r0 (nl (bN (nN ?_))))))
  have e5:(tg.map Prod.snd)++[(⟨kJ,kK,(bs.take ((((k:Int)+3)+(aL ((bs.take (k+3)).drop (k+1)))).toNat)).drop (k+3)⟩:Hd)]=((tg++([((bs.getD k 0,(⟨kJ,kK,(bs.take ((((k:Int)+3)+(aL ((bs.take (k+3)).drop (k+1)))).toNat)).drop (k+3)⟩:Hd)):dL)]:List dL)).map Prod.snd):=by simp
  refine⟨(AM,AU,((((k:Int)+3)+(aL ((bs.take (k+3)).drop (k+1))))).toNat,(tg++([((bs.getD k 0,(⟨kJ,kK,(bs.take ((((k:Int)+3)+(aL ((bs.take (k+3)).drop (k+1)))).toNat)).drop (k+3)⟩:Hd)):dL)]:List dL))),⟨(zH ⟨rfl,rfl,(show (I (((k:Int)+3)+(aL ((bs.take (k+3)).drop (k+1)))):Value)=I (((((((k:Int)+3)+(aL ((bs.take (k+3)).drop (k+1))))).toNat):Nat):Int) from aS (Value.int .i64) (by omega)),aH⟩),(by omega),(by exact Xl hz (by omega) r0 (by omega) (by omega) r0),(by (try simp only[bH,bP,bK]); omega),((fV.pq [0,1] r0).cast (lc r0 (lc (aS (It.rows 3) e5) r0)))⟩,?_⟩
  show bs.length-(((((k:Int)+3)+(aL ((bs.take (k+3)).drop (k+1))))).toNat)<bs.length-k
  (have hob:=KV (by assumption:bJ bs=true) k; have hbl:=hZ (by assumption:bJ bs=true); omega)
 refine ex (tE (tE (bE (nN (sq (sr (tm (.slice iQ tg.length iT) r0 (cS aR r0 (Sy _ _ (aR.cI 0 r0) (fun u hu=>aR.TA 1 r0 (List.mem_map_of_mem (f:=Prod.snd) hu))) (fun n6 fD=>qt r0 (nt r0) (nn (cd r0 (fun h7=>?_) (fun h7=>?_))))))))))))
 ·have h8:=dX h7
  refine sr (cR fD pD [] [] aH r0 (fun b4 m9 gK=>tA (sb b4 (([]:List dL).length) 0) r0 (tA (.bool false) r0 (nn (rt (tR (bO (.tmp (.tmp .nil)) r0 ?_)))))))
  have e6:false=kX bs:=by exact((PX ‹_› hz (by omega)).trans ‹_›).symm
  exact⟨(Z7 b4),([]:List dL).length,0,(kE r0 (aS (Value.bool) e6)),(gK.pk [] r0)⟩
 have h9:=dY h7
 refine sk (nN (sr (tm (.slice iQ tg.length iT) r0 (tA (.slice iQ tg.length iT) r0 (tA (.bool true) r0 (nl (nN (rt (bO (.tmp (.tmp .nil)) r0 ?_)))))))))
 have e7:true=kX bs:=by exact((PX ‹_› hz (by omega)).trans ‹_›).symm
 exact⟨iQ,tg.length,iT,(kE r0 (aS (Value.bool) e7)),(fD.pk [] r0)⟩
theorem Sq {Abs:aM} {cbs:Nat} (bs:aC) (w:World) (hbs:Sl w [] 1 Abs bs.length cbs (bs.map I)):bF prog 143 [.slice Abs bs.length cbs] w (fun v w'=>∃ Aqar:aM,∃ cqar:Nat,∃ Aqbr:aM,∃ cqbr:Nat,∃ Atr:aM,∃ ntr:Nat,∃ ctr:Nat,∃ ka:Int,∃ qa:aC,∃ na:aD,∃ pa:Int,∃ kb:Int,∃ qb:aC,∃ nb:aD,∃ pb:Int,v=.tuple #[.agg #[.int .i64 ka,.slice Aqar qa.length cqar,aA na,.int .i64 pa,.int .i64 kb,.slice Aqbr qb.length cqbr,aA nb,.int .i64 pb],.slice Atr ntr ctr,.int .i64 ((iD bs).1),.bool ((iD bs).2)]∧SH w w' [] [.own Aqar qa.length cqar 3 1 (qa.map I),.own Aqbr qb.length cqbr 3 1 (qb.map I)]):=by
 refine fQ 73 func143 r0 r0 ?_
 have aK:=SH.refl w []
 have nW:bs.length≤9223372036854775807:=cB hbs.cap hbs.cO
 refine sr (al (cs:=Z5) aK tK r0 aH r0 (fun b1 w1 aE=>tA ns r0 (tA (I 0) r0 (tA (.bool false) r0 (nn (sq (sr (tm (cD Abs bs cbs) r0 (cS aE r0 (wU _ _ (hbs.aP aE)) (fun w2 aI=>qt r0 (nt r0) (tm (xK bs) r0 (hP 13 r0 (fun h1=>?_) (fun h1=>?_)))))))))))))
 ·have h2:=dX h1
  refine aT r0 (aT r0 (aT r0 (qt r0 (pt (v:=.bool true) r0 r0) (tm (.bool true) r0 (aT r0 (aT r0 (aT r0 (qt r0 (pt (v:=.bool true) r0 r0) (nn (fX r0 (sr (qt r0 (bQ (v:=.agg #[I 0,ns,aA [],I 0,I 0,ns,aA [],I 0]) [] r0) (cR aI pD [] [] aH r0 (fun b2 w3 aN=>sG Z5 aN 0 r0 iA (fun w4 aR=>tA (sb b2 (([]:List dL).length) 0) r0 (tA (I 0) r0 (tA (.bool false) r0 (nn (rt (tR (bO (cX aR 1 r0 r0 iA r0 (.tmp (.tmp (.tmp .nil)))) r0 ?_)))))))))))))))))))))
  have aZ:=aR.nl [Z0] r0
  have bG:=aZ.nl [Z0] r0
  have e1:iD bs=(0,false):=by exact HS (.inl ‹_›)
  rw[e1]
  exact⟨none,0,none,0,(Z7 b2),([]:List dL).length,0,0,([]:aC),[],0,0,([]:aC),[],0,rfl,(bG.pk [2,3] r0)⟩
 have h3:=dY h1
 refine qh r0 (mv (v:=.slice Abs bs.length cbs) r0) (qh r0 (dK aV r0) (qh r0 (lss r0 r0) (qt r0 (pf (v:=.bool (decide ((bs.length:Int)<28))) r0 r0) (tm (.bool (decide ((bs.length:Int)<28))) r0 (fF 18 r0 (fun h4=>?_) (fun h4=>?_))))))
 ·refine aT r0 (aT r0 (aT r0 (qt r0 (pt (v:=.bool true) r0 r0) (nn (fX r0 (sq (rg (qt r0 (bQ (v:=.agg #[I 0,ns,aA [],I 0,I 0,ns,aA [],I 0]) [] r0) (cR aI pD [] [] aH r0 (fun b3 w5 bU=>sG Z5 bU 0 r0 iA (fun w6 bV=>tA (sb b3 (([]:List dL).length) 0) r0 (tA (I 0) r0 (tA (.bool false) r0 (nn (rt (tR (bO (cX bV 1 r0 r0 iA r0 (.tmp (.tmp (.tmp .nil)))) r0 ?_)))))))))))))))))
  have b9:=bV.nl [Z0] r0
  have cM:=b9.nl [Z0] r0
  have e2:iD bs=(0,false):=by exact HS (.inr (.inl (by omega)))
  rw[e2]
  exact⟨none,0,none,0,(Z7 b3),([]:List dL).length,0,0,([]:aC),[],0,0,([]:aC),[],0,rfl,(cM.pk [2,3] r0)⟩
 refine qh r0 (mv (v:=.slice Abs bs.length cbs) r0) (cl ⟨_,rfl,rfl⟩ r0 (Ay _ _ (hbs.aP aI)) ?_)
 rintro _ w7 ⟨rfl,cW⟩
 replace cW:=aI.cJ cW
 refine qh r0 (nt r0) (qt r0 (pf (v:=.bool (!(oA bs eD))) r0 r0) (nn (cd r0 (fun h5=>?_) (fun h5=>?_))))
 ·have h6:=dX h5
  refine sr (qt r0 (bQ (v:=.agg #[I 0,ns,aA [],I 0,I 0,ns,aA [],I 0]) [] r0) (cR cW pD [] [] aH r0 (fun b4 w8 dB=>sG Z5 dB 0 r0 iA (fun w9 cY=>tA (sb b4 (([]:List dL).length) 0) r0 (tA (I 0) r0 (tA (.bool false) r0 (nn (rt (tR (bO (cX cY 1 r0 r0 iA r0 (.tmp (.tmp (.tmp .nil)))) r0 ?_))))))))))
  have dJ:=cY.nl [Z0] r0
  have dM:=dJ.nl [Z0] r0
  have e3:iD bs=(0,false):=by exact HS (.inr (.inr (.inl ‹_›)))
  rw[e3]
  exact⟨none,0,none,0,(Z7 b4),([]:List dL).length,0,0,([]:aC),[],0,0,([]:aC),[],0,rfl,(dM.pk [2,3] r0)⟩
 have h7:=dY h5
 refine sk (nN (sr (tm (cD Abs bs cbs) r0 (qt r0 (pK (zs:=bs) 14 16 aV r0 r0 r0 (by omega) (by omega) hbs.cap) (cS cW r0 (wB _ _ (Sl.lZ (hbs.aP cW) (by omega) (by omega)) (by exact wE ‹_›) (by((try simp only[fC,dV]); omega))) (fun kF eO=>tA (I (aL ((bs.take 16).drop 14))) r0 (nn (sq (sr (tm (I (aL ((bs.take 16).drop 14))) r0 (qt r0 (lss r0 r0) (tm (.bool (decide ((aL ((bs.take 16).drop 14))<12))) r0 (fF 30 r0 (fun h8=>?_) (fun h8=>?_))))))))))))))
 ·refine aT r0 (aT r0 (aT r0 (aT r0 (aT r0 (qt r0 (pt (v:=.bool true) r0 r0) (nn (fX r0 (sr (qt r0 (bQ (v:=.agg #[I 0,ns,aA [],I 0,I 0,ns,aA [],I 0]) [] r0) (cR eO pD [] [] aH r0 (fun b5 kB eK=>sG Z5 eK 0 r0 iA (fun kI eZ=>tA (sb b5 (([]:List dL).length) 0) r0 (tA (I 0) r0 (tA (.bool false) r0 (nn (rt (tR (bO (cX eZ 1 r0 r0 iA r0 (.tmp (.tmp (.tmp .nil)))) r0 ?_))))))))))))))))))
  have fV:=eZ.nl [Z0] r0
  have fD:=fV.nl [Z0] r0
  have e4:iD bs=(0,false):=by exact HS (.inr (.inr (.inr (.inl ‹_›))))
  rw[e4]
  exact⟨none,0,none,0,(Z7 b5),([]:List dL).length,0,0,([]:aC),[],0,0,([]:aC),[],0,rfl,(fD.pk [2,3] r0)⟩
 refine qh r0 (mv (v:=I (aL ((bs.take 16).drop 14))) r0) (qh r0 (mv (v:=.slice Abs bs.length cbs) r0) (qh r0 (dK aV r0) (qh r0 (sub r0 r0 (by exact⟨by omega,by omega⟩)) (qh r0 (gtr r0 r0) (qt r0 (pf (v:=.bool (decide (((bs.length:Int)-16)<(aL ((bs.take 16).drop 14))))) r0 r0) (nn (bI r0 (fun h9=>?_) (fun h9=>?_))))))))
 ·refine sr (qt r0 (bQ (v:=.agg #[I 0,ns,aA [],I 0,I 0,ns,aA [],I 0]) [] r0) (cR eO pD [] [] aH r0 (fun b6 lU gK=>sG Z5 gK 0 r0 iA (fun mH hU=>tA (sb b6 (([]:List dL).length) 0) r0 (tA (I 0) r0 (tA (.bool false) r0 (nn (rt (tR (bO (cX hU 1 r0 r0 iA r0 (.tmp (.tmp (.tmp .nil)))) r0 ?_))))))))))
  have iN:=hU.nl [Z0] r0
  have iB:=iN.nl [Z0] r0
  have e5:iD bs=(0,false):=by exact HS (.inr (.inr (.inr (.inr (.inl ‹_›)))))
  rw[e5]
  exact⟨none,0,none,0,(Z7 b6),([]:List dL).length,0,0,([]:aC),[],0,0,([]:aC),[],0,rfl,(iB.pk [2,3] r0)⟩
 have hbl:=hZ (by assumption:bJ bs=true)
 have hhc:=Kd (by assumption:bJ bs=true)
 refine sk (nN (sr (tm (cD Abs bs cbs) r0 (tm (I (aL ((bs.take 16).drop 14))) r0 (qt r0 (add r0 r0 (by(exact⟨by omega,by omega⟩))) (qt r0 (pK (zs:=bs) 28 ((16+(aL ((bs.take 16).drop 14))).toNat) aV r0 r0 (jK (x:=16+(aL ((bs.take 16).drop 14))) (by omega)) (by omega) (by omega) hbs.cap) (cL r0 (Tz _ _ (Sl.lZ (hbs.aP eO) (by omega) (by omega))) ?_)))))))
 rintro _ mI ⟨n8,oF,oC,rfl,iE⟩
 replace iE:=eO.cJ iE
 refine tm (.tuple #[.slice n8 oF oC,.bool (kX ((bs.take ((16+(aL ((bs.take 16).drop 14))).toNat)).drop 28))]) r0 (qt r0 (xt 0 r0 r0) (qt r0 (xt 1 r0 r0) (tA (.slice n8 oF oC) r0 (tA (.bool (kX ((bs.take ((16+(aL ((bs.take 16).drop 14))).toNat)).drop 28))) r0 (nn (sq (sr (tm (.bool (kX ((bs.take ((16+(aL ((bs.take 16).drop 14))).toNat)).drop 28))) r0 (qt r0 (nt r0) (nn (cd r0 (fun mR=>?_) (fun mR=>?_))))))))))))
 ·have vX:=dX mR
  refine sr (qt r0 (bQ (v:=.agg #[I 0,ns,aA [],I 0,I 0,ns,aA [],I 0]) [] r0) (cR iE pD [] [] aH r0 (fun b7 mU jB=>sG Z5 jB 0 r0 iA (fun n6 gV=>tA (sb b7 (([]:List dL).length) 0) r0 (tA (I 0) r0 (tA (.bool false) r0 (nn (rt (tR (bO (cX gV 1 r0 r0 iA r0 (.tmp (.tmp (.tmp .nil)))) r0 ?_))))))))))
  have kU:=gV.nl [Z0] r0
  have kV:=kU.nl [Z0] r0
  have e6:iD bs=(0,false):=by exact HS (.inr (.inr (.inr (.inr (.inr ‹_›)))))
  rw[e6]
  exact⟨none,0,none,0,(Z7 b7),([]:List dL).length,0,0,([]:aC),[],0,0,([]:aC),[],0,rfl,(kV.pk [2,3] r0)⟩
 have zU:=dY mR
 refine sk (nN (sq ?_))
 refine kA (fun w'=>∃ L,SH w w' [] L∧(.blk b1 135 Z5)∈L∧True) (fun f w'=>∃ (gS:Nat) (iP:aM) (iS:Nat),Hz f [(0,.slice Abs bs.length cbs),(2,pB b1),(6,I (aL ((bs.take 16).drop 14))),(7,.slice n8 oF oC),(9,pB gS)]∧SH w w' [] [.blk b1 135 Z5,(zD iP bs iS),.blk gS 135 [I 1,(rO iP bs iS),aA [],(rP bs),I 0,ns,aA [],I 0]]) mixed ?_ ?_
 ·refine dG 1 11 1023 (fun f w'=>∃ (gS:Nat) (iP:aM) (iS:Nat),Hz f [(0,.slice Abs bs.length cbs),(2,pB b1),(6,I (aL ((bs.take 16).drop 14))),(7,.slice n8 oF oC),(9,pB gS),(59,.agg #[I 1,(rO iP bs iS),aA [],(rP bs),I 0,ns,aA [],I 0])]∧SH w w' [] [.blk b1 135 Z5,(zD iP bs iS),.blk gS 135 Z5]) ?_ (fun D_9_0=>?_)
  ·rintro f m9 ⟨gS,iP,iS,⟨g1,rfl⟩,kY⟩
   refine aO 10 r0 (sG [I 1,(rO iP bs iS),aA [],(rP bs),I 0,ns,aA [],I 0] kY 2 r0 iA (fun qQ kH=>nk (m1 kH 0 r0) (aQ ?_)))
   exact⟨gS,iP,iS,(zR r0),kH⟩
  refine dG 2 11 511 (fun f w'=>∃ (iP:aM) (iS:Nat),Hz f [(0,.slice Abs bs.length cbs),(2,pB b1),(6,I (aL ((bs.take 16).drop 14))),(7,.slice n8 oF oC),(59,.agg #[I 1,(rO iP bs iS),aA [],(rP bs),I 0,ns,aA [],I 0])]∧SH w w' [] [.blk b1 135 Z5,(zD iP bs iS)]) ?_ (fun D_9_1=>?_)
  ·rintro f rJ ⟨iP,iS,⟨g2,rfl⟩,iU⟩
   exact aO 9 r0 (al (cs:=Z5) iU tK r0 aH r0 (fun gS tL mK=>nk (m1 mK 0 r0) (bS D_9_0 ⟨gS,iP,iS,(zR r0),mK⟩)))
  refine dG 4 11 575 (fun f w'=>∃ (gS:Nat) (iP:aM) (iS:Nat),Hz f [(0,.slice Abs bs.length cbs),(2,pB b1),(6,I (aL ((bs.take 16).drop 14))),(7,.slice n8 oF oC),(9,pB gS),(54,.slice iP (((bs.take 20).drop 16).length) iS),(56,.slice (if cbs=24 then Abs else Abs.map (·.add (24*1))) (((bs.take 26).drop 24).length) (cbs-24))]∧SH w w' [] [.blk b1 135 Z5,(zD iP bs iS),.blk gS 135 Z5]) ?_ (fun D_9_2=>?_)
  ·rintro f sC ⟨gS,iP,iS,⟨g3,rfl⟩,lL⟩
   exact aO 6 r0 (cS lL r0 (wB _ _ (Sl.lZ (hbs.aP lL) (by omega) (by omega)) (by exact wE ‹_›) (by((try simp only[fC,dV]); omega))) (fun vK mY=>nk (m1 mY 0 r0) (tQ (fuel:=1) (is:=[7,8]) (.cons r0 (.cons r0 (.nil))) (m1 mY 0 r0) (yA r0 (bQ (v:=.agg #[I 1,(rO iP bs iS),aA [],(rP bs)]) [(0,I 1),(1,.slice iP (((bs.take 20).drop 16).length) iS),(3,I (aL ((bs.take 26).drop 24)))] r0) (yA r0 (bQ (v:=.agg #[I 1,(rO iP bs iS),aA [],(rP bs),I 0,ns,aA [],I 0]) [(0,.agg #[I 1,(rO iP bs iS),aA [],(rP bs)])] r0) (.nil (bS D_9_0 ⟨gS,iP,iS,(zR r0),mY⟩)))))))
  refine dG 5 11 63 (fun f w'=>∃ (iP:aM) (iS:Nat),Hz f [(0,.slice Abs bs.length cbs),(2,pB b1),(6,I (aL ((bs.take 16).drop 14))),(7,.slice n8 oF oC),(54,.slice iP (((bs.take 20).drop 16).length) iS),(56,.slice (if cbs=24 then Abs else Abs.map (·.add (24*1))) (((bs.take 26).drop 24).length) (cbs-24))]∧SH w w' [] [.blk b1 135 Z5,(zD iP bs iS)]) ?_ (fun D_9_3=>?_)
  ·rintro f xC ⟨iP,iS,⟨g4,rfl⟩,lN⟩
   refine jN [6,9] (eX ?_ (jP ?_))
   ·exact eI r0 (cS lN r0 (wB _ _ (Sl.lZ (hbs.aP lN) (by omega) (by omega)) (by exact wE ‹_›) (by((try simp only[fC,dV]); omega))) (fun vL mS=>nk (m1 mS 0 r0) (tQ (fuel:=2) (is:=[7,8]) (.cons r0 (.cons r0 (.nil))) (m1 mS 0 r0) (yA r0 (bQ (v:=.agg #[I 1,(rO iP bs iS),aA [],(rP bs)]) [(0,I 1),(1,.slice iP (((bs.take 20).drop 16).length) iS),(3,I (aL ((bs.take 26).drop 24)))] r0) (yA r0 (bQ (v:=.agg #[I 1,(rO iP bs iS),aA [],(rP bs),I 0,ns,aA [],I 0]) [(0,.agg #[I 1,(rO iP bs iS),aA [],(rP bs)])] r0) (.nil (bS D_9_1 ⟨iP,iS,(zR r0),mS⟩)))))))
   exact eI r0 (al (cs:=Z5) lN tK r0 aH r0 (fun gS vM mZ=>nk (m1 mZ 0 r0) (bS D_9_2 ⟨gS,iP,iS,(zR r0),mZ⟩)))
  refine dG 5 11 567 (fun f w'=>∃ (wM gS:Nat),Hz f [(0,.slice Abs bs.length cbs),(2,pB b1),(6,I (aL ((bs.take 16).drop 14))),(7,.slice n8 oF oC),(9,pB gS),(51,sb wM (([]:aC).length) 0),(53,.slice (if cbs=16 then Abs else Abs.map (·.add (16*1))) (((bs.take 20).drop 16).length) (cbs-16)),(56,.slice (if cbs=24 then Abs else Abs.map (·.add (24*1))) (((bs.take 26).drop 24).length) (cbs-24))]∧SH w w' [] [.blk b1 135 Z5,(oZ wM),.blk gS 135 Z5]) ?_ (fun D_9_4=>?_)
  ·rintro f B5 ⟨wM,gS,⟨g5,rfl⟩,m0⟩
   exact aO 3 r0 (gI (g:=I) (ys:=([]:aC)) (zs:=(bs.take 20).drop 16) m0 1 r0 aV r0 r0 r0 (Sl.lZ (hbs.aP m0) (by omega) (by omega)) (fun _=>rfl) (by unfold maxLen; ((try simp only[bH,bP,bK,fC,dV]); omega)) (by((try simp only[bH,bP,bK,fC,dV]); omega)) aH r0 (fun iP iS AJ oE=>nk (m1 oE 0 r0) (bS D_9_2 ⟨gS,iP,iS,(zR r0),(oE.pk [0,2,1] r0)⟩)))
  refine dG 6 11 55 (fun f w'=>∃ (wM:Nat),Hz f [(0,.slice Abs bs.length cbs),(2,pB b1),(6,I (aL ((bs.take 16).drop 14))),(7,.slice n8 oF oC),(51,sb wM (([]:aC).length) 0),(53,.slice (if cbs=16 then Abs else Abs.map (·.add (16*1))) (((bs.take 20).drop 16).length) (cbs-16)),(56,.slice (if cbs=24 then Abs else Abs.map (·.add (24*1))) (((bs.take 26).drop 24).length) (cbs-24))]∧SH w w' [] [.blk b1 135 Z5,(oZ wM)]) ?_ (fun D_9_5=>?_)
  ·rintro f DS ⟨wM,⟨g6,rfl⟩,oV⟩
   refine jN [3,9] (eX ?_ (jP ?_))
   ·exact eI r0 (gI (g:=I) (ys:=([]:aC)) (zs:=(bs.take 20).drop 16) oV 1 r0 aV r0 r0 r0 (Sl.lZ (hbs.aP oV) (by omega) (by omega)) (fun _=>rfl) (by unfold maxLen; ((try simp only[bH,bP,bK,fC,dV]); omega)) (by((try simp only[bH,bP,bK,fC,dV]); omega)) aH r0 (fun iP iS B6 qI=>nk (m1 qI 0 r0) (bS D_9_3 ⟨iP,iS,(zR r0),qI⟩)))
   exact eI r0 (al (cs:=Z5) oV tK r0 aH r0 (fun gS GK rV=>nk (m1 rV 0 r0) (bS D_9_4 ⟨wM,gS,(zR r0),rV⟩)))
  refine dG 6 11 566 (fun f w'=>∃ (gS:Nat),Hz f [(0,.slice Abs bs.length cbs),(2,pB b1),(6,I (aL ((bs.take 16).drop 14))),(7,.slice n8 oF oC),(9,pB gS),(53,.slice (if cbs=16 then Abs else Abs.map (·.add (16*1))) (((bs.take 20).drop 16).length) (cbs-16)),(56,.slice (if cbs=24 then Abs else Abs.map (·.add (24*1))) (((bs.take 26).drop 24).length) (cbs-24))]∧SH w w' [] [.blk b1 135 Z5,.blk gS 135 Z5]) ?_ (fun D_9_6=>?_)
  ·rintro f GL ⟨gS,⟨g7,rfl⟩,vD⟩
   exact aO 0 r0 (cR vD aV [] [] aH r0 (fun wM GM pO=>nk (m1 pO 0 r0) (bS D_9_4 ⟨wM,gS,(zR r0),(pO.pk [0,2,1] r0)⟩)))
  refine dG 7 11 54 (fun f w'=>Hz f [(0,.slice Abs bs.length cbs),(2,pB b1),(6,I (aL ((bs.take 16).drop 14))),(7,.slice n8 oF oC),(53,.slice (if cbs=16 then Abs else Abs.map (·.add (16*1))) (((bs.take 20).drop 16).length) (cbs-16)),(56,.slice (if cbs=24 then Abs else Abs.map (·.add (24*1))) (((bs.take 26).drop 24).length) (cbs-24))]∧SH w w' [] [.blk b1 135 Z5]) ?_ (fun D_9_7=>?_)
  ·rintro f LF ⟨⟨g8,rfl⟩,pW⟩
   refine jN [0,9] (eX ?_ (jP ?_))
   ·exact eI r0 (cR pW aV [] [] aH r0 (fun wM LG pX=>nk (m1 pX 0 r0) (bS D_9_5 ⟨wM,(zR r0),pX⟩)))
   exact eI r0 (al (cs:=Z5) pW tK r0 aH r0 (fun gS LH uD=>nk (m1 uD 0 r0) (bS D_9_6 ⟨gS,(zR r0),uD⟩)))
  have rW:=iE.drew
  exact tQ (fuel:=7) (is:=[1,2,4,5]) (.cons r0 (.cons r0 (.cons r0 (.cons r0 (.nil))))) (m1 rW 0 r0) (yA r0 (mv (v:=.slice Abs bs.length cbs) r0) (yA r0 (pK (zs:=bs) 16 20 aV r0 r0 r0 (by omega) (by omega) hbs.cap) (yA r0 (mv (v:=.slice Abs bs.length cbs) r0) (yA r0 (pK (zs:=bs) 24 26 aV r0 r0 r0 (by omega) (by omega) hbs.cap) (.nil (bS D_9_7 ⟨(zR r0),rW⟩))))))
 rintro f LI ⟨gS,iP,iS,⟨g9,rfl⟩,vZ⟩
 refine nN (sq ?_)
 refine kA (fun w'=>∃ L,SH w w' [] L∧(.blk b1 135 Z5)∈L∧True) (fun f w'=>∃ (A3'':aM) (c3'':Nat),Hz f [(2,pB b1),(6,I (aL ((bs.take 16).drop 14))),(7,.slice n8 oF oC),(9,pB gS)]∧SH w w' [] [.blk b1 135 Z5,(zD iP bs iS),.blk gS 135 [I 1,(rO iP bs iS),aA [],(rP bs),I 1,.slice A3'' (((bs.take 24).drop 20).length) c3'',aA [],I (aL ((bs.take 28).drop 26))],.own A3'' (((bs.take 24).drop 20).length) c3'' 3 1 (((bs.take 24).drop 20).map I)]) mixed ?_ ?_
 ·refine dG 1 10 511 (fun f w'=>∃ (A3'':aM) (c3'':Nat),Hz f [(2,pB b1),(6,I (aL ((bs.take 16).drop 14))),(7,.slice n8 oF oC),(9,pB gS),(67,.agg #[I 1,.slice A3'' (((bs.take 24).drop 20).length) c3'',aA [],I (aL ((bs.take 28).drop 26))]),(68,.pointer (some ⟨gS,4,none⟩))]∧SH w w' [] [.blk b1 135 Z5,(zD iP bs iS),.blk gS 135 [I 1,(rO iP bs iS),aA [],(rP bs),I 0,ns,aA [],I 0],.own A3'' (((bs.take 24).drop 20).length) c3'' 3 1 (((bs.take 24).drop 20).map I)]) ?_ (fun D_10_0=>?_)
  ·rintro f P1 ⟨A3'',c3'',⟨EZ,rfl⟩,BL⟩
   refine aO 9 r0 (sG [I 1,.slice A3'' (((bs.take 24).drop 20).length) c3'',aA [],I (aL ((bs.take 28).drop 26))] BL 2 r0 cG (fun T3 zX=>nk (m1 zX 0 r0) (aQ ?_)))
   exact⟨A3'',c3'',(zR r0),(zX.pk [0,1,3,2] r0)⟩
  refine dG 4 10 63 (fun f w'=>∃ (A3'':aM) (c3'':Nat),Hz f [(2,pB b1),(6,I (aL ((bs.take 16).drop 14))),(7,.slice n8 oF oC),(9,pB gS),(63,.slice A3'' (((bs.take 24).drop 20).length) c3''),(65,.slice (if cbs=26 then Abs else Abs.map (·.add (26*1))) (((bs.take 28).drop 26).length) (cbs-26))]∧SH w w' [] [.blk b1 135 Z5,(zD iP bs iS),.blk gS 135 [I 1,(rO iP bs iS),aA [],(rP bs),I 0,ns,aA [],I 0],.own A3'' (((bs.take 24).drop 20).length) c3'' 3 1 (((bs.take 24).drop 20).map I)]) ?_ (fun D_10_1=>?_)
  ·rintro f T5 ⟨A3'',c3'',⟨HN,rfl⟩,BM⟩
   exact aO 6 r0 (cS BM r0 (wB _ _ (Sl.lZ (hbs.aP BM) (by omega) (by omega)) (by exact wE ‹_›) (by((try simp only[fC,dV]); omega))) (fun T6 zY=>nk (m1 zY 0 r0) (tQ (fuel:=1) (is:=[7,8]) (.cons r0 (.cons r0 (.nil))) (m1 zY 0 r0) (yA r0 (bQ (v:=.agg #[I 1,.slice A3'' (((bs.take 24).drop 20).length) c3'',aA [],I (aL ((bs.take 28).drop 26))]) [(0,I 1),(1,.slice A3'' (((bs.take 24).drop 20).length) c3''),(3,I (aL ((bs.take 28).drop 26)))] r0) (yA r0 (fa 4 AZ r0) (.nil (bS D_10_0 ⟨A3'',c3'',(zR r0),zY⟩)))))))
  refine dG 5 10 55 (fun f w'=>∃ (b0'':Nat),Hz f [(2,pB b1),(6,I (aL ((bs.take 16).drop 14))),(7,.slice n8 oF oC),(9,pB gS),(60,sb b0'' (([]:aC).length) 0),(62,.slice (if cbs=20 then Abs else Abs.map (·.add (20*1))) (((bs.take 24).drop 20).length) (cbs-20)),(65,.slice (if cbs=26 then Abs else Abs.map (·.add (26*1))) (((bs.take 28).drop 26).length) (cbs-26))]∧SH w w' [] [.blk b1 135 Z5,(zD iP bs iS),.blk gS 135 [I 1,(rO iP bs iS),aA [],(rP bs),I 0,ns,aA [],I 0],(oZ b0'')]) ?_ (fun D_10_2=>?_)
  ·rintro f T7 ⟨b0'',⟨J5,rfl⟩,FA⟩
   exact aO 3 r0 (gI (g:=I) (ys:=([]:aC)) (zs:=(bs.take 24).drop 20) FA 3 r0 aV r0 r0 r0 (Sl.lZ (hbs.aP FA) (by omega) (by omega)) (fun _=>rfl) (by unfold maxLen; ((try simp only[bH,bP,bK,fC,dV]); omega)) (by((try simp only[bH,bP,bK,fC,dV]); omega)) aH r0 (fun A3'' c3'' Dw C2=>nk (m1 C2 0 r0) (bS D_10_1 ⟨A3'',c3'',(zR r0),C2⟩)))
  refine dG 6 10 54 (fun f w'=>Hz f [(2,pB b1),(6,I (aL ((bs.take 16).drop 14))),(7,.slice n8 oF oC),(9,pB gS),(62,.slice (if cbs=20 then Abs else Abs.map (·.add (20*1))) (((bs.take 24).drop 20).length) (cbs-20)),(65,.slice (if cbs=26 then Abs else Abs.map (·.add (26*1))) (((bs.take 28).drop 26).length) (cbs-26))]∧SH w w' [] [.blk b1 135 Z5,(zD iP bs iS),.blk gS 135 [I 1,(rO iP bs iS),aA [],(rP bs),I 0,ns,aA [],I 0]]) ?_ (fun D_10_3=>?_)
  ·rintro f Dx ⟨⟨J6,rfl⟩,HY⟩
   exact aO 0 r0 (cR HY aV [] [] aH r0 (fun b0'' Dy FB=>nk (m1 FB 0 r0) (bS D_10_2 ⟨b0'',(zR r0),FB⟩)))
  have BN:=vZ.drew
  exact tQ (fuel:=6) (is:=[1,2,4,5]) (.cons r0 (.cons r0 (.cons r0 (.cons r0 (.nil))))) (m1 BN 0 r0) (yA r0 (mv (v:=.slice Abs bs.length cbs) r0) (yA r0 (pK (zs:=bs) 20 24 aV r0 r0 r0 (by omega) (by omega) hbs.cap) (yA r0 (mv (v:=.slice Abs bs.length cbs) r0) (yA r0 (pK (zs:=bs) 26 28 aV r0 r0 r0 (by omega) (by omega) hbs.cap) (.nil (bS D_10_3 ⟨(zR r0),BN⟩))))))
 rintro f Dz ⟨A3'',c3'',⟨M8,rfl⟩,BO⟩
 refine nN (sr (qt r0 (lG [I 1,(rO iP bs iS),aA [],(rP bs),I 1,.slice A3'' (((bs.take 24).drop 20).length) c3'',aA [],I (aL ((bs.take 28).drop 26))] BO 2 r0 iA) (tm (.slice n8 oF oC) r0 (tm (I (aL ((bs.take 16).drop 14))) r0 (qt r0 (add r0 r0 (by(exact⟨by omega,by omega⟩))) (sG [I 1,(rO iP bs iS),aA [],(rP bs),I 1,.slice A3'' (((bs.take 24).drop 20).length) c3'',aA [],I (aL ((bs.take 28).drop 26))] BO 0 r0 iA (fun Ea C3=>tA (.slice n8 oF oC) r0 (tA (I (16+(aL ((bs.take 16).drop 14)))) r0 (tA (.bool true) r0 (nn (rt (bO (cX C3 3 r0 r0 iA r0 (.tmp (.tmp (.tmp .nil)))) r0 ?_))))))))))))
 have e7:iD bs=(16+(aL ((bs.take 16).drop 14)),true):=by exact Kb ‹_› (by omega) ‹_› (by omega) (by omega) ‹_›
 rw[e7]
 exact⟨iP,iS,A3'',c3'',n8,oF,oC,1,(bs.take 20).drop 16,[],aL ((bs.take 26).drop 24),1,(bs.take 24).drop 20,[],aL ((bs.take 28).drop 26),rfl,(C3.pk [0,2] r0)⟩
theorem Ty {Ab:aM} {cb:Nat} (b:aC) (w:World) (hb:Sl w [] 1 Ab b.length cb (b.map I)):bF prog 90 [.slice Ab b.length cb] w (fun v w'=>v=.tuple #[.int .i64 ((gB b).1),.bool ((gB b).2)]∧SH w w' [] []):=by
 refine fQ 75 func90 r0 r0 ?_
 have aK:=SH.refl w []
 have q7:b.length≤9223372036854775807:=cB hb.cap hb.cO
 refine sr (tA (I 0) r0 (tA (.bool false) r0 (nn (sq (sq (rg (tm (cD Ab b cb) r0 (cS aK r0 (TI _ _ (hb.aP aK)) (fun w1 aE=>nn (bl (sr (qt r0 (dO r0 r0) (tA (.bool (decide ((eY b)=1))) r0 (nl (nN (bI r0 (fun h1=>?_) (fun h1=>?_)))))))))))))))))
 ·refine sr (tm (cD Ab b cb) r0 (cL r0 (Tr _ _ (hb.aP aE)) ?_))
  rintro _ w2 ⟨eF,eG,c1,MD,MK,MG,MI,P0,rfl,aI⟩
  replace aI:=aE.cJ aI
  refine tm (.tuple #[.agg #[I c1,I MD,(Z4 eF MK eG),aA MG,I MI,aA P0],I ((gW b).1),.bool ((gW b).2)]) r0 (qt r0 (xt 0 r0 r0) (qt r0 (xt 1 r0 r0) (qt r0 (xt 2 r0 r0) (al (cs:=iR) aI I7 r0 aH r0 (fun b1 w3 aN=>sG [I c1,I MD,(Z4 eF MK eG),aA MG,I MI,aA P0] aN 1 r0 hH (fun w4 aR=>tA (I ((gW b).1)) r0 (tA (.bool ((gW b).2)) r0 (nx (tm (I ((gW b).1)) r0 (tm (.bool ((gW b).2)) r0 (tA (I ((gW b).1)) r0 (tA (.bool ((gW b).2)) r0 (nn (rt (bR (tR (bO (.tmp (.tmp .nil)) r0 ?_)))))))))))))))))
  have e1:gB b=((gW b).1,((gW b).2)):=by exact Eg ‹_›
  rw[e1]
  exact⟨rfl,(aR.pk [] r0)⟩
 refine sr (qt r0 (dO r0 r0) (tA (.bool (decide ((eY b)=2))) r0 (nn (bI r0 (fun h2=>?_) (fun h2=>?_)))))
 ·refine sr (tm (cD Ab b cb) r0 (dP aE r0 (Aq _ _ (hb.aP aE)) (fun A1 c2 w5 aZ=>tm (.tuple #[.slice A1 (((eM b).1).length) c2,I ((eM b).2.1),.bool ((eM b).2.2)]) r0 (qt r0 (xt 0 r0 r0) (qt r0 (xt 1 r0 r0) (qt r0 (xt 2 r0 r0) (tA (.slice A1 (((eM b).1).length) c2) r0 (tA (I ((eM b).2.1)) r0 (tA (zJ b) r0 (nl (nN (sr (tm (I ((eM b).2.1)) r0 (tm (zJ b) r0 (tA (I ((eM b).2.1)) r0 (tA (zJ b) r0 (nl (nN (rt (bR (tR (bO (.tmp (.tmp .nil)) r0 ?_))))))))))))))))))))))
  have e2:gB b=((eM b).2.1,((eM b).2.2)):=by exact Eh ‹_›
  rw[e2]
  exact⟨rfl,(aZ.pk [] r0)⟩
 refine sr (qt r0 (dO r0 r0) (tA (.bool (decide ((eY b)=3))) r0 (nn (bI r0 (fun h3=>?_) (fun h3=>?_)))))
 ·refine sr (tm (cD Ab b cb) r0 (cS aE r0 (yF _ _ (hb.aP aE) (by(exact(wO (by assumption:eY b=3) (by decide)).1)) (by(have h_:=(wO (by assumption:eY b=3) (by decide)).2; (try rw[oQ]); omega))) (fun w6 bG=>cL r0 (Sp _ _ (by(have h_:=(wO (by assumption:eY b=3) (by decide)).2; (try rw[oQ]); omega))) ?_)))
  rintro _ w7 ⟨DY,EO,ME,ML,MH,MJ,rfl,bU⟩
  replace bU:=bG.cJ bU
  refine tm (.tuple #[.agg #[I ME,(Z4 DY ML EO),aA MH,I MJ],I ((jO (bT b)).1),.bool ((jO (bT b)).2)]) r0 (qt r0 (xt 0 r0 r0) (qt r0 (xt 1 r0 r0) (qt r0 (xt 2 r0 r0) (al (cs:=eA) bU kZ r0 aH r0 (fun b2 w8 bV=>sG [I ME,(Z4 DY ML EO),aA MH,I MJ] bV 1 r0 cG (fun w9 b9=>tA (I ((jO (bT b)).1)) r0 (tA (.bool ((jO (bT b)).2)) r0 (nx (tm (I ((jO (bT b)).1)) r0 (tm (.bool ((jO (bT b)).2)) r0 (tA (I ((jO (bT b)).1)) r0 (tA (.bool ((jO (bT b)).2)) r0 (nn (rt (bR (tR (bO (.tmp (.tmp .nil)) r0 ?_)))))))))))))))))
  have e3:gB b=((jO (bT b)).1,((jO (bT b)).2)):=by exact Ei ‹_›
  rw[e3]
  exact⟨rfl,(b9.pk [] r0)⟩
 refine sr (qt r0 (dO r0 r0) (tA (.bool (decide ((eY b)=4))) r0 (nn (bI r0 (fun h4=>?_) (fun h4=>?_)))))
 ·refine sr (tm (cD Ab b cb) r0 (cS aE r0 (yF _ _ (hb.aP aE) (by(exact(wO (by assumption:eY b=4) (by decide)).1)) (by(have h_:=(wO (by assumption:eY b=4) (by decide)).2; (try rw[oQ]); omega))) (fun kF cM=>cL r0 (Tj _ _ (by(have h_:=(wO (by assumption:eY b=4) (by decide)).2; (try rw[oQ]); omega))) ?_)))
  rintro _ kB ⟨LJ,MV,LL,MX,N5,aX,OC,OT,N7,O0,OH,OV,rfl,cW⟩
  replace cW:=cM.cJ cW
  refine tm (.tuple #[.agg #[I N5,.slice LJ aX.length MV,aA OC,I OT,I N7,(Z4 LL O0 MX),aA OH,I OV],I ((iO (bT b)).1),.bool ((iO (bT b)).2)]) r0 (qt r0 (xt 0 r0 r0) (qt r0 (xt 1 r0 r0) (qt r0 (xt 2 r0 r0) (al (cs:=Z5) cW tK r0 aH r0 (fun b3 kI dB=>sG [I N5,.slice LJ aX.length MV,aA OC,I OT,I N7,(Z4 LL O0 MX),aA OH,I OV] dB 2 r0 iA (fun lU cY=>tA (I ((iO (bT b)).1)) r0 (tA (.bool ((iO (bT b)).2)) r0 (nx (tm (I ((iO (bT b)).1)) r0 (tm (.bool ((iO (bT b)).2)) r0 (tA (I ((iO (bT b)).1)) r0 (tA (.bool ((iO (bT b)).2)) r0 (nn (rt (bR (tR (bO (.tmp (.tmp .nil)) r0 ?_)))))))))))))))))
  have e4:gB b=((iO (bT b)).1,((iO (bT b)).2)):=by exact Ej ‹_›
  rw[e4]
  exact⟨rfl,(cY.pk [] r0)⟩
 refine sr (qt r0 (dO r0 r0) (tA (.bool (decide ((eY b)=5))) r0 (nn (bI r0 (fun h5=>?_) (fun h5=>?_)))))
 ·refine sr (tm (cD Ab b cb) r0 (cL r0 (Sq _ _ (hb.aP aE)) ?_))
  rintro _ mH ⟨LK,MW,LM,MY,n8,oF,oC,N6,bC,OD,OU,N8,O1,OI,OW,rfl,dJ⟩
  replace dJ:=aE.cJ dJ
  refine tm (.tuple #[.agg #[I N6,.slice LK bC.length MW,aA OD,I OU,I N8,(Z4 LM O1 MY),aA OI,I OW],.slice n8 oF oC,I ((iD b).1),.bool ((iD b).2)]) r0 (qt r0 (xt 0 r0 r0) (qt r0 (xt 1 r0 r0) (qt r0 (xt 2 r0 r0) (qt r0 (xt 3 r0 r0) (al (cs:=Z5) dJ tK r0 aH r0 (fun b4 mI dM=>sG [I N6,.slice LK bC.length MW,aA OD,I OU,I N8,(Z4 LM O1 MY),aA OI,I OW] dM 2 r0 iA (fun mU eO=>tA (.slice n8 oF oC) r0 (tA (I ((iD b).1)) r0 (tA (.bool ((iD b).2)) r0 (nx (tm (I ((iD b).1)) r0 (tm (.bool ((iD b).2)) r0 (tA (I ((iD b).1)) r0 (tA (.bool ((iD b).2)) r0 (nn (rt (bR (tR (bO (.tmp (.tmp .nil)) r0 ?_)))))))))))))))))))
  have e5:gB b=((iD b).1,((iD b).2)):=by exact Ek ‹_›
  rw[e5]
  exact⟨rfl,(eO.pk [] r0)⟩
 refine sk (bN (nN (sr (tA (I 0) r0 (tA (.bool false) r0 (nl (nN (rt (bO (.tmp (.tmp .nil)) r0 ?_)))))))))
 have e6:gB b=(0,false):=by exact Ef ‹_› ‹_› ‹_› ‹_› ‹_›
 rw[e6]
 exact⟨rfl,aE⟩
theorem Le (n:Int) {Axs:aM} {cxs:Nat} (xs:aC) (w:World) (hxs:Sl w [] 1 Axs xs.length cxs (xs.map I)):bF prog 241 [.agg #[I n,.slice Axs xs.length cxs]] w (fun v w'=>v=.bool (!yM (n,xs))∧SH w w' [] []):=by
 refine fQ 19 func241 r0 r0 ?_
 have aK:=SH.refl w []
 have KJ:xs.length≤9223372036854775807:=cB hxs.cap hxs.cO
 refine sr (bx (v:=.agg #[I n,(Z4 Axs xs cxs)]) (cs:=[I n,(Z4 Axs xs cxs)]) aK r0 r0 aH r0 (fun b1 w1 aE=>tA (.bool false) r0 (nx (qt r0 (fa 0 V1 r0) (qt r0 (lD (I n) aE 0 r0 cN) (cS aE r0 (x4 _ 0 255 _) (fun w2 aI=>qt r0 (nd r0) (tm (.bool (decide (¬ (0≤n∧n≤255)))) r0 (fF 7 r0 (fun h1=>?_) (fun h1=>?_))))))))))
 ·refine aT r0 (aT r0 (aT r0 (aT r0 (qt r0 (pt (v:=.bool true) r0 r0) (tm (.bool true) r0 (aT r0 (aT r0 (aT r0 (aT r0 (qt r0 (pt (v:=.bool true) r0 r0) (tA (.bool true) r0 (nn (rt (fT (.bool true) r0 ?_))))))))))))))
  have e1:true=!yM (n,xs):=by(simp[yM,h1]; done)
  exact⟨(aS (Value.bool) e1),(aI.pk [] r0)⟩
 refine qh r0 (fa 1 M5 r0) (qh r0 (lD (cD Axs xs cxs) aI 0 r0 j4) (qh r0 (dK aV r0) (qh r0 (gtr r0 r0) (qt r0 (pf (v:=.bool (decide ((16:Int)<(xs.length:Int)))) r0 r0) (tm (.bool (decide ((16:Int)<(xs.length:Int)))) r0 (fF 13 r0 (fun h2=>?_) (fun h2=>?_)))))))
 ·refine aT r0 (aT r0 (aT r0 (aT r0 (qt r0 (pt (v:=.bool true) r0 r0) (tA (.bool true) r0 (nn (rt (fT (.bool true) r0 ?_))))))))
  have e2:true=!yM (n,xs):=by(simp[yM,h1,h2]; omega)
  exact⟨(aS (Value.bool) e2),(aI.pk [] r0)⟩
 refine qh r0 (fa 1 M5 r0) (qh r0 (lD (cD Axs xs cxs) aI 0 r0 j4) (cl ⟨_,rfl,rfl⟩ r0 (H4 _ _ (hxs.aP aI)) ?_))
 rintro _ w3 ⟨rfl,aN⟩
 replace aN:=aI.cJ aN
 refine qh r0 (nt r0) (qt r0 (pf (v:=.bool (!(bJ xs))) r0 r0) (tA (xK xs) r0 (nn (rt (fT (xK xs) r0 ?_)))))
 have e3:(!(bJ xs))=!yM (n,xs):=by(simp[yM,h1,h2]; omega)
 exact⟨(aS (Value.bool) e3),(aN.pk [] r0)⟩
theorem Vl {Azs:aM} {czs:Nat} (zs:List dL) (w:World) (hzs:Sl w [] 2 Azs zs.length czs (zs.flatMap mD)) (RU: ∀ u∈zs,GP w [] u.2):bF prog 254 [.slice Azs zs.length czs,.func (.func 241) #[] #[]] w (fun v w'=>v=.int .i64 (m5 (fun u=>!pR u) zs)∧SH w w' [] []):=by
 refine fQ 19 func254 r0 r0 ?_
 have aK:=SH.refl w []
 have sY:zs.length≤9223372036854775807:=cB hzs.cap hzs.cO
 refine sr (tA (I 0) r0 (nn (sq (sr (tm (.slice Azs zs.length czs) r0 (qt r0 (dK pD r0) (tm (I 0) r0 (nn (bl (lp (σ:=Nat) (fun(k:Nat) f w'=>Hz f [(0,.slice Azs zs.length czs),(1,.func (.func 241) #[] #[]),(7,I (zs.length:Int)),(8,I (k:Int))]∧(k≤zs.length)∧(∀ j,j<k→(fun u=>!pR u) (zs.getD j nL)=false)∧SH w w' [] []) (fun k=>zs.length-k) 0 ⟨(zR r0),(by simp),(by intro j hj; omega),aK⟩ ?_))))))))))
 rintro k f w1 ⟨⟨g1,rfl⟩,hk,hn,aE⟩
 refine sr (qt r0 (lss r0 r0) (nn (sq (bI r0 (fun h1=>?_) (fun h1=>?_)))))
 ·refine sk (nN (sq (bl (sr (tm (I (k:Int)) r0 (tA (I (k:Int)) r0 (nx (tm (.func (.func 241) #[] #[]) r0 (tm (.slice Azs zs.length czs) r0 (tm (I (k:Int)) r0 (H6 (g:=mD) (zs:=zs) (fun _=>rfl) nL k pD r0 r0 hzs (by omega) (by omega) aH r0 (fun a1 eL=>qt r0 (KN (us:=[I ((zs.getD k nL).1),.slice (((zs.getD k nL).2).A) ((((zs.getD k nL).2).xs).length) (((zs.getD k nL).2).c)]) aE eL (fun _ h=>h) r0 r0 Fc) (QJ (k:=241) aH r0 r0 (Le _ _ _ (Sl.aP (RU _ (CV (by omega))) aE)) ?_)))))))))))))
  rintro _ w2 ⟨rfl,aI⟩
  replace aI:=aE.cJ aI
  refine nn (cd r0 (fun h2=>?_) (fun h2=>?_))
  ·have h3:=dX h2
   exact sr (tm (I (k:Int)) r0 (tA (I (k:Int)) r0 (nn (rt (bR (tR (tR (bR (tR (fI r0 (NY (d:=nL) (by omega) hn h2) aI))))))))))
  have h4:=dY h2
  refine sk (bN (nN (rg (qt r0 (add r0 r0 (by exact⟨by omega,by omega⟩)) (tm (I ((k:Int)+1)) r0 (nn ?_))))))
  refine⟨(k+1),⟨(zR r0),(by omega),(by intro j hj; rcases Nat.lt_succ_iff_lt_or_eq.1 hj with h | h; exact hn j h; subst h; exact h2),aI⟩,?_⟩
  omega
 refine ex (tE (tE (bE (nN (sr (tA (I (-1)) r0 (nn (rt (fT (I (-1)) r0 ?_)))))))))
 have e2:(-1)=m5 (fun u=>!pR u) zs:=by exact NZ (d:=nL) (fun j hj=>hn j (by omega))
 exact⟨(aS (Value.int .i64) e2),aE⟩
theorem Vb {Azs:aM} {czs:Nat} (zs:List dL) (w:World) (hzs:Sl w [] 2 Azs zs.length czs (zs.flatMap mD)) (RU: ∀ u∈zs,GP w [] u.2):bF prog 240 [.slice Azs zs.length czs,.func (.func 241) #[] #[]] w (fun v w'=>v=.bool (zs.any (fun u=>!pR u))∧SH w w' [] []):=by
 refine fQ 9 func240 r0 r0 ?_
 have aK:=SH.refl w []
 have sY:zs.length≤9223372036854775807:=cB hzs.cap hzs.cO
 refine sr (tA (.bool false) r0 (nx (tm (.slice Azs zs.length czs) r0 (tm (.func (.func 241) #[] #[]) r0 (cS aK r0 (Vl _ _ (hzs.aP aK) (fun u hu=>Sl.aP (RU u hu) aK)) (fun w1 aE=>qt r0 (geq r0 r0) (tA (.bool (decide ((0:Int)≤(m5 (fun u=>!pR u) zs)))) r0 (nn (rt (fT (.bool (decide ((0:Int)≤(m5 (fun u=>!pR u) zs)))) r0 ?_))))))))))
 have e1:(decide ((0:Int)≤(m5 (fun u=>!pR u) zs)))=zs.any (fun u=>!pR u):=by exact NX _ zs
 exact⟨(aS (Value.bool) e1),aE⟩
theorem W4 {Atg:aM} {ctg:Nat} (tg:List dL) (w:World) (htg:Sl w [] 2 Atg tg.length ctg (tg.flatMap mD)) (RO: ∀ u∈tg,GP w [] u.2):bF prog 219 [.slice Atg tg.length ctg] w (fun v w'=>v=.bool (wX (n0 tg))∧SH w w' [] []):=by
 refine fQ 11 func219 r0 r0 ?_
 have aK:=SH.refl w []
 have La:tg.length≤9223372036854775807:=cB htg.cap htg.cO
 refine sr (tA (.bool false) r0 (nx (tm (.slice Atg tg.length ctg) r0 (qt r0 (dK pD r0) (qt r0 (leq r0 r0) (tm (.bool (decide ((tg.length:Int)≤4))) r0 (fF 6 r0 (fun h1=>?_) (fun h1=>?_))))))))
 ·refine qh r0 (mv (v:=.slice Atg tg.length ctg) r0) (cl ⟨_,rfl,rfl⟩ r0 (Vb _ _ (htg.aP aK) (fun u hu=>Sl.aP (RO u hu) aK)) ?_)
  rintro _ w1 ⟨rfl,aE⟩
  replace aE:=aK.cJ aE
  refine qh r0 (nt r0) (qt r0 (pt (v:=.bool (!(tg.any (fun u=>!pR u)))) r0 r0) (tA (.bool (!(tg.any (fun u=>!pR u)))) r0 (nn (rt (fT (.bool (!(tg.any (fun u=>!pR u)))) r0 ?_)))))
  have e1:(!(tg.any (fun u=>!pR u)))=wX (n0 tg):=by(rw[PW,← Fg,decide_eq_true (by omega),D5]; done)
  exact⟨(aS (Value.bool) e1),aE⟩
 exact bA r0 (bA r0 (bA r0 (qt r0 (pf (v:=.bool false) r0 r0) (tA (.bool false) r0 (nn (rt (fB r0 (by(rw[PW,decide_eq_false (by omega)]; rfl)) aK)))))))
theorem Mj {Abs:aM} {cbs:Nat} (bs:aC) (w:World) (hbs:Sl w [] 1 Abs bs.length cbs (bs.map I)):bF prog 174 [.slice Abs bs.length cbs] w (fun v w'=>∃ Atr:aM,∃ ntr:Nat,∃ ctr:Nat,v=.tuple #[.slice Atr ntr ctr,.bool (kX bs)]∧SH w w' [] []):=by
 refine fQ 44 func174 r0 r0 ?_
 have aK:=SH.refl w []
 have nW:bs.length≤9223372036854775807:=cB hbs.cap hbs.cO
 refine sr (tA ns r0 (tA (.bool false) r0 (nx (tm (cD Abs bs cbs) r0 (cL r0 (FN _ _ (hbs.aP aK)) ?_)))))
 rintro _ w1 ⟨g1,rfl,aE⟩
 replace aE:=aK.cJ aE
 refine tA (pB g1) r0 (nx (tA ns r0 (nn (sq (bl ?_)))))
 have aI:=aE.nl [.own none (([]:List dL).length) 0 177 2 (([]:List dL).flatMap mD)] r0
 have aN:SH w w1 [] [.blk g1 156 [(Z4 Abs bs cbs),I 0,.bool (!bJ bs)],.own none (([]:List dL).length) 0 177 2 (([]:List dL).flatMap mD),.rows 3 ([]:List Hd)]:=aI.Ag 3
 have e1:([]:List Hd)=(([]:List dL).map Prod.snd):=by rfl
 refine lp (σ:=(aM)×Nat×Nat×Bool×(List dL)) (fun⟨iM,iG,ya,yf,tg⟩ f w'=>Hz f [(0,.slice Abs bs.length cbs),(4,pB g1),(5,.slice iM tg.length iG)]∧(yf=false→bJ bs=true)∧(yf=false→ya≤bs.length∧mG bs=(mG (bs.drop ya)).map (n0 tg++ ·))∧(yf=true→kX bs=false)∧(tg.length≤bs.length+1∧(yf=false→tg.length≤ya))∧SH w w' [] [.blk g1 156 [(Z4 Abs bs cbs),I (ya:Int),.bool yf],.own iM tg.length iG 177 2 (tg.flatMap mD),.rows 3 (tg.map Prod.snd)]) (fun⟨iM,iG,ya,yf,tg⟩=>(if yf=true then 0 else bs.length-ya+1)) (none,0,0,(!bJ bs),([]:List dL)) ⟨(zR r0),(by simp),(fun _=>⟨by omega,by simp[n0]⟩),(fun h=>Db (by simpa using h)),(⟨by simp,by simp⟩),(aN.cast (lc r0 (lc r0 (lc (aS (It.rows 3) e1) r0))))⟩ ?_
 rintro ⟨iM,iG,ya,yf,tg⟩ f w2 ⟨⟨g2,rfl⟩,pN,hyy,hno,hgl,aR⟩
 refine sq (sr (tm (pB g1) r0 (tn r0 (qt r0 (fa 2 qY r0) (qt r0 (lD (.bool yf) aR 0 r0 rF) (qt r0 (nt r0) (tm (.bool (!yf)) r0 (hP 14 r0 (fun h1=>?_) (fun h1=>?_)))))))))
 ·have h2:=dX h1
  refine qh r0 (mv (v:=pB g1) r0) (qh r0 (nc r0) (qh r0 (fa 1 vW r0) (qh r0 (lD (I (ya:Int)) aR 0 r0 cN) (qh r0 (mv (v:=.slice Abs bs.length cbs) r0) (qh r0 (dK aV r0) (qh r0 (lss r0 r0) (qt r0 (pt (v:=.bool (decide ((ya:Int)<(bs.length:Int)))) r0 r0) (nn (bI r0 (fun h3=>?_) (fun h3=>?_))))))))))
  ·refine sk (nN (bl (sr (tm (pB g1) r0 (cL r0 (GA _ _ _ _ (gM aR 0 r0) (hbs.up aR (by simp) (fun k h=>.inr (aR.mE 0 r0 k h))) (‹_›) (by omega)) ?_)))))
   rintro _ w3 ⟨aX,aY,rfl,p1,p2,p3,aZ⟩
   replace aZ:=aR.cK [0] [1,2] aZ r0
   refine tA (I (cH bs (ya,yf))) r0 (nn (rg (tm (.slice iM tg.length iG) r0 (tm (I (cH bs (ya,yf))) r0 (tm (pB g1) r0 (tm (pB g1) r0 (cL r0 (DI _ _ _ _ _ (gM aZ 2 r0) (hbs.up aZ (by simp) (fun k h=>.inr (aZ.mE 2 r0 k h))) (‹_›) (‹_›) (by omega)) ?_)))))))
   rintro _ w4 ⟨bC,bD,rfl,p4,p5,p6,bG⟩
   replace bG:=aZ.cK [2] [0,1] bG r0
   refine cL r0 (yE _ _ _ _ _ (gM bG 2 r0) (hbs.up bG (by simp) (fun k h=>.inr (bG.mE 2 r0 k h))) (‹_›) (‹_›) (by(have hot:=Y0 (s:=(aX,aY)) p2; exact hot))) ?_
   rintro _ w5 ⟨A1,c1,dQ,eB,rfl,p7,p8,p9,bU⟩
   replace bU:=bG.cK [2] [0,1] bU r0
   refine qt r0 (bQ (v:=.agg #[I (cH bs (ya,yf)),.slice A1 ((aF bs (bC,bD) (aL (aF bs (aX,aY) (2:Int).toNat)).toNat).length) c1]) [(0,I (cH bs (ya,yf))),(1,.slice A1 ((aF bs (bC,bD) (aL (aF bs (aX,aY) (2:Int).toNat)).toNat).length) c1)] r0) (cR bU pD [.agg #[I (cH bs (ya,yf)),.slice A1 ((aF bs (bC,bD) (aL (aF bs (aX,aY) (2:Int).toNat)).toNat).length) c1]] [I (cH bs (ya,yf)),.slice A1 ((aF bs (bC,bD) (aL (aF bs (aX,aY) (2:Int).toNat)).toNat).length) c1] aH r0 (fun b1 w6 bV=>JP (g:=mD) (ys:=tg) (zs:=([((cH bs (ya,yf),(⟨A1,c1,aF bs (bC,bD) (aL (aF bs (aX,aY) (2:Int).toNat)).toNat⟩:Hd)):dL)]:List dL)) bV 0 r0 pD r0 (by decide) r0 r0 (bV.cI 4 r0) (fun _=>rfl) (by unfold maxLen; (have hbl:=hZ (pN ‹_›); (try simp only[bH,bP,bK]); omega)) (by(have hbl:=hZ (pN ‹_›); (try simp only[bH,bP,bK]); omega)) aH r0 (fun A2 c2 w7 b9=>?_)))
   have cM:SH w w7 [] [.blk g1 156 [(Z4 Abs bs cbs),I (dQ:Int),.bool eB],.own (Z7 b1) (([((cH bs (ya,yf),(⟨A1,c1,aF bs (bC,bD) (aL (aF bs (aX,aY) (2:Int).toNat)).toNat⟩:Hd)):dL)]:List dL).length) 1 177 2 (([((cH bs (ya,yf),(⟨A1,c1,aF bs (bC,bD) (aL (aF bs (aX,aY) (2:Int).toNat)).toNat⟩:Hd)):dL)]:List dL).flatMap mD),.own A2 ((tg++([((cH bs (ya,yf),(⟨A1,c1,aF bs (bC,bD) (aL (aF bs (aX,aY) (2:Int).toNat)).toNat⟩:Hd)):dL)]:List dL)).length) c2 177 2 ((tg++([((cH bs (ya,yf),(⟨A1,c1,aF bs (bC,bD) (aL (aF bs (aX,aY) (2:Int).toNat)).toNat⟩:Hd)):dL)]:List dL)).flatMap mD),.rows 3 ((tg.map Prod.snd)++[(⟨A1,c1,aF bs (bC,bD) (aL (aF bs (aX,aY) (2:Int).toNat)).toNat⟩:Hd)])]:=SH.Ah (e:=3) (us:=(tg.map Prod.snd)) (L:=[.blk g1 156 [(Z4 Abs bs cbs),I (dQ:Int),.bool eB],.own (Z7 b1) (([((cH bs (ya,yf),(⟨A1,c1,aF bs (bC,bD) (aL (aF bs (aX,aY) (2:Int).toNat)).toNat⟩:Hd)):dL)]:List dL).length) 1 177 2 (([((cH bs (ya,yf),(⟨A1,c1,aF bs (bC,bD) (aL (aF bs (aX,aY) (2:Int).toNat)).toNat⟩:Hd)):dL)]:List dL).flatMap mD),.own A2 ((tg++([((cH bs (ya,yf),(⟨A1,c1,aF bs (bC,bD) (aL (aF bs (aX,aY) (2:Int).toNat)).toNat⟩:Hd)):dL)]:List dL)).length) c2 177 2 ((tg++([((cH bs (ya,yf),(⟨A1,c1,aF bs (bC,bD) (aL (aF bs (aX,aY) (2:Int).toNat)).toNat⟩:Hd)):dL)]:List dL)).flatMap mD)]) A1 c1 (aF bs (bC,bD) (aL (aF bs (aX,aY) (2:Int).toNat)).toNat) (b9.pk [0,2,1,3,4] r0)
   refine tA (.slice A2 ((tg++([((cH bs (ya,yf),(⟨A1,c1,aF bs (bC,bD) (aL (aF bs (aX,aY) (2:Int).toNat)).toNat⟩:Hd)):dL)]:List dL)).length) c2) r0 (nl (bN (nN ?_)))
   have e2:(tg.map Prod.snd)++[(⟨A1,c1,aF bs (bC,bD) (aL (aF bs (aX,aY) (2:Int).toNat)).toNat⟩:Hd)]=((tg++([((cH bs (ya,yf),(⟨A1,c1,aF bs (bC,bD) (aL (aF bs (aX,aY) (2:Int).toNat)).toNat⟩:Hd)):dL)]:List dL)).map Prod.snd):=by simp
   refine⟨(A2,c2,dQ,eB,(tg++([((cH bs (ya,yf),(⟨A1,c1,aF bs (bC,bD) (aL (aF bs (aX,aY) (2:Int).toNat)).toNat⟩:Hd)):dL)]:List dL))),⟨(zR r0),(p8),(fun h0=>⟨((K8 (tg:=tg) pN hyy ‹_› (by omega) (I2 p3 p6 p9)).1 h0).2,((Cy (tg:=tg) pN hyy ‹_› (by omega) (I2 p3 p6 p9) r0 (Wq p3 p6)).1 h0).2⟩),((K8 (tg:=tg) pN hyy ‹_› (by omega) (I2 p3 p6 p9)).2),(⟨by have h1_:=(hyy ‹_›).1; have h2_:=hgl.2 ‹_›; (try simp only[bH,bP,bK]); omega,fun h0=>by have h1_:=((K8 (tg:=tg) pN hyy ‹_› (by omega) (I2 p3 p6 p9)).1 h0).1; have h2_:=hgl.2 ‹_›; (try simp only[bH,bP,bK]); omega⟩),((cM.pq [0,2,3] r0).cast (lc r0 (lc r0 (lc (aS (It.rows 3) e2) r0))))⟩,?_⟩
   show (if eB=true then 0 else bs.length-dQ+1)<(if yf=true then 0 else bs.length-ya+1)
   (rw[b0 (show ¬ yf=true by rw[(by assumption:yf=false)]; decide)]; rcases oL eB with h_ | h_; (rw[cF h_]; omega); (have h1_:=((K8 (tg:=tg) pN hyy ‹_› (by omega) (I2 p3 p6 p9)).1 h_).1; have h2_:=((K8 (tg:=tg) pN hyy ‹_› (by omega) (I2 p3 p6 p9)).1 h_).2; rw[b0 (by rw[h_]; decide)]; omega))
  refine ex (tE (tE (bE (nN (sq (sr (tm (pB g1) r0 (tn r0 (qt r0 (fa 2 qY r0) (qt r0 (lD (.bool yf) aR 0 r0 rF) (tm (.bool yf) r0 (hP 38 r0 (fun h4=>?_) (fun h4=>?_)))))))))))))
  ·refine aT r0 (aT r0 (aT r0 (qt r0 (pt (v:=.bool true) r0 r0) (nn (fX r0 (sq (rg (tA ns r0 (tA (.bool false) r0 (nn (rt (tR (bO (.tmp (.tmp .nil)) r0 ?_)))))))))))))
   have e3:false=kX bs:=by exact(hno ‹_›).symm
   exact⟨none,0,0,(kE r0 (aS (Value.bool) e3)),(aR.pk [] r0)⟩
  refine qh r0 (mv (v:=.slice iM tg.length iG) r0) (cl ⟨_,rfl,rfl⟩ r0 (W4 _ _ (aR.cI 1 r0) (fun u hu=>aR.TA 2 r0 (List.mem_map_of_mem (f:=Prod.snd) hu))) ?_)
  rintro _ w8 ⟨rfl,cW⟩
  replace cW:=aR.cJ cW
  refine qh r0 (nt r0) (qt r0 (pf (v:=.bool (!(wX (n0 tg)))) r0 r0) (nn (cd r0 (fun h5=>?_) (fun h5=>?_))))
  ·have h6:=dX h5
   refine sr (tA ns r0 (tA (.bool false) r0 (nn (rt (tR (bO (.tmp (.tmp .nil)) r0 ?_))))))
   have e4:false=kX bs:=by exact((PX (pN ‹_›) (hyy ‹_›).2 (by omega)).trans ‹_›).symm
   exact⟨none,0,0,(kE r0 (aS (Value.bool) e4)),(cW.pk [] r0)⟩
  have h7:=dY h5
  refine sk (nN (sr (tm (.slice iM tg.length iG) r0 (tA (.slice iM tg.length iG) r0 (tA (.bool true) r0 (nl (nN (rt (bO (.tmp (.tmp .nil)) r0 ?_)))))))))
  have e5:true=kX bs:=by exact((PX (pN ‹_›) (hyy ‹_›).2 (by omega)).trans ‹_›).symm
  exact⟨iM,tg.length,iG,(kE r0 (aS (Value.bool) e5)),(cW.pk [] r0)⟩
 have h8:=dY h1
 refine bA r0 (bA r0 (bA r0 (bA r0 (bA r0 (bA r0 (bA r0 (qt r0 (pf (v:=.bool false) r0 r0) (nn (qV r0 (ex (tE (tE (bE (nN (sq (sr (tm (pB g1) r0 (tn r0 (qt r0 (fa 2 qY r0) (qt r0 (lD (.bool yf) aR 0 r0 rF) (tm (.bool yf) r0 (hP 38 r0 (fun h9=>?_) (fun h9=>?_)))))))))))))))))))))))
 ·refine aT r0 (aT r0 (aT r0 (qt r0 (pt (v:=.bool true) r0 r0) (nn (fX r0 (sq (rg (tA ns r0 (tA (.bool false) r0 (nn (rt (tR (bO (.tmp (.tmp .nil)) r0 ?_)))))))))))))
  have e6:false=kX bs:=by exact(hno ‹_›).symm
  exact⟨none,0,0,(kE r0 (aS (Value.bool) e6)),(aR.pk [] r0)⟩
 refine qh r0 (mv (v:=.slice iM tg.length iG) r0) (cl ⟨_,rfl,rfl⟩ r0 (W4 _ _ (aR.cI 1 r0) (fun u hu=>aR.TA 2 r0 (List.mem_map_of_mem (f:=Prod.snd) hu))) ?_)
 rintro _ w9 ⟨rfl,dB⟩
 replace dB:=aR.cJ dB
 refine qh r0 (nt r0) (qt r0 (pf (v:=.bool (!(wX (n0 tg)))) r0 r0) (nn (cd r0 (fun mR=>?_) (fun mR=>?_))))
 ·have vX:=dX mR
  refine sr (tA ns r0 (tA (.bool false) r0 (nn (rt (tR (bO (.tmp (.tmp .nil)) r0 ?_))))))
  have e7:false=kX bs:=by exact(hno ‹_›).symm
  exact⟨none,0,0,(kE r0 (aS (Value.bool) e7)),(dB.pk [] r0)⟩
 have zU:=dY mR
 refine sk (nN (sr (tm (.slice iM tg.length iG) r0 (tA (.slice iM tg.length iG) r0 (tA (.bool true) r0 (nl (nN (rt (bO (.tmp (.tmp .nil)) r0 ?_)))))))))
 have e8:true=kX bs:=by exact absurd ((by assumption:yf=true).symm.trans (by assumption:yf=false)) (by decide)
 exact⟨iM,tg.length,iG,(kE r0 (aS (Value.bool) e8)),(dB.pk [] r0)⟩
theorem Ll {Abs:aM} {cbs:Nat} (bs:aC) (w:World) (hbs:Sl w [] 1 Abs bs.length cbs (bs.map I)):bF prog 121 [.slice Abs bs.length cbs] w (fun v w'=>∃ Aqar:aM,∃ cqar:Nat,∃ Aqbr:aM,∃ cqbr:Nat,∃ Atr:aM,∃ ntr:Nat,∃ ctr:Nat,∃ ka:Int,∃ qa:aC,∃ na:aD,∃ pa:Int,∃ kb:Int,∃ qb:aC,∃ nb:aD,∃ pb:Int,v=.tuple #[.agg #[.int .i64 ka,.slice Aqar qa.length cqar,aA na,.int .i64 pa,.int .i64 kb,.slice Aqbr qb.length cqbr,aA nb,.int .i64 pb],.slice Atr ntr ctr,.int .i64 ((iD bs).1),.bool ((iD bs).2)]∧SH w w' [] [.own Aqar qa.length cqar 3 1 (qa.map I),.own Aqbr qb.length cqbr 3 1 (qb.map I)]):=by
 refine fQ 69 func121 r0 r0 ?_
 have aK:SH w w [] []:=SH.refl w []
 have nW:bs.length≤9223372036854775807:=cB hbs.cap hbs.cO
 refine sr (al (cs:=Z5) aK tK r0 aH r0 (fun b1 w1 aE=>tA ns r0 (tA (I 0) r0 (tA (.bool false) r0 (nx (tm (cD Abs bs cbs) r0 (cL r0 (FN _ _ (hbs.aP aE)) ?_)))))))
 rintro _ w2 ⟨g1,rfl,aI⟩
 replace aI:=aE.cJ aI
 refine tA (pB g1) r0 (nx (tm (pB g1) r0 (dP aI r0 (W9 _) (fun A1 c1 w3 aN=>cL r0 (IJ _ 0 _ _ _ (gM aN 1 r0) (hbs.up aN (by simp) (fun k h=>.inr (aN.mE 1 r0 k h))) (by(simp; done)) (by omega) (aN.sl 2 r0 (by intro k hk; simp at hk; subst hk; exact⟨_,cC 1 r0,rfl⟩)) (by(have hhl:eD.length=14:=rfl; omega))) ?_))))
 rintro _ w4 ⟨aX,aY,rfl,p1,p2,p3,aR⟩
 replace aR:=aN.cK [1] [0,2] aR r0
 refine nx (tm (pB g1) r0 (tm (pB g1) r0 (cL r0 (DI _ _ _ _ _ (gM aR 2 r0) (hbs.up aR (by simp) (fun k h=>.inr (aR.mE 2 r0 k h))) (‹_›) (‹_›) (by omega)) ?_)))
 rintro _ w5 ⟨bC,bD,rfl,p4,p5,p6,aZ⟩
 replace aZ:=aR.cK [2] [0,1] aZ r0
 refine cL r0 (yE _ _ _ _ _ (gM aZ 2 r0) (hbs.up aZ (by simp) (fun k h=>.inr (aZ.mE 2 r0 k h))) (‹_›) (‹_›) (by(have hot:=Y0 (s:=(aX,aY)) p2; exact hot))) ?_
 rintro _ w6 ⟨A2,c2,dQ,eB,rfl,p7,p8,p9,bG⟩
 replace bG:SH w w6 [] [.blk b1 135 Z5,.own A1 eD.length c1 3 1 (eD.map I),.blk g1 156 [(Z4 Abs bs cbs),I (dQ:Int),.bool eB],.own A2 ((aF bs (bC,bD) (aL (aF bs (aX,aY) (2:Int).toNat)).toNat).length) c2 3 1 ((aF bs (bC,bD) (aL (aF bs (aX,aY) (2:Int).toNat)).toNat).map I)]:=SH.vV (K:=[.blk g1 156 [(Z4 Abs bs cbs),I (bC:Int),.bool bD]]) (R:=[.blk b1 135 Z5,.own A1 eD.length c1 3 1 (eD.map I)]) (aZ.pk [2,0,1] r0) bG r0
 refine cL r0 (FN _ _ (bG.cI 3 r0)) ?_
 rintro _ w7 ⟨g2,rfl,bU⟩
 replace bU:=bG.cJ bU
 refine tA (pB g2) r0 (nx (tm (pB g2) r0 (cL r0 (yE _ 0 _ _ _ (gM bU 4 r0) (bU.sl 3 r0 (by intro k hk; simp at hk; subst hk; exact⟨_,cC 3 r0,rfl⟩)) (by(simp; done)) (by omega) (by omega)) ?_)))
 rintro _ w8 ⟨A3,c3,eR,eS,rfl,OQ,FP,nY,bV⟩
 replace bV:=bU.cK [4] [0,1,2,3] bV r0
 refine qt r0 (bQ (v:=.agg #[I 1,.slice A3 ((aF (aF bs (bC,bD) (aL (aF bs (aX,aY) (2:Int).toNat)).toNat) (0,(!bJ (aF bs (bC,bD) (aL (aF bs (aX,aY) (2:Int).toNat)).toNat))) (4:Int).toNat).length) c3,aA [],I 0]) [(0,I 1),(1,.slice A3 ((aF (aF bs (bC,bD) (aL (aF bs (aX,aY) (2:Int).toNat)).toNat) (0,(!bJ (aF bs (bC,bD) (aL (aF bs (aX,aY) (2:Int).toNat)).toNat))) (4:Int).toNat).length) c3)] r0) (al (cs:=eA) bV kZ r0 aH r0 (fun b2 w9 (b9:SH w w9 [] [.blk b1 135 Z5,.own A1 eD.length c1 3 1 (eD.map I),.blk g1 156 [(Z4 Abs bs cbs),I (dQ:Int),.bool eB],.own A2 ((aF bs (bC,bD) (aL (aF bs (aX,aY) (2:Int).toNat)).toNat).length) c2 3 1 ((aF bs (bC,bD) (aL (aF bs (aX,aY) (2:Int).toNat)).toNat).map I),.blk g2 156 [.slice A2 ((aF bs (bC,bD) (aL (aF bs (aX,aY) (2:Int).toNat)).toNat).length) c2,I (eR:Int),.bool eS],.own A3 ((aF (aF bs (bC,bD) (aL (aF bs (aX,aY) (2:Int).toNat)).toNat) (0,(!bJ (aF bs (bC,bD) (aL (aF bs (aX,aY) (2:Int).toNat)).toNat))) (4:Int).toNat).length) c3 3 1 ((aF (aF bs (bC,bD) (aL (aF bs (aX,aY) (2:Int).toNat)).toNat) (0,(!bJ (aF bs (bC,bD) (aL (aF bs (aX,aY) (2:Int).toNat)).toNat))) (4:Int).toNat).map I),.blk b2 74 eA])=>sG [I 1,.slice A3 ((aF (aF bs (bC,bD) (aL (aF bs (aX,aY) (2:Int).toNat)).toNat) (0,(!bJ (aF bs (bC,bD) (aL (aF bs (aX,aY) (2:Int).toNat)).toNat))) (4:Int).toNat).length) c3,aA [],I 0] b9 6 r0 cG (fun kF cM=>nx (tm (pB g2) r0 (cL r0 (yE _ _ _ _ _ (gM cM 4 r0) (cM.sl 3 r0 (by intro k hk; simp at hk; subst hk; exact⟨_,cC 3 r0,rfl⟩)) (‹_›) (‹_›) (by omega)) ?_)))))
 rintro _ kB ⟨A4,c4,iJ,jC,rfl,ZA,OR,pC,cW⟩
 replace cW:=cM.cK [4] [0,1,2,3,5,6] cW r0
 refine qt r0 (bQ (v:=.agg #[I 1,.slice A4 ((aF (aF bs (bC,bD) (aL (aF bs (aX,aY) (2:Int).toNat)).toNat) (eR,eS) (4:Int).toNat).length) c4,aA [],I 0]) [(0,I 1),(1,.slice A4 ((aF (aF bs (bC,bD) (aL (aF bs (aX,aY) (2:Int).toNat)).toNat) (eR,eS) (4:Int).toNat).length) c4)] r0) (al (cs:=eA) cW kZ r0 aH r0 (fun b3 kI (dB:SH w kI [] [.blk b1 135 Z5,.own A1 eD.length c1 3 1 (eD.map I),.blk g1 156 [(Z4 Abs bs cbs),I (dQ:Int),.bool eB],.own A2 ((aF bs (bC,bD) (aL (aF bs (aX,aY) (2:Int).toNat)).toNat).length) c2 3 1 ((aF bs (bC,bD) (aL (aF bs (aX,aY) (2:Int).toNat)).toNat).map I),.own A3 ((aF (aF bs (bC,bD) (aL (aF bs (aX,aY) (2:Int).toNat)).toNat) (0,(!bJ (aF bs (bC,bD) (aL (aF bs (aX,aY) (2:Int).toNat)).toNat))) (4:Int).toNat).length) c3 3 1 ((aF (aF bs (bC,bD) (aL (aF bs (aX,aY) (2:Int).toNat)).toNat) (0,(!bJ (aF bs (bC,bD) (aL (aF bs (aX,aY) (2:Int).toNat)).toNat))) (4:Int).toNat).map I),.blk b2 74 [I 1,.slice A3 ((aF (aF bs (bC,bD) (aL (aF bs (aX,aY) (2:Int).toNat)).toNat) (0,(!bJ (aF bs (bC,bD) (aL (aF bs (aX,aY) (2:Int).toNat)).toNat))) (4:Int).toNat).length) c3,aA [],I 0],.blk g2 156 [.slice A2 ((aF bs (bC,bD) (aL (aF bs (aX,aY) (2:Int).toNat)).toNat).length) c2,I (iJ:Int),.bool jC],.own A4 ((aF (aF bs (bC,bD) (aL (aF bs (aX,aY) (2:Int).toNat)).toNat) (eR,eS) (4:Int).toNat).length) c4 3 1 ((aF (aF bs (bC,bD) (aL (aF bs (aX,aY) (2:Int).toNat)).toNat) (eR,eS) (4:Int).toNat).map I),.blk b3 74 eA])=>sG [I 1,.slice A4 ((aF (aF bs (bC,bD) (aL (aF bs (aX,aY) (2:Int).toNat)).toNat) (eR,eS) (4:Int).toNat).length) c4,aA [],I 0] dB 8 r0 cG (fun lU cY=>nx (tm (pB g2) r0 (cL r0 (DI _ _ _ _ _ (gM cY 6 r0) (cY.sl 3 r0 (by intro k hk; simp at hk; subst hk; exact⟨_,cC 5 r0,rfl⟩)) (‹_›) (‹_›) (by omega)) ?_)))))
 rintro _ mH ⟨lF,mM,rfl,ZB,ZC,qN,dJ⟩
 replace dJ:=cY.cK [6] [0,1,2,3,4,5,7,8] dJ r0
 refine qt r0 (fa 3 pV r0) (sT (I (aL (aF (aF bs (bC,bD) (aL (aF bs (aX,aY) (2:Int).toNat)).toNat) (iJ,jC) (2:Int).toNat))) dJ 5 r0 cN (fun mI (dM:SH w mI [] [.blk b1 135 Z5,.own A1 eD.length c1 3 1 (eD.map I),.blk g1 156 [(Z4 Abs bs cbs),I (dQ:Int),.bool eB],.own A2 ((aF bs (bC,bD) (aL (aF bs (aX,aY) (2:Int).toNat)).toNat).length) c2 3 1 ((aF bs (bC,bD) (aL (aF bs (aX,aY) (2:Int).toNat)).toNat).map I),.own A3 ((aF (aF bs (bC,bD) (aL (aF bs (aX,aY) (2:Int).toNat)).toNat) (0,(!bJ (aF bs (bC,bD) (aL (aF bs (aX,aY) (2:Int).toNat)).toNat))) (4:Int).toNat).length) c3 3 1 ((aF (aF bs (bC,bD) (aL (aF bs (aX,aY) (2:Int).toNat)).toNat) (0,(!bJ (aF bs (bC,bD) (aL (aF bs (aX,aY) (2:Int).toNat)).toNat))) (4:Int).toNat).map I),.own A4 ((aF (aF bs (bC,bD) (aL (aF bs (aX,aY) (2:Int).toNat)).toNat) (eR,eS) (4:Int).toNat).length) c4 3 1 ((aF (aF bs (bC,bD) (aL (aF bs (aX,aY) (2:Int).toNat)).toNat) (eR,eS) (4:Int).toNat).map I),.blk b3 74 [I 1,.slice A4 ((aF (aF bs (bC,bD) (aL (aF bs (aX,aY) (2:Int).toNat)).toNat) (eR,eS) (4:Int).toNat).length) c4,aA [],I 0],.blk g2 156 [.slice A2 ((aF bs (bC,bD) (aL (aF bs (aX,aY) (2:Int).toNat)).toNat).length) c2,I (lF:Int),.bool mM],.blk b2 74 [I 1,.slice A3 ((aF (aF bs (bC,bD) (aL (aF bs (aX,aY) (2:Int).toNat)).toNat) (0,(!bJ (aF bs (bC,bD) (aL (aF bs (aX,aY) (2:Int).toNat)).toNat))) (4:Int).toNat).length) c3,aA [],I (aL (aF (aF bs (bC,bD) (aL (aF bs (aX,aY) (2:Int).toNat)).toNat) (iJ,jC) (2:Int).toNat))]])=>nx (tm (pB g2) r0 (cL r0 (DI _ _ _ _ _ (gM dM 7 r0) (dM.sl 3 r0 (by intro k hk; simp at hk; subst hk; exact⟨_,cC 6 r0,rfl⟩)) (‹_›) (‹_›) (by omega)) ?_))))
 rintro _ mU ⟨vE,II,rfl,p19,p20,OS,eO⟩
 replace eO:=dM.cK [7] [0,1,2,3,4,5,6,8] eO r0
 refine qt r0 (fa 3 pV r0) (sT (I (aL (aF (aF bs (bC,bD) (aL (aF bs (aX,aY) (2:Int).toNat)).toNat) (lF,mM) (2:Int).toNat))) eO 6 r0 cN (fun n6 eK=>nn (sq (sr (tm (pB g1) r0 (tn r0 (qt r0 (fa 2 qY r0) (qt r0 (lD (.bool eB) eK 2 r0 rF) (tm (.bool eB) r0 (hP 38 r0 (fun h1=>?_) (fun h1=>?_)))))))))))
 ·refine aT r0 (aT r0 (aT r0 (aT r0 (qt r0 (pt (v:=.bool true) r0 r0) (nn (fX r0 (sr (qt r0 (bQ (v:=.agg #[I 0,ns,aA [],I 0,I 0,ns,aA [],I 0]) [] r0) (sG Z5 eK 0 r0 iA (fun m9 (eZ:SH w m9 [] [.own A1 eD.length c1 3 1 (eD.map I),.blk g1 156 [(Z4 Abs bs cbs),I (dQ:Int),.bool eB],.own A2 ((aF bs (bC,bD) (aL (aF bs (aX,aY) (2:Int).toNat)).toNat).length) c2 3 1 ((aF bs (bC,bD) (aL (aF bs (aX,aY) (2:Int).toNat)).toNat).map I),.own A3 ((aF (aF bs (bC,bD) (aL (aF bs (aX,aY) (2:Int).toNat)).toNat) (0,(!bJ (aF bs (bC,bD) (aL (aF bs (aX,aY) (2:Int).toNat)).toNat))) (4:Int).toNat).length) c3 3 1 ((aF (aF bs (bC,bD) (aL (aF bs (aX,aY) (2:Int).toNat)).toNat) (0,(!bJ (aF bs (bC,bD) (aL (aF bs (aX,aY) (2:Int).toNat)).toNat))) (4:Int).toNat).map I),.own A4 ((aF (aF bs (bC,bD) (aL (aF bs (aX,aY) (2:Int).toNat)).toNat) (eR,eS) (4:Int).toNat).length) c4 3 1 ((aF (aF bs (bC,bD) (aL (aF bs (aX,aY) (2:Int).toNat)).toNat) (eR,eS) (4:Int).toNat).map I),.blk b2 74 [I 1,.slice A3 ((aF (aF bs (bC,bD) (aL (aF bs (aX,aY) (2:Int).toNat)).toNat) (0,(!bJ (aF bs (bC,bD) (aL (aF bs (aX,aY) (2:Int).toNat)).toNat))) (4:Int).toNat).length) c3,aA [],I (aL (aF (aF bs (bC,bD) (aL (aF bs (aX,aY) (2:Int).toNat)).toNat) (iJ,jC) (2:Int).toNat))],.blk g2 156 [.slice A2 ((aF bs (bC,bD) (aL (aF bs (aX,aY) (2:Int).toNat)).toNat).length) c2,I (vE:Int),.bool II],.blk b3 74 [I 1,.slice A4 ((aF (aF bs (bC,bD) (aL (aF bs (aX,aY) (2:Int).toNat)).toNat) (eR,eS) (4:Int).toNat).length) c4,aA [],I (aL (aF (aF bs (bC,bD) (aL (aF bs (aX,aY) (2:Int).toNat)).toNat) (lF,mM) (2:Int).toNat))],.blk b1 135 Z5])=>?_))))))))))
  refine tA ns r0 (tA (I 0) r0 (tA (.bool false) r0 (nn ?_)))
  have fV:=eZ.pq [8] r0
  refine rt (tR (bO (cX fV 0 r0 r0 iA r0 (.tmp (.tmp (.tmp .nil)))) r0 ?_))
  have fD:=fV.nl [Z0] r0
  have gK:SH w m9 [] [.blk b1 135 Z5,Z0,Z0]:=SH.AB (by intro i hi; simp at hi; subst hi; exact DF) fD
  have e1:iD bs=(0,false):=by(have hh:=NB (b:=bs) p3 p6 p9 r0 nY pC qN OS; exact WG hh (.inl ‹_›))
  rw[e1]
  exact⟨none,0,none,0,none,0,0,0,([]:aC),[],0,0,([]:aC),[],0,rfl,(gK.pk [1,2] r0)⟩
 refine qh r0 (mv (v:=pB g2) r0) (qh r0 (nc r0) (qh r0 (fa 2 qY r0) (qh r0 (lD (.bool II) eK 7 r0 rF) (qt r0 (pf (v:=.bool II) r0 r0) (nn (cd r0 (fun h2=>?_) (fun h2=>?_)))))))
 ·refine sr (qt r0 (bQ (v:=.agg #[I 0,ns,aA [],I 0,I 0,ns,aA [],I 0]) [] r0) (sG Z5 eK 0 r0 iA (fun qQ hU=>tA ns r0 (tA (I 0) r0 (tA (.bool false) r0 (nn ?_))))))
  have iN:=hU.pq [8] r0
  refine rt (tR (bO (cX iN 0 r0 r0 iA r0 (.tmp (.tmp (.tmp .nil)))) r0 ?_))
  have iB:SH w qQ [] [.blk b1 135 Z5,Z0]:=SH.AB (by intro i hi; simp at hi; subst hi; exact DF) iN
  have iE:=iB.nl [Z0] r0
  have e2:iD bs=(0,false):=by(have hh:=NB (b:=bs) p3 p6 p9 r0 nY pC qN OS; exact WG hh (.inr ‹_›))
  rw[e2]
  exact⟨none,0,none,0,none,0,0,0,([]:aC),[],0,0,([]:aC),[],0,rfl,(iE.pk [1,2] r0)⟩
 refine sk (nN (sq ?_))
 refine kA (fun w'=>∃ L,SH w w' [] L∧(.blk b1 135 Z5)∈L∧(.blk g1 156 [(Z4 Abs bs cbs),I (dQ:Int),.bool eB])∈L∧(.blk b2 74 [I 1,.slice A3 ((aF (aF bs (bC,bD) (aL (aF bs (aX,aY) (2:Int).toNat)).toNat) (0,(!bJ (aF bs (bC,bD) (aL (aF bs (aX,aY) (2:Int).toNat)).toNat))) (4:Int).toNat).length) c3,aA [],I (aL (aF (aF bs (bC,bD) (aL (aF bs (aX,aY) (2:Int).toNat)).toNat) (iJ,jC) (2:Int).toNat))])∈L∧(.blk g2 156 [.slice A2 ((aF bs (bC,bD) (aL (aF bs (aX,aY) (2:Int).toNat)).toNat).length) c2,I (vE:Int),.bool II])∈L∧(.blk b3 74 [I 1,.slice A4 ((aF (aF bs (bC,bD) (aL (aF bs (aX,aY) (2:Int).toNat)).toNat) (eR,eS) (4:Int).toNat).length) c4,aA [],I (aL (aF (aF bs (bC,bD) (aL (aF bs (aX,aY) (2:Int).toNat)).toNat) (lF,mM) (2:Int).toNat))])∈L∧True) (fun f w'=>∃ (xD:aM) (x9 xT:Nat),Hz f [(2,pB b1),(6,pB g1),(8,pB b2),(9,pB b3),(10,.slice xD x9 xT),(11,.bool (kX ((aF bs (bC,bD) (aL (aF bs (aX,aY) (2:Int).toNat)).toNat).drop vE)))]∧SH w w' [] [.blk b1 135 Z5,.own A1 eD.length c1 3 1 (eD.map I),.blk g1 156 [(Z4 Abs bs cbs),I (dQ:Int),.bool eB],.own A2 ((aF bs (bC,bD) (aL (aF bs (aX,aY) (2:Int).toNat)).toNat).length) c2 3 1 ((aF bs (bC,bD) (aL (aF bs (aX,aY) (2:Int).toNat)).toNat).map I),.own A3 ((aF (aF bs (bC,bD) (aL (aF bs (aX,aY) (2:Int).toNat)).toNat) (0,(!bJ (aF bs (bC,bD) (aL (aF bs (aX,aY) (2:Int).toNat)).toNat))) (4:Int).toNat).length) c3 3 1 ((aF (aF bs (bC,bD) (aL (aF bs (aX,aY) (2:Int).toNat)).toNat) (0,(!bJ (aF bs (bC,bD) (aL (aF bs (aX,aY) (2:Int).toNat)).toNat))) (4:Int).toNat).map I),.own A4 ((aF (aF bs (bC,bD) (aL (aF bs (aX,aY) (2:Int).toNat)).toNat) (eR,eS) (4:Int).toNat).length) c4 3 1 ((aF (aF bs (bC,bD) (aL (aF bs (aX,aY) (2:Int).toNat)).toNat) (eR,eS) (4:Int).toNat).map I),.blk b2 74 [I 1,.slice A3 ((aF (aF bs (bC,bD) (aL (aF bs (aX,aY) (2:Int).toNat)).toNat) (0,(!bJ (aF bs (bC,bD) (aL (aF bs (aX,aY) (2:Int).toNat)).toNat))) (4:Int).toNat).length) c3,aA [],I (aL (aF (aF bs (bC,bD) (aL (aF bs (aX,aY) (2:Int).toNat)).toNat) (iJ,jC) (2:Int).toNat))],.blk g2 156 [.slice A2 ((aF bs (bC,bD) (aL (aF bs (aX,aY) (2:Int).toNat)).toNat).length) c2,I (vE:Int),.bool II],.blk b3 74 [I 1,.slice A4 ((aF (aF bs (bC,bD) (aL (aF bs (aX,aY) (2:Int).toNat)).toNat) (eR,eS) (4:Int).toNat).length) c4,aA [],I (aL (aF (aF bs (bC,bD) (aL (aF bs (aX,aY) (2:Int).toNat)).toNat) (lF,mM) (2:Int).toNat))]]) mixed ?_ ?_
 ·refine dG 6 15 511 (fun f w'=>Hz f [(2,pB b1),(6,pB g1),(8,pB b2),(9,pB b3),(54,.slice (if c2=vE then A2 else A2.map (·.add (vE*1))) (((aF bs (bC,bD) (aL (aF bs (aX,aY) (2:Int).toNat)).toNat).drop vE).length) (c2-vE))]∧SH w w' [] [.blk b1 135 Z5,.own A1 eD.length c1 3 1 (eD.map I),.blk g1 156 [(Z4 Abs bs cbs),I (dQ:Int),.bool eB],.own A2 ((aF bs (bC,bD) (aL (aF bs (aX,aY) (2:Int).toNat)).toNat).length) c2 3 1 ((aF bs (bC,bD) (aL (aF bs (aX,aY) (2:Int).toNat)).toNat).map I),.own A3 ((aF (aF bs (bC,bD) (aL (aF bs (aX,aY) (2:Int).toNat)).toNat) (0,(!bJ (aF bs (bC,bD) (aL (aF bs (aX,aY) (2:Int).toNat)).toNat))) (4:Int).toNat).length) c3 3 1 ((aF (aF bs (bC,bD) (aL (aF bs (aX,aY) (2:Int).toNat)).toNat) (0,(!bJ (aF bs (bC,bD) (aL (aF bs (aX,aY) (2:Int).toNat)).toNat))) (4:Int).toNat).map I),.own A4 ((aF (aF bs (bC,bD) (aL (aF bs (aX,aY) (2:Int).toNat)).toNat) (eR,eS) (4:Int).toNat).length) c4 3 1 ((aF (aF bs (bC,bD) (aL (aF bs (aX,aY) (2:Int).toNat)).toNat) (eR,eS) (4:Int).toNat).map I),.blk b2 74 [I 1,.slice A3 ((aF (aF bs (bC,bD) (aL (aF bs (aX,aY) (2:Int).toNat)).toNat) (0,(!bJ (aF bs (bC,bD) (aL (aF bs (aX,aY) (2:Int).toNat)).toNat))) (4:Int).toNat).length) c3,aA [],I (aL (aF (aF bs (bC,bD) (aL (aF bs (aX,aY) (2:Int).toNat)).toNat) (iJ,jC) (2:Int).toNat))],.blk g2 156 [.slice A2 ((aF bs (bC,bD) (aL (aF bs (aX,aY) (2:Int).toNat)).toNat).length) c2,I (vE:Int),.bool II],.blk b3 74 [I 1,.slice A4 ((aF (aF bs (bC,bD) (aL (aF bs (aX,aY) (2:Int).toNat)).toNat) (eR,eS) (4:Int).toNat).length) c4,aA [],I (aL (aF (aF bs (bC,bD) (aL (aF bs (aX,aY) (2:Int).toNat)).toNat) (lF,mM) (2:Int).toNat))]]) ?_ (fun D_10_0=>?_)
  ·rintro f rJ ⟨⟨g3,rfl⟩,jB⟩
   refine aO 9 r0 (cL r0 (Mj _ _ (Sl.VA (jB.cI 3 r0) (by omega))) ?_)
   rintro _ tL ⟨xD,x9,xT,rfl,gV⟩
   replace gV:=jB.cJ gV
   refine nk ⟨_,gV,cC 0 r0,cC 2 r0,cC 6 r0,cC 7 r0,cC 8 r0,aH⟩ (tQ (fuel:=0) (is:=[10,11,12,13,14]) (.cons r0 (.cons r0 (.cons r0 (.cons r0 (.cons r0 (.nil)))))) ⟨_,gV,cC 0 r0,cC 2 r0,cC 6 r0,cC 7 r0,cC 8 r0,aH⟩ (yA r0 (mv (v:=.tuple #[.slice xD x9 xT,.bool (kX ((aF bs (bC,bD) (aL (aF bs (aX,aY) (2:Int).toNat)).toNat).drop vE))]) r0) (yA r0 (xt 0 r0 r0) (yA r0 (xt 1 r0 r0) (yA r0 (fW (v:=.slice xD x9 xT) r0) (yA r0 (fW (v:=.bool (kX ((aF bs (bC,bD) (aL (aF bs (aX,aY) (2:Int).toNat)).toNat).drop vE))) r0) (.nil (aQ ?_))))))))
   exact⟨xD,x9,xT,(zR r0),gV⟩
  have kU:=eK.drew
  exact tQ (fuel:=6) (is:=[0,1,2,3,4,5,6,7,8]) (.cons r0 (.cons r0 (.cons r0 (.cons r0 (.cons r0 (.cons r0 (.cons r0 (.cons r0 (.cons r0 (.nil)))))))))) ⟨_,kU,cC 0 r0,cC 2 r0,cC 6 r0,cC 7 r0,cC 8 r0,aH⟩ (yA r0 (mv (v:=pB g2) r0) (yA r0 (nc r0) (yA r0 (fa 0 QZ r0) (yB r0 (fun ⟨Lq,aU,dH,j0,FM,SP,Pv,_⟩=>lM (.slice A2 ((aF bs (bC,bD) (aL (aF bs (aX,aY) (2:Int).toNat)).toNat).length) c2) aU SP r0 j4) (yA r0 (mv (v:=pB g2) r0) (yA r0 (nc r0) (yA r0 (fa 1 vW r0) (yB r0 (fun ⟨Lq,aU,dH,j0,FM,SP,Pv,_⟩=>lM (I (vE:Int)) aU SP r0 cN) (yA r0 (U5 (zs:=(aF bs (bC,bD) (aL (aF bs (aX,aY) (2:Int).toNat)).toNat)) vE aV r0 r0 (by omega)) (.nil (bS D_10_0 ⟨(zR r0),kU⟩)))))))))))
 rintro f sC ⟨xD,x9,xT,⟨g4,rfl⟩,kV⟩
 refine nN ?_
 have kY:SH w sC [] [.blk b1 135 Z5,.blk g1 156 [(Z4 Abs bs cbs),I (dQ:Int),.bool eB],.own A3 ((aF (aF bs (bC,bD) (aL (aF bs (aX,aY) (2:Int).toNat)).toNat) (0,(!bJ (aF bs (bC,bD) (aL (aF bs (aX,aY) (2:Int).toNat)).toNat))) (4:Int).toNat).length) c3 3 1 ((aF (aF bs (bC,bD) (aL (aF bs (aX,aY) (2:Int).toNat)).toNat) (0,(!bJ (aF bs (bC,bD) (aL (aF bs (aX,aY) (2:Int).toNat)).toNat))) (4:Int).toNat).map I),.own A4 ((aF (aF bs (bC,bD) (aL (aF bs (aX,aY) (2:Int).toNat)).toNat) (eR,eS) (4:Int).toNat).length) c4 3 1 ((aF (aF bs (bC,bD) (aL (aF bs (aX,aY) (2:Int).toNat)).toNat) (eR,eS) (4:Int).toNat).map I),.blk b2 74 [I 1,.slice A3 ((aF (aF bs (bC,bD) (aL (aF bs (aX,aY) (2:Int).toNat)).toNat) (0,(!bJ (aF bs (bC,bD) (aL (aF bs (aX,aY) (2:Int).toNat)).toNat))) (4:Int).toNat).length) c3,aA [],I (aL (aF (aF bs (bC,bD) (aL (aF bs (aX,aY) (2:Int).toNat)).toNat) (iJ,jC) (2:Int).toNat))],.blk b3 74 [I 1,.slice A4 ((aF (aF bs (bC,bD) (aL (aF bs (aX,aY) (2:Int).toNat)).toNat) (eR,eS) (4:Int).toNat).length) c4,aA [],I (aL (aF (aF bs (bC,bD) (aL (aF bs (aX,aY) (2:Int).toNat)).toNat) (lF,mM) (2:Int).toNat))]]:=kV.pk [0,2,4,5,6,8] r0
 refine sq (sr (tm (.bool (kX ((aF bs (bC,bD) (aL (aF bs (aX,aY) (2:Int).toNat)).toNat).drop vE))) r0 (qt r0 (nt r0) (nn (cd r0 (fun h3=>?_) (fun h3=>?_))))))
 ·have h4:=dX h3
  refine sr (qt r0 (bQ (v:=.agg #[I 0,ns,aA [],I 0,I 0,ns,aA [],I 0]) [] r0) (sG Z5 kY 0 r0 iA (fun vK kH=>tA ns r0 (tA (I 0) r0 (tA (.bool false) r0 (nn ?_))))))
  have iU:=kH.pq [5] r0
  refine rt (tR (bO (cX iU 0 r0 r0 iA r0 (.tmp (.tmp (.tmp .nil)))) r0 ?_))
  have mK:SH w vK [] [.blk b1 135 Z5,Z0]:=SH.AB (by intro i hi; simp at hi; subst hi; exact DF) iU
  have lL:=mK.nl [Z0] r0
  have e3:iD bs=(0,false):=by(have hh:=NB (b:=bs) p3 p6 p9 r0 nY pC qN OS; exact Jy hh ‹_› ‹_› ‹_›)
  rw[e3]
  exact⟨none,0,none,0,none,0,0,0,([]:aC),[],0,0,([]:aC),[],0,rfl,(lL.pk [1,2] r0)⟩
 have h5:=dY h3
 refine sk (nN (sq ?_))
 refine kA (fun w'=>∃ L,SH w w' [] L∧(.blk g1 156 [(Z4 Abs bs cbs),I (dQ:Int),.bool eB])∈L∧(.blk b2 74 [I 1,.slice A3 ((aF (aF bs (bC,bD) (aL (aF bs (aX,aY) (2:Int).toNat)).toNat) (0,(!bJ (aF bs (bC,bD) (aL (aF bs (aX,aY) (2:Int).toNat)).toNat))) (4:Int).toNat).length) c3,aA [],I (aL (aF (aF bs (bC,bD) (aL (aF bs (aX,aY) (2:Int).toNat)).toNat) (iJ,jC) (2:Int).toNat))])∈L∧(.blk b3 74 [I 1,.slice A4 ((aF (aF bs (bC,bD) (aL (aF bs (aX,aY) (2:Int).toNat)).toNat) (eR,eS) (4:Int).toNat).length) c4,aA [],I (aL (aF (aF bs (bC,bD) (aL (aF bs (aX,aY) (2:Int).toNat)).toNat) (lF,mM) (2:Int).toNat))])∈L∧True) (fun f w'=>Hz f [(2,pB b1),(3,.slice xD x9 xT),(4,I (dQ:Int)),(5,.bool true)]∧SH w w' [] [.blk b1 135 [I 1,.slice A3 ((aF (aF bs (bC,bD) (aL (aF bs (aX,aY) (2:Int).toNat)).toNat) (0,(!bJ (aF bs (bC,bD) (aL (aF bs (aX,aY) (2:Int).toNat)).toNat))) (4:Int).toNat).length) c3,aA [],I (aL (aF (aF bs (bC,bD) (aL (aF bs (aX,aY) (2:Int).toNat)).toNat) (iJ,jC) (2:Int).toNat)),I 1,.slice A4 ((aF (aF bs (bC,bD) (aL (aF bs (aX,aY) (2:Int).toNat)).toNat) (eR,eS) (4:Int).toNat).length) c4,aA [],I (aL (aF (aF bs (bC,bD) (aL (aF bs (aX,aY) (2:Int).toNat)).toNat) (lF,mM) (2:Int).toNat))],.blk g1 156 [(Z4 Abs bs cbs),I (dQ:Int),.bool eB],.own A3 ((aF (aF bs (bC,bD) (aL (aF bs (aX,aY) (2:Int).toNat)).toNat) (0,(!bJ (aF bs (bC,bD) (aL (aF bs (aX,aY) (2:Int).toNat)).toNat))) (4:Int).toNat).length) c3 3 1 ((aF (aF bs (bC,bD) (aL (aF bs (aX,aY) (2:Int).toNat)).toNat) (0,(!bJ (aF bs (bC,bD) (aL (aF bs (aX,aY) (2:Int).toNat)).toNat))) (4:Int).toNat).map I),.own A4 ((aF (aF bs (bC,bD) (aL (aF bs (aX,aY) (2:Int).toNat)).toNat) (eR,eS) (4:Int).toNat).length) c4 3 1 ((aF (aF bs (bC,bD) (aL (aF bs (aX,aY) (2:Int).toNat)).toNat) (eR,eS) (4:Int).toNat).map I),.blk b2 74 [I 1,.slice A3 ((aF (aF bs (bC,bD) (aL (aF bs (aX,aY) (2:Int).toNat)).toNat) (0,(!bJ (aF bs (bC,bD) (aL (aF bs (aX,aY) (2:Int).toNat)).toNat))) (4:Int).toNat).length) c3,aA [],I (aL (aF (aF bs (bC,bD) (aL (aF bs (aX,aY) (2:Int).toNat)).toNat) (iJ,jC) (2:Int).toNat))],.blk b3 74 [I 1,.slice A4 ((aF (aF bs (bC,bD) (aL (aF bs (aX,aY) (2:Int).toNat)).toNat) (eR,eS) (4:Int).toNat).length) c4,aA [],I (aL (aF (aF bs (bC,bD) (aL (aF bs (aX,aY) (2:Int).toNat)).toNat) (lF,mM) (2:Int).toNat))]]) mixed ?_ ?_
 ·refine dG 4 12 255 (fun f w'=>Hz f [(2,pB b1),(63,.agg #[I 1,.slice A3 ((aF (aF bs (bC,bD) (aL (aF bs (aX,aY) (2:Int).toNat)).toNat) (0,(!bJ (aF bs (bC,bD) (aL (aF bs (aX,aY) (2:Int).toNat)).toNat))) (4:Int).toNat).length) c3,aA [],I (aL (aF (aF bs (bC,bD) (aL (aF bs (aX,aY) (2:Int).toNat)).toNat) (iJ,jC) (2:Int).toNat)),I 1,.slice A4 ((aF (aF bs (bC,bD) (aL (aF bs (aX,aY) (2:Int).toNat)).toNat) (eR,eS) (4:Int).toNat).length) c4,aA [],I (aL (aF (aF bs (bC,bD) (aL (aF bs (aX,aY) (2:Int).toNat)).toNat) (lF,mM) (2:Int).toNat))]),(64,.slice xD x9 xT),(68,I (dQ:Int))]∧SH w w' [] [.blk b1 135 Z5,.blk g1 156 [(Z4 Abs bs cbs),I (dQ:Int),.bool eB],.own A3 ((aF (aF bs (bC,bD) (aL (aF bs (aX,aY) (2:Int).toNat)).toNat) (0,(!bJ (aF bs (bC,bD) (aL (aF bs (aX,aY) (2:Int).toNat)).toNat))) (4:Int).toNat).length) c3 3 1 ((aF (aF bs (bC,bD) (aL (aF bs (aX,aY) (2:Int).toNat)).toNat) (0,(!bJ (aF bs (bC,bD) (aL (aF bs (aX,aY) (2:Int).toNat)).toNat))) (4:Int).toNat).map I),.own A4 ((aF (aF bs (bC,bD) (aL (aF bs (aX,aY) (2:Int).toNat)).toNat) (eR,eS) (4:Int).toNat).length) c4 3 1 ((aF (aF bs (bC,bD) (aL (aF bs (aX,aY) (2:Int).toNat)).toNat) (eR,eS) (4:Int).toNat).map I),.blk b2 74 [I 1,.slice A3 ((aF (aF bs (bC,bD) (aL (aF bs (aX,aY) (2:Int).toNat)).toNat) (0,(!bJ (aF bs (bC,bD) (aL (aF bs (aX,aY) (2:Int).toNat)).toNat))) (4:Int).toNat).length) c3,aA [],I (aL (aF (aF bs (bC,bD) (aL (aF bs (aX,aY) (2:Int).toNat)).toNat) (iJ,jC) (2:Int).toNat))],.blk b3 74 [I 1,.slice A4 ((aF (aF bs (bC,bD) (aL (aF bs (aX,aY) (2:Int).toNat)).toNat) (eR,eS) (4:Int).toNat).length) c4,aA [],I (aL (aF (aF bs (bC,bD) (aL (aF bs (aX,aY) (2:Int).toNat)).toNat) (lF,mM) (2:Int).toNat))]]) ?_ (fun D_13_0=>?_)
  ·rintro f xC ⟨⟨g5,rfl⟩,mY⟩
   refine aO 8 r0 (sG [I 1,.slice A3 ((aF (aF bs (bC,bD) (aL (aF bs (aX,aY) (2:Int).toNat)).toNat) (0,(!bJ (aF bs (bC,bD) (aL (aF bs (aX,aY) (2:Int).toNat)).toNat))) (4:Int).toNat).length) c3,aA [],I (aL (aF (aF bs (bC,bD) (aL (aF bs (aX,aY) (2:Int).toNat)).toNat) (iJ,jC) (2:Int).toNat)),I 1,.slice A4 ((aF (aF bs (bC,bD) (aL (aF bs (aX,aY) (2:Int).toNat)).toNat) (eR,eS) (4:Int).toNat).length) c4,aA [],I (aL (aF (aF bs (bC,bD) (aL (aF bs (aX,aY) (2:Int).toNat)).toNat) (lF,mM) (2:Int).toNat))] mY 0 r0 iA (fun vL lN=>nk ⟨_,lN,cC 0 r0,cC 3 r0,cC 4 r0,aH⟩ (tQ (fuel:=0) (is:=[9,10,11]) (.cons r0 (.cons r0 (.cons r0 (.nil)))) ⟨_,lN,cC 0 r0,cC 3 r0,cC 4 r0,aH⟩ (yA r0 (fW (v:=.slice xD x9 xT) r0) (yA r0 (fW (v:=I (dQ:Int)) r0) (yA r0 (fW (v:=.bool true) r0) (.nil (aQ ?_))))))))
   exact⟨(zR r0),(lN.pk [5,0,1,2,3,4] r0)⟩
  have mS:=kY.drew
  refine tQ (fuel:=4) (is:=[0,1,2,3,4,5,6,7]) (.cons r0 (.cons r0 (.cons r0 (.cons r0 (.cons r0 (.cons r0 (.cons r0 (.cons r0 (.nil))))))))) ⟨_,mS,cC 1 r0,cC 4 r0,cC 5 r0,aH⟩ (yB r0 (fun ⟨Lq,aU,dH,j0,FM,_⟩=>rD (vs:=[I 1,.slice A3 ((aF (aF bs (bC,bD) (aL (aF bs (aX,aY) (2:Int).toNat)).toNat) (0,(!bJ (aF bs (bC,bD) (aL (aF bs (aX,aY) (2:Int).toNat)).toNat))) (4:Int).toNat).length) c3,aA [],I (aL (aF (aF bs (bC,bD) (aL (aF bs (aX,aY) (2:Int).toNat)).toNat) (iJ,jC) (2:Int).toNat))]) aU j0 r0 r0 r0 cG) (yB r0 (fun ⟨Lq,aU,dH,j0,FM,_⟩=>rD (vs:=[I 1,.slice A4 ((aF (aF bs (bC,bD) (aL (aF bs (aX,aY) (2:Int).toNat)).toNat) (eR,eS) (4:Int).toNat).length) c4,aA [],I (aL (aF (aF bs (bC,bD) (aL (aF bs (aX,aY) (2:Int).toNat)).toNat) (lF,mM) (2:Int).toNat))]) aU FM r0 r0 r0 cG) (yA r0 (bQ (v:=.agg #[I 1,.slice A3 ((aF (aF bs (bC,bD) (aL (aF bs (aX,aY) (2:Int).toNat)).toNat) (0,(!bJ (aF bs (bC,bD) (aL (aF bs (aX,aY) (2:Int).toNat)).toNat))) (4:Int).toNat).length) c3,aA [],I (aL (aF (aF bs (bC,bD) (aL (aF bs (aX,aY) (2:Int).toNat)).toNat) (iJ,jC) (2:Int).toNat)),I 1,.slice A4 ((aF (aF bs (bC,bD) (aL (aF bs (aX,aY) (2:Int).toNat)).toNat) (eR,eS) (4:Int).toNat).length) c4,aA [],I (aL (aF (aF bs (bC,bD) (aL (aF bs (aX,aY) (2:Int).toNat)).toNat) (lF,mM) (2:Int).toNat))]) [(0,.agg #[I 1,.slice A3 ((aF (aF bs (bC,bD) (aL (aF bs (aX,aY) (2:Int).toNat)).toNat) (0,(!bJ (aF bs (bC,bD) (aL (aF bs (aX,aY) (2:Int).toNat)).toNat))) (4:Int).toNat).length) c3,aA [],I (aL (aF (aF bs (bC,bD) (aL (aF bs (aX,aY) (2:Int).toNat)).toNat) (iJ,jC) (2:Int).toNat))]),(1,.agg #[I 1,.slice A4 ((aF (aF bs (bC,bD) (aL (aF bs (aX,aY) (2:Int).toNat)).toNat) (eR,eS) (4:Int).toNat).length) c4,aA [],I (aL (aF (aF bs (bC,bD) (aL (aF bs (aX,aY) (2:Int).toNat)).toNat) (lF,mM) (2:Int).toNat))])] r0) (yA r0 (mv (v:=.slice xD x9 xT) r0) (yA r0 (mv (v:=pB g1) r0) (yA r0 (nc r0) (yA r0 (fa 1 vW r0) ?_)))))))
  exact yB r0 (fun ⟨Lq,aU,dH,j0,FM,_⟩=>lM (I (dQ:Int)) aU dH r0 cN) (.nil (bS D_13_0 ⟨(zR r0),mS⟩))
 rintro f vM ⟨⟨g6,rfl⟩,mZ⟩
 refine nN ?_
 have m0:SH w vM [] [.blk b1 135 [I 1,.slice A3 ((aF (aF bs (bC,bD) (aL (aF bs (aX,aY) (2:Int).toNat)).toNat) (0,(!bJ (aF bs (bC,bD) (aL (aF bs (aX,aY) (2:Int).toNat)).toNat))) (4:Int).toNat).length) c3,aA [],I (aL (aF (aF bs (bC,bD) (aL (aF bs (aX,aY) (2:Int).toNat)).toNat) (iJ,jC) (2:Int).toNat)),I 1,.slice A4 ((aF (aF bs (bC,bD) (aL (aF bs (aX,aY) (2:Int).toNat)).toNat) (eR,eS) (4:Int).toNat).length) c4,aA [],I (aL (aF (aF bs (bC,bD) (aL (aF bs (aX,aY) (2:Int).toNat)).toNat) (lF,mM) (2:Int).toNat))],.own A3 ((aF (aF bs (bC,bD) (aL (aF bs (aX,aY) (2:Int).toNat)).toNat) (0,(!bJ (aF bs (bC,bD) (aL (aF bs (aX,aY) (2:Int).toNat)).toNat))) (4:Int).toNat).length) c3 3 1 ((aF (aF bs (bC,bD) (aL (aF bs (aX,aY) (2:Int).toNat)).toNat) (0,(!bJ (aF bs (bC,bD) (aL (aF bs (aX,aY) (2:Int).toNat)).toNat))) (4:Int).toNat).map I),.own A4 ((aF (aF bs (bC,bD) (aL (aF bs (aX,aY) (2:Int).toNat)).toNat) (eR,eS) (4:Int).toNat).length) c4 3 1 ((aF (aF bs (bC,bD) (aL (aF bs (aX,aY) (2:Int).toNat)).toNat) (eR,eS) (4:Int).toNat).map I)]:=mZ.pk [0,2,3] r0
 refine rt (bO (cX m0 0 r0 r0 iA r0 (.tmp (.tmp (.tmp .nil)))) r0 ?_)
 have e4:iD bs=((dQ:Int),true):=by(have hh:=NB (b:=bs) p3 p6 p9 r0 nY pC qN OS; exact Jz hh ‹_› ‹_› ‹_›)
 rw[e4]
 exact⟨A3,c3,A4,c4,xD,x9,xT,1,aF (aF bs (bC,bD) (aL (aF bs (aX,aY) (2:Int).toNat)).toNat) (0,(!bJ (aF bs (bC,bD) (aL (aF bs (aX,aY) (2:Int).toNat)).toNat))) (4:Int).toNat,[],aL (aF (aF bs (bC,bD) (aL (aF bs (aX,aY) (2:Int).toNat)).toNat) (iJ,jC) (2:Int).toNat),1,aF (aF bs (bC,bD) (aL (aF bs (aX,aY) (2:Int).toNat)).toNat) (eR,eS) (4:Int).toNat,[],aL (aF (aF bs (bC,bD) (aL (aF bs (aX,aY) (2:Int).toNat)).toNat) (lF,mM) (2:Int).toNat),rfl,(m0.pk [1,2] r0)⟩
theorem Wd (s:aD) (t:aD) (w:World) (hs_n:s.length≤2147483648) (C7:t.length≤2147483648) (hMl:bZ prog w [] "internal/bytealg.MaxLen" l4):bF prog 99 [aA s,aA t] w (fun v w'=>v=.tuple #[aA ((Lib.cut s t).1),aA ((Lib.cut s t).2.1),.bool ((Lib.cut s t).2.2)]∧SH w w' [] []):=by
 obtain ⟨m,hm⟩:=bZ.cell hMl (by kernel_rfl)
 have h:=Tryz.strings_Cut ⟨s.toArray⟩ ⟨t.toArray⟩ m w (by show s.toArray.size<_; rw[xG]; omega) hm
 simp only[List.toList_toArray]at h
 exact Hu ⟨_,_,func99,by kernel_rfl,rfl⟩ r0 h

end Go.Proofs.YtklbiemlpkhlhaaGreatDoor
