/-
  Part of the proofs over this seat: what each function of the program computes, function by function (the text is written by a program of this hand-in's own).
  Conditions: each theorem states its own.
-/
import Derived.Test.YtklbiemlpkhlhaaGreatDoorPfWalks
namespace Go.Proofs.YtklbiemlpkhlhaaGreatDoor
open Go.PF Tryz
set_option maxRecDepth 100000
set_option linter.unusedSimpArgs false
set_option linter.unusedVariables false
set_option maxHeartbeats 8000000

theorem Tf (c:Int) (ak:Int) {Aaq:aM} {caq:Nat} (aq:aC) (an:aD) (apt:Int) (us:aD) (w:World) (haq:Sl w [] 1 Aaq aq.length caq (aq.map I)) (han_n:an.length≤1099511627776) (hus_n:us.length≤2147483648) (hok:gL c ak aq an apt us=true):bF prog 84 [.agg #[I c,I ak,.slice Aaq aq.length caq,aA an,I apt,aA us]] w (fun v w'=>∃ Ar:aM,∃ cr:Nat,v=.slice Ar (r9 c ak aq an apt us).length cr∧SH w w' [] [.own Ar ((r9 c ak aq an apt us).length) cr 3 1 ((r9 c ak aq an apt us).map I)]):=by
 refine fQ 46 func84 r0 r0 ?_
 have aK:SH w w [] []:=SH.refl w []
 have pM:aq.length≤9223372036854775807:=cB haq.cap haq.cO
 refine sr (bx (v:=.agg #[I c,I ak,(Z4 Aaq aq caq),aA an,I apt,aA us]) (cs:=[I c,I ak,(Z4 Aaq aq caq),aA an,I apt,aA us]) aK r0 r0 aH r0 (fun b1 w1 aE=>tA ns r0 (nn (sq ?_))))
 refine kA (fun w'=>∃ L,SH w w' [] L∧(.blk b1 79 [I c,I ak,(Z4 Aaq aq caq),aA an,I apt,aA us])∈L∧True) (fun f w'=>∃ (cP:aM) (cQ:Nat) (gR:aM) (gT:Nat),Hz f [(1,pB b1),(3,.slice gR ((([4,c]:aC)++(bB apt)).length) gT)]∧SH w w' [] [.blk b1 79 [I c,I ak,(Z4 Aaq aq caq),aA an,I apt,aA us],(EA gR c apt gT),(nR cP apt cQ)]) mixed ?_ ?_
 ·refine dG 2 9 127 (fun f w'=>∃ (kR:Nat) (cP:aM) (cQ:Nat),Hz f [(1,pB b1),(6,sb kR (([4,c]:aC).length) 2),(10,.slice cP ((bB apt).length) cQ)]∧SH w w' [] [.blk b1 79 [I c,I ak,(Z4 Aaq aq caq),aA an,I apt,aA us],oI kR ([4,c]:aC) 2 3,(nR cP apt cQ)]) ?_ (fun D_1_0=>?_)
  ·rintro f w2 ⟨kR,cP,cQ,⟨g1,rfl⟩,aI⟩
   have hop:=hE hok
   have haf:=gP hop.2.1
   have hap:=fK hop.2.1
   have hul:=gY hop.2.2.1
   have htn:=cT an
   have htu:=cT us
   refine aO 7 r0 (gI (g:=I) (ys:=([4,c]:aC)) (zs:=bB apt) aI 1 r0 aV r0 r0 r0 (aI.cI 2 r0) (fun _=>rfl) (by unfold maxLen; have hnb:(bB apt).length=2:=rfl; simp only[bH,bP,bK]; omega) (by have hnb:(bB apt).length=2:=rfl; simp only[bH,bP,bK]; omega) aH r0 (fun gR gT w3 aN=>nk (m1 aN 0 r0) (tQ (fuel:=0) (is:=[8]) (.cons r0 (.nil)) (m1 aN 0 r0) (yA r0 (fW (v:=.slice gR ((([4,c]:aC)++(bB apt)).length) gT) r0) (.nil (aQ ?_))))))
   exact⟨cP,cQ,gR,gT,(zR r0),(aN.pk [0,2,1] r0)⟩
  refine dG 3 9 63 (fun f w'=>∃ (kR:Nat),Hz f [(1,pB b1),(6,sb kR (([4,c]:aC).length) 2),(9,I apt)]∧SH w w' [] [.blk b1 79 [I c,I ak,(Z4 Aaq aq caq),aA an,I apt,aA us],oI kR ([4,c]:aC) 2 3]) ?_ (fun D_1_1=>?_)
  ·rintro f w4 ⟨kR,⟨g2,rfl⟩,aR⟩
   exact aO 6 r0 (dP aR r0 (PB _ _ (by have hop:=hE hok; have haf:=gP hop.2.1; have hap:=fK hop.2.1; have hul:=gY hop.2.2.1; have htn:=cT an; have htu:=cT us; have hnb:(bB apt).length=2:=rfl; omega)) (fun cP cQ w5 aZ=>nk (m1 aZ 0 r0) (bS D_1_0 ⟨kR,cP,cQ,(zR r0),aZ⟩)))
  refine dG 3 9 123 (fun f w'=>∃ (cP:aM) (cQ:Nat),Hz f [(1,pB b1),(5,I c),(10,.slice cP ((bB apt).length) cQ)]∧SH w w' [] [.blk b1 79 [I c,I ak,(Z4 Aaq aq caq),aA an,I apt,aA us],(nR cP apt cQ)]) ?_ (fun D_1_2=>?_)
  ·rintro f w6 ⟨cP,cQ,⟨g3,rfl⟩,bG⟩
   exact aO 2 r0 (cR bG aV [I 4,I c] [I 4,I c] aH r0 (fun kR w7 bU=>nk (m1 bU 0 r0) (bS D_1_0 ⟨kR,cP,cQ,(zR r0),(bU.pk [0,2,1] r0)⟩)))
  refine dG 4 9 59 (fun f w'=>Hz f [(1,pB b1),(5,I c),(9,I apt)]∧SH w w' [] [.blk b1 79 [I c,I ak,(Z4 Aaq aq caq),aA an,I apt,aA us]]) ?_ (fun D_1_3=>?_)
  ·rintro f w8 ⟨⟨g4,rfl⟩,bV⟩
   refine jN [2,6] (eX ?_ (jP ?_))
   ·exact eI r0 (cR bV aV [I 4,I c] [I 4,I c] aH r0 (fun kR w9 b9=>nk (m1 b9 0 r0) (bS D_1_1 ⟨kR,(zR r0),b9⟩)))
   exact eI r0 (dP bV r0 (PB _ _ (by have hop:=hE hok; have haf:=gP hop.2.1; have hap:=fK hop.2.1; have hul:=gY hop.2.2.1; have htn:=cT an; have htu:=cT us; have hnb:(bB apt).length=2:=rfl; omega)) (fun cP cQ kF cM=>nk (m1 cM 0 r0) (bS D_1_2 ⟨cP,cQ,(zR r0),cM⟩)))
  have cW:=aE.drew
  exact tQ (fuel:=4) (is:=[0,1,3,4,5]) (.cons r0 (.cons r0 (.cons r0 (.cons r0 (.cons r0 (.nil)))))) (m1 cW 0 r0) (yA r0 (fa 0 M7 r0) (yB r0 (fun ⟨Lq,aU,dH,_⟩=>lM (I c) aU dH r0 cN) (yA r0 (fa 1 mW r0) (yA r0 (fa 3 pV r0) (yB r0 (fun ⟨Lq,aU,dH,_⟩=>lM (I apt) aU dH r0 cN) (.nil (bS D_1_3 ⟨(zR r0),cW⟩)))))))
 rintro f kB ⟨cP,cQ,gR,gT,⟨g5,rfl⟩,dB⟩
 refine nN (sq (sr (qt r0 (fa 1 mW r0) (qt r0 (fa 0 o8 r0) (qt r0 (lD (I ak) dB 0 r0 cN) (qt r0 (dO r0 r0) (nn (bI r0 (fun h1=>?_) (fun h1=>?_)))))))))
 ·refine rg (tm (.slice gR ((([4,c]:aC)++(bB apt)).length) gT) r0 (qt r0 (fa 1 mW r0) (qt r0 (fa 1 pL r0) (qt r0 (lD (cD Aaq aq caq) dB 0 r0 j4) (gI (g:=I) (ys:=([4,c]:aC)++(bB apt)) (zs:=aq) dB 1 r0 aV r0 r0 r0 (haq.aP dB) (fun _=>rfl) (by unfold maxLen; have hop:=hE hok; have haf:=gP hop.2.1; have hap:=fK hop.2.1; have hul:=gY hop.2.2.1; have htn:=cT an; have htu:=cT us; have hnb:(bB apt).length=2:=rfl; simp only[bH,bP,bK]; omega) (by have hop:=hE hok; have haf:=gP hop.2.1; have hap:=fK hop.2.1; have hul:=gY hop.2.2.1; have htn:=cT an; have htu:=cT us; have hnb:(bB apt).length=2:=rfl; simp only[bH,bP,bK]; omega) aH r0 (fun A1 c1 kI cY=>tA (.slice A1 (((([4,c]:aC)++(bB apt))++aq).length) c1) r0 (nx (tm (.slice A1 (((([4,c]:aC)++(bB apt))++aq).length) c1) r0 (qt r0 (fa 5 EY r0) (qt r0 (lD (aA us) cY 0 r0 eC) (dP cY r0 (DL _ _ (by omega)) (fun A2 c2 lU dJ=>gI (g:=I) (ys:=(([4,c]:aC)++(bB apt))++aq) (zs:=aW us) dJ 2 r0 aV r0 r0 r0 (dJ.cI 3 r0) (fun _=>rfl) (by unfold maxLen; have hop:=hE hok; have haf:=gP hop.2.1; have hap:=fK hop.2.1; have hul:=gY hop.2.2.1; have htn:=cT an; have htu:=cT us; have hnb:(bB apt).length=2:=rfl; simp only[bH,bP,bK]; omega) (by have hop:=hE hok; have haf:=gP hop.2.1; have hap:=fK hop.2.1; have hul:=gY hop.2.2.1; have htn:=cT an; have htu:=cT us; have hnb:(bB apt).length=2:=rfl; simp only[bH,bP,bK]; omega) aH r0 (fun A3 c3 mH dM=>tA (.slice A3 ((((([4,c]:aC)++(bB apt))++aq)++(aW us)).length) c3) r0 (nn ?_))))))))))))))
  have eO:=dM.pq [0,3] r0
  refine sr (tm (.slice A3 ((((([4,c]:aC)++(bB apt))++aq)++(aW us)).length) c3) r0 (cR eO aV [I 0] [I 0] aH r0 (fun b2 mI eK=>gI (g:=I) (ys:=((([4,c]:aC)++(bB apt))++aq)++(aW us)) (zs:=([0]:aC)) eK 1 r0 aV r0 r0 r0 (eK.cI 2 r0) (fun _=>rfl) (by unfold maxLen; have hop:=hE hok; have haf:=gP hop.2.1; have hap:=fK hop.2.1; have hul:=gY hop.2.2.1; have htn:=cT an; have htu:=cT us; have hnb:(bB apt).length=2:=rfl; simp only[bH,bP,bK]; omega) (by have hop:=hE hok; have haf:=gP hop.2.1; have hap:=fK hop.2.1; have hul:=gY hop.2.2.1; have htn:=cT an; have htu:=cT us; have hnb:(bB apt).length=2:=rfl; simp only[bH,bP,bK]; omega) aH r0 (fun A4 c4 mU (eZ:SH w mU [] [.blk b1 79 [I c,I ak,(Z4 Aaq aq caq),aA an,I apt,aA us],(wK b2),.own A4 (((((([4,c]:aC)++(bB apt))++aq)++(aW us))++([0]:aC)).length) c4 3 1 (((((([4,c]:aC)++(bB apt))++aq)++(aW us))++([0]:aC)).map I)])=>tA (.slice A4 (((((([4,c]:aC)++(bB apt))++aq)++(aW us))++([0]:aC)).length) c4) r0 (nn (sq (sr (qt r0 (fa 1 mW r0) (qt r0 (fa 0 o8 r0) (qt r0 (lD (I ak) eZ 0 r0 cN) (qt r0 (dO r0 r0) (nn (bI r0 (fun h2=>?_) (fun h2=>?_))))))))))))))
  ·refine sr (tm (.slice A4 (((((([4,c]:aC)++(bB apt))++aq)++(aW us))++([0]:aC)).length) c4) r0 (qt r0 (fa 1 mW r0) (qt r0 (fa 2 sW r0) (qt r0 (lD (aA an) eZ 0 r0 eC) (dP eZ r0 (DL _ _ (by omega)) (fun A5 c5 n6 fV=>gI (g:=I) (ys:=(((([4,c]:aC)++(bB apt))++aq)++(aW us))++([0]:aC)) (zs:=aW an) fV 2 r0 aV r0 r0 r0 (fV.cI 3 r0) (fun _=>rfl) (by unfold maxLen; have hop:=hE hok; have haf:=gP hop.2.1; have hap:=fK hop.2.1; have hul:=gY hop.2.2.1; have htn:=cT an; have htu:=cT us; have hnb:(bB apt).length=2:=rfl; simp only[bH,bP,bK]; omega) (by have hop:=hE hok; have haf:=gP hop.2.1; have hap:=fK hop.2.1; have hul:=gY hop.2.2.1; have htn:=cT an; have htu:=cT us; have hnb:(bB apt).length=2:=rfl; simp only[bH,bP,bK]; omega) aH r0 (fun A6 c6 m9 fD=>tA (.slice A6 ((((((([4,c]:aC)++(bB apt))++aq)++(aW us))++([0]:aC))++(aW an)).length) c6) r0 (nn ?_))))))))
   have gK:=fD.pq [3] r0
   refine rg (tm (.slice A6 ((((((([4,c]:aC)++(bB apt))++aq)++(aW us))++([0]:aC))++(aW an)).length) c6) r0 (cR gK aV [I 0] [I 0] aH r0 (fun b3 qQ hU=>gI (g:=I) (ys:=((((([4,c]:aC)++(bB apt))++aq)++(aW us))++([0]:aC))++(aW an)) (zs:=([0]:aC)) hU 0 r0 aV r0 r0 r0 (hU.cI 1 r0) (fun _=>rfl) (by unfold maxLen; have hop:=hE hok; have haf:=gP hop.2.1; have hap:=fK hop.2.1; have hul:=gY hop.2.2.1; have htn:=cT an; have htu:=cT us; have hnb:(bB apt).length=2:=rfl; simp only[bH,bP,bK]; omega) (by have hop:=hE hok; have haf:=gP hop.2.1; have hap:=fK hop.2.1; have hul:=gY hop.2.2.1; have htn:=cT an; have htu:=cT us; have hnb:(bB apt).length=2:=rfl; simp only[bH,bP,bK]; omega) aH r0 (fun A7 c7 rJ iN=>tA (.slice A7 (((((((([4,c]:aC)++(bB apt))++aq)++(aW us))++([0]:aC))++(aW an))++([0]:aC)).length) c7) r0 (nx (tm (.slice A7 (((((((([4,c]:aC)++(bB apt))++aq)++(aW us))++([0]:aC))++(aW an))++([0]:aC)).length) c7) r0 (tA (.slice A7 (((((((([4,c]:aC)++(bB apt))++aq)++(aW us))++([0]:aC))++(aW an))++([0]:aC)).length) c7) r0 (nl (nN (rt (fT (.slice A7 (((((((([4,c]:aC)++(bB apt))++aq)++(aW us))++([0]:aC))++(aW an))++([0]:aC)).length) c7) r0 ?_)))))))))))
   have e1:(((((([4,c]:aC)++(bB apt))++aq)++(aW us))++([0]:aC))++(aW an))++([0]:aC)=r9 c ak aq an apt us:=by(have hop:=hE hok; have haf:=gP hop.2.1; have hap:=fK hop.2.1; have hul:=gY hop.2.2.1; have htn:=cT an; have htu:=cT us; have hnb:(bB apt).length=2:=rfl; have BC:=haf.1; simp[r9,h1,h2] <;> omega)
   have e2:=aS List.length e1
   exact⟨A7,c7,(eE r0 e2 r0),((iN.pq [1] r0).cast (lc (dZ (g:=I) r0 e2 r0 e1) r0))⟩
  refine sk (nN (sr (tm (.slice A4 (((((([4,c]:aC)++(bB apt))++aq)++(aW us))++([0]:aC)).length) c4) r0 (tA (.slice A4 (((((([4,c]:aC)++(bB apt))++aq)++(aW us))++([0]:aC)).length) c4) r0 (nn (rt (fT (.slice A4 (((((([4,c]:aC)++(bB apt))++aq)++(aW us))++([0]:aC)).length) c4) r0 ?_)))))))
  have e3:(((([4,c]:aC)++(bB apt))++aq)++(aW us))++([0]:aC)=r9 c ak aq an apt us:=by(rw[Y4 (by omega)]; done)
  have e4:=aS List.length e3
  exact⟨A4,c4,(eE r0 e4 r0),((eZ.pq [2] r0).cast (lc (dZ (g:=I) r0 e4 r0 e3) r0))⟩
 refine rg (tm (.slice gR ((([4,c]:aC)++(bB apt)).length) gT) r0 (cR dB aV [I 0,I 0,I 0,I 1] [I 0,I 0,I 0,I 1] aH r0 (fun b4 tL (iB:SH w tL [] [.blk b1 79 [I c,I ak,(Z4 Aaq aq caq),aA an,I apt,aA us],(EA gR c apt gT),(nR cP apt cQ),(zI b4)])=>gI (g:=I) (ys:=([4,c]:aC)++(bB apt)) (zs:=([0,0,0,1]:aC)) iB 1 r0 aV r0 r0 r0 (iB.cI 3 r0) (fun _=>rfl) (by unfold maxLen; have hop:=hE hok; have haf:=gP hop.2.1; have hap:=fK hop.2.1; have hul:=gY hop.2.2.1; have htn:=cT an; have htu:=cT us; have hnb:(bB apt).length=2:=rfl; simp only[bH,bP,bK]; omega) (by have hop:=hE hok; have haf:=gP hop.2.1; have hap:=fK hop.2.1; have hul:=gY hop.2.2.1; have htn:=cT an; have htu:=cT us; have hnb:(bB apt).length=2:=rfl; simp only[bH,bP,bK]; omega) aH r0 (fun A8 c8 sC iE=>tA (.slice A8 (((([4,c]:aC)++(bB apt))++([0,0,0,1]:aC)).length) c8) r0 (nn ?_)))))
 have jB:=iE.pq [0,3] r0
 refine sr (tm (.slice A8 (((([4,c]:aC)++(bB apt))++([0,0,0,1]:aC)).length) c8) r0 (qt r0 (fa 5 EY r0) (qt r0 (lD (aA us) jB 0 r0 eC) (dP jB r0 (DL _ _ (by omega)) (fun A9 c9 vK gV=>gI (g:=I) (ys:=(([4,c]:aC)++(bB apt))++([0,0,0,1]:aC)) (zs:=aW us) gV 1 r0 aV r0 r0 r0 (gV.cI 2 r0) (fun _=>rfl) (by unfold maxLen; have hop:=hE hok; have haf:=gP hop.2.1; have hap:=fK hop.2.1; have hul:=gY hop.2.2.1; have htn:=cT an; have htu:=cT us; have hnb:(bB apt).length=2:=rfl; simp only[bH,bP,bK]; omega) (by have hop:=hE hok; have haf:=gP hop.2.1; have hap:=fK hop.2.1; have hul:=gY hop.2.2.1; have htn:=cT an; have htu:=cT us; have hnb:(bB apt).length=2:=rfl; simp only[bH,bP,bK]; omega) aH r0 (fun T9 wP xC kU=>tA (.slice T9 ((((([4,c]:aC)++(bB apt))++([0,0,0,1]:aC))++(aW us)).length) wP) r0 (nx (tm (.slice T9 ((((([4,c]:aC)++(bB apt))++([0,0,0,1]:aC))++(aW us)).length) wP) r0 (cR kU aV [I 0] [I 0] aH r0 (fun b5 vL kV=>gI (g:=I) (ys:=((([4,c]:aC)++(bB apt))++([0,0,0,1]:aC))++(aW us)) (zs:=([0]:aC)) kV 2 r0 aV r0 r0 r0 (kV.cI 3 r0) (fun _=>rfl) (by unfold maxLen; have hop:=hE hok; have haf:=gP hop.2.1; have hap:=fK hop.2.1; have hul:=gY hop.2.2.1; have htn:=cT an; have htu:=cT us; have hnb:(bB apt).length=2:=rfl; simp only[bH,bP,bK]; omega) (by have hop:=hE hok; have haf:=gP hop.2.1; have hap:=fK hop.2.1; have hul:=gY hop.2.2.1; have htn:=cT an; have htu:=cT us; have hnb:(bB apt).length=2:=rfl; simp only[bH,bP,bK]; omega) aH r0 (fun DU EL vM (kY:SH w vM [] [.blk b1 79 [I c,I ak,(Z4 Aaq aq caq),aA an,I apt,aA us],.own A9 ((aW us).length) c9 3 1 ((aW us).map I),(wK b5),.own DU (((((([4,c]:aC)++(bB apt))++([0,0,0,1]:aC))++(aW us))++([0]:aC)).length) EL 3 1 (((((([4,c]:aC)++(bB apt))++([0,0,0,1]:aC))++(aW us))++([0]:aC)).map I)])=>tA (.slice DU (((((([4,c]:aC)++(bB apt))++([0,0,0,1]:aC))++(aW us))++([0]:aC)).length) EL) r0 (nn ?_))))))))))))
 have kH:=kY.pq [0,3] r0
 refine sq (sr (qt r0 (fa 1 mW r0) (qt r0 (fa 0 o8 r0) (qt r0 (lD (I ak) kH 0 r0 cN) (qt r0 (dO r0 r0) (nl (nN (bI r0 (fun h3=>?_) (fun h3=>?_)))))))))
 ·refine sr (tm (.slice DU (((((([4,c]:aC)++(bB apt))++([0,0,0,1]:aC))++(aW us))++([0]:aC)).length) EL) r0 (qt r0 (fa 1 mW r0) (qt r0 (fa 2 sW r0) (qt r0 (lD (aA an) kH 0 r0 eC) (dP kH r0 (DL _ _ (by(have hop:=hE hok; have haf:=gP hop.2.1; have hap:=fK hop.2.1; have hul:=gY hop.2.2.1; have htn:=cT an; have htu:=cT us; have hnb:(bB apt).length=2:=rfl; omega))) (fun A12 c12 B5 iU=>gI (g:=I) (ys:=(((([4,c]:aC)++(bB apt))++([0,0,0,1]:aC))++(aW us))++([0]:aC)) (zs:=aW an) iU 1 r0 aV r0 r0 r0 (iU.cI 2 r0) (fun _=>rfl) (by unfold maxLen; have hop:=hE hok; have haf:=gP hop.2.1; have hap:=fK hop.2.1; have hul:=gY hop.2.2.1; have htn:=cT an; have htu:=cT us; have hnb:(bB apt).length=2:=rfl; simp only[bH,bP,bK]; omega) (by have hop:=hE hok; have haf:=gP hop.2.1; have hap:=fK hop.2.1; have hul:=gY hop.2.2.1; have htn:=cT an; have htu:=cT us; have hnb:(bB apt).length=2:=rfl; simp only[bH,bP,bK]; omega) aH r0 (fun UA HI AJ mK=>tA (.slice UA ((((((([4,c]:aC)++(bB apt))++([0,0,0,1]:aC))++(aW us))++([0]:aC))++(aW an)).length) HI) r0 (nn (rg (tm (.slice UA ((((((([4,c]:aC)++(bB apt))++([0,0,0,1]:aC))++(aW us))++([0]:aC))++(aW an)).length) HI) r0 (cR mK aV [I 0] [I 0] aH r0 (fun b6 DS lL=>gI (g:=I) (ys:=((((([4,c]:aC)++(bB apt))++([0,0,0,1]:aC))++(aW us))++([0]:aC))++(aW an)) (zs:=([0]:aC)) lL 2 r0 aV r0 r0 r0 (lL.cI 3 r0) (fun _=>rfl) (by unfold maxLen; have hop:=hE hok; have haf:=gP hop.2.1; have hap:=fK hop.2.1; have hul:=gY hop.2.2.1; have htn:=cT an; have htu:=cT us; have hnb:(bB apt).length=2:=rfl; simp only[bH,bP,bK]; omega) (by have hop:=hE hok; have haf:=gP hop.2.1; have hap:=fK hop.2.1; have hul:=gY hop.2.2.1; have htn:=cT an; have htu:=cT us; have hnb:(bB apt).length=2:=rfl; simp only[bH,bP,bK]; omega) aH r0 (fun GN HJ B6 mY=>tA (.slice GN (((((((([4,c]:aC)++(bB apt))++([0,0,0,1]:aC))++(aW us))++([0]:aC))++(aW an))++([0]:aC)).length) HJ) r0 (nn ?_))))))))))))))
  have lN:SH w B6 [] [.own GN (((((((([4,c]:aC)++(bB apt))++([0,0,0,1]:aC))++(aW us))++([0]:aC))++(aW an))++([0]:aC)).length) HJ 3 1 (((((((([4,c]:aC)++(bB apt))++([0,0,0,1]:aC))++(aW us))++([0]:aC))++(aW an))++([0]:aC)).map I)]:=mY.pk [3] r0
  refine sr (tm (.slice GN (((((((([4,c]:aC)++(bB apt))++([0,0,0,1]:aC))++(aW us))++([0]:aC))++(aW an))++([0]:aC)).length) HJ) r0 (tA (.slice GN (((((((([4,c]:aC)++(bB apt))++([0,0,0,1]:aC))++(aW us))++([0]:aC))++(aW an))++([0]:aC)).length) HJ) r0 (nn (rt (fT (.slice GN (((((((([4,c]:aC)++(bB apt))++([0,0,0,1]:aC))++(aW us))++([0]:aC))++(aW an))++([0]:aC)).length) HJ) r0 ?_)))))
  have e5:(((((([4,c]:aC)++(bB apt))++([0,0,0,1]:aC))++(aW us))++([0]:aC))++(aW an))++([0]:aC)=r9 c ak aq an apt us:=by(rw[Y5 ‹_›]; done)
  have e6:=aS List.length e5
  exact⟨GN,HJ,(eE r0 e6 r0),(lN.cast (lc (dZ (g:=I) r0 e6 r0 e5) r0))⟩
 refine sk (nN (sr (tm (.slice DU (((((([4,c]:aC)++(bB apt))++([0,0,0,1]:aC))++(aW us))++([0]:aC)).length) EL) r0 (tA (.slice DU (((((([4,c]:aC)++(bB apt))++([0,0,0,1]:aC))++(aW us))++([0]:aC)).length) EL) r0 (nn (rt (fT (.slice DU (((((([4,c]:aC)++(bB apt))++([0,0,0,1]:aC))++(aW us))++([0]:aC)).length) EL) r0 ?_)))))))
 have e7:(((([4,c]:aC)++(bB apt))++([0,0,0,1]:aC))++(aW us))++([0]:aC)=r9 c ak aq an apt us:=by(have hop:=hE hok; have haf:=gP hop.2.1; have hap:=fK hop.2.1; have hul:=gY hop.2.2.1; have htn:=cT an; have htu:=cT us; have hnb:(bB apt).length=2:=rfl; have BC:=haf.1; simp[r9,h1,h3] <;> omega)
 have e8:=aS List.length e7
 exact⟨DU,EL,(eE r0 e8 r0),((kH.pq [1] r0).cast (lc (dZ (g:=I) r0 e8 r0 e7) r0))⟩
theorem Tq (c:Int) (ak:Int) {Aaq:aM} {caq:Nat} (aq:aC) (an:aD) (apt:Int) (us:aD) (w:World) (haq:Sl w [] 1 Aaq aq.length caq (aq.map I)) (han_n:an.length≤1099511627776) (hus_n:us.length≤2147483648):bF prog 45 [.agg #[I c,I ak,.slice Aaq aq.length caq,aA an,I apt,aA us]] w (fun v w'=>∃ Ar:aM,∃ cr:Nat,v=.tuple #[.slice Ar ((lT c ak aq an apt us).1).length cr,.bool ((lT c ak aq an apt us).2)]∧SH w w' [] [.own Ar (((lT c ak aq an apt us).1).length) cr 3 1 (((lT c ak aq an apt us).1).map I)]):=by
 refine fQ 10 func45 r0 r0 ?_
 have aK:=SH.refl w []
 have pM:aq.length≤9223372036854775807:=cB haq.cap haq.cO
 refine sr (bx (v:=.agg #[I c,I ak,(Z4 Aaq aq caq),aA an,I apt,aA us]) (cs:=[I c,I ak,(Z4 Aaq aq caq),aA an,I apt,aA us]) aK r0 r0 aH r0 (fun b1 w1 aE=>tA ns r0 (tA (.bool false) r0 (nn (sq (sr (qt r0 (lG [I c,I ak,(Z4 Aaq aq caq),aA an,I apt,aA us] aE 0 r0 hH) (cS aE r0 (K0 _ _ _ _ _ _ _ (haq.aP aE) (by omega) (by omega)) (fun w2 aI=>qt r0 (nt r0) (nn (cd r0 (fun h1=>?_) (fun h1=>?_))))))))))))
 ·have h2:=dX h1
  refine sr (cR aI aV [] [] aH r0 (fun b2 w3 aN=>tA (sb b2 (([]:aC).length) 0) r0 (tA (.bool false) r0 (nn (rt (tR (bO (.tmp (.tmp .nil)) r0 ?_)))))))
  have e1:lT c ak aq an apt us=(([]:aC),false):=by simp[lT,h2]
  rw[e1]
  exact⟨(Z7 b2),0,rfl,(aN.pk [1] r0)⟩
 have h3:=dY h1
 refine sk (nN (sr (qt r0 (lG [I c,I ak,(Z4 Aaq aq caq),aA an,I apt,aA us] aI 0 r0 hH) (dP aI r0 (Tf _ _ _ _ _ _ _ (haq.aP aI) (by omega) (by omega) (by omega)) (fun A1 c1 w4 aR=>tA (.slice A1 ((r9 c ak aq an apt us).length) c1) r0 (tA (.bool true) r0 (nn (rt (bO (.tmp (.tmp .nil)) r0 ?_)))))))))
 have e2:lT c ak aq an apt us=(r9 c ak aq an apt us,true):=by simp[lT,h3]
 rw[e2]
 exact⟨A1,c1,rfl,(aR.pk [1] r0)⟩
theorem Lj (ak:Int) {Aaq:aM} {caq:Nat} (aq:aC) (an:aD) (apt:Int) (w:World) (haq:Sl w [] 1 Aaq aq.length caq (aq.map I)) (han_n:an.length≤1099511627776) (hGp:bZ prog w [] "internal/strconv.uint64pow10" jH):bF prog 171 [.agg #[I ak,.slice Aaq aq.length caq,aA an,I apt]] w (fun v w'=>v=aA (nG ak aq an apt)∧SH w w' [] []):=by
 refine fQ 14 func171 r0 r0 ?_
 have aK:=SH.refl w []
 have pM:aq.length≤9223372036854775807:=cB haq.cap haq.cO
 refine sr (bx (v:=.agg #[I ak,(Z4 Aaq aq caq),aA an,I apt]) (cs:=[I ak,(Z4 Aaq aq caq),aA an,I apt]) aK r0 r0 aH r0 (fun b1 w1 aE=>tA (aA []) r0 (nx (qt r0 (lG [I ak,(Z4 Aaq aq caq),aA an,I apt] aE 0 r0 cG) (cS aE r0 (Ld _ _ _ _ _ (haq.aP aE) (by omega) (hGp.aP aE)) (fun w2 aI=>tA (aA (gZ ak aq an apt)) r0 (nn (sq (sr (tm (aA (gZ ak aq an apt)) r0 (qt r0 (eqs r0 r0) (nn (bI r0 (fun h1=>?_) (fun h1=>?_))))))))))))))
 ·exact sr (tA (aA []) r0 (nn (rt (tR (fS r0 (by(have hx:=UJ.1 (by assumption:gZ ak aq an apt=[]); simp[nG,hx]; done)) (aI.pk [] r0))))))
 refine sk (nN (sr (tm (aA (gZ ak aq an apt)) r0 (qt r0 (cat r0 r0 (by have hat:=EF ak aq an apt; simp only[bH,bP,bK]; omega)) (qt r0 (cat r0 r0 (by have hat:=EF ak aq an apt; simp only[bH,bP,bK]; omega)) (tm (aA (gZ ak aq an apt)) r0 (qt r0 (cat r0 r0 (by have hat:=EF ak aq an apt; simp only[bH,bP,bK]; omega)) (qt r0 (cat r0 r0 (by have hat:=EF ak aq an apt; simp only[bH,bP,bK]; omega)) (tA (aA (((([67,79,78,78,69,67,84,32]++(gZ ak aq an apt))++[32,72,84,84,80,47,49,46,49,13,10,72,111,115,116,58,32])++(gZ ak aq an apt))++[13,10,13,10])) r0 (nn (rt (fT (aA (((([67,79,78,78,69,67,84,32]++(gZ ak aq an apt))++[32,72,84,84,80,47,49,46,49,13,10,72,111,115,116,58,32])++(gZ ak aq an apt))++[13,10,13,10])) r0 ?_))))))))))))
 have e2:((([67,79,78,78,69,67,84,32]++(gZ ak aq an apt))++[32,72,84,84,80,47,49,46,49,13,10,72,111,115,116,58,32])++(gZ ak aq an apt))++[13,10,13,10]=nG ak aq an apt:=by(have hx:dN ak aq an apt=true:=(by rcases oL (dN ak aq an apt) with hh | hh; exact hh; exact absurd (UJ.2 hh) ‹_›); simp[nG,zP,hx]; done)
 exact⟨(aS (aA) e2),(aI.pk [] r0)⟩
theorem TD (ak:Int) {Aaq:aM} {caq:Nat} (aq:aC) (an:aD) (apt:Int) (w:World) (haq:Sl w [] 1 Aaq aq.length caq (aq.map I)) (han_n:an.length≤1099511627776):bF prog 82 [.agg #[I ak,.slice Aaq aq.length caq,aA an,I apt]] w (fun v w'=>v=aA (gZ ak aq an apt)∧SH w w' [] []):=by
 refine fQ 13 func82 r0 r0 ?_
 have aK:=SH.refl w []
 have pM:aq.length≤9223372036854775807:=cB haq.cap haq.cO
 refine sr (bx (v:=.agg #[I ak,(Z4 Aaq aq caq),aA an,I apt]) (cs:=[I ak,(Z4 Aaq aq caq),aA an,I apt]) aK r0 r0 aH r0 (fun b1 w1 aE=>tA (aA []) r0 (nn (sq (sr (qt r0 (lG [I ak,(Z4 Aaq aq caq),aA an,I apt] aE 0 r0 cG) (cS aE r0 (AF _ _ _ _ _ (haq.aP aE) (by omega)) (fun w2 aI=>qt r0 (nt r0) (nn (cd r0 (fun h1=>?_) (fun h1=>?_)))))))))))
 ·have h2:=dX h1
  exact sr (tA (aA []) r0 (nn (rt (tR (fS r0 (by simp[gZ,h2]) (aI.pk [] r0))))))
 have h3:=dY h1
 refine sk (nN (sq (rq (fun w'=>SH w w' [] [.blk b1 74 [I ak,(Z4 Aaq aq caq),aA an,I apt]]) mixed (by kernel_rfl) aI.drew (qB r0 (fun aU=>lG [I ak,(Z4 Aaq aq caq),aA an,I apt] aU 0 r0 cG) (qc (aA (jJ ak aq an)) aH r0 (fun wq aU=>(Td _ _ _ _ _ (haq.aP aU) (by omega) (by omega)).mono (fun v w' h=>⟨h.1,by simpa using aU.cJ h.2⟩)) (qA r0 (cat r0 r0 (by have haf:=fK (by assumption:dN ak aq an apt=true); have hhl:=RK (by assumption:dN ak aq an apt=true); have hil:=sL apt (by omega) (by omega); simp only[bH,bP,bK]; omega)) (qA r0 (fa 3 pV r0) (qB r0 (fun aU=>lD (I apt) aU 0 r0 cN) (qc (aA (Lib.itoa apt)) aH r0 (fun wq aU=>(DC _ _ (by have haf:=fK (by assumption:dN ak aq an apt=true); omega)).mono (fun v w' h=>⟨h.1,by simpa using aU.cJ h.2⟩)) (qA r0 (cat r0 r0 (by have haf:=fK (by assumption:dN ak aq an apt=true); have hhl:=RK (by assumption:dN ak aq an apt=true); have hil:=sL apt (by omega) (by omega); simp only[bH,bP,bK]; omega)) (qA r0 (fW (v:=aA (((jJ ak aq an)++[58])++(Lib.itoa apt))) r0) (qn (fun w3 aN=>nN (rt (fT (aA (((jJ ak aq an)++[58])++(Lib.itoa apt))) r0 ?_)))))))))))))))
 have e2:((jJ ak aq an)++[58])++(Lib.itoa apt)=gZ ak aq an apt:=by simp[gZ,h3]
 exact⟨(aS (aA) e2),(aN.pk [] r0)⟩
theorem St (s:aD) (w:World) (hs_n:s.length≤2000):bF prog 228 [aA s] w (fun v w'=>v=aA (zP s)∧SH w w' [] []):=by
 refine fQ 9 func228 r0 r0 ?_
 have aK:=SH.refl w []
 refine sr (tA (aA []) r0 (nx (tm (aA s) r0 (qt r0 (cat r0 r0 (by simp only[bH,bP,bK]; omega)) (qt r0 (cat r0 r0 (by simp only[bH,bP,bK]; omega)) (tm (aA s) r0 (qt r0 (cat r0 r0 (by simp only[bH,bP,bK]; omega)) (qt r0 (cat r0 r0 (by simp only[bH,bP,bK]; omega)) (tA (aA (((([67,79,78,78,69,67,84,32]++s)++[32,72,84,84,80,47,49,46,49,13,10,72,111,115,116,58,32])++s)++[13,10,13,10])) r0 (nn (rt (fT (aA (((([67,79,78,78,69,67,84,32]++s)++[32,72,84,84,80,47,49,46,49,13,10,72,111,115,116,58,32])++s)++[13,10,13,10])) r0 ?_))))))))))))
 have e1:((([67,79,78,78,69,67,84,32]++s)++[32,72,84,84,80,47,49,46,49,13,10,72,111,115,116,58,32])++s)++[13,10,13,10]=zP s:=by simp[zP]
 exact⟨(aS (aA) e1),aK⟩
theorem Ao (ak:Int) {Aaq:aM} {caq:Nat} (aq:aC) (an:aD) (apt:Int) (w:World) (haq:Sl w [] 1 Aaq aq.length caq (aq.map I)) (han_n:an.length≤1099511627776):bF prog 191 [.agg #[I ak,.slice Aaq aq.length caq,aA an,I apt]] w (fun v w'=>v=aA (nG ak aq an apt)∧SH w w' [] []):=by
 refine fQ 9 func191 r0 r0 ?_
 have aK:=SH.refl w []
 have pM:aq.length≤9223372036854775807:=cB haq.cap haq.cO
 refine sr (bx (v:=.agg #[I ak,(Z4 Aaq aq caq),aA an,I apt]) (cs:=[I ak,(Z4 Aaq aq caq),aA an,I apt]) aK r0 r0 aH r0 (fun b1 w1 aE=>tA (aA []) r0 (nn (sq (sr (qt r0 (lG [I ak,(Z4 Aaq aq caq),aA an,I apt] aE 0 r0 cG) (cS aE r0 (AF _ _ _ _ _ (haq.aP aE) (by omega)) (fun w2 aI=>qt r0 (nt r0) (nn (cd r0 (fun h1=>?_) (fun h1=>?_)))))))))))
 ·have h2:=dX h1
  exact sr (tA (aA []) r0 (nn (rt (tR (fS r0 (by simp[nG,h2]) (aI.pk [] r0))))))
 have h3:=dY h1
 refine sk (nN (sr (qt r0 (lG [I ak,(Z4 Aaq aq caq),aA an,I apt] aI 0 r0 cG) (cS aI r0 (TD _ _ _ _ _ (haq.aP aI) (by omega)) (fun w3 aN=>cS aN r0 (St _ _ (by(have hat:=EF ak aq an apt; omega))) (fun w4 aR=>tA (aA (zP (gZ ak aq an apt))) r0 (nn (rt (fT (aA (zP (gZ ak aq an apt))) r0 ?_)))))))))
 have e2:zP (gZ ak aq an apt)=nG ak aq an apt:=by simp[nG,h3]
 exact⟨(aS (aA) e2),(aR.pk [] r0)⟩
theorem XH (c:Int) (ak:Int) {Aaq:aM} {caq:Nat} (aq:aC) (an:aD) (apt:Int) (w:World) (haq:Sl w [] 1 Aaq aq.length caq (aq.map I)) (han_n:an.length≤1099511627776):bF prog 183 [I c,.agg #[I ak,.slice Aaq aq.length caq,aA an,I apt]] w (fun v w'=>∃ Ar:aM,∃ cr:Nat,v=.tuple #[.slice Ar ((mT c ak aq an apt).1).length cr,.bool ((mT c ak aq an apt).2)]∧SH w w' [] [.own Ar (((mT c ak aq an apt).1).length) cr 3 1 (((mT c ak aq an apt).1).map I)]):=by
 refine fQ 19 func183 r0 r0 ?_
 have aK:=SH.refl w []
 have pM:aq.length≤9223372036854775807:=cB haq.cap haq.cO
 refine sr (bx (v:=.agg #[I ak,(Z4 Aaq aq caq),aA an,I apt]) (cs:=[I ak,(Z4 Aaq aq caq),aA an,I apt]) aK r0 r0 aH r0 (fun b1 w1 aE=>tA ns r0 (tA (.bool false) r0 (nn (sq (sr (tm (I c) r0 (cS aE r0 (x4 _ 0 8 _) (fun w2 aI=>qt r0 (nd r0) (tm (.bool (decide (¬ (0≤c∧c≤8)))) r0 (fF 9 r0 (fun h1=>?_) (fun h1=>?_))))))))))))
 ·refine aT r0 (aT r0 (aT r0 (qt r0 (pt (v:=.bool true) r0 r0) (nn (fX r0 (sq (rg (tA ns r0 (tA (.bool false) r0 (nn (rt (tR (bO (.tmp (.tmp .nil)) r0 ?_)))))))))))))
  have aN:=aI.nl [Z0] r0
  have e1:mT c ak aq an apt=(([]:aC),false):=by simp[mT,h1]
  rw[e1]
  exact⟨none,0,rfl,(aN.pk [1] r0)⟩
 refine qh r0 (lG [I ak,(Z4 Aaq aq caq),aA an,I apt] aI 0 r0 cG) (cl ⟨_,rfl,rfl⟩ r0 (x0 _ _ _ _ _ (haq.aP aI) (by omega)) ?_)
 rintro _ w3 ⟨rfl,aR⟩
 replace aR:=aI.cJ aR
 refine qh r0 (nt r0) (qt r0 (pf (v:=.bool (!(dN ak aq an apt))) r0 r0) (nn (cd r0 (fun h2=>?_) (fun h2=>?_))))
 ·have h3:=dX h2
  refine sr (tA ns r0 (tA (.bool false) r0 (nn (rt (tR (bO (.tmp (.tmp .nil)) r0 ?_))))))
  have aZ:=aR.nl [Z0] r0
  have e2:mT c ak aq an apt=(([]:aC),false):=by simp[mT,h1,h3]
  rw[e2]
  exact⟨none,0,rfl,(aZ.pk [1] r0)⟩
 have h4:=dY h2
 refine sk (nN (sr (tm (I c) r0 (cR aR aV [I 5,I c,I 0] [I 5,I c,I 0] aH r0 (fun b2 w4 bG=>qt r0 (lG [I ak,(Z4 Aaq aq caq),aA an,I apt] bG 0 r0 cG) (dP bG r0 (RW _ _ _ _ _ (haq.aP bG) (by omega) (by omega)) (fun A1 c1 w5 bU=>gI (g:=I) (ys:=([5,c,0]:aC)) (zs:=iZ ak aq an apt) bU 1 r0 aV r0 r0 r0 (bU.cI 2 r0) (fun _=>rfl) (by unfold maxLen; have hbl:=ED (by assumption:dN ak aq an apt=true); simp only[bH,bP,bK]; omega) (by have hbl:=ED (by assumption:dN ak aq an apt=true); simp only[bH,bP,bK]; omega) aH r0 (fun A2 c2 w6 bV=>tA (.slice A2 ((([5,c,0]:aC)++(iZ ak aq an apt)).length) c2) r0 (tA (.bool true) r0 (nn (rt (bO (.tmp (.tmp .nil)) r0 ?_))))))))))))
 have e3:mT c ak aq an apt=(([5,c,0]:aC)++(iZ ak aq an apt),true):=by simp[mT,h1,h4]
 rw[e3]
 exact⟨A2,c2,rfl,(bV.pk [2] r0)⟩
theorem Bg (c:Int) (ak:Int) {Aaq:aM} {caq:Nat} (aq:aC) (an:aD) (apt:Int) (w:World) (haq:Sl w [] 1 Aaq aq.length caq (aq.map I)) (han_n:an.length≤1099511627776):bF prog 203 [I c,.agg #[I ak,.slice Aaq aq.length caq,aA an,I apt]] w (fun v w'=>∃ Ar:aM,∃ cr:Nat,v=.tuple #[.slice Ar ((mT c ak aq an apt).1).length cr,.bool ((mT c ak aq an apt).2)]∧SH w w' [] [.own Ar (((mT c ak aq an apt).1).length) cr 3 1 (((mT c ak aq an apt).1).map I)]):=by
 refine fQ 18 func203 r0 r0 ?_
 have aK:=SH.refl w []
 have pM:aq.length≤9223372036854775807:=cB haq.cap haq.cO
 refine sr (bx (v:=.agg #[I ak,(Z4 Aaq aq caq),aA an,I apt]) (cs:=[I ak,(Z4 Aaq aq caq),aA an,I apt]) aK r0 r0 aH r0 (fun b1 w1 aE=>tA ns r0 (tA (.bool false) r0 (nn (sq (sr (tm (I c) r0 (cS aE r0 (wV _ 0 8 _) (fun w2 aI=>qt r0 (nd r0) (tm (.bool (decide (¬ (0≤c∧c≤8)))) r0 (fF 9 r0 (fun h1=>?_) (fun h1=>?_))))))))))))
 ·refine aT r0 (aT r0 (aT r0 (qt r0 (pt (v:=.bool true) r0 r0) (nn (fX r0 (sq (rg (cR aI aV [] [] aH r0 (fun b2 w3 aN=>tA (sb b2 (([]:aC).length) 0) r0 (tA (.bool false) r0 (nn (rt (tR (bO (.tmp (.tmp .nil)) r0 ?_))))))))))))))
  have e1:mT c ak aq an apt=(([]:aC),false):=by simp[mT,h1]
  rw[e1]
  exact⟨(Z7 b2),0,rfl,(aN.pk [1] r0)⟩
 refine qh r0 (lG [I ak,(Z4 Aaq aq caq),aA an,I apt] aI 0 r0 cG) (cl ⟨_,rfl,rfl⟩ r0 (AF _ _ _ _ _ (haq.aP aI) (by omega)) ?_)
 rintro _ w4 ⟨rfl,aR⟩
 replace aR:=aI.cJ aR
 refine qh r0 (nt r0) (qt r0 (pf (v:=.bool (!(dN ak aq an apt))) r0 r0) (nn (cd r0 (fun h2=>?_) (fun h2=>?_))))
 ·have h3:=dX h2
  refine sr (cR aR aV [] [] aH r0 (fun b3 w5 aZ=>tA (sb b3 (([]:aC).length) 0) r0 (tA (.bool false) r0 (nn (rt (tR (bO (.tmp (.tmp .nil)) r0 ?_)))))))
  have e2:mT c ak aq an apt=(([]:aC),false):=by simp[mT,h1,h3]
  rw[e2]
  exact⟨(Z7 b3),0,rfl,(aZ.pk [1] r0)⟩
 have h4:=dY h2
 refine sk (nN (sr (tm (I c) r0 (qt r0 (lG [I ak,(Z4 Aaq aq caq),aA an,I apt] aR 0 r0 cG) (dP aR r0 (Aw _ _ _ _ _ _ (haq.aP aR) (by omega) (by omega)) (fun A1 c1 w6 bG=>tA (.slice A1 (([5,c,0]++iZ ak aq an apt).length) c1) r0 (tA (.bool true) r0 (nn (rt (bO (.tmp (.tmp .nil)) r0 ?_))))))))))
 have e3:mT c ak aq an apt=([5,c,0]++iZ ak aq an apt,true):=by simp[mT,h1,h4]
 rw[e3]
 exact⟨A1,c1,rfl,(bG.pk [1] r0)⟩
theorem FN {Abs:aM} {cbs:Nat} (bs:aC) (w:World) (hbs:Sl w [] 1 Abs bs.length cbs (bs.map I)):bF prog 164 [.slice Abs bs.length cbs] w (fun v w'=>∃ gr:Nat,v=.pointer (some ⟨gr,0,none⟩)∧SH w w' [] [.blk gr 156 [.slice Abs bs.length cbs,I 0,.bool (!bJ bs)]]):=by
 refine fQ 9 func164 r0 r0 ?_
 have aK:=SH.refl w []
 have nW:bs.length≤9223372036854775807:=cB hbs.cap hbs.cO
 refine sr (tA (.pointer none) r0 (nx (tm (cD Abs bs cbs) r0 (tm (cD Abs bs cbs) r0 (cS aK r0 (H4 _ _ (hbs.aP aK)) (fun w1 aE=>qt r0 (nt r0) (qt r0 (bQ (v:=.agg #[(Z4 Abs bs cbs),I 0,.bool (!(bJ bs))]) [(0,.slice Abs bs.length cbs),(2,.bool (!(bJ bs)))] r0) (bx (v:=.agg #[(Z4 Abs bs cbs),I 0,.bool (!(bJ bs))]) (cs:=[(Z4 Abs bs cbs),I 0,.bool (!(bJ bs))]) aE r0 r0 aH r0 (fun b1 w2 aI=>tA (pB b1) r0 (nn (rt (fT (pB b1) r0 ?_))))))))))))
 have e1:(!(bJ bs))=(!bJ bs):=by rfl
 exact⟨b1,rfl,(aI.cast (lc (aS (It.blk b1 156) (lc r0 (lc r0 (lc (aS Value.bool e1) r0)))) r0))⟩
theorem yE {rb:Nat} {Ab:aM} {cb:Nat} (bs:aC) (sa:Nat) (sf:Bool) (n:Int) (w:World) (hr:w.heap[rb]?=some (.cells [.slice Ab bs.length cb,.int .i64 (sa:Int),.bool sf].toArray 156 (0,0))) (hb:Sl w [rb] 1 Ab bs.length cb (bs.map I)) (hbv:sf=false→bJ bs=true) (HZ:sa≤bs.length) (hn:0≤n∧n≤65535):bF prog 168 [pB rb,I n] w (fun v w'=>∃ Ar:aM,∃ cr:Nat,∃ qa:Nat,∃ qf:Bool,v=.slice Ar (aF bs (sa,sf) n.toNat).length cr∧(qa≤bs.length)∧((qf=false→bJ bs=true))∧((qa,qf)=eT bs (sa,sf) n.toNat)∧SH w w' [rb] [.blk rb 156 [.slice Ab bs.length cb,I (qa:Int),.bool qf],.own Ar ((aF bs (sa,sf) n.toNat).length) cr 3 1 ((aF bs (sa,sf) n.toNat).map I)]):=by
 refine fQ 52 func168 r0 r0 ?_
 have q7:bs.length≤9223372036854775807:=cB hb.cap hb.cO
 have aK:=SH.rS hr
 refine sr (tA ns r0 (nn (sq (sq (rq (fun w'=>SH w w' [rb] [.blk rb 156 [(Z4 Ab bs cb),I (sa:Int),.bool sf]]) mixed (by kernel_rfl) aK.drew (qA r0 (mv (v:=pB rb) r0) (qA r0 (nc r0) (qA r0 (fa 2 qY r0) (qB r0 (fun aU=>lD (.bool sf) aU 0 r0 rF) (qA r0 (mv (v:=.bool sf) r0) (ZS 9 r0 (fun h1=>?_) (fun h1=>?_))))))))))))
 ·refine kW r0 (kW r0 (kW r0 (kW r0 (kW r0 (kW r0 (kW r0 (kW r0 (kW r0 (kW r0 (kW r0 (kW r0 (qA r0 (pt (v:=.bool true) r0 r0) (qn (fun w1 aE=>nN (fX r0 (sr (tm (pB rb) r0 (tn r0 (qt r0 (fa 2 qY r0) (sT (.bool true) aE 0 r0 rF (fun w2 aI=>nx (tm (I n) r0 (DE (g:=I) (z:=0) (n:=n.toNat) aI aV r0 (jK (x:=n) (by omega)) (jK (x:=n) (by omega)) (by omega) (by unfold maxLen; (omega)) aH r0 (fun b1 w3 aN=>tA (sb b1 ((List.replicate n.toNat (0:Int)).length) n.toNat) r0 (nn (rt (tR (fT (sb b1 ((List.replicate n.toNat (0:Int)).length) n.toNat) r0 ?_))))))))))))))))))))))))))))
  have e1:List.replicate n.toNat (0:Int)=aF bs (sa,sf) n.toNat:=by exact Xq ‹_›
  have e2:=aS List.length e1
  exact⟨(Z7 b1),n.toNat,sa,true,(eE r0 e2 r0),‹_›,(by(simp_all; done)),(by exact Xw ‹_›),(aN.cast (lc r0 (lc (dZ (g:=I) r0 e2 r0 e1) r0)))⟩
 refine qq ⟨_,rfl,rfl⟩ r0 r0 (fun wq aU=>mv (v:=I n) r0) (qq ⟨_,rfl,rfl⟩ r0 r0 (fun wq aU=>mv (v:=pB rb) r0) (qq ⟨_,rfl,rfl⟩ r0 r0 (fun wq aU=>nc r0) (qq ⟨_,rfl,rfl⟩ r0 r0 (fun wq aU=>fa 0 QZ r0) (qq ⟨_,rfl,rfl⟩ r0 r0 (fun wq aU=>lD (cD Ab bs cb) aU 0 r0 j4) (qq ⟨_,rfl,rfl⟩ r0 r0 (fun wq aU=>dK aV r0) (qq ⟨_,rfl,rfl⟩ r0 r0 (fun wq aU=>mv (v:=pB rb) r0) (qq ⟨_,rfl,rfl⟩ r0 r0 (fun wq aU=>nc r0) (qq ⟨_,rfl,rfl⟩ r0 r0 (fun wq aU=>fa 1 vW r0) (qq ⟨_,rfl,rfl⟩ r0 r0 (fun wq aU=>lD (I (sa:Int)) aU 0 r0 cN) (qq ⟨_,rfl,rfl⟩ r0 r0 (fun wq aU=>sub r0 r0 (by(exact⟨by omega,by omega⟩))) (qq ⟨_,rfl,rfl⟩ r0 r0 (fun wq aU=>gtr r0 r0) (qA r0 (pf (v:=.bool (decide (((bs.length:Int)-(sa:Int))<n))) r0 r0) (qn (fun w4 aR=>nN (bI r0 (fun h2=>?_) (fun h2=>?_))))))))))))))))
 ·refine sr (tm (pB rb) r0 (tn r0 (qt r0 (fa 2 qY r0) (sT (.bool true) aR 0 r0 rF (fun w5 aZ=>nx (tm (I n) r0 (DE (g:=I) (z:=0) (n:=n.toNat) aZ aV r0 (jK (x:=n) (by omega)) (jK (x:=n) (by omega)) (by omega) (by unfold maxLen; (omega)) aH r0 (fun b2 w6 bG=>tA (sb b2 ((List.replicate n.toNat (0:Int)).length) n.toNat) r0 (nn (rt (tR (fT (sb b2 ((List.replicate n.toNat (0:Int)).length) n.toNat) r0 ?_))))))))))))
  have e3:List.replicate n.toNat (0:Int)=aF bs (sa,sf) n.toNat:=by exact Xr (by omega)
  have e4:=aS List.length e3
  exact⟨(Z7 b2),n.toNat,sa,true,(eE r0 e4 r0),‹_›,(by(simp_all; done)),(by exact Xx (by omega)),(bG.cast (lc r0 (lc (dZ (g:=I) r0 e4 r0 e3) r0)))⟩
 refine sk (nN (sr (tm (pB rb) r0 (tn r0 (qt r0 (fa 1 vW r0) (qt r0 (lD (I (sa:Int)) aR 0 r0 cN) (tm (I n) r0 (qt r0 (add r0 r0 (by(exact⟨by omega,by omega⟩))) ?_))))))))
 have e5:(sa:Int)+n=((sa+n.toNat:Nat):Int):=by omega
 refine re 33 (v:=I ((sa+n.toNat:Nat):Int)) (aS (Value.int .i64) e5) (tn r0 (qt r0 (fa 1 vW r0) (sT (I ((sa+n.toNat:Nat):Int)) aR 0 r0 cN (fun w7 bU=>nn (sq (ra (fun w'=>∃ L,SH w w' [rb] L∧(.blk rb 156 [(Z4 Ab bs cb),I ((sa+n.toNat:Nat):Int),.bool sf])∈L∧True) mixed ?_))))))
 have bV:=bU.drew
 refine tQ (fuel:=2) (is:=[0,1,2,3,4,5,6,7,8,9,10,11,12,13,14]) (.cons r0 (.cons r0 (.cons r0 (.cons r0 (.cons r0 (.cons r0 (.cons r0 (.cons r0 (.cons r0 (.cons r0 (.cons r0 (.cons r0 (.cons r0 (.cons r0 (.cons r0 (.nil)))))))))))))))) (m1 bV 0 r0) (yA r0 (mv (v:=pB rb) r0) (yA r0 (nc r0) (yA r0 (fa 0 QZ r0) (yB r0 (fun ⟨Lq,aU,dH,_⟩=>lM (cD Ab bs cb) aU dH r0 j4) (yA r0 (mv (v:=pB rb) r0) (yA r0 (nc r0) (yA r0 (fa 1 vW r0) (yB r0 (fun ⟨Lq,aU,dH,_⟩=>lM (I ((sa+n.toNat:Nat):Int)) aU dH r0 cN) (yA r0 (mv (v:=I n) r0) (yA r0 (sub r0 r0 (by(exact⟨by omega,by omega⟩))) (yA r0 (mv (v:=pB rb) r0) (yA r0 (nc r0) (yA r0 (fa 1 vW r0) (yB r0 (fun ⟨Lq,aU,dH,_⟩=>lM (I ((sa+n.toNat:Nat):Int)) aU dH r0 cN) (yA r0 (pK (zs:=bs) ((((sa+n.toNat:Nat):Int)-n).toNat) (sa+n.toNat) aV r0 (jK (x:=((sa+n.toNat:Nat):Int)-n) (by omega)) r0 (by omega) (by omega) hb.cap) (.nil (a1 (i:=15) (by kernel_rfl) (eI r0 (dP bV r0 (TM _ _ (Sl.lZ (hb.up bV (fun _ h=>h) (by simp)) (by omega) (by omega)) (by((simp; omega)))) (fun A_5_15 c_5_15 w8 b9=>nk (m1 b9 0 r0) (tQ (fuel:=0) (is:=[16]) (.cons r0 (.nil)) (m1 b9 0 r0) (yA r0 (fW (v:=.slice A_5_15 (((bs.take (sa+n.toNat)).drop ((((sa+n.toNat:Nat):Int)-n).toNat)).length) c_5_15) r0) (.nil (aQ (nN (rt (fT (.slice A_5_15 (((bs.take (sa+n.toNat)).drop ((((sa+n.toNat:Nat):Int)-n).toNat)).length) c_5_15) r0 ?_)))))))))))))))))))))))))))
 have e6:((bs.take (sa+n.toNat)).drop ((((sa+n.toNat:Nat):Int)-n).toNat))=aF bs (sa,sf) n.toNat:=by exact Yb ‹_› (by omega) (by omega) (by omega)
 have e7:=aS List.length e6
 exact⟨A_5_15,c_5_15,sa+n.toNat,sf,(eE r0 e7 r0),(by omega),‹_›,(by exact Xy ‹_› (by omega)),(b9.cast (lc r0 (lc (dZ (g:=I) r0 e7 r0 e6) r0)))⟩
theorem GA {rb:Nat} {Ab:aM} {cb:Nat} (bs:aC) (sa:Nat) (sf:Bool) (w:World) (hr:w.heap[rb]?=some (.cells [.slice Ab bs.length cb,.int .i64 (sa:Int),.bool sf].toArray 156 (0,0))) (hb:Sl w [rb] 1 Ab bs.length cb (bs.map I)) (hbv:sf=false→bJ bs=true) (HZ:sa≤bs.length):bF prog 166 [pB rb] w (fun v w'=>∃ qa:Nat,∃ qf:Bool,v=.int .i64 (cH bs (sa,sf))∧(qa≤bs.length)∧((qf=false→bJ bs=true))∧((qa,qf)=eT bs (sa,sf) 1)∧SH w w' [rb] [.blk rb 156 [.slice Ab bs.length cb,I (qa:Int),.bool qf]]):=by
 refine fQ 7 func166 r0 r0 ?_
 have q7:bs.length≤9223372036854775807:=cB hb.cap hb.cO
 have aK:=SH.rS hr
 refine sr (tA (I 0) r0 (nx (tm (pB rb) r0 (cL r0 (yE _ _ _ _ _ (gM aK 0 r0) (hb.up aK (fun _ h=>h) (fun _ h=>.inl h)) (‹_›) (‹_›) (by omega)) ?_))))
 rintro _ w1 ⟨A1,c1,aX,aY,rfl,p1,p2,p3,aE⟩
 replace aE:=aK.cK [0] [] aE r0
 refine gN 0 aV r0 r0 (aE.cI 1 r0) (by(simp; done)) (eQ I 0 (by(simp; done))) aH r0 (fun a1 eL=>qt r0 (eW (SH.refl w1 []) eL (fun _ h=>h) r0 r0 cN) (tA (I ((aF bs (sa,sf) (1:Int).toNat).getD 0 0)) r0 (nn (rt (fT (I ((aF bs (sa,sf) (1:Int).toNat).getD 0 0)) r0 ?_)))))
 have e1:(aF bs (sa,sf) (1:Int).toNat).getD 0 0=cH bs (sa,sf):=by rfl
 exact⟨aX,aY,(aS (Value.int .i64) e1),‹_›,‹_›,‹_›,(aE.pk [0] r0)⟩
theorem Lx {Azs:aM} {czs:Nat} (zs:aC) (w:World) (hzs:Sl w [] 1 Azs zs.length czs (zs.map I)) (hz: ∀ x∈zs,0≤x∧x≤255) (hzl:zs.length≤2):bF prog 212 [.slice Azs zs.length czs] w (fun v w'=>v=.int .i64 (aL zs)∧SH w w' [] []):=by
 refine fQ 18 func212 r0 r0 ?_
 have aK:=SH.refl w []
 have sY:zs.length≤9223372036854775807:=cB hzs.cap hzs.cO
 refine sr (tA (I 0) r0 (nx (tA (I 0) r0 (nn (sq (sr (tm (cD Azs zs czs) r0 (qt r0 (dK aV r0) (tm (I 0) r0 (nn (bl (lp (σ:=Nat) (fun(k:Nat) f w'=>Hz f [(3,I (aL (zs.take k))),(6,.slice Azs zs.length czs),(7,I (zs.length:Int)),(8,I (k:Int))]∧(k≤zs.length)∧SH w w' [] []) (fun k=>zs.length-k) 0 ⟨(zH ⟨(show (I 0:Value)=I (aL (zs.take 0)) from aS (Value.int .i64) (by rfl)),rfl,rfl,rfl,aH⟩),(by simp),aK⟩ ?_))))))))))))
 rintro k f w1 ⟨⟨g1,rfl⟩,hk,aE⟩
 refine sr (qt r0 (lss r0 r0) (nn (sq (bI r0 (fun h1=>?_) (fun h1=>?_)))))
 ·refine sk (nN (sq (bl (sr (gN k aV r0 r0 hzs (by omega) (eQ I 0 (by omega)) aH r0 (fun a1 eL=>?_))))))
  have hob:=OK hz k hzl
  have hgb:=CU hz k
  refine qt r0 (eW aE eL (fun _ h=>h) r0 r0 cN) (tA (I (zs.getD k 0)) r0 (nn (rg (tm (I (aL (zs.take k))) r0 (qt r0 (Uw (a:=aL (zs.take k)) r0 r0 (by(have xX:k≤1:=(by omega); omega)) (by(have xX:k≤1:=(by omega); omega))) (tm (I (zs.getD k 0)) r0 (qt r0 (Qw (m:=aL (zs.take k)) (b:=zs.getD k 0) r0 r0 (by(have xX:k≤1:=(by omega); omega)) (by(have xX:k≤1:=(by omega); omega)) (by(have xX:k≤1:=(by omega); omega)) (by(have xX:k≤1:=(by omega); omega))) (tA (I ((aL (zs.take k))*256+(zs.getD k 0))) r0 (nl (bN (nN (rg (qt r0 (add r0 r0 (by(exact⟨by omega,by omega⟩))) (tm (I ((k:Int)+1)) r0 (nn ?_)))))))))))))))
  refine⟨(k+1),⟨(zH ⟨(show (I ((aL (zs.take k))*256+(zs.getD k 0)):Value)=I (aL (zs.take (k+1))) from aS (Value.int .i64) (by rw[YZ (by omega)]; omega)),rfl,rfl,rfl,aH⟩),(by omega),aE⟩,?_⟩
  omega
 exact ex (tE (tE (bE (nN (sr (tm (I (aL (zs.take k))) r0 (tA (I (aL (zs.take k))) r0 (nn (rt (fI r0 (by rw[lI (by omega)]) aE))))))))))
theorem DI {rb:Nat} {Ab:aM} {cb:Nat} (bs:aC) (sa:Nat) (sf:Bool) (n:Int) (w:World) (hr:w.heap[rb]?=some (.cells [.slice Ab bs.length cb,.int .i64 (sa:Int),.bool sf].toArray 156 (0,0))) (hb:Sl w [rb] 1 Ab bs.length cb (bs.map I)) (hbv:sf=false→bJ bs=true) (HZ:sa≤bs.length) (hn:0≤n∧n≤2):bF prog 167 [pB rb,I n] w (fun v w'=>∃ qa:Nat,∃ qf:Bool,v=.int .i64 (aL (aF bs (sa,sf) n.toNat))∧(qa≤bs.length)∧((qf=false→bJ bs=true))∧((qa,qf)=eT bs (sa,sf) n.toNat)∧SH w w' [rb] [.blk rb 156 [.slice Ab bs.length cb,I (qa:Int),.bool qf]]):=by
 refine fQ 9 func167 r0 r0 ?_
 have q7:bs.length≤9223372036854775807:=cB hb.cap hb.cO
 have aK:=SH.rS hr
 refine sr (tA (I 0) r0 (nx (tm (pB rb) r0 (tm (I n) r0 (cL r0 (yE _ _ _ _ _ (gM aK 0 r0) (hb.up aK (fun _ h=>h) (fun _ h=>.inl h)) (‹_›) (‹_›) (by omega)) ?_)))))
 rintro _ w1 ⟨A1,c1,aX,aY,rfl,p1,p2,p3,aE⟩
 replace aE:=aK.cK [0] [] aE r0
 refine cS aE r0 (Lx _ _ (aE.cI 1 r0) (by exact TU hbv) (by(simp; omega))) (fun w2 aI=>tA (I (aL (aF bs (sa,sf) n.toNat))) r0 (nn (rt (fT (I (aL (aF bs (sa,sf) n.toNat))) r0 ?_))))
 exact⟨aX,aY,rfl,‹_›,‹_›,‹_›,(aI.pk [0] r0)⟩
theorem IJ {rb:Nat} {Ab:aM} {cb:Nat} (bs:aC) (sa:Nat) (sf:Bool) {Aws:aM} {cws:Nat} (ws:aC) (w:World) (hr:w.heap[rb]?=some (.cells [.slice Ab bs.length cb,.int .i64 (sa:Int),.bool sf].toArray 156 (0,0))) (hb:Sl w [rb] 1 Ab bs.length cb (bs.map I)) (hbv:sf=false→bJ bs=true) (HZ:sa≤bs.length) (hws:Sl w [rb] 1 Aws ws.length cws (ws.map I)) (hw:ws.length≤65535):bF prog 165 [pB rb,.slice Aws ws.length cws] w (fun v w'=>∃ qa:Nat,∃ qf:Bool,v=.tuple #[]∧(qa≤bs.length)∧((qf=false→bJ bs=true))∧((qa,qf)=lC bs (sa,sf) ws)∧SH w w' [rb] [.blk rb 156 [.slice Ab bs.length cb,I (qa:Int),.bool qf]]):=by
 refine fQ 14 func165 r0 r0 ?_
 have q7:bs.length≤9223372036854775807:=cB hb.cap hb.cO
 have aK:=SH.rS hr
 have Zh:ws.length≤9223372036854775807:=cB hws.cap hws.cO
 refine sr (tm (pB rb) r0 (tm (cD Aws ws cws) r0 (qt r0 (dK aV r0) (cL r0 (yE _ _ _ _ _ (gM aK 0 r0) (hb.up aK (fun _ h=>h) (fun _ h=>.inl h)) (‹_›) (‹_›) (by omega)) ?_))))
 rintro _ w1 ⟨A1,c1,aX,aY,rfl,p1,p2,p3,aE⟩
 replace aE:=aK.cK [0] [] aE r0
 refine tm (cD Aws ws cws) r0 (cS aE r0 (PK _ _ _ (aE.cI 1 r0) (hws.up aE (fun _ h=>h) (by simp))) (fun w2 aI=>qt r0 (nd r0) (nn (bI r0 (fun h1=>?_) (fun h1=>?_)))))
 ·refine rg (tm (pB rb) r0 (tn r0 (qt r0 (fa 2 qY r0) (sT (.bool true) aI 0 r0 rF (fun w3 aN=>nl (M4 (v:=.tuple #[]) .nil r0 ?_))))))
  exact⟨aX,true,rfl,‹_›,(by(simp_all; done)),(by exact Iq ‹_› (by simpa using h1)),(aN.pk [1] r0)⟩
 refine sk (M4 (v:=.tuple #[]) .nil r0 ?_)
 exact⟨aX,aY,rfl,‹_›,‹_›,(by exact Ir ‹_› (by simpa using h1)),(aI.pk [0] r0)⟩
theorem KK {Azs:aM} {czs:Nat} (zs:aC) (w:World) (hzs:Sl w [] 1 Azs zs.length czs (zs.map I)) (hz: ∀ x∈zs,0≤x∧x≤255) (hzl:zs.length≤65535):bF prog 119 [.slice Azs zs.length czs] w (fun v w'=>v=aA (bT zs)∧SH w w' [] []):=by
 refine fQ 24 func119 r0 r0 ?_
 have aK:=SH.refl w []
 have sY:zs.length≤9223372036854775807:=cB hzs.cap hzs.cO
 refine sr (tA (aA []) r0 (nx (tm (cD Azs zs czs) r0 (qt r0 (dK aV r0) (DE (g:=U) (z:=0) (n:=zs.length) aK l9 r0 r0 r0 (by omega) (by unfold maxLen; omega) aH r0 (fun b1 w1 aE=>tA (sb b1 ((List.replicate zs.length (0:UInt8)).length) zs.length) r0 (nn (sq (sr (tm (cD Azs zs czs) r0 (qt r0 (dK aV r0) (tm (I 0) r0 (nn (bl ?_))))))))))))))
 have e1:List.replicate zs.length (0:UInt8)=(bT zs).take 0++List.replicate (zs.length-0) (0:UInt8):=by simp
 have e2:(List.replicate zs.length (0:UInt8)).length=zs.length:=by(simp; done)
 refine lp (σ:=Nat) (fun(k:Nat) f w'=>Hz f [(3,sb b1 zs.length zs.length),(9,.slice Azs zs.length czs),(10,I (zs.length:Int)),(11,I (k:Int))]∧(k≤zs.length)∧SH w w' [] [.own (Z7 b1) zs.length zs.length 5 1 (((bT zs).take k++List.replicate (zs.length-k) (0:UInt8)).map U)]) (fun k=>zs.length-k) 0 ⟨(zH ⟨(show (.slice (Z7 b1) ((List.replicate zs.length (0:UInt8)).length) zs.length:Value)=.slice (Z7 b1) zs.length zs.length from eE r0 e2 r0),rfl,rfl,rfl,aH⟩),(by simp),(aE.cast (lc (dZ (g:=U) r0 e2 r0 e1) r0))⟩ ?_
 rintro k f w2 ⟨⟨g1,rfl⟩,hk,aI⟩
 refine sr (qt r0 (lss r0 r0) (nn (sq (bI r0 (fun h1=>?_) (fun h1=>?_)))))
 ·refine sk (nN (sq (bl (sr (tm (I (k:Int)) r0 (gN k aV r0 r0 hzs (by omega) (eQ I 0 (by omega)) aH r0 (fun a1 eL=>qt r0 (eW aI eL (fun _ h=>h) r0 r0 cN) (tA (I (k:Int)) r0 (tA (I (zs.getD k 0)) r0 (nn (rg (tm (sb b1 zs.length zs.length) r0 (tm (I (k:Int)) r0 (tm (I (zs.getD k 0)) r0 (qt r0 (M0 (a:=zs.getD k 0) (s:=.i64) xB tJ r0 (by have hgb:=CU hz k; omega) (by have hgb:=CU hz k; omega)) (qt r0 (lR k l9 r0 r0 (by omega)) (DQ (g:=U) (ys:=(bT zs).take k++List.replicate (zs.length-k) (0:UInt8)) (o:=k) (u:=(UInt8.ofNat (zs.getD k 0).toNat)) aI 0 r0 r0 r0 r0 (by omega) r0 OO aH (fun w3 aN=>nl (bN (nN (rg (qt r0 (add r0 r0 (by exact⟨by omega,by omega⟩)) (tm (I ((k:Int)+1)) r0 (nn ?_))))))))))))))))))))))))
  have e3:((bT zs).take k++List.replicate (zs.length-k) (0:UInt8)).set k (UInt8.ofNat (zs.getD k 0).toNat)=(bT zs).take (k+1)++List.replicate (zs.length-(k+1)) (0:UInt8):=by exact Fz (by omega)
  refine⟨(k+1),⟨(zR r0),(by omega),(aN.cast (lc (dZ (g:=U) r0 r0 r0 e3) r0))⟩,?_⟩
  omega
 refine ex (tE (tE (bE (nN (sr (tm (sb b1 zs.length zs.length) r0 ?_))))))
 have e4:zs.length=((bT zs).take k++List.replicate (zs.length-k) (0:UInt8)).length:=by(simp; omega)
 have aR:SH w w2 [] [.own (Z7 b1) (((bT zs).take k++List.replicate (zs.length-k) (0:UInt8)).length) zs.length 5 1 (((bT zs).take k++List.replicate (zs.length-k) (0:UInt8)).map U)]:=(aI.cast (lc (dZ (g:=U) r0 e4 r0 r0) r0))
 refine re 22 (v:=sb b1 (((bT zs).take k++List.replicate (zs.length-k) (0:UInt8)).length) zs.length) (show (sb b1 zs.length zs.length:Value)=sb b1 (((bT zs).take k++List.replicate (zs.length-k) (0:UInt8)).length) zs.length from eE r0 e4 r0) (qt r0 (JY (l:=(bT zs).take k++List.replicate (zs.length-k) (0:UInt8)) LD tJ dI r0 (aR.cI 0 r0)) (tA (aA ((bT zs).take k++List.replicate (zs.length-k) (0:UInt8))) r0 (nn (rt (fT (aA ((bT zs).take k++List.replicate (zs.length-k) (0:UInt8))) r0 ?_)))))
 have e5:(bT zs).take k++List.replicate (zs.length-k) (0:UInt8)=bT zs:=by have:k=zs.length:=(by omega); subst this; rw[UR (lA _)]; simp
 exact⟨(aS (aA) e5),(aR.pk [] r0)⟩
theorem S8 {rb:Nat} {Ab:aM} {cb:Nat} (bs:aC) (sa:Nat) (sf:Bool) (w:World) (hr:w.heap[rb]?=some (.cells [.slice Ab bs.length cb,.int .i64 (sa:Int),.bool sf].toArray 156 (0,0))) (hb:Sl w [rb] 1 Ab bs.length cb (bs.map I)) (hbv:sf=false→bJ bs=true) (HZ:sa≤bs.length):bF prog 224 [pB rb] w (fun v w'=>∃ qa:Nat,∃ qf:Bool,v=aA (jM bs (sa,sf))∧(qa≤bs.length)∧((qf=false→bJ bs=true))∧((qa,qf)=vJ bs (sa,sf))∧SH w w' [rb] [.blk rb 156 [.slice Ab bs.length cb,I (qa:Int),.bool qf]]):=by
 refine fQ 8 func224 r0 r0 ?_
 have q7:bs.length≤9223372036854775807:=cB hb.cap hb.cO
 have aK:=SH.rS hr
 refine sr (tA (aA []) r0 (nx (tm (pB rb) r0 (tm (pB rb) r0 (cL r0 (GA _ _ _ _ (gM aK 0 r0) (hb.up aK (fun _ h=>h) (fun _ h=>.inl h)) (‹_›) (by(assumption))) ?_)))))
 rintro _ w1 ⟨aX,aY,rfl,p1,p2,p3,aE⟩
 replace aE:=aK.cK [0] [] aE r0
 refine cL r0 (yE _ _ _ _ _ (gM aE 0 r0) (hb.up aE (fun _ h=>h) (fun _ h=>.inl h)) (‹_›) (by(assumption)) (by(have hbd:=HH (bs:=bs) (s:=(sa,sf)) hbv; omega))) ?_
 rintro _ w2 ⟨A1,c1,bC,bD,rfl,p4,p5,p6,aI⟩
 replace aI:=aE.cK [0] [] aI r0
 refine cS aI r0 (KK _ _ (aI.cI 1 r0) (by exact TU ‹_›) (by have hbd:=HH (bs:=bs) (s:=(sa,sf)) hbv; simp; omega)) (fun w3 aN=>tA (aA (bT (aF bs (aX,aY) (cH bs (sa,sf)).toNat))) r0 (nn (rt (fT (aA (bT (aF bs (aX,aY) (cH bs (sa,sf)).toNat))) r0 ?_))))
 have e1:bT (aF bs (aX,aY) (cH bs (sa,sf)).toNat)=jM bs (sa,sf):=by(unfold jM; rw[← p3])
 exact⟨bC,bD,(aS (aA) e1),‹_›,‹_›,(by(unfold vJ; rw[← p3]; exact p6)),(aN.pk [0] r0)⟩
theorem Rt {rb:Nat} {Ab:aM} {cb:Nat} (bs:aC) (sa:Nat) (sf:Bool) (w:World) (hr:w.heap[rb]?=some (.cells [.slice Ab bs.length cb,.int .i64 (sa:Int),.bool sf].toArray 156 (0,0))) (hb:Sl w [rb] 1 Ab bs.length cb (bs.map I)) (hbv:sf=false→bJ bs=true) (HZ:sa≤bs.length):bF prog 248 [pB rb] w (fun v w'=>∃ Ar:aM,∃ cr:Nat,∃ qa:Nat,∃ qf:Bool,v=.agg #[.int .i64 ((eU bs (sa,sf)).1.1),.slice Ar ((eU bs (sa,sf)).1.2.1).length cr,aA ((eU bs (sa,sf)).1.2.2.1),.int .i64 ((eU bs (sa,sf)).1.2.2.2)]∧(qa≤bs.length)∧((qf=false→bJ bs=true))∧((qa,qf)=(eU bs (sa,sf)).2)∧SH w w' [rb] [.blk rb 156 [.slice Ab bs.length cb,I (qa:Int),.bool qf],.own Ar (((eU bs (sa,sf)).1.2.1).length) cr 3 1 (((eU bs (sa,sf)).1.2.1).map I)]):=by
 refine fQ 29 func248 r0 r0 ?_
 have q7:bs.length≤9223372036854775807:=cB hb.cap hb.cO
 have aK:SH w w [rb] [.blk rb 156 [(Z4 Ab bs cb),I (sa:Int),.bool sf]]:=SH.rS hr
 refine sr (al (cs:=eA) aK kZ r0 aH r0 (fun b1 w1 aE=>nx (al (cs:=eA) aE kZ r0 aH r0 (fun b2 w2 aI=>nx (tm (pB rb) r0 (cL r0 (GA _ _ _ _ (gM aI 0 r0) (hb.up aI (fun _ h=>h) (fun _ h=>.inl h)) (‹_›) (by(assumption))) ?_))))))
 rintro _ w3 ⟨aX,aY,rfl,p1,p2,p3,aN⟩
 replace aN:SH w w3 [rb] [.blk b1 74 eA,.blk b2 74 eA,.blk rb 156 [(Z4 Ab bs cb),I (aX:Int),.bool aY]]:=SH.vV (K:=[.blk rb 156 [(Z4 Ab bs cb),I (sa:Int),.bool sf]]) (R:=[.blk b1 74 eA,.blk b2 74 eA]) aI aN r0
 refine qt r0 (fa 0 o8 r0) (sT (I (cH bs (sa,sf))) aN 1 r0 cN (fun w4 aR=>nn (sq (sr (qt r0 (fa 0 o8 r0) (qt r0 (lD (I (cH bs (sa,sf))) aR 2 r0 cN) (nl (nN (bl (sr (qt r0 (dO r0 r0) (tA (.bool (decide ((cH bs (sa,sf))=1))) r0 (nn (bI r0 (fun h1=>?_) (fun h1=>?_)))))))))))))))
 ·refine rg (tm (pB rb) r0 (cL r0 (yE _ _ _ _ _ (gM aR 1 r0) (hb.up aR (fun _ h=>h) (fun _ h=>.inl h)) (‹_›) (by(assumption)) (by omega)) ?_))
  rintro _ w5 ⟨A1,c1,bC,bD,rfl,p4,p5,p6,aZ⟩
  replace aZ:=aR.cK [1] [0,2] aZ r0
  refine qt r0 (fa 1 pL r0) (sT (.slice A1 ((aF bs (aX,aY) (4:Int).toNat).length) c1) aZ 1 r0 j4 (fun w6 (bG:SH w w6 [rb] [.blk b1 74 eA,.blk rb 156 [(Z4 Ab bs cb),I (bC:Int),.bool bD],.own A1 ((aF bs (aX,aY) (4:Int).toNat).length) c1 3 1 ((aF bs (aX,aY) (4:Int).toNat).map I),.blk b2 74 [I (cH bs (sa,sf)),.slice A1 ((aF bs (aX,aY) (4:Int).toNat).length) c1,aA [],I 0]])=>nl (bN (nN (sr (tm (pB rb) r0 (cL r0 (DI _ _ _ _ _ (gM bG 1 r0) (hb.up bG (fun _ h=>h) (fun _ h=>.inl h)) (‹_›) (by(assumption)) (by omega)) ?_)))))))
  rintro _ w7 ⟨dQ,eB,rfl,p7,p8,p9,bU⟩
  replace bU:=bG.cK [1] [0,2,3] bU r0
  refine qt r0 (fa 3 pV r0) (sT (I (aL (aF bs (bC,bD) (2:Int).toNat))) bU 2 r0 cN (fun w8 bV=>nn (sq (sr (qt r0 (lG [I (cH bs (sa,sf)),.slice A1 ((aF bs (aX,aY) (4:Int).toNat).length) c1,aA [],I (aL (aF bs (bC,bD) (2:Int).toNat))] bV 3 r0 cG) (cS bV r0 (x0 _ _ [] _ _ (bV.cI 1 r0) (by((simp; done)))) (fun w9 b9=>qt r0 (nt r0) (nn (cd r0 (fun h2=>?_) (fun h2=>?_))))))))))
  ·have h3:=dX h2
   refine rg (tm (pB rb) r0 (tn r0 (qt r0 (fa 2 qY r0) (sT (.bool true) b9 2 r0 rF (fun kF cM=>nx (qt r0 (lG [I (cH bs (sa,sf)),.slice A1 ((aF bs (aX,aY) (4:Int).toNat).length) c1,aA [],I (aL (aF bs (bC,bD) (2:Int).toNat))] cM 2 r0 cG) (sG [I (cH bs (sa,sf)),.slice A1 ((aF bs (aX,aY) (4:Int).toNat).length) c1,aA [],I (aL (aF bs (bC,bD) (2:Int).toNat))] cM 0 r0 cG (fun kB cW=>nn (rt (bO (cX cW 3 r0 r0 cG r0 .nil) r0 ?_))))))))))
   have e1:cH bs (sa,sf)=(eU bs (sa,sf)).1.1:=by(rw[zL p3 ‹_› p6 p9]; done)
   have e2:aF bs (aX,aY) (4:Int).toNat=(eU bs (sa,sf)).1.2.1:=by(rw[zL p3 ‹_› p6 p9]; rfl)
   have e3:=aS List.length e2
   have e4:[]=(eU bs (sa,sf)).1.2.2.1:=by(rw[zL p3 ‹_› p6 p9]; done)
   have e5:aL (aF bs (bC,bD) (2:Int).toNat)=(eU bs (sa,sf)).1.2.2.2:=by(rw[zL p3 ‹_› p6 p9]; rfl)
   exact⟨A1,c1,dQ,true,(oP (lc (aS (Value.int .i64) e1) (lc (eE r0 e3 r0) (lc (aS (aA) e4) (lc (aS (Value.int .i64) e5) r0))))),‹_›,(by(simp_all; done)),(by(rw[zL p3 ‹_› p6 p9]; exact(b0 (by simp_all)).symm)),((cW.pq [2,0] r0).cast (lc r0 (lc (dZ (g:=I) r0 e3 r0 e2) r0)))⟩
  have h4:=dY h2
  refine sk (nN (sr (qt r0 (lG [I (cH bs (sa,sf)),.slice A1 ((aF bs (aX,aY) (4:Int).toNat).length) c1,aA [],I (aL (aF bs (bC,bD) (2:Int).toNat))] b9 3 r0 cG) (sG [I (cH bs (sa,sf)),.slice A1 ((aF bs (aX,aY) (4:Int).toNat).length) c1,aA [],I (aL (aF bs (bC,bD) (2:Int).toNat))] b9 0 r0 cG (fun kI (dB:SH w kI [rb] [.own A1 ((aF bs (aX,aY) (4:Int).toNat).length) c1 3 1 ((aF bs (aX,aY) (4:Int).toNat).map I),.blk rb 156 [(Z4 Ab bs cb),I (dQ:Int),.bool eB],.blk b2 74 [I (cH bs (sa,sf)),.slice A1 ((aF bs (aX,aY) (4:Int).toNat).length) c1,aA [],I (aL (aF bs (bC,bD) (2:Int).toNat))],.blk b1 74 [I (cH bs (sa,sf)),.slice A1 ((aF bs (aX,aY) (4:Int).toNat).length) c1,aA [],I (aL (aF bs (bC,bD) (2:Int).toNat))]])=>nn (rt (bO (cX dB 3 r0 r0 cG r0 .nil) r0 ?_)))))))
  have e6:cH bs (sa,sf)=(eU bs (sa,sf)).1.1:=by(rw[zL p3 ‹_› p6 p9]; done)
  have e7:aF bs (aX,aY) (4:Int).toNat=(eU bs (sa,sf)).1.2.1:=by(rw[zL p3 ‹_› p6 p9]; rfl)
  have e8:=aS List.length e7
  have e9:[]=(eU bs (sa,sf)).1.2.2.1:=by(rw[zL p3 ‹_› p6 p9]; done)
  have lP:aL (aF bs (bC,bD) (2:Int).toNat)=(eU bs (sa,sf)).1.2.2.2:=by(rw[zL p3 ‹_› p6 p9]; rfl)
  exact⟨A1,c1,dQ,eB,(oP (lc (aS (Value.int .i64) e6) (lc (eE r0 e8 r0) (lc (aS (aA) e9) (lc (aS (Value.int .i64) lP) r0))))),‹_›,‹_›,(by(rw[zL p3 ‹_› p6 p9]; exact(cF ‹_›).symm)),((dB.pq [1,0] r0).cast (lc r0 (lc (dZ (g:=I) r0 e8 r0 e7) r0)))⟩
 refine sr (qt r0 (dO r0 r0) (tA (.bool (decide ((cH bs (sa,sf))=3))) r0 (nn (bI r0 (fun h5=>?_) (fun h5=>?_)))))
 ·refine rg (tm (pB rb) r0 (cL r0 (S8 _ _ _ _ (gM aR 1 r0) (hb.up aR (fun _ h=>h) (fun _ h=>.inl h)) (‹_›) (by(assumption))) ?_))
  rintro _ lU ⟨eR,eS,rfl,OQ,FP,nY,cY⟩
  replace cY:=aR.cK [1] [0,2] cY r0
  refine qt r0 (fa 2 sW r0) (sT (aA (jM bs (aX,aY))) cY 1 r0 eC (fun mH dJ=>nl (bN (nN (sr (tm (pB rb) r0 (cL r0 (DI _ _ _ _ _ (gM dJ 1 r0) (hb.up dJ (fun _ h=>h) (fun _ h=>.inl h)) (‹_›) (by(assumption)) (by omega)) ?_)))))))
  rintro _ mI ⟨iJ,jC,rfl,ZA,OR,pC,dM⟩
  replace dM:SH w mI [rb] [.blk b1 74 eA,.blk b2 74 [I (cH bs (sa,sf)),ns,aA (jM bs (aX,aY)),I 0],.blk rb 156 [(Z4 Ab bs cb),I (iJ:Int),.bool jC]]:=SH.vV (K:=[.blk rb 156 [(Z4 Ab bs cb),I (eR:Int),.bool eS]]) (R:=[.blk b1 74 eA,.blk b2 74 [I (cH bs (sa,sf)),ns,aA (jM bs (aX,aY)),I 0]]) (dJ.pk [1,0,2] r0) dM r0
  refine qt r0 (fa 3 pV r0) (sT (I (aL (aF bs (eR,eS) (2:Int).toNat))) dM 1 r0 cN (fun mU eO=>nn (sq (sr (qt r0 (lG [I (cH bs (sa,sf)),ns,aA (jM bs (aX,aY)),I (aL (aF bs (eR,eS) (2:Int).toNat))] eO 2 r0 cG) (cS eO r0 (x0 (ak:=cH bs (sa,sf)) (Aaq:=none) (caq:=0) (aq:=([]:aC)) (an:=jM bs (aX,aY)) (apt:=aL (aF bs (eR,eS) (2:Int).toNat)) (w:=_) (haq:=Sl.nil) (han_n:=(by(have htv:=I6 (bs:=bs) (s:=(aX,aY)) p2; omega)))) (fun n6 eK=>qt r0 (nt r0) (nn (cd r0 (fun h6=>?_) (fun h6=>?_))))))))))
  ·have h7:=dX h6
   refine rg (tm (pB rb) r0 (tn r0 (qt r0 (fa 2 qY r0) (sT (.bool true) eK 1 r0 rF (fun m9 (eZ:SH w m9 [rb] [.blk b1 74 eA,.blk b2 74 [I (cH bs (sa,sf)),ns,aA (jM bs (aX,aY)),I (aL (aF bs (eR,eS) (2:Int).toNat))],.blk rb 156 [(Z4 Ab bs cb),I (iJ:Int),.bool true]])=>nx (qt r0 (lG [I (cH bs (sa,sf)),ns,aA (jM bs (aX,aY)),I (aL (aF bs (eR,eS) (2:Int).toNat))] eZ 1 r0 cG) (sG [I (cH bs (sa,sf)),ns,aA (jM bs (aX,aY)),I (aL (aF bs (eR,eS) (2:Int).toNat))] eZ 0 r0 cG (fun qQ fV=>nn (rt (bO (cX fV 2 r0 r0 cG r0 .nil) r0 ?_))))))))))
   have fD:=fV.nl [Z0] r0
   have mB:cH bs (sa,sf)=(eU bs (sa,sf)).1.1:=by(rw[zM p3 ‹_› ‹_› nY pC]; done)
   have nU:([]:aC)=(eU bs (sa,sf)).1.2.1:=by(rw[zM p3 ‹_› ‹_› nY pC]; done)
   have pU:=aS List.length nU
   have qW:jM bs (aX,aY)=(eU bs (sa,sf)).1.2.2.1:=by(rw[zM p3 ‹_› ‹_› nY pC]; done)
   have rR:aL (aF bs (eR,eS) (2:Int).toNat)=(eU bs (sa,sf)).1.2.2.2:=by(rw[zM p3 ‹_› ‹_› nY pC]; rfl)
   exact⟨none,0,iJ,true,(oP (lc (aS (Value.int .i64) mB) (lc (eE r0 pU r0) (lc (aS (aA) qW) (lc (aS (Value.int .i64) rR) r0))))),‹_›,(by(simp_all; done)),(by(rw[zM p3 ‹_› ‹_› nY pC]; exact(b0 (by simp_all)).symm)),((fD.pq [1,3] r0).cast (lc r0 (lc (dZ (g:=I) r0 pU r0 nU) r0)))⟩
  have h8:=dY h6
  refine sk (nN (sr (qt r0 (lG [I (cH bs (sa,sf)),ns,aA (jM bs (aX,aY)),I (aL (aF bs (eR,eS) (2:Int).toNat))] eK 2 r0 cG) (sG [I (cH bs (sa,sf)),ns,aA (jM bs (aX,aY)),I (aL (aF bs (eR,eS) (2:Int).toNat))] eK 0 r0 cG (fun rJ (gK:SH w rJ [rb] [.blk rb 156 [(Z4 Ab bs cb),I (iJ:Int),.bool jC],.blk b2 74 [I (cH bs (sa,sf)),ns,aA (jM bs (aX,aY)),I (aL (aF bs (eR,eS) (2:Int).toNat))],.blk b1 74 [I (cH bs (sa,sf)),ns,aA (jM bs (aX,aY)),I (aL (aF bs (eR,eS) (2:Int).toNat))]])=>nn (rt (bO (cX gK 2 r0 r0 cG r0 .nil) r0 ?_)))))))
  have hU:=gK.nl [Z0] r0
  have wR:cH bs (sa,sf)=(eU bs (sa,sf)).1.1:=by(rw[zM p3 ‹_› ‹_› nY pC]; done)
  have CM:([]:aC)=(eU bs (sa,sf)).1.2.1:=by(rw[zM p3 ‹_› ‹_› nY pC]; done)
  have CN:=aS List.length CM
  have J1:jM bs (aX,aY)=(eU bs (sa,sf)).1.2.2.1:=by(rw[zM p3 ‹_› ‹_› nY pC]; done)
  have Ia:aL (aF bs (eR,eS) (2:Int).toNat)=(eU bs (sa,sf)).1.2.2.2:=by(rw[zM p3 ‹_› ‹_› nY pC]; rfl)
  exact⟨none,0,iJ,jC,(oP (lc (aS (Value.int .i64) wR) (lc (eE r0 CN r0) (lc (aS (aA) J1) (lc (aS (Value.int .i64) Ia) r0))))),‹_›,‹_›,(by(rw[zM p3 ‹_› ‹_› nY pC]; exact(cF ‹_›).symm)),((hU.pq [0,3] r0).cast (lc r0 (lc (dZ (g:=I) r0 CN r0 CM) r0)))⟩
 refine sk (bN (nN (sr (tm (pB rb) r0 (cL r0 (DI _ _ _ _ _ (gM aR 1 r0) (hb.up aR (fun _ h=>h) (fun _ h=>.inl h)) (‹_›) (by(assumption)) (by omega)) ?_)))))
 rintro _ tL ⟨lF,mM,rfl,ZB,ZC,qN,iN⟩
 replace iN:=aR.cK [1] [0,2] iN r0
 refine qt r0 (fa 3 pV r0) (sT (I (aL (aF bs (aX,aY) (2:Int).toNat))) iN 1 r0 cN (fun sC (iB:SH w sC [rb] [.blk b1 74 eA,.blk rb 156 [(Z4 Ab bs cb),I (lF:Int),.bool mM],.blk b2 74 [I (cH bs (sa,sf)),ns,aA [],I (aL (aF bs (aX,aY) (2:Int).toNat))]])=>nn (sq (sr (qt r0 (lG [I (cH bs (sa,sf)),ns,aA [],I (aL (aF bs (aX,aY) (2:Int).toNat))] iB 2 r0 cG) (cS iB r0 (x0 (ak:=cH bs (sa,sf)) (Aaq:=none) (caq:=0) (aq:=([]:aC)) (an:=[]) (apt:=aL (aF bs (aX,aY) (2:Int).toNat)) (w:=_) (haq:=Sl.nil) (han_n:=(by((simp; done))))) (fun vK iE=>qt r0 (nt r0) (nn (cd r0 (fun h9=>?_) (fun h9=>?_))))))))))
 ·have mR:=dX h9
  refine rg (tm (pB rb) r0 (tn r0 (qt r0 (fa 2 qY r0) (sT (.bool true) iE 1 r0 rF (fun xC jB=>nx (qt r0 (lG [I (cH bs (sa,sf)),ns,aA [],I (aL (aF bs (aX,aY) (2:Int).toNat))] jB 1 r0 cG) (sG [I (cH bs (sa,sf)),ns,aA [],I (aL (aF bs (aX,aY) (2:Int).toNat))] jB 0 r0 cG (fun vL (gV:SH w vL [rb] [.blk b2 74 [I (cH bs (sa,sf)),ns,aA [],I (aL (aF bs (aX,aY) (2:Int).toNat))],.blk rb 156 [(Z4 Ab bs cb),I (lF:Int),.bool true],.blk b1 74 [I (cH bs (sa,sf)),ns,aA [],I (aL (aF bs (aX,aY) (2:Int).toNat))]])=>nn (rt (bO (cX gV 2 r0 r0 cG r0 .nil) r0 ?_))))))))))
  have kU:=gV.nl [Z0] r0
  have Ib:cH bs (sa,sf)=(eU bs (sa,sf)).1.1:=by(rw[zK p3 ‹_› ‹_› qN]; done)
  have VJ:([]:aC)=(eU bs (sa,sf)).1.2.1:=by(rw[zK p3 ‹_› ‹_› qN]; done)
  have VK:=aS List.length VJ
  have Ic:[]=(eU bs (sa,sf)).1.2.2.1:=by(rw[zK p3 ‹_› ‹_› qN]; done)
  have Ie:aL (aF bs (aX,aY) (2:Int).toNat)=(eU bs (sa,sf)).1.2.2.2:=by(rw[zK p3 ‹_› ‹_› qN]; rfl)
  exact⟨none,0,lF,true,(oP (lc (aS (Value.int .i64) Ib) (lc (eE r0 VK r0) (lc (aS (aA) Ic) (lc (aS (Value.int .i64) Ie) r0))))),‹_›,(by(simp_all; done)),(by(rw[zK p3 ‹_› ‹_› qN]; exact(b0 (by simp_all)).symm)),((kU.pq [1,3] r0).cast (lc r0 (lc (dZ (g:=I) r0 VK r0 VJ) r0)))⟩
 have vX:=dY h9
 refine sk (nN (sr (qt r0 (lG [I (cH bs (sa,sf)),ns,aA [],I (aL (aF bs (aX,aY) (2:Int).toNat))] iE 2 r0 cG) (sG [I (cH bs (sa,sf)),ns,aA [],I (aL (aF bs (aX,aY) (2:Int).toNat))] iE 0 r0 cG (fun vM kV=>nn (rt (bO (cX kV 2 r0 r0 cG r0 .nil) r0 ?_)))))))
 have kY:SH w vM [rb] [.blk rb 156 [(Z4 Ab bs cb),I (lF:Int),.bool mM],.blk b2 74 [I (cH bs (sa,sf)),ns,aA [],I (aL (aF bs (aX,aY) (2:Int).toNat))],.blk b1 74 [I (cH bs (sa,sf)),ns,aA [],I (aL (aF bs (aX,aY) (2:Int).toNat))],Z0]:=SH.AB (by intro i hi; simp at hi; subst hi; exact DF) kV
 have Ig:cH bs (sa,sf)=(eU bs (sa,sf)).1.1:=by(rw[zK p3 ‹_› ‹_› qN]; done)
 have VL:([]:aC)=(eU bs (sa,sf)).1.2.1:=by(rw[zK p3 ‹_› ‹_› qN]; done)
 have VM:=aS List.length VL
 have Ih:[]=(eU bs (sa,sf)).1.2.2.1:=by(rw[zK p3 ‹_› ‹_› qN]; done)
 have Ii:aL (aF bs (aX,aY) (2:Int).toNat)=(eU bs (sa,sf)).1.2.2.2:=by(rw[zK p3 ‹_› ‹_› qN]; rfl)
 exact⟨none,0,lF,mM,(oP (lc (aS (Value.int .i64) Ig) (lc (eE r0 VM r0) (lc (aS (aA) Ih) (lc (aS (Value.int .i64) Ii) r0))))),‹_›,‹_›,(by(rw[zK p3 ‹_› ‹_› qN]; exact(cF ‹_›).symm)),((kY.pq [0,3] r0).cast (lc r0 (lc (dZ (g:=I) r0 VM r0 VL) r0)))⟩
theorem XA {Abs:aM} {cbs:Nat} (bs:aC) (w:World) (hbs:Sl w [] 1 Abs bs.length cbs (bs.map I)):bF prog 117 [.slice Abs bs.length cbs] w (fun v w'=>∃ Ar:aM,∃ cr:Nat,v=.tuple #[.slice Ar ((eM bs).1).length cr,.int .i64 ((eM bs).2.1),.bool ((eM bs).2.2)]∧SH w w' [] [.own Ar (((eM bs).1).length) cr 3 1 (((eM bs).1).map I)]):=by
 refine fQ 30 func117 r0 r0 ?_
 have aK:=SH.refl w []
 have nW:bs.length≤9223372036854775807:=cB hbs.cap hbs.cO
 refine sr (tA ns r0 (tA (I 0) r0 (tA (.bool false) r0 (nn (sq (rg (tm (cD Abs bs cbs) r0 (cL r0 (FN _ _ (hbs.aP aK)) ?_))))))))
 rintro _ w1 ⟨g1,rfl,aE⟩
 replace aE:=aK.cJ aE
 refine tA (pB g1) r0 (nx (tm (pB g1) r0 (cR aE aV [I 5] [I 5] aH r0 (fun b1 w2 aI=>cL r0 (IJ _ 0 _ ([5]:aC) _ (gM aI 0 r0) (hbs.up aI (by simp) (fun k h=>.inr (aI.mE 0 r0 k h))) (by(simp; done)) (by omega) (aI.sl 1 r0 (by intro k hk; simp at hk; subst hk; exact⟨_,cC 0 r0,rfl⟩)) (by((simp; done)))) ?_))))
 rintro _ w3 ⟨aX,aY,rfl,p1,p2,p3,aN⟩
 replace aN:=aI.cK [0] [1] aN r0
 refine nx (tm (pB g1) r0 (tm (pB g1) r0 (cL r0 (GA _ _ _ _ (gM aN 1 r0) (hbs.up aN (by simp) (fun k h=>.inr (aN.mE 1 r0 k h))) (‹_›) (by(assumption))) ?_)))
 rintro _ w4 ⟨bC,bD,rfl,p4,p5,p6,aR⟩
 replace aR:=aN.cK [1] [0] aR r0
 refine cL r0 (yE _ _ _ _ _ (gM aR 1 r0) (hbs.up aR (by simp) (fun k h=>.inr (aR.mE 1 r0 k h))) (‹_›) (by(assumption)) (by(have zV:=HH (bs:=bs) (s:=(aX,aY)) p2; omega))) ?_
 rintro _ w5 ⟨A1,c1,dQ,eB,rfl,p7,p8,p9,aZ⟩
 replace aZ:=aR.cK [1] [0] aZ r0
 refine tA (.slice A1 ((aF bs (bC,bD) (cH bs (aX,aY)).toNat).length) c1) r0 (nn (sq (sr (tm (pB g1) r0 (tn r0 (qt r0 (fa 2 qY r0) (qt r0 (lD (.bool eB) aZ 1 r0 rF) (tm (.bool eB) r0 (hP 20 r0 (fun h1=>?_) (fun h1=>?_))))))))))
 ·refine aT r0 (aT r0 (aT r0 (qt r0 (pt (v:=.bool true) r0 r0) (nn (fX r0 (sq (rg (tA ns r0 (tA (I 0) r0 (tA (.bool false) r0 (nn (rt (tR (bO (.tmp (.tmp (.tmp .nil))) r0 ?_))))))))))))))
  have bG:=aZ.nl [Z0] r0
  have e1:eM bs=(([]:aC),0,false):=by(rw[RC p3 p6 p9]; simp[h1])
  rw[e1]
  exact⟨none,0,rfl,(bG.pk [3] r0)⟩
 refine qh r0 (mv (v:=.slice A1 ((aF bs (bC,bD) (cH bs (aX,aY)).toNat).length) c1) r0) (cl ⟨_,rfl,rfl⟩ r0 (NT _ _ (aZ.cI 2 r0)) ?_)
 rintro _ w6 ⟨rfl,bU⟩
 replace bU:=aZ.cJ bU
 refine qh r0 (nt r0) (qt r0 (pf (v:=.bool (!(j9 (aF bs (bC,bD) (cH bs (aX,aY)).toNat)))) r0 r0) (nn (cd r0 (fun h2=>?_) (fun h2=>?_))))
 ·have h3:=dX h2
  refine sr (tA ns r0 (tA (I 0) r0 (tA (.bool false) r0 (nn (rt (tR (bO (.tmp (.tmp (.tmp .nil))) r0 ?_)))))))
  have bV:=bU.nl [Z0] r0
  have e2:eM bs=(([]:aC),0,false):=by(rw[RC p3 p6 p9]; simp[h1,h3])
  rw[e2]
  exact⟨none,0,rfl,(bV.pk [3] r0)⟩
 have h4:=dY h2
 refine sk (nN (sq (rq (fun w'=>SH w w' [] [oI b1 ([5]:aC) 1 3,.blk g1 156 [(Z4 Abs bs cbs),I (dQ:Int),.bool eB],.own A1 ((aF bs (bC,bD) (cH bs (aX,aY)).toNat).length) c1 3 1 ((aF bs (bC,bD) (cH bs (aX,aY)).toNat).map I)]) mixed (by kernel_rfl) bU.drew (qA r0 (mv (v:=.slice A1 ((aF bs (bC,bD) (cH bs (aX,aY)).toNat).length) c1) r0) (qA r0 (mv (v:=pB g1) r0) (qA r0 (nc r0) (qA r0 (fa 1 vW r0) (qB r0 (fun aU=>lD (I (dQ:Int)) aU 1 r0 cN) (qA r0 (fW (v:=.slice A1 ((aF bs (bC,bD) (cH bs (aX,aY)).toNat).length) c1) r0) (qA r0 (fW (v:=I (dQ:Int)) r0) (qA r0 (fW (v:=.bool true) r0) (qn (fun w7 b9=>nN (rt (bO (.tmp (.tmp (.tmp .nil))) r0 ?_)))))))))))))))
 have e3:eM bs=(aF bs (bC,bD) (cH bs (aX,aY)).toNat,(dQ:Int),true):=by(rw[RC p3 p6 p9]; simp[h1,h4])
 rw[e3]
 exact⟨A1,c1,rfl,(b9.pk [2] r0)⟩
theorem Lu {Abs:aM} {cbs:Nat} (bs:aC) (w:World) (hbs:Sl w [] 1 Abs bs.length cbs (bs.map I)):bF prog 178 [.slice Abs bs.length cbs] w (fun v w'=>v=.tuple #[.agg #[aA ((fA bs).1.1),aA ((fA bs).1.2)],.int .i64 ((fA bs).2.1),.bool ((fA bs).2.2)]∧SH w w' [] []):=by
 refine fQ 33 func178 r0 r0 ?_
 have aK:SH w w [] []:=SH.refl w []
 have nW:bs.length≤9223372036854775807:=cB hbs.cap hbs.cO
 refine sr (al (cs:=lB) aK B3 r0 aH r0 (fun b1 w1 aE=>tA (I 0) r0 (tA (.bool false) r0 (nx (tm (cD Abs bs cbs) r0 (cL r0 (FN _ _ (hbs.aP aE)) ?_))))))
 rintro _ w2 ⟨g1,rfl,aI⟩
 replace aI:=aE.cJ aI
 refine tA (pB g1) r0 (nx (tm (pB g1) r0 (cR aI aV [I 1] [I 1] aH r0 (fun b2 w3 aN=>cL r0 (IJ _ 0 _ ([1]:aC) _ (gM aN 1 r0) (hbs.up aN (by simp) (fun k h=>.inr (aN.mE 1 r0 k h))) (by(simp; done)) (by omega) (aN.sl 2 r0 (by intro k hk; simp at hk; subst hk; exact⟨_,cC 1 r0,rfl⟩)) (by((simp; done)))) ?_))))
 rintro _ w4 ⟨aX,aY,rfl,p1,p2,p3,aR⟩
 replace aR:=aN.cK [1] [0,2] aR r0
 refine nx (al (cs:=lB) aR B3 r0 aH r0 (fun b3 w5 aZ=>nx (tm (pB g1) r0 (cL r0 (S8 _ _ _ _ (gM aZ 2 r0) (hbs.up aZ (by simp) (fun k h=>.inr (aZ.mE 2 r0 k h))) (‹_›) (by(assumption))) ?_))))
 rintro _ w6 ⟨bC,bD,rfl,p4,p5,p6,bG⟩
 replace bG:SH w w6 [] [.blk b1 38 lB,oI b2 ([1]:aC) 1 3,.blk b3 38 lB,.blk g1 156 [(Z4 Abs bs cbs),I (bC:Int),.bool bD]]:=SH.vV (K:=[.blk g1 156 [(Z4 Abs bs cbs),I (aX:Int),.bool aY]]) (R:=[.blk b1 38 lB,oI b2 ([1]:aC) 1 3,.blk b3 38 lB]) (aZ.pk [2,0,1,3] r0) bG r0
 refine qt r0 (fa 0 BA r0) (sT (aA (jM bs (aX,aY))) bG 2 r0 eC (fun w7 bU=>nx (tm (pB g1) r0 (cL r0 (S8 _ _ _ _ (gM bU 2 r0) (hbs.up bU (by simp) (fun k h=>.inr (bU.mE 2 r0 k h))) (‹_›) (by(assumption))) ?_))))
 rintro _ w8 ⟨dQ,eB,rfl,p7,p8,p9,bV⟩
 replace bV:=bU.cK [2] [0,1,3] bV r0
 refine qt r0 (fa 1 BB r0) (sT (aA (jM bs (bC,bD))) bV 2 r0 eC (fun w9 b9=>nn (sq (sr (tm (pB g1) r0 (tn r0 (qt r0 (fa 2 qY r0) (qt r0 (lD (.bool eB) b9 2 r0 rF) (tm (.bool eB) r0 (hP 22 r0 (fun h1=>?_) (fun h1=>?_)))))))))))
 ·refine aT r0 (aT r0 (aT r0 (qt r0 (pt (v:=.bool true) r0 r0) (nn (fX r0 (sq (rg (qt r0 (bQ (v:=.agg #[aA [],aA []]) [] r0) (sG lB b9 0 r0 jI (fun kF cM=>tA (I 0) r0 (tA (.bool false) r0 (nn ?_))))))))))))
  have cW:=cM.pq [3] r0
  refine rt (tR (bO (cX cW 0 r0 r0 jI r0 (.tmp (.tmp .nil))) r0 ?_))
  have e1:fA bs=(([],[]),0,false):=by(rw[SJ p3 p6 p9]; simp[h1])
  rw[e1]
  exact⟨rfl,(cW.pk [] r0)⟩
 refine qh r0 (lG [aA (jM bs (aX,aY)),aA (jM bs (bC,bD))] b9 3 r0 jI) (cl ⟨_,rfl,rfl⟩ r0 (NU _ _ _ (by(have BP:=I6 (bs:=bs) (s:=(aX,aY)) p2; have qJ:=I6 (bs:=bs) (s:=(bC,bD)) p5; omega)) (by(have BP:=I6 (bs:=bs) (s:=(aX,aY)) p2; have qJ:=I6 (bs:=bs) (s:=(bC,bD)) p5; omega))) ?_)
 rintro _ kB ⟨rfl,dB⟩
 replace dB:=b9.cJ dB
 refine qh r0 (nt r0) (qt r0 (pf (v:=.bool (!(iW (jM bs (aX,aY)) (jM bs (bC,bD))))) r0 r0) (nn (cd r0 (fun h2=>?_) (fun h2=>?_))))
 ·have h3:=dX h2
  refine sr (qt r0 (bQ (v:=.agg #[aA [],aA []]) [] r0) (sG lB dB 0 r0 jI (fun kI cY=>tA (I 0) r0 (tA (.bool false) r0 (nn ?_)))))
  have dJ:=cY.pq [3] r0
  refine rt (tR (bO (cX dJ 0 r0 r0 jI r0 (.tmp (.tmp .nil))) r0 ?_))
  have e2:fA bs=(([],[]),0,false):=by(rw[SJ p3 p6 p9]; simp[h1,h3])
  rw[e2]
  exact⟨rfl,(dJ.pk [] r0)⟩
 have h4:=dY h2
 refine sk (nN (sq (ra (fun w'=>∃ L,SH w w' [] L∧(.blk g1 156 [(Z4 Abs bs cbs),I (dQ:Int),.bool eB])∈L∧(.blk b3 38 [aA (jM bs (aX,aY)),aA (jM bs (bC,bD))])∈L∧True) mixed ?_)))
 have dM:=dB.drew
 refine tQ (fuel:=3) (is:=[0,1,2,3,4]) (.cons r0 (.cons r0 (.cons r0 (.cons r0 (.cons r0 (.nil)))))) ⟨_,dM,cC 2 r0,cC 3 r0,aH⟩ (yB r0 (fun ⟨Lq,aU,dH,j0,_⟩=>rD (vs:=[aA (jM bs (aX,aY)),aA (jM bs (bC,bD))]) aU j0 r0 r0 r0 jI) (yA r0 (mv (v:=pB g1) r0) (yA r0 (nc r0) (yA r0 (fa 1 vW r0) (yB r0 (fun ⟨Lq,aU,dH,j0,_⟩=>lM (I (dQ:Int)) aU dH r0 cN) (.nil (a1 (i:=5) (by kernel_rfl) (eI r0 (sG [aA (jM bs (aX,aY)),aA (jM bs (bC,bD))] dM 0 r0 jI (fun lU eO=>nk ⟨_,eO,cC 1 r0,cC 2 r0,aH⟩ (tQ (fuel:=0) (is:=[6,7]) (.cons r0 (.cons r0 (.nil))) ⟨_,eO,cC 1 r0,cC 2 r0,aH⟩ (yA r0 (fW (v:=I (dQ:Int)) r0) (yA r0 (fW (v:=.bool true) r0) (.nil (aQ (nN ?_))))))))))))))))
 have eK:=eO.pq [3] r0
 refine rt (bO (cX eK 0 r0 r0 jI r0 (.tmp (.tmp .nil))) r0 ?_)
 have e3:fA bs=((jM bs (aX,aY),jM bs (bC,bD)),(dQ:Int),true):=by(rw[SJ p3 p6 p9]; simp[h1,h4])
 rw[e3]
 exact⟨rfl,(eK.pk [] r0)⟩
theorem Lh {Abs:aM} {cbs:Nat} (bs:aC) (w:World) (hbs:Sl w [] 1 Abs bs.length cbs (bs.map I)):bF prog 226 [.slice Abs bs.length cbs] w (fun v w'=>∃ Aqr:aM,∃ cqr:Nat,v=.tuple #[.int .i64 ((fL bs).1),.agg #[.int .i64 ((fL bs).2.1.1),.slice Aqr ((fL bs).2.1.2.1).length cqr,aA ((fL bs).2.1.2.2.1),.int .i64 ((fL bs).2.1.2.2.2)],.int .i64 ((fL bs).2.2.1),.bool ((fL bs).2.2.2)]∧SH w w' [] [.own Aqr (((fL bs).2.1.2.1).length) cqr 3 1 (((fL bs).2.1.2.1).map I)]):=by
 refine fQ 32 func226 r0 r0 ?_
 have aK:=SH.refl w []
 have nW:bs.length≤9223372036854775807:=cB hbs.cap hbs.cO
 refine sr (tA (I 0) r0 (al (cs:=eA) aK kZ r0 aH r0 (fun b1 w1 aE=>tA (I 0) r0 (tA (.bool false) r0 (nx (tm (cD Abs bs cbs) r0 (cL r0 (FN _ _ (hbs.aP aE)) ?_)))))))
 rintro _ w2 ⟨g1,rfl,aI⟩
 replace aI:=aE.cJ aI
 refine tA (pB g1) r0 (nx (tm (pB g1) r0 (cR aI aV [I 5] [I 5] aH r0 (fun b2 w3 aN=>cL r0 (IJ _ 0 _ ([5]:aC) _ (gM aN 1 r0) (hbs.up aN (by simp) (fun k h=>.inr (aN.mE 1 r0 k h))) (by(simp; done)) (by omega) (aN.sl 2 r0 (by intro k hk; simp at hk; subst hk; exact⟨_,cC 1 r0,rfl⟩)) (by(simp; done))) ?_))))
 rintro _ w4 ⟨aX,aY,rfl,p1,p2,p3,aR⟩
 replace aR:=aN.cK [1] [0,2] aR r0
 refine nx (tm (pB g1) r0 (cL r0 (GA _ _ _ _ (gM aR 2 r0) (hbs.up aR (by simp) (fun k h=>.inr (aR.mE 2 r0 k h))) (‹_›) (‹_›)) ?_))
 rintro _ w5 ⟨bC,bD,rfl,p4,p5,p6,aZ⟩
 replace aZ:=aR.cK [2] [0,1] aZ r0
 refine tA (I (cH bs (aX,aY))) r0 (nx (tm (pB g1) r0 (cR aZ aV [I 0] [I 0] aH r0 (fun b3 w6 bG=>cL r0 (IJ _ _ _ ([0]:aC) _ (gM bG 2 r0) (hbs.up bG (by simp) (fun k h=>.inr (bG.mE 2 r0 k h))) (‹_›) (‹_›) (bG.sl 3 r0 (by intro k hk; simp at hk; subst hk; exact⟨_,cC 2 r0,rfl⟩)) (by(simp; done))) ?_))))
 rintro _ w7 ⟨dQ,eB,rfl,p7,p8,p9,bU⟩
 replace bU:=bG.cK [2] [0,1,3] bU r0
 refine nn ?_
 have bV:=bU.pq [0,3] r0
 refine sr (tm (pB g1) r0 (cL r0 (Rt _ _ _ _ (gM bV 1 r0) (hbs.up bV (by simp) (fun k h=>.inr (bV.mE 1 r0 k h))) (‹_›) (‹_›)) ?_))
 rintro _ w8 ⟨A1,c1,eR,eS,rfl,OQ,FP,nY,b9⟩
 replace b9:=bV.cK [1] [0] b9 r0
 refine al (cs:=eA) b9 kZ r0 aH r0 (fun b4 w9 cM=>sG [I ((eU bs (dQ,eB)).1.1),.slice A1 (((eU bs (dQ,eB)).1.2.1).length) c1,aA ((eU bs (dQ,eB)).1.2.2.1),I ((eU bs (dQ,eB)).1.2.2.2)] cM 3 r0 cG (fun kF cW=>nn (sq ?_)))
 refine kA (fun w'=>∃ L,SH w w' [] L∧(.blk g1 156 [(Z4 Abs bs cbs),I (eR:Int),.bool eS])∈L∧(.blk b4 74 [I ((eU bs (dQ,eB)).1.1),.slice A1 (((eU bs (dQ,eB)).1.2.1).length) c1,aA ((eU bs (dQ,eB)).1.2.2.1),I ((eU bs (dQ,eB)).1.2.2.2)])∈L∧True) (fun f w'=>Hz f [(2,I (cH bs (aX,aY))),(3,pB b1),(4,I (eR:Int)),(5,.bool (!eS))]∧SH w w' [] [.blk b1 74 [I ((eU bs (dQ,eB)).1.1),.slice A1 (((eU bs (dQ,eB)).1.2.1).length) c1,aA ((eU bs (dQ,eB)).1.2.2.1),I ((eU bs (dQ,eB)).1.2.2.2)],.blk g1 156 [(Z4 Abs bs cbs),I (eR:Int),.bool eS],.own A1 (((eU bs (dQ,eB)).1.2.1).length) c1 3 1 (((eU bs (dQ,eB)).1.2.1).map I),.blk b4 74 [I ((eU bs (dQ,eB)).1.1),.slice A1 (((eU bs (dQ,eB)).1.2.1).length) c1,aA ((eU bs (dQ,eB)).1.2.2.1),I ((eU bs (dQ,eB)).1.2.2.2)]]) mixed ?_ ?_
 ·refine dG 3 15 4095 (fun f w'=>Hz f [(2,I (cH bs (aX,aY))),(3,pB b1),(4,I 0),(5,.bool false),(22,.agg #[I ((eU bs (dQ,eB)).1.1),.slice A1 (((eU bs (dQ,eB)).1.2.1).length) c1,aA ((eU bs (dQ,eB)).1.2.2.1),I ((eU bs (dQ,eB)).1.2.2.2)]),(26,I (eR:Int)),(31,.bool (!eS))]∧SH w w' [] [.blk b1 74 eA,.blk g1 156 [(Z4 Abs bs cbs),I (eR:Int),.bool eS],.own A1 (((eU bs (dQ,eB)).1.2.1).length) c1 3 1 (((eU bs (dQ,eB)).1.2.1).map I),.blk b4 74 [I ((eU bs (dQ,eB)).1.1),.slice A1 (((eU bs (dQ,eB)).1.2.1).length) c1,aA ((eU bs (dQ,eB)).1.2.2.1),I ((eU bs (dQ,eB)).1.2.2.2)]]) ?_ (fun D_6_0=>?_)
  ·rintro f kB ⟨⟨g2,rfl⟩,dB⟩
   refine aO 12 r0 (sG [I ((eU bs (dQ,eB)).1.1),.slice A1 (((eU bs (dQ,eB)).1.2.1).length) c1,aA ((eU bs (dQ,eB)).1.2.2.1),I ((eU bs (dQ,eB)).1.2.2.2)] dB 0 r0 cG (fun kI cY=>nk ⟨_,cY,cC 0 r0,cC 2 r0,aH⟩ (tQ (fuel:=0) (is:=[13,14]) (.cons r0 (.cons r0 (.nil))) ⟨_,cY,cC 0 r0,cC 2 r0,aH⟩ (yA r0 (fW (v:=I (eR:Int)) r0) (yA r0 (fW (v:=.bool (!eS)) r0) (.nil (aQ ?_)))))))
   exact⟨(zR r0),(cY.pk [3,0,1,2] r0)⟩
  have dJ:=cW.drew
  exact tQ (fuel:=3) (is:=[0,1,2,3,4,5,6,7,8,9,10,11]) (.cons r0 (.cons r0 (.cons r0 (.cons r0 (.cons r0 (.cons r0 (.cons r0 (.cons r0 (.cons r0 (.cons r0 (.cons r0 (.cons r0 (.nil))))))))))))) ⟨_,dJ,cC 1 r0,cC 3 r0,aH⟩ (yA r0 (mv (v:=I (cH bs (aX,aY))) r0) (yB r0 (fun ⟨Lq,aU,dH,j0,_⟩=>rD (vs:=[I ((eU bs (dQ,eB)).1.1),.slice A1 (((eU bs (dQ,eB)).1.2.1).length) c1,aA ((eU bs (dQ,eB)).1.2.2.1),I ((eU bs (dQ,eB)).1.2.2.2)]) aU j0 r0 r0 r0 cG) (yA r0 (mv (v:=pB g1) r0) (yA r0 (nc r0) (yA r0 (fa 1 vW r0) (yB r0 (fun ⟨Lq,aU,dH,j0,_⟩=>lM (I (eR:Int)) aU dH r0 cN) (yA r0 (mv (v:=pB g1) r0) (yA r0 (nc r0) (yA r0 (fa 2 qY r0) (yB r0 (fun ⟨Lq,aU,dH,j0,_⟩=>lM (.bool eS) aU dH r0 rF) (yA r0 (nt r0) (yA r0 (fW (v:=I (cH bs (aX,aY))) r0) (.nil (bS D_6_0 ⟨(zR r0),dJ⟩))))))))))))))
 rintro f lU ⟨⟨g3,rfl⟩,dM⟩
 refine nN ?_
 have eO:=dM.pq [0,2] r0
 refine rt (bO (.tmp (cX eO 0 r0 r0 cG r0 (.tmp (.tmp .nil)))) r0 ?_)
 have e1:fL bs=(cH bs (aX,aY),((eU bs (dQ,eB)).1.1,(eU bs (dQ,eB)).1.2.1,(eU bs (dQ,eB)).1.2.2.1,(eU bs (dQ,eB)).1.2.2.2),(eR:Int),(!eS)):=by(rw[Gk p3 p6 p9 nY]; done)
 rw[e1]
 exact⟨A1,c1,rfl,(eO.pk [1] r0)⟩
theorem Me {Abs:aM} {cbs:Nat} (bs:aC) (w:World) (hbs:Sl w [] 1 Abs bs.length cbs (bs.map I)):bF prog 181 [.slice Abs bs.length cbs] w (fun v w'=>∃ Aqr:aM,∃ cqr:Nat,v=.tuple #[.agg #[.int .i64 ((dD bs).1.1),.int .i64 ((dD bs).1.2.1),.slice Aqr ((dD bs).1.2.2.1).length cqr,aA ((dD bs).1.2.2.2.1),.int .i64 ((dD bs).1.2.2.2.2)],.int .i64 ((dD bs).2.1),.bool ((dD bs).2.2)]∧SH w w' [] [.own Aqr (((dD bs).1.2.2.1).length) cqr 3 1 (((dD bs).1.2.2.1).map I)]):=by
 refine fQ 30 func181 r0 r0 ?_
 have aK:=SH.refl w []
 have nW:bs.length≤9223372036854775807:=cB hbs.cap hbs.cO
 refine sr (al (cs:=AP) aK LB r0 aH r0 (fun b1 w1 aE=>tA (I 0) r0 (tA (.bool false) r0 (nx (tm (cD Abs bs cbs) r0 (dP aE r0 (Lh _ _ (hbs.aP aE)) (fun eF eG w2 aI=>tm (.tuple #[I ((fL bs).1),.agg #[I ((fL bs).2.1.1),.slice eF (((fL bs).2.1.2.1).length) eG,aA ((fL bs).2.1.2.2.1),I ((fL bs).2.1.2.2.2)],I ((fL bs).2.2.1),.bool ((fL bs).2.2.2)]) r0 (qt r0 (xt 0 r0 r0) (qt r0 (xt 1 r0 r0) (qt r0 (xt 2 r0 r0) (qt r0 (xt 3 r0 r0) (al (cs:=eA) aI kZ r0 aH r0 (fun b2 w3 aN=>tA (I ((fL bs).1)) r0 (sG [I ((fL bs).2.1.1),.slice eF (((fL bs).2.1.2.1).length) eG,aA ((fL bs).2.1.2.2.1),I ((fL bs).2.1.2.2.2)] aN 2 r0 cG (fun w4 aR=>tA (I ((fL bs).2.2.1)) r0 (tA (.bool ((fL bs).2.2.2)) r0 (nx (tm (I ((fL bs).1)) r0 (qt r0 (lG [I ((fL bs).2.1.1),.slice eF (((fL bs).2.1.2.1).length) eG,aA ((fL bs).2.1.2.2.1),I ((fL bs).2.1.2.2.2)] aR 2 r0 cG) (qt r0 (bQ (v:=.agg #[I ((fL bs).1),I ((fL bs).2.1.1),.slice eF (((fL bs).2.1.2.1).length) eG,aA ((fL bs).2.1.2.2.1),I ((fL bs).2.1.2.2.2)]) [(0,I ((fL bs).1)),(1,.agg #[I ((fL bs).2.1.1),.slice eF (((fL bs).2.1.2.1).length) eG,aA ((fL bs).2.1.2.2.1),I ((fL bs).2.1.2.2.2)])] r0) (al (cs:=AP) aR LB r0 aH r0 (fun b3 w5 aZ=>sG (L4 bs eF eG) aZ 3 r0 qU (fun w6 bG=>nn (sq (sr (tm (.bool ((fL bs).2.2.2)) r0 (qt r0 (nt r0) (tm (.bool (!((fL bs).2.2.2))) r0 (hP 22 r0 (fun h1=>?_) (fun h1=>?_))))))))))))))))))))))))))))))
 ·have h2:=dX h1
  refine aT r0 (aT r0 (aT r0 (qt r0 (pt (v:=.bool true) r0 r0) (nn (fX r0 (sq (rg (qt r0 (bQ (v:=.agg #[I 0,I 0,ns,aA [],I 0]) [] r0) (sG AP bG 0 r0 qU (fun w7 bU=>tA (I 0) r0 (tA (.bool false) r0 (nn ?_))))))))))))
  have bV:=bU.pq [3] r0
  refine rt (tR (bO (cX bV 0 r0 r0 qU r0 (.tmp (.tmp .nil))) r0 ?_))
  have b9:=bV.nl [Z0] r0
  have e1:dD bs=((0,(0,([]:aC),[],0)),0,false):=by(rw[S9]; simp[h2])
  rw[e1]
  exact⟨none,0,rfl,(b9.pk [1] r0)⟩
 have h3:=dY h1
 refine qh r0 (lG (L4 bs eF eG) bG 3 r0 qU) (cl ⟨_,rfl,rfl⟩ r0 (XD _ _ _ _ _ _ (bG.cI 1 r0) (by(have hcn:=Gj bs; omega))) ?_)
 rintro _ w8 ⟨rfl,cM⟩
 replace cM:=bG.cJ cM
 refine qh r0 (nt r0) (qt r0 (pf (v:=.bool (!(uV ((fL bs).1) ((fL bs).2.1.1) ((fL bs).2.1.2.1) ((fL bs).2.1.2.2.1) ((fL bs).2.1.2.2.2)))) r0 r0) (nn (cd r0 (fun h4=>?_) (fun h4=>?_))))
 ·have h5:=dX h4
  refine sr (qt r0 (bQ (v:=.agg #[I 0,I 0,ns,aA [],I 0]) [] r0) (sG AP cM 0 r0 qU (fun w9 cW=>tA (I 0) r0 (tA (.bool false) r0 (nn ?_)))))
  have dB:=cW.pq [3] r0
  refine rt (tR (bO (cX dB 0 r0 r0 qU r0 (.tmp (.tmp .nil))) r0 ?_))
  have cY:=dB.nl [Z0] r0
  have e2:dD bs=((0,(0,([]:aC),[],0)),0,false):=by(rw[S9]; simp[h3,h5])
  rw[e2]
  exact⟨none,0,rfl,(cY.pk [1] r0)⟩
 have h6:=dY h4
 refine sk (nN (sr (qt r0 (lG (L4 bs eF eG) cM 3 r0 qU) (tm (I ((fL bs).2.2.1)) r0 (sG (L4 bs eF eG) cM 0 r0 qU (fun kF dJ=>tA (I ((fL bs).2.2.1)) r0 (tA (.bool true) r0 (nn ?_))))))))
 have dM:=dJ.pq [0,3] r0
 refine rt (bO (cX dM 1 r0 r0 qU r0 (.tmp (.tmp .nil))) r0 ?_)
 have e3:dD bs=(((fL bs).1,((fL bs).2.1.1,(fL bs).2.1.2.1,(fL bs).2.1.2.2.1,(fL bs).2.1.2.2.2)),(fL bs).2.2.1,true):=by(rw[S9]; simp[h3,h6])
 rw[e3]
 exact⟨eF,eG,rfl,(dM.pk [0] r0)⟩
theorem RZ (m:Int) (w:World) (hm:0≤m∧m≤255):bF prog 177 [I m] w (fun v w'=>∃ Ar:aM,∃ cr:Nat,v=.tuple #[.slice Ar [5,m].length cr,.bool true]∧SH w w' [] [.own Ar ([5,m].length) cr 3 1 ([5,m].map I)]):=by
 refine fQ 9 func177 r0 r0 ?_
 have aK:=SH.refl w []
 refine sr (tA ns r0 (tA (.bool false) r0 (nn (sq (sq (rg (tm (I m) r0 (cS aK r0 (x4 _ 0 255 _) (fun w1 aE=>qt r0 (nd r0) (nn (bI r0 (fun h1=>absurd h1 (by exact fun h=>h hm)) (fun h1=>sk (nN (sr (tm (I m) r0 (cR aE aV [I 5,I m] [I 5,I m] aH r0 (fun b1 w2 aI=>tA (sb b1 (([5,m]:aC).length) 2) r0 (tA (.bool true) r0 (nn (rt (bO (.tmp (.tmp .nil)) r0 ?_)))))))))))))))))))))
 have e1:([5,m]:aC)=[5,m]:=by rfl
 have e2:=aS List.length e1
 exact⟨(Z7 b1),2,(kE (eE r0 e2 r0) r0),(aI.cast (lc (dZ (g:=I) r0 e2 r0 e1) r0))⟩
theorem Tt (m:Int) (w:World) (hm:0≤m∧m≤255):bF prog 198 [I m] w (fun v w'=>∃ Ar:aM,∃ cr:Nat,v=.tuple #[.slice Ar [5,m].length cr,.bool true]∧SH w w' [] [.own Ar ([5,m].length) cr 3 1 ([5,m].map I)]):=by
 refine fQ 10 func198 r0 r0 ?_
 have aK:=SH.refl w []
 refine sr (tA ns r0 (tA (.bool false) r0 (nn (sq (sq (rg (tm (I m) r0 (cS aK r0 (wV _ 0 255 _) (fun w1 aE=>qt r0 (nd r0) (nn (bI r0 (fun h1=>absurd h1 (by exact fun h=>h hm)) (fun h1=>sk (nN (sr (tm (I m) r0 (cR aE aV [I 5,I m] [I 5,I m] aH r0 (fun b1 w2 aI=>tA (sb b1 (([5,m]:aC).length) 2) r0 (tA (.bool true) r0 (nn (rt (bO (.tmp (.tmp .nil)) r0 ?_)))))))))))))))))))))
 have e1:([5,m]:aC)=[5,m]:=by rfl
 have e2:=aS List.length e1
 exact⟨(Z7 b1),2,(kE (eE r0 e2 r0) r0),(aI.cast (lc (dZ (g:=I) r0 e2 r0 e1) r0))⟩
theorem XF (f:Bool) (w:World):bF prog 180 [.bool f] w (fun v w'=>∃ Ar:aM,∃ cr:Nat,v=.slice Ar (l6 f).length cr∧SH w w' [] [.own Ar ((l6 f).length) cr 3 1 ((l6 f).map I)]):=by
 refine fQ 6 func180 r0 r0 ?_
 have aK:=SH.refl w []
 refine sr (tA ns r0 (nn (sq (sr (tm (.bool f) r0 (nn (cd r0 (fun h1=>?_) (fun h1=>?_))))))))
 ·refine sr (cR aK aV [I 1,I 0] [I 1,I 0] aH r0 (fun b1 w1 aE=>tA (sb b1 (([1,0]:aC).length) 2) r0 (nn (rt (tR (fT (sb b1 (([1,0]:aC).length) 2) r0 ?_))))))
  have e1:([1,0]:aC)=l6 f:=by simp[l6,h1]
  have e2:=aS List.length e1
  exact⟨(Z7 b1),2,(eE r0 e2 r0),(aE.cast (lc (dZ (g:=I) r0 e2 r0 e1) r0))⟩
 refine sk (nN (sr (cR aK aV [I 1,I 1] [I 1,I 1] aH r0 (fun b2 w2 aI=>tA (sb b2 (([1,1]:aC).length) 2) r0 (nn (rt (fT (sb b2 (([1,1]:aC).length) 2) r0 ?_)))))))
 have e3:([1,1]:aC)=l6 f:=by simp[l6,h1]
 have e4:=aS List.length e3
 exact⟨(Z7 b2),2,(eE r0 e4 r0),(aI.cast (lc (dZ (g:=I) r0 e4 r0 e3) r0))⟩
theorem Be (f:Bool) (w:World):bF prog 201 [.bool f] w (fun v w'=>∃ Ar:aM,∃ cr:Nat,v=.slice Ar (l6 f).length cr∧SH w w' [] [.own Ar ((l6 f).length) cr 3 1 ((l6 f).map I)]):=by
 refine fQ 6 func201 r0 r0 ?_
 have aK:=SH.refl w []
 refine sr (tA ns r0 (nn (sq (sr (tm (.bool f) r0 (nn (cd r0 (fun h1=>?_) (fun h1=>?_))))))))
 ·refine sr (cR aK aV [I 1,I 0] [I 1,I 0] aH r0 (fun b1 w1 aE=>tA (sb b1 (([1,0]:aC).length) 2) r0 (nn (rt (tR (fT (sb b1 (([1,0]:aC).length) 2) r0 ?_))))))
  have e1:([1,0]:aC)=l6 f:=by simp[l6,h1]
  have e2:=aS List.length e1
  exact⟨(Z7 b1),2,(eE r0 e2 r0),(aE.cast (lc (dZ (g:=I) r0 e2 r0 e1) r0))⟩
 refine sk (nN (sr (cR aK aV [I 1,I 1] [I 1,I 1] aH r0 (fun b2 w2 aI=>tA (sb b2 (([1,1]:aC).length) 2) r0 (nn (rt (fT (sb b2 (([1,1]:aC).length) 2) r0 ?_)))))))
 have e3:([1,1]:aC)=l6 f:=by simp[l6,h1]
 have e4:=aS List.length e3
 exact⟨(Z7 b2),2,(eE r0 e4 r0),(aI.cast (lc (dZ (g:=I) r0 e4 r0 e3) r0))⟩
theorem Lm {Awt:aM} {cwt:Nat} (wt:aC) {Ams:aM} {cms:Nat} (ms:aC) (w:World) (hwt:Sl w [] 1 Awt wt.length cwt (wt.map I)) (hms:Sl w [] 1 Ams ms.length cms (ms.map I)):bF prog 176 [.slice Awt wt.length cwt,.slice Ams ms.length cms] w (fun v w'=>v=.int .i64 (o9 wt ms)∧SH w w' [] []):=by
 refine fQ 26 func176 r0 r0 ?_
 have aK:=SH.refl w []
 have rB:wt.length≤9223372036854775807:=cB hwt.cap hwt.cO
 have RJ:ms.length≤9223372036854775807:=cB hms.cap hms.cO
 refine sr (tA (I 0) r0 (nn (sq (sr (tm (cD Awt wt cwt) r0 (cS aK r0 (NT _ _ (hwt.aP aK)) (fun w1 aE=>qt r0 (nt r0) (tm (.bool (!(j9 wt))) r0 (hP 10 r0 (fun h1=>?_) (fun h1=>?_))))))))))
 ·have h2:=dX h1
  exact aT r0 (aT r0 (aT r0 (qt r0 (pt (v:=.bool true) r0 r0) (nn (fX r0 (sq (rg (tA (I 255) r0 (nn (rt (tR (fI r0 (Eq.symm (OX (by simp[h2]))) aE))))))))))))
 have h3:=dY h1
 refine qh r0 (mv (v:=.slice Ams ms.length cms) r0) (cl ⟨_,rfl,rfl⟩ r0 (NT _ _ (hms.aP aE)) ?_)
 rintro _ w2 ⟨rfl,aI⟩
 replace aI:=aE.cJ aI
 refine qh r0 (nt r0) (qt r0 (pf (v:=.bool (!(j9 ms))) r0 r0) (nn (cd r0 (fun h4=>?_) (fun h4=>?_))))
 ·have h5:=dX h4
  exact sr (tA (I 255) r0 (nn (rt (tR (fI r0 (Eq.symm (OX (by simp[h3,h5]))) aI)))))
 have h6:=dY h4
 refine sk (nN (sq (sr (tm (cD Awt wt cwt) r0 (qt r0 (dK aV r0) (tm (I 0) r0 (nn (bl (lp (σ:=Nat) (fun(k:Nat) f w'=>Hz f [(1,.slice Ams ms.length cms),(15,.slice Awt wt.length cwt),(16,I (wt.length:Int)),(17,I (k:Int))]∧(k≤wt.length)∧(∀ j,j<k→wt.getD j 0 ∉ ms)∧SH w w' [] []) (fun k=>wt.length-k) 0 ⟨(zR r0),(by simp),(by intro j hj; omega),aI⟩ ?_)))))))))
 rintro k f w3 ⟨⟨g1,rfl⟩,hk,hn,aN⟩
 refine sr (qt r0 (lss r0 r0) (nn (sq (bI r0 (fun h7=>?_) (fun h7=>?_)))))
 ·refine sk (nN (sq (bl (sr (gN k aV r0 r0 hwt (by omega) (eQ I 0 (by omega)) aH r0 (fun a1 eL=>qt r0 (eW aN eL (fun _ h=>h) r0 r0 cN) (tA (I (wt.getD k 0)) r0 (nx (tm (cD Ams ms cms) r0 (tm (I (wt.getD k 0)) r0 (cS aN r0 (TN _ _ _ (hms.aP aN)) (fun w4 aR=>nn (bI r0 (fun h8=>?_) (fun h8=>?_))))))))))))))
  ·exact sr (tm (I (wt.getD k 0)) r0 (tA (I (wt.getD k 0)) r0 (nn (rt (bR (tR (tR (bR (tR (fI r0 (Eq.symm (ZO ‹_› ‹_› (by omega) hn ‹_›)) aR))))))))))
  refine sk (bN (nN (rg (qt r0 (add r0 r0 (by exact⟨by omega,by omega⟩)) (tm (I ((k:Int)+1)) r0 (nn ?_))))))
  refine⟨(k+1),⟨(zR r0),(by omega),(by intro j hj; rcases Nat.lt_succ_iff_lt_or_eq.1 hj with h | h; exact hn j h; subst h; assumption),aR⟩,?_⟩
  omega
 refine ex (tE (tE (bE (nN (sr (tA (I 255) r0 (nn (rt (fT (I 255) r0 ?_)))))))))
 have e4:255=o9 wt ms:=by exact Eq.symm (ZN (by omega) hn)
 exact⟨(aS (Value.int .i64) e4),aN⟩
theorem yF {Azs:aM} {czs:Nat} (zs:aC) (w:World) (hzs:Sl w [] 1 Azs zs.length czs (zs.map I)) (hz: ∀ x∈zs,0≤x∧x≤255) (hzl:zs.length≤65535):bF prog 141 [.slice Azs zs.length czs] w (fun v w'=>v=aA (bT zs)∧SH w w' [] []):=by
 refine fQ 22 func141 r0 r0 ?_
 have aK:=SH.refl w []
 have sY:zs.length≤9223372036854775807:=cB hzs.cap hzs.cO
 refine sr (tA (aA []) r0 (nx (cR aK l9 [] [] aH r0 (fun b1 w1 aE=>tA (sb b1 (([]:aD).length) 0) r0 (nn (sq (sr (tA (I 0) r0 (nl (nN (bl ?_)))))))))))
 have e1:([]:aD)=(bT zs).take 0:=by simp
 have e2:([]:aD).length=((bT zs).take 0).length:=by rw[e1]
 refine lp (σ:=(aM)×Nat×Nat) (fun⟨k9,k6,k⟩ f w'=>Hz f [(0,.slice Azs zs.length czs),(3,.slice k9 (((bT zs).take k).length) k6),(4,I (k:Int))]∧(k≤zs.length)∧SH w w' [] [.own k9 (((bT zs).take k).length) k6 5 1 (((bT zs).take k).map U)]) (fun⟨k9,k6,k⟩=>zs.length-k) ((Z7 b1),0,0) ⟨(zH ⟨rfl,(show (.slice (Z7 b1) (([]:aD).length) 0:Value)=.slice (Z7 b1) (((bT zs).take 0).length) 0 from eE r0 e2 r0),rfl,aH⟩),(by simp),(aE.cast (lc (dZ (g:=U) r0 e2 r0 e1) r0))⟩ ?_
 rintro ⟨k9,k6,k⟩ f w2 ⟨⟨g1,rfl⟩,hk,aI⟩
 refine sq (sr (tm (I (k:Int)) r0 (tm (cD Azs zs czs) r0 (qt r0 (dK aV r0) (qt r0 (lss r0 r0) (nl (nN (bI r0 (fun h1=>?_) (fun h1=>?_)))))))))
 ·refine sk (nN (sq (bl (rg (tm (.slice k9 (((bT zs).take k).length) k6) r0 (tm (cD Azs zs czs) r0 (tm (I (k:Int)) r0 (gN k aV r0 r0 hzs (by omega) (eQ I 0 (by omega)) aH r0 (fun a1 eL=>qt r0 (eW aI eL (fun _ h=>h) r0 r0 cN) (qt r0 (M0 (a:=zs.getD k 0) (s:=.i64) xB tJ r0 (by have hgb:=CU hz k; omega) (by have hgb:=CU hz k; omega)) (cR aI l9 [.int .u8 (((UInt8.ofNat (zs.getD k 0).toNat).toNat:Nat):Int)] [.int .u8 (((UInt8.ofNat (zs.getD k 0).toNat).toNat:Nat):Int)] aH r0 (fun b2 w3 aN=>gI (g:=U) (ys:=(bT zs).take k) (zs:=([(UInt8.ofNat (zs.getD k 0).toNat)]:aD)) aN 0 r0 l9 r0 r0 r0 (aN.cI 1 r0) (fun _=>rfl) (by unfold maxLen; have hbt:=oQ zs; simp only[dV,bP,bK]; omega) (by have hbt:=oQ zs; simp only[dV,bP,bK]; omega) aH r0 (fun A1 c1 w4 aR=>tA (.slice A1 ((((bT zs).take k)++([(UInt8.ofNat (zs.getD k 0).toNat)]:aD)).length) c1) r0 (nl (bN (nN (rg (tm (I (k:Int)) r0 (qt r0 (add r0 r0 (by exact⟨by omega,by omega⟩)) (tA (I ((k:Int)+1)) r0 (nn ?_)))))))))))))))))))))
  have e3:((bT zs).take k)++([(UInt8.ofNat (zs.getD k 0).toNat)]:aD)=(bT zs).take (k+1):=by exact Fy (by omega)
  have e4:(((bT zs).take k)++([(UInt8.ofNat (zs.getD k 0).toNat)]:aD)).length=((bT zs).take (k+1)).length:=by rw[e3]
  refine⟨(A1,c1,k+1),⟨(zH ⟨rfl,(show (.slice A1 ((((bT zs).take k)++([(UInt8.ofNat (zs.getD k 0).toNat)]:aD)).length) c1:Value)=.slice A1 (((bT zs).take (k+1)).length) c1 from eE r0 e4 r0),rfl,aH⟩),(by omega),((aR.pq [1] r0).cast (lc (dZ (g:=U) r0 e4 r0 e3) r0))⟩,?_⟩
  show zs.length-(k+1)<zs.length-k
  omega
 refine ex (tE (tE (bE (nN (sr (tm (.slice k9 (((bT zs).take k).length) k6) r0 (qt r0 (JY (l:=(bT zs).take k) LD tJ dI r0 (aI.cI 0 r0)) (tA (aA ((bT zs).take k)) r0 (nn (rt (fT (aA ((bT zs).take k)) r0 ?_)))))))))))
 have e5:(bT zs).take k=bT zs:=by exact UR (by omega)
 exact⟨(aS (aA) e5),(aI.pk [] r0)⟩
theorem wB {Azs:aM} {czs:Nat} (zs:aC) (w:World) (hzs:Sl w [] 1 Azs zs.length czs (zs.map I)) (hz: ∀ x∈zs,0≤x∧x≤255) (hzl:zs.length≤2):bF prog 188 [.slice Azs zs.length czs] w (fun v w'=>v=.int .i64 (aL zs)∧SH w w' [] []):=by
 refine fQ 19 func188 r0 r0 ?_
 have aK:=SH.refl w []
 have sY:zs.length≤9223372036854775807:=cB hzs.cap hzs.cO
 refine sr (tA (I 0) r0 (nx (tA (I 0) r0 (nn (sq (sr (tA (I 0) r0 (nn (bl (lp (σ:=Nat) (fun(k:Nat) f w'=>Hz f [(0,.slice Azs zs.length czs),(3,I (aL (zs.take k))),(4,I (k:Int))]∧(k≤zs.length)∧SH w w' [] []) (fun k=>zs.length-k) 0 ⟨(zH ⟨rfl,(show (I 0:Value)=I (aL (zs.take 0)) from aS (Value.int .i64) (by rfl)),rfl,aH⟩),(by simp),aK⟩ ?_))))))))))
 rintro k f w1 ⟨⟨g1,rfl⟩,hk,aE⟩
 refine sq (sr (tm (I (k:Int)) r0 (tm (cD Azs zs czs) r0 (qt r0 (dK aV r0) (qt r0 (lss r0 r0) (nl (nN (bI r0 (fun h1=>?_) (fun h1=>?_)))))))))
 ·refine sk (nN (sq (bl (rg (tm (I (aL (zs.take k))) r0 (qt r0 (mul r0 r0 (by(have hob:=OK hz k hzl; have hgb:=CU hz k; have xX:k≤1:=(by omega); exact⟨by omega,by omega⟩))) (tm (cD Azs zs czs) r0 (tm (I (k:Int)) r0 (gN k aV r0 r0 hzs (by omega) (eQ I 0 (by omega)) aH r0 (fun a1 eL=>qt r0 (eW aE eL (fun _ h=>h) r0 r0 cN) (qt r0 (add r0 r0 (by(have hob:=OK hz k hzl; have hgb:=CU hz k; have xX:k≤1:=(by omega); exact⟨by omega,by omega⟩))) (tA (I ((256*(aL (zs.take k)))+(zs.getD k 0))) r0 (nl (bN (nN (rg (tm (I (k:Int)) r0 (qt r0 (add r0 r0 (by(exact⟨by omega,by omega⟩))) (tA (I ((k:Int)+1)) r0 (nn ?_))))))))))))))))))))
  refine⟨(k+1),⟨(zH ⟨rfl,(show (I ((256*(aL (zs.take k)))+(zs.getD k 0)):Value)=I (aL (zs.take (k+1))) from aS (Value.int .i64) (by exact(YZ (by omega)).symm)),rfl,aH⟩),(by omega),aE⟩,?_⟩
  omega
 exact ex (tE (tE (bE (nN (sr (tm (I (aL (zs.take k))) r0 (tA (I (aL (zs.take k))) r0 (nn (rt (fI r0 (by rw[lI (by omega)]) aE))))))))))
theorem Aq {Abs:aM} {cbs:Nat} (bs:aC) (w:World) (hbs:Sl w [] 1 Abs bs.length cbs (bs.map I)):bF prog 139 [.slice Abs bs.length cbs] w (fun v w'=>∃ Ar:aM,∃ cr:Nat,v=.tuple #[.slice Ar ((eM bs).1).length cr,.int .i64 ((eM bs).2.1),.bool ((eM bs).2.2)]∧SH w w' [] [.own Ar (((eM bs).1).length) cr 3 1 (((eM bs).1).map I)]):=by
 refine fQ 46 func139 r0 r0 ?_
 have aK:=SH.refl w []
 have nW:bs.length≤9223372036854775807:=cB hbs.cap hbs.cO
 refine sr (tA ns r0 (tA (I 0) r0 (tA (.bool false) r0 (nn (sq (sr (tm (cD Abs bs cbs) r0 (cS aK r0 (wU _ _ (hbs.aP aK)) (fun w1 aE=>qt r0 (nt r0) (tm (xK bs) r0 (hP 9 r0 (fun h1=>?_) (fun h1=>?_))))))))))))
 ·have h2:=dX h1
  refine aT r0 (aT r0 (aT r0 (qt r0 (pt (v:=.bool true) r0 r0) (tm (.bool true) r0 (aT r0 (aT r0 (aT r0 (aT r0 (qt r0 (pt (v:=.bool true) r0 r0) (tm (.bool true) r0 (aT r0 (aT r0 (aT r0 (aT r0 (aT r0 (aT r0 (aT r0 (qt r0 (pt (v:=.bool true) r0 r0) (nn (fX r0 (sr (cR aE aV [] [] aH r0 (fun b1 w2 aI=>tA (sb b1 (([]:aC).length) 0) r0 (tA (I 0) r0 (tA (.bool false) r0 (nn (rt (tR (bO (.tmp (.tmp (.tmp .nil))) r0 ?_)))))))))))))))))))))))))))))
  have e1:eM bs=(([]:aC),0,false):=by exact KA (.inl ‹_›)
  rw[e1]
  exact⟨(Z7 b1),0,rfl,aI⟩
 have h3:=dY h1
 refine qh r0 (mv (v:=.slice Abs bs.length cbs) r0) (qh r0 (dK aV r0) (qh r0 (lss r0 r0) (qt r0 (pf (v:=.bool (decide ((bs.length:Int)<3))) r0 r0) (tm (.bool (decide ((bs.length:Int)<3))) r0 (fF 14 r0 (fun h4=>?_) (fun h4=>?_))))))
 ·refine aT r0 (aT r0 (aT r0 (aT r0 (qt r0 (pt (v:=.bool true) r0 r0) (tm (.bool true) r0 (aT r0 (aT r0 (aT r0 (aT r0 (aT r0 (aT r0 (aT r0 (qt r0 (pt (v:=.bool true) r0 r0) (nn (fX r0 (sr (cR aE aV [] [] aH r0 (fun b2 w3 aN=>tA (sb b2 (([]:aC).length) 0) r0 (tA (I 0) r0 (tA (.bool false) r0 (nn (rt (tR (bO (.tmp (.tmp (.tmp .nil))) r0 ?_))))))))))))))))))))))))
  have e2:eM bs=(([]:aC),0,false):=by exact KA (.inr (.inl (by omega)))
  rw[e2]
  exact⟨(Z7 b2),0,rfl,aN⟩
 refine qh r0 (mv (v:=.slice Abs bs.length cbs) r0) (gN 0 aV r0 r0 hbs (by omega) (eQ I 0 (by omega)) ⟨_,rfl,rfl⟩ r0 (fun a1 eL=>qh r0 (eW aE eL (fun _ h=>h) r0 r0 cN) (qh r0 (nK r0 r0) (qt r0 (pf (v:=.bool (decide ((bs.getD 0 0)≠5))) r0 r0) (tm (.bool (decide ((bs.getD 0 0)≠5))) r0 (fF 20 r0 (fun h5=>?_) (fun h5=>?_)))))))
 ·refine aT r0 (aT r0 (aT r0 (aT r0 (aT r0 (aT r0 (aT r0 (qt r0 (pt (v:=.bool true) r0 r0) (nn (fX r0 (sr (cR aE aV [] [] aH r0 (fun b3 w4 aR=>tA (sb b3 (([]:aC).length) 0) r0 (tA (I 0) r0 (tA (.bool false) r0 (nn (rt (tR (bO (.tmp (.tmp (.tmp .nil))) r0 ?_))))))))))))))))))
  have e3:eM bs=(([]:aC),0,false):=by exact KA (.inr (.inr (.inl ‹_›)))
  rw[e3]
  exact⟨(Z7 b3),0,rfl,aR⟩
 refine qh r0 (mv (v:=.slice Abs bs.length cbs) r0) (gN 1 aV r0 r0 hbs (by omega) (eQ I 0 (by omega)) ⟨_,rfl,rfl⟩ r0 (fun a2 jG=>qh r0 (eW aE jG (fun _ h=>h) r0 r0 cN) (qh r0 (mv (v:=.slice Abs bs.length cbs) r0) (qh r0 (dK aV r0) (qh r0 (sub r0 r0 (by(exact⟨by omega,by omega⟩))) (qh r0 (gtr r0 r0) (qt r0 (pf (v:=.bool (decide (((bs.length:Int)-2)<(bs.getD 1 0)))) r0 r0) (nn (bI r0 (fun h6=>?_) (fun h6=>?_))))))))))
 ·refine sr (cR aE aV [] [] aH r0 (fun b4 w5 aZ=>tA (sb b4 (([]:aC).length) 0) r0 (tA (I 0) r0 (tA (.bool false) r0 (nn (rt (tR (bO (.tmp (.tmp (.tmp .nil))) r0 ?_))))))))
  have e4:eM bs=(([]:aC),0,false):=by exact KA (.inr (.inr (.inr (.inl (by omega)))))
  rw[e4]
  exact⟨(Z7 b4),0,rfl,aZ⟩
 refine sk (nN (sr (cR aE aV [] [] aH r0 (fun b5 w6 bG=>tm (cD Abs bs cbs) r0 (tm (cD Abs bs cbs) r0 (gN 1 aV r0 r0 hbs (by omega) (eQ I 0 (by omega)) aH r0 (fun a3 nV=>?_)))))))
 have vY:=jT (by assumption:bJ bs=true) (k:=1) (by omega)
 refine qt r0 (eW bG nV (fun _ h=>h) r0 r0 cN) (qt r0 (add r0 r0 (by (try simp only[fC,dV]); have hbl:=hZ (by assumption:bJ bs=true); exact⟨by omega,by omega⟩)) (qt r0 (pK (zs:=bs) 2 ((2+(bs.getD 1 0)).toNat) aV r0 r0 (jK (x:=2+(bs.getD 1 0)) (by omega)) (by omega) (by omega) hbs.cap) (gI (g:=I) (ys:=([]:aC)) (zs:=(bs.take ((2+(bs.getD 1 0)).toNat)).drop 2) bG 0 r0 aV r0 r0 r0 (Sl.lZ (hbs.aP bG) (by omega) (by omega)) (fun _=>rfl) (by unfold maxLen; simp only[bK,fC,dV]; have hbl:=hZ (by assumption:bJ bs=true); omega) (by simp only[bK,fC,dV]; have hbl:=hZ (by assumption:bJ bs=true); omega) aH r0 (fun A1 c1 w7 bU=>tA (.slice A1 ((EC bs).length) c1) r0 (nn (sq (sr (tm (.slice A1 ((EC bs).length) c1) r0 (cS bU r0 (PD _ _ (bU.cI 0 r0)) (fun w8 bV=>qt r0 (nt r0) (nn (cd r0 (fun h7=>?_) (fun h7=>?_)))))))))))))
 ·have h8:=dX h7
  refine sr (cR bV aV [] [] aH r0 (fun b6 w9 b9=>tA (sb b6 (([]:aC).length) 0) r0 (tA (I 0) r0 (tA (.bool false) r0 (nn (rt (tR (bO (.tmp (.tmp (.tmp .nil))) r0 ?_))))))))
  have e5:eM bs=(([]:aC),0,false):=by exact KA (.inr (.inr (.inr (.inr ⟨by assumption,by omega,by assumption⟩))))
  rw[e5]
  exact⟨(Z7 b6),0,rfl,(b9.pk [1] r0)⟩
 have h9:=dY h7
 refine sk (nN (sr (tm (.slice A1 ((EC bs).length) c1) r0 (tm (.slice A1 ((EC bs).length) c1) r0 (qt r0 (dK aV r0) (qt r0 (add r0 r0 (by (try simp only[fC,dV]); have hbl:=hZ (by assumption:bJ bs=true); exact⟨by omega,by omega⟩)) (tA (.slice A1 ((EC bs).length) c1) r0 (tA (I (2+(((EC bs).length:Nat):Int))) r0 (tA (.bool true) r0 (nn (rt (bO (.tmp (.tmp (.tmp .nil))) r0 ?_))))))))))))
 have e6:eM bs=((bs.take ((2+(bs.getD 1 0)).toNat)).drop 2,2+(((EC bs).length:Nat):Int),true):=by exact Km ‹_› (by omega) (Decidable.not_not.1 ‹_›) (by omega) ‹_›
 rw[e6]
 exact⟨A1,c1,rfl,bV⟩
theorem Sr {Awt:aM} {cwt:Nat} (wt:aC) {Ams:aM} {cms:Nat} (ms:aC) (w:World) (hwt:Sl w [] 1 Awt wt.length cwt (wt.map I)) (hms:Sl w [] 1 Ams ms.length cms (ms.map I)):bF prog 197 [.slice Awt wt.length cwt,.slice Ams ms.length cms] w (fun v w'=>v=.int .i64 (o9 wt ms)∧SH w w' [] []):=by
 refine fQ 30 func197 r0 r0 ?_
 have aK:=SH.refl w []
 have rB:wt.length≤9223372036854775807:=cB hwt.cap hwt.cO
 have RJ:ms.length≤9223372036854775807:=cB hms.cap hms.cO
 refine sr (tA (I 0) r0 (nn (sq (sr (tm (cD Awt wt cwt) r0 (cS aK r0 (PD _ _ (hwt.aP aK)) (fun w1 aE=>qt r0 (nt r0) (tm (.bool (!(j9 wt))) r0 (hP 9 r0 (fun h1=>?_) (fun h1=>?_))))))))))
 ·have h2:=dX h1
  exact aT r0 (aT r0 (aT r0 (qt r0 (pt (v:=.bool true) r0 r0) (nn (fX r0 (sq (rg (tA (I 255) r0 (nn (rt (tR (fI r0 (Eq.symm (OX (by simp[h2]))) aE))))))))))))
 have h3:=dY h1
 refine qh r0 (mv (v:=.slice Ams ms.length cms) r0) (cl ⟨_,rfl,rfl⟩ r0 (PD _ _ (hms.aP aE)) ?_)
 rintro _ w2 ⟨rfl,aI⟩
 replace aI:=aE.cJ aI
 refine qh r0 (nt r0) (qt r0 (pf (v:=.bool (!(j9 ms))) r0 r0) (nn (cd r0 (fun h4=>?_) (fun h4=>?_))))
 ·have h5:=dX h4
  exact sr (tA (I 255) r0 (nn (rt (tR (fI r0 (Eq.symm (OX (by simp[h3,h5]))) aI)))))
 have h6:=dY h4
 refine sk (nN (sq (sr (tA (I 0) r0 (nn (bl (lp (σ:=Nat) (fun(k:Nat) f w'=>Hz f [(0,.slice Awt wt.length cwt),(1,.slice Ams ms.length cms),(5,I (k:Int))]∧(k≤wt.length)∧(∀ j,j<k→wt.getD j 0 ∉ ms)∧SH w w' [] []) (fun k=>wt.length-k) 0 ⟨(zR r0),(by simp),(by intro j hj; omega),aI⟩ ?_)))))))
 rintro k f w3 ⟨⟨g1,rfl⟩,hk,hn,aN⟩
 refine sq (sr (tm (I (k:Int)) r0 (tm (cD Awt wt cwt) r0 (qt r0 (dK aV r0) (qt r0 (lss r0 r0) (nl (nN (bI r0 (fun h7=>?_) (fun h7=>?_)))))))))
 ·refine sk (nN (sq (bl (sr (tm (cD Ams ms cms) r0 (tm (cD Awt wt cwt) r0 (tm (I (k:Int)) r0 (gN k aV r0 r0 hwt (by omega) (eQ I 0 (by omega)) aH r0 (fun a1 eL=>qt r0 (eW aN eL (fun _ h=>h) r0 r0 cN) (cS aN r0 (R7 _ _ _ (hms.aP aN)) (fun w4 aR=>nn (bI r0 (fun h8=>?_) (fun h8=>?_)))))))))))))
  ·exact sr (tm (cD Awt wt cwt) r0 (tm (I (k:Int)) r0 (gN k aV r0 r0 hwt (by omega) (eQ I 0 (by omega)) aH r0 (fun a2 jG=>qt r0 (eW aR jG (fun _ h=>h) r0 r0 cN) (tA (I (wt.getD k 0)) r0 (nn (rt (bR (tR (tR (bR (tR (fI r0 (Eq.symm (ZO ‹_› ‹_› (by omega) hn ‹_›)) aR)))))))))))))
  refine sk (bN (nN (rg (tm (I (k:Int)) r0 (qt r0 (add r0 r0 (by exact⟨by omega,by omega⟩)) (tA (I ((k:Int)+1)) r0 (nl (nN ?_))))))))
  refine⟨(k+1),⟨(zR r0),(by omega),(by intro j hj; rcases Nat.lt_succ_iff_lt_or_eq.1 hj with h | h; exact hn j h; subst h; assumption),aR⟩,?_⟩
  omega
 refine ex (tE (tE (bE (nN (sr (tA (I 255) r0 (nn (rt (fT (I 255) r0 ?_)))))))))
 have e4:255=o9 wt ms:=by exact Eq.symm (ZN (by omega) hn)
 exact⟨(aS (Value.int .i64) e4),aN⟩
theorem To {Abs:aM} {cbs:Nat} (bs:aC) (w:World) (hbs:Sl w [] 1 Abs bs.length cbs (bs.map I)):bF prog 199 [.slice Abs bs.length cbs] w (fun v w'=>v=.tuple #[.agg #[aA ((fA bs).1.1),aA ((fA bs).1.2)],.int .i64 ((fA bs).2.1),.bool ((fA bs).2.2)]∧SH w w' [] []):=by
 refine fQ 71 func199 r0 r0 ?_
 have aK:=SH.refl w []
 have nW:bs.length≤9223372036854775807:=cB hbs.cap hbs.cO
 refine sr (al (cs:=lB) aK B3 r0 aH r0 (fun b1 w1 aE=>tA (I 0) r0 (tA (.bool false) r0 (nn (sq (sr (tm (cD Abs bs cbs) r0 (cS aE r0 (wU _ _ (hbs.aP aE)) (fun w2 aI=>qt r0 (nt r0) (tm (xK bs) r0 (hP 11 r0 (fun h1=>?_) (fun h1=>?_))))))))))))
 ·have h2:=dX h1
  refine aT r0 (aT r0 (aT r0 (qt r0 (pt (v:=.bool true) r0 r0) (tm (.bool true) r0 (aT r0 (aT r0 (aT r0 (aT r0 (qt r0 (pt (v:=.bool true) r0 r0) (tm (.bool true) r0 (aT r0 (aT r0 (aT r0 (aT r0 (aT r0 (aT r0 (aT r0 (qt r0 (pt (v:=.bool true) r0 r0) (nn (fX r0 (sr (qt r0 (bQ (v:=.agg #[aA [],aA []]) [] r0) (sG lB aI 0 r0 jI (fun w3 aN=>tA (I 0) r0 (tA (.bool false) r0 (nn (rt (tR (bO (cX aN 0 r0 r0 jI r0 (.tmp (.tmp .nil))) r0 ?_)))))))))))))))))))))))))))))
  have e1:fA bs=(([],[]),0,false):=by exact KR (.inl ‹_›)
  rw[e1]
  exact⟨rfl,(aN.pk [] r0)⟩
 have h3:=dY h1
 refine qh r0 (mv (v:=.slice Abs bs.length cbs) r0) (qh r0 (dK aV r0) (qh r0 (lss r0 r0) (qt r0 (pf (v:=.bool (decide ((bs.length:Int)<5))) r0 r0) (tm (.bool (decide ((bs.length:Int)<5))) r0 (fF 16 r0 (fun h4=>?_) (fun h4=>?_))))))
 ·refine aT r0 (aT r0 (aT r0 (aT r0 (qt r0 (pt (v:=.bool true) r0 r0) (tm (.bool true) r0 (aT r0 (aT r0 (aT r0 (aT r0 (aT r0 (aT r0 (aT r0 (qt r0 (pt (v:=.bool true) r0 r0) (nn (fX r0 (sr (qt r0 (bQ (v:=.agg #[aA [],aA []]) [] r0) (sG lB aI 0 r0 jI (fun w4 aR=>tA (I 0) r0 (tA (.bool false) r0 (nn (rt (tR (bO (cX aR 0 r0 r0 jI r0 (.tmp (.tmp .nil))) r0 ?_))))))))))))))))))))))))
  have e2:fA bs=(([],[]),0,false):=by exact KR (.inr (.inl (by omega)))
  rw[e2]
  exact⟨rfl,(aR.pk [] r0)⟩
 refine qh r0 (mv (v:=.slice Abs bs.length cbs) r0) (gN 0 aV r0 r0 hbs (by omega) (eQ I 0 (by omega)) ⟨_,rfl,rfl⟩ r0 (fun a1 eL=>qh r0 (eW aI eL (fun _ h=>h) r0 r0 cN) (qh r0 (nK r0 r0) (qt r0 (pf (v:=.bool (decide ((bs.getD 0 0)≠1))) r0 r0) (tm (.bool (decide ((bs.getD 0 0)≠1))) r0 (fF 22 r0 (fun h5=>?_) (fun h5=>?_)))))))
 ·refine aT r0 (aT r0 (aT r0 (aT r0 (aT r0 (aT r0 (aT r0 (qt r0 (pt (v:=.bool true) r0 r0) (nn (fX r0 (sr (qt r0 (bQ (v:=.agg #[aA [],aA []]) [] r0) (sG lB aI 0 r0 jI (fun w5 aZ=>tA (I 0) r0 (tA (.bool false) r0 (nn (rt (tR (bO (cX aZ 0 r0 r0 jI r0 (.tmp (.tmp .nil))) r0 ?_))))))))))))))))))
  have e3:fA bs=(([],[]),0,false):=by exact KR (.inr (.inr (.inl ‹_›)))
  rw[e3]
  exact⟨rfl,(aZ.pk [] r0)⟩
 refine qh r0 (mv (v:=.slice Abs bs.length cbs) r0) (gN 1 aV r0 r0 hbs (by omega) (eQ I 0 (by omega)) ⟨_,rfl,rfl⟩ r0 (fun a2 jG=>qh r0 (eW aI jG (fun _ h=>h) r0 r0 cN) (qh r0 (mv (v:=.slice Abs bs.length cbs) r0) (qh r0 (dK aV r0) (qh r0 (sub r0 r0 (by(exact⟨by omega,by omega⟩))) (qh r0 (gtr r0 r0) (qt r0 (pf (v:=.bool (decide (((bs.length:Int)-3)<(bs.getD 1 0)))) r0 r0) (nn (bI r0 (fun h6=>?_) (fun h6=>?_))))))))))
 ·refine sr (qt r0 (bQ (v:=.agg #[aA [],aA []]) [] r0) (sG lB aI 0 r0 jI (fun w6 bG=>tA (I 0) r0 (tA (.bool false) r0 (nn (rt (tR (bO (cX bG 0 r0 r0 jI r0 (.tmp (.tmp .nil))) r0 ?_))))))))
  have e4:fA bs=(([],[]),0,false):=by exact KR (.inr (.inr (.inr (.inl (by omega)))))
  rw[e4]
  exact⟨rfl,(bG.pk [] r0)⟩
 refine sk (nN (sr (tm (cD Abs bs cbs) r0 (gN 1 aV r0 r0 hbs (by omega) (eQ I 0 (by omega)) aH r0 (fun a3 nV=>qt r0 (eW aI nV (fun _ h=>h) r0 r0 cN) (qt r0 (add r0 r0 (by(((have vY:=jT (by assumption:bJ bs=true) (k:=1) (by omega); have q9:=jT (by assumption:bJ bs=true) (k:=2+(bs.getD 1 0).toNat) (by omega); have hbl:=hZ (by assumption:bJ bs=true))); exact⟨by omega,by omega⟩))) (tA (I (2+(bs.getD 1 0))) r0 ?_)))))))
 have e5:2+(bs.getD 1 0)=((2+(bs.getD 1 0).toNat:Nat):Int):=by have vY:=jT (by assumption:bJ bs=true) (k:=1) (by omega); omega
 refine re 5 (v:=I ((2+(bs.getD 1 0).toNat:Nat):Int)) (aS (Value.int .i64) e5) (nn (sq (sr (tm (cD Abs bs cbs) r0 (tm (I ((2+(bs.getD 1 0).toNat:Nat):Int)) r0 (gN (2+(bs.getD 1 0).toNat) aV r0 r0 hbs (by omega) (eQ I 0 (by omega)) aH r0 (fun a4 xW=>qt r0 (eW aI xW (fun _ h=>h) r0 r0 cN) (tm (cD Abs bs cbs) r0 (qt r0 (dK aV r0) (tm (I ((2+(bs.getD 1 0).toNat:Nat):Int)) r0 (qt r0 (sub r0 r0 (by(exact⟨by omega,by omega⟩))) (qt r0 (sub r0 r0 (by(exact⟨by omega,by omega⟩))) (qt r0 (gtr r0 r0) (nl (nN (bI r0 (fun h7=>?_) (fun h7=>?_)))))))))))))))))
 ·refine sr (qt r0 (bQ (v:=.agg #[aA [],aA []]) [] r0) (sG lB aI 0 r0 jI (fun w7 bU=>tA (I 0) r0 (tA (.bool false) r0 (nn (rt (tR (bO (cX bU 0 r0 r0 jI r0 (.tmp (.tmp .nil))) r0 ?_))))))))
  have e6:fA bs=(([],[]),0,false):=by exact KR (.inr (.inr (.inr (.inr (by omega)))))
  rw[e6]
  exact⟨rfl,(bU.pk [] r0)⟩
 refine sk (nN (sr (tm (I ((2+(bs.getD 1 0).toNat:Nat):Int)) r0 (qt r0 (add r0 r0 (by(exact⟨by omega,by omega⟩))) (tm (cD Abs bs cbs) r0 (tm (I ((2+(bs.getD 1 0).toNat:Nat):Int)) r0 (gN (2+(bs.getD 1 0).toNat) aV r0 r0 hbs (by omega) (eQ I 0 (by omega)) aH r0 (fun a5 E3=>qt r0 (eW aI E3 (fun _ h=>h) r0 r0 cN) (qt r0 (add r0 r0 (by(((have vY:=jT (by assumption:bJ bs=true) (k:=1) (by omega); have q9:=jT (by assumption:bJ bs=true) (k:=2+(bs.getD 1 0).toNat) (by omega); have hbl:=hZ (by assumption:bJ bs=true))); exact⟨by omega,by omega⟩))) (tA (I ((((2+(bs.getD 1 0).toNat:Nat):Int)+1)+(bs.getD (2+(bs.getD 1 0).toNat) 0))) r0 ?_))))))))))
 have e7:(((2+(bs.getD 1 0).toNat:Nat):Int)+1)+(bs.getD (2+(bs.getD 1 0).toNat) 0)=((2+(bs.getD 1 0).toNat+1+(bs.getD (2+(bs.getD 1 0).toNat) 0).toNat:Nat):Int):=by have vY:=jT (by assumption:bJ bs=true) (k:=1) (by omega); have q9:=jT (by assumption:bJ bs=true) (k:=2+(bs.getD 1 0).toNat) (by omega); have hbl:=hZ (by assumption:bJ bs=true); omega
 refine re 6 (v:=I ((2+(bs.getD 1 0).toNat+1+(bs.getD (2+(bs.getD 1 0).toNat) 0).toNat:Nat):Int)) (aS (Value.int .i64) e7) (nn (sq ?_))
 refine kA (fun w'=>∃ L,SH w w' [] L∧(.blk b1 38 lB)∈L∧True) (fun f w'=>∃ (gC:Nat),Hz f [(2,pB b1),(6,I ((2+(bs.getD 1 0).toNat+1+(bs.getD (2+(bs.getD 1 0).toNat) 0).toNat:Nat):Int)),(7,pB gC)]∧SH w w' [] [.blk b1 38 lB,.blk gC 38 [aA (vT bs),aA (xL bs)]]) mixed ?_ ?_
 ·refine dG 1 13 4095 (fun f w'=>∃ (gC:Nat),Hz f [(2,pB b1),(6,I ((2+(bs.getD 1 0).toNat+1+(bs.getD (2+(bs.getD 1 0).toNat) 0).toNat:Nat):Int)),(7,pB gC),(64,.agg #[aA (vT bs),aA (xL bs)])]∧SH w w' [] [.blk b1 38 lB,.blk gC 38 lB]) ?_ (fun D_7_0=>?_)
  ·rintro f w8 ⟨gC,⟨g1,rfl⟩,bV⟩
   refine aO 12 r0 (sG [aA (vT bs),aA (xL bs)] bV 1 r0 jI (fun w9 b9=>nk (m1 b9 0 r0) (aQ ?_)))
   exact⟨gC,(zR r0),b9⟩
  refine dG 2 13 2047 (fun f w'=>Hz f [(2,pB b1),(6,I ((2+(bs.getD 1 0).toNat+1+(bs.getD (2+(bs.getD 1 0).toNat) 0).toNat:Nat):Int)),(64,.agg #[aA (vT bs),aA (xL bs)])]∧SH w w' [] [.blk b1 38 lB]) ?_ (fun D_7_1=>?_)
  ·rintro f kF ⟨⟨g2,rfl⟩,cM⟩
   exact aO 11 r0 (al (cs:=lB) cM B3 r0 aH r0 (fun gC kB cW=>nk (m1 cW 0 r0) (bS D_7_0 ⟨gC,(zR r0),cW⟩)))
  refine dG 3 13 2559 (fun f w'=>∃ (gC:Nat),Hz f [(2,pB b1),(6,I ((2+(bs.getD 1 0).toNat+1+(bs.getD (2+(bs.getD 1 0).toNat) 0).toNat:Nat):Int)),(7,pB gC),(57,aA (vT bs)),(62,.slice (if cbs=(2+(bs.getD 1 0).toNat)+1 then Abs else Abs.map (·.add (((2+(bs.getD 1 0).toNat)+1)*1))) (((bs.take (2+(bs.getD 1 0).toNat+1+(bs.getD (2+(bs.getD 1 0).toNat) 0).toNat)).drop ((2+(bs.getD 1 0).toNat)+1)).length) (cbs-((2+(bs.getD 1 0).toNat)+1)))]∧SH w w' [] [.blk b1 38 lB,.blk gC 38 lB]) ?_ (fun D_7_2=>?_)
  ·rintro f kI ⟨gC,⟨g3,rfl⟩,dB⟩
   exact aO 9 r0 (cS dB r0 (yF _ _ (Sl.lZ (hbs.aP dB) (by omega) (by omega)) (by intro x hx; exact(sZ.1 (by assumption:bJ bs=true)).1 x (vP (uW hx))) (by have hbl:=hZ (by assumption:bJ bs=true); simp only[fC,dV]; omega)) (fun lU cY=>nk (m1 cY 0 r0) (tQ (fuel:=1) (is:=[10]) (.cons r0 (.nil)) (m1 cY 0 r0) (yA r0 (bQ (v:=.agg #[aA (vT bs),aA (xL bs)]) [(0,aA (vT bs)),(1,aA (xL bs))] r0) (.nil (bS D_7_0 ⟨gC,(zR r0),cY⟩))))))
  refine dG 4 13 511 (fun f w'=>Hz f [(2,pB b1),(6,I ((2+(bs.getD 1 0).toNat+1+(bs.getD (2+(bs.getD 1 0).toNat) 0).toNat:Nat):Int)),(57,aA (vT bs)),(62,.slice (if cbs=(2+(bs.getD 1 0).toNat)+1 then Abs else Abs.map (·.add (((2+(bs.getD 1 0).toNat)+1)*1))) (((bs.take (2+(bs.getD 1 0).toNat+1+(bs.getD (2+(bs.getD 1 0).toNat) 0).toNat)).drop ((2+(bs.getD 1 0).toNat)+1)).length) (cbs-((2+(bs.getD 1 0).toNat)+1)))]∧SH w w' [] [.blk b1 38 lB]) ?_ (fun D_7_3=>?_)
  ·rintro f mH ⟨⟨g4,rfl⟩,dJ⟩
   refine jN [9,11] (eX ?_ (jP ?_))
   ·exact eI r0 (cS dJ r0 (yF _ _ (Sl.lZ (hbs.aP dJ) (by omega) (by omega)) (by intro x hx; exact(sZ.1 (by assumption:bJ bs=true)).1 x (vP (uW hx))) (by have hbl:=hZ (by assumption:bJ bs=true); simp only[fC,dV]; omega)) (fun mI dM=>nk (m1 dM 0 r0) (tQ (fuel:=2) (is:=[10]) (.cons r0 (.nil)) (m1 dM 0 r0) (yA r0 (bQ (v:=.agg #[aA (vT bs),aA (xL bs)]) [(0,aA (vT bs)),(1,aA (xL bs))] r0) (.nil (bS D_7_1 ⟨(zR r0),dM⟩))))))
   exact eI r0 (al (cs:=lB) dJ B3 r0 aH r0 (fun gC mU eO=>nk (m1 eO 0 r0) (bS D_7_2 ⟨gC,(zR r0),eO⟩)))
  refine dG 4 13 2551 (fun f w'=>∃ (gC:Nat),Hz f [(2,pB b1),(6,I ((2+(bs.getD 1 0).toNat+1+(bs.getD (2+(bs.getD 1 0).toNat) 0).toNat:Nat):Int)),(7,pB gC),(56,.slice (if cbs=2 then Abs else Abs.map (·.add (2*1))) (((bs.take (2+(bs.getD 1 0).toNat)).drop 2).length) (cbs-2)),(62,.slice (if cbs=(2+(bs.getD 1 0).toNat)+1 then Abs else Abs.map (·.add (((2+(bs.getD 1 0).toNat)+1)*1))) (((bs.take (2+(bs.getD 1 0).toNat+1+(bs.getD (2+(bs.getD 1 0).toNat) 0).toNat)).drop ((2+(bs.getD 1 0).toNat)+1)).length) (cbs-((2+(bs.getD 1 0).toNat)+1)))]∧SH w w' [] [.blk b1 38 lB,.blk gC 38 lB]) ?_ (fun D_7_4=>?_)
  ·rintro f n6 ⟨gC,⟨g5,rfl⟩,eK⟩
   exact aO 3 r0 (cS eK r0 (yF _ _ (Sl.lZ (hbs.aP eK) (by omega) (by omega)) (by intro x hx; exact(sZ.1 (by assumption:bJ bs=true)).1 x (vP (uW hx))) (by have hbl:=hZ (by assumption:bJ bs=true); simp only[fC,dV]; omega)) (fun m9 eZ=>nk (m1 eZ 0 r0) (bS D_7_2 ⟨gC,(zR r0),eZ⟩)))
  refine dG 5 13 503 (fun f w'=>Hz f [(2,pB b1),(6,I ((2+(bs.getD 1 0).toNat+1+(bs.getD (2+(bs.getD 1 0).toNat) 0).toNat:Nat):Int)),(56,.slice (if cbs=2 then Abs else Abs.map (·.add (2*1))) (((bs.take (2+(bs.getD 1 0).toNat)).drop 2).length) (cbs-2)),(62,.slice (if cbs=(2+(bs.getD 1 0).toNat)+1 then Abs else Abs.map (·.add (((2+(bs.getD 1 0).toNat)+1)*1))) (((bs.take (2+(bs.getD 1 0).toNat+1+(bs.getD (2+(bs.getD 1 0).toNat) 0).toNat)).drop ((2+(bs.getD 1 0).toNat)+1)).length) (cbs-((2+(bs.getD 1 0).toNat)+1)))]∧SH w w' [] [.blk b1 38 lB]) ?_ (fun D_7_5=>?_)
  ·rintro f qQ ⟨⟨g6,rfl⟩,fV⟩
   refine jN [3,11] (eX ?_ (jP ?_))
   ·exact eI r0 (cS fV r0 (yF _ _ (Sl.lZ (hbs.aP fV) (by omega) (by omega)) (by intro x hx; exact(sZ.1 (by assumption:bJ bs=true)).1 x (vP (uW hx))) (by have hbl:=hZ (by assumption:bJ bs=true); simp only[fC,dV]; omega)) (fun rJ fD=>nk (m1 fD 0 r0) (bS D_7_3 ⟨(zR r0),fD⟩)))
   exact eI r0 (al (cs:=lB) fV B3 r0 aH r0 (fun gC tL gK=>nk (m1 gK 0 r0) (bS D_7_4 ⟨gC,(zR r0),gK⟩)))
  have hU:=aI.drew
  exact tQ (fuel:=5) (is:=[0,1,2,4,5,6,7,8]) (.cons r0 (.cons r0 (.cons r0 (.cons r0 (.cons r0 (.cons r0 (.cons r0 (.cons r0 (.nil))))))))) (m1 hU 0 r0) (yA r0 (mv (v:=.slice Abs bs.length cbs) r0) (yA r0 (mv (v:=I ((2+(bs.getD 1 0).toNat:Nat):Int)) r0) (yA r0 (pK (zs:=bs) 2 (2+(bs.getD 1 0).toNat) aV r0 r0 r0 (by omega) (by omega) hbs.cap) (yA r0 (mv (v:=.slice Abs bs.length cbs) r0) (yA r0 (mv (v:=I ((2+(bs.getD 1 0).toNat:Nat):Int)) r0) (yA r0 (add r0 r0 (by(exact⟨by omega,by omega⟩))) (yA r0 (mv (v:=I ((2+(bs.getD 1 0).toNat+1+(bs.getD (2+(bs.getD 1 0).toNat) 0).toNat:Nat):Int)) r0) (yA r0 (pK (zs:=bs) ((2+(bs.getD 1 0).toNat)+1) (2+(bs.getD 1 0).toNat+1+(bs.getD (2+(bs.getD 1 0).toNat) 0).toNat) aV r0 r0 r0 (by omega) (by omega) hbs.cap) (.nil (bS D_7_5 ⟨(zR r0),hU⟩))))))))))
 rintro f sC ⟨gC,⟨g7,rfl⟩,iN⟩
 refine nN (sq (sr (qt r0 (lG [aA (vT bs),aA (xL bs)] iN 1 r0 jI) (cS iN r0 (O9 _ _ _ (by have hbl:=hZ (by assumption:bJ bs=true); simp only[oQ,fC,dV]; omega) (by have hbl:=hZ (by assumption:bJ bs=true); simp only[oQ,fC,dV]; omega)) (fun vK iB=>qt r0 (nt r0) (nn (cd r0 (fun h8=>?_) (fun h8=>?_))))))))
 ·have h9:=dX h8
  refine sr (qt r0 (bQ (v:=.agg #[aA [],aA []]) [] r0) (sG lB iB 0 r0 jI (fun xC iE=>tA (I 0) r0 (tA (.bool false) r0 (nn (rt (tR (bO (cX iE 1 r0 r0 jI r0 (.tmp (.tmp .nil))) r0 ?_))))))))
  have e8:fA bs=(([],[]),0,false):=by(rw[X8 ‹_› (by omega) (Decidable.not_not.1 ‹_›) (by omega) r0 r0 (by omega) r0 r0]; exact b0 (SS ‹_›))
  rw[e8]
  exact⟨rfl,(iE.pk [] r0)⟩
 have mR:=dY h8
 refine sk (nN (sr (qt r0 (lG [aA (vT bs),aA (xL bs)] iB 1 r0 jI) (tm (I ((2+(bs.getD 1 0).toNat+1+(bs.getD (2+(bs.getD 1 0).toNat) 0).toNat:Nat):Int)) r0 (sG [aA (vT bs),aA (xL bs)] iB 0 r0 jI (fun vL jB=>tA (I ((2+(bs.getD 1 0).toNat+1+(bs.getD (2+(bs.getD 1 0).toNat) 0).toNat:Nat):Int)) r0 (tA (.bool true) r0 (nn (rt (bO (cX jB 1 r0 r0 jI r0 (.tmp (.tmp .nil))) r0 ?_))))))))))
 have e9:fA bs=((bT ((bs.take (2+(bs.getD 1 0).toNat)).drop 2),bT ((bs.take (2+(bs.getD 1 0).toNat+1+(bs.getD (2+(bs.getD 1 0).toNat) 0).toNat)).drop ((2+(bs.getD 1 0).toNat)+1))),((2+(bs.getD 1 0).toNat+1+(bs.getD (2+(bs.getD 1 0).toNat) 0).toNat:Nat):Int),true):=by(rw[X8 ‹_› (by omega) (Decidable.not_not.1 ‹_›) (by omega) r0 r0 (by omega) r0 r0]; exact cF ‹_›)
 rw[e9]
 exact⟨rfl,(jB.pk [] r0)⟩
theorem Vm {Azs:aM} {czs:Nat} (zs:List (aD×aD)) (lu:aD) (lw:aD) (w:World) (hzs:Sl w [] 2 Azs zs.length czs (zs.flatMap eH)) (H2: ∀ u∈zs,u.1.length≤9223372036854775807∧u.2.length≤9223372036854775807):bF prog 247 [.slice Azs zs.length czs,.agg #[aA lu,aA lw]] w (fun v w'=>v=.int .i64 (m5 (fun x=>decide (x=(lu,lw))) zs)∧SH w w' [] []):=by
 refine fQ 19 func247 r0 r0 ?_
 have aK:=SH.refl w []
 have sY:zs.length≤9223372036854775807:=cB hzs.cap hzs.cO
 refine sr (bx (v:=.agg #[aA lu,aA lw]) (cs:=[aA lu,aA lw]) aK r0 r0 aH r0 (fun b1 w1 aE=>tA (I 0) r0 (nn (sq (sr (tm (oN Azs zs czs) r0 (qt r0 (dK pP r0) (tm (I 0) r0 (nn (bl (lp (σ:=Nat) (fun(k:Nat) f w'=>Hz f [(0,.slice Azs zs.length czs),(3,pB b1),(7,I (zs.length:Int)),(8,I (k:Int))]∧(k≤zs.length)∧(∀ j,j<k→ ¬ zs.getD j lS=(lu,lw))∧SH w w' [] [(oM b1 lu lw)]) (fun k=>zs.length-k) 0 ⟨(zR r0),(by simp),(by intro j hj; omega),aE⟩ ?_)))))))))))
 rintro k f w2 ⟨⟨g1,rfl⟩,hk,hn,aI⟩
 refine sr (qt r0 (lss r0 r0) (nn (sq (bI r0 (fun h1=>?_) (fun h1=>?_)))))
 ·refine sk (nN (sq (bl (sr (tm (I (k:Int)) r0 (tA (I (k:Int)) r0 (nn (sq (rq (fun w'=>SH w w' [] [(oM b1 lu lw)]) mixed (by kernel_rfl) aI.drew (qB r0 (fun aU=>lG [aA lu,aA lw] aU 0 r0 jI) (qA r0 (mv (v:=.slice Azs zs.length czs) r0) (qA r0 (mv (v:=I (k:Int)) r0) (XQ (g:=eH) (zs:=zs) (fun _=>rfl) lS k pP r0 r0 hzs (by omega) (by omega) aH r0 (fun a1 eL=>qB r0 (fun aU=>KN (us:=[aA ((zs.getD k lS).1),aA ((zs.getD k lS).2)]) aU eL (fun _ h=>h) r0 r0 jI) (qA r0 (VQ (a:=lu) (b:=lw) (c:=(zs.getD k lS).1) (e:=(zs.getD k lS).2) An r0 r0) (qn (fun w3 aN=>nN (bI r0 (fun h2=>?_) (fun h2=>?_)))))))))))))))))))
  ·exact sr (tm (I (k:Int)) r0 (tA (I (k:Int)) r0 (nn (rt (bR (tR (tR (bR (tR (fI r0 (NY (d:=lS) (by omega) (fun j hj=>decide_eq_false (hn j hj)) (decide_eq_true (ZF ⟨h2.1.symm,h2.2.symm⟩))) (aN.pk [] r0)))))))))))
  refine sk (bN (nN (rg (qt r0 (add r0 r0 (by exact⟨by omega,by omega⟩)) (tm (I ((k:Int)+1)) r0 (nn ?_))))))
  refine⟨(k+1),⟨(zR r0),(by omega),(by intro j hj; rcases Nat.lt_succ_iff_lt_or_eq.1 hj with h | h; exact hn j h; subst h; intro he; refine absurd ?_ (by assumption: ¬ (_∧_)); rw[he]; exact⟨rfl,rfl⟩),aN⟩,?_⟩
  omega
 refine ex (tE (tE (bE (nN (sr (tA (I (-1)) r0 (nn (rt (fT (I (-1)) r0 ?_)))))))))
 have e2:(-1)=m5 (fun x=>decide (x=(lu,lw))) zs:=by exact NZ (d:=lS) (fun j hj=>decide_eq_false (hn j (by omega)))
 exact⟨(aS (Value.int .i64) e2),(aI.pk [] r0)⟩
theorem Vc {Azs:aM} {czs:Nat} (zs:List (aD×aD)) (lu:aD) (lw:aD) (w:World) (hzs:Sl w [] 2 Azs zs.length czs (zs.flatMap eH)) (H2: ∀ u∈zs,u.1.length≤9223372036854775807∧u.2.length≤9223372036854775807):bF prog 225 [.slice Azs zs.length czs,.agg #[aA lu,aA lw]] w (fun v w'=>v=.bool (decide ((lu,lw)∈zs))∧SH w w' [] []):=by
 refine fQ 9 func225 r0 r0 ?_
 have aK:=SH.refl w []
 have sY:zs.length≤9223372036854775807:=cB hzs.cap hzs.cO
 refine sr (bx (v:=.agg #[aA lu,aA lw]) (cs:=[aA lu,aA lw]) aK r0 r0 aH r0 (fun b1 w1 aE=>tA (.bool false) r0 (nx (tm (oN Azs zs czs) r0 (qt r0 (lG [aA lu,aA lw] aE 0 r0 jI) (cS aE r0 (Vm _ _ _ _ (hzs.aP aE) H2) (fun w2 aI=>qt r0 (geq r0 r0) (tA (.bool (decide ((0:Int)≤(m5 (fun x=>decide (x=(lu,lw))) zs)))) r0 (nn (rt (fT (.bool (decide ((0:Int)≤(m5 (fun x=>decide (x=(lu,lw))) zs)))) r0 ?_)))))))))))
 have e1:(decide ((0:Int)≤(m5 (fun x=>decide (x=(lu,lw))) zs)))=(decide ((lu,lw)∈zs)):=by rw[NX,wJ]; simp
 exact⟨(aS (Value.bool) e1),(aI.pk [] r0)⟩
theorem Lt {Alg:aM} {clg:Nat} (lg:List (aD×aD)) (lu:aD) (lw:aD) (w:World) (hlg:Sl w [] 2 Alg lg.length clg (lg.flatMap eH)) (jS: ∀ u∈lg,u.1.length≤9223372036854775807∧u.2.length≤9223372036854775807) (HV:lu.length≤9223372036854775807) (HW:lw.length≤9223372036854775807):bF prog 179 [.slice Alg lg.length clg,.agg #[aA lu,aA lw]] w (fun v w'=>v=.bool (o6 lg lu lw)∧SH w w' [] []):=by
 refine fQ 12 func179 r0 r0 ?_
 have aK:=SH.refl w []
 have rA:lg.length≤9223372036854775807:=cB hlg.cap hlg.cO
 refine sr (bx (v:=.agg #[aA lu,aA lw]) (cs:=[aA lu,aA lw]) aK r0 r0 aH r0 (fun b1 w1 aE=>tA (.bool false) r0 (nx (qt r0 (lG [aA lu,aA lw] aE 0 r0 jI) (cS aE r0 (NU _ _ _ (by omega) (by omega)) (fun w2 aI=>tm (.bool (iW lu lw)) r0 (hP 7 r0 (fun h1=>?_) (fun h1=>?_))))))))
 ·refine qh r0 (mv (v:=.slice Alg lg.length clg) r0) (qh r0 (lG [aA lu,aA lw] aI 0 r0 jI) (cl ⟨_,rfl,rfl⟩ r0 (Vc _ _ _ _ (hlg.aP aI) jS) ?_))
  rintro _ w3 ⟨rfl,aN⟩
  replace aN:=aI.cJ aN
  refine qt r0 (pt (v:=.bool (decide ((lu,lw)∈lg))) r0 r0) (tA (.bool (decide ((lu,lw)∈lg))) r0 (nn (rt (fT (.bool (decide ((lu,lw)∈lg))) r0 ?_))))
  have e1:(decide ((lu,lw)∈lg))=o6 lg lu lw:=by simp[o6,h1]
  exact⟨(aS (Value.bool) e1),(aN.pk [] r0)⟩
 exact bA r0 (bA r0 (bA r0 (qt r0 (pf (v:=.bool false) r0 r0) (tA (.bool false) r0 (nn (rt (fB r0 (by simp[o6,h1]) (aI.pk [] r0))))))))
theorem Tn {Alg:aM} {clg:Nat} (lg:List (aD×aD)) (lu:aD) (lw:aD) (w:World) (hlg:Sl w [] 2 Alg lg.length clg (lg.flatMap eH)) (jS: ∀ u∈lg,u.1.length≤9223372036854775807∧u.2.length≤9223372036854775807) (HV:lu.length≤9223372036854775807) (HW:lw.length≤9223372036854775807):bF prog 200 [.slice Alg lg.length clg,.agg #[aA lu,aA lw]] w (fun v w'=>v=.bool (o6 lg lu lw)∧SH w w' [] []):=by
 refine fQ 22 func200 r0 r0 ?_
 have aK:=SH.refl w []
 have rA:lg.length≤9223372036854775807:=cB hlg.cap hlg.cO
 refine sr (bx (v:=.agg #[aA lu,aA lw]) (cs:=[aA lu,aA lw]) aK r0 r0 aH r0 (fun b1 w1 aE=>tA (.bool false) r0 (nn (sq (sr (tA (I 0) r0 (nl (nN (bl (lp (σ:=Nat) (fun(k:Nat) f w'=>Hz f [(0,.slice Alg lg.length clg),(3,pB b1),(5,I (k:Int))]∧(k≤lg.length)∧(∀ j,j<k→ ¬ lg.getD j lS=(lu,lw))∧SH w w' [] [(oM b1 lu lw)]) (fun k=>lg.length-k) 0 ⟨(zR r0),(by simp),(by intro j hj; omega),aE⟩ ?_))))))))))
 rintro k f w2 ⟨⟨g1,rfl⟩,hk,hn,aI⟩
 refine sq (sr (tm (I (k:Int)) r0 (tm (oN Alg lg clg) r0 (qt r0 (dK pP r0) (qt r0 (lss r0 r0) (tm (.bool (decide ((k:Int)<(lg.length:Int)))) r0 (fF 10 r0 (fun h1=>?_) (fun h1=>?_))))))))
 ·refine qh r0 (lG [aA lu,aA lw] aI 0 r0 jI) (cl ⟨_,rfl,rfl⟩ r0 (O9 _ _ _ (by omega) (by omega)) ?_)
  rintro _ w3 ⟨rfl,aN⟩
  replace aN:=aI.cJ aN
  refine qt r0 (pt (v:=.bool (iW lu lw)) r0 r0) (nn (cd r0 (fun h2=>?_) (fun h2=>?_)))
  ·refine sk (nN (sq (bl (sq (rq (fun w'=>SH w w' [] [(oM b1 lu lw)]) mixed (by kernel_rfl) aN.drew (qA r0 (mv (v:=.slice Alg lg.length clg) r0) (qA r0 (mv (v:=I (k:Int)) r0) (XQ (g:=eH) (zs:=lg) (fun _=>rfl) lS k pP r0 r0 hlg (by omega) (by omega) aH r0 (fun a1 eL=>qB r0 (fun aU=>KN (us:=[aA ((lg.getD k lS).1),aA ((lg.getD k lS).2)]) aU eL (fun _ h=>h) r0 r0 jI) (qB r0 (fun aU=>lG [aA lu,aA lw] aU 0 r0 jI) (qA r0 (VQ (a:=(lg.getD k lS).1) (b:=(lg.getD k lS).2) (c:=lu) (e:=lw) An r0 r0) (qn (fun w4 aR=>nN (bI r0 (fun h3=>?_) (fun h3=>?_)))))))))))))))
   ·exact sr (tA (.bool true) r0 (nn (rt (bR (tR (tR (bR (tR (fB r0 (Jc (k:=k) (by omega) (ZF ‹_›) ‹_›) (aR.pk [] r0))))))))))
   refine sk (bN (nN (rg (tm (I (k:Int)) r0 (qt r0 (add r0 r0 (by exact⟨by omega,by omega⟩)) (tA (I ((k:Int)+1)) r0 (nl (nN ?_))))))))
   refine⟨(k+1),⟨(zR r0),(by omega),(by intro j hj; rcases Nat.lt_succ_iff_lt_or_eq.1 hj with h | h; exact hn j h; subst h; intro he; refine absurd ?_ (by assumption: ¬ (_∧_)); rw[he]; exact⟨rfl,rfl⟩),aR⟩,?_⟩
   omega
  refine ex (tE (tE (bE (nN (sr (tA (.bool false) r0 (nn (rt (fT (.bool false) r0 ?_)))))))))
  have e2:false=o6 lg lu lw:=by exact Ja ‹_›
  exact⟨(aS (Value.bool) e2),(aN.pk [] r0)⟩
 refine bA r0 (bA r0 (qt r0 (pf (v:=.bool false) r0 r0) (nn (qV r0 (ex (tE (tE (bE (nN (sr (tA (.bool false) r0 (nn (rt (fT (.bool false) r0 ?_))))))))))))))
 have e3:false=o6 lg lu lw:=by exact Jb (by omega) hn
 exact⟨(aS (Value.bool) e3),(aI.pk [] r0)⟩
theorem Te {Abs:aM} {cbs:Nat} (bs:aC) (w:World) (hbs:Sl w [] 1 Abs bs.length cbs (bs.map I)) (hob:bJ bs=true):bF prog 257 [.slice Abs bs.length cbs] w (fun v w'=>v=.int .i64 (dF bs)∧SH w w' [] []):=by
 refine fQ 25 func257 r0 r0 ?_
 have aK:=SH.refl w []
 have nW:bs.length≤9223372036854775807:=cB hbs.cap hbs.cO
 refine sr (tA (I 0) r0 (nn (sq (sr (tm (cD Abs bs cbs) r0 (qt r0 (dK aV r0) (qt r0 (gtr r0 r0) (tm (.bool (decide ((0:Int)<(bs.length:Int)))) r0 (fF 6 r0 (fun h1=>?_) (fun h1=>?_))))))))))
 ·refine qh r0 (mv (v:=.slice Abs bs.length cbs) r0) (gN 0 aV r0 r0 hbs (by omega) (eQ I 0 (by omega)) ⟨_,rfl,rfl⟩ r0 (fun a1 eL=>qh r0 (eW aK eL (fun _ h=>h) r0 r0 cN) (qh r0 (dO r0 r0) (qt r0 (pt (v:=.bool (decide ((bs.getD 0 0)=1))) r0 r0) (nn (bI r0 (fun h2=>?_) (fun h2=>?_)))))))
  ·exact sr (tA (I 7) r0 (nn (rt (tR (fI r0 (by(unfold dF; rw[cF (by exact⟨by omega,by omega⟩)]; done)) aK)))))
  refine sk (nN (sq (sr (tm (cD Abs bs cbs) r0 (qt r0 (dK aV r0) (qt r0 (gtr r0 r0) (tm (.bool (decide ((1:Int)<(bs.length:Int)))) r0 (fF 15 r0 (fun h3=>?_) (fun h3=>?_)))))))))
  ·refine qh r0 (mv (v:=.slice Abs bs.length cbs) r0) (gN 0 aV r0 r0 hbs (by omega) (eQ I 0 (by omega)) ⟨_,rfl,rfl⟩ r0 (fun a2 jG=>qh r0 (eW aK jG (fun _ h=>h) r0 r0 cN) (qh r0 (dO r0 r0) (qt r0 (pt (v:=.bool (decide ((bs.getD 0 0)=3))) r0 r0) (nn (bI r0 (fun h4=>?_) (fun h4=>?_)))))))
   ·exact sr (tm (cD Abs bs cbs) r0 (gN 1 aV r0 r0 hbs (by omega) (eQ I 0 (by omega)) aH r0 (fun a3 nV=>qt r0 (eW aK nV (fun _ h=>h) r0 r0 cN) (qt r0 (add r0 r0 (by(have vY:=jT hob (k:=1) (by omega); exact⟨by omega,by omega⟩))) (tA (I (4+(bs.getD 1 0))) r0 (nn (rt (tR (fI r0 (by(unfold dF; rw[b0 (by omega),cF (by exact⟨by omega,by omega⟩)]; done)) aK)))))))))
   exact sk (nN (sr (tA (I (-1)) r0 (nn (rt (fI r0 (by(unfold dF; rw[b0 (by omega),b0 (by omega)])) aK))))))
  exact bA r0 (bA r0 (bA r0 (bA r0 (qt r0 (pf (v:=.bool false) r0 r0) (nn (qV r0 (sk (nN (sr (tA (I (-1)) r0 (nn (rt (fI r0 (by(unfold dF; rw[b0 (by omega),b0 (by omega)])) aK)))))))))))))
 refine bA r0 (bA r0 (bA r0 (bA r0 (qt r0 (pf (v:=.bool false) r0 r0) (nn (qV r0 (sk (nN (sq (sr (tm (cD Abs bs cbs) r0 (qt r0 (dK aV r0) (qt r0 (gtr r0 r0) (tm (.bool (decide ((1:Int)<(bs.length:Int)))) r0 (fF 15 r0 (fun h5=>?_) (fun h5=>?_))))))))))))))))
 ·refine qh r0 (mv (v:=.slice Abs bs.length cbs) r0) (gN 0 aV r0 r0 hbs (by omega) (eQ I 0 (by omega)) ⟨_,rfl,rfl⟩ r0 (fun a4 xW=>qh r0 (eW aK xW (fun _ h=>h) r0 r0 cN) (qh r0 (dO r0 r0) (qt r0 (pt (v:=.bool (decide ((bs.getD 0 0)=3))) r0 r0) (nn (bI r0 (fun h6=>?_) (fun h6=>?_)))))))
  ·exact sr (tm (cD Abs bs cbs) r0 (gN 1 aV r0 r0 hbs (by omega) (eQ I 0 (by omega)) aH r0 (fun a5 E3=>qt r0 (eW aK E3 (fun _ h=>h) r0 r0 cN) (qt r0 (add r0 r0 (by(exact⟨by omega,by omega⟩))) (tA (I (4+(bs.getD 1 0))) r0 (nn (rt (tR (fI r0 (by(unfold dF; rw[b0 (by omega),cF (by exact⟨by omega,by omega⟩)]; done)) aK)))))))))
  exact sk (nN (sr (tA (I (-1)) r0 (nn (rt (fI r0 (by(unfold dF; rw[b0 (by omega),b0 (by omega)])) aK))))))
 exact bA r0 (bA r0 (bA r0 (bA r0 (qt r0 (pf (v:=.bool false) r0 r0) (nn (qV r0 (sk (nN (sr (tA (I (-1)) r0 (nn (rt (fI r0 (by(unfold dF; rw[b0 (by omega),b0 (by omega)])) aK)))))))))))))
theorem So {Abs:aM} {cbs:Nat} (bs:aC) (w:World) (hbs:Sl w [] 1 Abs bs.length cbs (bs.map I)) (hob:bJ bs=true):bF prog 249 [.slice Abs bs.length cbs] w (fun v w'=>∃ Aqr:aM,∃ cqr:Nat,v=.tuple #[.agg #[.int .i64 ((fO bs).1.1),.slice Aqr ((fO bs).1.2.1).length cqr,aA ((fO bs).1.2.2.1),.int .i64 ((fO bs).1.2.2.2)],.int .i64 ((fO bs).2.1),.bool ((fO bs).2.2)]∧SH w w' [] [.own Aqr (((fO bs).1.2.1).length) cqr 3 1 (((fO bs).1.2.1).map I)]):=by
 refine fQ 56 func249 r0 r0 ?_
 have aK:=SH.refl w []
 have nW:bs.length≤9223372036854775807:=cB hbs.cap hbs.cO
 refine sr (al (cs:=eA) aK kZ r0 aH r0 (fun b1 w1 aE=>tA (I 0) r0 (tA (.bool false) r0 (nx (tm (cD Abs bs cbs) r0 (cS aE r0 (Te _ _ (hbs.aP aE) (by omega)) (fun w2 aI=>tA (I (dF bs)) r0 (nn (sq (sr (tm (cD Abs bs cbs) r0 (cS aI r0 (wU _ _ (hbs.aP aI)) (fun w3 aN=>qt r0 (nt r0) (tm (xK bs) r0 (hP 12 r0 (fun h1=>?_) (fun h1=>?_))))))))))))))))
 ·have h2:=dX h1
  refine aT r0 (aT r0 (qt r0 (pt (v:=.bool true) r0 r0) (tm (.bool true) r0 (aT r0 (aT r0 (aT r0 (aT r0 (qt r0 (pt (v:=.bool true) r0 r0) (nn (fX r0 (sr (qt r0 (bQ (v:=.agg #[I 0,ns,aA [],I 0]) [] r0) (sG eA aN 0 r0 cG (fun w4 aR=>tA (I 0) r0 (tA (.bool false) r0 (nn (rt (tR (bO (cX aR 0 r0 r0 cG r0 (.tmp (.tmp .nil))) r0 ?_)))))))))))))))))))
  have aZ:=aR.nl [Z0] r0
  have e1:fO bs=((0,([]:aC),[],0),0,false):=by exact QC (.inl ‹_›)
  rw[e1]
  exact⟨none,0,rfl,(aZ.pk [1] r0)⟩
 have h3:=dY h1
 refine qh r0 (mv (v:=I (dF bs)) r0) (qh r0 (lss r0 r0) (qt r0 (pf (v:=.bool (decide ((dF bs)<0))) r0 r0) (tm (.bool (decide ((dF bs)<0))) r0 (fF 16 r0 (fun h4=>?_) (fun h4=>?_)))))
 ·refine aT r0 (aT r0 (aT r0 (aT r0 (qt r0 (pt (v:=.bool true) r0 r0) (nn (fX r0 (sr (qt r0 (bQ (v:=.agg #[I 0,ns,aA [],I 0]) [] r0) (sG eA aN 0 r0 cG (fun w5 bG=>tA (I 0) r0 (tA (.bool false) r0 (nn (rt (tR (bO (cX bG 0 r0 r0 cG r0 (.tmp (.tmp .nil))) r0 ?_)))))))))))))))
  have bU:=bG.nl [Z0] r0
  have e2:fO bs=((0,([]:aC),[],0),0,false):=by exact QC (.inr (.inl ‹_›))
  rw[e2]
  exact⟨none,0,rfl,(bU.pk [1] r0)⟩
 refine qh r0 (mv (v:=I (dF bs)) r0) (qh r0 (mv (v:=.slice Abs bs.length cbs) r0) (qh r0 (dK aV r0) (qh r0 (gtr r0 r0) (qt r0 (pf (v:=.bool (decide ((bs.length:Int)<(dF bs)))) r0 r0) (nn (bI r0 (fun h5=>?_) (fun h5=>?_)))))))
 ·refine sr (qt r0 (bQ (v:=.agg #[I 0,ns,aA [],I 0]) [] r0) (sG eA aN 0 r0 cG (fun w6 bV=>tA (I 0) r0 (tA (.bool false) r0 (nn (rt (tR (bO (cX bV 0 r0 r0 cG r0 (.tmp (.tmp .nil))) r0 ?_))))))))
  have b9:=bV.nl [Z0] r0
  have e3:fO bs=((0,([]:aC),[],0),0,false):=by exact QC (.inr (.inr ‹_›))
  rw[e3]
  exact⟨none,0,rfl,(b9.pk [1] r0)⟩
 refine sk (nN (sq ?_))
 refine kA (fun w'=>∃ L,SH w w' [] L∧(.blk b1 74 eA)∈L∧True) (fun f w'=>∃ (dA gC:Nat),Hz f [(0,.slice Abs bs.length cbs),(2,pB b1),(5,I (dF bs)),(6,pB gC)]∧SH w w' [] [.blk b1 74 eA,.blk gC 74 [I (bs.getD 0 0),(n9 dA),aA [],I (aL (lW bs))],(oZ dA)]) mixed ?_ ?_
 ·refine dG 1 13 4095 (fun f w'=>∃ (dA gC:Nat),Hz f [(0,.slice Abs bs.length cbs),(2,pB b1),(5,I (dF bs)),(6,pB gC),(33,.agg #[I (bs.getD 0 0),(n9 dA),aA [],I (aL (lW bs))])]∧SH w w' [] [.blk b1 74 eA,.blk gC 74 eA,(oZ dA)]) ?_ (fun D_4_0=>?_)
  ·rintro f w7 ⟨dA,gC,⟨g1,rfl⟩,cM⟩
   refine aO 12 r0 (sG [I (bs.getD 0 0),(n9 dA),aA [],I (aL (lW bs))] cM 1 r0 cG (fun w8 cW=>nk (m1 cW 0 r0) (aQ ?_)))
   exact⟨dA,gC,(zR r0),(cW.pk [0,2,1] r0)⟩
  refine dG 2 13 2047 (fun f w'=>∃ (dA:Nat),Hz f [(0,.slice Abs bs.length cbs),(2,pB b1),(5,I (dF bs)),(33,.agg #[I (bs.getD 0 0),(n9 dA),aA [],I (aL (lW bs))])]∧SH w w' [] [.blk b1 74 eA,(oZ dA)]) ?_ (fun D_4_1=>?_)
  ·rintro f w9 ⟨dA,⟨g2,rfl⟩,dB⟩
   exact aO 11 r0 (al (cs:=eA) dB kZ r0 aH r0 (fun gC kF cY=>nk (m1 cY 0 r0) (bS D_4_0 ⟨dA,gC,(zR r0),(cY.pk [0,2,1] r0)⟩)))
  refine dG 3 13 2559 (fun f w'=>∃ (dA gC:Nat),Hz f [(0,.slice Abs bs.length cbs),(2,pB b1),(5,I (dF bs)),(6,pB gC),(25,I (bs.getD 0 0)),(26,sb dA (([]:aC).length) 0),(31,.slice (if cbs=((dF bs)-2).toNat then Abs else Abs.map (·.add ((((dF bs)-2).toNat)*1))) ((lW bs).length) (cbs-(((dF bs)-2).toNat)))]∧SH w w' [] [.blk b1 74 eA,.blk gC 74 eA,(oZ dA)]) ?_ (fun D_4_2=>?_)
  ·rintro f kB ⟨dA,gC,⟨g3,rfl⟩,dJ⟩
   exact aO 9 r0 (cS dJ r0 (wB _ _ (Sl.lZ (hbs.aP dJ) (by omega) (by omega)) (by intro x hx; exact(sZ.1 hob).1 x (vP (uW hx))) (by have hzb:=pF hob; have hbl:=hZ hob; have r5:=rH (b:=bs); simp only[fC,dV]; omega)) (fun kI dM=>nk (m1 dM 0 r0) (tQ (fuel:=1) (is:=[10]) (.cons r0 (.nil)) (m1 dM 0 r0) (yA r0 (bQ (v:=.agg #[I (bs.getD 0 0),(n9 dA),aA [],I (aL (lW bs))]) [(0,I (bs.getD 0 0)),(1,sb dA (([]:aC).length) 0),(3,I (aL (lW bs)))] r0) (.nil (bS D_4_0 ⟨dA,gC,(zR r0),dM⟩))))))
  refine dG 3 13 3063 (fun f w'=>∃ (gC:Nat),Hz f [(0,.slice Abs bs.length cbs),(2,pB b1),(5,I (dF bs)),(6,pB gC),(25,I (bs.getD 0 0)),(32,I (aL (lW bs)))]∧SH w w' [] [.blk b1 74 eA,.blk gC 74 eA]) ?_ (fun D_4_3=>?_)
  ·rintro f lU ⟨gC,⟨g4,rfl⟩,eO⟩
   exact aO 3 r0 (cR eO aV [] [] aH r0 (fun dA mH eK=>nk (m1 eK 0 r0) (tQ (fuel:=1) (is:=[10]) (.cons r0 (.nil)) (m1 eK 0 r0) (yA r0 (bQ (v:=.agg #[I (bs.getD 0 0),(n9 dA),aA [],I (aL (lW bs))]) [(0,I (bs.getD 0 0)),(1,sb dA (([]:aC).length) 0),(3,I (aL (lW bs)))] r0) (.nil (bS D_4_0 ⟨dA,gC,(zR r0),eK⟩))))))
  refine dG 4 13 511 (fun f w'=>∃ (dA:Nat),Hz f [(0,.slice Abs bs.length cbs),(2,pB b1),(5,I (dF bs)),(25,I (bs.getD 0 0)),(26,sb dA (([]:aC).length) 0),(31,.slice (if cbs=((dF bs)-2).toNat then Abs else Abs.map (·.add ((((dF bs)-2).toNat)*1))) ((lW bs).length) (cbs-(((dF bs)-2).toNat)))]∧SH w w' [] [.blk b1 74 eA,(oZ dA)]) ?_ (fun D_4_4=>?_)
  ·rintro f mI ⟨dA,⟨g5,rfl⟩,eZ⟩
   refine jN [9,11] (eX ?_ (jP ?_))
   ·exact eI r0 (cS eZ r0 (wB _ _ (Sl.lZ (hbs.aP eZ) (by omega) (by omega)) (by intro x hx; exact(sZ.1 hob).1 x (vP (uW hx))) (by have hzb:=pF hob; have hbl:=hZ hob; have r5:=rH (b:=bs); simp only[fC,dV]; omega)) (fun mU fV=>nk (m1 fV 0 r0) (tQ (fuel:=2) (is:=[10]) (.cons r0 (.nil)) (m1 fV 0 r0) (yA r0 (bQ (v:=.agg #[I (bs.getD 0 0),(n9 dA),aA [],I (aL (lW bs))]) [(0,I (bs.getD 0 0)),(1,sb dA (([]:aC).length) 0),(3,I (aL (lW bs)))] r0) (.nil (bS D_4_1 ⟨dA,(zR r0),fV⟩))))))
   exact eI r0 (al (cs:=eA) eZ kZ r0 aH r0 (fun gC n6 fD=>nk (m1 fD 0 r0) (bS D_4_2 ⟨dA,gC,(zR r0),(fD.pk [0,2,1] r0)⟩)))
  refine dG 4 13 1015 (fun f w'=>Hz f [(0,.slice Abs bs.length cbs),(2,pB b1),(5,I (dF bs)),(25,I (bs.getD 0 0)),(32,I (aL (lW bs)))]∧SH w w' [] [.blk b1 74 eA]) ?_ (fun D_4_5=>?_)
  ·rintro f m9 ⟨⟨g6,rfl⟩,gK⟩
   refine jN [3,11] (eX ?_ (jP ?_))
   ·exact eI r0 (cR gK aV [] [] aH r0 (fun dA qQ hU=>nk (m1 hU 0 r0) (tQ (fuel:=2) (is:=[10]) (.cons r0 (.nil)) (m1 hU 0 r0) (yA r0 (bQ (v:=.agg #[I (bs.getD 0 0),(n9 dA),aA [],I (aL (lW bs))]) [(0,I (bs.getD 0 0)),(1,sb dA (([]:aC).length) 0),(3,I (aL (lW bs)))] r0) (.nil (bS D_4_1 ⟨dA,(zR r0),hU⟩))))))
   exact eI r0 (al (cs:=eA) gK kZ r0 aH r0 (fun gC rJ iN=>nk (m1 iN 0 r0) (bS D_4_3 ⟨gC,(zR r0),iN⟩)))
  refine dG 4 13 2551 (fun f w'=>∃ (gC:Nat),Hz f [(0,.slice Abs bs.length cbs),(2,pB b1),(5,I (dF bs)),(6,pB gC),(25,I (bs.getD 0 0)),(31,.slice (if cbs=((dF bs)-2).toNat then Abs else Abs.map (·.add ((((dF bs)-2).toNat)*1))) ((lW bs).length) (cbs-(((dF bs)-2).toNat)))]∧SH w w' [] [.blk b1 74 eA,.blk gC 74 eA]) ?_ (fun D_4_6=>?_)
  ·rintro f tL ⟨gC,⟨g7,rfl⟩,iB⟩
   refine jN [3,9] (eX ?_ (jP ?_))
   ·exact eI r0 (cR iB aV [] [] aH r0 (fun dA sC iE=>nk (m1 iE 0 r0) (bS D_4_2 ⟨dA,gC,(zR r0),iE⟩)))
   exact eI r0 (cS iB r0 (wB _ _ (Sl.lZ (hbs.aP iB) (by omega) (by omega)) (by intro x hx; exact(sZ.1 hob).1 x (vP (uW hx))) (by have hzb:=pF hob; have hbl:=hZ hob; have r5:=rH (b:=bs); simp only[fC,dV]; omega)) (fun vK jB=>nk (m1 jB 0 r0) (bS D_4_3 ⟨gC,(zR r0),jB⟩)))
  refine dG 5 13 503 (fun f w'=>Hz f [(0,.slice Abs bs.length cbs),(2,pB b1),(5,I (dF bs)),(25,I (bs.getD 0 0)),(31,.slice (if cbs=((dF bs)-2).toNat then Abs else Abs.map (·.add ((((dF bs)-2).toNat)*1))) ((lW bs).length) (cbs-(((dF bs)-2).toNat)))]∧SH w w' [] [.blk b1 74 eA]) ?_ (fun D_4_7=>?_)
  ·rintro f xC ⟨⟨g8,rfl⟩,gV⟩
   refine jN [3,9,11] (eX ?_ (eX ?_ (jP ?_)))
   ·exact eI r0 (cR gV aV [] [] aH r0 (fun dA vL kU=>nk (m1 kU 0 r0) (bS D_4_4 ⟨dA,(zR r0),kU⟩)))
   ·exact eI r0 (cS gV r0 (wB _ _ (Sl.lZ (hbs.aP gV) (by omega) (by omega)) (by intro x hx; exact(sZ.1 hob).1 x (vP (uW hx))) (by have hzb:=pF hob; have hbl:=hZ hob; have r5:=rH (b:=bs); simp only[fC,dV]; omega)) (fun vM kV=>nk (m1 kV 0 r0) (bS D_4_5 ⟨(zR r0),kV⟩)))
   exact eI r0 (al (cs:=eA) gV kZ r0 aH r0 (fun gC B5 kY=>nk (m1 kY 0 r0) (bS D_4_6 ⟨gC,(zR r0),kY⟩)))
  have kH:=aN.drew
  exact tQ (fuel:=5) (is:=[0,1,2,4,5,6,7,8]) (.cons r0 (.cons r0 (.cons r0 (.cons r0 (.cons r0 (.cons r0 (.cons r0 (.cons r0 (.nil))))))))) (m1 kH 0 r0) (yA r0 (mv (v:=.slice Abs bs.length cbs) r0) (N4 0 aV r0 r0 hbs (by(have hzb:=pF hob; have hbl:=hZ hob; have r5:=rH (b:=bs); omega)) (eQ I 0 (by(have hzb:=pF hob; have hbl:=hZ hob; have r5:=rH (b:=bs); omega))) aH r0 (fun a1 eL=>yB r0 (fun ⟨Lq,aU,dH,_⟩=>eW aU eL (fun _ h=>h) r0 r0 cN) (yA r0 (mv (v:=.slice Abs bs.length cbs) r0) (yA r0 (mv (v:=I (dF bs)) r0) (yA r0 (sub r0 r0 (by(exact⟨by omega,by omega⟩))) (yA r0 (mv (v:=I (dF bs)) r0) (yA r0 (pK (zs:=bs) (((dF bs)-2).toNat) ((dF bs).toNat) aV r0 (jK (x:=(dF bs)-2) (by(have hzb:=pF hob; have hbl:=hZ hob; have r5:=rH (b:=bs); omega))) (jK (x:=dF bs) (by omega)) (by omega) (by omega) hbs.cap) (.nil (bS D_4_7 ⟨(zR r0),kH⟩))))))))))
 rintro f AJ ⟨dA,gC,⟨g9,rfl⟩,iU⟩
 refine nN (sq (sr (tm (cD Abs bs cbs) r0 (gN 0 aV r0 r0 hbs (by(have hzb:=pF hob; have hbl:=hZ hob; have r5:=rH (b:=bs); omega)) (eQ I 0 (by(have hzb:=pF hob; have hbl:=hZ hob; have r5:=rH (b:=bs); omega))) aH r0 (fun a2 jG=>qt r0 (eW iU jG (fun _ h=>h) r0 r0 cN) (qt r0 (dO r0 r0) (nn (bI r0 (fun h6=>?_) (fun h6=>?_)))))))))
 ·refine kA (fun w'=>∃ L,SH w w' [] L∧(.blk b1 74 eA)∈L∧True) (fun f w'=>∃ (A4'':aM) (c4'':Nat),Hz f [(2,pB b1),(5,I (dF bs)),(6,pB gC)]∧SH w w' [] [.blk b1 74 eA,.blk gC 74 [I (bs.getD 0 0),.slice A4'' (((bs.take 5).drop 1).length) c4'',aA [],I (aL (lW bs))],.own A4'' (((bs.take 5).drop 1).length) c4'' 3 1 (((bs.take 5).drop 1).map I)]) mixed ?_ ?_
  ·refine dG 1 7 63 (fun f w'=>∃ (A4'':aM) (c4'':Nat),Hz f [(2,pB b1),(5,I (dF bs)),(6,pB gC),(42,.slice A4'' (((bs.take 5).drop 1).length) c4''),(43,.pointer (some ⟨gC,1,none⟩))]∧SH w w' [] [.blk b1 74 eA,.blk gC 74 [I (bs.getD 0 0),(n9 dA),aA [],I (aL (lW bs))],.own A4'' (((bs.take 5).drop 1).length) c4'' 3 1 (((bs.take 5).drop 1).map I)]) ?_ (fun D_6_0=>?_)
   ·rintro f DS ⟨A4'',c4'',⟨EZ,rfl⟩,mK⟩
    refine aO 6 r0 (sT (.slice A4'' (((bs.take 5).drop 1).length) c4'') mK 1 r0 j4 (fun B6 lL=>nk (m1 lL 0 r0) (aQ ?_)))
    exact⟨A4'',c4'',(zR r0),(lL.pk [0,2,1] r0)⟩
   refine dG 3 7 15 (fun f w'=>Hz f [(2,pB b1),(5,I (dF bs)),(6,pB gC),(39,sb dA (([]:aC).length) 0),(41,.slice (if cbs=1 then Abs else Abs.map (·.add (1*1))) (((bs.take 5).drop 1).length) (cbs-1))]∧SH w w' [] [.blk b1 74 eA,.blk gC 74 [I (bs.getD 0 0),(n9 dA),aA [],I (aL (lW bs))],(oZ dA)]) ?_ (fun D_6_1=>?_)
   ·rintro f GK ⟨⟨HN,rfl⟩,mY⟩
    exact aO 4 r0 (gI (g:=I) (ys:=([]:aC)) (zs:=(bs.take 5).drop 1) mY 2 r0 aV r0 r0 r0 (Sl.lZ (hbs.aP mY) (by omega) (by(have hzb:=pF hob; have hbl:=hZ hob; have r5:=rH (b:=bs); omega))) (fun _=>rfl) (by unfold maxLen; have hzb:=pF hob; have hbl:=hZ hob; have r5:=rH (b:=bs); simp only[bK,fC,dV]; omega) (by have hzb:=pF hob; have hbl:=hZ hob; have r5:=rH (b:=bs); simp only[bK,fC,dV]; omega) aH r0 (fun A4'' c4'' GL lN=>nk (m1 lN 0 r0) (tQ (fuel:=1) (is:=[5]) (.cons r0 (.nil)) (m1 lN 0 r0) (yA r0 (fa 1 pL r0) (.nil (bS D_6_0 ⟨A4'',c4'',(zR r0),lN⟩))))))
   refine dG 4 7 13 (fun f w'=>Hz f [(2,pB b1),(5,I (dF bs)),(6,pB gC),(38,.pointer (some ⟨gC,1,none⟩)),(41,.slice (if cbs=1 then Abs else Abs.map (·.add (1*1))) (((bs.take 5).drop 1).length) (cbs-1))]∧SH w w' [] [.blk b1 74 eA,.blk gC 74 [I (bs.getD 0 0),(n9 dA),aA [],I (aL (lW bs))],(oZ dA)]) ?_ (fun D_6_2=>?_)
   ·rintro f GM ⟨⟨J5,rfl⟩,mS⟩
    exact aO 1 r0 (qt r0 (lD (sb dA (([]:aC).length) 0) mS 1 r0 j4) (nk (m1 mS 0 r0) (bS D_6_1 ⟨(zR r0),mS⟩)))
   have mZ:=iU.drew
   exact tQ (fuel:=4) (is:=[0,2,3]) (.cons r0 (.cons r0 (.cons r0 (.nil)))) (m1 mZ 0 r0) (yA r0 (fa 1 pL r0) (yA r0 (mv (v:=.slice Abs bs.length cbs) r0) (yA r0 (pK (zs:=bs) 1 5 aV r0 r0 r0 (by omega) (by(have hzb:=pF hob; have hbl:=hZ hob; have r5:=rH (b:=bs); omega)) hbs.cap) (.nil (bS D_6_2 ⟨(zR r0),mZ⟩)))))
  rintro f LF ⟨A4'',c4'',⟨J6,rfl⟩,m0⟩
  refine nN (sq (sr (qt r0 (lG [I (bs.getD 0 0),.slice A4'' (((bs.take 5).drop 1).length) c4'',aA [],I (aL (lW bs))] m0 1 r0 cG) (cS m0 r0 (AF _ _ [] _ _ (m0.cI 2 r0) (by(simp; done))) (fun LG oE=>qt r0 (nt r0) (nn (cd r0 (fun h7=>?_) (fun h7=>?_))))))))
  ·have h8:=dX h7
   refine sr (qt r0 (bQ (v:=.agg #[I 0,ns,aA [],I 0]) [] r0) (sG eA oE 0 r0 cG (fun LH oV=>tA (I 0) r0 (tA (.bool false) r0 (nn (rt (tR (bO (cX oV 2 r0 r0 cG r0 (.tmp (.tmp .nil))) r0 ?_))))))))
   have qI:=oV.nl [Z0] r0
   have e4:fO bs=((0,([]:aC),[],0),0,false):=by exact Eu hob (by omega) (by omega) ‹_› ‹_›
   rw[e4]
   exact⟨none,0,rfl,(qI.pk [3] r0)⟩
  have h9:=dY h7
  refine sk (nN (sr (qt r0 (lG [I (bs.getD 0 0),.slice A4'' (((bs.take 5).drop 1).length) c4'',aA [],I (aL (lW bs))] oE 1 r0 cG) (tm (I (dF bs)) r0 (sG [I (bs.getD 0 0),.slice A4'' (((bs.take 5).drop 1).length) c4'',aA [],I (aL (lW bs))] oE 0 r0 cG (fun LI rV=>tA (I (dF bs)) r0 (tA (.bool true) r0 (nn (rt (bO (cX rV 2 r0 r0 cG r0 (.tmp (.tmp .nil))) r0 ?_))))))))))
  have e5:fO bs=((bs.getD 0 0,(bs.take 5).drop 1,[],aL (lW bs)),dF bs,true):=by exact Et hob (by omega) (by omega) ‹_› ‹_›
  rw[e5]
  exact⟨A4'',c4'',rfl,(rV.pk [1] r0)⟩
 refine rg (tm (cD Abs bs cbs) r0 (tm (I (dF bs)) r0 (qt r0 (sub r0 r0 (by(exact⟨by omega,by omega⟩))) (qt r0 (pK (zs:=bs) 2 (((dF bs)-2).toNat) aV r0 r0 (jK (x:=(dF bs)-2) (by(have hzb:=pF hob; have hbl:=hZ hob; have r5:=rH (b:=bs); omega))) (by(have hzb:=pF hob; have hbl:=hZ hob; have r5:=rH (b:=bs); omega)) (by omega) hbs.cap) (cS iU r0 (yF _ _ (Sl.lZ (hbs.aP iU) (by(have hzb:=pF hob; have hbl:=hZ hob; have r5:=rH (b:=bs); omega)) (by omega)) (by intro x hx; exact(sZ.1 hob).1 x (vP (uW hx))) (by have hzb:=pF hob; have hbl:=hZ hob; have r5:=rH (b:=bs); simp only[fC,dV]; omega)) (fun P1 vD=>qt r0 (fa 2 sW r0) (sT (aA (bT (G3 bs))) vD 1 r0 eC (fun T3 pO=>nn (sq (sr (qt r0 (lG [I (bs.getD 0 0),(n9 dA),aA (bT (G3 bs)),I (aL (lW bs))] pO 2 r0 cG) (cS pO r0 (AF (ak:=bs.getD 0 0) (Aaq:=(Z7 dA)) (caq:=0) (aq:=([]:aC)) (an:=bT (G3 bs)) (apt:=aL (lW bs)) (w:=_) (haq:=(pO.cI 1 r0)) (han_n:=(by(have hzb:=pF hob; have hbl:=hZ hob; have r5:=rH (b:=bs); simp only[oQ,fC,dV]; omega)))) (fun T5 pW=>qt r0 (nt r0) (nn (cd r0 (fun mR=>?_) (fun mR=>?_))))))))))))))))
 ·have vX:=dX mR
  refine sr (qt r0 (bQ (v:=.agg #[I 0,ns,aA [],I 0]) [] r0) (sG eA pW 0 r0 cG (fun T6 pX=>tA (I 0) r0 (tA (.bool false) r0 (nn (rt (tR (bO (cX pX 2 r0 r0 cG r0 (.tmp (.tmp .nil))) r0 ?_))))))))
  have uD:=pX.nl [Z0] r0
  have e6:fO bs=((0,([]:aC),[],0),0,false):=by exact Es hob (by omega) (by omega) ‹_› ‹_›
  rw[e6]
  exact⟨none,0,rfl,(uD.pk [3] r0)⟩
 have zU:=dY mR
 refine sk (nN (sr (qt r0 (lG [I (bs.getD 0 0),(n9 dA),aA (bT (G3 bs)),I (aL (lW bs))] pW 2 r0 cG) (tm (I (dF bs)) r0 (sG [I (bs.getD 0 0),(n9 dA),aA (bT (G3 bs)),I (aL (lW bs))] pW 0 r0 cG (fun T7 rW=>tA (I (dF bs)) r0 (tA (.bool true) r0 (nn (rt (bO (cX rW 2 r0 r0 cG r0 (.tmp (.tmp .nil))) r0 ?_))))))))))
 have e7:fO bs=((bs.getD 0 0,([]:aC),bT (G3 bs),aL (lW bs)),dF bs,true):=by exact Er hob (by omega) (by omega) ‹_› ‹_›
 rw[e7]
 exact⟨(Z7 dA),0,rfl,(rW.pk [0] r0)⟩
theorem Ss {Abs:aM} {cbs:Nat} (bs:aC) (w:World) (hbs:Sl w [] 1 Abs bs.length cbs (bs.map I)):bF prog 232 [.slice Abs bs.length cbs] w (fun v w'=>∃ Aqr:aM,∃ cqr:Nat,v=.tuple #[.int .i64 ((codeFrom bs).1),.agg #[.int .i64 ((codeFrom bs).2.1.1),.slice Aqr ((codeFrom bs).2.1.2.1).length cqr,aA ((codeFrom bs).2.1.2.2.1),.int .i64 ((codeFrom bs).2.1.2.2.2)],.int .i64 ((codeFrom bs).2.2.1),.bool ((codeFrom bs).2.2.2)]∧SH w w' [] [.own Aqr (((codeFrom bs).2.1.2.1).length) cqr 3 1 (((codeFrom bs).2.1.2.1).map I)]):=by
 refine fQ 46 func232 r0 r0 ?_
 have aK:=SH.refl w []
 have nW:bs.length≤9223372036854775807:=cB hbs.cap hbs.cO
 refine sr (tA (I 0) r0 (al (cs:=eA) aK kZ r0 aH r0 (fun b1 w1 aE=>tA (I 0) r0 (tA (.bool false) r0 (nn (sq (sr (tm (cD Abs bs cbs) r0 (cS aE r0 (wU _ _ (hbs.aP aE)) (fun w2 aI=>qt r0 (nt r0) (tm (xK bs) r0 (hP 12 r0 (fun h1=>?_) (fun h1=>?_)))))))))))))
 ·have h2:=dX h1
  refine aT r0 (aT r0 (aT r0 (qt r0 (pt (v:=.bool true) r0 r0) (tm (.bool true) r0 (aT r0 (aT r0 (aT r0 (aT r0 (qt r0 (pt (v:=.bool true) r0 r0) (tm (.bool true) r0 (aT r0 (aT r0 (aT r0 (aT r0 (qt r0 (pt (v:=.bool true) r0 r0) (nn (fX r0 (sr (qt r0 (bQ (v:=.agg #[I 0,ns,aA [],I 0]) [] r0) (tA (I 0) r0 (sG eA aI 0 r0 cG (fun w3 aN=>tA (I 0) r0 (tA (.bool false) r0 (nn (rt (tR (bO (.tmp (cX aN 0 r0 r0 cG r0 (.tmp (.tmp .nil)))) r0 ?_)))))))))))))))))))))))))))
  have aR:=aN.nl [Z0] r0
  have e1:codeFrom bs=(0,(0,([]:aC),[],0),0,false):=by exact JS (.inl ‹_›)
  rw[e1]
  exact⟨none,0,rfl,(aR.pk [1] r0)⟩
 have h3:=dY h1
 refine qh r0 (mv (v:=.slice Abs bs.length cbs) r0) (qh r0 (dK aV r0) (qh r0 (lss r0 r0) (qt r0 (pf (v:=.bool (decide ((bs.length:Int)<3))) r0 r0) (tm (.bool (decide ((bs.length:Int)<3))) r0 (fF 17 r0 (fun h4=>?_) (fun h4=>?_))))))
 ·refine aT r0 (aT r0 (aT r0 (aT r0 (qt r0 (pt (v:=.bool true) r0 r0) (tm (.bool true) r0 (aT r0 (aT r0 (aT r0 (aT r0 (qt r0 (pt (v:=.bool true) r0 r0) (nn (fX r0 (sr (qt r0 (bQ (v:=.agg #[I 0,ns,aA [],I 0]) [] r0) (tA (I 0) r0 (sG eA aI 0 r0 cG (fun w4 aZ=>tA (I 0) r0 (tA (.bool false) r0 (nn (rt (tR (bO (.tmp (cX aZ 0 r0 r0 cG r0 (.tmp (.tmp .nil)))) r0 ?_))))))))))))))))))))))
  have bG:=aZ.nl [Z0] r0
  have e2:codeFrom bs=(0,(0,([]:aC),[],0),0,false):=by exact JS (.inr (.inl (by omega)))
  rw[e2]
  exact⟨none,0,rfl,(bG.pk [1] r0)⟩
 refine qh r0 (mv (v:=.slice Abs bs.length cbs) r0) (gN 0 aV r0 r0 hbs (by omega) (eQ I 0 (by omega)) ⟨_,rfl,rfl⟩ r0 (fun a1 eL=>qh r0 (eW aI eL (fun _ h=>h) r0 r0 cN) (qh r0 (nK r0 r0) (qt r0 (pf (v:=.bool (decide ((bs.getD 0 0)≠5))) r0 r0) (tm (.bool (decide ((bs.getD 0 0)≠5))) r0 (fF 23 r0 (fun h5=>?_) (fun h5=>?_)))))))
 ·refine aT r0 (aT r0 (aT r0 (aT r0 (qt r0 (pt (v:=.bool true) r0 r0) (nn (fX r0 (sr (qt r0 (bQ (v:=.agg #[I 0,ns,aA [],I 0]) [] r0) (tA (I 0) r0 (sG eA aI 0 r0 cG (fun w5 bU=>tA (I 0) r0 (tA (.bool false) r0 (nn (rt (tR (bO (.tmp (cX bU 0 r0 r0 cG r0 (.tmp (.tmp .nil)))) r0 ?_))))))))))))))))
  have bV:=bU.nl [Z0] r0
  have e3:codeFrom bs=(0,(0,([]:aC),[],0),0,false):=by exact JS (.inr (.inr (.inl ‹_›)))
  rw[e3]
  exact⟨none,0,rfl,(bV.pk [1] r0)⟩
 refine qh r0 (mv (v:=.slice Abs bs.length cbs) r0) (gN 2 aV r0 r0 hbs (by omega) (eQ I 0 (by omega)) ⟨_,rfl,rfl⟩ r0 (fun a2 jG=>qh r0 (eW aI jG (fun _ h=>h) r0 r0 cN) (qh r0 (nK r0 r0) (qt r0 (pf (v:=.bool (decide ((bs.getD 2 0)≠0))) r0 r0) (nn (bI r0 (fun h6=>?_) (fun h6=>?_)))))))
 ·refine sr (qt r0 (bQ (v:=.agg #[I 0,ns,aA [],I 0]) [] r0) (tA (I 0) r0 (sG eA aI 0 r0 cG (fun w6 b9=>tA (I 0) r0 (tA (.bool false) r0 (nn (rt (tR (bO (.tmp (cX b9 0 r0 r0 cG r0 (.tmp (.tmp .nil)))) r0 ?_)))))))))
  have cM:=b9.nl [Z0] r0
  have e4:codeFrom bs=(0,(0,([]:aC),[],0),0,false):=by exact JS (.inr (.inr (.inr (.inl ‹_›))))
  rw[e4]
  exact⟨none,0,rfl,(cM.pk [1] r0)⟩
 refine sk (nN (sr (tm (cD Abs bs cbs) r0 (qt r0 (U5 (zs:=bs) 3 aV r0 r0 (by omega)) (dP aI r0 (So _ _ (Sl.VA (hbs.aP aI) (by omega)) (by exact N1 ‹_› (LS _ _))) (fun eF eG w7 cW=>tm (.tuple #[.agg #[I ((fO (bs.drop 3)).1.1),.slice eF (((fO (bs.drop 3)).1.2.1).length) eG,aA ((fO (bs.drop 3)).1.2.2.1),I ((fO (bs.drop 3)).1.2.2.2)],I ((fO (bs.drop 3)).2.1),.bool ((fO (bs.drop 3)).2.2)]) r0 (qt r0 (xt 0 r0 r0) (qt r0 (xt 1 r0 r0) (qt r0 (xt 2 r0 r0) (al (cs:=eA) cW kZ r0 aH r0 (fun b2 w8 dB=>sG (D7 bs eF eG) dB 2 r0 cG (fun w9 cY=>tA (I ((fO (bs.drop 3)).2.1)) r0 (tA (.bool ((fO (bs.drop 3)).2.2)) r0 (nn (sq (sr (tm (.bool ((fO (bs.drop 3)).2.2)) r0 (qt r0 (nt r0) (nn (cd r0 (fun h7=>?_) (fun h7=>?_)))))))))))))))))))))
 ·have h8:=dX h7
  refine sr (qt r0 (bQ (v:=.agg #[I 0,ns,aA [],I 0]) [] r0) (tA (I 0) r0 (sG eA cY 0 r0 cG (fun kF dJ=>tA (I 0) r0 (tA (.bool false) r0 (nn (rt (tR (bO (.tmp (cX dJ 2 r0 r0 cG r0 (.tmp (.tmp .nil)))) r0 ?_)))))))))
  have dM:=dJ.nl [Z0] r0
  have e5:codeFrom bs=(0,(0,([]:aC),[],0),0,false):=by exact JS (.inr (.inr (.inr (.inr ‹_›))))
  rw[e5]
  exact⟨none,0,rfl,(dM.pk [3] r0)⟩
 have h9:=dY h7
 refine sk (nN (sq ?_))
 refine kA (fun w'=>∃ L,SH w w' [] L∧(.blk b2 74 (D7 bs eF eG))∈L∧True) (fun f w'=>Hz f [(2,I (bs.getD 1 0)),(3,pB b1),(4,I (((fO (bs.drop 3)).2.1)+3)),(5,.bool true)]∧SH w w' [] [.blk b1 74 (D7 bs eF eG),.own eF (((fO (bs.drop 3)).1.2.1).length) eG 3 1 (((fO (bs.drop 3)).1.2.1).map I),.blk b2 74 (D7 bs eF eG)]) mixed ?_ ?_
 ·refine dG 3 10 127 (fun f w'=>Hz f [(2,I (bs.getD 1 0)),(3,pB b1),(4,I 0),(5,.bool false),(43,.agg #[I ((fO (bs.drop 3)).1.1),.slice eF (((fO (bs.drop 3)).1.2.1).length) eG,aA ((fO (bs.drop 3)).1.2.2.1),I ((fO (bs.drop 3)).1.2.2.2)]),(45,I (((fO (bs.drop 3)).2.1)+3))]∧SH w w' [] [.blk b1 74 eA,.own eF (((fO (bs.drop 3)).1.2.1).length) eG 3 1 (((fO (bs.drop 3)).1.2.1).map I),.blk b2 74 (D7 bs eF eG)]) ?_ (fun D_6_0=>?_)
  ·rintro f kB ⟨⟨g1,rfl⟩,eO⟩
   refine aO 7 r0 (sG (D7 bs eF eG) eO 0 r0 cG (fun kI eK=>nk (m1 eK 1 r0) (tQ (fuel:=0) (is:=[8,9]) (.cons r0 (.cons r0 (.nil))) (m1 eK 1 r0) (yA r0 (fW (v:=I (((fO (bs.drop 3)).2.1)+3)) r0) (yA r0 (fW (v:=.bool true) r0) (.nil (aQ ?_)))))))
   exact⟨(zR r0),(eK.pk [2,0,1] r0)⟩
  have eZ:=cY.drew
  exact tQ (fuel:=3) (is:=[0,1,2,3,4,5,6]) (.cons r0 (.cons r0 (.cons r0 (.cons r0 (.cons r0 (.cons r0 (.cons r0 (.nil)))))))) (m1 eZ 2 r0) (yA r0 (mv (v:=.slice Abs bs.length cbs) r0) (N4 1 aV r0 r0 hbs (by omega) (eQ I 0 (by omega)) aH r0 (fun a3 nV=>yB r0 (fun ⟨Lq,aU,dH,_⟩=>eW aU nV (fun _ h=>h) r0 r0 cN) (yB r0 (fun ⟨Lq,aU,dH,_⟩=>rD (vs:=(D7 bs eF eG)) aU dH r0 r0 r0 cG) (yA r0 (mv (v:=I ((fO (bs.drop 3)).2.1)) r0) (yA r0 (add r0 r0 (by have had:=QD (by assumption:(fO (bs.drop 3)).2.2=true); rw[fC]at had; have hbl:=hZ (by assumption:bJ bs=true); exact⟨by omega,by omega⟩)) (yA r0 (fW (v:=I (bs.getD 1 0)) r0) (.nil (bS D_6_0 ⟨(zR r0),eZ⟩)))))))))
 rintro f lU ⟨⟨g2,rfl⟩,fV⟩
 refine nN (rt (bO (.tmp (cX fV 0 r0 r0 cG r0 (.tmp (.tmp .nil)))) r0 ?_))
 have e6:codeFrom bs=(bs.getD 1 0,((fO (bs.drop 3)).1.1,(fO (bs.drop 3)).1.2.1,(fO (bs.drop 3)).1.2.2.1,(fO (bs.drop 3)).1.2.2.2),((fO (bs.drop 3)).2.1)+3,true):=by exact Gl ‹_› (by omega) (by omega) (by omega) ‹_›
 rw[e6]
 exact⟨eF,eG,rfl,(fV.pk [1] r0)⟩
theorem Tx {Abs:aM} {cbs:Nat} (bs:aC) (w:World) (hbs:Sl w [] 1 Abs bs.length cbs (bs.map I)):bF prog 202 [.slice Abs bs.length cbs] w (fun v w'=>∃ Aqr:aM,∃ cqr:Nat,v=.tuple #[.agg #[.int .i64 ((dD bs).1.1),.int .i64 ((dD bs).1.2.1),.slice Aqr ((dD bs).1.2.2.1).length cqr,aA ((dD bs).1.2.2.2.1),.int .i64 ((dD bs).1.2.2.2.2)],.int .i64 ((dD bs).2.1),.bool ((dD bs).2.2)]∧SH w w' [] [.own Aqr (((dD bs).1.2.2.1).length) cqr 3 1 (((dD bs).1.2.2.1).map I)]):=by
 refine fQ 28 func202 r0 r0 ?_
 have aK:=SH.refl w []
 have nW:bs.length≤9223372036854775807:=cB hbs.cap hbs.cO
 refine sr (al (cs:=AP) aK LB r0 aH r0 (fun b1 w1 aE=>tA (I 0) r0 (tA (.bool false) r0 (nx (tm (cD Abs bs cbs) r0 (dP aE r0 (Ss _ _ (hbs.aP aE)) (fun eF eG w2 aI=>tm (.tuple #[I ((codeFrom bs).1),.agg #[I ((codeFrom bs).2.1.1),.slice eF (((codeFrom bs).2.1.2.1).length) eG,aA ((codeFrom bs).2.1.2.2.1),I ((codeFrom bs).2.1.2.2.2)],I ((codeFrom bs).2.2.1),.bool ((codeFrom bs).2.2.2)]) r0 (qt r0 (xt 0 r0 r0) (qt r0 (xt 1 r0 r0) (qt r0 (xt 2 r0 r0) (qt r0 (xt 3 r0 r0) (al (cs:=eA) aI kZ r0 aH r0 (fun b2 w3 aN=>tA (I ((codeFrom bs).1)) r0 (sG [I ((codeFrom bs).2.1.1),.slice eF (((codeFrom bs).2.1.2.1).length) eG,aA ((codeFrom bs).2.1.2.2.1),I ((codeFrom bs).2.1.2.2.2)] aN 2 r0 cG (fun w4 aR=>tA (I ((codeFrom bs).2.2.1)) r0 (tA (.bool ((codeFrom bs).2.2.2)) r0 (nn (sq (sr (tm (.bool ((codeFrom bs).2.2.2)) r0 (qt r0 (nt r0) (tm (.bool (!((codeFrom bs).2.2.2))) r0 (hP 18 r0 (fun h1=>?_) (fun h1=>?_))))))))))))))))))))))))
 ·have h2:=dX h1
  refine aT r0 (aT r0 (aT r0 (qt r0 (pt (v:=.bool true) r0 r0) (nn (fX r0 (sq (rg (qt r0 (bQ (v:=.agg #[I 0,I 0,ns,aA [],I 0]) [] r0) (sG AP aR 0 r0 qU (fun w5 aZ=>tA (I 0) r0 (tA (.bool false) r0 (nn (rt (tR (bO (cX aZ 2 r0 r0 qU r0 (.tmp (.tmp .nil))) r0 ?_)))))))))))))))
  have bG:=aZ.nl [Z0] r0
  have e1:dD bs=((0,(0,([]:aC),[],0)),0,false):=by simp[dD,h2]
  rw[e1]
  exact⟨none,0,rfl,(bG.pk [3] r0)⟩
 have h3:=dY h1
 refine qh r0 (mv (v:=I ((codeFrom bs).1)) r0) (cl ⟨_,rfl,rfl⟩ r0 (wV _ 1 3 _) ?_)
 rintro _ w6 ⟨rfl,bU⟩
 replace bU:=aR.cJ bU
 refine qh r0 (nd r0) (qt r0 (pf (v:=.bool (decide (¬ (1≤((codeFrom bs).1)∧((codeFrom bs).1)≤3)))) r0 r0) (nn (bI r0 (fun h4=>?_) (fun h4=>?_))))
 ·refine sr (qt r0 (bQ (v:=.agg #[I 0,I 0,ns,aA [],I 0]) [] r0) (sG AP bU 0 r0 qU (fun w7 bV=>tA (I 0) r0 (tA (.bool false) r0 (nn (rt (tR (bO (cX bV 2 r0 r0 qU r0 (.tmp (.tmp .nil))) r0 ?_))))))))
  have b9:=bV.nl [Z0] r0
  have e2:dD bs=((0,(0,([]:aC),[],0)),0,false):=by simp[dD,h3,h4]
  rw[e2]
  exact⟨none,0,rfl,(b9.pk [3] r0)⟩
 refine sk (nN (sr (tm (I ((codeFrom bs).1)) r0 (qt r0 (lG [I ((codeFrom bs).2.1.1),.slice eF (((codeFrom bs).2.1.2.1).length) eG,aA ((codeFrom bs).2.1.2.2.1),I ((codeFrom bs).2.1.2.2.2)] bU 2 r0 cG) (qt r0 (bQ (v:=.agg #[I ((codeFrom bs).1),I ((codeFrom bs).2.1.1),.slice eF (((codeFrom bs).2.1.2.1).length) eG,aA ((codeFrom bs).2.1.2.2.1),I ((codeFrom bs).2.1.2.2.2)]) [(0,I ((codeFrom bs).1)),(1,.agg #[I ((codeFrom bs).2.1.1),.slice eF (((codeFrom bs).2.1.2.1).length) eG,aA ((codeFrom bs).2.1.2.2.1),I ((codeFrom bs).2.1.2.2.2)])] r0) (tm (I ((codeFrom bs).2.2.1)) r0 (sG [I ((codeFrom bs).1),I ((codeFrom bs).2.1.1),.slice eF (((codeFrom bs).2.1.2.1).length) eG,aA ((codeFrom bs).2.1.2.2.1),I ((codeFrom bs).2.1.2.2.2)] bU 0 r0 qU (fun w8 cM=>tA (I ((codeFrom bs).2.2.1)) r0 (tA (.bool true) r0 (nn (rt (bO (cX cM 2 r0 r0 qU r0 (.tmp (.tmp .nil))) r0 ?_))))))))))))
 have e3:dD bs=(((codeFrom bs).1,((codeFrom bs).2.1.1,(codeFrom bs).2.1.2.1,(codeFrom bs).2.1.2.2.1,(codeFrom bs).2.1.2.2.2)),(codeFrom bs).2.2.1,true):=by simp[dD,h3,h4]
 rw[e3]
 exact⟨eF,eG,rfl,(cM.pk [0] r0)⟩
theorem Wb (s:aD) (w:World) (hs_n:s.length≤1099511627776) (hEr:bZ prog w [] "strconv.ErrRange" fH) (hEs:bZ prog w [] "strconv.ErrSyntax" fH):bF prog 153 [aA s] w (fun v w'=>∃ ur:TypeId,∃ vr:Value,v=.tuple #[.int .i64 ((lJ s).1),AY ((lJ s).2) ur vr]∧SH w w' [] []):=by
 refine(Hs ⟨_,_,func153,by kernel_rfl,rfl⟩ hEs hEr (fun v h=>Tryz.strconv_Atoi_ok ⟨s.toArray⟩ (by show s.toArray.size≤_; rw[xG]; omega) v (by simpa using h) w) (fun tp p h hv=>(Tryz.strconv_Atoi_syntax_var ⟨s.toArray⟩ (by show s.toArray.size≤_; rw[xG]; omega) (by simpa using h) tp p w hv).mono fun e w1 ⟨N,h1,_,_,h2⟩=>⟨N,h1,h2⟩) (fun tp p h hv=>?_)).mono fun v w1 h=>h
 exact(Tryz.strconv_Atoi_range_var ⟨s.toArray⟩ (by show s.toArray.size≤_; rw[xG]; omega) (by simpa using h) tp p w hv).mono fun e w1 ⟨N,h1,_,_,h2⟩=>⟨N,by simpa using h1,h2⟩
theorem W8 (s:aD) (w:World) (hs_n:s.length≤1099511627776) (hGp:bZ prog w [] "internal/strconv.uint64pow10" jH) (hEr:bZ prog w [] "strconv.ErrRange" fH) (hEs:bZ prog w [] "strconv.ErrSyntax" fH):bF prog 100 [aA s] w (fun v w'=>v=.tuple #[.int .i64 ((jX s).1),.bool ((jX s).2)]∧SH w w' [] []):=by
 refine fQ 20 func100 r0 r0 ?_
 have aK:=SH.refl w []
 refine sr (tA (I 0) r0 (tA (.bool false) r0 (nx (tm (aA s) r0 (cL r0 (Wb _ _ (by omega) (hEr.aP aK) (hEs.aP aK)) ?_)))))
 rintro _ w1 ⟨u1,v1,rfl,aE⟩
 replace aE:=aK.cJ aE
 refine tm (.tuple #[I ((lJ s).1),AY ((lJ s).2) u1 v1]) r0 (qt r0 (xt 0 r0 r0) (qt r0 (xt 1 r0 r0) (tA (I ((lJ s).1)) r0 (tA (AY ((lJ s).2) u1 v1) r0 (nn (sq (rg (tm (I ((lJ s).1)) r0 (tm (AY ((lJ s).2) u1 v1) r0 (qt r0 (Io (e:=(lJ s).2) Mw r0) (tm (.bool (!((lJ s).2))) r0 (hP 14 r0 (fun h1=>?_) (fun h1=>?_)))))))))))))
 ·have h2:=dX h1
  refine qh r0 (mv (v:=I ((lJ s).1)) r0) (cl ⟨_,rfl,rfl⟩ r0 (I0 _ _ (by(have hab:=Fu s; omega)) (hGp.aP aE)) ?_)
  rintro _ w2 ⟨rfl,aI⟩
  replace aI:=aE.cJ aI
  refine qh r0 (mv (v:=aA s) r0) (qh r0 (eqs r0 r0) (qt r0 (pt (v:=.bool (decide (Lib.itoa ((lJ s).1)=s))) r0 r0) (tA (I ((lJ s).1)) r0 (tA (.bool (decide (Lib.itoa ((lJ s).1)=s))) r0 (nn (rt (bO (.tmp (.tmp .nil)) r0 ?_)))))))
  have e1:(lJ s).1=(jX s).1:=by exact(M1 s).1.symm
  have e2:(decide (Lib.itoa ((lJ s).1)=s))=(jX s).2:=by(rw[(M1 s).2]; simp[h2]; done)
  exact⟨(kE (aS (Value.int .i64) e1) (aS (Value.bool) e2)),aI⟩
 have h3:=dY h1
 refine bA r0 (bA r0 (bA r0 (bA r0 (qt r0 (pf (v:=.bool false) r0 r0) (tA (I ((lJ s).1)) r0 (tA (.bool false) r0 (nl (nN (rt (bO (.tmp (.tmp .nil)) r0 ?_))))))))))
 have e3:(lJ s).1=(jX s).1:=by exact(M1 s).1.symm
 have e4:false=(jX s).2:=by(rw[(M1 s).2]; simp[h3]; done)
 exact⟨(kE (aS (Value.int .i64) e3) (aS (Value.bool) e4)),aE⟩
theorem Vd (l:aD) (c:UInt8) (w:World) (hl_n:l.length≤1099511627776):bF prog 152 [aA l,aA [c]] w (fun v w'=>v=.tuple #[aA (dW l c),aA (kS l c),.bool (decide (0≤cE l c))]∧SH w w' [] []):=by
 refine fQ 23 func152 r0 r0 ?_
 have aK:=SH.refl w []
 refine sr (tA (aA []) r0 (tA (aA []) r0 (tA (.bool false) r0 (nn (sq (sr (tm (aA l) r0 (tm (aA [c]) r0 (cS aK r0 (Bw _ _ _) (fun w1 aE=>tA (I (cE l c)) r0 (nx (tm (I (cE l c)) r0 (qt r0 (geq r0 r0) (nl (nN (bI r0 (fun h1=>?_) (fun h1=>?_)))))))))))))))))
 ·refine sq (rq (fun w'=>SH w w' [] []) mixed (by kernel_rfl) aE.drew (qA r0 (mv (v:=aA l) r0) (qA r0 (mv (v:=I (cE l c)) r0) (qA r0 (xU (l:=l) ((cE l c).toNat) dI r0 (jK (x:=cE l c) (by omega)) (by(have hib:=NW l c; have e1_:[c].length=1:=rfl; omega))) (qA r0 (mv (v:=aA l) r0) (qA r0 (mv (v:=I (cE l c)) r0) (qA r0 (mv (v:=aA [c]) r0) (qA r0 (gG dI r0) (qA r0 (add r0 r0 (by(have hib:=NW l c; have e1_:[c].length=1:=rfl; exact⟨by omega,by omega⟩))) (qA r0 (CK (l:=l) (((cE l c)+(([c].length:Nat):Int)).toNat) dI r0 (jK (x:=(cE l c)+(([c].length:Nat):Int)) (by omega)) (by(have hib:=NW l c; have e1_:[c].length=1:=rfl; omega))) (qA r0 (fW (v:=aA (l.take ((cE l c).toNat))) r0) (qA r0 (fW (v:=aA (l.drop (((cE l c)+(([c].length:Nat):Int)).toNat))) r0) (qA r0 (fW (v:=.bool true) r0) (qn (fun w2 aI=>nN (rt (tR (bO (.tmp (.tmp (.tmp .nil))) r0 ?_))))))))))))))))))
  have e1:l.take ((cE l c).toNat)=dW l c:=by(simp[dW,kS,h1]; done)
  have e2:l.drop (((cE l c)+(([c].length:Nat):Int)).toNat)=kS l c:=by(have e1:[c].length=1:=rfl; simp only[kS,cF (by assumption:0≤cE l c)]; congr 1; simp only[bP,bK]; omega)
  have e3:true=(decide (0≤cE l c)):=by(simp[dW,kS,h1]; done)
  exact⟨(Dl (aS (aA) e1) (aS (aA) e2) (aS (Value.bool) e3)),aI⟩
 refine sk (nN (sr (tm (aA l) r0 (tA (aA l) r0 (tA (aA []) r0 (tA (.bool false) r0 (nn (rt (bO (.tmp (.tmp (.tmp .nil))) r0 ?_)))))))))
 have e4:l=dW l c:=by(simp[dW,kS,h1]; done)
 have e5:[]=kS l c:=by(simp[dW,kS,h1]; done)
 have e6:false=(decide (0≤cE l c)):=by(simp[dW,kS,h1]; done)
 exact⟨(Dl (aS (aA) e4) (aS (aA) e5) (aS (Value.bool) e6)),aE⟩
theorem Ce (l:aD) (c:UInt8) (w:World) (hl_n:l.length≤1099511627776):bF prog 99 [aA l,aA [c]] w (fun v w'=>v=.tuple #[aA (dW l c),aA (kS l c),.bool (decide (0≤cE l c))]∧SH w w' [] []):=by
 refine fQ 13 func99 r0 r0 ?_
 have aK:=SH.refl w []
 refine sr (tA (aA []) r0 (tA (aA []) r0 (tA (.bool false) r0 (nn (sq (rg (tm (aA l) r0 (tm (aA [c]) r0 (cS aK r0 (Vd _ _ _ (by omega)) (fun w1 aE=>qt r0 (xt 0 r0 r0) (qt r0 (xt 1 r0 r0) (qt r0 (xt 2 r0 r0) (tA (aA (dW l c)) r0 (tA (aA (kS l c)) r0 (tA (.bool (decide (0≤cE l c))) r0 (nn (rt (bO (.tmp (.tmp (.tmp .nil))) r0 ?_))))))))))))))))))
 exact⟨rfl,aE⟩
theorem Mc (s:aD) (w:World) (hs_n:s.length≤1099511627776) (hGp:bZ prog w [] "internal/strconv.uint64pow10" jH) (hEr:bZ prog w [] "strconv.ErrRange" fH) (hEs:bZ prog w [] "strconv.ErrSyntax" fH):bF prog 101 [aA s] w (fun v w'=>∃ Ar:aM,∃ cr:Nat,v=.tuple #[.slice Ar ((iC s).1).length cr,.bool ((iC s).2)]∧SH w w' [] [.own Ar (((iC s).1).length) cr 3 1 (((iC s).1).map I)]):=by
 refine fQ 32 func101 r0 r0 ?_
 have aK:=SH.refl w []
 refine sr (tA ns r0 (tA (.bool false) r0 (nx (tA ns r0 (nn (sq (sr (tm (aA s) r0 (dP aK r0 (K4 _ 46 _ (by omega)) (fun A1 c1 w1 aE=>qt r0 (dK fZ r0) (tm (I 0) r0 (nn (bl ?_)))))))))))))
 have aI:=aE.nl [Z0] r0
 refine lp (σ:=(aM)×Nat×Nat×(aC)) (fun⟨iQ,iT,k,zs⟩ f w'=>Hz f [(4,.slice iQ zs.length iT),(10,.slice A1 ((aB 46 s).length) c1),(11,I (((aB 46 s).length:Nat):Int)),(12,I (k:Int))]∧(k≤(aB 46 s).length)∧((aB 46 s).take k=zs.map Lib.itoa)∧SH w w' [] [.own A1 ((aB 46 s).length) c1 9 1 ((aB 46 s).map aA),.own iQ zs.length iT 3 1 (zs.map I)]) (fun⟨iQ,iT,k,zs⟩=>(aB 46 s).length-k) (none,0,0,([]:aC)) ⟨(zR r0),(by simp),(by simp),aI⟩ ?_
 rintro ⟨iQ,iT,k,zs⟩ f w2 ⟨⟨g1,rfl⟩,hk,hz,aN⟩
 refine sr (qt r0 (lss r0 r0) (nn (sq (bI r0 (fun h1=>?_) (fun h1=>?_)))))
 ·refine sk (nN (sq (bl (sr (gN k fZ r0 r0 (aN.cI 0 r0) (by omega) (eQ aA [] (by omega)) aH r0 (fun a1 eL=>?_))))))
  have rX:=oH 46 s
  have uE:=lH 46 s k
  have hcl:=pS (a:=(46:UInt8)) (l:=s)
  have hzl:=aS List.length hz
  refine qt r0 (eW (SH.refl w2 []) eL (fun _ h=>h) r0 r0 eC) (tA (aA ((aB 46 s).getD k [])) r0 (nx (tm (aA ((aB 46 s).getD k [])) r0 (cS aN r0 (W8 _ _ (by(rw[dV,yV]at hzl; omega)) (hGp.aP aN) (hEr.aP aN) (hEs.aP aN)) (fun w3 aR=>tm (.tuple #[I ((jX ((aB 46 s).getD k [])).1),.bool ((jX ((aB 46 s).getD k [])).2)]) r0 (qt r0 (xt 0 r0 r0) (qt r0 (xt 1 r0 r0) (tA (I ((jX ((aB 46 s).getD k [])).1)) r0 (tA (.bool ((jX ((aB 46 s).getD k [])).2)) r0 (nn (sq (sr (tm (.bool ((jX ((aB 46 s).getD k [])).2)) r0 (qt r0 (nt r0) (nn (cd r0 (fun h2=>?_) (fun h2=>?_)))))))))))))))))
  ·have h3:=dX h2
   refine sr (tA ns r0 (tA (.bool false) r0 (nn (rt (tR (bR (tR (tR (bR (tR (bO (.tmp (.tmp .nil)) r0 ?_)))))))))))
   have aZ:=aR.nl [Z0] r0
   have e1:iC s=(([]:aC),false):=by exact Rm (k:=k) (by omega) ‹_›
   rw[e1]
   exact⟨none,0,rfl,(aZ.pk [2] r0)⟩
  have h4:=dY h2
  refine sk (nN (rg (tm (.slice iQ zs.length iT) r0 (tm (I ((jX ((aB 46 s).getD k [])).1)) r0 (cR aR aV [I ((jX ((aB 46 s).getD k [])).1)] [I ((jX ((aB 46 s).getD k [])).1)] aH r0 (fun b1 w4 bG=>gI (g:=I) (ys:=zs) (zs:=([(jX ((aB 46 s).getD k [])).1]:aC)) bG 1 r0 aV r0 r0 r0 (bG.cI 2 r0) (fun _=>rfl) (by unfold maxLen; (rw[dV,yV]at hzl; (simp; omega))) (by(rw[dV,yV]at hzl; (simp; omega))) aH r0 (fun A2 c2 w5 bU=>tA (.slice A2 ((zs++([(jX ((aB 46 s).getD k [])).1]:aC)).length) c2) r0 (nl (bN (nN (rg (qt r0 (add r0 r0 (by(rw[dV,yV]at hzl; exact⟨by omega,by omega⟩))) (tm (I ((k:Int)+1)) r0 (nl (nN ?_)))))))))))))))
  refine⟨(A2,c2,k+1,(zs++([(jX ((aB 46 s).getD k [])).1]:aC))),⟨(zR r0),(by omega),(Hq (by omega) hz ‹_›),(bU.pk [0,2] r0)⟩,?_⟩
  show (aB 46 s).length-(k+1)<(aB 46 s).length-k
  omega
 refine ex (tE (tE (bE (nN (sq (sr (tm (.slice iQ zs.length iT) r0 (cS aN r0 (XG _ _ (aN.cI 1 r0)) (fun w6 bV=>qt r0 (nt r0) (nn (cd r0 (fun h5=>?_) (fun h5=>?_))))))))))))
 ·have h6:=dX h5
  refine sr (tA ns r0 (tA (.bool false) r0 (nn (rt (tR (bO (.tmp (.tmp .nil)) r0 ?_))))))
  have b9:=bV.nl [Z0] r0
  have e2:iC s=(([]:aC),false):=by(rw[lI (by omega)]at hz; exact Rq hz ‹_›)
  rw[e2]
  exact⟨none,0,rfl,(b9.pk [2] r0)⟩
 have h7:=dY h5
 refine sk (nN (sr (tm (.slice iQ zs.length iT) r0 (tA (.slice iQ zs.length iT) r0 (tA (.bool true) r0 (nl (nN (rt (bO (.tmp (.tmp .nil)) r0 ?_)))))))))
 have e3:iC s=(zs,true):=by(rw[lI (by omega)]at hz; exact Rn hz ‹_›)
 rw[e3]
 exact⟨iQ,iT,rfl,(bV.pk [1] r0)⟩
theorem C9 (s:aD) (w:World) (hs_n:s.length≤1099511627776) (hGp:bZ prog w [] "internal/strconv.uint64pow10" jH) (hEr:bZ prog w [] "strconv.ErrRange" fH) (hEs:bZ prog w [] "strconv.ErrSyntax" fH):bF prog 62 [aA s] w (fun v w'=>∃ Aqr:aM,∃ cqr:Nat,v=.tuple #[.agg #[.int .i64 ((aG s).1.1),.slice Aqr ((aG s).1.2.1).length cqr,aA ((aG s).1.2.2.1),.int .i64 ((aG s).1.2.2.2)],.bool ((aG s).2)]∧SH w w' [] [.own Aqr (((aG s).1.2.1).length) cqr 3 1 (((aG s).1.2.1).map I)]):=by
 refine fQ 43 func62 r0 r0 ?_
 have aK:=SH.refl w []
 refine sr (al (cs:=eA) aK kZ r0 aH r0 (fun b1 w1 aE=>tA (.bool false) r0 (nx (tm (aA s) r0 (cS aE r0 (Ce _ 58 _ (by omega)) (fun w2 aI=>tm (.tuple #[aA (dW s 58),aA (kS s 58),.bool (decide (0≤cE s 58))]) r0 (qt r0 (xt 0 r0 r0) (qt r0 (xt 1 r0 r0) (qt r0 (xt 2 r0 r0) (tA (aA (dW s 58)) r0 (tA (aA (kS s 58)) r0 (tA (.bool (decide (0≤cE s 58))) r0 (nl (nN (sr (tm (aA (kS s 58)) r0 (cS aI r0 (W8 _ _ (by(have hcA:=JW s 58; have hcZ:=QO s 58; omega)) (hGp.aP aI) (hEr.aP aI) (hEs.aP aI)) (fun w3 aN=>tm (.tuple #[(xO s),.bool ((jX (kS s 58)).2)]) r0 (qt r0 (xt 0 r0 r0) (qt r0 (xt 1 r0 r0) (tA (I ((jX (kS s 58)).1)) r0 (tA (.bool ((jX (kS s 58)).2)) r0 (nn (sq (sr (tm (.bool ((jX (kS s 58)).2)) r0 (qt r0 (nt r0) (nn (cd r0 (fun h1=>?_) (fun h1=>?_))))))))))))))))))))))))))))))
 ·have h2:=dX h1
  refine sr (qt r0 (bQ (v:=.agg #[I 0,ns,aA [],I 0]) [] r0) (sG eA aN 0 r0 cG (fun w4 aR=>tA (.bool false) r0 (nn (rt (tR (bO (cX aR 0 r0 r0 cG r0 (.tmp .nil)) r0 ?_)))))))
  have aZ:=aR.nl [Z0] r0
  have e1:aG s=((0,([]:aC),[],0),false):=by(rw[JO]; simp[addrOf,oO,h2])
  rw[e1]
  exact⟨none,0,rfl,(aZ.pk [1] r0)⟩
 have h3:=dY h1
 refine sk (nN (sr (tm (aA (dW s 58)) r0 (tm (I ((jX (kS s 58)).1)) r0 (qt r0 (bQ (v:=.agg #[I 3,ns,aA (dW s 58),(xO s)]) [(0,I 3),(2,aA (dW s 58)),(3,I ((jX (kS s 58)).1))] r0) (al (cs:=eA) aN kZ r0 aH r0 (fun b2 w5 bG=>sG [I 3,ns,aA (dW s 58),(xO s)] bG 1 r0 cG (fun w6 bU=>nn (sq (sr (tm (aA (dW s 58)) r0 (dP bU r0 (Mc _ _ (by(have hcA:=JW s 58; have hcZ:=QO s 58; omega)) (hGp.aP bU) (hEr.aP bU) (hEs.aP bU)) (fun A1 c1 w7 bV=>tm (.tuple #[.slice A1 (((vU s).1).length) c1,.bool ((vU s).2)]) r0 (qt r0 (xt 0 r0 r0) (qt r0 (xt 1 r0 r0) (tA (.slice A1 (((vU s).1).length) c1) r0 (tA (.bool ((vU s).2)) r0 (nn (sq (rg (tm (.bool ((vU s).2)) r0 (nn (cd r0 (fun h4=>?_) (fun h4=>?_))))))))))))))))))))))))
 ·refine rg (tm (.slice A1 (((vU s).1).length) c1) r0 (tm (I ((jX (kS s 58)).1)) r0 (qt r0 (bQ (v:=.agg #[I 1,.slice A1 (((vU s).1).length) c1,aA [],(xO s)]) [(0,I 1),(1,.slice A1 (((vU s).1).length) c1),(3,I ((jX (kS s 58)).1))] r0) (sG [I 1,.slice A1 (((vU s).1).length) c1,aA [],(xO s)] bV 1 r0 cG (fun w8 b9=>nn (sq (sr (qt r0 (lG [I 1,.slice A1 (((vU s).1).length) c1,aA [],(xO s)] b9 2 r0 cG) (cS b9 r0 (x0 1 _ [] _ _ (b9.cI 1 r0) (by((simp; done)))) (fun w9 cM=>qt r0 (nt r0) (nn (cd r0 (fun h5=>?_) (fun h5=>?_)))))))))))))
  ·have h6:=dX h5
   refine sr (qt r0 (bQ (v:=.agg #[I 0,ns,aA [],I 0]) [] r0) (sG eA cM 0 r0 cG (fun kF cW=>tA (.bool false) r0 (nn (rt (tR (bO (cX cW 2 r0 r0 cG r0 (.tmp .nil)) r0 ?_)))))))
   have dB:=cW.nl [Z0] r0
   have e2:aG s=((0,([]:aC),[],0),false):=by(rw[JO]; simp[addrOf,oO,h3,h4,h6])
   rw[e2]
   exact⟨none,0,rfl,(dB.pk [3] r0)⟩
  have h7:=dY h5
  refine sk (nN (sr (qt r0 (lG [I 1,.slice A1 (((vU s).1).length) c1,aA [],(xO s)] cM 2 r0 cG) (sG [I 1,.slice A1 (((vU s).1).length) c1,aA [],(xO s)] cM 0 r0 cG (fun kB cY=>tA (.bool true) r0 (nn (rt (bO (cX cY 2 r0 r0 cG r0 (.tmp .nil)) r0 ?_))))))))
  have e3:aG s=((1,(vU s).1,[],(jX (kS s 58)).1),true):=by(rw[JO]; simp[addrOf,oO,h3,h4,h7])
  rw[e3]
  exact⟨A1,c1,rfl,(cY.pk [0] r0)⟩
 refine sk (nN (sq (sr (qt r0 (lG [I 3,ns,aA (dW s 58),(xO s)] bV 1 r0 cG) (cS bV r0 (x0 (ak:=3) (Aaq:=none) (caq:=0) (aq:=([]:aC)) (an:=dW s 58) (apt:=(jX (kS s 58)).1) (w:=_) (haq:=Sl.nil) (han_n:=(by(have hcA:=JW s 58; have hcZ:=QO s 58; omega)))) (fun kI dJ=>qt r0 (nt r0) (nn (cd r0 (fun h8=>?_) (fun h8=>?_)))))))))
 ·have h9:=dX h8
  refine sr (qt r0 (bQ (v:=.agg #[I 0,ns,aA [],I 0]) [] r0) (sG eA dJ 0 r0 cG (fun lU dM=>tA (.bool false) r0 (nn (rt (tR (bO (cX dM 2 r0 r0 cG r0 (.tmp .nil)) r0 ?_)))))))
  have eO:=dM.nl [Z0] r0
  have e4:aG s=((0,([]:aC),[],0),false):=by(rw[JO]; simp[addrOf,oO,h3,h4,h9])
  rw[e4]
  exact⟨none,0,rfl,(eO.pk [3] r0)⟩
 have mR:=dY h8
 refine sk (nN (sr (qt r0 (lG [I 3,ns,aA (dW s 58),(xO s)] dJ 1 r0 cG) (sG [I 3,ns,aA (dW s 58),(xO s)] dJ 0 r0 cG (fun mH eK=>tA (.bool true) r0 (nn (rt (bO (cX eK 2 r0 r0 cG r0 (.tmp .nil)) r0 ?_))))))))
 have eZ:=eK.nl [Z0] r0
 have e5:aG s=((3,([]:aC),dW s 58,(jX (kS s 58)).1),true):=by(rw[JO]; simp[addrOf,oO,h3,h4,mR])
 rw[e5]
 exact⟨none,0,rfl,(eZ.pk [3] r0)⟩
theorem GC (s:aD) (w:World) (hs_n:s.length≤1099511627776):bF prog 80 [aA s] w (fun v w'=>v=.int .i64 (cZ s)∧SH w w' [] []):=by
 refine fQ 34 func80 r0 r0 ?_
 have aK:=SH.refl w []
 refine sr (tA (I 0) r0 (nn (sq (sr (tm (aA s) r0 (qt r0 (gG dI r0) (cS aK r0 (wV _ 1 5 _) (fun w1 aE=>qt r0 (nd r0) (nn (bI r0 (fun h1=>?_) (fun h1=>?_)))))))))))
 ·exact sr (tA (I (-1)) r0 (nn (rt (tR (fI r0 (Eq.symm (Qi (by omega))) aE)))))
 refine sk (nN (sr (tA (I 0) r0 (nn (sq (sr (tA (I 0) r0 (nn (bl (lp (σ:=Nat) (fun(k:Nat) f w'=>Hz f [(0,aA s),(3,I (oW (s.take k))),(4,I (k:Int))]∧(k≤s.length)∧((s.take k).all zS=true)∧SH w w' [] []) (fun k=>s.length-k) 0 ⟨(zH ⟨rfl,(show (I 0:Value)=I (oW (s.take 0)) from aS (Value.int .i64) (by rfl)),rfl,aH⟩),(by simp),(by simp),aE⟩ ?_))))))))))
 rintro k f w2 ⟨⟨g1,rfl⟩,hk,ha,aI⟩
 refine sq (sr (tm (I (k:Int)) r0 (tm (aA s) r0 (qt r0 (gG dI r0) (qt r0 (lss r0 r0) (nl (nN (bI r0 (fun h2=>?_) (fun h2=>?_)))))))))
 ·refine sk (nN (sq (bl (sq (sr (tm (aA s) r0 (tm (I (k:Int)) r0 (qt r0 (l5 k dI r0 r0 (by omega)) (qt r0 (lss r0 r0) (tm (.bool (decide ((((s.getD k 0).toNat:Nat):Int)<48))) r0 (fF 19 r0 (fun h3=>?_) (fun h3=>?_))))))))))))
  ·exact aT r0 (aT r0 (aT r0 (aT r0 (qt r0 (pt (v:=.bool true) r0 r0) (nn (fX r0 (sr (tA (I (-1)) r0 (nn (rt (tR (bR (tR (tR (bR (tR (fI r0 (Eq.symm (YU (k:=k) (by omega) (by omega))) aI)))))))))))))))))
  refine qh r0 (mv (v:=aA s) r0) (qh r0 (mv (v:=I (k:Int)) r0) (qh r0 (l5 k dI r0 r0 (by omega)) (qh r0 (gtr r0 r0) (qt r0 (pf (v:=.bool (decide ((57:Int)<(((s.getD k 0).toNat:Nat):Int)))) r0 r0) (nn (bI r0 (fun h4=>?_) (fun h4=>?_)))))))
  ·exact sr (tA (I (-1)) r0 (nn (rt (tR (bR (tR (tR (bR (tR (fI r0 (Eq.symm (YU (k:=k) (by omega) (by omega))) aI))))))))))
  refine sk (nN (rg (tm (I (oW (s.take k))) r0 (qt r0 (mul r0 r0 (by(have hnb:=YW (k:=k) ha (by omega); have hub:=iL (s.getD k 0); exact⟨by omega,by omega⟩))) (tm (aA s) r0 (tm (I (k:Int)) r0 (qt r0 (l5 k dI r0 r0 (by omega)) (qt r0 (Wm (a:=(((s.getD k 0).toNat:Nat):Int)) (b:=48) r0 r0 (by omega) (by omega)) (qt r0 (EV (a:=(((s.getD k 0).toNat:Nat):Int)-48) (s:=.u8) tJ xB r0 (by(exact⟨by omega,by omega⟩))) (qt r0 (add r0 r0 (by(have hnb:=YW (k:=k) ha (by omega); have hub:=iL (s.getD k 0); exact⟨by omega,by omega⟩))) (tA (I ((10*(oW (s.take k)))+((((s.getD k 0).toNat:Nat):Int)-48))) r0 (nl (bN (nN (rg (tm (I (k:Int)) r0 (qt r0 (add r0 r0 (by(exact⟨by omega,by omega⟩))) (tA (I ((k:Int)+1)) r0 (nn ?_)))))))))))))))))))
  refine⟨(k+1),⟨(zH ⟨rfl,(show (I ((10*(oW (s.take k)))+((((s.getD k 0).toNat:Nat):Int)-48)):Value)=I (oW (s.take (k+1))) from aS (Value.int .i64) (by rw[YY (by omega)])),rfl,aH⟩),(by omega),(wL (d:=0) (by omega) ha (by simp only[zS,kP]; omega)),aI⟩,?_⟩
  omega
 exact ex (tE (tE (bE (nN (sr (tm (I (oW (s.take k))) r0 (tA (I (oW (s.take k))) r0 (nn (rt (fI r0 (Qj (by omega) (by omega) ha) aI))))))))))
theorem Tv {Aqs:aM} {cqs:Nat} (qs:aC) (w:World) (hqs:Sl w [] 1 Aqs qs.length cqs (qs.map I)):bF prog 185 [.slice Aqs qs.length cqs] w (fun v w'=>v=aA (BZ qs)∧SH w w' [] []):=by
 refine fQ 8 func185 r0 r0 ?_
 have aK:=SH.refl w []
 have NJ:qs.length≤9223372036854775807:=cB hqs.cap hqs.cO
 refine sr (tA (aA []) r0 (nn (sq (sr (tm (cD Aqs qs cqs) r0 (cS aK r0 (Bf _ _ (hqs.aP aK)) (fun w1 aE=>qt r0 (nt r0) (nn (cd r0 (fun h1=>?_) (fun h1=>?_))))))))))
 ·have h2:=dX h1
  exact sr (tA (aA []) r0 (nn (rt (tR (fS r0 (by simp[BZ,h2]) aE)))))
 have h3:=dY h1
 refine sk (nN (sr (tm (cD Aqs qs cqs) r0 (cS aE r0 (PC _ _ (hqs.aP aE) (by omega)) (fun w2 aI=>tA (aA (fJ qs)) r0 (nn (rt (fT (aA (fJ qs)) r0 ?_))))))))
 have e2:fJ qs=BZ qs:=by simp[BZ,h3]
 exact⟨(aS (aA) e2),aI⟩
theorem Tu (s:aD) (w:World) (hs_n:s.length≤1099511627776):bF prog 129 [aA s] w (fun v w'=>∃ Ar:aM,∃ cr:Nat,v=.tuple #[.slice Ar ((iC s).1).length cr,.bool ((iC s).2)]∧SH w w' [] [.own Ar (((iC s).1).length) cr 3 1 (((iC s).1).map I)]):=by
 refine fQ 34 func129 r0 r0 ?_
 have aK:=SH.refl w []
 refine sr (tA ns r0 (tA (.bool false) r0 (nx (tm (aA s) r0 (dP aK r0 (H8 _ (46:UInt8) _ (by omega)) (fun A1 c1 w1 aE=>tA (.slice A1 ((aB (46:UInt8) s).length) c1) r0 (nx (cR aE aV [] [] aH r0 (fun b1 w2 aI=>tA (sb b1 (([]:aC).length) 0) r0 (nn (sq (sr (tA (I 0) r0 (nl (nN (bl ?_))))))))))))))))
 have e1:([]:aC)=(k8 s).take 0:=by simp
 have e2:([]:aC).length=((k8 s).take 0).length:=by rw[e1]
 refine lp (σ:=(aM)×Nat×Nat) (fun⟨iM,iG,k⟩ f w'=>Hz f [(0,aA s),(4,.slice A1 ((aB (46:UInt8) s).length) c1),(5,.slice iM (((k8 s).take k).length) iG),(6,I (k:Int))]∧(k≤(aB 46 s).length)∧SH w w' [] [.own A1 ((aB (46:UInt8) s).length) c1 9 1 ((aB (46:UInt8) s).map aA),.own iM (((k8 s).take k).length) iG 3 1 (((k8 s).take k).map I)]) (fun⟨iM,iG,k⟩=>(aB 46 s).length-k) ((Z7 b1),0,0) ⟨(zH ⟨rfl,rfl,(show (.slice (Z7 b1) (([]:aC).length) 0:Value)=.slice (Z7 b1) (((k8 s).take 0).length) 0 from eE r0 e2 r0),rfl,aH⟩),(by simp),(aI.cast (lc r0 (lc (dZ (g:=I) r0 e2 r0 e1) r0)))⟩ ?_
 rintro ⟨iM,iG,k⟩ f w3 ⟨⟨g1,rfl⟩,hk,aN⟩
 refine sq (sr (tm (I (k:Int)) r0 (tm (.slice A1 ((aB (46:UInt8) s).length) c1) r0 (qt r0 (dK fZ r0) (qt r0 (lss r0 r0) (nl (nN (bI r0 (fun h1=>?_) (fun h1=>?_)))))))))
 ·refine sk (nN (sq (bl (rg (tm (.slice iM (((k8 s).take k).length) iG) r0 (tm (.slice A1 ((aB (46:UInt8) s).length) c1) r0 (tm (I (k:Int)) r0 (gN k fZ r0 r0 (aN.cI 0 r0) (by omega) (eQ aA [] (by omega)) aH r0 (fun a1 eL=>?_)))))))))
  have rX:=oH 46 s
  have uE:=lH 46 s k
  have hcl:=pS (a:=(46:UInt8)) (l:=s)
  refine qt r0 (eW (SH.refl w3 []) eL (fun _ h=>h) r0 r0 eC) (cS aN r0 (GC ((aB (46:UInt8) s).getD k []) _ (by omega)) (fun w4 aR=>cR aR aV [I (cZ ((aB (46:UInt8) s).getD k []))] [I (cZ ((aB (46:UInt8) s).getD k []))] aH r0 (fun b2 w5 aZ=>gI (g:=I) (ys:=(k8 s).take k) (zs:=([cZ ((aB (46:UInt8) s).getD k [])]:aC)) aZ 1 r0 aV r0 r0 r0 (aZ.cI 2 r0) (fun _=>rfl) (by unfold maxLen; ((simp; omega))) (by((simp; omega))) aH r0 (fun A2 c2 w6 bG=>tA (.slice A2 ((((k8 s).take k)++([cZ ((aB (46:UInt8) s).getD k [])]:aC)).length) c2) r0 (nl (bN (nN (rg (tm (I (k:Int)) r0 (qt r0 (add r0 r0 (by(exact⟨by omega,by omega⟩))) (tA (I ((k:Int)+1)) r0 (nn ?_))))))))))))
  have e3:((k8 s).take k)++([cZ ((aB (46:UInt8) s).getD k [])]:aC)=(k8 s).take (k+1):=by exact Ri (by omega)
  have e4:(((k8 s).take k)++([cZ ((aB (46:UInt8) s).getD k [])]:aC)).length=((k8 s).take (k+1)).length:=by rw[e3]
  refine⟨(A2,c2,k+1),⟨(zH ⟨rfl,rfl,(show (.slice A2 ((((k8 s).take k)++([cZ ((aB (46:UInt8) s).getD k [])]:aC)).length) c2:Value)=.slice A2 (((k8 s).take (k+1)).length) c2 from eE r0 e4 r0),rfl,aH⟩),(by omega),((bG.pq [0,2] r0).cast (lc r0 (lc (dZ (g:=I) r0 e4 r0 e3) r0)))⟩,?_⟩
  show (aB 46 s).length-(k+1)<(aB 46 s).length-k
  omega
 refine ex (tE (tE (bE (nN (sq (sr (tm (.slice iM (((k8 s).take k).length) iG) r0 (cS aN r0 (Tv _ _ (aN.cI 1 r0)) (fun w7 bU=>tm (aA s) r0 (qt r0 (v8 r0 r0) (tm (.bool (decide (BZ ((k8 s).take k)≠s))) r0 (fF 28 r0 (fun h2=>?_) (fun h2=>?_)))))))))))))
 ·refine aT r0 (aT r0 (qt r0 (pt (v:=.bool true) r0 r0) (nn (fX r0 (sr (cR bU aV [] [] aH r0 (fun b3 w8 bV=>tA (sb b3 (([]:aC).length) 0) r0 (tA (.bool false) r0 (nn (rt (tR (bO (.tmp (.tmp .nil)) r0 ?_))))))))))))
  have e5:iC s=(([]:aC),false):=by((try rw[S7 (k:=k) (by omega)]at*); exact ZY (fun hq=>absurd hq.1 ‹_›))
  rw[e5]
  exact⟨(Z7 b3),0,rfl,(bV.pk [2] r0)⟩
 refine qh r0 (mv (v:=aA s) r0) (qh r0 (eqs r0 r0) (qt r0 (pf (v:=.bool (decide (s=[]))) r0 r0) (nn (bI r0 (fun h3=>?_) (fun h3=>?_)))))
 ·refine sr (cR bU aV [] [] aH r0 (fun b4 w9 b9=>tA (sb b4 (([]:aC).length) 0) r0 (tA (.bool false) r0 (nn (rt (tR (bO (.tmp (.tmp .nil)) r0 ?_)))))))
  have e6:iC s=(([]:aC),false):=by((try rw[S7 (k:=k) (by omega)]at*); exact ZY (fun hq=>absurd ‹_› hq.2))
  rw[e6]
  exact⟨(Z7 b4),0,rfl,(b9.pk [2] r0)⟩
 refine sk (nN (sr (tm (.slice iM (((k8 s).take k).length) iG) r0 (tA (.slice iM (((k8 s).take k).length) iG) r0 (tA (.bool true) r0 (nl (nN (rt (bO (.tmp (.tmp .nil)) r0 ?_)))))))))
 have e7:iC s=((k8 s).take k,true):=by((try rw[S7 (k:=k) (by omega)]at*); exact Ro ‹_› ‹_›)
 rw[e7]
 exact⟨iM,iG,rfl,(bU.pk [1] r0)⟩
theorem IP (s:aD) (n:Int) (w:World) (hs_n:s.length≤1099511627776):bF prog 79 [aA s,I n] w (fun v w'=>∃ Aqr:aM,∃ cqr:Nat,v=.agg #[.int .i64 ((addrOf s n).1),.slice Aqr ((addrOf s n).2.1).length cqr,aA ((addrOf s n).2.2.1),.int .i64 ((addrOf s n).2.2.2)]∧SH w w' [] [.own Aqr (((addrOf s n).2.1).length) cqr 3 1 (((addrOf s n).2.1).map I)]):=by
 refine fQ 20 func79 r0 r0 ?_
 have aK:=SH.refl w []
 refine sr (al (cs:=eA) aK kZ r0 aH r0 (fun b1 w1 aE=>nx (tm (aA s) r0 (dP aE r0 (Tu _ _ (by omega)) (fun A1 c1 w2 aI=>tm (.tuple #[.slice A1 (((iC s).1).length) c1,.bool ((iC s).2)]) r0 (qt r0 (xt 0 r0 r0) (qt r0 (xt 1 r0 r0) (tA (.slice A1 (((iC s).1).length) c1) r0 (tA (.bool ((iC s).2)) r0 (nn (sq (sr (tm (.bool ((iC s).2)) r0 (nn (cd r0 (fun h1=>?_) (fun h1=>?_))))))))))))))))
 ·refine sr (tm (.slice A1 (((iC s).1).length) c1) r0 (tm (I n) r0 (qt r0 (bQ (v:=.agg #[I 1,.slice A1 (((iC s).1).length) c1,aA [],I n]) [(0,I 1),(1,.slice A1 (((iC s).1).length) c1),(3,I n)] r0) (sG [I 1,.slice A1 (((iC s).1).length) c1,aA [],I n] aI 0 r0 cG (fun w3 aN=>nn (rt (tR (bO (cX aN 1 r0 r0 cG r0 .nil) r0 ?_))))))))
  have e1:1=(addrOf s n).1:=by simp[addrOf,h1]
  have e2:(iC s).1=(addrOf s n).2.1:=by simp[addrOf,h1]
  have e3:=aS List.length e2
  have e4:[]=(addrOf s n).2.2.1:=by simp[addrOf,h1]
  have e5:n=(addrOf s n).2.2.2:=by simp[addrOf,h1]
  exact⟨A1,c1,(oP (lc (aS (Value.int .i64) e1) (lc (eE r0 e3 r0) (lc (aS (aA) e4) (lc (aS (Value.int .i64) e5) r0))))),((aN.pq [0] r0).cast (lc (dZ (g:=I) r0 e3 r0 e2) r0))⟩
 refine sk (nN (sr (cR aI aV [] [] aH r0 (fun b2 w4 aR=>tm (aA s) r0 (tm (I n) r0 (qt r0 (bQ (v:=.agg #[I 3,(n9 b2),aA s,I n]) [(0,I 3),(1,sb b2 (([]:aC).length) 0),(2,aA s),(3,I n)] r0) (sG [I 3,(n9 b2),aA s,I n] aR 0 r0 cG (fun w5 aZ=>nn (rt (bO (cX aZ 2 r0 r0 cG r0 .nil) r0 ?_))))))))))
 have e6:3=(addrOf s n).1:=by simp[addrOf,h1]
 have e7:([]:aC)=(addrOf s n).2.1:=by simp[addrOf,h1]
 have e8:=aS List.length e7
 have e9:s=(addrOf s n).2.2.1:=by simp[addrOf,h1]
 have lP:n=(addrOf s n).2.2.2:=by simp[addrOf,h1]
 exact⟨(Z7 b2),0,(oP (lc (aS (Value.int .i64) e6) (lc (eE r0 e8 r0) (lc (aS (aA) e9) (lc (aS (Value.int .i64) lP) r0))))),((aZ.pq [1] r0).cast (lc (dZ (g:=I) r0 e8 r0 e7) r0))⟩
theorem TC (s:aD) (w:World) (hs_n:s.length≤1099511627776):bF prog 44 [aA s] w (fun v w'=>∃ Aqr:aM,∃ cqr:Nat,v=.tuple #[.agg #[.int .i64 ((aG s).1.1),.slice Aqr ((aG s).1.2.1).length cqr,aA ((aG s).1.2.2.1),.int .i64 ((aG s).1.2.2.2)],.bool ((aG s).2)]∧SH w w' [] [.own Aqr (((aG s).1.2.1).length) cqr 3 1 (((aG s).1.2.1).map I)]):=by
 refine fQ 31 func44 r0 r0 ?_
 have aK:=SH.refl w []
 refine sr (al (cs:=eA) aK kZ r0 aH r0 (fun b1 w1 aE=>tA (.bool false) r0 (nx (tm (aA s) r0 (cL r0 (H8 _ (58:UInt8) _ (by omega)) ?_)))))
 rintro _ w2 ⟨A1,c1,rfl,WW⟩
 have aI:=aE.cJ WW
 clear WW
 refine tA (.slice A1 ((aB (58:UInt8) s).length) c1) r0 (nn (sq (sr (tm (.slice A1 ((aB (58:UInt8) s).length) c1) r0 (qt r0 (dK fZ r0) (qt r0 (nK r0 r0) (nn (bI r0 (fun h1=>?_) (fun h1=>?_)))))))))
 ·refine sr (qt r0 (bQ (v:=.agg #[I 0,ns,aA [],I 0]) [] r0) (sG eA aI 0 r0 cG (fun w3 aN=>tA (.bool false) r0 (nn (rt (tR (bO (cX aN 1 r0 r0 cG r0 (.tmp .nil)) r0 ?_)))))))
  have aR:=aN.nl [Z0] r0
  have e1:aG s=((0,([]:aC),[],0),false):=by exact Ex ‹_›
  rw[e1]
  exact⟨none,0,rfl,(aR.pk [2] r0)⟩
 refine sk (nN (sq ?_))
 obtain ⟨b2,rfl⟩:=sA aI 1 r0 (by omega)
 refine kA (fun w'=>∃ L,SH w w' [] L∧(.blk b1 74 eA)∈L∧(.own (Z7 b2) ((aB (58:UInt8) s).length) c1 9 1 ((aB (58:UInt8) s).map aA))∈L∧True) (fun f w'=>∃ (gA:Nat) (fR:aM) (fU:Nat),Hz f [(0,aA s),(2,pB b1),(5,pB gA)]∧SH w w' [] [.blk b1 74 eA,.own (Z7 b2) ((aB (58:UInt8) s).length) c1 9 1 ((aB (58:UInt8) s).map aA),(P8 fR s fU),.blk gA 74 (G6 s fR fU)]) mixed ?_ ?_
 ·refine dG 1 10 511 (fun f w'=>∃ (gA:Nat) (fR:aM) (fU:Nat),Hz f [(0,aA s),(2,pB b1),(5,pB gA),(19,.agg #[I ((addrOf ((aB (58:UInt8) s).getD 0 []) (cZ ((aB (58:UInt8) s).getD 1 []))).1),.slice fR (((addrOf ((aB (58:UInt8) s).getD 0 []) (cZ ((aB (58:UInt8) s).getD 1 []))).2.1).length) fU,aA ((addrOf ((aB (58:UInt8) s).getD 0 []) (cZ ((aB (58:UInt8) s).getD 1 []))).2.2.1),I ((addrOf ((aB (58:UInt8) s).getD 0 []) (cZ ((aB (58:UInt8) s).getD 1 []))).2.2.2)])]∧SH w w' [] [.blk b1 74 eA,.own (Z7 b2) ((aB (58:UInt8) s).length) c1 9 1 ((aB (58:UInt8) s).map aA),(P8 fR s fU),.blk gA 74 eA]) ?_ (fun D_4_0=>?_)
  ·rintro f w4 ⟨gA,fR,fU,⟨g1,rfl⟩,aZ⟩
   refine aO 9 r0 (sG (G6 s fR fU) aZ 3 r0 cG (fun w5 bG=>nk ⟨_,bG,cC 0 r0,cC 1 r0,aH⟩ (aQ ?_)))
   exact⟨gA,fR,fU,(zR r0),bG⟩
  refine dG 2 10 255 (fun f w'=>∃ (fR:aM) (fU:Nat),Hz f [(0,aA s),(2,pB b1),(19,.agg #[I ((addrOf ((aB (58:UInt8) s).getD 0 []) (cZ ((aB (58:UInt8) s).getD 1 []))).1),.slice fR (((addrOf ((aB (58:UInt8) s).getD 0 []) (cZ ((aB (58:UInt8) s).getD 1 []))).2.1).length) fU,aA ((addrOf ((aB (58:UInt8) s).getD 0 []) (cZ ((aB (58:UInt8) s).getD 1 []))).2.2.1),I ((addrOf ((aB (58:UInt8) s).getD 0 []) (cZ ((aB (58:UInt8) s).getD 1 []))).2.2.2)])]∧SH w w' [] [.blk b1 74 eA,.own (Z7 b2) ((aB (58:UInt8) s).length) c1 9 1 ((aB (58:UInt8) s).map aA),(P8 fR s fU)]) ?_ (fun D_4_1=>?_)
  ·rintro f w6 ⟨fR,fU,⟨g2,rfl⟩,bU⟩
   exact aO 8 r0 (al (cs:=eA) bU kZ r0 aH r0 (fun gA w7 bV=>nk ⟨_,bV,cC 0 r0,cC 1 r0,aH⟩ (bS D_4_0 ⟨gA,fR,fU,(zR r0),bV⟩)))
  refine dG 2 10 383 (fun f w'=>∃ (gA:Nat),Hz f [(0,aA s),(2,pB b1),(5,pB gA),(14,aA ((aB (58:UInt8) s).getD 0 [])),(18,I (cZ ((aB (58:UInt8) s).getD 1 [])))]∧SH w w' [] [.blk b1 74 eA,.own (Z7 b2) ((aB (58:UInt8) s).length) c1 9 1 ((aB (58:UInt8) s).map aA),.blk gA 74 eA]) ?_ (fun D_4_2=>?_)
  ·rintro f w8 ⟨gA,⟨g3,rfl⟩,b9⟩
   exact aO 7 r0 (dP b9 r0 (IP ((aB (58:UInt8) s).getD 0 []) (cZ ((aB (58:UInt8) s).getD 1 [])) _ (by(have aK:=lH 58 s 0; have aE:=lH 58 s 1; have aI:=CG ((aB 58 s).getD 0 []) (cZ ((aB 58 s).getD 1 [])); omega))) (fun fR fU w9 cM=>nk ⟨_,cM,cC 0 r0,cC 1 r0,aH⟩ (bS D_4_0 ⟨gA,fR,fU,(zR r0),(cM.pk [0,1,3,2] r0)⟩)))
  refine dG 3 10 127 (fun f w'=>Hz f [(0,aA s),(2,pB b1),(14,aA ((aB (58:UInt8) s).getD 0 [])),(18,I (cZ ((aB (58:UInt8) s).getD 1 [])))]∧SH w w' [] [.blk b1 74 eA,.own (Z7 b2) ((aB (58:UInt8) s).length) c1 9 1 ((aB (58:UInt8) s).map aA)]) ?_ (fun D_4_3=>?_)
  ·rintro f kF ⟨⟨g4,rfl⟩,cW⟩
   refine jN [7,8] (eX ?_ (jP ?_))
   ·exact eI r0 (dP cW r0 (IP ((aB (58:UInt8) s).getD 0 []) (cZ ((aB (58:UInt8) s).getD 1 [])) _ (by(have aK:=lH 58 s 0; have aE:=lH 58 s 1; have aI:=CG ((aB 58 s).getD 0 []) (cZ ((aB 58 s).getD 1 [])); omega))) (fun fR fU kB dB=>nk ⟨_,dB,cC 0 r0,cC 1 r0,aH⟩ (bS D_4_1 ⟨fR,fU,(zR r0),dB⟩)))
   exact eI r0 (al (cs:=eA) cW kZ r0 aH r0 (fun gA kI cY=>nk ⟨_,cY,cC 0 r0,cC 1 r0,aH⟩ (bS D_4_2 ⟨gA,(zR r0),cY⟩)))
  refine dG 3 10 319 (fun f w'=>∃ (gA:Nat),Hz f [(0,aA s),(2,pB b1),(5,pB gA),(14,aA ((aB (58:UInt8) s).getD 0 [])),(17,aA ((aB (58:UInt8) s).getD 1 []))]∧SH w w' [] [.blk b1 74 eA,.own (Z7 b2) ((aB (58:UInt8) s).length) c1 9 1 ((aB (58:UInt8) s).map aA),.blk gA 74 eA]) ?_ (fun D_4_4=>?_)
  ·rintro f lU ⟨gA,⟨g5,rfl⟩,dJ⟩
   exact aO 6 r0 (cS dJ r0 (GC ((aB (58:UInt8) s).getD 1 []) _ (by(have aK:=lH 58 s 0; have aE:=lH 58 s 1; have aI:=CG ((aB 58 s).getD 0 []) (cZ ((aB 58 s).getD 1 [])); omega))) (fun mH dM=>nk ⟨_,dM,cC 0 r0,cC 1 r0,aH⟩ (bS D_4_2 ⟨gA,(zR r0),dM⟩)))
  refine dG 4 10 63 (fun f w'=>Hz f [(0,aA s),(2,pB b1),(14,aA ((aB (58:UInt8) s).getD 0 [])),(17,aA ((aB (58:UInt8) s).getD 1 []))]∧SH w w' [] [.blk b1 74 eA,.own (Z7 b2) ((aB (58:UInt8) s).length) c1 9 1 ((aB (58:UInt8) s).map aA)]) ?_ (fun D_4_5=>?_)
  ·rintro f mI ⟨⟨g6,rfl⟩,eO⟩
   refine jN [6,8] (eX ?_ (jP ?_))
   ·exact eI r0 (cS eO r0 (GC ((aB (58:UInt8) s).getD 1 []) _ (by(have aK:=lH 58 s 0; have aE:=lH 58 s 1; have aI:=CG ((aB 58 s).getD 0 []) (cZ ((aB 58 s).getD 1 [])); omega))) (fun mU eK=>nk ⟨_,eK,cC 0 r0,cC 1 r0,aH⟩ (bS D_4_3 ⟨(zR r0),eK⟩)))
   exact eI r0 (al (cs:=eA) eO kZ r0 aH r0 (fun gA n6 eZ=>nk ⟨_,eZ,cC 0 r0,cC 1 r0,aH⟩ (bS D_4_4 ⟨gA,(zR r0),eZ⟩)))
  have fV:=aI.drew
  exact tQ (fuel:=4) (is:=[0,1,2,3,4,5]) (.cons r0 (.cons r0 (.cons r0 (.cons r0 (.cons r0 (.cons r0 (.nil))))))) ⟨_,fV,cC 0 r0,cC 1 r0,aH⟩ (yA r0 (mv (v:=sb b2 ((aB (58:UInt8) s).length) c1) r0) (yA r0 (lR 0 fZ r0 r0 (by omega)) (yB r0 (fun ⟨Lq,aU,dH,j0,_⟩=>s8 (g:=aA) (ys:=aB (58:UInt8) s) (o:=0) [] aU j0 r0 (by omega) eC) (yA r0 (mv (v:=sb b2 ((aB (58:UInt8) s).length) c1) r0) (yA r0 (lR 1 fZ r0 r0 (by omega)) (yB r0 (fun ⟨Lq,aU,dH,j0,_⟩=>s8 (g:=aA) (ys:=aB (58:UInt8) s) (o:=1) [] aU j0 r0 (by omega) eC) (.nil (bS D_4_5 ⟨(zR r0),fV⟩))))))))
 rintro f m9 ⟨gA,fR,fU,⟨g7,rfl⟩,fD⟩
 refine nN (sq (sr (qt r0 (lG (G6 s fR fU) fD 3 r0 cG) (cS fD r0 (AF ((addrOf ((aB (58:UInt8) s).getD 0 []) (cZ ((aB (58:UInt8) s).getD 1 []))).1) ((addrOf ((aB (58:UInt8) s).getD 0 []) (cZ ((aB (58:UInt8) s).getD 1 []))).2.1) ((addrOf ((aB (58:UInt8) s).getD 0 []) (cZ ((aB (58:UInt8) s).getD 1 []))).2.2.1) ((addrOf ((aB (58:UInt8) s).getD 0 []) (cZ ((aB (58:UInt8) s).getD 1 []))).2.2.2) _ (fD.cI 2 r0) (by(have aK:=lH 58 s 0; have aE:=lH 58 s 1; have aI:=CG ((aB 58 s).getD 0 []) (cZ ((aB 58 s).getD 1 [])); omega))) (fun qQ gK=>qt r0 (nt r0) (tm (.bool (!(dN ((addrOf ((aB (58:UInt8) s).getD 0 []) (cZ ((aB (58:UInt8) s).getD 1 []))).1) ((addrOf ((aB (58:UInt8) s).getD 0 []) (cZ ((aB (58:UInt8) s).getD 1 []))).2.1) ((addrOf ((aB (58:UInt8) s).getD 0 []) (cZ ((aB (58:UInt8) s).getD 1 []))).2.2.1) ((addrOf ((aB (58:UInt8) s).getD 0 []) (cZ ((aB (58:UInt8) s).getD 1 []))).2.2.2)))) r0 (hP 23 r0 (fun h2=>?_) (fun h2=>?_))))))))
 ·have h3:=dX h2
  refine aT r0 (aT r0 (aT r0 (aT r0 (qt r0 (pt (v:=.bool true) r0 r0) (nn (fX r0 (sr (qt r0 (bQ (v:=.agg #[I 0,ns,aA [],I 0]) [] r0) (sG eA gK 0 r0 cG (fun rJ hU=>tA (.bool false) r0 (nn ?_)))))))))))
  have iN:=hU.pq [3] r0
  refine rt (tR (bO (cX iN 0 r0 r0 cG r0 (.tmp .nil)) r0 ?_))
  have iB:=iN.nl [Z0] r0
  have e2:aG s=((0,([]:aC),[],0),false):=by exact Ey ‹_›
  rw[e2]
  exact⟨none,0,rfl,(iB.pk [1] r0)⟩
 have h4:=dY h2
 refine qh r0 (lG (G6 s fR fU) gK 3 r0 cG) (cl ⟨_,rfl,rfl⟩ r0 (TD ((addrOf ((aB (58:UInt8) s).getD 0 []) (cZ ((aB (58:UInt8) s).getD 1 []))).1) ((addrOf ((aB (58:UInt8) s).getD 0 []) (cZ ((aB (58:UInt8) s).getD 1 []))).2.1) ((addrOf ((aB (58:UInt8) s).getD 0 []) (cZ ((aB (58:UInt8) s).getD 1 []))).2.2.1) ((addrOf ((aB (58:UInt8) s).getD 0 []) (cZ ((aB (58:UInt8) s).getD 1 []))).2.2.2) _ (gK.cI 2 r0) (by(have aK:=lH 58 s 0; have aE:=lH 58 s 1; have aI:=CG ((aB 58 s).getD 0 []) (cZ ((aB 58 s).getD 1 [])); omega))) ?_)
 rintro _ tL ⟨rfl,iE⟩
 replace iE:=gK.cJ iE
 refine qh r0 (mv (v:=aA s) r0) (qh r0 (v8 r0 r0) (qt r0 (pf (v:=.bool (decide (gZ ((addrOf ((aB (58:UInt8) s).getD 0 []) (cZ ((aB (58:UInt8) s).getD 1 []))).1) ((addrOf ((aB (58:UInt8) s).getD 0 []) (cZ ((aB (58:UInt8) s).getD 1 []))).2.1) ((addrOf ((aB (58:UInt8) s).getD 0 []) (cZ ((aB (58:UInt8) s).getD 1 []))).2.2.1) ((addrOf ((aB (58:UInt8) s).getD 0 []) (cZ ((aB (58:UInt8) s).getD 1 []))).2.2.2)≠s))) r0 r0) (nn (bI r0 (fun h5=>?_) (fun h5=>?_)))))
 ·refine sr (qt r0 (bQ (v:=.agg #[I 0,ns,aA [],I 0]) [] r0) (sG eA iE 0 r0 cG (fun sC jB=>tA (.bool false) r0 (nn ?_))))
  have gV:=jB.pq [3] r0
  refine rt (tR (bO (cX gV 0 r0 r0 cG r0 (.tmp .nil)) r0 ?_))
  have kU:=gV.nl [Z0] r0
  have e3:aG s=((0,([]:aC),[],0),false):=by exact Ez ‹_›
  rw[e3]
  exact⟨none,0,rfl,(kU.pk [1] r0)⟩
 refine sk (nN (sr (qt r0 (lG (G6 s fR fU) iE 3 r0 cG) (sG (G6 s fR fU) iE 0 r0 cG (fun vK kV=>tA (.bool true) r0 (nn ?_))))))
 have kY:=kV.pq [1,3] r0
 refine rt (bO (cX kY 1 r0 r0 cG r0 (.tmp .nil)) r0 ?_)
 have e4:aG s=(((addrOf ((aB (58:UInt8) s).getD 0 []) (cZ ((aB (58:UInt8) s).getD 1 []))).1,(addrOf ((aB (58:UInt8) s).getD 0 []) (cZ ((aB (58:UInt8) s).getD 1 []))).2.1,(addrOf ((aB (58:UInt8) s).getD 0 []) (cZ ((aB (58:UInt8) s).getD 1 []))).2.2.1,(addrOf ((aB (58:UInt8) s).getD 0 []) (cZ ((aB (58:UInt8) s).getD 1 []))).2.2.2),true):=by exact Fa ‹_› ‹_› ‹_›
 rw[e4]
 exact⟨fR,fU,rfl,(kY.pk [0] r0)⟩
theorem Vk (p:Lg→Bool) {Azs:aM} {czs:Nat} (zs:List (aD×aD)) (kf:FuncId) (w:World) (hzs:Sl w [] 2 Azs zs.length czs (zs.flatMap eH)) (H2: ∀ u∈zs,u.1.length≤9223372036854775807∧u.2.length≤9223372036854775807) (hf: ∀ (x:Lg) (w:World) (_:x.1.length≤9223372036854775807∧x.2.length≤9223372036854775807),bF prog kf [.agg #[aA x.1,aA x.2]] w (fun v w'=>v=.bool (p x)∧SH w w' [] [])):bF prog 96 [.slice Azs zs.length czs,.func (.func kf) #[] #[]] w (fun v w'=>v=.int .i64 (m5 p zs)∧SH w w' [] []):=by
 refine fQ 19 func96 r0 r0 ?_
 have aK:=SH.refl w []
 have sY:zs.length≤9223372036854775807:=cB hzs.cap hzs.cO
 refine sr (tA (I 0) r0 (nn (sq (sr (tm (oN Azs zs czs) r0 (qt r0 (dK pP r0) (tm (I 0) r0 (nn (bl (lp (σ:=Nat) (fun(k:Nat) f w'=>Has f [(0,.slice Azs zs.length czs),(1,.func (.func kf) #[] #[]),(7,I (zs.length:Int)),(8,I (k:Int))]∧(k≤zs.length)∧(∀ j,j<k→p (zs.getD j lS)=false)∧SH w w' [] []) (fun k=>zs.length-k) 0 ⟨(hA r0),(by simp),(by intro j hj; omega),aK⟩ ?_))))))))))
 rintro k f w1 ⟨hf,hk,hn,aE⟩
 obtain ⟨g1,rfl⟩:=NA hf
 clear hf
 refine sr (qt r0 (lss r0 r0) (nn (sq (bI r0 (fun h1=>?_) (fun h1=>?_)))))
 ·refine sk (nN (sq (bl (sr (tm (I (k:Int)) r0 (tA (I (k:Int)) r0 (nx (tm (.func (.func kf) #[] #[]) r0 (tm (oN Azs zs czs) r0 (tm (I (k:Int)) r0 (H6 (g:=eH) (zs:=zs) (fun _=>rfl) lS k pP r0 r0 hzs (by omega) (by omega) aH r0 (fun a1 eL=>qt r0 (KN (us:=[aA ((zs.getD k lS).1),aA ((zs.getD k lS).2)]) aE eL (fun _ h=>h) r0 r0 jI) (QJ (k:=kf) aH r0 r0 (hf (zs.getD k lS) _ (H2 _ (CV (by omega)))) ?_)))))))))))))
  rintro _ w2 ⟨rfl,aI⟩
  replace aI:=aE.cJ aI
  refine nn (cd r0 (fun h2=>?_) (fun h2=>?_))
  ·exact sr (tm (I (k:Int)) r0 (tA (I (k:Int)) r0 (nn (rt (bR (tR (tR (bR (tR (fI r0 (NY (d:=lS) (by omega) hn h2) aI))))))))))
  refine sk (bN (nN (rg (qt r0 (add r0 r0 (by exact⟨by omega,by omega⟩)) (tm (I ((k:Int)+1)) r0 (nn ?_))))))
  refine⟨(k+1),⟨(hA r0),(by omega),(by intro j hj; rcases Nat.lt_succ_iff_lt_or_eq.1 hj with h | h; exact hn j h; subst h; exact h2),aI⟩,?_⟩
  omega
 refine ex (tE (tE (bE (nN (sr (tA (I (-1)) r0 (nn (rt (fT (I (-1)) r0 ?_)))))))))
 have e2:(-1)=m5 p zs:=by exact NZ (d:=lS) (fun j hj=>hn j (by omega))
 exact⟨(aS (Value.int .i64) e2),aE⟩
theorem Va (p:Lg→Bool) {Azs:aM} {czs:Nat} (zs:List (aD×aD)) (kf:FuncId) (w:World) (hzs:Sl w [] 2 Azs zs.length czs (zs.flatMap eH)) (H2: ∀ u∈zs,u.1.length≤9223372036854775807∧u.2.length≤9223372036854775807) (hf: ∀ (x:Lg) (w:World) (_:x.1.length≤9223372036854775807∧x.2.length≤9223372036854775807),bF prog kf [.agg #[aA x.1,aA x.2]] w (fun v w'=>v=.bool (p x)∧SH w w' [] [])):bF prog 58 [.slice Azs zs.length czs,.func (.func kf) #[] #[]] w (fun v w'=>v=.bool (zs.any p)∧SH w w' [] []):=by
 refine fQ 9 func58 r0 r0 ?_
 have aK:=SH.refl w []
 have sY:zs.length≤9223372036854775807:=cB hzs.cap hzs.cO
 refine sr (tA (.bool false) r0 (nx (tm (oN Azs zs czs) r0 (tm (.func (.func kf) #[] #[]) r0 (cS aK r0 (Vk _ _ _ _ (hzs.aP aK) H2 hf) (fun w1 aE=>qt r0 (geq r0 r0) (tA (.bool (decide ((0:Int)≤(m5 p zs)))) r0 (nn (rt (fT (.bool (decide ((0:Int)≤(m5 p zs)))) r0 ?_))))))))))
 have e1:(decide ((0:Int)≤(m5 p zs)))=zs.any p:=by exact NX p zs
 exact⟨(aS (Value.bool) e1),aE⟩
theorem Mh (m:Int) (w:World):bF prog 57 [I m] w (fun v w'=>v=.bool (decide (m≠0∧m≠2))∧SH w w' [] []):=by
 refine fQ 9 func57 r0 r0 ?_
 have aK:=SH.refl w []
 refine sr (tA (.bool false) r0 (nx (tm (I m) r0 (qt r0 (nK r0 r0) (tm (.bool (decide (m≠0))) r0 (fF 5 r0 (fun h1=>?_) (fun h1=>?_)))))))
 ·refine qh r0 (mv (v:=I m) r0) (qh r0 (nK r0 r0) (qt r0 (pt (v:=.bool (decide (m≠2))) r0 r0) (tA (.bool (decide (m≠2))) r0 (nn (rt (fT (.bool (decide (m≠2))) r0 ?_))))))
  have e1:(decide (m≠2))=(decide (m≠0∧m≠2)):=by simp[h1]
  exact⟨(aS (Value.bool) e1),aK⟩
 refine bA r0 (bA r0 (qt r0 (pf (v:=.bool false) r0 r0) (tA (.bool false) r0 (nn (rt (fT (.bool false) r0 ?_))))))
 have e2:false=(decide (m≠0∧m≠2)):=by simp[h1]
 exact⟨(aS (Value.bool) e2),aK⟩
theorem Mi (lu:aD) (lw:aD) (w:World) (HV:lu.length≤9223372036854775807) (HW:lw.length≤9223372036854775807):bF prog 59 [.agg #[aA lu,aA lw]] w (fun v w'=>v=.bool (!iW lu lw)∧SH w w' [] []):=by
 refine fQ 6 func59 r0 r0 ?_
 have aK:=SH.refl w []
 refine sr (bx (v:=.agg #[aA lu,aA lw]) (cs:=[aA lu,aA lw]) aK r0 r0 aH r0 (fun b1 w1 aE=>tA (.bool false) r0 (nx (qt r0 (lG [aA lu,aA lw] aE 0 r0 jI) (cS aE r0 (NU _ _ _ (by omega) (by omega)) (fun w2 aI=>qt r0 (nt r0) (tA (.bool (!(iW lu lw))) r0 (nn (rt (fT (.bool (!(iW lu lw))) r0 ?_))))))))))
 have e1:(!(iW lu lw))=!iW lu lw:=by rfl
 exact⟨(aS (Value.bool) e1),(aI.pk [] r0)⟩
theorem XJ (sx:Int) {Awt:aM} {cwt:Nat} (wt:aC) {Alg:aM} {clg:Nat} (lg:List (aD×aD)) (to:aD) (w:World) (hwt:Sl w [] 1 Awt wt.length cwt (wt.map I)) (hlg:Sl w [] 2 Alg lg.length clg (lg.flatMap eH)) (jS: ∀ u∈lg,u.1.length≤9223372036854775807∧u.2.length≤9223372036854775807) (RP:to.length≤1099511627776) (hGp:bZ prog w [] "internal/strconv.uint64pow10" jH) (hEr:bZ prog w [] "strconv.ErrRange" fH) (hEs:bZ prog w [] "strconv.ErrSyntax" fH):bF prog 31 [.agg #[I sx,.slice Awt wt.length cwt,.slice Alg lg.length clg,aA to]] w (fun v w'=>v=.bool (iV sx wt lg to)∧SH w w' [] []):=by
 refine fQ 51 func31 r0 r0 ?_
 have aK:=SH.refl w []
 have rB:wt.length≤9223372036854775807:=cB hwt.cap hwt.cO
 have rA:lg.length≤9223372036854775807:=cB hlg.cap hlg.cO
 refine sr (bx (v:=.agg #[I sx,(Z4 Awt wt cwt),(cA Alg lg clg),aA to]) (cs:=[I sx,(Z4 Awt wt cwt),(cA Alg lg clg),aA to]) aK r0 r0 aH r0 (fun b1 w1 aE=>tA (.bool false) r0 (nn (sq (sr (qt r0 (fa 0 o7 r0) (qt r0 (lD (I sx) aE 0 r0 cN) (cS aE r0 (x4 _ 0 4 _) (fun w2 aI=>qt r0 (nd r0) (tm (.bool (decide (¬ (0≤sx∧sx≤4)))) r0 (fF 9 r0 (fun h1=>?_) (fun h1=>?_))))))))))))
 ·exact aT r0 (aT r0 (aT r0 (aT r0 (qt r0 (pt (v:=.bool true) r0 r0) (tm (.bool true) r0 (aT r0 (aT r0 (aT r0 (aT r0 (qt r0 (pt (v:=.bool true) r0 r0) (nn (fX r0 (sr (tA (.bool false) r0 (nn (rt (tR (fB r0 (Cq ‹_›) (aI.pk [] r0)))))))))))))))))))
 refine qh r0 (fa 1 xV r0) (qh r0 (lD (cD Awt wt cwt) aI 0 r0 j4) (cl ⟨_,rfl,rfl⟩ r0 (NT _ _ (hwt.aP aI)) ?_))
 rintro _ w3 ⟨rfl,aN⟩
 replace aN:=aI.cJ aN
 refine qh r0 (nt r0) (qt r0 (pf (v:=.bool (!(j9 wt))) r0 r0) (tm (.bool (!(j9 wt))) r0 (hP 15 r0 (fun h2=>?_) (fun h2=>?_))))
 ·have h3:=dX h2
  exact aT r0 (aT r0 (aT r0 (aT r0 (qt r0 (pt (v:=.bool true) r0 r0) (nn (fX r0 (sr (tA (.bool false) r0 (nn (rt (tR (fB r0 (Xd ‹_›) (aN.pk [] r0)))))))))))))
 have h4:=dY h2
 refine qh r0 (fa 2 CR r0) (qh r0 (lD (oN Alg lg clg) aN 0 r0 AE) (qh r0 (dK pP r0) (qh r0 (gtr r0 r0) (qt r0 (pf (v:=.bool (decide ((4:Int)<(lg.length:Int)))) r0 r0) (nn (bI r0 (fun h5=>?_) (fun h5=>?_)))))))
 ·exact sr (tA (.bool false) r0 (nn (rt (tR (fB r0 (Xe ‹_›) (aN.pk [] r0))))))
 refine sk (nN (sq (sr (qt r0 (fa 1 xV r0) (qt r0 (lD (cD Awt wt cwt) aN 0 r0 j4) (cS aN r0 (Bt (fun m=>(decide (m≠0∧m≠2))) _ 57 _ (hwt.aP aN) (fun x w=>Mh x w)) (fun w4 aR=>tm (.bool (wt.any (fun m=>(decide (m≠0∧m≠2))))) r0 (hP 24 r0 (fun h6=>?_) (fun h6=>?_)))))))))
 ·exact aT r0 (aT r0 (aT r0 (qt r0 (pt (v:=.bool true) r0 r0) (nn (fX r0 (sq (rg (tA (.bool false) r0 (nn (rt (tR (fB r0 (Xf ‹_›) (aR.pk [] r0)))))))))))))
 refine qh r0 (fa 2 CR r0) (qh r0 (lD (oN Alg lg clg) aR 0 r0 AE) (cl ⟨_,rfl,rfl⟩ r0 (Va (fun x=>(!iW x.1 x.2)) _ 59 _ (hlg.aP aR) jS (fun x w hx=>Mi (lu:=x.1) (lw:=x.2) w hx.1 hx.2)) ?_))
 rintro _ w5 ⟨rfl,aZ⟩
 replace aZ:=aR.cJ aZ
 refine qt r0 (pf (v:=.bool (lg.any (fun x=>(!iW x.1 x.2)))) r0 r0) (nn (cd r0 (fun h7=>?_) (fun h7=>?_)))
 ·exact sr (tA (.bool false) r0 (nn (rt (tR (fB r0 (Xg ‹_›) (aZ.pk [] r0))))))
 refine sk (nN (sq (sr (qt r0 (fa 0 o7 r0) (qt r0 (lD (I sx) aZ 0 r0 cN) (qt r0 (dO r0 r0) (tm (sP sx) r0 (fF 32 r0 (fun h8=>?_) (fun h8=>?_)))))))))
 ·refine qh r0 (fa 1 xV r0) (qh r0 (lD (cD Awt wt cwt) aZ 0 r0 j4) (cl ⟨_,rfl,rfl⟩ r0 (TN _ 2 _ (hwt.aP aZ)) ?_))
  rintro _ w6 ⟨rfl,bG⟩
  replace bG:=aZ.cJ bG
  refine qh r0 (nd r0) (qt r0 (pt (v:=.bool (decide (¬ (2∈wt)))) r0 r0) (nn (bI r0 (fun h9=>?_) (fun h9=>?_))))
  ·exact sr (tA (.bool false) r0 (nn (rt (tR (fB r0 (Cr ‹_› ‹_›) (bG.pk [] r0))))))
  refine sk (nN (sq (sr (qt r0 (fa 0 o7 r0) (qt r0 (lD (I sx) bG 0 r0 cN) (qt r0 (dO r0 r0) (nn (bI r0 (fun mR=>?_) (fun mR=>?_)))))))))
  ·exact sr (qt r0 (fa 3 A0 r0) (qt r0 (lD (aA to) bG 0 r0 eC) (dP bG r0 (C9 _ _ (by omega) (hGp.aP bG) (hEr.aP bG) (hEs.aP bG)) (fun eF eG w7 bU=>tm (.tuple #[.agg #[I ((aG to).1.1),(CF eF to eG),aA ((aG to).1.2.2.1),I ((aG to).1.2.2.2)],.bool ((aG to).2)]) r0 (qt r0 (xt 0 r0 r0) (qt r0 (xt 1 r0 r0) (al (cs:=eA) bU kZ r0 aH r0 (fun b2 w8 bV=>sG (HC to eF eG) bV 2 r0 cG (fun w9 b9=>tA (xP to) r0 (nx (tm (xP to) r0 (tA (xP to) r0 (nl (nN (rt (tR (fB r0 (Ct (by exact Decidable.not_not.1 ‹_›) ‹_› ‹_› ‹_› ‹_› (by intro q; exact Decidable.not_not.1 ‹_›) ‹_›) (b9.pk [] r0))))))))))))))))))
  refine sk (nN (sr (qt r0 (fa 3 A0 r0) (qt r0 (lD (aA to) bG 0 r0 eC) (qt r0 (eqs r0 r0) (tA (yY to) r0 (nn (rt (fT (yY to) r0 ?_)))))))))
  have e8:(decide (to=[]))=iV sx wt lg to:=by exact Cu (by exact Decidable.not_not.1 ‹_›) ‹_› ‹_› ‹_› ‹_› (by intro q; exact Decidable.not_not.1 ‹_›) ‹_›
  exact⟨(aS (Value.bool) e8),(bG.pk [] r0)⟩
 refine bA r0 (bA r0 (bA r0 (bA r0 (qt r0 (pf (v:=.bool false) r0 r0) (nn (qV r0 (sk (nN (sq (sr (qt r0 (fa 0 o7 r0) (qt r0 (lD (I sx) aZ 0 r0 cN) (qt r0 (dO r0 r0) (nn (bI r0 (fun vX=>?_) (fun vX=>?_))))))))))))))))
 ·exact sr (qt r0 (fa 3 A0 r0) (qt r0 (lD (aA to) aZ 0 r0 eC) (dP aZ r0 (C9 _ _ (by omega) (hGp.aP aZ) (hEr.aP aZ) (hEs.aP aZ)) (fun DY EO kF cM=>tm (.tuple #[.agg #[I ((aG to).1.1),(CF DY to EO),aA ((aG to).1.2.2.1),I ((aG to).1.2.2.2)],.bool ((aG to).2)]) r0 (qt r0 (xt 0 r0 r0) (qt r0 (xt 1 r0 r0) (al (cs:=eA) cM kZ r0 aH r0 (fun b3 kB cW=>sG (HC to DY EO) cW 2 r0 cG (fun kI dB=>tA (xP to) r0 (nx (tm (xP to) r0 (tA (xP to) r0 (nl (nN (rt (tR (fB r0 (Ct (by exact Decidable.not_not.1 ‹_›) ‹_› ‹_› ‹_› ‹_› (by intro q; exact absurd q ‹_›) ‹_›) (dB.pk [] r0))))))))))))))))))
 refine sk (nN (sr (qt r0 (fa 3 A0 r0) (qt r0 (lD (aA to) aZ 0 r0 eC) (qt r0 (eqs r0 r0) (tA (yY to) r0 (nn (rt (fT (yY to) r0 ?_)))))))))
 have lP:(decide (to=[]))=iV sx wt lg to:=by exact Cu (by exact Decidable.not_not.1 ‹_›) ‹_› ‹_› ‹_› ‹_› (by intro q; exact absurd q ‹_›) ‹_›
 exact⟨(aS (Value.bool) lP),(aZ.pk [] r0)⟩
theorem Ba {Awt:aM} {cwt:Nat} (wt:aC) {Alg:aM} {clg:Nat} (lg:List (aD×aD)) (w:World) (hwt:Sl w [] 1 Awt wt.length cwt (wt.map I)) (hlg:Sl w [] 2 Alg lg.length clg (lg.flatMap eH)) (jS: ∀ u∈lg,u.1.length≤9223372036854775807∧u.2.length≤9223372036854775807):bF prog 42 [.slice Awt wt.length cwt,.slice Alg lg.length clg] w (fun v w'=>v=.bool (sD wt lg)∧SH w w' [] []):=by
 refine fQ 44 func42 r0 r0 ?_
 have aK:=SH.refl w []
 have rB:wt.length≤9223372036854775807:=cB hwt.cap hwt.cO
 have rA:lg.length≤9223372036854775807:=cB hlg.cap hlg.cO
 refine sr (tA (.bool false) r0 (nn (sq (sr (tA (I 0) r0 (nn (bl (lp (σ:=Nat) (fun(j:Nat) f w'=>Hz f [(0,.slice Awt wt.length cwt),(1,.slice Alg lg.length clg),(5,I (j:Int))]∧(j≤wt.length)∧((wt.take j).all (fun m=>decide (m=0∨m=2))=true)∧SH w w' [] []) (fun j=>wt.length-j) 0 ⟨(zR r0),(by simp),(by simp),aK⟩ ?_))))))))
 rintro j f w1 ⟨⟨g1,rfl⟩,hj,ha,aE⟩
 refine sq (sr (tm (I (j:Int)) r0 (tm (cD Awt wt cwt) r0 (qt r0 (dK aV r0) (qt r0 (lss r0 r0) (nl (nN (bI r0 (fun h1=>?_) (fun h1=>?_)))))))))
 ·refine sk (nN (sq (bl (sr (tm (cD Awt wt cwt) r0 (tm (I (j:Int)) r0 (gN j aV r0 r0 hwt (by omega) (eQ I 0 (by omega)) aH r0 (fun a1 eL=>qt r0 (eW aE eL (fun _ h=>h) r0 r0 cN) (qt r0 (nK r0 r0) (tm (.bool (decide ((wt.getD j 0)≠0))) r0 (fF 18 r0 (fun h2=>?_) (fun h2=>?_))))))))))))
  ·refine qh r0 (mv (v:=.slice Awt wt.length cwt) r0) (qh r0 (mv (v:=I (j:Int)) r0) (gN j aV r0 r0 hwt (by omega) (eQ I 0 (by omega)) ⟨_,rfl,rfl⟩ r0 (fun a2 jG=>qh r0 (eW aE jG (fun _ h=>h) r0 r0 cN) (qh r0 (nK r0 r0) (qt r0 (pt (v:=.bool (decide ((wt.getD j 0)≠2))) r0 r0) (nn (bI r0 (fun h3=>?_) (fun h3=>?_))))))))
   ·exact sr (tA (.bool false) r0 (nn (rt (bR (tR (tR (bR (tR (fB r0 (Ys (k:=j) (by omega) ⟨by assumption,by assumption⟩) aE)))))))))
   refine sk (bN (nN (rg (tm (I (j:Int)) r0 (qt r0 (add r0 r0 (by(exact⟨by omega,by omega⟩))) (tA (I ((j:Int)+1)) r0 (nl (nN ?_))))))))
   refine⟨(j+1),⟨(zR r0),(by omega),(wL (d:=0) (by omega) ha (by simp only[kP]; omega)),aE⟩,?_⟩
   omega
  refine bA r0 (bA r0 (bA r0 (bA r0 (bA r0 (qt r0 (pf (v:=.bool false) r0 r0) (nn (qV r0 (sk (bN (nN (rg (tm (I (j:Int)) r0 (qt r0 (add r0 r0 (by(exact⟨by omega,by omega⟩))) (tA (I ((j:Int)+1)) r0 (nn ?_)))))))))))))))
  refine⟨(j+1),⟨(zR r0),(by omega),(wL (d:=0) (by omega) ha (by simp only[kP]; omega)),aE⟩,?_⟩
  omega
 refine ex (tE (tE (bE (nN (sq (sr (tA (I 0) r0 (nn (bl ?_)))))))))
 refine lp (σ:=Nat) (fun(k:Nat) f w'=>Hz f [(0,.slice Awt wt.length cwt),(1,.slice Alg lg.length clg),(6,I (k:Int))]∧(k≤lg.length)∧((lg.take k).all z7=true)∧SH w w' [] []) (fun k=>lg.length-k) 0 ⟨(zR r0),(by simp),(by simp),aE⟩ ?_
 rintro k f w2 ⟨⟨g2,rfl⟩,hk,hb,aI⟩
 refine sq (sr (tm (I (k:Int)) r0 (tm (oN Alg lg clg) r0 (qt r0 (dK pP r0) (qt r0 (lss r0 r0) (nl (nN (bI r0 (fun h4=>?_) (fun h4=>?_)))))))))
 ·refine sk (nN (sq (bl (sr (tm (oN Alg lg clg) r0 (tm (I (k:Int)) r0 (H6 (g:=eH) (zs:=lg) (fun _=>rfl) lS k pP r0 r0 hlg (by omega) (by omega) aH r0 (fun a3 nV=>qt r0 (KN (us:=[aA ((lg.getD k lS).1),aA ((lg.getD k lS).2)]) aI nV (fun _ h=>h) r0 r0 jI) (cS aI r0 (O9 _ _ _ (by(have hre:=jS _ (CV (d:=lS) (show k<lg.length by omega)); omega)) (by(have hre:=jS _ (CV (d:=lS) (show k<lg.length by omega)); omega))) (fun w3 aN=>qt r0 (nt r0) (nn (cd r0 (fun h5=>?_) (fun h5=>?_)))))))))))))
  ·have h6:=dX h5
   exact sr (tA (.bool false) r0 (nn (rt (bR (tR (tR (bR (tR (fB r0 (Yt (k:=k) (by omega) ‹_›) aN)))))))))
  have h7:=dY h5
  refine sk (bN (nN (rg (tm (I (k:Int)) r0 (qt r0 (add r0 r0 (by(exact⟨by omega,by omega⟩))) (tA (I ((k:Int)+1)) r0 (nl (nN ?_))))))))
  refine⟨(k+1),⟨(zR r0),(by omega),(wL (d:=lS) (by omega) hb ‹_›),aN⟩,?_⟩
  omega
 refine ex (tE (tE (bE (nN (sr (tm (cD Awt wt cwt) r0 (cS aI r0 (PD _ _ (hwt.aP aI)) (fun w4 aR=>tm (.bool (j9 wt)) r0 (hP 39 r0 (fun h8=>?_) (fun h8=>?_))))))))))
 ·exact qh r0 (mv (v:=.slice Alg lg.length clg) r0) (qh r0 (dK pP r0) (qh r0 (leq r0 r0) (qt r0 (pt (v:=.bool (decide ((lg.length:Int)≤4))) r0 r0) (tA (.bool (decide ((lg.length:Int)≤4))) r0 (nn (rt (fB r0 (by(rw[← Eb (j:=j) (k:=k) (by omega) (by omega) ha hb]; simp[h1,h4,h8]; try omega)) aR)))))))
 exact bA r0 (bA r0 (bA r0 (qt r0 (pf (v:=.bool false) r0 r0) (tA (.bool false) r0 (nn (rt (fB r0 (by(rw[← Eb (j:=j) (k:=k) (by omega) (by omega) ha hb]; simp[h1,h4,h8]; try omega)) aR)))))))
theorem Uc (sx:Int) {Awt:aM} {cwt:Nat} (wt:aC) {Alg:aM} {clg:Nat} (lg:List (aD×aD)) (to:aD) (w:World) (hwt:Sl w [] 1 Awt wt.length cwt (wt.map I)) (hlg:Sl w [] 2 Alg lg.length clg (lg.flatMap eH)) (jS: ∀ u∈lg,u.1.length≤9223372036854775807∧u.2.length≤9223372036854775807) (RP:to.length≤1099511627776):bF prog 147 [.agg #[I sx,.slice Awt wt.length cwt,.slice Alg lg.length clg,aA to]] w (fun v w'=>v=.bool (iV sx wt lg to)∧SH w w' [] []):=by
 refine fQ 45 func147 r0 r0 ?_
 have aK:=SH.refl w []
 have rB:wt.length≤9223372036854775807:=cB hwt.cap hwt.cO
 have rA:lg.length≤9223372036854775807:=cB hlg.cap hlg.cO
 refine sr (bx (v:=.agg #[I sx,(Z4 Awt wt cwt),(cA Alg lg clg),aA to]) (cs:=[I sx,(Z4 Awt wt cwt),(cA Alg lg clg),aA to]) aK r0 r0 aH r0 (fun b1 w1 aE=>tA (.bool false) r0 (nx (qt r0 (fa 3 A0 r0) (qt r0 (lD (aA to) aE 0 r0 eC) (dP aE r0 (TC _ _ (by omega)) (fun eF eG w2 aI=>tm (.tuple #[.agg #[I ((aG to).1.1),(CF eF to eG),aA ((aG to).1.2.2.1),I ((aG to).1.2.2.2)],.bool ((aG to).2)]) r0 (qt r0 (xt 0 r0 r0) (qt r0 (xt 1 r0 r0) (al (cs:=eA) aI kZ r0 aH r0 (fun b2 w3 aN=>sG (HC to eF eG) aN 2 r0 cG (fun w4 aR=>tA (xP to) r0 (nn (sq (sr (qt r0 (fa 1 xV r0) (qt r0 (lD (cD Awt wt cwt) aR 0 r0 j4) (qt r0 (fa 2 CR r0) (qt r0 (lD (oN Alg lg clg) aR 0 r0 AE) (cS aR r0 (Ba _ _ _ (hwt.aP aR) (hlg.aP aR) jS) (fun w5 aZ=>qt r0 (nt r0) (tm (.bool (!(sD wt lg))) r0 (hP 17 r0 (fun h1=>?_) (fun h1=>?_))))))))))))))))))))))))
 ·have h2:=dX h1
  exact aT r0 (aT r0 (aT r0 (aT r0 (qt r0 (pt (v:=.bool true) r0 r0) (nn (fX r0 (sr (tA (.bool false) r0 (nn (rt (tR (fB r0 (Yf ‹_›) (aZ.pk [] r0)))))))))))))
 have h3:=dY h1
 refine qh r0 (fa 0 o7 r0) (qh r0 (lD (I sx) aZ 0 r0 cN) (cl ⟨_,rfl,rfl⟩ r0 (wV _ 0 4 _) ?_))
 rintro _ w6 ⟨rfl,bG⟩
 replace bG:=aZ.cJ bG
 refine qh r0 (nd r0) (qt r0 (pf (v:=.bool (decide (¬ (0≤sx∧sx≤4)))) r0 r0) (nn (bI r0 (fun h4=>?_) (fun h4=>?_))))
 ·exact sr (tA (.bool false) r0 (nn (rt (tR (fB r0 (Cq ‹_›) (bG.pk [] r0))))))
 refine sk (nN (sq (sr (qt r0 (fa 0 o7 r0) (qt r0 (lD (I sx) bG 0 r0 cN) (qt r0 (dO r0 r0) (tm (sP sx) r0 (fF 26 r0 (fun h5=>?_) (fun h5=>?_)))))))))
 ·refine qh r0 (fa 1 xV r0) (qh r0 (lD (cD Awt wt cwt) bG 0 r0 j4) (cl ⟨_,rfl,rfl⟩ r0 (R7 _ 2 _ (hwt.aP bG)) ?_))
  rintro _ w7 ⟨rfl,bU⟩
  replace bU:=bG.cJ bU
  refine qh r0 (nd r0) (qt r0 (pt (v:=.bool (decide (¬ (2∈wt)))) r0 r0) (nn (bI r0 (fun h6=>?_) (fun h6=>?_))))
  ·exact sr (tA (.bool false) r0 (nn (rt (tR (fB r0 (Cr ‹_› ‹_›) (bU.pk [] r0))))))
  refine sk (nN (sr (qt r0 (fa 0 o7 r0) (qt r0 (lD (I sx) bU 0 r0 cN) (qt r0 (dO r0 r0) (tm (xP to) r0 (qt r0 (VR (a:=(decide (sx=3))) (b:=((aG to).2)) Cv r0 r0) (tm (.bool (decide ((decide (sx=3))=((aG to).2)))) r0 (fF 37 r0 (fun h7=>?_) (fun h7=>?_))))))))))
  ·refine qh r0 (mv (v:=.bool ((aG to).2)) r0) (qh r0 (mv (v:=.bool ((aG to).2)) r0) (hP 39 r0 (fun h8=>?_) (fun h8=>?_)))
   ·refine aT r0 (aT r0 (aT r0 (qh r0 (pt (v:=.bool true) r0 r0) (qt r0 (pt (v:=.bool true) r0 r0) (tA (.bool true) r0 (nn (rt (fT (.bool true) r0 ?_))))))))
    have e4:true=iV sx wt lg to:=by exact Di ‹_› (by exact Decidable.not_not.1 ‹_›) (by intro q; exact Decidable.not_not.1 ‹_›) ‹_› ‹_›
    exact⟨(aS (Value.bool) e4),(bU.pk [] r0)⟩
   refine qh r0 (fa 3 A0 r0) (qh r0 (lD (aA to) bU 0 r0 eC) (qh r0 (eqs r0 r0) (qh r0 (pf (v:=.bool (decide (to=[]))) r0 r0) (qt r0 (pt (v:=.bool (decide (to=[]))) r0 r0) (tA (yY to) r0 (nn (rt (fT (yY to) r0 ?_))))))))
   have e5:(decide (to=[]))=iV sx wt lg to:=by exact Dj ‹_› (by exact Decidable.not_not.1 ‹_›) (by intro q; exact Decidable.not_not.1 ‹_›) ‹_› ‹_›
   exact⟨(aS (Value.bool) e5),(bU.pk [] r0)⟩
  refine bA r0 (bA r0 (CW r0 r0 r0 r0 r0 (CW r0 r0 r0 r0 r0 (CW r0 r0 r0 r0 r0 (bA r0 (qt r0 (pf (v:=.bool false) r0 r0) (tA (.bool false) r0 (nn (rt (fT (.bool false) r0 ?_))))))))))
  have e6:false=iV sx wt lg to:=by exact Dg ‹_›
  exact⟨(aS (Value.bool) e6),(bU.pk [] r0)⟩
 refine bA r0 (bA r0 (bA r0 (bA r0 (qt r0 (pf (v:=.bool false) r0 r0) (nn (qV r0 (sk (nN (sr (qt r0 (fa 0 o7 r0) (qt r0 (lD (I sx) bG 0 r0 cN) (qt r0 (dO r0 r0) (tm (xP to) r0 (qt r0 (VR (a:=(decide (sx=3))) (b:=((aG to).2)) Cv r0 r0) (tm (.bool (decide ((decide (sx=3))=((aG to).2)))) r0 (fF 37 r0 (fun h9=>?_) (fun h9=>?_)))))))))))))))))
 ·refine qh r0 (mv (v:=.bool ((aG to).2)) r0) (qh r0 (mv (v:=.bool ((aG to).2)) r0) (hP 39 r0 (fun mR=>?_) (fun mR=>?_)))
  ·refine aT r0 (aT r0 (aT r0 (qh r0 (pt (v:=.bool true) r0 r0) (qt r0 (pt (v:=.bool true) r0 r0) (tA (.bool true) r0 (nn (rt (fT (.bool true) r0 ?_))))))))
   have e7:true=iV sx wt lg to:=by exact Di ‹_› (by exact Decidable.not_not.1 ‹_›) (by intro q; exact absurd q ‹_›) ‹_› ‹_›
   exact⟨(aS (Value.bool) e7),(bG.pk [] r0)⟩
  refine qh r0 (fa 3 A0 r0) (qh r0 (lD (aA to) bG 0 r0 eC) (qh r0 (eqs r0 r0) (qh r0 (pf (v:=.bool (decide (to=[]))) r0 r0) (qt r0 (pt (v:=.bool (decide (to=[]))) r0 r0) (tA (yY to) r0 (nn (rt (fT (yY to) r0 ?_))))))))
  have e8:(decide (to=[]))=iV sx wt lg to:=by exact Dj ‹_› (by exact Decidable.not_not.1 ‹_›) (by intro q; exact absurd q ‹_›) ‹_› ‹_›
  exact⟨(aS (Value.bool) e8),(bG.pk [] r0)⟩
 refine bA r0 (bA r0 (CW r0 r0 r0 r0 r0 (CW r0 r0 r0 r0 r0 (CW r0 r0 r0 r0 r0 (bA r0 (qt r0 (pf (v:=.bool false) r0 r0) (tA (.bool false) r0 (nn (rt (fT (.bool false) r0 ?_))))))))))
 have e9:false=iV sx wt lg to:=by exact Dg ‹_›
 exact⟨(aS (Value.bool) e9),(bG.pk [] r0)⟩
theorem Uy {Axs:aM} {cxs:Nat} (xs:List (aD×aD)) (w:World) (hxs:Sl w [] 2 Axs xs.length cxs (xs.flatMap eH)) (Zi: ∀ u∈xs,u.1.length≤9223372036854775807∧u.2.length≤9223372036854775807) (RS:xs.length≤1099511627776):bF prog 53 [.slice Axs xs.length cxs] w (fun v w'=>∃ Ar:aM,∃ cr:Nat,v=.slice Ar xs.length cr∧SH w w' [] [.own Ar xs.length cr 38 2 (xs.flatMap eH)]):=by
 refine fQ 8 func53 r0 r0 ?_
 have aK:=SH.refl w []
 have KJ:xs.length≤9223372036854775807:=cB hxs.cap hxs.cO
 refine sr (tA ns r0 (nn (sq (sr (tm (oN Axs xs cxs) r0 (qt r0 (slnil (A:=Axs) pP r0 r0) (nn (bI r0 (fun h1=>?_) (fun h1=>?_)))))))))
 ·refine sr (tA ns r0 (nn (rt (tR (fT ns r0 ?_)))))
  have aE:=aK.nl [.own none (([]:List (aD×aD)).length) 0 38 2 (([]:List (aD×aD)).flatMap eH)] r0
  have e1:([]:List (aD×aD))=xs:=by exact(Vo hxs ‹_›).symm
  have e2:=aS List.length e1
  exact⟨none,0,(eE r0 e2 r0),(aE.cast (lc (Ra (g:=eH) r0 e2 r0 e1) r0))⟩
 refine sk (nN (sr (cR aK pP [] [] aH r0 (fun b1 w1 aI=>tm (oN Axs xs cxs) r0 (JP (g:=eH) (ys:=([]:List (aD×aD))) (zs:=xs) aI 0 r0 pP r0 (by decide) r0 r0 (hxs.aP aI) (fun _=>rfl) (by unfold maxLen; (simp; omega)) (by(simp; omega)) aH r0 (fun A1 c1 w2 aN=>tA (.slice A1 xs.length c1) r0 (nn (rt (fT (.slice A1 xs.length c1) r0 ?_)))))))))
 exact⟨A1,c1,rfl,aN⟩
theorem W6 (sx:Int) {Awt:aM} {cwt:Nat} (wt:aC) {Alg:aM} {clg:Nat} (lg:List (aD×aD)) (to:aD) (w:World) (hwt:Sl w [] 1 Awt wt.length cwt (wt.map I)) (H0:wt.length≤1099511627776) (hlg:Sl w [] 2 Alg lg.length clg (lg.flatMap eH)) (jS: ∀ u∈lg,u.1.length≤9223372036854775807∧u.2.length≤9223372036854775807) (HU:lg.length≤1099511627776):bF prog 30 [.agg #[I sx,.slice Awt wt.length cwt,.slice Alg lg.length clg,aA to]] w (fun v w'=>∃ Awr:aM,∃ cwr:Nat,∃ Alr:aM,∃ clr:Nat,v=.agg #[.int .i64 sx,.slice Awr wt.length cwr,.slice Alr lg.length clr,aA to]∧SH w w' [] [.own Awr wt.length cwr 3 1 (wt.map I),.own Alr lg.length clr 38 2 (lg.flatMap eH)]):=by
 refine fQ 12 func30 r0 r0 ?_
 have aK:=SH.refl w []
 have rB:wt.length≤9223372036854775807:=cB hwt.cap hwt.cO
 have rA:lg.length≤9223372036854775807:=cB hlg.cap hlg.cO
 refine sr (bx (v:=.agg #[I sx,(Z4 Awt wt cwt),(cA Alg lg clg),aA to]) (cs:=[I sx,(Z4 Awt wt cwt),(cA Alg lg clg),aA to]) aK r0 r0 aH r0 (fun b1 w1 aE=>al (cs:=fN) aE oY r0 aH r0 (fun b2 w2 aI=>nn (sq ?_))))
 refine kA (fun w'=>∃ L,SH w w' [] L∧(.blk b2 34 fN)∈L∧True) (fun f w'=>∃ (lV:aM) (lY:Nat) (jD:aM) (jF:Nat),Hz f [(1,pB b1),(2,pB b2)]∧SH w w' [] [.blk b1 34 [I sx,(Z4 lV wt lY),(cA jD lg jF),aA to],.blk b2 34 fN,(jE lV wt lY),(j7 jD lg jF)]) mixed ?_ ?_
 ·refine dG 1 10 511 (fun f w'=>∃ (lV:aM) (lY:Nat) (jD:aM) (jF:Nat),Hz f [(1,pB b1),(2,pB b2),(8,.slice jD lg.length jF),(10,.pointer (some ⟨b1,2,none⟩))]∧SH w w' [] [.blk b1 34 [I sx,(Z4 lV wt lY),(cA Alg lg clg),aA to],.blk b2 34 fN,(jE lV wt lY),(j7 jD lg jF)]) ?_ (fun D_1_0=>?_)
  ·rintro f w3 ⟨lV,lY,jD,jF,⟨g1,rfl⟩,aN⟩
   refine aO 9 r0 (sT (oN jD lg jF) aN 0 r0 AE (fun w4 aR=>nk (m1 aR 0 r0) (aQ ?_)))
   exact⟨lV,lY,jD,jF,(zR r0),(aR.pk [3,0,1,2] r0)⟩
  refine dG 3 10 127 (fun f w'=>∃ (lV:aM) (lY:Nat) (jD:aM) (jF:Nat),Hz f [(1,pB b1),(2,pB b2),(5,.slice lV wt.length lY),(8,.slice jD lg.length jF),(9,.pointer (some ⟨b1,1,none⟩))]∧SH w w' [] [.blk b1 34 [I sx,(Z4 Awt wt cwt),(cA Alg lg clg),aA to],.blk b2 34 fN,(jE lV wt lY),(j7 jD lg jF)]) ?_ (fun D_1_1=>?_)
  ·rintro f w5 ⟨lV,lY,jD,jF,⟨g2,rfl⟩,aZ⟩
   exact aO 7 r0 (sT (cD lV wt lY) aZ 0 r0 j4 (fun w6 bG=>nk (m1 bG 0 r0) (tQ (fuel:=1) (is:=[8]) (.cons r0 (.nil)) (m1 bG 0 r0) (yA r0 (fa 2 CR r0) (.nil (bS D_1_0 ⟨lV,lY,jD,jF,(zR r0),(bG.pk [3,0,1,2] r0)⟩))))))
  refine dG 4 10 95 (fun f w'=>∃ (lV:aM) (lY:Nat),Hz f [(1,pB b1),(2,pB b2),(5,.slice lV wt.length lY),(7,.slice Alg lg.length clg),(9,.pointer (some ⟨b1,1,none⟩))]∧SH w w' [] [.blk b1 34 [I sx,(Z4 Awt wt cwt),(cA Alg lg clg),aA to],.blk b2 34 fN,(jE lV wt lY)]) ?_ (fun D_1_2=>?_)
  ·rintro f w7 ⟨lV,lY,⟨g3,rfl⟩,bU⟩
   exact aO 5 r0 (dP bU r0 (Uy _ _ (hlg.aP bU) jS (by omega)) (fun jD jF w8 bV=>nk (m1 bV 1 r0) (bS D_1_1 ⟨lV,lY,jD,jF,(zR r0),bV⟩)))
  refine dG 6 10 15 (fun f w'=>∃ (lV:aM) (lY:Nat),Hz f [(1,pB b1),(2,pB b2),(5,.slice lV wt.length lY),(6,.pointer (some ⟨b1,2,none⟩))]∧SH w w' [] [.blk b1 34 [I sx,(Z4 Awt wt cwt),(cA Alg lg clg),aA to],.blk b2 34 fN,(jE lV wt lY)]) ?_ (fun D_1_3=>?_)
  ·rintro f w9 ⟨lV,lY,⟨g4,rfl⟩,b9⟩
   exact aO 4 r0 (qt r0 (lD (oN Alg lg clg) b9 0 r0 AE) (nk (m1 b9 1 r0) (tQ (fuel:=4) (is:=[6]) (.cons r0 (.nil)) (m1 b9 1 r0) (yA r0 (fa 1 xV r0) (.nil (bS D_1_2 ⟨lV,lY,(zR r0),b9⟩))))))
  refine dG 6 10 27 (fun f w'=>Hz f [(1,pB b1),(2,pB b2),(4,.slice Awt wt.length cwt),(7,.slice Alg lg.length clg)]∧SH w w' [] [.blk b1 34 [I sx,(Z4 Awt wt cwt),(cA Alg lg clg),aA to],.blk b2 34 fN]) ?_ (fun D_1_4=>?_)
  ·rintro f kF ⟨⟨g5,rfl⟩,cM⟩
   exact aO 2 r0 (dP cM r0 (TM _ _ (hwt.aP cM) (by omega)) (fun lV lY kB cW=>nk (m1 cW 1 r0) (tQ (fuel:=4) (is:=[6]) (.cons r0 (.nil)) (m1 cW 1 r0) (yA r0 (fa 1 xV r0) (.nil (bS D_1_2 ⟨lV,lY,(zR r0),cW⟩))))))
  refine dG 7 10 11 (fun f w'=>Hz f [(1,pB b1),(2,pB b2),(4,.slice Awt wt.length cwt),(6,.pointer (some ⟨b1,2,none⟩))]∧SH w w' [] [.blk b1 34 [I sx,(Z4 Awt wt cwt),(cA Alg lg clg),aA to],.blk b2 34 fN]) ?_ (fun D_1_5=>?_)
  ·rintro f kI ⟨⟨g6,rfl⟩,dB⟩
   refine jN [2,4] (eX ?_ (jP ?_))
   ·exact eI r0 (dP dB r0 (TM _ _ (hwt.aP dB) (by omega)) (fun lV lY lU cY=>nk (m1 cY 1 r0) (bS D_1_3 ⟨lV,lY,(zR r0),cY⟩)))
   exact eI r0 (qt r0 (lD (oN Alg lg clg) dB 0 r0 AE) (nk (m1 dB 1 r0) (bS D_1_4 ⟨(zR r0),dB⟩)))
  refine dG 7 10 25 (fun f w'=>Hz f [(1,pB b1),(2,pB b2),(3,.pointer (some ⟨b1,1,none⟩)),(7,.slice Alg lg.length clg)]∧SH w w' [] [.blk b1 34 [I sx,(Z4 Awt wt cwt),(cA Alg lg clg),aA to],.blk b2 34 fN]) ?_ (fun D_1_6=>?_)
  ·rintro f mH ⟨⟨g7,rfl⟩,dJ⟩
   exact aO 1 r0 (qt r0 (lD (cD Awt wt cwt) dJ 0 r0 j4) (nk (m1 dJ 1 r0) (bS D_1_4 ⟨(zR r0),dJ⟩)))
  refine dG 8 10 9 (fun f w'=>Hz f [(1,pB b1),(2,pB b2),(3,.pointer (some ⟨b1,1,none⟩)),(6,.pointer (some ⟨b1,2,none⟩))]∧SH w w' [] [.blk b1 34 [I sx,(Z4 Awt wt cwt),(cA Alg lg clg),aA to],.blk b2 34 fN]) ?_ (fun D_1_7=>?_)
  ·rintro f mI ⟨⟨g8,rfl⟩,dM⟩
   refine jN [1,4] (eX ?_ (jP ?_))
   ·exact eI r0 (qt r0 (lD (cD Awt wt cwt) dM 0 r0 j4) (nk (m1 dM 1 r0) (bS D_1_5 ⟨(zR r0),dM⟩)))
   exact eI r0 (qt r0 (lD (oN Alg lg clg) dM 0 r0 AE) (nk (m1 dM 1 r0) (bS D_1_6 ⟨(zR r0),dM⟩)))
  have eO:=aI.drew
  exact tQ (fuel:=8) (is:=[0,3]) (.cons r0 (.cons r0 (.nil))) (m1 eO 1 r0) (yA r0 (fa 1 xV r0) (yA r0 (fa 2 CR r0) (.nil (bS D_1_7 ⟨(zR r0),eO⟩))))
 rintro f mU ⟨lV,lY,jD,jF,⟨g9,rfl⟩,eK⟩
 refine nN (sr (qt r0 (lG [I sx,(Z4 lV wt lY),(cA jD lg jF),aA to] eK 0 r0 cV) (sG [I sx,(Z4 lV wt lY),(cA jD lg jF),aA to] eK 1 r0 cV (fun n6 eZ=>nn (rt (bO (cX eZ 3 r0 r0 cV r0 .nil) r0 ?_))))))
 exact⟨lV,lY,jD,jF,rfl,(eZ.pk [1,2] r0)⟩
theorem Ua {Awt:aM} {cwt:Nat} (wt:aC) {Alg:aM} {clg:Nat} (lg:List (aD×aD)) (w:World) (hwt:Sl w [] 1 Awt wt.length cwt (wt.map I)) (H0:wt.length≤1099511627776) (hlg:Sl w [] 2 Alg lg.length clg (lg.flatMap eH)) (jS: ∀ u∈lg,u.1.length≤9223372036854775807∧u.2.length≤9223372036854775807) (HU:lg.length≤1099511627776):bF prog 26 [.slice Awt wt.length cwt,.slice Alg lg.length clg] w (fun v w'=>∃ Awr:aM,∃ cwr:Nat,∃ Alr:aM,∃ clr:Nat,v=.tuple #[.agg #[.int .i64 ((eJ wt lg).1.1),.slice Awr ((eJ wt lg).1.2.1).length cwr,.slice Alr ((eJ wt lg).1.2.2.1).length clr,aA ((eJ wt lg).1.2.2.2)],.bool ((eJ wt lg).2)]∧SH w w' [] [.own Awr (((eJ wt lg).1.2.1).length) cwr 3 1 (((eJ wt lg).1.2.1).map I),.own Alr (((eJ wt lg).1.2.2.1).length) clr 38 2 (((eJ wt lg).1.2.2.1).flatMap eH)]):=by
 refine fQ 18 func26 r0 r0 ?_
 have aK:=SH.refl w []
 have rB:wt.length≤9223372036854775807:=cB hwt.cap hwt.cO
 have rA:lg.length≤9223372036854775807:=cB hlg.cap hlg.cO
 refine sr (al (cs:=fN) aK oY r0 aH r0 (fun b1 w1 aE=>tA (.bool false) r0 (nn (sq (sr (tm (cD Awt wt cwt) r0 (tm (oN Alg lg clg) r0 (cS aE r0 (Ba _ _ _ (hwt.aP aE) (hlg.aP aE) jS) (fun w2 aI=>qt r0 (nt r0) (nn (cd r0 (fun h1=>?_) (fun h1=>?_))))))))))))
 ·have h2:=dX h1
  refine sr (qt r0 (bQ (v:=.agg #[I 0,ns,ns,aA []]) [] r0) (sG fN aI 0 r0 cV (fun w3 aN=>tA (.bool false) r0 (nn (rt (tR (bO (cX aN 0 r0 r0 cV r0 (.tmp .nil)) r0 ?_)))))))
  have aR:=aN.nl [Z0] r0
  have aZ:=aR.nl [.own none (([]:List (aD×aD)).length) 0 38 2 (([]:List (aD×aD)).flatMap eH)] r0
  have e1:eJ wt lg=((0,([]:aC),([]:List (aD×aD)),[]),false):=by simp[eJ,h2]
  rw[e1]
  exact⟨none,0,none,0,rfl,(aZ.pk [1,2] r0)⟩
 have h3:=dY h1
 refine sk (nN (sr (cR aI aV [] [] aH r0 (fun b2 w4 bG=>tm (cD Awt wt cwt) r0 (gI (g:=I) (ys:=([]:aC)) (zs:=wt) bG 1 r0 aV r0 r0 r0 (hwt.aP bG) (fun _=>rfl) (by unfold maxLen; (simp; omega)) (by(simp; omega)) aH r0 (fun A1 c1 w5 bU=>cR bU pP [] [] aH r0 (fun b3 w6 bV=>tm (oN Alg lg clg) r0 (JP (g:=eH) (ys:=([]:List (aD×aD))) (zs:=lg) bV 2 r0 pP r0 (by decide) r0 r0 (hlg.aP bV) (fun _=>rfl) (by unfold maxLen; (simp; omega)) (by(simp; omega)) aH r0 (fun A2 c2 w7 b9=>qt r0 (bQ (v:=.agg #[I 0,.slice A1 wt.length c1,.slice A2 lg.length c2,aA []]) [(1,.slice A1 wt.length c1),(2,.slice A2 lg.length c2)] r0) (sG [I 0,.slice A1 wt.length c1,.slice A2 lg.length c2,aA []] b9 0 r0 cV (fun w8 cM=>tA (.bool true) r0 (nn (rt (bO (cX cM 2 r0 r0 cV r0 (.tmp .nil)) r0 ?_))))))))))))))
 have e2:eJ wt lg=((0,wt,lg,[]),true):=by simp[eJ,h3]
 rw[e2]
 exact⟨A1,c1,A2,c2,rfl,(cM.pk [0,1] r0)⟩
theorem wC (sx:Int) {Awt:aM} {cwt:Nat} (wt:aC) {Alg:aM} {clg:Nat} (lg:List (aD×aD)) (to:aD) (nst:Int) (w:World) (hwt:Sl w [] 1 Awt wt.length cwt (wt.map I)) (H0:wt.length≤1099511627776) (hlg:Sl w [] 2 Alg lg.length clg (lg.flatMap eH)) (jS: ∀ u∈lg,u.1.length≤9223372036854775807∧u.2.length≤9223372036854775807) (HU:lg.length≤1099511627776):bF prog 196 [.agg #[I sx,.slice Awt wt.length cwt,.slice Alg lg.length clg,aA to],I nst] w (fun v w'=>∃ Awr:aM,∃ cwr:Nat,∃ Alr:aM,∃ clr:Nat,v=.agg #[.int .i64 nst,.slice Awr wt.length cwr,.slice Alr lg.length clr,aA []]∧SH w w' [] [.own Awr wt.length cwr 3 1 (wt.map I),.own Alr lg.length clr 38 2 (lg.flatMap eH)]):=by
 refine fQ 15 func196 r0 r0 ?_
 have aK:=SH.refl w []
 have rB:wt.length≤9223372036854775807:=cB hwt.cap hwt.cO
 have rA:lg.length≤9223372036854775807:=cB hlg.cap hlg.cO
 refine sr (bx (v:=.agg #[I sx,(Z4 Awt wt cwt),(cA Alg lg clg),aA to]) (cs:=[I sx,(Z4 Awt wt cwt),(cA Alg lg clg),aA to]) aK r0 r0 aH r0 (fun b1 w1 aE=>al (cs:=fN) aE oY r0 aH r0 (fun b2 w2 aI=>nn (sq ?_))))
 refine kA (fun w'=>∃ L,SH w w' [] L∧(.blk b1 34 [I sx,(Z4 Awt wt cwt),(cA Alg lg clg),aA to])∈L∧True) (fun f w'=>∃ (nA:aM) (nD:Nat) (n7:aM) (oB:Nat),Hz f [(4,pB b2)]∧SH w w' [] [.blk b1 34 [I sx,(Z4 Awt wt cwt),(cA Alg lg clg),aA to],.blk b2 34 [I nst,(Z4 nA wt nD),(cA n7 lg oB),aA []],(jE nA wt nD),(j7 n7 lg oB)]) mixed ?_ ?_
 ·refine dG 1 11 1023 (fun f w'=>∃ (nA:aM) (nD:Nat) (n7:aM) (oB:Nat),Hz f [(4,pB b2),(14,.agg #[I nst,(Z4 nA wt nD),(cA n7 lg oB),aA []])]∧SH w w' [] [.blk b1 34 [I sx,(Z4 Awt wt cwt),(cA Alg lg clg),aA to],.blk b2 34 fN,(jE nA wt nD),(j7 n7 lg oB)]) ?_ (fun D_1_0=>?_)
  ·rintro f w3 ⟨nA,nD,n7,oB,⟨g1,rfl⟩,aN⟩
   refine aO 10 r0 (sG [I nst,(Z4 nA wt nD),(cA n7 lg oB),aA []] aN 1 r0 cV (fun w4 aR=>nk (m1 aR 0 r0) (aQ ?_)))
   exact⟨nA,nD,n7,oB,(zR r0),(aR.pk [0,3,1,2] r0)⟩
  refine dG 3 11 255 (fun f w'=>∃ (nS:Nat) (nA:aM) (nD:Nat),Hz f [(4,pB b2),(5,I nst),(9,.slice nA wt.length nD),(10,sb nS (([]:List (aD×aD)).length) 0),(12,.slice Alg lg.length clg)]∧SH w w' [] [.blk b1 34 [I sx,(Z4 Awt wt cwt),(cA Alg lg clg),aA to],.blk b2 34 fN,(jE nA wt nD),.own (Z7 nS) (([]:List (aD×aD)).length) 0 38 2 (([]:List (aD×aD)).flatMap eH)]) ?_ (fun D_1_1=>?_)
  ·rintro f w5 ⟨nS,nA,nD,⟨g2,rfl⟩,aZ⟩
   exact aO 8 r0 (JP (g:=eH) (ys:=([]:List (aD×aD))) (zs:=lg) aZ 3 r0 pP r0 (by decide) r0 r0 (hlg.aP aZ) (fun _=>rfl) (by unfold maxLen; (simp; omega)) (by(simp; omega)) aH r0 (fun n7 oB w6 bG=>nk (m1 bG 0 r0) (tQ (fuel:=1) (is:=[9]) (.cons r0 (.nil)) (m1 bG 0 r0) (yA r0 (bQ (v:=.agg #[I nst,(Z4 nA wt nD),(cA n7 lg oB),aA []]) [(0,I nst),(1,.slice nA wt.length nD),(2,.slice n7 lg.length oB)] r0) (.nil (bS D_1_0 ⟨nA,nD,n7,oB,(zR r0),bG⟩))))))
  refine dG 4 11 223 (fun f w'=>∃ (nA:aM) (nD:Nat),Hz f [(4,pB b2),(5,I nst),(9,.slice nA wt.length nD),(12,.slice Alg lg.length clg)]∧SH w w' [] [.blk b1 34 [I sx,(Z4 Awt wt cwt),(cA Alg lg clg),aA to],.blk b2 34 fN,(jE nA wt nD)]) ?_ (fun D_1_2=>?_)
  ·rintro f w7 ⟨nA,nD,⟨g3,rfl⟩,bU⟩
   exact aO 5 r0 (cR bU pP [] [] aH r0 (fun nS w8 bV=>nk (m1 bV 0 r0) (bS D_1_1 ⟨nS,nA,nD,(zR r0),bV⟩)))
  refine dG 4 11 239 (fun f w'=>∃ (wN nS:Nat),Hz f [(4,pB b2),(5,I nst),(6,sb wN (([]:aC).length) 0),(8,.slice Awt wt.length cwt),(10,sb nS (([]:List (aD×aD)).length) 0),(12,.slice Alg lg.length clg)]∧SH w w' [] [.blk b1 34 [I sx,(Z4 Awt wt cwt),(cA Alg lg clg),aA to],.blk b2 34 fN,(oZ wN),.own (Z7 nS) (([]:List (aD×aD)).length) 0 38 2 (([]:List (aD×aD)).flatMap eH)]) ?_ (fun D_1_3=>?_)
  ·rintro f w9 ⟨wN,nS,⟨g4,rfl⟩,b9⟩
   exact aO 4 r0 (gI (g:=I) (ys:=([]:aC)) (zs:=wt) b9 2 r0 aV r0 r0 r0 (hwt.aP b9) (fun _=>rfl) (by unfold maxLen; (simp; omega)) (by(simp; omega)) aH r0 (fun nA nD kF cM=>nk (m1 cM 0 r0) (bS D_1_1 ⟨nS,nA,nD,(zR r0),(cM.pk [0,1,3,2] r0)⟩)))
  refine dG 5 11 207 (fun f w'=>∃ (wN:Nat),Hz f [(4,pB b2),(5,I nst),(6,sb wN (([]:aC).length) 0),(8,.slice Awt wt.length cwt),(12,.slice Alg lg.length clg)]∧SH w w' [] [.blk b1 34 [I sx,(Z4 Awt wt cwt),(cA Alg lg clg),aA to],.blk b2 34 fN,(oZ wN)]) ?_ (fun D_1_4=>?_)
  ·rintro f kB ⟨wN,⟨g5,rfl⟩,cW⟩
   refine jN [4,5] (eX ?_ (jP ?_))
   ·exact eI r0 (gI (g:=I) (ys:=([]:aC)) (zs:=wt) cW 2 r0 aV r0 r0 r0 (hwt.aP cW) (fun _=>rfl) (by unfold maxLen; (simp; omega)) (by(simp; omega)) aH r0 (fun nA nD kI dB=>nk (m1 dB 0 r0) (bS D_1_2 ⟨nA,nD,(zR r0),dB⟩)))
   exact eI r0 (cR cW pP [] [] aH r0 (fun nS lU cY=>nk (m1 cY 0 r0) (bS D_1_3 ⟨wN,nS,(zR r0),cY⟩)))
  refine dG 5 11 237 (fun f w'=>∃ (nS:Nat),Hz f [(4,pB b2),(5,I nst),(8,.slice Awt wt.length cwt),(10,sb nS (([]:List (aD×aD)).length) 0),(12,.slice Alg lg.length clg)]∧SH w w' [] [.blk b1 34 [I sx,(Z4 Awt wt cwt),(cA Alg lg clg),aA to],.blk b2 34 fN,.own (Z7 nS) (([]:List (aD×aD)).length) 0 38 2 (([]:List (aD×aD)).flatMap eH)]) ?_ (fun D_1_5=>?_)
  ·rintro f mH ⟨nS,⟨g6,rfl⟩,dJ⟩
   exact aO 1 r0 (cR dJ aV [] [] aH r0 (fun wN mI dM=>nk (m1 dM 0 r0) (bS D_1_3 ⟨wN,nS,(zR r0),(dM.pk [0,1,3,2] r0)⟩)))
  refine dG 6 11 205 (fun f w'=>Hz f [(4,pB b2),(5,I nst),(8,.slice Awt wt.length cwt),(12,.slice Alg lg.length clg)]∧SH w w' [] [.blk b1 34 [I sx,(Z4 Awt wt cwt),(cA Alg lg clg),aA to],.blk b2 34 fN]) ?_ (fun D_1_6=>?_)
  ·rintro f mU ⟨⟨g7,rfl⟩,eO⟩
   refine jN [1,5] (eX ?_ (jP ?_))
   ·exact eI r0 (cR eO aV [] [] aH r0 (fun wN n6 eK=>nk (m1 eK 0 r0) (bS D_1_4 ⟨wN,(zR r0),eK⟩)))
   exact eI r0 (cR eO pP [] [] aH r0 (fun nS m9 eZ=>nk (m1 eZ 0 r0) (bS D_1_5 ⟨nS,(zR r0),eZ⟩)))
  have fV:=aI.drew
  exact tQ (fuel:=6) (is:=[0,2,3,6,7]) (.cons r0 (.cons r0 (.cons r0 (.cons r0 (.cons r0 (.nil)))))) (m1 fV 0 r0) (yA r0 (mv (v:=I nst) r0) (yA r0 (fa 1 xV r0) (yB r0 (fun ⟨Lq,aU,dH,_⟩=>lM (cD Awt wt cwt) aU dH r0 j4) (yA r0 (fa 2 CR r0) (yB r0 (fun ⟨Lq,aU,dH,_⟩=>lM (oN Alg lg clg) aU dH r0 AE) (.nil (bS D_1_6 ⟨(zR r0),fV⟩)))))))
 rintro f qQ ⟨nA,nD,n7,oB,⟨g8,rfl⟩,fD⟩
 refine nN (rt (bO (cX fD 1 r0 r0 cV r0 .nil) r0 ?_))
 exact⟨nA,nD,n7,oB,rfl,(fD.pk [2,3] r0)⟩
theorem Xo {tb:Nat} {Awt:aM} {cwt:Nat} {Alg:aM} {clg:Nat} (sx:Int) (wt:aC) (lg:List Lg) (to:aD) {Abs:aM} {cbs:Nat} (bs:aC) (w:World) (htk:w.heap[tb]?=some (.cells [.int .i64 sx,.slice Awt wt.length cwt,.slice Alg lg.length clg,aA to].toArray 34 (0,0))) (hwt:Sl w [tb] 1 Awt wt.length cwt (wt.map I)) (hlg:Sl w [tb] 2 Alg lg.length clg (lg.flatMap eH)) (jS: ∀ u∈lg,u.1.length≤9223372036854775807∧u.2.length≤9223372036854775807) (hbs:Sl w [tb] 1 Abs bs.length cbs (bs.map I)) (rY:sx=4) (hto:to=[]):bF prog 123 [pB tb,.slice Abs bs.length cbs] w (fun v w'=>∃ Ar:aM,∃ cr:Nat,v=.slice Ar ((hG wt bs).2).length cr∧SH w w' [tb] [.blk tb 34 [I ((hG wt bs).1),.slice Awt wt.length cwt,.slice Alg lg.length clg,aA to],.own Ar (((hG wt bs).2).length) cr 3 1 (((hG wt bs).2).map I)]):=by
 refine fQ 48 func123 r0 r0 ?_
 have rB:wt.length≤9223372036854775807:=cB hwt.cap hwt.cO
 have rA:lg.length≤9223372036854775807:=cB hlg.cap hlg.cO
 have aK:=SH.rS htk
 have nW:bs.length≤9223372036854775807:=cB hbs.cap hbs.cO
 refine sr (tA ns r0 (nx (tm (cD Abs bs cbs) r0 (dP aK r0 (XA _ _ (hbs.up aK (fun _ h=>h) (by simp))) (fun A1 c1 w1 aE=>tm (.tuple #[.slice A1 (((eM bs).1).length) c1,I ((eM bs).2.1),.bool ((eM bs).2.2)]) r0 (qt r0 (xt 0 r0 r0) (qt r0 (xt 1 r0 r0) (qt r0 (xt 2 r0 r0) (tA (.slice A1 (((eM bs).1).length) c1) r0 (tA (I ((eM bs).2.1)) r0 (tA (zJ bs) r0 (nl (nN (sq (sr (tm (zJ bs) r0 (qt r0 (nt r0) (tm (.bool (!((eM bs).2.2))) r0 (hP 19 r0 (fun h1=>?_) (fun h1=>?_))))))))))))))))))))
 ·have h2:=dX h1
  refine aT r0 (aT r0 (aT r0 (aT r0 (qt r0 (pt (v:=.bool true) r0 r0) (nn (fX r0 (sr (tA ns r0 (nn (rt (tR (fT ns r0 ?_))))))))))))
  have aI:=aE.nl [Z0] r0
  have e1:([]:aC)=(hG wt bs).2:=by(rw[PE ‹_›]; done)
  have e2:=aS List.length e1
  have e3:sx=(hG wt bs).1:=by(rw[PE ‹_›]) <;> (exact rY)
  exact⟨none,0,(eE r0 e2 r0),((aI.pq [0,2] r0).cast (lc (aS (It.blk tb 34) (lc (aS (Value.int .i64) e3) (lc r0 (lc r0 (lc r0 r0))))) (lc (dZ (g:=I) r0 e2 r0 e1) r0)))⟩
 have h3:=dY h1
 refine qh r0 (mv (v:=I ((eM bs).2.1)) r0) (qh r0 (mv (v:=.slice Abs bs.length cbs) r0) (qh r0 (dK aV r0) (qh r0 (lss r0 r0) (qt r0 (pf (v:=.bool (decide (((eM bs).2.1)<(bs.length:Int)))) r0 r0) (nn (bI r0 (fun h4=>?_) (fun h4=>?_)))))))
 ·refine sr (tA ns r0 (nn (rt (tR (fT ns r0 ?_)))))
  have aN:=aE.nl [Z0] r0
  have e4:([]:aC)=(hG wt bs).2:=by(rw[Bh ‹_›]; done)
  have e5:=aS List.length e4
  have e6:sx=(hG wt bs).1:=by(rw[Bh ‹_›]) <;> (exact rY)
  exact⟨none,0,(eE r0 e5 r0),((aN.pq [0,2] r0).cast (lc (aS (It.blk tb 34) (lc (aS (Value.int .i64) e6) (lc r0 (lc r0 (lc r0 r0))))) (lc (dZ (g:=I) r0 e5 r0 e4) r0)))⟩
 refine sk (nN (sr (tm (pB tb) r0 (tn r0 (qt r0 (fa 1 xV r0) (qt r0 (lD (cD Awt wt cwt) aE 0 r0 j4) (tm (.slice A1 (((eM bs).1).length) c1) r0 (cS aE r0 (Lm _ _ _ (hwt.up aE (fun _ h=>h) (by simp)) (aE.cI 1 r0)) (fun w2 aR=>tA (I (kG wt bs)) r0 (nn (sq (sr (tm (I (kG wt bs)) r0 (nl (nN (bl (sr (qt r0 (dO r0 r0) (tA (.bool (decide ((kG wt bs)=0))) r0 (nn (bI r0 (fun h5=>?_) (fun h5=>?_))))))))))))))))))))))
 ·refine rg (tm (pB tb) r0 (tn r0 (qt r0 (fa 0 o7 r0) (sT (I 2) aR 0 r0 cN (fun w3 aZ=>nl (bN (nN (sr (tm (I (kG wt bs)) r0 (dP aZ r0 (RZ _ _ (by exact OY _ _)) (fun A2 c2 w4 bG=>tm (.tuple #[.slice A2 ([5,(kG wt bs)].length) c2,.bool true]) r0 (qt r0 (xt 0 r0 r0) (qt r0 (xt 1 r0 r0) (tA (.slice A2 ([5,(kG wt bs)].length) c2) r0 (tA (.bool true) r0 (nn (sq (rg (tm (.slice A2 ([5,(kG wt bs)].length) c2) r0 (tA (.slice A2 ([5,(kG wt bs)].length) c2) r0 (nn (rt (fT (.slice A2 ([5,(kG wt bs)].length) c2) r0 ?_)))))))))))))))))))))))
  have e7:[5,(kG wt bs)]=(hG wt bs).2:=by(rw[IQ ‹_› ‹_›]; done)
  have e8:=aS List.length e7
  have e9:2=(hG wt bs).1:=by(rw[IQ ‹_› ‹_›]) <;> ((simp[h3,h4,h5]; done))
  exact⟨A2,c2,(eE r0 e8 r0),((bG.pq [1,2] r0).cast (lc (aS (It.blk tb 34) (lc (aS (Value.int .i64) e9) (lc r0 (lc r0 (lc r0 r0))))) (lc (dZ (g:=I) r0 e8 r0 e7) r0)))⟩
 refine sr (qt r0 (dO r0 r0) (tA (.bool (decide ((kG wt bs)=2))) r0 (nn (bI r0 (fun h6=>?_) (fun h6=>?_)))))
 ·refine rg (tm (pB tb) r0 (tn r0 (qt r0 (fa 0 o7 r0) (sT (I 1) aR 0 r0 cN (fun w5 bU=>nl (bN (nN (sr (tm (I (kG wt bs)) r0 (dP bU r0 (RZ _ _ (by exact OY _ _)) (fun A3 c3 w6 bV=>tm (.tuple #[.slice A3 ([5,(kG wt bs)].length) c3,.bool true]) r0 (qt r0 (xt 0 r0 r0) (qt r0 (xt 1 r0 r0) (tA (.slice A3 ([5,(kG wt bs)].length) c3) r0 (tA (.bool true) r0 (nn (sq (rg (tm (.slice A3 ([5,(kG wt bs)].length) c3) r0 (tA (.slice A3 ([5,(kG wt bs)].length) c3) r0 (nn (rt (fT (.slice A3 ([5,(kG wt bs)].length) c3) r0 ?_)))))))))))))))))))))))
  have lP:[5,(kG wt bs)]=(hG wt bs).2:=by(rw[IQ ‹_› ‹_›]; done)
  have mB:=aS List.length lP
  have nU:1=(hG wt bs).1:=by(rw[IQ ‹_› ‹_›]) <;> ((simp[h3,h4,h5,h6]; done))
  exact⟨A3,c3,(eE r0 mB r0),((bV.pq [1,2] r0).cast (lc (aS (It.blk tb 34) (lc (aS (Value.int .i64) nU) (lc r0 (lc r0 (lc r0 r0))))) (lc (dZ (g:=I) r0 mB r0 lP) r0)))⟩
 refine sk (bN (nN (sr (tm (I (kG wt bs)) r0 (dP aR r0 (RZ _ _ (by exact OY _ _)) (fun A4 c4 w7 b9=>tm (.tuple #[.slice A4 ([5,(kG wt bs)].length) c4,.bool true]) r0 (qt r0 (xt 0 r0 r0) (qt r0 (xt 1 r0 r0) (tA (.slice A4 ([5,(kG wt bs)].length) c4) r0 (tA (.bool true) r0 (nn (sq (rg (tm (.slice A4 ([5,(kG wt bs)].length) c4) r0 (tA (.slice A4 ([5,(kG wt bs)].length) c4) r0 (nn (rt (fT (.slice A4 ([5,(kG wt bs)].length) c4) r0 ?_))))))))))))))))))
 have pU:[5,(kG wt bs)]=(hG wt bs).2:=by(rw[IQ ‹_› ‹_›]; done)
 have qW:=aS List.length pU
 have rR:sx=(hG wt bs).1:=by(rw[IQ ‹_› ‹_›]) <;> ((simp[h3,h4,h5,h6,rY]; done))
 exact⟨A4,c4,(eE r0 qW r0),((b9.pq [0,2] r0).cast (lc (aS (It.blk tb 34) (lc (aS (Value.int .i64) rR) (lc r0 (lc r0 (lc r0 r0))))) (lc (dZ (g:=I) r0 qW r0 pU) r0)))⟩
theorem Xu {tb:Nat} {Awt:aM} {cwt:Nat} {Alg:aM} {clg:Nat} (sx:Int) (wt:aC) (lg:List Lg) (to:aD) {Abs:aM} {cbs:Nat} (bs:aC) (w:World) (htk:w.heap[tb]?=some (.cells [.int .i64 sx,.slice Awt wt.length cwt,.slice Alg lg.length clg,aA to].toArray 34 (0,0))) (hwt:Sl w [tb] 1 Awt wt.length cwt (wt.map I)) (hlg:Sl w [tb] 2 Alg lg.length clg (lg.flatMap eH)) (jS: ∀ u∈lg,u.1.length≤9223372036854775807∧u.2.length≤9223372036854775807) (hbs:Sl w [tb] 1 Abs bs.length cbs (bs.map I)) (rY:sx=4) (hto:to=[]):bF prog 124 [pB tb,.slice Abs bs.length cbs] w (fun v w'=>∃ Ar:aM,∃ cr:Nat,v=.slice Ar ((gX lg bs).2).length cr∧SH w w' [tb] [.blk tb 34 [I ((gX lg bs).1),.slice Awt wt.length cwt,.slice Alg lg.length clg,aA to],.own Ar (((gX lg bs).2).length) cr 3 1 (((gX lg bs).2).map I)]):=by
 refine fQ 35 func124 r0 r0 ?_
 have rB:wt.length≤9223372036854775807:=cB hwt.cap hwt.cO
 have rA:lg.length≤9223372036854775807:=cB hlg.cap hlg.cO
 have aK:=SH.rS htk
 have nW:bs.length≤9223372036854775807:=cB hbs.cap hbs.cO
 refine sr (tA ns r0 (nx (tm (cD Abs bs cbs) r0 (cS aK r0 (Lu _ _ (hbs.up aK (fun _ h=>h) (by simp))) (fun w1 aE=>tm (.tuple #[.agg #[aA ((fA bs).1.1),aA ((fA bs).1.2)],I ((fA bs).2.1),.bool ((fA bs).2.2)]) r0 (qt r0 (xt 0 r0 r0) (qt r0 (xt 1 r0 r0) (qt r0 (xt 2 r0 r0) (al (cs:=lB) aE B3 r0 aH r0 (fun b1 w2 aI=>sG (EB bs) aI 1 r0 jI (fun w3 aN=>tA (I ((fA bs).2.1)) r0 (tA (.bool ((fA bs).2.2)) r0 (nn (sq (sr (tm (.bool ((fA bs).2.2)) r0 (qt r0 (nt r0) (tm (.bool (!((fA bs).2.2))) r0 (hP 17 r0 (fun h1=>?_) (fun h1=>?_))))))))))))))))))))
 ·have h2:=dX h1
  refine aT r0 (aT r0 (aT r0 (aT r0 (qt r0 (pt (v:=.bool true) r0 r0) (nn (fX r0 (sr (tA ns r0 (nn (rt (tR (fT ns r0 ?_))))))))))))
  have aR:=aN.nl [Z0] r0
  have e1:([]:aC)=(gX lg bs).2:=by(rw[PG ‹_›]; done)
  have e2:=aS List.length e1
  have e3:sx=(gX lg bs).1:=by(rw[PG ‹_›]) <;> (exact rY)
  exact⟨none,0,(eE r0 e2 r0),((aR.pq [0,2] r0).cast (lc (aS (It.blk tb 34) (lc (aS (Value.int .i64) e3) (lc r0 (lc r0 (lc r0 r0))))) (lc (dZ (g:=I) r0 e2 r0 e1) r0)))⟩
 have h3:=dY h1
 refine qh r0 (mv (v:=I ((fA bs).2.1)) r0) (qh r0 (mv (v:=.slice Abs bs.length cbs) r0) (qh r0 (dK aV r0) (qh r0 (lss r0 r0) (qt r0 (pf (v:=.bool (decide (((fA bs).2.1)<(bs.length:Int)))) r0 r0) (nn (bI r0 (fun h4=>?_) (fun h4=>?_)))))))
 ·refine sr (tA ns r0 (nn (rt (tR (fT ns r0 ?_)))))
  have aZ:=aN.nl [Z0] r0
  have e4:([]:aC)=(gX lg bs).2:=by(rw[Bk ‹_›]; done)
  have e5:=aS List.length e4
  have e6:sx=(gX lg bs).1:=by(rw[Bk ‹_›]) <;> (exact rY)
  exact⟨none,0,(eE r0 e5 r0),((aZ.pq [0,2] r0).cast (lc (aS (It.blk tb 34) (lc (aS (Value.int .i64) e6) (lc r0 (lc r0 (lc r0 r0))))) (lc (dZ (g:=I) r0 e5 r0 e4) r0)))⟩
 refine sk (nN (sq (rq (fun w'=>SH w w' [tb] [.blk tb 34 [I sx,(Z4 Awt wt cwt),(cA Alg lg clg),aA to],.blk b1 38 (EB bs)]) mixed (by kernel_rfl) aN.drew (qA r0 (mv (v:=pB tb) r0) (qA r0 (nc r0) (qA r0 (fa 2 CR r0) (qB r0 (fun aU=>lD (oN Alg lg clg) aU 0 r0 AE) (qB r0 (fun aU=>lG (EB bs) aU 1 r0 jI) (qc (.bool (xM lg bs)) aH r0 (fun wq aU=>(Lt _ _ _ _ (hlg.up aU (fun _ h=>h) (by simp)) jS (by(have hlk:=FL (KP (by assumption:(fA bs).2.2=true)).2.1; omega)) (by(have hlk:=FL (KP (by assumption:(fA bs).2.2=true)).2.1; omega))).mono (fun v w' h=>⟨h.1,by simpa using aU.cJ h.2⟩)) (qA r0 (fW (v:=.bool (xM lg bs)) r0) (qn (fun w4 bG=>nN (sq (sr (tm (.bool (xM lg bs)) r0 (nn (cd r0 (fun h5=>?_) (fun h5=>?_))))))))))))))))))
 ·refine rg (tm (pB tb) r0 (tn r0 (qt r0 (fa 0 o7 r0) (sT (I 2) bG 0 r0 cN (fun w5 bU=>nx (tm (.bool (xM lg bs)) r0 (dP bU r0 (XF _ _) (fun A1 c1 w6 bV=>tA (.slice A1 ((l6 (xM lg bs)).length) c1) r0 (nn (rt (fT (.slice A1 ((l6 (xM lg bs)).length) c1) r0 ?_)))))))))))
  have e7:l6 (xM lg bs)=(gX lg bs).2:=by(rw[PH ‹_› ‹_›]; done)
  have e8:=aS List.length e7
  have e9:2=(gX lg bs).1:=by(rw[PH ‹_› ‹_›]) <;> ((simp[h3,h4,h5]; done))
  exact⟨A1,c1,(eE r0 e8 r0),((bV.pq [1,2] r0).cast (lc (aS (It.blk tb 34) (lc (aS (Value.int .i64) e9) (lc r0 (lc r0 (lc r0 r0))))) (lc (dZ (g:=I) r0 e8 r0 e7) r0)))⟩
 refine sk (nN (sr (tm (.bool (xM lg bs)) r0 (dP bG r0 (XF _ _) (fun A2 c2 w7 b9=>tA (.slice A2 ((l6 (xM lg bs)).length) c2) r0 (nn (rt (fT (.slice A2 ((l6 (xM lg bs)).length) c2) r0 ?_))))))))
 have lP:l6 (xM lg bs)=(gX lg bs).2:=by(rw[PH ‹_› ‹_›]; done)
 have mB:=aS List.length lP
 have nU:sx=(gX lg bs).1:=by(rw[PH ‹_› ‹_›]) <;> ((simp[h3,h4,h5,rY]; done))
 exact⟨A2,c2,(eE r0 mB r0),((b9.pq [0,2] r0).cast (lc (aS (It.blk tb 34) (lc (aS (Value.int .i64) nU) (lc r0 (lc r0 (lc r0 r0))))) (lc (dZ (g:=I) r0 mB r0 lP) r0)))⟩
theorem Xv {tb:Nat} {Awt:aM} {cwt:Nat} {Alg:aM} {clg:Nat} (sx:Int) (wt:aC) (lg:List Lg) (to:aD) {Abs:aM} {cbs:Nat} (bs:aC) (w:World) (htk:w.heap[tb]?=some (.cells [.int .i64 sx,.slice Awt wt.length cwt,.slice Alg lg.length clg,aA to].toArray 34 (0,0))) (hwt:Sl w [tb] 1 Awt wt.length cwt (wt.map I)) (hlg:Sl w [tb] 2 Alg lg.length clg (lg.flatMap eH)) (jS: ∀ u∈lg,u.1.length≤9223372036854775807∧u.2.length≤9223372036854775807) (hbs:Sl w [tb] 1 Abs bs.length cbs (bs.map I)) (rY:sx=4) (hto:to=[]) (hGp:bZ prog w [tb] "internal/strconv.uint64pow10" jH):bF prog 125 [pB tb,.slice Abs bs.length cbs] w (fun v w'=>∃ Ar:aM,∃ cr:Nat,v=.slice Ar ((fM bs).2.2).length cr∧SH w w' [tb] [.blk tb 34 [I ((fM bs).1),.slice Awt wt.length cwt,.slice Alg lg.length clg,aA ((fM bs).2.1)],.own Ar (((fM bs).2.2).length) cr 3 1 (((fM bs).2.2).map I)]):=by
 refine fQ 45 func125 r0 r0 ?_
 have rB:wt.length≤9223372036854775807:=cB hwt.cap hwt.cO
 have rA:lg.length≤9223372036854775807:=cB hlg.cap hlg.cO
 have aK:=SH.rS htk
 have nW:bs.length≤9223372036854775807:=cB hbs.cap hbs.cO
 refine sr (tA ns r0 (nx (tm (cD Abs bs cbs) r0 (dP aK r0 (Me _ _ (hbs.up aK (fun _ h=>h) (by simp))) (fun eF eG w1 aE=>tm (.tuple #[.agg #[I ((dD bs).1.1),I ((dD bs).1.2.1),.slice eF (((dD bs).1.2.2.1).length) eG,aA ((dD bs).1.2.2.2.1),I ((dD bs).1.2.2.2.2)],I ((dD bs).2.1),.bool ((dD bs).2.2)]) r0 (qt r0 (xt 0 r0 r0) (qt r0 (xt 1 r0 r0) (qt r0 (xt 2 r0 r0) (al (cs:=AP) aE LB r0 aH r0 (fun b1 w2 aI=>sG (L2 bs eF eG) aI 2 r0 qU (fun w3 aN=>tA (I ((dD bs).2.1)) r0 (tA (.bool ((dD bs).2.2)) r0 (nn (sq (sr (tm (.bool ((dD bs).2.2)) r0 (qt r0 (nt r0) (tm (.bool (!((dD bs).2.2))) r0 (hP 19 r0 (fun h1=>?_) (fun h1=>?_))))))))))))))))))))
 ·have h2:=dX h1
  refine aT r0 (aT r0 (aT r0 (aT r0 (qt r0 (pt (v:=.bool true) r0 r0) (nn (fX r0 (sr (tA ns r0 (nn (rt (tR (fT ns r0 ?_))))))))))))
  have aR:=aN.nl [Z0] r0
  have e1:([]:aC)=(fM bs).2.2:=by(rw[IX ‹_›]; done)
  have e2:=aS List.length e1
  have e3:sx=(fM bs).1:=by(rw[IX ‹_›]) <;> (exact rY)
  have e4:to=(fM bs).2.1:=by(rw[IX ‹_›]) <;> (exact hto)
  exact⟨none,0,(eE r0 e2 r0),((aR.pq [0,3] r0).cast (lc (aS (It.blk tb 34) (lc (aS (Value.int .i64) e3) (lc r0 (lc r0 (lc (aS aA e4) r0))))) (lc (dZ (g:=I) r0 e2 r0 e1) r0)))⟩
 have h3:=dY h1
 refine qh r0 (mv (v:=I ((dD bs).2.1)) r0) (qh r0 (mv (v:=.slice Abs bs.length cbs) r0) (qh r0 (dK aV r0) (qh r0 (lss r0 r0) (qt r0 (pf (v:=.bool (decide (((dD bs).2.1)<(bs.length:Int)))) r0 r0) (nn (bI r0 (fun h4=>?_) (fun h4=>?_)))))))
 ·refine sr (tA ns r0 (nn (rt (tR (fT ns r0 ?_)))))
  have aZ:=aN.nl [Z0] r0
  have e5:([]:aC)=(fM bs).2.2:=by(rw[TK ‹_›]; done)
  have e6:=aS List.length e5
  have e7:sx=(fM bs).1:=by(rw[TK ‹_›]) <;> (exact rY)
  have e8:to=(fM bs).2.1:=by(rw[TK ‹_›]) <;> (exact hto)
  exact⟨none,0,(eE r0 e6 r0),((aZ.pq [0,3] r0).cast (lc (aS (It.blk tb 34) (lc (aS (Value.int .i64) e7) (lc r0 (lc r0 (lc (aS aA e8) r0))))) (lc (dZ (g:=I) r0 e6 r0 e5) r0)))⟩
 refine sk (nN (sr (tA (I 7) r0 (nn (sq (sr (qt r0 (fa 0 HM r0) (qt r0 (lD (I ((dD bs).1.1)) aN 2 r0 cN) (qt r0 (dO r0 r0) (nn (bI r0 (fun h5=>?_) (fun h5=>?_))))))))))))
 ·refine sr (tA (I 0) r0 (nx (tm (pB tb) r0 (tn r0 (qt r0 (fa 0 o7 r0) (sT (I 3) aN 0 r0 cN (fun w4 bG=>nn (rg (tm (pB tb) r0 (qt r0 (fa 1 zT r0) (qt r0 (lG (HB bs eF eG) bG 1 r0 cG) (cS bG r0 (W0 _ _ _ _ _ (bG.cI 0 r0) (by(have hrn:=IL bs; omega)) (by exact(O4 ‹_›).1) (hGp.up bG (fun _ h=>h) (by simp))) (fun w5 bU=>tn r0 (qt r0 (fa 3 A0 r0) (sT (aA (jJ ((dD bs).1.2.1) ((dD bs).1.2.2.1) ((dD bs).1.2.2.2.1)++[58]++Lib.itoa ((dD bs).1.2.2.2.2))) bU 2 r0 eC (fun w6 bV=>nx (tm (I 0) r0 (qt r0 (fa 1 zT r0) (qt r0 (lG (HB bs eF eG) bV 1 r0 cG) (dP bV r0 (XH 0 _ _ _ _ _ (bV.cI 0 r0) (by(have hrn:=IL bs; omega))) (fun A1 c1 w7 b9=>tm (.tuple #[.slice A1 (((qE bs).1).length) c1,.bool ((qE bs).2)]) r0 (qt r0 (xt 0 r0 r0) (qt r0 (xt 1 r0 r0) (tA (.slice A1 (((qE bs).1).length) c1) r0 (tA (.bool ((qE bs).2)) r0 (nn ?_))))))))))))))))))))))))))
  have cM:=b9.pq [2,3] r0
  refine sr (tm (.slice A1 (((qE bs).1).length) c1) r0 (tA (.slice A1 (((qE bs).1).length) c1) r0 (nn (rt (fT (.slice A1 (((qE bs).1).length) c1) r0 ?_)))))
  have e9:(qE bs).1=(fM bs).2.2:=by(rw[IV ‹_› (IK ‹_› ‹_›) ‹_›]; done)
  have lP:=aS List.length e9
  have mB:3=(fM bs).1:=by(rw[IV ‹_› (IK ‹_› ‹_›) ‹_›]) <;> (first | done | exact rY | exact hto | exact QG (O4 ‹_›).1)
  have nU:jJ ((dD bs).1.2.1) ((dD bs).1.2.2.1) ((dD bs).1.2.2.2.1)++[58]++Lib.itoa ((dD bs).1.2.2.2.2)=(fM bs).2.1:=by(rw[IV ‹_› (IK ‹_› ‹_›) ‹_›]) <;> (exact QG (O4 ‹_›).1)
  exact⟨A1,c1,(eE r0 lP r0),(cM.cast (lc (aS (It.blk tb 34) (lc (aS (Value.int .i64) mB) (lc r0 (lc r0 (lc (aS aA nU) r0))))) (lc (dZ (g:=I) r0 lP r0 e9) r0)))⟩
 refine sk (nN (sr (tm (I 7) r0 (qt r0 (fa 1 zT r0) (qt r0 (lG (HB bs eF eG) aN 2 r0 cG) (dP aN r0 (XH 7 _ _ _ _ _ (aN.cI 1 r0) (by(have hrn:=IL bs; omega))) (fun A2 c2 w8 cW=>tm (.tuple #[.slice A2 (((rN bs).1).length) c2,.bool ((rN bs).2)]) r0 (qt r0 (xt 0 r0 r0) (qt r0 (xt 1 r0 r0) (tA (.slice A2 (((rN bs).1).length) c2) r0 (tA (.bool ((rN bs).2)) r0 (nn ?_))))))))))))
 have dB:=cW.pq [0,3] r0
 refine sr (tm (.slice A2 (((rN bs).1).length) c2) r0 (tA (.slice A2 (((rN bs).1).length) c2) r0 (nn (rt (fT (.slice A2 (((rN bs).1).length) c2) r0 ?_)))))
 have pU:(rN bs).1=(fM bs).2.2:=by(rw[IW ‹_› (IK ‹_› ‹_›) ‹_›]; done)
 have qW:=aS List.length pU
 have rR:sx=(fM bs).1:=by(rw[IW ‹_› (IK ‹_› ‹_›) ‹_›]) <;> (exact rY)
 have wR:to=(fM bs).2.1:=by(rw[IW ‹_› (IK ‹_› ‹_›) ‹_›]) <;> (exact hto)
 exact⟨A2,c2,(eE r0 qW r0),(dB.cast (lc (aS (It.blk tb 34) (lc (aS (Value.int .i64) rR) (lc r0 (lc r0 (lc (aS aA wR) r0))))) (lc (dZ (g:=I) r0 qW r0 pU) r0)))⟩
theorem Ml (sx:Int) {Awt:aM} {cwt:Nat} (wt:aC) {Alg:aM} {clg:Nat} (lg:List (aD×aD)) (to:aD) {Abs:aM} {cbs:Nat} (bs:aC) (w:World) (hwt:Sl w [] 1 Awt wt.length cwt (wt.map I)) (hlg:Sl w [] 2 Alg lg.length clg (lg.flatMap eH)) (jS: ∀ u∈lg,u.1.length≤9223372036854775807∧u.2.length≤9223372036854775807) (RP:to.length≤1099511627776) (hbs:Sl w [] 1 Abs bs.length cbs (bs.map I)) (hGp:bZ prog w [] "internal/strconv.uint64pow10" jH) (hEr:bZ prog w [] "strconv.ErrRange" fH) (hEs:bZ prog w [] "strconv.ErrSyntax" fH):bF prog 75 [.agg #[I sx,.slice Awt wt.length cwt,.slice Alg lg.length clg,aA to],.slice Abs bs.length cbs] w (fun v w'=>∃ Awr:aM,∃ cwr:Nat,∃ Alr:aM,∃ clr:Nat,∃ Ayr:aM,∃ cyr:Nat,v=.tuple #[.agg #[.int .i64 ((bY sx wt lg to bs).1.1),.slice Awr ((bY sx wt lg to bs).1.2.1).length cwr,.slice Alr ((bY sx wt lg to bs).1.2.2.1).length clr,aA ((bY sx wt lg to bs).1.2.2.2)],.slice Ayr ((bY sx wt lg to bs).2.1).length cyr,.bool ((bY sx wt lg to bs).2.2)]∧SH w w' [] [.own Awr (((bY sx wt lg to bs).1.2.1).length) cwr 3 1 (((bY sx wt lg to bs).1.2.1).map I),.own Alr (((bY sx wt lg to bs).1.2.2.1).length) clr 38 2 (((bY sx wt lg to bs).1.2.2.1).flatMap eH),.own Ayr (((bY sx wt lg to bs).2.1).length) cyr 3 1 (((bY sx wt lg to bs).2.1).map I)]):=by
 refine fQ 44 func75 r0 r0 ?_
 have aK:SH w w [] []:=SH.refl w []
 have rB:wt.length≤9223372036854775807:=cB hwt.cap hwt.cO
 have rA:lg.length≤9223372036854775807:=cB hlg.cap hlg.cO
 have nW:bs.length≤9223372036854775807:=cB hbs.cap hbs.cO
 refine sr (bx (v:=.agg #[I sx,(Z4 Awt wt cwt),(cA Alg lg clg),aA to]) (cs:=[I sx,(Z4 Awt wt cwt),(cA Alg lg clg),aA to]) aK r0 r0 aH r0 (fun b1 w1 aE=>al (cs:=fN) aE oY r0 aH r0 (fun b2 w2 aI=>tA ns r0 (tA (.bool false) r0 (nn (sq (sr (qt r0 (lG [I sx,(Z4 Awt wt cwt),(cA Alg lg clg),aA to] aI 0 r0 cV) (cS aI r0 (XJ _ _ _ _ _ (hwt.aP aI) (hlg.aP aI) jS (by omega) (hGp.aP aI) (hEr.aP aI) (hEs.aP aI)) (fun w3 aN=>qt r0 (nt r0) (tm (.bool (!(iV sx wt lg to))) r0 (hP 13 r0 (fun h1=>?_) (fun h1=>?_)))))))))))))
 ·have h2:=dX h1
  refine aT r0 (aT r0 (aT r0 (qt r0 (pt (v:=.bool true) r0 r0) (tm (.bool true) r0 (aT r0 (aT r0 (aT r0 (qt r0 (pt (v:=.bool true) r0 r0) (nn (fX r0 (sr (qt r0 (bQ (v:=.agg #[I 0,ns,ns,aA []]) [] r0) (sG fN aN 1 r0 cV (fun w4 aR=>tA ns r0 (tA (.bool false) r0 (nn (rt (tR (bO (cX aR 1 r0 r0 cV r0 (.tmp (.tmp .nil))) r0 ?_)))))))))))))))))))
  have aZ:=aR.nl [Z0] r0
  have bG:SH w w4 [] [.blk b1 34 [I sx,(Z4 Awt wt cwt),(cA Alg lg clg),aA to],.blk b2 34 fN,Z0,.own none (([]:List (aD×aD)).length) 0 38 2 (([]:List (aD×aD)).flatMap eH)]:=SH.AB (by intro i hi; simp at hi; subst hi; exact Qe) aZ
  have bU:=bG.nl [Z0] r0
  have e1:bY sx wt lg to bs=((0,([]:aC),([]:List (aD×aD)),[]),([]:aC),false):=by exact I3 (.inl ‹_›)
  rw[e1]
  exact⟨none,0,none,0,none,0,rfl,(bU.pk [2,3,4] r0)⟩
 have h3:=dY h1
 refine qh r0 (mv (v:=.slice Abs bs.length cbs) r0) (cl ⟨_,rfl,rfl⟩ r0 (H4 _ _ (hbs.aP aN)) ?_)
 rintro _ w5 ⟨rfl,bV⟩
 replace bV:=aN.cJ bV
 refine qh r0 (nt r0) (qt r0 (pf (v:=.bool (!(bJ bs))) r0 r0) (tm (xK bs) r0 (hP 18 r0 (fun h4=>?_) (fun h4=>?_))))
 ·have h5:=dX h4
  refine aT r0 (aT r0 (aT r0 (qt r0 (pt (v:=.bool true) r0 r0) (nn (fX r0 (sq (rg (qt r0 (bQ (v:=.agg #[I 0,ns,ns,aA []]) [] r0) (sG fN bV 1 r0 cV (fun w6 b9=>tA ns r0 (tA (.bool false) r0 (nn (rt (tR (bO (cX b9 1 r0 r0 cV r0 (.tmp (.tmp .nil))) r0 ?_)))))))))))))))
  have cM:=b9.nl [Z0] r0
  have cW:=cM.nl [.own none (([]:List (aD×aD)).length) 0 38 2 (([]:List (aD×aD)).flatMap eH)] r0
  have dB:SH w w6 [] [.blk b1 34 [I sx,(Z4 Awt wt cwt),(cA Alg lg clg),aA to],.blk b2 34 fN,Z0,.own none (([]:List (aD×aD)).length) 0 38 2 (([]:List (aD×aD)).flatMap eH),Z0]:=SH.AB (by intro i hi; simp at hi; subst hi; exact DF) cW
  have e2:bY sx wt lg to bs=((0,([]:aC),([]:List (aD×aD)),[]),([]:aC),false):=by exact I3 (.inr (.inl ‹_›))
  rw[e2]
  exact⟨none,0,none,0,none,0,rfl,(dB.pk [2,3,4] r0)⟩
 have h6:=dY h4
 refine qh r0 (fa 0 o7 r0) (qh r0 (lD (I sx) bV 0 r0 cN) (qh r0 (geq r0 r0) (qt r0 (pf (v:=.bool (decide ((3:Int)≤sx))) r0 r0) (nn (bI r0 (fun h7=>?_) (fun h7=>?_))))))
 ·refine sr (qt r0 (bQ (v:=.agg #[I 0,ns,ns,aA []]) [] r0) (sG fN bV 1 r0 cV (fun w7 cY=>tA ns r0 (tA (.bool false) r0 (nn (rt (tR (bO (cX cY 1 r0 r0 cV r0 (.tmp (.tmp .nil))) r0 ?_))))))))
  have dJ:=cY.nl [Z0] r0
  have dM:=dJ.nl [.own none (([]:List (aD×aD)).length) 0 38 2 (([]:List (aD×aD)).flatMap eH)] r0
  have eO:=dM.nl [Z0] r0
  have e3:bY sx wt lg to bs=((0,([]:aC),([]:List (aD×aD)),[]),([]:aC),false):=by exact I3 (.inr (.inr ‹_›))
  rw[e3]
  exact⟨none,0,none,0,none,0,rfl,(eO.pk [2,3,4] r0)⟩
 refine sk (nN (sr (qt r0 (fa 0 o7 r0) (qt r0 (lD (I sx) bV 0 r0 cN) (tA (I sx) r0 (nl ?_))))))
 have htp:=wY (by assumption:iV sx wt lg to=true)
 have hmw:=BT htp.2.1
 refine nN (sr (qt r0 (lG [I sx,(Z4 Awt wt cwt),(cA Alg lg clg),aA to] bV 0 r0 cV) (cL r0 (W6 _ _ _ _ _ (hwt.aP bV) (by omega) (hlg.aP bV) jS (by omega)) ?_)))
 rintro _ w8 ⟨dS,dU,dR,dT,rfl,eK⟩
 replace eK:=bV.cJ eK
 refine al (cs:=fN) eK oY r0 aH r0 (fun b3 w9 (eZ:SH w w9 [] [.blk b1 34 [I sx,(Z4 Awt wt cwt),(cA Alg lg clg),aA to],.blk b2 34 fN,(jE dS wt dU),(j7 dR lg dT),.blk b3 34 fN])=>sG [I sx,(Z4 dS wt dU),(cA dR lg dT),aA to] eZ 4 r0 cV (fun kF fV=>nx (qt r0 (fa 0 o7 r0) (sT (I 4) fV 4 r0 cN (fun kB fD=>nx (tA ns r0 (nn (sq (sr (tm (I sx) r0 (nn (bl (sr (qt r0 (dO r0 r0) (tA (.bool (decide (sx=0))) r0 (nn (bI r0 (fun h8=>?_) (fun h8=>?_))))))))))))))))))
 ·refine rg (tm (cD Abs bs cbs) r0 (cL r0 (Xo 4 _ _ _ _ _ (gM fD 4 r0) (fD.sl 2 r0 (by intro k hk; simp at hk; subst hk; exact⟨_,cC 3 r0,rfl⟩)) (fD.sl 3 r0 (by intro k hk; simp at hk; subst hk; exact⟨_,cC 3 r0,rfl⟩)) (by(assumption)) (hbs.up fD (by simp) (fun k h=>.inr (fD.mE 4 r0 k h))) (by rfl) (by exact htp.2.2.2.2.2.2.2 (by omega))) ?_))
  rintro _ kI ⟨A1,c1,rfl,gK⟩
  replace gK:=fD.cK [4] [0,1,2,3] gK r0
  refine tA (.slice A1 (((hG wt bs).2).length) c1) r0 (nl (bN (nN (sr (qt r0 (lG [I ((hG wt bs).1),(Z4 dS wt dU),(cA dR lg dT),aA to] gK 4 r0 cV) (tm (.slice A1 (((hG wt bs).2).length) c1) r0 (sG [I ((hG wt bs).1),(Z4 dS wt dU),(cA dR lg dT),aA to] gK 1 r0 cV (fun lU hU=>tA (.slice A1 (((hG wt bs).2).length) c1) r0 (tA (.bool true) r0 (nn ?_))))))))))
  have iN:=hU.pq [1,2,4,5] r0
  refine rt (bO (cX iN 3 r0 r0 cV r0 (.tmp (.tmp .nil))) r0 ?_)
  have e4:bY sx wt lg to bs=(((hG wt bs).1,wt,lg,to),(hG wt bs).2,true):=by exact Cn ‹_› ‹_› ‹_›
  rw[e4]
  exact⟨dS,dU,dR,dT,A1,c1,rfl,(iN.pk [0,1,2] r0)⟩
 refine sr (qt r0 (dO r0 r0) (tA (sP sx) r0 (nn (bI r0 (fun h9=>?_) (fun h9=>?_)))))
 ·refine rg (tm (cD Abs bs cbs) r0 (cL r0 (Xu 4 _ _ _ _ _ (gM fD 4 r0) (fD.sl 2 r0 (by intro k hk; simp at hk; subst hk; exact⟨_,cC 3 r0,rfl⟩)) (fD.sl 3 r0 (by intro k hk; simp at hk; subst hk; exact⟨_,cC 3 r0,rfl⟩)) (by(assumption)) (hbs.up fD (by simp) (fun k h=>.inr (fD.mE 4 r0 k h))) (by rfl) (by exact htp.2.2.2.2.2.2.2 (by omega))) ?_))
  rintro _ mH ⟨A2,c2,rfl,iB⟩
  replace iB:SH w mH [] [.blk b1 34 [I sx,(Z4 Awt wt cwt),(cA Alg lg clg),aA to],.blk b2 34 fN,(jE dS wt dU),(j7 dR lg dT),.blk b3 34 [I ((gX lg bs).1),(Z4 dS wt dU),(cA dR lg dT),aA to],.own A2 (((gX lg bs).2).length) c2 3 1 (((gX lg bs).2).map I)]:=SH.vV (K:=[.blk b3 34 [I 4,(Z4 dS wt dU),(cA dR lg dT),aA to]]) (R:=[.blk b1 34 [I sx,(Z4 Awt wt cwt),(cA Alg lg clg),aA to],.blk b2 34 fN,(jE dS wt dU),(j7 dR lg dT)]) (fD.pk [4,0,1,2,3] r0) iB r0
  refine tA (.slice A2 (((gX lg bs).2).length) c2) r0 (nl (bN (nN (sr (qt r0 (lG [I ((gX lg bs).1),(Z4 dS wt dU),(cA dR lg dT),aA to] iB 4 r0 cV) (tm (.slice A2 (((gX lg bs).2).length) c2) r0 (sG [I ((gX lg bs).1),(Z4 dS wt dU),(cA dR lg dT),aA to] iB 1 r0 cV (fun mI iE=>tA (.slice A2 (((gX lg bs).2).length) c2) r0 (tA (.bool true) r0 (nn ?_))))))))))
  have jB:=iE.pq [1,2,4,5] r0
  refine rt (bO (cX jB 3 r0 r0 cV r0 (.tmp (.tmp .nil))) r0 ?_)
  have e5:bY sx wt lg to bs=(((gX lg bs).1,wt,lg,to),(gX lg bs).2,true):=by exact Co ‹_› ‹_› ‹_›
  rw[e5]
  exact⟨dS,dU,dR,dT,A2,c2,rfl,(jB.pk [0,1,2] r0)⟩
 refine sr (qt r0 (dO r0 r0) (tA (.bool (decide (sx=2))) r0 (nn (bI r0 (fun mR=>?_) (fun mR=>?_)))))
 ·refine rg (tm (cD Abs bs cbs) r0 (cL r0 (Xv 4 _ _ _ _ _ (gM fD 4 r0) (fD.sl 2 r0 (by intro k hk; simp at hk; subst hk; exact⟨_,cC 3 r0,rfl⟩)) (fD.sl 3 r0 (by intro k hk; simp at hk; subst hk; exact⟨_,cC 3 r0,rfl⟩)) (by(assumption)) (hbs.up fD (by simp) (fun k h=>.inr (fD.mE 4 r0 k h))) (by rfl) (by exact htp.2.2.2.2.2.2.2 (by omega)) (hGp.up fD (by simp) (fun k h=>.inr (fD.mE 4 r0 k h)))) ?_))
  rintro _ mU ⟨A3,c3,rfl,gV⟩
  replace gV:=fD.cK [4] [0,1,2,3] gV r0
  refine tA (.slice A3 (((fM bs).2.2).length) c3) r0 (nl (bN (nN (sr (qt r0 (lG [I ((fM bs).1),(Z4 dS wt dU),(cA dR lg dT),aA ((fM bs).2.1)] gV 4 r0 cV) (tm (.slice A3 (((fM bs).2.2).length) c3) r0 (sG [I ((fM bs).1),(Z4 dS wt dU),(cA dR lg dT),aA ((fM bs).2.1)] gV 1 r0 cV (fun n6 kU=>tA (.slice A3 (((fM bs).2.2).length) c3) r0 (tA (.bool true) r0 (nn ?_))))))))))
  have kV:=kU.pq [1,2,4,5] r0
  refine rt (bO (cX kV 3 r0 r0 cV r0 (.tmp (.tmp .nil))) r0 ?_)
  have e6:bY sx wt lg to bs=(((fM bs).1,wt,lg,(fM bs).2.1),(fM bs).2.2,true):=by exact Cp ‹_› ‹_› ‹_›
  rw[e6]
  exact⟨dS,dU,dR,dT,A3,c3,rfl,(kV.pk [0,1,2] r0)⟩
 refine sk (bN (nN (sr (qt r0 (lG [I 4,(Z4 dS wt dU),(cA dR lg dT),aA to] fD 4 r0 cV) (tm ns r0 (sG [I 4,(Z4 dS wt dU),(cA dR lg dT),aA to] fD 1 r0 cV (fun m9 (kY:SH w m9 [] [.blk b1 34 [I sx,(Z4 Awt wt cwt),(cA Alg lg clg),aA to],(jE dS wt dU),(j7 dR lg dT),.blk b3 34 [I 4,(Z4 dS wt dU),(cA dR lg dT),aA to],.blk b2 34 [I 4,(Z4 dS wt dU),(cA dR lg dT),aA to]])=>tA ns r0 (tA (.bool true) r0 (nn ?_)))))))))
 have kH:=kY.pq [1,2,4] r0
 refine rt (bO (cX kH 2 r0 r0 cV r0 (.tmp (.tmp .nil))) r0 ?_)
 have iU:=kH.nl [Z0] r0
 have e7:bY sx wt lg to bs=((4,wt,lg,to),([]:aC),true):=by(exfalso; have htp:=wY (by assumption:iV sx wt lg to=true); have hmw:=BT htp.2.1; omega)
 rw[e7]
 exact⟨dS,dU,dR,dT,none,0,rfl,(iU.pk [0,1,3] r0)⟩
theorem Sz (sx:Int) {Awt:aM} {cwt:Nat} (wt:aC) {Alg:aM} {clg:Nat} (lg:List (aD×aD)) (to:aD) {Abs:aM} {cbs:Nat} (bs:aC) (w:World) (hwt:Sl w [] 1 Awt wt.length cwt (wt.map I)) (H0:wt.length≤1099511627776) (hlg:Sl w [] 2 Alg lg.length clg (lg.flatMap eH)) (jS: ∀ u∈lg,u.1.length≤9223372036854775807∧u.2.length≤9223372036854775807) (HU:lg.length≤1099511627776) (hbs:Sl w [] 1 Abs bs.length cbs (bs.map I)):bF prog 148 [.agg #[I sx,.slice Awt wt.length cwt,.slice Alg lg.length clg,aA to],.slice Abs bs.length cbs] w (fun v w'=>∃ Awr:aM,∃ cwr:Nat,∃ Alr:aM,∃ clr:Nat,∃ Ayr:aM,∃ cyr:Nat,v=.tuple #[.agg #[.int .i64 ((hG wt bs).1),.slice Awr wt.length cwr,.slice Alr lg.length clr,aA []],.slice Ayr ((hG wt bs).2).length cyr]∧SH w w' [] [.own Awr wt.length cwr 3 1 (wt.map I),.own Alr lg.length clr 38 2 (lg.flatMap eH),.own Ayr (((hG wt bs).2).length) cyr 3 1 (((hG wt bs).2).map I)]):=by
 refine fQ 52 func148 r0 r0 ?_
 have aK:=SH.refl w []
 have rB:wt.length≤9223372036854775807:=cB hwt.cap hwt.cO
 have rA:lg.length≤9223372036854775807:=cB hlg.cap hlg.cO
 have nW:bs.length≤9223372036854775807:=cB hbs.cap hbs.cO
 refine sr (bx (v:=.agg #[I sx,(Z4 Awt wt cwt),(cA Alg lg clg),aA to]) (cs:=[I sx,(Z4 Awt wt cwt),(cA Alg lg clg),aA to]) aK r0 r0 aH r0 (fun b1 w1 aE=>al (cs:=fN) aE oY r0 aH r0 (fun b2 w2 aI=>tA ns r0 (nx (tm (cD Abs bs cbs) r0 (dP aI r0 (Aq _ _ (hbs.aP aI)) (fun A1 c1 w3 aN=>tm (.tuple #[.slice A1 (((eM bs).1).length) c1,I ((eM bs).2.1),.bool ((eM bs).2.2)]) r0 (qt r0 (xt 0 r0 r0) (qt r0 (xt 1 r0 r0) (qt r0 (xt 2 r0 r0) (tA (.slice A1 (((eM bs).1).length) c1) r0 (tA (I ((eM bs).2.1)) r0 (tA (zJ bs) r0 (nl (nN (sq (sr (tm (zJ bs) r0 (qt r0 (nt r0) (tm (.bool (!((eM bs).2.2))) r0 (hP 20 r0 (fun h1=>?_) (fun h1=>?_))))))))))))))))))))))
 ·have h2:=dX h1
  refine aT r0 (aT r0 (aT r0 (aT r0 (qt r0 (pt (v:=.bool true) r0 r0) (nn (fX r0 (sr (qt r0 (lG [I sx,(Z4 Awt wt cwt),(cA Alg lg clg),aA to] aN 0 r0 cV) (cL r0 (wC _ _ _ _ 4 _ (hwt.aP aN) (by omega) (hlg.aP aN) jS (by omega)) ?_)))))))))
  rintro _ w4 ⟨dS,dU,dR,dT,rfl,aR⟩
  replace aR:=aN.cJ aR
  refine cR aR aV [] [] aH r0 (fun b3 w5 aZ=>sG [I 4,(Z4 dS wt dU),(cA dR lg dT),aA []] aZ 1 r0 cV (fun w6 bG=>tA (sb b3 (([]:aC).length) 0) r0 (nn ?_)))
  have bU:=bG.pq [2,3,4,5] r0
  refine rt (tR (bO (cX bU 3 r0 r0 cV r0 (.tmp .nil)) r0 ?_))
  have e1:4=(hG wt bs).1:=by(rw[PE ‹_›]; done)
  have e2:([]:aC)=(hG wt bs).2:=by(rw[PE ‹_›]; done)
  have e3:=aS List.length e2
  exact⟨dS,dU,dR,dT,(Z7 b3),0,(kE (oP (lc (aS (Value.int .i64) e1) (lc r0 (lc r0 (lc r0 r0))))) (eE r0 e3 r0)),((bU.pq [0,1,2] r0).cast (lc r0 (lc r0 (lc (dZ (g:=I) r0 e3 r0 e2) r0))))⟩
 have h3:=dY h1
 refine qh r0 (mv (v:=I ((eM bs).2.1)) r0) (qh r0 (mv (v:=.slice Abs bs.length cbs) r0) (qh r0 (dK aV r0) (qh r0 (nK r0 r0) (qt r0 (pf (v:=.bool (decide (((eM bs).2.1)≠(bs.length:Int)))) r0 r0) (nn (bI r0 (fun h4=>?_) (fun h4=>?_)))))))
 ·refine sr (qt r0 (lG [I sx,(Z4 Awt wt cwt),(cA Alg lg clg),aA to] aN 0 r0 cV) (cL r0 (wC _ _ _ _ 4 _ (hwt.aP aN) (by omega) (hlg.aP aN) jS (by omega)) ?_))
  rintro _ w7 ⟨nC,nH,nB,nF,rfl,bV⟩
  replace bV:=aN.cJ bV
  refine cR bV aV [] [] aH r0 (fun b4 w8 b9=>sG [I 4,(Z4 nC wt nH),(cA nB lg nF),aA []] b9 1 r0 cV (fun w9 cM=>tA (sb b4 (([]:aC).length) 0) r0 (nn ?_)))
  have cW:=cM.pq [2,3,4,5] r0
  refine rt (tR (bO (cX cW 3 r0 r0 cV r0 (.tmp .nil)) r0 ?_))
  have e4:4=(hG wt bs).1:=by(rw[Bi ‹_›]; done)
  have e5:([]:aC)=(hG wt bs).2:=by(rw[Bi ‹_›]; done)
  have e6:=aS List.length e5
  exact⟨nC,nH,nB,nF,(Z7 b4),0,(kE (oP (lc (aS (Value.int .i64) e4) (lc r0 (lc r0 (lc r0 r0))))) (eE r0 e6 r0)),((cW.pq [0,1,2] r0).cast (lc r0 (lc r0 (lc (dZ (g:=I) r0 e6 r0 e5) r0))))⟩
 refine sk (nN (sr (qt r0 (fa 1 xV r0) (qt r0 (lD (cD Awt wt cwt) aN 0 r0 j4) (tm (.slice A1 (((eM bs).1).length) c1) r0 (cS aN r0 (Sr _ _ _ (hwt.aP aN) (aN.cI 2 r0)) (fun kF dB=>tA (I (kG wt bs)) r0 (nx (tm (I (kG wt bs)) r0 (dP dB r0 (Tt _ _ (by exact OY _ _)) (fun A2 c2 kB cY=>tm (.tuple #[.slice A2 ([5,(kG wt bs)].length) c2,.bool true]) r0 (qt r0 (xt 0 r0 r0) (qt r0 (xt 1 r0 r0) (tA (.slice A2 ([5,(kG wt bs)].length) c2) r0 (tA (.bool true) r0 (nn (sq (sr (tm (I (kG wt bs)) r0 (nn (bl (sr (qt r0 (dO r0 r0) (tA (.bool (decide ((kG wt bs)=0))) r0 (nn (bI r0 (fun h5=>?_) (fun h5=>?_)))))))))))))))))))))))))))
 ·refine sr (qt r0 (lG [I sx,(Z4 Awt wt cwt),(cA Alg lg clg),aA to] cY 0 r0 cV) (cL r0 (wC _ _ _ _ 2 _ (hwt.aP cY) (by omega) (hlg.aP cY) jS (by omega)) ?_))
  rintro _ kI ⟨sH,sS,sE,sQ,rfl,dJ⟩
  replace dJ:=cY.cJ dJ
  refine tm (.slice A2 ([5,(kG wt bs)].length) c2) r0 (sG [I 2,(Z4 sH wt sS),(cA sE lg sQ),aA []] dJ 1 r0 cV (fun lU dM=>tA (.slice A2 ([5,(kG wt bs)].length) c2) r0 (nn ?_)))
  have eO:=dM.pq [2,3,4,5] r0
  refine rt (bR (tR (bO (cX eO 3 r0 r0 cV r0 (.tmp .nil)) r0 ?_)))
  have e7:2=(hG wt bs).1:=by(rw[IU ‹_› ‹_›]; simp[h3,h4,h5]; done)
  have e8:[5,(kG wt bs)]=(hG wt bs).2:=by(rw[IU ‹_› ‹_›]; done)
  have e9:=aS List.length e8
  exact⟨sH,sS,sE,sQ,A2,c2,(kE (oP (lc (aS (Value.int .i64) e7) (lc r0 (lc r0 (lc r0 r0))))) (eE r0 e9 r0)),((eO.pq [1,2,0] r0).cast (lc r0 (lc r0 (lc (dZ (g:=I) r0 e9 r0 e8) r0))))⟩
 refine sr (qt r0 (dO r0 r0) (tA (.bool (decide ((kG wt bs)=2))) r0 (nn (bI r0 (fun h6=>?_) (fun h6=>?_)))))
 ·refine sr (qt r0 (lG [I sx,(Z4 Awt wt cwt),(cA Alg lg clg),aA to] cY 0 r0 cV) (cL r0 (wC _ _ _ _ 1 _ (hwt.aP cY) (by omega) (hlg.aP cY) jS (by omega)) ?_))
  rintro _ mH ⟨sI,sU,sF,sR,rfl,eK⟩
  replace eK:=cY.cJ eK
  refine tm (.slice A2 ([5,(kG wt bs)].length) c2) r0 (sG [I 1,(Z4 sI wt sU),(cA sF lg sR),aA []] eK 1 r0 cV (fun mI eZ=>tA (.slice A2 ([5,(kG wt bs)].length) c2) r0 (nn ?_)))
  have fV:=eZ.pq [2,3,4,5] r0
  refine rt (bR (tR (bO (cX fV 3 r0 r0 cV r0 (.tmp .nil)) r0 ?_)))
  have lP:1=(hG wt bs).1:=by(rw[IU ‹_› ‹_›]; simp[h3,h4,h5,h6]; done)
  have mB:[5,(kG wt bs)]=(hG wt bs).2:=by(rw[IU ‹_› ‹_›]; done)
  have nU:=aS List.length mB
  exact⟨sI,sU,sF,sR,A2,c2,(kE (oP (lc (aS (Value.int .i64) lP) (lc r0 (lc r0 (lc r0 r0))))) (eE r0 nU r0)),((fV.pq [1,2,0] r0).cast (lc r0 (lc r0 (lc (dZ (g:=I) r0 nU r0 mB) r0))))⟩
 refine sk (bN (nN (sr (qt r0 (lG [I sx,(Z4 Awt wt cwt),(cA Alg lg clg),aA to] cY 0 r0 cV) (cL r0 (wC _ _ _ _ 4 _ (hwt.aP cY) (by omega) (hlg.aP cY) jS (by omega)) ?_)))))
 rintro _ mU ⟨UC,VB,UB,U0,rfl,fD⟩
 replace fD:=cY.cJ fD
 refine tm (.slice A2 ([5,(kG wt bs)].length) c2) r0 (sG [I 4,(Z4 UC wt VB),(cA UB lg U0),aA []] fD 1 r0 cV (fun n6 gK=>tA (.slice A2 ([5,(kG wt bs)].length) c2) r0 (nn ?_)))
 have hU:=gK.pq [2,3,4,5] r0
 refine rt (bO (cX hU 3 r0 r0 cV r0 (.tmp .nil)) r0 ?_)
 have pU:4=(hG wt bs).1:=by(rw[IU ‹_› ‹_›]; simp[h3,h4,h5,h6]; done)
 have qW:[5,(kG wt bs)]=(hG wt bs).2:=by(rw[IU ‹_› ‹_›]; done)
 have rR:=aS List.length qW
 exact⟨UC,VB,UB,U0,A2,c2,(kE (oP (lc (aS (Value.int .i64) pU) (lc r0 (lc r0 (lc r0 r0))))) (eE r0 rR r0)),((hU.pq [1,2,0] r0).cast (lc r0 (lc r0 (lc (dZ (g:=I) r0 rR r0 qW) r0))))⟩

end Go.Proofs.YtklbiemlpkhlhaaGreatDoor
