/-
  Part of the proofs over this seat: what each function of the program computes, function by function (the text is written by a program of this hand-in's own).
  Conditions: each theorem states its own.
-/
import Derived.Test.YtklbiemlpkhlhaaGreatDoorPfWalks3
namespace Go.Proofs.YtklbiemlpkhlhaaGreatDoor
open Go.PF Tryz
set_option maxRecDepth 100000
set_option linter.unusedSimpArgs false
set_option linter.unusedVariables false
set_option maxHeartbeats 8000000

theorem Lp (s:aD) (w:World) (hs_n:s.length≤2147483648) (hMl:bZ prog w [] "internal/bytealg.MaxLen" l4) (hGp:bZ prog w [] "internal/strconv.uint64pow10" jH) (hEr:bZ prog w [] "strconv.ErrRange" fH) (hEs:bZ prog w [] "strconv.ErrSyntax" fH):bF prog 120 [aA s] w (fun v w'=>∃ Aqar:aM,∃ cqar:Nat,∃ Aqbr:aM,∃ cqbr:Nat,∃ ka:Int,∃ qa:aC,∃ na:aD,∃ pa:Int,∃ kb:Int,∃ qb:aC,∃ nb:aD,∃ pb:Int,v=.tuple #[.agg #[.int .i64 ka,.slice Aqar qa.length cqar,aA na,.int .i64 pa,.int .i64 kb,.slice Aqbr qb.length cqbr,aA nb,.int .i64 pb],.int .i64 ((iO s).1),.bool ((iO s).2)]∧SH w w' [] [.own Aqar qa.length cqar 3 1 (qa.map I),.own Aqbr qb.length cqbr 3 1 (qb.map I)]):=by
 refine fQ 76 func120 r0 r0 ?_
 have aK:=SH.refl w []
 refine sr (al (cs:=Z5) aK tK r0 aH r0 (fun b1 w1 aE=>tA (I 0) r0 (tA (.bool false) r0 (nx (tm (aA s) r0 (cS aE r0 (Wd _ [13,10] _ (by omega) (by(simp; done)) (hMl.aP aE)) (fun w2 aI=>tm (.tuple #[aA ((Lib.cut s [13,10]).1),aA ((Lib.cut s [13,10]).2.1),.bool ((Lib.cut s [13,10]).2.2)]) r0 (qt r0 (xt 0 r0 r0) (qt r0 (xt 1 r0 r0) (qt r0 (xt 2 r0 r0) (tA (aA ((Lib.cut s [13,10]).1)) r0 ?_)))))))))))
 have e1:(Lib.cut s [13,10]).1=aJ s:=by exact He s
 refine re 5 (v:=aA (aJ s)) (aS aA e1) (tA (aA ((Lib.cut s [13,10]).2.1)) r0 (tA (.bool ((Lib.cut s [13,10]).2.2)) r0 (nx (tm (aA (aJ s)) r0 ?_))))
 have hlf:=Oc s
 have w2:=hlf.2.1 2
 have w3:=hlf.2.1 3
 have w4:=hlf.2.1 4
 have w5:=hlf.2.1 5
 refine dP aI r0 (K4 _ 32 _ (by((try simp only[bH,bP,bK]); omega))) (fun A1 c1 w3 aN=>tA (.slice A1 ((aB 32 (aJ s)).length) c1) r0 (nn (sq (sr (tm (.slice A1 ((aB 32 (aJ s)).length) c1) r0 (qt r0 (dK fZ r0) (qt r0 (nK r0 r0) (nn (bI r0 (fun h1=>?_) (fun h1=>?_))))))))))
 ·refine sr (qt r0 (bQ (v:=.agg #[I 0,ns,aA [],I 0,I 0,ns,aA [],I 0]) [] r0) (sG Z5 aN 0 r0 iA (fun w4 aR=>tA (I 0) r0 (tA (.bool false) r0 (nn (rt (tR (bO (cX aR 1 r0 r0 iA r0 (.tmp (.tmp .nil))) r0 ?_))))))))
  have aZ:=aR.nl [Z0] r0
  have bG:=aZ.nl [Z0] r0
  have e2:iO s=(0,false):=by exact KO (.inl (by omega))
  rw[e2]
  exact⟨none,0,none,0,0,([]:aC),[],0,0,([]:aC),[],0,rfl,(bG.pk [2,3] r0)⟩
 refine sk (nN (sq ?_))
 obtain ⟨b2,rfl⟩:=sA aN 1 r0 (by omega)
 refine kA (fun w'=>∃ L,SH w w' [] L∧(.blk b1 135 Z5)∈L∧(.own (Z7 b2) ((aB 32 (aJ s)).length) c1 9 1 ((aB 32 (aJ s)).map aA))∈L∧True) (fun f w'=>∃ (kL:aM) (kN mP:Nat),Hz f [(0,aA s),(2,pB b1),(8,sb b2 ((aB 32 (aJ s)).length) c1),(9,pB mP),(10,.bool ((aG ((((aB 32 (aJ s)).getD 2 [])++[58])++((aB 32 (aJ s)).getD 4 []))).2))]∧SH w w' [] [.blk b1 135 Z5,.own (Z7 b2) ((aB 32 (aJ s)).length) c1 9 1 ((aB 32 (aJ s)).map aA),.blk mP 74 [I ((aG ((((aB 32 (aJ s)).getD 2 [])++[58])++((aB 32 (aJ s)).getD 4 []))).1.1),.slice kL (((aG ((((aB 32 (aJ s)).getD 2 [])++[58])++((aB 32 (aJ s)).getD 4 []))).1.2.1).length) kN,aA ((aG ((((aB 32 (aJ s)).getD 2 [])++[58])++((aB 32 (aJ s)).getD 4 []))).1.2.2.1),I ((aG ((((aB 32 (aJ s)).getD 2 [])++[58])++((aB 32 (aJ s)).getD 4 []))).1.2.2.2)],.own kL (((aG ((((aB 32 (aJ s)).getD 2 [])++[58])++((aB 32 (aJ s)).getD 4 []))).1.2.1).length) kN 3 1 (((aG ((((aB 32 (aJ s)).getD 2 [])++[58])++((aB 32 (aJ s)).getD 4 []))).1.2.1).map I)]) mixed ?_ ?_
 ·refine dG 2 15 8191 (fun f w'=>∃ (kL:aM) (kN mP:Nat),Hz f [(0,aA s),(2,pB b1),(8,sb b2 ((aB 32 (aJ s)).length) c1),(9,pB mP),(37,.agg #[I ((aG ((((aB 32 (aJ s)).getD 2 [])++[58])++((aB 32 (aJ s)).getD 4 []))).1.1),.slice kL (((aG ((((aB 32 (aJ s)).getD 2 [])++[58])++((aB 32 (aJ s)).getD 4 []))).1.2.1).length) kN,aA ((aG ((((aB 32 (aJ s)).getD 2 [])++[58])++((aB 32 (aJ s)).getD 4 []))).1.2.2.1),I ((aG ((((aB 32 (aJ s)).getD 2 [])++[58])++((aB 32 (aJ s)).getD 4 []))).1.2.2.2)]),(38,.bool ((aG ((((aB 32 (aJ s)).getD 2 [])++[58])++((aB 32 (aJ s)).getD 4 []))).2))]∧SH w w' [] [.blk b1 135 Z5,.own (Z7 b2) ((aB 32 (aJ s)).length) c1 9 1 ((aB 32 (aJ s)).map aA),.blk mP 74 eA,.own kL (((aG ((((aB 32 (aJ s)).getD 2 [])++[58])++((aB 32 (aJ s)).getD 4 []))).1.2.1).length) kN 3 1 (((aG ((((aB 32 (aJ s)).getD 2 [])++[58])++((aB 32 (aJ s)).getD 4 []))).1.2.1).map I)]) ?_ (fun D_5_0=>?_)
  ·rintro f w5 ⟨kL,kN,mP,⟨g1,rfl⟩,bU⟩
   refine aO 13 r0 (sG [I ((aG ((((aB 32 (aJ s)).getD 2 [])++[58])++((aB 32 (aJ s)).getD 4 []))).1.1),.slice kL (((aG ((((aB 32 (aJ s)).getD 2 [])++[58])++((aB 32 (aJ s)).getD 4 []))).1.2.1).length) kN,aA ((aG ((((aB 32 (aJ s)).getD 2 [])++[58])++((aB 32 (aJ s)).getD 4 []))).1.2.2.1),I ((aG ((((aB 32 (aJ s)).getD 2 [])++[58])++((aB 32 (aJ s)).getD 4 []))).1.2.2.2)] bU 2 r0 cG (fun w6 bV=>nk ⟨_,bV,cC 0 r0,cC 1 r0,aH⟩ (tQ (fuel:=0) (is:=[14]) (.cons r0 (.nil)) ⟨_,bV,cC 0 r0,cC 1 r0,aH⟩ (yA r0 (fW (v:=.bool ((aG ((((aB 32 (aJ s)).getD 2 [])++[58])++((aB 32 (aJ s)).getD 4 []))).2)) r0) (.nil (aQ ?_))))))
   exact⟨kL,kN,mP,(zR r0),(bV.pk [0,1,3,2] r0)⟩
  refine dG 3 15 4095 (fun f w'=>∃ (kL:aM) (kN:Nat),Hz f [(0,aA s),(2,pB b1),(8,sb b2 ((aB 32 (aJ s)).length) c1),(37,.agg #[I ((aG ((((aB 32 (aJ s)).getD 2 [])++[58])++((aB 32 (aJ s)).getD 4 []))).1.1),.slice kL (((aG ((((aB 32 (aJ s)).getD 2 [])++[58])++((aB 32 (aJ s)).getD 4 []))).1.2.1).length) kN,aA ((aG ((((aB 32 (aJ s)).getD 2 [])++[58])++((aB 32 (aJ s)).getD 4 []))).1.2.2.1),I ((aG ((((aB 32 (aJ s)).getD 2 [])++[58])++((aB 32 (aJ s)).getD 4 []))).1.2.2.2)]),(38,.bool ((aG ((((aB 32 (aJ s)).getD 2 [])++[58])++((aB 32 (aJ s)).getD 4 []))).2))]∧SH w w' [] [.blk b1 135 Z5,.own (Z7 b2) ((aB 32 (aJ s)).length) c1 9 1 ((aB 32 (aJ s)).map aA),.own kL (((aG ((((aB 32 (aJ s)).getD 2 [])++[58])++((aB 32 (aJ s)).getD 4 []))).1.2.1).length) kN 3 1 (((aG ((((aB 32 (aJ s)).getD 2 [])++[58])++((aB 32 (aJ s)).getD 4 []))).1.2.1).map I)]) ?_ (fun D_5_1=>?_)
  ·rintro f w7 ⟨kL,kN,⟨g2,rfl⟩,b9⟩
   exact aO 12 r0 (al (cs:=eA) b9 kZ r0 aH r0 (fun mP w8 cM=>nk ⟨_,cM,cC 0 r0,cC 1 r0,aH⟩ (bS D_5_0 ⟨kL,kN,mP,(zR r0),(cM.pk [0,1,3,2] r0)⟩)))
  refine dG 6 15 4351 (fun f w'=>∃ (mP:Nat),Hz f [(0,aA s),(2,pB b1),(8,sb b2 ((aB 32 (aJ s)).length) c1),(9,pB mP),(35,aA ((((aB 32 (aJ s)).getD 2 [])++[58])++((aB 32 (aJ s)).getD 4 [])))]∧SH w w' [] [.blk b1 135 Z5,.own (Z7 b2) ((aB 32 (aJ s)).length) c1 9 1 ((aB 32 (aJ s)).map aA),.blk mP 74 eA]) ?_ (fun D_5_2=>?_)
  ·rintro f w9 ⟨mP,⟨g3,rfl⟩,cW⟩
   exact aO 8 r0 (dP cW r0 (C9 _ _ (by((try simp only[bH,bP,bK]); omega)) (hGp.aP cW) (hEr.aP cW) (hEs.aP cW)) (fun kL kN kF dB=>nk ⟨_,dB,cC 0 r0,cC 1 r0,aH⟩ (tQ (fuel:=2) (is:=[9,10,11]) (.cons r0 (.cons r0 (.cons r0 (.nil)))) ⟨_,dB,cC 0 r0,cC 1 r0,aH⟩ (yA r0 (mv (v:=.tuple #[.agg #[I ((aG ((((aB 32 (aJ s)).getD 2 [])++[58])++((aB 32 (aJ s)).getD 4 []))).1.1),.slice kL (((aG ((((aB 32 (aJ s)).getD 2 [])++[58])++((aB 32 (aJ s)).getD 4 []))).1.2.1).length) kN,aA ((aG ((((aB 32 (aJ s)).getD 2 [])++[58])++((aB 32 (aJ s)).getD 4 []))).1.2.2.1),I ((aG ((((aB 32 (aJ s)).getD 2 [])++[58])++((aB 32 (aJ s)).getD 4 []))).1.2.2.2)],.bool ((aG ((((aB 32 (aJ s)).getD 2 [])++[58])++((aB 32 (aJ s)).getD 4 []))).2)]) r0) (yA r0 (xt 0 r0 r0) (yA r0 (xt 1 r0 r0) (.nil (bS D_5_0 ⟨kL,kN,mP,(zR r0),dB⟩))))))))
  refine dG 7 15 255 (fun f w'=>Hz f [(0,aA s),(2,pB b1),(8,sb b2 ((aB 32 (aJ s)).length) c1),(35,aA ((((aB 32 (aJ s)).getD 2 [])++[58])++((aB 32 (aJ s)).getD 4 [])))]∧SH w w' [] [.blk b1 135 Z5,.own (Z7 b2) ((aB 32 (aJ s)).length) c1 9 1 ((aB 32 (aJ s)).map aA)]) ?_ (fun D_5_3=>?_)
  ·rintro f kB ⟨⟨g4,rfl⟩,cY⟩
   refine jN [8,12] (eX ?_ (jP ?_))
   ·exact eI r0 (dP cY r0 (C9 _ _ (by((try simp only[bH,bP,bK]); omega)) (hGp.aP cY) (hEr.aP cY) (hEs.aP cY)) (fun kL kN kI dJ=>nk ⟨_,dJ,cC 0 r0,cC 1 r0,aH⟩ (tQ (fuel:=3) (is:=[9,10,11]) (.cons r0 (.cons r0 (.cons r0 (.nil)))) ⟨_,dJ,cC 0 r0,cC 1 r0,aH⟩ (yA r0 (mv (v:=.tuple #[.agg #[I ((aG ((((aB 32 (aJ s)).getD 2 [])++[58])++((aB 32 (aJ s)).getD 4 []))).1.1),.slice kL (((aG ((((aB 32 (aJ s)).getD 2 [])++[58])++((aB 32 (aJ s)).getD 4 []))).1.2.1).length) kN,aA ((aG ((((aB 32 (aJ s)).getD 2 [])++[58])++((aB 32 (aJ s)).getD 4 []))).1.2.2.1),I ((aG ((((aB 32 (aJ s)).getD 2 [])++[58])++((aB 32 (aJ s)).getD 4 []))).1.2.2.2)],.bool ((aG ((((aB 32 (aJ s)).getD 2 [])++[58])++((aB 32 (aJ s)).getD 4 []))).2)]) r0) (yA r0 (xt 0 r0 r0) (yA r0 (xt 1 r0 r0) (.nil (bS D_5_1 ⟨kL,kN,(zR r0),dJ⟩))))))))
   exact eI r0 (al (cs:=eA) cY kZ r0 aH r0 (fun mP lU dM=>nk ⟨_,dM,cC 0 r0,cC 1 r0,aH⟩ (bS D_5_2 ⟨mP,(zR r0),dM⟩)))
  have eO:=aN.drew
  exact tQ (fuel:=7) (is:=[0,1,2,3,4,5,6,7]) (.cons r0 (.cons r0 (.cons r0 (.cons r0 (.cons r0 (.cons r0 (.cons r0 (.cons r0 (.nil))))))))) ⟨_,eO,cC 0 r0,cC 1 r0,aH⟩ (yA r0 (mv (v:=sb b2 ((aB 32 (aJ s)).length) c1) r0) (yA r0 (lR 2 fZ r0 r0 (by omega)) (yB r0 (fun ⟨Lq,aU,dH,j0,_⟩=>s8 (g:=aA) (ys:=aB 32 (aJ s)) (o:=2) [] aU j0 r0 (by omega) eC) (yA r0 (cat r0 r0 (by((try simp only[bH,bP,bK]); omega))) (yA r0 (mv (v:=sb b2 ((aB 32 (aJ s)).length) c1) r0) (yA r0 (lR 4 fZ r0 r0 (by omega)) (yB r0 (fun ⟨Lq,aU,dH,j0,_⟩=>s8 (g:=aA) (ys:=aB 32 (aJ s)) (o:=4) [] aU j0 r0 (by omega) eC) (yA r0 (cat r0 r0 (by((try simp only[bH,bP,bK]); omega))) (.nil (bS D_5_3 ⟨(zR r0),eO⟩))))))))))
 rintro f mH ⟨kL,kN,mP,⟨g5,rfl⟩,eK⟩
 refine nN (sq ?_)
 refine kA (fun w'=>∃ L,SH w w' [] L∧(.blk b1 135 Z5)∈L∧(.own (Z7 b2) ((aB 32 (aJ s)).length) c1 9 1 ((aB 32 (aJ s)).map aA))∈L∧(.blk mP 74 [I ((aG ((((aB 32 (aJ s)).getD 2 [])++[58])++((aB 32 (aJ s)).getD 4 []))).1.1),.slice kL (((aG ((((aB 32 (aJ s)).getD 2 [])++[58])++((aB 32 (aJ s)).getD 4 []))).1.2.1).length) kN,aA ((aG ((((aB 32 (aJ s)).getD 2 [])++[58])++((aB 32 (aJ s)).getD 4 []))).1.2.2.1),I ((aG ((((aB 32 (aJ s)).getD 2 [])++[58])++((aB 32 (aJ s)).getD 4 []))).1.2.2.2)])∈L∧True) (fun f w'=>∃ (Aq8'':aM) (cq8'' b12'':Nat),Hz f [(0,aA s),(2,pB b1),(9,pB mP),(10,.bool ((aG ((((aB 32 (aJ s)).getD 2 [])++[58])++((aB 32 (aJ s)).getD 4 []))).2)),(11,pB b12''),(12,.bool ((aG ((((aB 32 (aJ s)).getD 3 [])++[58])++((aB 32 (aJ s)).getD 5 []))).2))]∧SH w w' [] [.blk b1 135 Z5,.own (Z7 b2) ((aB 32 (aJ s)).length) c1 9 1 ((aB 32 (aJ s)).map aA),.blk mP 74 [I ((aG ((((aB 32 (aJ s)).getD 2 [])++[58])++((aB 32 (aJ s)).getD 4 []))).1.1),.slice kL (((aG ((((aB 32 (aJ s)).getD 2 [])++[58])++((aB 32 (aJ s)).getD 4 []))).1.2.1).length) kN,aA ((aG ((((aB 32 (aJ s)).getD 2 [])++[58])++((aB 32 (aJ s)).getD 4 []))).1.2.2.1),I ((aG ((((aB 32 (aJ s)).getD 2 [])++[58])++((aB 32 (aJ s)).getD 4 []))).1.2.2.2)],.own kL (((aG ((((aB 32 (aJ s)).getD 2 [])++[58])++((aB 32 (aJ s)).getD 4 []))).1.2.1).length) kN 3 1 (((aG ((((aB 32 (aJ s)).getD 2 [])++[58])++((aB 32 (aJ s)).getD 4 []))).1.2.1).map I),.blk b12'' 74 [I ((aG ((((aB 32 (aJ s)).getD 3 [])++[58])++((aB 32 (aJ s)).getD 5 []))).1.1),.slice Aq8'' (((aG ((((aB 32 (aJ s)).getD 3 [])++[58])++((aB 32 (aJ s)).getD 5 []))).1.2.1).length) cq8'',aA ((aG ((((aB 32 (aJ s)).getD 3 [])++[58])++((aB 32 (aJ s)).getD 5 []))).1.2.2.1),I ((aG ((((aB 32 (aJ s)).getD 3 [])++[58])++((aB 32 (aJ s)).getD 5 []))).1.2.2.2)],.own Aq8'' (((aG ((((aB 32 (aJ s)).getD 3 [])++[58])++((aB 32 (aJ s)).getD 5 []))).1.2.1).length) cq8'' 3 1 (((aG ((((aB 32 (aJ s)).getD 3 [])++[58])++((aB 32 (aJ s)).getD 5 []))).1.2.1).map I)]) mixed ?_ ?_
 ·refine dG 2 15 8191 (fun f w'=>∃ (Aq8'':aM) (cq8'' b12'':Nat),Hz f [(0,aA s),(2,pB b1),(9,pB mP),(10,.bool ((aG ((((aB 32 (aJ s)).getD 2 [])++[58])++((aB 32 (aJ s)).getD 4 []))).2)),(11,pB b12''),(49,.agg #[I ((aG ((((aB 32 (aJ s)).getD 3 [])++[58])++((aB 32 (aJ s)).getD 5 []))).1.1),.slice Aq8'' (((aG ((((aB 32 (aJ s)).getD 3 [])++[58])++((aB 32 (aJ s)).getD 5 []))).1.2.1).length) cq8'',aA ((aG ((((aB 32 (aJ s)).getD 3 [])++[58])++((aB 32 (aJ s)).getD 5 []))).1.2.2.1),I ((aG ((((aB 32 (aJ s)).getD 3 [])++[58])++((aB 32 (aJ s)).getD 5 []))).1.2.2.2)]),(50,.bool ((aG ((((aB 32 (aJ s)).getD 3 [])++[58])++((aB 32 (aJ s)).getD 5 []))).2))]∧SH w w' [] [.blk b1 135 Z5,.own (Z7 b2) ((aB 32 (aJ s)).length) c1 9 1 ((aB 32 (aJ s)).map aA),.blk mP 74 [I ((aG ((((aB 32 (aJ s)).getD 2 [])++[58])++((aB 32 (aJ s)).getD 4 []))).1.1),.slice kL (((aG ((((aB 32 (aJ s)).getD 2 [])++[58])++((aB 32 (aJ s)).getD 4 []))).1.2.1).length) kN,aA ((aG ((((aB 32 (aJ s)).getD 2 [])++[58])++((aB 32 (aJ s)).getD 4 []))).1.2.2.1),I ((aG ((((aB 32 (aJ s)).getD 2 [])++[58])++((aB 32 (aJ s)).getD 4 []))).1.2.2.2)],.own kL (((aG ((((aB 32 (aJ s)).getD 2 [])++[58])++((aB 32 (aJ s)).getD 4 []))).1.2.1).length) kN 3 1 (((aG ((((aB 32 (aJ s)).getD 2 [])++[58])++((aB 32 (aJ s)).getD 4 []))).1.2.1).map I),.blk b12'' 74 eA,.own Aq8'' (((aG ((((aB 32 (aJ s)).getD 3 [])++[58])++((aB 32 (aJ s)).getD 5 []))).1.2.1).length) cq8'' 3 1 (((aG ((((aB 32 (aJ s)).getD 3 [])++[58])++((aB 32 (aJ s)).getD 5 []))).1.2.1).map I)]) ?_ (fun D_6_0=>?_)
  ·rintro f mI ⟨Aq8'',cq8'',b12'',⟨g6,rfl⟩,eZ⟩
   refine aO 13 r0 (sG [I ((aG ((((aB 32 (aJ s)).getD 3 [])++[58])++((aB 32 (aJ s)).getD 5 []))).1.1),.slice Aq8'' (((aG ((((aB 32 (aJ s)).getD 3 [])++[58])++((aB 32 (aJ s)).getD 5 []))).1.2.1).length) cq8'',aA ((aG ((((aB 32 (aJ s)).getD 3 [])++[58])++((aB 32 (aJ s)).getD 5 []))).1.2.2.1),I ((aG ((((aB 32 (aJ s)).getD 3 [])++[58])++((aB 32 (aJ s)).getD 5 []))).1.2.2.2)] eZ 4 r0 cG (fun mU fV=>nk ⟨_,fV,cC 0 r0,cC 1 r0,cC 2 r0,aH⟩ (tQ (fuel:=0) (is:=[14]) (.cons r0 (.nil)) ⟨_,fV,cC 0 r0,cC 1 r0,cC 2 r0,aH⟩ (yA r0 (fW (v:=.bool ((aG ((((aB 32 (aJ s)).getD 3 [])++[58])++((aB 32 (aJ s)).getD 5 []))).2)) r0) (.nil (aQ ?_))))))
   exact⟨Aq8'',cq8'',b12'',(zR r0),(fV.pk [0,1,2,3,5,4] r0)⟩
  refine dG 3 15 4095 (fun f w'=>∃ (Aq8'':aM) (cq8'':Nat),Hz f [(0,aA s),(2,pB b1),(9,pB mP),(10,.bool ((aG ((((aB 32 (aJ s)).getD 2 [])++[58])++((aB 32 (aJ s)).getD 4 []))).2)),(49,.agg #[I ((aG ((((aB 32 (aJ s)).getD 3 [])++[58])++((aB 32 (aJ s)).getD 5 []))).1.1),.slice Aq8'' (((aG ((((aB 32 (aJ s)).getD 3 [])++[58])++((aB 32 (aJ s)).getD 5 []))).1.2.1).length) cq8'',aA ((aG ((((aB 32 (aJ s)).getD 3 [])++[58])++((aB 32 (aJ s)).getD 5 []))).1.2.2.1),I ((aG ((((aB 32 (aJ s)).getD 3 [])++[58])++((aB 32 (aJ s)).getD 5 []))).1.2.2.2)]),(50,.bool ((aG ((((aB 32 (aJ s)).getD 3 [])++[58])++((aB 32 (aJ s)).getD 5 []))).2))]∧SH w w' [] [.blk b1 135 Z5,.own (Z7 b2) ((aB 32 (aJ s)).length) c1 9 1 ((aB 32 (aJ s)).map aA),.blk mP 74 [I ((aG ((((aB 32 (aJ s)).getD 2 [])++[58])++((aB 32 (aJ s)).getD 4 []))).1.1),.slice kL (((aG ((((aB 32 (aJ s)).getD 2 [])++[58])++((aB 32 (aJ s)).getD 4 []))).1.2.1).length) kN,aA ((aG ((((aB 32 (aJ s)).getD 2 [])++[58])++((aB 32 (aJ s)).getD 4 []))).1.2.2.1),I ((aG ((((aB 32 (aJ s)).getD 2 [])++[58])++((aB 32 (aJ s)).getD 4 []))).1.2.2.2)],.own kL (((aG ((((aB 32 (aJ s)).getD 2 [])++[58])++((aB 32 (aJ s)).getD 4 []))).1.2.1).length) kN 3 1 (((aG ((((aB 32 (aJ s)).getD 2 [])++[58])++((aB 32 (aJ s)).getD 4 []))).1.2.1).map I),.own Aq8'' (((aG ((((aB 32 (aJ s)).getD 3 [])++[58])++((aB 32 (aJ s)).getD 5 []))).1.2.1).length) cq8'' 3 1 (((aG ((((aB 32 (aJ s)).getD 3 [])++[58])++((aB 32 (aJ s)).getD 5 []))).1.2.1).map I)]) ?_ (fun D_6_1=>?_)
  ·rintro f n6 ⟨Aq8'',cq8'',⟨g7,rfl⟩,fD⟩
   exact aO 12 r0 (al (cs:=eA) fD kZ r0 aH r0 (fun b12'' m9 gK=>nk ⟨_,gK,cC 0 r0,cC 1 r0,cC 2 r0,aH⟩ (bS D_6_0 ⟨Aq8'',cq8'',b12'',(zR r0),(gK.pk [0,1,2,3,5,4] r0)⟩)))
  refine dG 6 15 4351 (fun f w'=>∃ (b12'':Nat),Hz f [(0,aA s),(2,pB b1),(9,pB mP),(10,.bool ((aG ((((aB 32 (aJ s)).getD 2 [])++[58])++((aB 32 (aJ s)).getD 4 []))).2)),(11,pB b12''),(47,aA ((((aB 32 (aJ s)).getD 3 [])++[58])++((aB 32 (aJ s)).getD 5 [])))]∧SH w w' [] [.blk b1 135 Z5,.own (Z7 b2) ((aB 32 (aJ s)).length) c1 9 1 ((aB 32 (aJ s)).map aA),.blk mP 74 [I ((aG ((((aB 32 (aJ s)).getD 2 [])++[58])++((aB 32 (aJ s)).getD 4 []))).1.1),.slice kL (((aG ((((aB 32 (aJ s)).getD 2 [])++[58])++((aB 32 (aJ s)).getD 4 []))).1.2.1).length) kN,aA ((aG ((((aB 32 (aJ s)).getD 2 [])++[58])++((aB 32 (aJ s)).getD 4 []))).1.2.2.1),I ((aG ((((aB 32 (aJ s)).getD 2 [])++[58])++((aB 32 (aJ s)).getD 4 []))).1.2.2.2)],.own kL (((aG ((((aB 32 (aJ s)).getD 2 [])++[58])++((aB 32 (aJ s)).getD 4 []))).1.2.1).length) kN 3 1 (((aG ((((aB 32 (aJ s)).getD 2 [])++[58])++((aB 32 (aJ s)).getD 4 []))).1.2.1).map I),.blk b12'' 74 eA]) ?_ (fun D_6_2=>?_)
  ·rintro f qQ ⟨b12'',⟨g8,rfl⟩,hU⟩
   exact aO 8 r0 (dP hU r0 (C9 _ _ (by((try simp only[bH,bP,bK]); omega)) (hGp.aP hU) (hEr.aP hU) (hEs.aP hU)) (fun Aq8'' cq8'' rJ iN=>nk ⟨_,iN,cC 0 r0,cC 1 r0,cC 2 r0,aH⟩ (tQ (fuel:=2) (is:=[9,10,11]) (.cons r0 (.cons r0 (.cons r0 (.nil)))) ⟨_,iN,cC 0 r0,cC 1 r0,cC 2 r0,aH⟩ (yA r0 (mv (v:=.tuple #[.agg #[I ((aG ((((aB 32 (aJ s)).getD 3 [])++[58])++((aB 32 (aJ s)).getD 5 []))).1.1),.slice Aq8'' (((aG ((((aB 32 (aJ s)).getD 3 [])++[58])++((aB 32 (aJ s)).getD 5 []))).1.2.1).length) cq8'',aA ((aG ((((aB 32 (aJ s)).getD 3 [])++[58])++((aB 32 (aJ s)).getD 5 []))).1.2.2.1),I ((aG ((((aB 32 (aJ s)).getD 3 [])++[58])++((aB 32 (aJ s)).getD 5 []))).1.2.2.2)],.bool ((aG ((((aB 32 (aJ s)).getD 3 [])++[58])++((aB 32 (aJ s)).getD 5 []))).2)]) r0) (yA r0 (xt 0 r0 r0) (yA r0 (xt 1 r0 r0) (.nil (bS D_6_0 ⟨Aq8'',cq8'',b12'',(zR r0),iN⟩))))))))
  refine dG 7 15 255 (fun f w'=>Hz f [(0,aA s),(2,pB b1),(9,pB mP),(10,.bool ((aG ((((aB 32 (aJ s)).getD 2 [])++[58])++((aB 32 (aJ s)).getD 4 []))).2)),(47,aA ((((aB 32 (aJ s)).getD 3 [])++[58])++((aB 32 (aJ s)).getD 5 [])))]∧SH w w' [] [.blk b1 135 Z5,.own (Z7 b2) ((aB 32 (aJ s)).length) c1 9 1 ((aB 32 (aJ s)).map aA),.blk mP 74 [I ((aG ((((aB 32 (aJ s)).getD 2 [])++[58])++((aB 32 (aJ s)).getD 4 []))).1.1),.slice kL (((aG ((((aB 32 (aJ s)).getD 2 [])++[58])++((aB 32 (aJ s)).getD 4 []))).1.2.1).length) kN,aA ((aG ((((aB 32 (aJ s)).getD 2 [])++[58])++((aB 32 (aJ s)).getD 4 []))).1.2.2.1),I ((aG ((((aB 32 (aJ s)).getD 2 [])++[58])++((aB 32 (aJ s)).getD 4 []))).1.2.2.2)],.own kL (((aG ((((aB 32 (aJ s)).getD 2 [])++[58])++((aB 32 (aJ s)).getD 4 []))).1.2.1).length) kN 3 1 (((aG ((((aB 32 (aJ s)).getD 2 [])++[58])++((aB 32 (aJ s)).getD 4 []))).1.2.1).map I)]) ?_ (fun D_6_3=>?_)
  ·rintro f tL ⟨⟨g9,rfl⟩,iB⟩
   refine jN [8,12] (eX ?_ (jP ?_))
   ·exact eI r0 (dP iB r0 (C9 _ _ (by((try simp only[bH,bP,bK]); omega)) (hGp.aP iB) (hEr.aP iB) (hEs.aP iB)) (fun Aq8'' cq8'' sC iE=>nk ⟨_,iE,cC 0 r0,cC 1 r0,cC 2 r0,aH⟩ (tQ (fuel:=3) (is:=[9,10,11]) (.cons r0 (.cons r0 (.cons r0 (.nil)))) ⟨_,iE,cC 0 r0,cC 1 r0,cC 2 r0,aH⟩ (yA r0 (mv (v:=.tuple #[.agg #[I ((aG ((((aB 32 (aJ s)).getD 3 [])++[58])++((aB 32 (aJ s)).getD 5 []))).1.1),.slice Aq8'' (((aG ((((aB 32 (aJ s)).getD 3 [])++[58])++((aB 32 (aJ s)).getD 5 []))).1.2.1).length) cq8'',aA ((aG ((((aB 32 (aJ s)).getD 3 [])++[58])++((aB 32 (aJ s)).getD 5 []))).1.2.2.1),I ((aG ((((aB 32 (aJ s)).getD 3 [])++[58])++((aB 32 (aJ s)).getD 5 []))).1.2.2.2)],.bool ((aG ((((aB 32 (aJ s)).getD 3 [])++[58])++((aB 32 (aJ s)).getD 5 []))).2)]) r0) (yA r0 (xt 0 r0 r0) (yA r0 (xt 1 r0 r0) (.nil (bS D_6_1 ⟨Aq8'',cq8'',(zR r0),iE⟩))))))))
   exact eI r0 (al (cs:=eA) iB kZ r0 aH r0 (fun b12'' vK jB=>nk ⟨_,jB,cC 0 r0,cC 1 r0,cC 2 r0,aH⟩ (bS D_6_2 ⟨b12'',(zR r0),jB⟩)))
  have gV:=eK.drew
  exact tQ (fuel:=7) (is:=[0,1,2,3,4,5,6,7]) (.cons r0 (.cons r0 (.cons r0 (.cons r0 (.cons r0 (.cons r0 (.cons r0 (.cons r0 (.nil))))))))) ⟨_,gV,cC 0 r0,cC 1 r0,cC 2 r0,aH⟩ (yA r0 (mv (v:=sb b2 ((aB 32 (aJ s)).length) c1) r0) (yA r0 (lR 3 fZ r0 r0 (by omega)) (yB r0 (fun ⟨Lq,aU,dH,j0,FM,_⟩=>s8 (g:=aA) (ys:=aB 32 (aJ s)) (o:=3) [] aU j0 r0 (by omega) eC) (yA r0 (cat r0 r0 (by((try simp only[bH,bP,bK]); omega))) (yA r0 (mv (v:=sb b2 ((aB 32 (aJ s)).length) c1) r0) (yA r0 (lR 5 fZ r0 r0 (by omega)) (yB r0 (fun ⟨Lq,aU,dH,j0,FM,_⟩=>s8 (g:=aA) (ys:=aB 32 (aJ s)) (o:=5) [] aU j0 r0 (by omega) eC) (yA r0 (cat r0 r0 (by((try simp only[bH,bP,bK]); omega))) (.nil (bS D_6_3 ⟨(zR r0),gV⟩))))))))))
 rintro f xC ⟨Aq8'',cq8'',b12'',⟨EZ,rfl⟩,kU⟩
 refine nN (sr (qt r0 (lG [I ((aG ((((aB 32 (aJ s)).getD 2 [])++[58])++((aB 32 (aJ s)).getD 4 []))).1.1),.slice kL (((aG ((((aB 32 (aJ s)).getD 2 [])++[58])++((aB 32 (aJ s)).getD 4 []))).1.2.1).length) kN,aA ((aG ((((aB 32 (aJ s)).getD 2 [])++[58])++((aB 32 (aJ s)).getD 4 []))).1.2.2.1),I ((aG ((((aB 32 (aJ s)).getD 2 [])++[58])++((aB 32 (aJ s)).getD 4 []))).1.2.2.2)] kU 2 r0 cG) (qt r0 (lG [I ((aG ((((aB 32 (aJ s)).getD 3 [])++[58])++((aB 32 (aJ s)).getD 5 []))).1.1),.slice Aq8'' (((aG ((((aB 32 (aJ s)).getD 3 [])++[58])++((aB 32 (aJ s)).getD 5 []))).1.2.1).length) cq8'',aA ((aG ((((aB 32 (aJ s)).getD 3 [])++[58])++((aB 32 (aJ s)).getD 5 []))).1.2.2.1),I ((aG ((((aB 32 (aJ s)).getD 3 [])++[58])++((aB 32 (aJ s)).getD 5 []))).1.2.2.2)] kU 4 r0 cG) (qt r0 (bQ (v:=.agg #[I ((aG ((((aB 32 (aJ s)).getD 2 [])++[58])++((aB 32 (aJ s)).getD 4 []))).1.1),.slice kL (((aG ((((aB 32 (aJ s)).getD 2 [])++[58])++((aB 32 (aJ s)).getD 4 []))).1.2.1).length) kN,aA ((aG ((((aB 32 (aJ s)).getD 2 [])++[58])++((aB 32 (aJ s)).getD 4 []))).1.2.2.1),I ((aG ((((aB 32 (aJ s)).getD 2 [])++[58])++((aB 32 (aJ s)).getD 4 []))).1.2.2.2),I ((aG ((((aB 32 (aJ s)).getD 3 [])++[58])++((aB 32 (aJ s)).getD 5 []))).1.1),.slice Aq8'' (((aG ((((aB 32 (aJ s)).getD 3 [])++[58])++((aB 32 (aJ s)).getD 5 []))).1.2.1).length) cq8'',aA ((aG ((((aB 32 (aJ s)).getD 3 [])++[58])++((aB 32 (aJ s)).getD 5 []))).1.2.2.1),I ((aG ((((aB 32 (aJ s)).getD 3 [])++[58])++((aB 32 (aJ s)).getD 5 []))).1.2.2.2)]) [(0,.agg #[I ((aG ((((aB 32 (aJ s)).getD 2 [])++[58])++((aB 32 (aJ s)).getD 4 []))).1.1),.slice kL (((aG ((((aB 32 (aJ s)).getD 2 [])++[58])++((aB 32 (aJ s)).getD 4 []))).1.2.1).length) kN,aA ((aG ((((aB 32 (aJ s)).getD 2 [])++[58])++((aB 32 (aJ s)).getD 4 []))).1.2.2.1),I ((aG ((((aB 32 (aJ s)).getD 2 [])++[58])++((aB 32 (aJ s)).getD 4 []))).1.2.2.2)]),(1,.agg #[I ((aG ((((aB 32 (aJ s)).getD 3 [])++[58])++((aB 32 (aJ s)).getD 5 []))).1.1),.slice Aq8'' (((aG ((((aB 32 (aJ s)).getD 3 [])++[58])++((aB 32 (aJ s)).getD 5 []))).1.2.1).length) cq8'',aA ((aG ((((aB 32 (aJ s)).getD 3 [])++[58])++((aB 32 (aJ s)).getD 5 []))).1.2.2.1),I ((aG ((((aB 32 (aJ s)).getD 3 [])++[58])++((aB 32 (aJ s)).getD 5 []))).1.2.2.2)])] r0) (al (cs:=Z5) kU tK r0 aH r0 (fun b3 vL kV=>?_))))))
 refine sG [I ((aG ((((aB 32 (aJ s)).getD 2 [])++[58])++((aB 32 (aJ s)).getD 4 []))).1.1),.slice kL (((aG ((((aB 32 (aJ s)).getD 2 [])++[58])++((aB 32 (aJ s)).getD 4 []))).1.2.1).length) kN,aA ((aG ((((aB 32 (aJ s)).getD 2 [])++[58])++((aB 32 (aJ s)).getD 4 []))).1.2.2.1),I ((aG ((((aB 32 (aJ s)).getD 2 [])++[58])++((aB 32 (aJ s)).getD 4 []))).1.2.2.2),I ((aG ((((aB 32 (aJ s)).getD 3 [])++[58])++((aB 32 (aJ s)).getD 5 []))).1.1),.slice Aq8'' (((aG ((((aB 32 (aJ s)).getD 3 [])++[58])++((aB 32 (aJ s)).getD 5 []))).1.2.1).length) cq8'',aA ((aG ((((aB 32 (aJ s)).getD 3 [])++[58])++((aB 32 (aJ s)).getD 5 []))).1.2.2.1),I ((aG ((((aB 32 (aJ s)).getD 3 [])++[58])++((aB 32 (aJ s)).getD 5 []))).1.2.2.2)] kV 6 r0 iA (fun vM kY=>nn ?_)
 have kH:=kY.pq [0,3,5,6] r0
 refine sr (qt r0 (lG [I ((aG ((((aB 32 (aJ s)).getD 2 [])++[58])++((aB 32 (aJ s)).getD 4 []))).1.1),.slice kL (((aG ((((aB 32 (aJ s)).getD 2 [])++[58])++((aB 32 (aJ s)).getD 4 []))).1.2.1).length) kN,aA ((aG ((((aB 32 (aJ s)).getD 2 [])++[58])++((aB 32 (aJ s)).getD 4 []))).1.2.2.1),I ((aG ((((aB 32 (aJ s)).getD 2 [])++[58])++((aB 32 (aJ s)).getD 4 []))).1.2.2.2),I ((aG ((((aB 32 (aJ s)).getD 3 [])++[58])++((aB 32 (aJ s)).getD 5 []))).1.1),.slice Aq8'' (((aG ((((aB 32 (aJ s)).getD 3 [])++[58])++((aB 32 (aJ s)).getD 5 []))).1.2.1).length) cq8'',aA ((aG ((((aB 32 (aJ s)).getD 3 [])++[58])++((aB 32 (aJ s)).getD 5 []))).1.2.2.1),I ((aG ((((aB 32 (aJ s)).getD 3 [])++[58])++((aB 32 (aJ s)).getD 5 []))).1.2.2.2)] kH 3 r0 iA) (cS kH r0 (Lr _ _ _ _ _ _ _ _ _ (kH.cI 1 r0) (by((try simp only[bH,bP,bK]); omega)) (kH.cI 2 r0) (by((try simp only[bH,bP,bK]); omega)) (hGp.aP kH)) (fun B5 iU=>tA (aA (kD ((((aG ((((aB 32 (aJ s)).getD 2 [])++[58])++((aB 32 (aJ s)).getD 4 []))).1.1),((aG ((((aB 32 (aJ s)).getD 2 [])++[58])++((aB 32 (aJ s)).getD 4 []))).1.2.1),((aG ((((aB 32 (aJ s)).getD 2 [])++[58])++((aB 32 (aJ s)).getD 4 []))).1.2.2.1),((aG ((((aB 32 (aJ s)).getD 2 [])++[58])++((aB 32 (aJ s)).getD 4 []))).1.2.2.2)),(((aG ((((aB 32 (aJ s)).getD 3 [])++[58])++((aB 32 (aJ s)).getD 5 []))).1.1),((aG ((((aB 32 (aJ s)).getD 3 [])++[58])++((aB 32 (aJ s)).getD 5 []))).1.2.1),((aG ((((aB 32 (aJ s)).getD 3 [])++[58])++((aB 32 (aJ s)).getD 5 []))).1.2.2.1),((aG ((((aB 32 (aJ s)).getD 3 [])++[58])++((aB 32 (aJ s)).getD 5 []))).1.2.2.2))))) r0 (nn (sq (sr (tm (.bool ((aG ((((aB 32 (aJ s)).getD 2 [])++[58])++((aB 32 (aJ s)).getD 4 []))).2)) r0 (qt r0 (nt r0) ?_))))))))
 refine tm (.bool (!((aG ((((aB 32 (aJ s)).getD 2 [])++[58])++((aB 32 (aJ s)).getD 4 []))).2))) r0 (hP 58 r0 (fun h2=>?_) (fun h2=>?_))
 ·have h3:=dX h2
  refine aT r0 (aT r0 (qt r0 (pt (v:=.bool true) r0 r0) (tm (.bool true) r0 (aT r0 (aT r0 (qt r0 (pt (v:=.bool true) r0 r0) (tm (.bool true) r0 (aT r0 (aT r0 (aT r0 (aT r0 (qt r0 (pt (v:=.bool true) r0 r0) (nn (fX r0 (sr (qt r0 (bQ (v:=.agg #[I 0,ns,aA [],I 0,I 0,ns,aA [],I 0]) [] r0) (sG Z5 iU 0 r0 iA (fun AJ mK=>tA (I 0) r0 (tA (.bool false) r0 (nn ?_))))))))))))))))))))
  have lL:=mK.pq [3] r0
  refine rt (tR (bO (cX lL 0 r0 r0 iA r0 (.tmp (.tmp .nil))) r0 ?_))
  have mY:=lL.nl [Z0] r0
  have lN:=mY.nl [Z0] r0
  have e3:iO s=(0,false):=by exact KO (.inr (.inl ‹_›))
  rw[e3]
  exact⟨none,0,none,0,0,([]:aC),[],0,0,([]:aC),[],0,rfl,(lN.pk [1,2] r0)⟩
 have h4:=dY h2
 refine qh r0 (mv (v:=.bool ((aG ((((aB 32 (aJ s)).getD 3 [])++[58])++((aB 32 (aJ s)).getD 5 []))).2)) r0) (qh r0 (nt r0) (qt r0 (pf (v:=.bool (!((aG ((((aB 32 (aJ s)).getD 3 [])++[58])++((aB 32 (aJ s)).getD 5 []))).2))) r0 r0) (tm (.bool (!((aG ((((aB 32 (aJ s)).getD 3 [])++[58])++((aB 32 (aJ s)).getD 5 []))).2))) r0 (hP 62 r0 (fun h5=>?_) (fun h5=>?_)))))
 ·have h6:=dX h5
  refine aT r0 (aT r0 (qt r0 (pt (v:=.bool true) r0 r0) (tm (.bool true) r0 (aT r0 (aT r0 (aT r0 (aT r0 (qt r0 (pt (v:=.bool true) r0 r0) (nn (fX r0 (sr (qt r0 (bQ (v:=.agg #[I 0,ns,aA [],I 0,I 0,ns,aA [],I 0]) [] r0) (sG Z5 iU 0 r0 iA (fun DS mS=>tA (I 0) r0 (tA (.bool false) r0 (nn ?_))))))))))))))))
  have mZ:=mS.pq [3] r0
  refine rt (tR (bO (cX mZ 0 r0 r0 iA r0 (.tmp (.tmp .nil))) r0 ?_))
  have m0:=mZ.nl [Z0] r0
  have oE:=m0.nl [Z0] r0
  have e4:iO s=(0,false):=by exact KO (.inr (.inr (.inl ‹_›)))
  rw[e4]
  exact⟨none,0,none,0,0,([]:aC),[],0,0,([]:aC),[],0,rfl,(oE.pk [1,2] r0)⟩
 have h7:=dY h5
 refine qh r0 (mv (v:=aA (kD ((((aG ((((aB 32 (aJ s)).getD 2 [])++[58])++((aB 32 (aJ s)).getD 4 []))).1.1),((aG ((((aB 32 (aJ s)).getD 2 [])++[58])++((aB 32 (aJ s)).getD 4 []))).1.2.1),((aG ((((aB 32 (aJ s)).getD 2 [])++[58])++((aB 32 (aJ s)).getD 4 []))).1.2.2.1),((aG ((((aB 32 (aJ s)).getD 2 [])++[58])++((aB 32 (aJ s)).getD 4 []))).1.2.2.2)),(((aG ((((aB 32 (aJ s)).getD 3 [])++[58])++((aB 32 (aJ s)).getD 5 []))).1.1),((aG ((((aB 32 (aJ s)).getD 3 [])++[58])++((aB 32 (aJ s)).getD 5 []))).1.2.1),((aG ((((aB 32 (aJ s)).getD 3 [])++[58])++((aB 32 (aJ s)).getD 5 []))).1.2.2.1),((aG ((((aB 32 (aJ s)).getD 3 [])++[58])++((aB 32 (aJ s)).getD 5 []))).1.2.2.2))))) r0) (qh r0 (eqs r0 r0) (qt r0 (pf (v:=.bool (decide (kD ((((aG ((((aB 32 (aJ s)).getD 2 [])++[58])++((aB 32 (aJ s)).getD 4 []))).1.1),((aG ((((aB 32 (aJ s)).getD 2 [])++[58])++((aB 32 (aJ s)).getD 4 []))).1.2.1),((aG ((((aB 32 (aJ s)).getD 2 [])++[58])++((aB 32 (aJ s)).getD 4 []))).1.2.2.1),((aG ((((aB 32 (aJ s)).getD 2 [])++[58])++((aB 32 (aJ s)).getD 4 []))).1.2.2.2)),(((aG ((((aB 32 (aJ s)).getD 3 [])++[58])++((aB 32 (aJ s)).getD 5 []))).1.1),((aG ((((aB 32 (aJ s)).getD 3 [])++[58])++((aB 32 (aJ s)).getD 5 []))).1.2.1),((aG ((((aB 32 (aJ s)).getD 3 [])++[58])++((aB 32 (aJ s)).getD 5 []))).1.2.2.1),((aG ((((aB 32 (aJ s)).getD 3 [])++[58])++((aB 32 (aJ s)).getD 5 []))).1.2.2.2)))=[]))) r0 r0) (tm (.bool (decide (kD ((((aG ((((aB 32 (aJ s)).getD 2 [])++[58])++((aB 32 (aJ s)).getD 4 []))).1.1),((aG ((((aB 32 (aJ s)).getD 2 [])++[58])++((aB 32 (aJ s)).getD 4 []))).1.2.1),((aG ((((aB 32 (aJ s)).getD 2 [])++[58])++((aB 32 (aJ s)).getD 4 []))).1.2.2.1),((aG ((((aB 32 (aJ s)).getD 2 [])++[58])++((aB 32 (aJ s)).getD 4 []))).1.2.2.2)),(((aG ((((aB 32 (aJ s)).getD 3 [])++[58])++((aB 32 (aJ s)).getD 5 []))).1.1),((aG ((((aB 32 (aJ s)).getD 3 [])++[58])++((aB 32 (aJ s)).getD 5 []))).1.2.1),((aG ((((aB 32 (aJ s)).getD 3 [])++[58])++((aB 32 (aJ s)).getD 5 []))).1.2.2.1),((aG ((((aB 32 (aJ s)).getD 3 [])++[58])++((aB 32 (aJ s)).getD 5 []))).1.2.2.2)))=[]))) r0 ?_)))
 refine fF 66 r0 (fun h8=>?_) (fun h8=>?_)
 ·refine aT r0 (aT r0 (aT r0 (aT r0 (qt r0 (pt (v:=.bool true) r0 r0) (nn (fX r0 (sr (qt r0 (bQ (v:=.agg #[I 0,ns,aA [],I 0,I 0,ns,aA [],I 0]) [] r0) (sG Z5 iU 0 r0 iA (fun B6 oV=>tA (I 0) r0 (tA (.bool false) r0 (nn ?_))))))))))))
  have qI:=oV.pq [3] r0
  refine rt (tR (bO (cX qI 0 r0 r0 iA r0 (.tmp (.tmp .nil))) r0 ?_))
  have rV:=qI.nl [Z0] r0
  have vD:=rV.nl [Z0] r0
  have e5:iO s=(0,false):=by exact KO (.inr (.inr (.inr (.inl ‹_›))))
  rw[e5]
  exact⟨none,0,none,0,0,([]:aC),[],0,0,([]:aC),[],0,rfl,(vD.pk [1,2] r0)⟩
 refine qh r0 (mv (v:=aA s) r0) (qh r0 (mv (v:=aA (kD ((((aG ((((aB 32 (aJ s)).getD 2 [])++[58])++((aB 32 (aJ s)).getD 4 []))).1.1),((aG ((((aB 32 (aJ s)).getD 2 [])++[58])++((aB 32 (aJ s)).getD 4 []))).1.2.1),((aG ((((aB 32 (aJ s)).getD 2 [])++[58])++((aB 32 (aJ s)).getD 4 []))).1.2.2.1),((aG ((((aB 32 (aJ s)).getD 2 [])++[58])++((aB 32 (aJ s)).getD 4 []))).1.2.2.2)),(((aG ((((aB 32 (aJ s)).getD 3 [])++[58])++((aB 32 (aJ s)).getD 5 []))).1.1),((aG ((((aB 32 (aJ s)).getD 3 [])++[58])++((aB 32 (aJ s)).getD 5 []))).1.2.1),((aG ((((aB 32 (aJ s)).getD 3 [])++[58])++((aB 32 (aJ s)).getD 5 []))).1.2.2.1),((aG ((((aB 32 (aJ s)).getD 3 [])++[58])++((aB 32 (aJ s)).getD 5 []))).1.2.2.2))))) r0) (cl ⟨_,rfl,rfl⟩ r0 (Cf _ _ _ (by omega) (by exact cB (Of _ _ _ _ _ _ _ _) (by decide))) ?_))
 rintro _ GK ⟨rfl,pO⟩
 replace pO:=iU.cJ pO
 refine qh r0 (nt r0) (qt r0 (pf (v:=.bool (!(decide (iX s (kD ((((aG ((((aB 32 (aJ s)).getD 2 [])++[58])++((aB 32 (aJ s)).getD 4 []))).1.1),((aG ((((aB 32 (aJ s)).getD 2 [])++[58])++((aB 32 (aJ s)).getD 4 []))).1.2.1),((aG ((((aB 32 (aJ s)).getD 2 [])++[58])++((aB 32 (aJ s)).getD 4 []))).1.2.2.1),((aG ((((aB 32 (aJ s)).getD 2 [])++[58])++((aB 32 (aJ s)).getD 4 []))).1.2.2.2)),(((aG ((((aB 32 (aJ s)).getD 3 [])++[58])++((aB 32 (aJ s)).getD 5 []))).1.1),((aG ((((aB 32 (aJ s)).getD 3 [])++[58])++((aB 32 (aJ s)).getD 5 []))).1.2.1),((aG ((((aB 32 (aJ s)).getD 3 [])++[58])++((aB 32 (aJ s)).getD 5 []))).1.2.2.1),((aG ((((aB 32 (aJ s)).getD 3 [])++[58])++((aB 32 (aJ s)).getD 5 []))).1.2.2.2)))))))) r0 r0) (nn (cd r0 (fun h9=>?_) (fun h9=>?_))))
 ·have mR:=dX h9
  refine sr (qt r0 (bQ (v:=.agg #[I 0,ns,aA [],I 0,I 0,ns,aA [],I 0]) [] r0) (sG Z5 pO 0 r0 iA (fun GL pW=>tA (I 0) r0 (tA (.bool false) r0 (nn ?_)))))
  have pX:=pW.pq [3] r0
  refine rt (tR (bO (cX pX 0 r0 r0 iA r0 (.tmp (.tmp .nil))) r0 ?_))
  have uD:=pX.nl [Z0] r0
  have rW:=uD.nl [Z0] r0
  have e6:iO s=(0,false):=by exact KO (.inr (.inr (.inr (.inr (yT ‹_›)))))
  rw[e6]
  exact⟨none,0,none,0,0,([]:aC),[],0,0,([]:aC),[],0,rfl,(rW.pk [1,2] r0)⟩
 have vX:=dY h9
 refine sk (nN (sr (qt r0 (lG [I ((aG ((((aB 32 (aJ s)).getD 2 [])++[58])++((aB 32 (aJ s)).getD 4 []))).1.1),.slice kL (((aG ((((aB 32 (aJ s)).getD 2 [])++[58])++((aB 32 (aJ s)).getD 4 []))).1.2.1).length) kN,aA ((aG ((((aB 32 (aJ s)).getD 2 [])++[58])++((aB 32 (aJ s)).getD 4 []))).1.2.2.1),I ((aG ((((aB 32 (aJ s)).getD 2 [])++[58])++((aB 32 (aJ s)).getD 4 []))).1.2.2.2),I ((aG ((((aB 32 (aJ s)).getD 3 [])++[58])++((aB 32 (aJ s)).getD 5 []))).1.1),.slice Aq8'' (((aG ((((aB 32 (aJ s)).getD 3 [])++[58])++((aB 32 (aJ s)).getD 5 []))).1.2.1).length) cq8'',aA ((aG ((((aB 32 (aJ s)).getD 3 [])++[58])++((aB 32 (aJ s)).getD 5 []))).1.2.2.1),I ((aG ((((aB 32 (aJ s)).getD 3 [])++[58])++((aB 32 (aJ s)).getD 5 []))).1.2.2.2)] pO 3 r0 iA) (tm (aA (kD ((((aG ((((aB 32 (aJ s)).getD 2 [])++[58])++((aB 32 (aJ s)).getD 4 []))).1.1),((aG ((((aB 32 (aJ s)).getD 2 [])++[58])++((aB 32 (aJ s)).getD 4 []))).1.2.1),((aG ((((aB 32 (aJ s)).getD 2 [])++[58])++((aB 32 (aJ s)).getD 4 []))).1.2.2.1),((aG ((((aB 32 (aJ s)).getD 2 [])++[58])++((aB 32 (aJ s)).getD 4 []))).1.2.2.2)),(((aG ((((aB 32 (aJ s)).getD 3 [])++[58])++((aB 32 (aJ s)).getD 5 []))).1.1),((aG ((((aB 32 (aJ s)).getD 3 [])++[58])++((aB 32 (aJ s)).getD 5 []))).1.2.1),((aG ((((aB 32 (aJ s)).getD 3 [])++[58])++((aB 32 (aJ s)).getD 5 []))).1.2.2.1),((aG ((((aB 32 (aJ s)).getD 3 [])++[58])++((aB 32 (aJ s)).getD 5 []))).1.2.2.2))))) r0 (qt r0 (gG dI r0) (sG [I ((aG ((((aB 32 (aJ s)).getD 2 [])++[58])++((aB 32 (aJ s)).getD 4 []))).1.1),.slice kL (((aG ((((aB 32 (aJ s)).getD 2 [])++[58])++((aB 32 (aJ s)).getD 4 []))).1.2.1).length) kN,aA ((aG ((((aB 32 (aJ s)).getD 2 [])++[58])++((aB 32 (aJ s)).getD 4 []))).1.2.2.1),I ((aG ((((aB 32 (aJ s)).getD 2 [])++[58])++((aB 32 (aJ s)).getD 4 []))).1.2.2.2),I ((aG ((((aB 32 (aJ s)).getD 3 [])++[58])++((aB 32 (aJ s)).getD 5 []))).1.1),.slice Aq8'' (((aG ((((aB 32 (aJ s)).getD 3 [])++[58])++((aB 32 (aJ s)).getD 5 []))).1.2.1).length) cq8'',aA ((aG ((((aB 32 (aJ s)).getD 3 [])++[58])++((aB 32 (aJ s)).getD 5 []))).1.2.2.1),I ((aG ((((aB 32 (aJ s)).getD 3 [])++[58])++((aB 32 (aJ s)).getD 5 []))).1.2.2.2)] pO 0 r0 iA (fun GM vZ=>?_)))))))
 refine tA (I (((kD ((((aG ((((aB 32 (aJ s)).getD 2 [])++[58])++((aB 32 (aJ s)).getD 4 []))).1.1),((aG ((((aB 32 (aJ s)).getD 2 [])++[58])++((aB 32 (aJ s)).getD 4 []))).1.2.1),((aG ((((aB 32 (aJ s)).getD 2 [])++[58])++((aB 32 (aJ s)).getD 4 []))).1.2.2.1),((aG ((((aB 32 (aJ s)).getD 2 [])++[58])++((aB 32 (aJ s)).getD 4 []))).1.2.2.2)),(((aG ((((aB 32 (aJ s)).getD 3 [])++[58])++((aB 32 (aJ s)).getD 5 []))).1.1),((aG ((((aB 32 (aJ s)).getD 3 [])++[58])++((aB 32 (aJ s)).getD 5 []))).1.2.1),((aG ((((aB 32 (aJ s)).getD 3 [])++[58])++((aB 32 (aJ s)).getD 5 []))).1.2.2.1),((aG ((((aB 32 (aJ s)).getD 3 [])++[58])++((aB 32 (aJ s)).getD 5 []))).1.2.2.2)))).length:Nat):Int)) r0 (tA (.bool true) r0 (nn (rt (bO (cX vZ 3 r0 r0 iA r0 (.tmp (.tmp .nil))) r0 ?_))))
 have e7:iO s=((((kD ((((aG ((((aB 32 (aJ s)).getD 2 [])++[58])++((aB 32 (aJ s)).getD 4 []))).1.1),((aG ((((aB 32 (aJ s)).getD 2 [])++[58])++((aB 32 (aJ s)).getD 4 []))).1.2.1),((aG ((((aB 32 (aJ s)).getD 2 [])++[58])++((aB 32 (aJ s)).getD 4 []))).1.2.2.1),((aG ((((aB 32 (aJ s)).getD 2 [])++[58])++((aB 32 (aJ s)).getD 4 []))).1.2.2.2)),(((aG ((((aB 32 (aJ s)).getD 3 [])++[58])++((aB 32 (aJ s)).getD 5 []))).1.1),((aG ((((aB 32 (aJ s)).getD 3 [])++[58])++((aB 32 (aJ s)).getD 5 []))).1.2.1),((aG ((((aB 32 (aJ s)).getD 3 [])++[58])++((aB 32 (aJ s)).getD 5 []))).1.2.2.1),((aG ((((aB 32 (aJ s)).getD 3 [])++[58])++((aB 32 (aJ s)).getD 5 []))).1.2.2.2)))).length:Nat):Int),true):=by exact Oi ‹_› ‹_› ‹_› (pI ‹_›)
 rw[e7]
 exact⟨kL,kN,Aq8'',cq8'',(aG ((((aB 32 (aJ s)).getD 2 [])++[58])++((aB 32 (aJ s)).getD 4 []))).1.1,(aG ((((aB 32 (aJ s)).getD 2 [])++[58])++((aB 32 (aJ s)).getD 4 []))).1.2.1,(aG ((((aB 32 (aJ s)).getD 2 [])++[58])++((aB 32 (aJ s)).getD 4 []))).1.2.2.1,(aG ((((aB 32 (aJ s)).getD 2 [])++[58])++((aB 32 (aJ s)).getD 4 []))).1.2.2.2,(aG ((((aB 32 (aJ s)).getD 3 [])++[58])++((aB 32 (aJ s)).getD 5 []))).1.1,(aG ((((aB 32 (aJ s)).getD 3 [])++[58])++((aB 32 (aJ s)).getD 5 []))).1.2.1,(aG ((((aB 32 (aJ s)).getD 3 [])++[58])++((aB 32 (aJ s)).getD 5 []))).1.2.2.1,(aG ((((aB 32 (aJ s)).getD 3 [])++[58])++((aB 32 (aJ s)).getD 5 []))).1.2.2.2,rfl,(vZ.pk [0,1] r0)⟩
theorem Mf {Ab:aM} {cb:Nat} (b:aC) (w:World) (hb:Sl w [] 1 Ab b.length cb (b.map I)) (hMl:bZ prog w [] "internal/bytealg.MaxLen" l4) (hGp:bZ prog w [] "internal/strconv.uint64pow10" jH) (hEr:bZ prog w [] "strconv.ErrRange" fH) (hEs:bZ prog w [] "strconv.ErrSyntax" fH):bF prog 73 [.slice Ab b.length cb] w (fun v w'=>v=.tuple #[.int .i64 ((gB b).1),.bool ((gB b).2)]∧SH w w' [] []):=by
 refine fQ 53 func73 r0 r0 ?_
 have aK:=SH.refl w []
 have q7:b.length≤9223372036854775807:=cB hb.cap hb.cO
 refine sr (tA (I 0) r0 (tA (.bool false) r0 (nx (tA (I 0) r0 (tA (.bool false) r0 (nn (sq (sr (tm (cD Ab b cb) r0 (cS aK r0 (XI _ _ (hb.aP aK)) (fun w1 aE=>nn (bl (sr (qt r0 (dO r0 r0) (tA (.bool (decide ((eY b)=1))) r0 (nl (nN (bI r0 (fun h1=>?_) (fun h1=>?_)))))))))))))))))))
 ·refine rg (tm (cD Ab b cb) r0 (cL r0 (Lz _ _ (hb.aP aE)) ?_))
  rintro _ w2 ⟨eF,eG,c1,MD,MK,MG,MI,P0,rfl,aI⟩
  replace aI:=aE.cJ aI
  refine tm (.tuple #[.agg #[I c1,I MD,(Z4 eF MK eG),aA MG,I MI,aA P0],I ((gW b).1),.bool ((gW b).2)]) r0 (qt r0 (xt 0 r0 r0) (qt r0 (xt 1 r0 r0) (qt r0 (xt 2 r0 r0) (tA (I ((gW b).1)) r0 (tA (.bool ((gW b).2)) r0 (nl (bN (nN (sr (tm (I ((gW b).1)) r0 (tm (.bool ((gW b).2)) r0 (tA (I ((gW b).1)) r0 (tA (.bool ((gW b).2)) r0 (nl (nN (rt (bO (.tmp (.tmp .nil)) r0 ?_)))))))))))))))))
  have e1:gB b=((gW b).1,((gW b).2)):=by exact Eg ‹_›
  rw[e1]
  exact⟨rfl,(aI.pk [] r0)⟩
 refine sr (qt r0 (dO r0 r0) (tA (.bool (decide ((eY b)=2))) r0 (nn (bI r0 (fun h2=>?_) (fun h2=>?_)))))
 ·refine rg (tm (cD Ab b cb) r0 (dP aE r0 (XA _ _ (hb.aP aE)) (fun A1 c2 w3 aN=>tm (.tuple #[.slice A1 (((eM b).1).length) c2,I ((eM b).2.1),.bool ((eM b).2.2)]) r0 (qt r0 (xt 0 r0 r0) (qt r0 (xt 1 r0 r0) (qt r0 (xt 2 r0 r0) (tA (I ((eM b).2.1)) r0 (tA (zJ b) r0 (nl (bN (nN (sr (tm (I ((eM b).2.1)) r0 (tm (zJ b) r0 (tA (I ((eM b).2.1)) r0 (tA (zJ b) r0 (nl (nN (rt (bO (.tmp (.tmp .nil)) r0 ?_))))))))))))))))))))
  have e2:gB b=((eM b).2.1,((eM b).2.2)):=by exact Eh ‹_›
  rw[e2]
  exact⟨rfl,(aN.pk [] r0)⟩
 refine sr (qt r0 (dO r0 r0) (tA (.bool (decide ((eY b)=3))) r0 (nn (bI r0 (fun h3=>?_) (fun h3=>?_)))))
 ·refine rg (tm (cD Ab b cb) r0 (cS aE r0 (KK _ _ (hb.aP aE) (by(exact(wO (by assumption:eY b=3) (by decide)).1)) (by(have h_:=(wO (by assumption:eY b=3) (by decide)).2; (try rw[oQ]); omega))) (fun w4 aR=>cL r0 (Li _ _ (by(have h_:=(wO (by assumption:eY b=3) (by decide)).2; (try rw[oQ]); omega)) (hGp.aP aR) (hEr.aP aR) (hEs.aP aR)) ?_)))
  rintro _ w5 ⟨DY,EO,ME,ML,MH,MJ,rfl,aZ⟩
  replace aZ:=aR.cJ aZ
  refine tm (.tuple #[.agg #[I ME,(Z4 DY ML EO),aA MH,I MJ],I ((jO (bT b)).1),.bool ((jO (bT b)).2)]) r0 (qt r0 (xt 0 r0 r0) (qt r0 (xt 1 r0 r0) (qt r0 (xt 2 r0 r0) (tA (I ((jO (bT b)).1)) r0 (tA (.bool ((jO (bT b)).2)) r0 (nl (bN (nN (sr (tm (I ((jO (bT b)).1)) r0 (tm (.bool ((jO (bT b)).2)) r0 (tA (I ((jO (bT b)).1)) r0 (tA (.bool ((jO (bT b)).2)) r0 (nl (nN (rt (bO (.tmp (.tmp .nil)) r0 ?_)))))))))))))))))
  have e3:gB b=((jO (bT b)).1,((jO (bT b)).2)):=by exact Ei ‹_›
  rw[e3]
  exact⟨rfl,(aZ.pk [] r0)⟩
 refine sr (qt r0 (dO r0 r0) (tA (.bool (decide ((eY b)=4))) r0 (nn (bI r0 (fun h4=>?_) (fun h4=>?_)))))
 ·refine rg (tm (cD Ab b cb) r0 (cS aE r0 (KK _ _ (hb.aP aE) (by(exact(wO (by assumption:eY b=4) (by decide)).1)) (by(have h_:=(wO (by assumption:eY b=4) (by decide)).2; (try rw[oQ]); omega))) (fun w6 bG=>cL r0 (Lp _ _ (by(have h_:=(wO (by assumption:eY b=4) (by decide)).2; (try rw[oQ]); omega)) (hMl.aP bG) (hGp.aP bG) (hEr.aP bG) (hEs.aP bG)) ?_)))
  rintro _ w7 ⟨LJ,MV,LL,MX,N5,aX,OC,OT,N7,O0,OH,OV,rfl,bU⟩
  replace bU:=bG.cJ bU
  refine tm (.tuple #[.agg #[I N5,.slice LJ aX.length MV,aA OC,I OT,I N7,(Z4 LL O0 MX),aA OH,I OV],I ((iO (bT b)).1),.bool ((iO (bT b)).2)]) r0 (qt r0 (xt 0 r0 r0) (qt r0 (xt 1 r0 r0) (qt r0 (xt 2 r0 r0) (tA (I ((iO (bT b)).1)) r0 (tA (.bool ((iO (bT b)).2)) r0 (nl (bN (nN (sr (tm (I ((iO (bT b)).1)) r0 (tm (.bool ((iO (bT b)).2)) r0 (tA (I ((iO (bT b)).1)) r0 (tA (.bool ((iO (bT b)).2)) r0 (nl (nN (rt (bO (.tmp (.tmp .nil)) r0 ?_)))))))))))))))))
  have e4:gB b=((iO (bT b)).1,((iO (bT b)).2)):=by exact Ej ‹_›
  rw[e4]
  exact⟨rfl,(bU.pk [] r0)⟩
 refine sr (qt r0 (dO r0 r0) (tA (.bool (decide ((eY b)=5))) r0 (nn (bI r0 (fun h5=>?_) (fun h5=>?_)))))
 ·refine rg (tm (cD Ab b cb) r0 (cL r0 (Ll _ _ (hb.aP aE)) ?_))
  rintro _ w8 ⟨LK,MW,LM,MY,n8,oF,oC,N6,bC,OD,OU,N8,O1,OI,OW,rfl,bV⟩
  replace bV:=aE.cJ bV
  refine tm (.tuple #[.agg #[I N6,.slice LK bC.length MW,aA OD,I OU,I N8,(Z4 LM O1 MY),aA OI,I OW],.slice n8 oF oC,I ((iD b).1),.bool ((iD b).2)]) r0 (qt r0 (xt 0 r0 r0) (qt r0 (xt 1 r0 r0) (qt r0 (xt 2 r0 r0) (qt r0 (xt 3 r0 r0) (tA (I ((iD b).1)) r0 (tA (.bool ((iD b).2)) r0 (nl (bN (nN (sr (tm (I ((iD b).1)) r0 (tm (.bool ((iD b).2)) r0 (tA (I ((iD b).1)) r0 (tA (.bool ((iD b).2)) r0 (nn (rt (bO (.tmp (.tmp .nil)) r0 ?_)))))))))))))))))
  have e5:gB b=((iD b).1,((iD b).2)):=by exact Ek ‹_›
  rw[e5]
  exact⟨rfl,(bV.pk [] r0)⟩
 refine sk (bN (nN (sr (tm (I 0) r0 (tm (.bool false) r0 (tA (I 0) r0 (tA (.bool false) r0 (nn (rt (bO (.tmp (.tmp .nil)) r0 ?_))))))))))
 have e6:gB b=(0,false):=by exact Ef ‹_› ‹_› ‹_› ‹_› ‹_›
 rw[e6]
 exact⟨rfl,aE⟩
theorem Mg {Ab:aM} {cb:Nat} (b:aC) (w:World) (hb:Sl w [] 1 Ab b.length cb (b.map I)) (Jv:b.length≤1099511627776) (hMl:bZ prog w [] "internal/bytealg.MaxLen" l4) (hGp:bZ prog w [] "internal/strconv.uint64pow10" jH) (hEr:bZ prog w [] "strconv.ErrRange" fH) (hEs:bZ prog w [] "strconv.ErrSyntax" fH) (hGk:PA w [] ⟨1,0,none⟩ (jY.map aA)):bF prog 40 [.slice Ab b.length cb] w (fun v w'=>v=aA (vH b)∧SH w w' [] []):=by
 refine fQ 21 func40 r0 r0 ?_
 have aK:=SH.refl w []
 have q7:b.length≤9223372036854775807:=cB hb.cap hb.cO
 refine sr (tA (aA []) r0 (nx (tm (cD Ab b cb) r0 (cS aK r0 (XI _ _ (hb.aP aK)) (fun w1 aE=>cS aE r0 (Lo _ _ (hGk.aP aE)) (fun w2 aI=>tA (aA (mL (eY b))) r0 (nn (sq (sr (tm (cD Ab b cb) r0 (cS aI r0 (Mf _ _ (hb.aP aI) (hMl.aP aI) (hGp.aP aI) (hEr.aP aI) (hEs.aP aI)) (fun w3 aN=>tm (.tuple #[I ((gB b).1),.bool ((gB b).2)]) r0 (qt r0 (xt 0 r0 r0) (qt r0 (xt 1 r0 r0) (tA (I ((gB b).1)) r0 (tA (.bool ((gB b).2)) r0 (nn (sq (rg (tm (.bool ((gB b).2)) r0 (nn (cd r0 (fun h1=>?_) (fun h1=>?_)))))))))))))))))))))))
 ·refine rg (tm (aA (mL (eY b))) r0 (tm (I ((gB b).1)) r0 (cS aN r0 (I0 _ _ (by(have hnb:=PL b; omega)) (hGp.aP aN)) (fun w4 aR=>qt r0 (cat r0 r0 (by(have hnb:=PL b; have hkt:=R6 (eY b); have hil:=sL (gB b).1 (by omega) (by omega); (try simp only[bH,bP,bK]); omega))) (qt r0 (cat r0 r0 (by(have hnb:=PL b; have hkt:=R6 (eY b); have hil:=sL (gB b).1 (by omega) (by omega); (try simp only[bH,bP,bK]); omega))) (tA (aA ((mL (eY b))++([32]++(Lib.itoa ((gB b).1))))) r0 (nx (tm (aA ((mL (eY b))++([32]++(Lib.itoa ((gB b).1))))) r0 (tA (aA ((mL (eY b))++([32]++(Lib.itoa ((gB b).1))))) r0 (nn (rt (fT (aA ((mL (eY b))++([32]++(Lib.itoa ((gB b).1))))) r0 ?_))))))))))))
  have e1:(mL (eY b))++([32]++(Lib.itoa ((gB b).1)))=vH b:=by exact Ca ‹_›
  exact⟨(aS (aA) e1),aR⟩
 refine sk (nN (sr (tm (aA (mL (eY b))) r0 (tA (aA (mL (eY b))) r0 (nn (rt (fT (aA (mL (eY b))) r0 ?_)))))))
 have e2:mL (eY b)=vH b:=by exact Bz ‹_›
 exact⟨(aS (aA) e2),aN⟩
theorem Ti (s:aD) (w:World) (hs_n:s.length≤1099511627776):bF prog 50 [aA s] w (fun v w'=>v=aA (vG s)∧SH w w' [] []):=by
 refine fQ 33 func50 r0 r0 ?_
 have aK:=SH.refl w []
 refine sr (tA (aA []) r0 (nx (tm (aA s) r0 (dP aK r0 (As _ _ (by omega)) (fun A1 c1 w1 aE=>tm (.tuple #[.slice A1 (((bW s).1).length) c1,.bool ((bW s).2)]) r0 (qt r0 (xt 0 r0 r0) (qt r0 (xt 1 r0 r0) (tA (.slice A1 (((bW s).1).length) c1) r0 (tA (.bool ((bW s).2)) r0 (nn (sq (sr (tm (.bool ((bW s).2)) r0 (qt r0 (nt r0) (nn (cd r0 (fun h1=>?_) (fun h1=>?_)))))))))))))))))
 ·have h2:=dX h1
  exact sr (tA (aA [110,111,10]) r0 (nn (rt (tR (fS r0 (Vp ‹_›) (aE.pk [] r0))))))
 have h3:=dY h1
 refine sk (nN (sr (tm (.slice A1 (((bW s).1).length) c1) r0 (cS aE r0 (Ty _ _ (aE.cI 0 r0)) (fun w2 aI=>tm (.tuple #[I ((gB ((bW s).1)).1),.bool ((gB ((bW s).1)).2)]) r0 (qt r0 (xt 0 r0 r0) (qt r0 (xt 1 r0 r0) (tA (I ((gB ((bW s).1)).1)) r0 (tA (.bool ((gB ((bW s).1)).2)) r0 (nn (sq (sr (tm (.bool ((gB ((bW s).1)).2)) r0 (qt r0 (nt r0) (nn (cd r0 (fun h4=>?_) (fun h4=>?_)))))))))))))))))
 ·have h5:=dX h4
  exact sr (tm (.slice A1 (((bW s).1).length) c1) r0 (cS aI r0 (TI _ _ (aI.cI 0 r0)) (fun w3 aN=>cS aN r0 (Av _ _) (fun w4 aR=>qt r0 (cat r0 r0 (by(have NP:=IY s; have hil:=sL (gB (bW s).1).1 (by omega) (by omega); (try simp only[bH,bP,bK]); omega))) (tA (aA ((mL (eY ((bW s).1)))++[10])) r0 (nn (rt (tR (fS r0 (Vq ‹_› ‹_›) (aR.pk [] r0))))))))))
 have h6:=dY h4
 refine sk (nN (sr (tm (.slice A1 (((bW s).1).length) c1) r0 (cS aI r0 (TI _ _ (aI.cI 0 r0)) (fun w5 aZ=>cS aZ r0 (Av _ _) (fun w6 bG=>qt r0 (cat r0 r0 (by(have NP:=IY s; have hil:=sL (gB (bW s).1).1 (by omega) (by omega); (try simp only[bH,bP,bK]); omega))) (tm (I ((gB ((bW s).1)).1)) r0 (cS bG r0 (DC _ _ (by(have NP:=IY s; omega))) (fun w7 bU=>qt r0 (cat r0 r0 (by(have NP:=IY s; have hil:=sL (gB (bW s).1).1 (by omega) (by omega); (try simp only[bH,bP,bK]); omega))) (qt r0 (cat r0 r0 (by(have NP:=IY s; have hil:=sL (gB (bW s).1).1 (by omega) (by omega); (try simp only[bH,bP,bK]); omega))) (tA (aA ((((mL (eY ((bW s).1)))++[32])++(Lib.itoa ((gB ((bW s).1)).1)))++[10])) r0 (nn (rt (fT (aA ((((mL (eY ((bW s).1)))++[32])++(Lib.itoa ((gB ((bW s).1)).1)))++[10])) r0 ?_))))))))))))))
 have e3:(((mL (eY ((bW s).1)))++[32])++(Lib.itoa ((gB ((bW s).1)).1)))++[10]=vG s:=by exact Vr ‹_› ‹_›
 exact⟨(aS (aA) e3),(bU.pk [] r0)⟩
theorem Lv (s:aD) (w:World) (hs_n:s.length≤2147483648):bF prog 38 [aA s] w (fun v w'=>v=aA (tB s)∧SH w w' [] []):=by
 refine fQ 20 func38 r0 r0 ?_
 have aK:=SH.refl w []
 refine sr (tA (aA []) r0 (nx (tm (aA s) r0 (dP aK r0 (K4 _ 47 _ (by omega)) (fun A1 c1 w1 aE=>tA (.slice A1 ((aB 47 s).length) c1) r0 (nn (sq (sr (tm (.slice A1 ((aB 47 s).length) c1) r0 (qt r0 (dK fZ r0) (qt r0 (nK r0 r0) (nn (bI r0 (fun h1=>?_) (fun h1=>?_))))))))))))))
 ·exact sr (tA (aA [110,111]) r0 (nn (rt (tR (fS r0 (Pl ‹_›) (aE.pk [] r0))))))
 refine sk (nN (sq ?_))
 obtain ⟨b1,rfl⟩:=sA aE 0 r0 (by omega)
 refine kA (fun w'=>∃ L,SH w w' [] L∧(.own (Z7 b1) ((aB 47 s).length) c1 9 1 ((aB 47 s).map aA))∈L∧True) (fun f w'=>∃ (gR:aM) (gT:Nat),Hz f [(2,aA (kC ((vA s).1) ((vA s).2)))]∧SH w w' [] [.own (Z7 b1) ((aB 47 s).length) c1 9 1 ((aB 47 s).map aA),.own gR (((vA s).1).length) gT 3 1 (((vA s).1).map I)]) mixed ?_ ?_
 ·refine dG 2 12 1023 (fun f w'=>∃ (gR:aM) (gT:Nat),Hz f [(2,aA []),(17,.slice gR (((vA s).1).length) gT),(18,.bool ((vA s).2))]∧SH w w' [] [.own (Z7 b1) ((aB 47 s).length) c1 9 1 ((aB 47 s).map aA),.own gR (((vA s).1).length) gT 3 1 (((vA s).1).map I)]) ?_ (fun D_4_0=>?_)
  ·rintro f w2 ⟨gR,gT,⟨g1,rfl⟩,aI⟩
   refine aO 10 r0 (cS aI r0 (RX _ _ _ (aI.cI 1 r0)) (fun w3 aN=>nk (m1 aN 0 r0) (tQ (fuel:=0) (is:=[11]) (.cons r0 (.nil)) (m1 aN 0 r0) (yA r0 (fW (v:=aA (kC ((vA s).1) ((vA s).2))) r0) (.nil (aQ ?_))))))
   exact⟨gR,gT,(zR r0),aN⟩
  refine dG 5 12 127 (fun f w'=>Hz f [(2,aA []),(15,.agg #[aA ((aB 47 s).getD 0 []),aA ((aB 47 s).getD 1 [])])]∧SH w w' [] [.own (Z7 b1) ((aB 47 s).length) c1 9 1 ((aB 47 s).map aA)]) ?_ (fun D_4_1=>?_)
  ·rintro f w4 ⟨⟨g2,rfl⟩,aR⟩
   exact aO 7 r0 (dP aR r0 (Ls _ _ _ (by(have w0:=PM s 0; have w1:=PM s 1; omega)) (by(have w0:=PM s 0; have w1:=PM s 1; omega))) (fun gR gT w5 aZ=>nk (m1 aZ 0 r0) (tQ (fuel:=2) (is:=[8,9]) (.cons r0 (.cons r0 (.nil))) (m1 aZ 0 r0) (yA r0 (xt 0 r0 r0) (yA r0 (xt 1 r0 r0) (.nil (bS D_4_0 ⟨gR,gT,(zR r0),aZ⟩)))))))
  have bG:=aE.drew
  exact tQ (fuel:=5) (is:=[0,1,2,3,4,5,6]) (.cons r0 (.cons r0 (.cons r0 (.cons r0 (.cons r0 (.cons r0 (.cons r0 (.nil)))))))) (m1 bG 0 r0) (yA r0 (mv (v:=sb b1 ((aB 47 s).length) c1) r0) (yA r0 (lR 0 fZ r0 r0 (by omega)) (yB r0 (fun ⟨Lq,aU,dH,_⟩=>s8 (g:=aA) (ys:=aB 47 s) (o:=0) [] aU dH r0 (by omega) eC) (yA r0 (mv (v:=sb b1 ((aB 47 s).length) c1) r0) (yA r0 (lR 1 fZ r0 r0 (by omega)) (yB r0 (fun ⟨Lq,aU,dH,_⟩=>s8 (g:=aA) (ys:=aB 47 s) (o:=1) [] aU dH r0 (by omega) eC) (yA r0 (bQ (v:=.agg #[aA ((aB 47 s).getD 0 []),aA ((aB 47 s).getD 1 [])]) [(0,aA ((aB 47 s).getD 0 [])),(1,aA ((aB 47 s).getD 1 []))] r0) (.nil (bS D_4_1 ⟨(zR r0),bG⟩)))))))))
 rintro f w6 ⟨gR,gT,⟨g3,rfl⟩,bU⟩
 refine nN (rt (fT (aA (kC ((vA s).1) ((vA s).2))) r0 ?_))
 have e2:kC ((vA s).1) ((vA s).2)=tB s:=by exact Pm ‹_›
 exact⟨(aS (aA) e2),(bU.pk [] r0)⟩
theorem W5 (c:aD) (s:aD) (w:World) (Za:c.length≤1099511627776) (hs_n:s.length≤1099511627776) (hGp:bZ prog w [] "internal/strconv.uint64pow10" jH) (hEr:bZ prog w [] "strconv.ErrRange" fH) (hEs:bZ prog w [] "strconv.ErrSyntax" fH):bF prog 37 [aA c,aA s] w (fun v w'=>v=aA (mV (decide (c=[111,108,100])) s)∧SH w w' [] []):=by
 refine fQ 28 func37 r0 r0 ?_
 have aK:=SH.refl w []
 refine sr (tA (aA []) r0 (nx (tm (aA s) r0 (dP aK r0 (C9 _ _ (by omega) (hGp.aP aK) (hEr.aP aK) (hEs.aP aK)) (fun eF eG w1 aE=>tm (.tuple #[.agg #[I ((aG s).1.1),(CF eF s eG),aA ((aG s).1.2.2.1),I ((aG s).1.2.2.2)],.bool ((aG s).2)]) r0 (qt r0 (xt 0 r0 r0) (qt r0 (xt 1 r0 r0) (al (cs:=eA) aE kZ r0 aH r0 (fun b1 w2 aI=>sG (HC s eF eG) aI 1 r0 cG (fun w3 aN=>tA (xP s) r0 (nn (sq (sr (tm (xP s) r0 (qt r0 (nt r0) (nn (cd r0 (fun h1=>?_) (fun h1=>?_))))))))))))))))))
 ·have h2:=dX h1
  exact sr (tA (aA [110,111]) r0 (nn (rt (tR (fS r0 (Fo ‹_›) (aN.pk [] r0))))))
 have h3:=dY h1
 refine sk (nN (sq (sr (tm (aA c) r0 (qt r0 (eqs r0 r0) (nl (nN (bI r0 (fun h4=>?_) (fun h4=>?_)))))))))
 ·exact sr (qt r0 (lG (HC s eF eG) aN 1 r0 cG) (qt r0 (bQ (v:=.agg #[I 1,I ((aG s).1.1),(CF eF s eG),aA ((aG s).1.2.2.1),I ((aG s).1.2.2.2),aA []]) [(0,I 1),(1,.agg #[I ((aG s).1.1),(CF eF s eG),aA ((aG s).1.2.2.1),I ((aG s).1.2.2.2)])] r0) (dP aN r0 (Ly 1 _ _ _ _ [] _ (aN.cI 0 r0) (by(have hnl:=EE s; omega)) (by((simp; done)))) (fun A1 c1 w4 aR=>qt r0 (xt 0 r0 r0) (qt r0 (xt 1 r0 r0) (cS aR r0 (RX _ _ _ (aR.cI 2 r0)) (fun w5 aZ=>tA (aA (kC ((lT 1 ((aG s).1.1) ((aG s).1.2.1) ((aG s).1.2.2.1) ((aG s).1.2.2.2) []).1) ((lT 1 ((aG s).1.1) ((aG s).1.2.1) ((aG s).1.2.2.1) ((aG s).1.2.2.2) []).2))) r0 (nn (rt (tR (fS r0 (Fp ‹_› ‹_›) (aZ.pk [] r0))))))))))))
 refine sk (nN (sr (qt r0 (lG (HC s eF eG) aN 1 r0 cG) (qt r0 (bQ (v:=.agg #[I 1,I ((aG s).1.1),(CF eF s eG),aA ((aG s).1.2.2.1),I ((aG s).1.2.2.2)]) [(0,I 1),(1,.agg #[I ((aG s).1.1),(CF eF s eG),aA ((aG s).1.2.2.1),I ((aG s).1.2.2.2)])] r0) (dP aN r0 (Md 1 _ _ _ _ _ (aN.cI 0 r0) (by(have hnl:=EE s; omega))) (fun A2 c2 w6 bG=>qt r0 (xt 0 r0 r0) (qt r0 (xt 1 r0 r0) (cS bG r0 (RX _ _ _ (bG.cI 2 r0)) (fun w7 bU=>tA (aA (kC ((HD s).1) ((HD s).2))) r0 (nn (rt (fT (aA (kC ((HD s).1) ((HD s).2))) r0 ?_))))))))))))
 have e3:kC ((HD s).1) ((HD s).2)=mV (decide (c=[111,108,100])) s:=by exact Fq ‹_› ‹_›
 exact⟨(aS (aA) e3),(bU.pk [] r0)⟩
theorem Mk {Awt:aM} {cwt:Nat} (wt:aC) {Alg:aM} {clg:Nat} (lg:List (aD×aD)) (w:World) (hwt:Sl w [] 1 Awt wt.length cwt (wt.map I)) (H0:wt.length≤1099511627776) (hlg:Sl w [] 2 Alg lg.length clg (lg.flatMap eH)) (jS: ∀ u∈lg,u.1.length≤9223372036854775807∧u.2.length≤9223372036854775807) (HU:lg.length≤1099511627776) (hGp:bZ prog w [] "internal/strconv.uint64pow10" jH) (hEr:bZ prog w [] "strconv.ErrRange" fH) (hEs:bZ prog w [] "strconv.ErrSyntax" fH):bF prog 20 [.slice Awt wt.length cwt,.slice Alg lg.length clg] w (fun v w'=>∃ Awr:aM,∃ cwr:Nat,∃ Alr:aM,∃ clr:Nat,v=.tuple #[.agg #[.int .i64 ((eJ wt lg).1.1),.slice Awr ((eJ wt lg).1.2.1).length cwr,.slice Alr ((eJ wt lg).1.2.2.1).length clr,aA ((eJ wt lg).1.2.2.2)],.bool ((eJ wt lg).2)]∧SH w w' [] [.own Awr (((eJ wt lg).1.2.1).length) cwr 3 1 (((eJ wt lg).1.2.1).map I),.own Alr (((eJ wt lg).1.2.2.1).length) clr 38 2 (((eJ wt lg).1.2.2.1).flatMap eH)]):=by
 refine fQ 16 func20 r0 r0 ?_
 have aK:=SH.refl w []
 have rB:wt.length≤9223372036854775807:=cB hwt.cap hwt.cO
 have rA:lg.length≤9223372036854775807:=cB hlg.cap hlg.cO
 refine sr (al (cs:=fN) aK oY r0 aH r0 (fun b1 w1 aE=>tA (.bool false) r0 (nx (tm (cD Awt wt cwt) r0 (tm (oN Alg lg clg) r0 (qt r0 (bQ (v:=.agg #[I 0,(Z4 Awt wt cwt),(cA Alg lg clg),aA []]) [(1,.slice Awt wt.length cwt),(2,.slice Alg lg.length clg)] r0) (cL r0 (W6 0 _ _ [] _ (hwt.aP aE) (by omega) (hlg.aP aE) jS (by omega)) ?_)))))))
 rintro _ w2 ⟨dS,dU,dR,dT,rfl,aI⟩
 replace aI:=aE.cJ aI
 refine al (cs:=fN) aI oY r0 aH r0 (fun b2 w3 aN=>sG [I 0,(Z4 dS wt dU),(cA dR lg dT),aA []] aN 3 r0 cV (fun w4 aR=>nn (sq (sr (qt r0 (lG [I 0,(Z4 dS wt dU),(cA dR lg dT),aA []] aR 3 r0 cV) (cS aR r0 (XJ 0 _ _ [] _ (aR.cI 1 r0) (aR.cI 2 r0) (‹_›) (by(simp; done)) (hGp.aP aR) (hEr.aP aR) (hEs.aP aR)) (fun w5 aZ=>qt r0 (nt r0) (nn (cd r0 (fun h1=>?_) (fun h1=>?_))))))))))
 ·have h2:=dX h1
  refine sr (qt r0 (bQ (v:=.agg #[I 0,ns,ns,aA []]) [] r0) (sG fN aZ 0 r0 cV (fun w6 bG=>tA (.bool false) r0 (nn ?_))))
  have bU:=bG.pq [3] r0
  refine rt (tR (bO (cX bU 0 r0 r0 cV r0 (.tmp .nil)) r0 ?_))
  have bV:=bU.nl [Z0] r0
  have b9:=bV.nl [.own none (([]:List (aD×aD)).length) 0 38 2 (([]:List (aD×aD)).flatMap eH)] r0
  have e1:eJ wt lg=((0,([]:aC),([]:List (aD×aD)),[]),false):=by exact Ww ‹_›
  rw[e1]
  exact⟨none,0,none,0,rfl,(b9.pk [1,2] r0)⟩
 have h3:=dY h1
 refine sk (nN (sr (qt r0 (lG [I 0,(Z4 dS wt dU),(cA dR lg dT),aA []] aZ 3 r0 cV) (sG [I 0,(Z4 dS wt dU),(cA dR lg dT),aA []] aZ 0 r0 cV (fun w7 cM=>tA (.bool true) r0 (nn (rt (bO (cX cM 3 r0 r0 cV r0 (.tmp .nil)) r0 ?_))))))))
 have e2:eJ wt lg=((0,wt,lg,[]),true):=by exact Wx ‹_›
 rw[e2]
 exact⟨dS,dU,dR,dT,rfl,(cM.pk [0,1] r0)⟩
theorem Th (sx:Int) {Awt:aM} {cwt:Nat} (wt:aC) {Alg:aM} {clg:Nat} (lg:List (aD×aD)) (to:aD) (s:aD) (w:World) (hwt:j6 w Awt wt.length cwt 3 1 (wt.map I)) (hlg:j6 w Alg lg.length clg 38 2 (lg.flatMap eH)) (hs_n:s.length≤1099511627776) (hfit:qC (sx,wt,lg,to)) (hx_wt_lg: ∀ k,(It.own Awt wt.length cwt 3 1 (wt.map I)).has k→ ¬ (It.own Alg lg.length clg 38 2 (lg.flatMap eH)).has k):bF prog 51 [.agg #[I sx,.slice Awt wt.length cwt,.slice Alg lg.length clg,aA to],aA s] w (fun v w'=>∃ Awr:aM,∃ cwr:Nat,∃ Alr:aM,∃ clr:Nat,v=.tuple #[.agg #[.int .i64 ((oX (sx,wt,lg,to) s).1.1),.slice Awr ((oX (sx,wt,lg,to) s).1.2.1).length cwr,.slice Alr ((oX (sx,wt,lg,to) s).1.2.2.1).length clr,aA ((oX (sx,wt,lg,to) s).1.2.2.2)],aA ((oX (sx,wt,lg,to) s).2)]∧SH w w' (dC Awt cwt++(dC Alg clg++[])) [.own Awr (((oX (sx,wt,lg,to) s).1.2.1).length) cwr 3 1 (((oX (sx,wt,lg,to) s).1.2.1).map I),.own Alr (((oX (sx,wt,lg,to) s).1.2.2.1).length) clr 38 2 (((oX (sx,wt,lg,to) s).1.2.2.1).flatMap eH)]):=by
 refine fQ 47 func51 r0 r0 ?_
 have aK:=SH.CP [(jE Awt wt cwt),(j7 Alg lg clg)] (eX hwt (eX hlg o5)) (.cons (eX hx_wt_lg o5) (.cons o5 .nil))
 have rB:wt.length≤9223372036854775807:=cB hwt.2.1 hwt.2.2.1
 have rA:lg.length≤9223372036854775807:=cB hlg.2.1 hlg.2.2.1
 refine sr (bx (v:=.agg #[I sx,(Z4 Awt wt cwt),(cA Alg lg clg),aA to]) (cs:=[I sx,(Z4 Awt wt cwt),(cA Alg lg clg),aA to]) aK r0 r0 aH r0 (fun b1 w1 aE=>al (cs:=fN) aE oY r0 aH r0 (fun b2 w2 aI=>tA (aA []) r0 (nx (tm (aA s) r0 (dP aI r0 (As _ _ (by omega)) (fun A1 c1 w3 aN=>tm (.tuple #[.slice A1 (((bW s).1).length) c1,.bool ((bW s).2)]) r0 (qt r0 (xt 0 r0 r0) (qt r0 (xt 1 r0 r0) (tA (.slice A1 (((bW s).1).length) c1) r0 (tA (.bool ((bW s).2)) r0 (nn (sq (rg (qt r0 (lG [I sx,(Z4 Awt wt cwt),(cA Alg lg clg),aA to] aN 2 r0 cV) (tm (.slice A1 (((bW s).1).length) c1) r0 (cL r0 (Ub _ _ _ _ _ _ (aN.cI 0 r0) (aN.cI 1 r0) (by exact VZ hfit.2.2.2.2) (by(have hft:=hfit; simp only[qC]at hft; omega)) (aN.cI 4 r0)) ?_)))))))))))))))))
 rintro _ w4 ⟨dS,dU,dR,dT,nO,nT,rfl,aR⟩
 replace aR:=aN.cJ aR
 refine tm (.tuple #[.agg #[I ((bY sx wt lg to ((bW s).1)).1.1),(G5 dS sx wt lg to s dU),(G4 dR sx wt lg to s dT),aA ((bY sx wt lg to ((bW s).1)).1.2.2.2)],.slice nO (((bY sx wt lg to ((bW s).1)).2.1).length) nT,.bool ((bY sx wt lg to ((bW s).1)).2.2)]) r0 (qt r0 (xt 0 r0 r0) (qt r0 (xt 1 r0 r0) (qt r0 (xt 2 r0 r0) (al (cs:=fN) aR oY r0 aH r0 (fun b3 w5 aZ=>sG (Z6 sx wt lg to s dS dU dR dT) aZ 8 r0 cV (fun w6 bG=>tA (.slice nO (((bY sx wt lg to ((bW s).1)).2.1).length) nT) r0 (tA (.bool ((bY sx wt lg to ((bW s).1)).2.2)) r0 (nn (sq (sr (tm (.bool ((bW s).2)) r0 (qt r0 (nt r0) (tm (.bool (!((bW s).2))) r0 (hP 25 r0 (fun h1=>?_) (fun h1=>?_)))))))))))))))
 ·have h2:=dX h1
  refine aT r0 (aT r0 (qt r0 (pt (v:=.bool true) r0 r0) (nn (fX r0 (sr (qt r0 (lG [I sx,(Z4 Awt wt cwt),(cA Alg lg clg),aA to] bG 2 r0 cV) (sG [I sx,(Z4 Awt wt cwt),(cA Alg lg clg),aA to] bG 3 r0 cV (fun w7 bU=>tA (aA [110,111,10]) r0 (nn ?_)))))))))
  have bV:=bU.pq [0,1,8] r0
  refine rt (tR (bO (cX bV 2 r0 r0 cV r0 (.tmp .nil)) r0 ?_))
  have e1:oX (sx,wt,lg,to) s=((sx,wt,lg,to),[110,111,10]):=by exact Uh ‹_›
  rw[e1]
  exact⟨Awt,cwt,Alg,clg,rfl,(bV.pk [0,1] r0)⟩
 have h3:=dY h1
 refine qh r0 (mv (v:=.bool ((bY sx wt lg to ((bW s).1)).2.2)) r0) (qh r0 (nt r0) (qt r0 (pf (v:=.bool (!((bY sx wt lg to ((bW s).1)).2.2))) r0 r0) (nn (cd r0 (fun h4=>?_) (fun h4=>?_)))))
 ·have h5:=dX h4
  refine sr (qt r0 (lG [I sx,(Z4 Awt wt cwt),(cA Alg lg clg),aA to] bG 2 r0 cV) (sG [I sx,(Z4 Awt wt cwt),(cA Alg lg clg),aA to] bG 3 r0 cV (fun w8 b9=>tA (aA [110,111,10]) r0 (nn ?_))))
  have cM:=b9.pq [0,1,8] r0
  refine rt (tR (bO (cX cM 2 r0 r0 cV r0 (.tmp .nil)) r0 ?_))
  have e2:oX (sx,wt,lg,to) s=((sx,wt,lg,to),[110,111,10]):=by exact Ui ‹_› ‹_›
  rw[e2]
  exact⟨Awt,cwt,Alg,clg,rfl,(cM.pk [0,1] r0)⟩
 have h6:=dY h4
 refine sk (nN ?_)
 have cW:=bG.pq [0,1,3,5,6,7,8] r0
 refine sq (sr (tm (.slice nO (((bY sx wt lg to ((bW s).1)).2.1).length) nT) r0 (qt r0 (dK aV r0) (qt r0 (dO r0 r0) (nn (bI r0 (fun h7=>?_) (fun h7=>?_)))))))
 ·refine sq ?_
  refine kA (fun w'=>∃ L,SH w w' (dC Awt cwt++(dC Alg clg++[])) L∧(.blk b3 34 (Z6 sx wt lg to s dS dU dR dT))∈L∧True) (fun f w'=>Hz f [(4,pB b2),(5,aA ((stateT ((bY sx wt lg to ((bW s).1)).1.1))++[10]))]∧SH w w' (dC Awt cwt++(dC Alg clg++[])) [(jE Awt wt cwt),(j7 Alg lg clg),.blk b2 34 (Z6 sx wt lg to s dS dU dR dT),(D9 dS sx wt lg to s dU),(D8 dR sx wt lg to s dT),.own nO (((bY sx wt lg to ((bW s).1)).2.1).length) nT 3 1 (((bY sx wt lg to ((bW s).1)).2.1).map I),.blk b3 34 (Z6 sx wt lg to s dS dU dR dT)]) mixed ?_ ?_
  ·refine dG 2 7 31 (fun f w'=>Hz f [(4,pB b2),(5,aA []),(33,.agg #[I ((bY sx wt lg to ((bW s).1)).1.1),(G5 dS sx wt lg to s dU),(G4 dR sx wt lg to s dT),aA ((bY sx wt lg to ((bW s).1)).1.2.2.2)]),(37,aA ((stateT ((bY sx wt lg to ((bW s).1)).1.1))++[10]))]∧SH w w' (dC Awt cwt++(dC Alg clg++[])) [(jE Awt wt cwt),(j7 Alg lg clg),.blk b2 34 fN,(D9 dS sx wt lg to s dU),(D8 dR sx wt lg to s dT),.own nO (((bY sx wt lg to ((bW s).1)).2.1).length) nT 3 1 (((bY sx wt lg to ((bW s).1)).2.1).map I),.blk b3 34 (Z6 sx wt lg to s dS dU dR dT)]) ?_ (fun D_6_0=>?_)
   ·rintro f w9 ⟨⟨g1,rfl⟩,dB⟩
    refine aO 5 r0 (sG (Z6 sx wt lg to s dS dU dR dT) dB 2 r0 cV (fun kF cY=>nk (m1 cY 5 r0) (tQ (fuel:=0) (is:=[6]) (.cons r0 (.nil)) (m1 cY 5 r0) (yA r0 (fW (v:=aA ((stateT ((bY sx wt lg to ((bW s).1)).1.1))++[10])) r0) (.nil (aQ ?_))))))
    exact⟨(zR r0),(cY.pk [0,1,6,2,3,4,5] r0)⟩
   refine dG 4 7 7 (fun f w'=>Hz f [(4,pB b2),(5,aA []),(33,.agg #[I ((bY sx wt lg to ((bW s).1)).1.1),(G5 dS sx wt lg to s dU),(G4 dR sx wt lg to s dT),aA ((bY sx wt lg to ((bW s).1)).1.2.2.2)]),(35,I ((bY sx wt lg to ((bW s).1)).1.1))]∧SH w w' (dC Awt cwt++(dC Alg clg++[])) [(jE Awt wt cwt),(j7 Alg lg clg),.blk b2 34 fN,(D9 dS sx wt lg to s dU),(D8 dR sx wt lg to s dT),.own nO (((bY sx wt lg to ((bW s).1)).2.1).length) nT 3 1 (((bY sx wt lg to ((bW s).1)).2.1).map I),.blk b3 34 (Z6 sx wt lg to s dS dU dR dT)]) ?_ (fun D_6_1=>?_)
   ·rintro f kB ⟨⟨g2,rfl⟩,dJ⟩
    exact aO 3 r0 (cS dJ r0 (TH _ _) (fun kI dM=>nk (m1 dM 6 r0) (tQ (fuel:=2) (is:=[4]) (.cons r0 (.nil)) (m1 dM 6 r0) (yA r0 (cat r0 r0 (by(have h1_:=wD (bY sx wt lg to (bW s).1).1.1; have h2_:=BJ (bY sx wt lg to (bW s).1).2.1; (try simp only[bH,bP,bK]); omega))) (.nil (bS D_6_0 ⟨(zR r0),dM⟩))))))
   have eO:=cW.drew
   exact tQ (fuel:=4) (is:=[0,1,2]) (.cons r0 (.cons r0 (.cons r0 (.nil)))) (m1 eO 6 r0) (yB r0 (fun ⟨Lq,aU,dH,_⟩=>rD (vs:=(Z6 sx wt lg to s dS dU dR dT)) aU dH r0 r0 r0 cV) (yA r0 (fa 0 o7 r0) (yB r0 (fun ⟨Lq,aU,dH,_⟩=>lM (I ((bY sx wt lg to ((bW s).1)).1.1)) aU dH r0 cN) (.nil (bS D_6_1 ⟨(zR r0),eO⟩)))))
  rintro f lU ⟨⟨g3,rfl⟩,eK⟩
  refine nN ?_
  have eZ:=eK.pq [0,1,2,3,4] r0
  refine rt (tR (bO (cX eZ 2 r0 r0 cV r0 (.tmp .nil)) r0 ?_))
  have e3:oX (sx,wt,lg,to) s=(((bY sx wt lg to ((bW s).1)).1.1,(bY sx wt lg to ((bW s).1)).1.2.1,(bY sx wt lg to ((bW s).1)).1.2.2.1,(bY sx wt lg to ((bW s).1)).1.2.2.2),(stateT ((bY sx wt lg to ((bW s).1)).1.1))++[10]):=by exact Uf ‹_› ‹_› ‹_›
  rw[e3]
  exact⟨dS,dU,dR,dT,rfl,(eZ.pk [3,4] r0)⟩
 refine sk (nN (sq ?_))
 refine kA (fun w'=>∃ L,SH w w' (dC Awt cwt++(dC Alg clg++[])) L∧(.blk b3 34 (Z6 sx wt lg to s dS dU dR dT))∈L∧True) (fun f w'=>Hz f [(4,pB b2),(5,aA ((((stateT ((bY sx wt lg to ((bW s).1)).1.1))++[32])++(mX ((bY sx wt lg to ((bW s).1)).2.1)))++[10]))]∧SH w w' (dC Awt cwt++(dC Alg clg++[])) [(jE Awt wt cwt),(j7 Alg lg clg),.blk b2 34 (Z6 sx wt lg to s dS dU dR dT),(D9 dS sx wt lg to s dU),(D8 dR sx wt lg to s dT),.own nO (((bY sx wt lg to ((bW s).1)).2.1).length) nT 3 1 (((bY sx wt lg to ((bW s).1)).2.1).map I),.blk b3 34 (Z6 sx wt lg to s dS dU dR dT)]) mixed ?_ ?_
 ·refine dG 2 11 511 (fun f w'=>Hz f [(4,pB b2),(5,aA []),(38,.agg #[I ((bY sx wt lg to ((bW s).1)).1.1),(G5 dS sx wt lg to s dU),(G4 dR sx wt lg to s dT),aA ((bY sx wt lg to ((bW s).1)).1.2.2.2)]),(46,aA ((((stateT ((bY sx wt lg to ((bW s).1)).1.1))++[32])++(mX ((bY sx wt lg to ((bW s).1)).2.1)))++[10]))]∧SH w w' (dC Awt cwt++(dC Alg clg++[])) [(jE Awt wt cwt),(j7 Alg lg clg),.blk b2 34 fN,(D9 dS sx wt lg to s dU),(D8 dR sx wt lg to s dT),.own nO (((bY sx wt lg to ((bW s).1)).2.1).length) nT 3 1 (((bY sx wt lg to ((bW s).1)).2.1).map I),.blk b3 34 (Z6 sx wt lg to s dS dU dR dT)]) ?_ (fun D_7_0=>?_)
  ·rintro f mH ⟨⟨g4,rfl⟩,fV⟩
   refine aO 9 r0 (sG (Z6 sx wt lg to s dS dU dR dT) fV 2 r0 cV (fun mI fD=>nk (m1 fD 5 r0) (tQ (fuel:=0) (is:=[10]) (.cons r0 (.nil)) (m1 fD 5 r0) (yA r0 (fW (v:=aA ((((stateT ((bY sx wt lg to ((bW s).1)).1.1))++[32])++(mX ((bY sx wt lg to ((bW s).1)).2.1)))++[10])) r0) (.nil (aQ ?_))))))
   exact⟨(zR r0),(fD.pk [0,1,6,2,3,4,5] r0)⟩
  refine dG 5 11 63 (fun f w'=>Hz f [(4,pB b2),(5,aA []),(38,.agg #[I ((bY sx wt lg to ((bW s).1)).1.1),(G5 dS sx wt lg to s dU),(G4 dR sx wt lg to s dT),aA ((bY sx wt lg to ((bW s).1)).1.2.2.2)]),(42,aA ((stateT ((bY sx wt lg to ((bW s).1)).1.1))++[32])),(43,.slice nO (((bY sx wt lg to ((bW s).1)).2.1).length) nT)]∧SH w w' (dC Awt cwt++(dC Alg clg++[])) [(jE Awt wt cwt),(j7 Alg lg clg),.blk b2 34 fN,(D9 dS sx wt lg to s dU),(D8 dR sx wt lg to s dT),.own nO (((bY sx wt lg to ((bW s).1)).2.1).length) nT 3 1 (((bY sx wt lg to ((bW s).1)).2.1).map I),.blk b3 34 (Z6 sx wt lg to s dS dU dR dT)]) ?_ (fun D_7_1=>?_)
  ·rintro f mU ⟨⟨g5,rfl⟩,gK⟩
   exact aO 6 r0 (cS gK r0 (Au _ _ (gK.cI 5 r0)) (fun n6 hU=>nk (m1 hU 6 r0) (tQ (fuel:=2) (is:=[7,8]) (.cons r0 (.cons r0 (.nil))) (m1 hU 6 r0) (yA r0 (cat r0 r0 (by(have h1_:=wD (bY sx wt lg to (bW s).1).1.1; have h2_:=BJ (bY sx wt lg to (bW s).1).2.1; (try simp only[bH,bP,bK]); omega))) (yA r0 (cat r0 r0 (by(have h1_:=wD (bY sx wt lg to (bW s).1).1.1; have h2_:=BJ (bY sx wt lg to (bW s).1).2.1; (try simp only[bH,bP,bK]); omega))) (.nil (bS D_7_0 ⟨(zR r0),hU⟩)))))))
  refine dG 7 11 39 (fun f w'=>Hz f [(4,pB b2),(5,aA []),(38,.agg #[I ((bY sx wt lg to ((bW s).1)).1.1),(G5 dS sx wt lg to s dU),(G4 dR sx wt lg to s dT),aA ((bY sx wt lg to ((bW s).1)).1.2.2.2)]),(40,I ((bY sx wt lg to ((bW s).1)).1.1)),(43,.slice nO (((bY sx wt lg to ((bW s).1)).2.1).length) nT)]∧SH w w' (dC Awt cwt++(dC Alg clg++[])) [(jE Awt wt cwt),(j7 Alg lg clg),.blk b2 34 fN,(D9 dS sx wt lg to s dU),(D8 dR sx wt lg to s dT),.own nO (((bY sx wt lg to ((bW s).1)).2.1).length) nT 3 1 (((bY sx wt lg to ((bW s).1)).2.1).map I),.blk b3 34 (Z6 sx wt lg to s dS dU dR dT)]) ?_ (fun D_7_2=>?_)
  ·rintro f m9 ⟨⟨g6,rfl⟩,iN⟩
   exact aO 3 r0 (cS iN r0 (TH _ _) (fun qQ iB=>nk (m1 iB 6 r0) (tQ (fuel:=5) (is:=[4]) (.cons r0 (.nil)) (m1 iB 6 r0) (yA r0 (cat r0 r0 (by(have h1_:=wD (bY sx wt lg to (bW s).1).1.1; have h2_:=BJ (bY sx wt lg to (bW s).1).2.1; (try simp only[bH,bP,bK]); omega))) (.nil (bS D_7_1 ⟨(zR r0),iB⟩))))))
  have iE:=cW.drew
  exact tQ (fuel:=7) (is:=[0,1,2,5]) (.cons r0 (.cons r0 (.cons r0 (.cons r0 (.nil))))) (m1 iE 6 r0) (yB r0 (fun ⟨Lq,aU,dH,_⟩=>rD (vs:=(Z6 sx wt lg to s dS dU dR dT)) aU dH r0 r0 r0 cV) (yA r0 (fa 0 o7 r0) (yB r0 (fun ⟨Lq,aU,dH,_⟩=>lM (I ((bY sx wt lg to ((bW s).1)).1.1)) aU dH r0 cN) (yA r0 (mv (v:=.slice nO (((bY sx wt lg to ((bW s).1)).2.1).length) nT) r0) (.nil (bS D_7_2 ⟨(zR r0),iE⟩))))))
 rintro f rJ ⟨⟨g7,rfl⟩,jB⟩
 refine nN ?_
 have gV:=jB.pq [0,1,2,3,4] r0
 refine rt (bO (cX gV 2 r0 r0 cV r0 (.tmp .nil)) r0 ?_)
 have e4:oX (sx,wt,lg,to) s=(((bY sx wt lg to ((bW s).1)).1.1,(bY sx wt lg to ((bW s).1)).1.2.1,(bY sx wt lg to ((bW s).1)).1.2.2.1,(bY sx wt lg to ((bW s).1)).1.2.2.2),(((stateT ((bY sx wt lg to ((bW s).1)).1.1))++[32])++(mX ((bY sx wt lg to ((bW s).1)).2.1)))++[10]):=by exact Ug ‹_› ‹_› ‹_›
 rw[e4]
 exact⟨dS,dU,dR,dT,rfl,(gV.pk [3,4] r0)⟩
theorem Bc (sx:Int) {Awt:aM} {cwt:Nat} (wt:aC) {Alg:aM} {clg:Nat} (lg:List (aD×aD)) (to:aD) (l:aD) (w:World) (hwt:j6 w Awt wt.length cwt 3 1 (wt.map I)) (hlg:j6 w Alg lg.length clg 38 2 (lg.flatMap eH)) (hl_n:l.length≤2147483648) (hfit:qC (sx,wt,lg,to)) (hx_wt_lg: ∀ k,(It.own Awt wt.length cwt 3 1 (wt.map I)).has k→ ¬ (It.own Alg lg.length clg 38 2 (lg.flatMap eH)).has k):bF prog 27 [.agg #[I sx,.slice Awt wt.length cwt,.slice Alg lg.length clg,aA to],aA l] w (fun v w'=>∃ Awr:aM,∃ cwr:Nat,∃ Alr:aM,∃ clr:Nat,v=.tuple #[.agg #[.int .i64 ((eV (sx,wt,lg,to) l).1.1),.slice Awr ((eV (sx,wt,lg,to) l).1.2.1).length cwr,.slice Alr ((eV (sx,wt,lg,to) l).1.2.2.1).length clr,aA ((eV (sx,wt,lg,to) l).1.2.2.2)],aA ((eV (sx,wt,lg,to) l).2)]∧SH w w' (dC Awt cwt++(dC Alg clg++[])) [.own Awr (((eV (sx,wt,lg,to) l).1.2.1).length) cwr 3 1 (((eV (sx,wt,lg,to) l).1.2.1).map I),.own Alr (((eV (sx,wt,lg,to) l).1.2.2.1).length) clr 38 2 (((eV (sx,wt,lg,to) l).1.2.2.1).flatMap eH)]):=by
 refine fQ 86 func27 r0 r0 ?_
 have aK:=SH.CP [(jE Awt wt cwt),(j7 Alg lg clg)] (eX hwt (eX hlg o5)) (.cons (eX hx_wt_lg o5) (.cons o5 .nil))
 have rB:wt.length≤9223372036854775807:=cB hwt.2.1 hwt.2.2.1
 have rA:lg.length≤9223372036854775807:=cB hlg.2.1 hlg.2.2.1
 refine sr (bx (v:=.agg #[I sx,(Z4 Awt wt cwt),(cA Alg lg clg),aA to]) (cs:=[I sx,(Z4 Awt wt cwt),(cA Alg lg clg),aA to]) aK r0 r0 aH r0 (fun b1 w1 aE=>al (cs:=fN) aE oY r0 aH r0 (fun b2 w2 aI=>tA (aA []) r0 (nx (tm (aA l) r0 (dP aI r0 (H8 _ (32:UInt8) _ (by omega)) (fun A1 c1 w3 aN=>tA (.slice A1 ((aB (32:UInt8) l).length) c1) r0 (nn (sq (sr (tm (.slice A1 ((aB (32:UInt8) l).length) c1) r0 (qt r0 (dK fZ r0) (qt r0 (nK r0 r0) (nn (bI r0 (fun h1=>?_) (fun h1=>?_))))))))))))))))
 ·refine sr (qt r0 (lG [I sx,(Z4 Awt wt cwt),(cA Alg lg clg),aA to] aN 2 r0 cV) (sG [I sx,(Z4 Awt wt cwt),(cA Alg lg clg),aA to] aN 3 r0 cV (fun w4 aR=>tA (aA [119,104,97,116,10]) r0 (nn ?_))))
  have aZ:=aR.pq [0,1,4] r0
  refine rt (tR (bO (cX aZ 2 r0 r0 cV r0 (.tmp .nil)) r0 ?_))
  have e1:eV (sx,wt,lg,to) l=((sx,wt,lg,to),[119,104,97,116,10]):=by exact Oy ‹_›
  rw[e1]
  exact⟨Awt,cwt,Alg,clg,rfl,(aZ.pk [0,1] r0)⟩
 refine sk (nN (sr (tm (.slice A1 ((aB (32:UInt8) l).length) c1) r0 (gN 1 fZ r0 r0 (aN.cI 4 r0) (by omega) (eQ aA [] (by omega)) aH r0 (fun a1 eL=>?_)))))
 have hlf:=FK l
 have w1:=hlf.1 1
 have w0:=hlf.1 0
 refine qt r0 (eW (SH.refl w3 []) eL (fun _ h=>h) r0 r0 eC) (dP aN r0 (TC ((aB (32:UInt8) l).getD 1 []) _ (by omega)) (fun eF eG w5 bG=>tm (.tuple #[.agg #[(JM l),(JJ eF l eG),(JK l),(JL l)],.bool ((aG ((aB (32:UInt8) l).getD 1 [])).2)]) r0 (qt r0 (xt 0 r0 r0) (qt r0 (xt 1 r0 r0) (al (cs:=eA) bG kZ r0 aH r0 (fun b3 w6 bU=>sG (P7 l eF eG) bU 6 r0 cG (fun w7 bV=>tA (.bool ((aG ((aB (32:UInt8) l).getD 1 [])).2)) r0 (nn (sq (sr (tm (.slice A1 ((aB (32:UInt8) l).length) c1) r0 (gN 0 fZ r0 r0 (bV.cI 4 r0) (by omega) (eQ aA [] (by omega)) aH r0 (fun a2 jG=>qt r0 (eW (SH.refl w7 []) jG (fun _ h=>h) r0 r0 eC) (nn (bl (sr (qt r0 (eqs r0 r0) (tA (.bool (decide ((aB (32:UInt8) l).getD 0 []=[111,108,100]))) r0 (nn (bI r0 (fun h2=>?_) (fun h2=>?_)))))))))))))))))))))
 ·refine sr (qt r0 (lG (P7 l eF eG) bV 6 r0 cG) (qt r0 (bQ (v:=.agg #[I 1,(JM l),(JJ eF l eG),(JK l),(JL l),aA []]) [(0,I 1),(1,.agg #[(JM l),(JJ eF l eG),(JK l),(JL l)])] r0) (dP bV r0 (Tq 1 ((aG ((aB (32:UInt8) l).getD 1 [])).1.1) ((aG ((aB (32:UInt8) l).getD 1 [])).1.2.1) ((aG ((aB (32:UInt8) l).getD 1 [])).1.2.2.1) ((aG ((aB (32:UInt8) l).getD 1 [])).1.2.2.2) [] _ (bV.cI 5 r0) (by omega) (by((simp; done)))) (fun A2 c2 w8 b9=>tm (.tuple #[.slice A2 (((Z2 l).1).length) c2,.bool ((Z2 l).2)]) r0 (qt r0 (xt 0 r0 r0) (qt r0 (xt 1 r0 r0) (tA (.slice A2 (((Z2 l).1).length) c2) r0 (tA (.bool ((Z2 l).2)) r0 (nn ?_)))))))))
  have cM:=b9.pq [0,1,2,3,7] r0
  refine sq ?_
  refine kA (fun w'=>∃ L,SH w w' (dC Awt cwt++(dC Alg clg++[])) L∧(.blk b1 34 [I sx,(Z4 Awt wt cwt),(cA Alg lg clg),aA to])∈L∧True) (fun f w'=>Hz f [(4,pB b2),(5,aA (kC ((Z2 l).1) ((Z2 l).2)++[10]))]∧SH w w' (dC Awt cwt++(dC Alg clg++[])) [(jE Awt wt cwt),(j7 Alg lg clg),.blk b1 34 [I sx,(Z4 Awt wt cwt),(cA Alg lg clg),aA to],.blk b2 34 [I sx,(Z4 Awt wt cwt),(cA Alg lg clg),aA to],.own A2 (((Z2 l).1).length) c2 3 1 (((Z2 l).1).map I)]) mixed ?_ ?_
  ·refine dG 2 6 15 (fun f w'=>Hz f [(4,pB b2),(5,aA []),(39,.agg #[I sx,(Z4 Awt wt cwt),(cA Alg lg clg),aA to]),(42,aA (kC ((Z2 l).1) ((Z2 l).2)++[10]))]∧SH w w' (dC Awt cwt++(dC Alg clg++[])) [(jE Awt wt cwt),(j7 Alg lg clg),.blk b1 34 [I sx,(Z4 Awt wt cwt),(cA Alg lg clg),aA to],.blk b2 34 fN,.own A2 (((Z2 l).1).length) c2 3 1 (((Z2 l).1).map I)]) ?_ (fun D_8_0=>?_)
   ·rintro f w9 ⟨⟨g1,rfl⟩,cW⟩
    refine aO 4 r0 (sG [I sx,(Z4 Awt wt cwt),(cA Alg lg clg),aA to] cW 3 r0 cV (fun kF dB=>nk (m1 dB 2 r0) (tQ (fuel:=0) (is:=[5]) (.cons r0 (.nil)) (m1 dB 2 r0) (yA r0 (fW (v:=aA (kC ((Z2 l).1) ((Z2 l).2)++[10])) r0) (.nil (aQ ?_))))))
    exact⟨(zR r0),(dB.pk [0,1,2,4,3] r0)⟩
   refine dG 3 6 7 (fun f w'=>Hz f [(4,pB b2),(5,aA []),(39,.agg #[I sx,(Z4 Awt wt cwt),(cA Alg lg clg),aA to]),(40,.slice A2 (((Z2 l).1).length) c2),(41,.bool ((Z2 l).2))]∧SH w w' (dC Awt cwt++(dC Alg clg++[])) [(jE Awt wt cwt),(j7 Alg lg clg),.blk b1 34 [I sx,(Z4 Awt wt cwt),(cA Alg lg clg),aA to],.blk b2 34 fN,.own A2 (((Z2 l).1).length) c2 3 1 (((Z2 l).1).map I)]) ?_ (fun D_8_1=>?_)
   ·rintro f kB ⟨⟨g2,rfl⟩,cY⟩
    exact aO 3 r0 (cS cY r0 (TG ((Z2 l).1) ((Z2 l).2) _ (cY.cI 4 r0)) (fun kI dJ=>nk (m1 dJ 2 r0) (bS D_8_0 ⟨(zR r0),dJ⟩)))
   have dM:=cM.drew
   exact tQ (fuel:=3) (is:=[0,1,2]) (.cons r0 (.cons r0 (.cons r0 (.nil)))) (m1 dM 2 r0) (yB r0 (fun ⟨Lq,aU,dH,_⟩=>rD (vs:=[I sx,(Z4 Awt wt cwt),(cA Alg lg clg),aA to]) aU dH r0 r0 r0 cV) (yA r0 (mv (v:=.slice A2 (((Z2 l).1).length) c2) r0) (yA r0 (mv (v:=.bool ((Z2 l).2)) r0) (.nil (bS D_8_1 ⟨(zR r0),dM⟩)))))
  rintro f lU ⟨⟨g3,rfl⟩,eO⟩
  refine nN ?_
  have eK:=eO.pq [0,1,3] r0
  refine rt (bR (tR (bO (cX eK 2 r0 r0 cV r0 (.tmp .nil)) r0 ?_)))
  have e2:eV (sx,wt,lg,to) l=((sx,wt,lg,to),(kC ((Z2 l).1) ((Z2 l).2)++[10])):=by exact Oz ‹_› ‹_›
  rw[e2]
  exact⟨Awt,cwt,Alg,clg,rfl,(eK.pk [0,1] r0)⟩
 refine sr (qt r0 (eqs r0 r0) (tA (.bool (decide ((aB (32:UInt8) l).getD 0 []=[114,101,113,117,101,115,116]))) r0 (nn (bI r0 (fun h3=>?_) (fun h3=>?_)))))
 ·refine sr (qt r0 (lG (P7 l eF eG) bV 6 r0 cG) (qt r0 (bQ (v:=.agg #[I 1,(JM l),(JJ eF l eG),(JK l),(JL l)]) [(0,I 1),(1,.agg #[(JM l),(JJ eF l eG),(JK l),(JL l)])] r0) (dP bV r0 (Tw 1 ((aG ((aB (32:UInt8) l).getD 1 [])).1.1) ((aG ((aB (32:UInt8) l).getD 1 [])).1.2.1) ((aG ((aB (32:UInt8) l).getD 1 [])).1.2.2.1) ((aG ((aB (32:UInt8) l).getD 1 [])).1.2.2.2) _ (bV.cI 5 r0) (by omega)) (fun A3 c3 mH eZ=>tm (.tuple #[.slice A3 (((Z3 l).1).length) c3,.bool ((Z3 l).2)]) r0 (qt r0 (xt 0 r0 r0) (qt r0 (xt 1 r0 r0) (tA (.slice A3 (((Z3 l).1).length) c3) r0 (tA (.bool ((Z3 l).2)) r0 (nn ?_)))))))))
  have fV:=eZ.pq [0,1,2,3,7] r0
  refine sq ?_
  refine kA (fun w'=>∃ L,SH w w' (dC Awt cwt++(dC Alg clg++[])) L∧(.blk b1 34 [I sx,(Z4 Awt wt cwt),(cA Alg lg clg),aA to])∈L∧True) (fun f w'=>Hz f [(4,pB b2),(5,aA (kC ((Z3 l).1) ((Z3 l).2)++[10]))]∧SH w w' (dC Awt cwt++(dC Alg clg++[])) [(jE Awt wt cwt),(j7 Alg lg clg),.blk b1 34 [I sx,(Z4 Awt wt cwt),(cA Alg lg clg),aA to],.blk b2 34 [I sx,(Z4 Awt wt cwt),(cA Alg lg clg),aA to],.own A3 (((Z3 l).1).length) c3 3 1 (((Z3 l).1).map I)]) mixed ?_ ?_
  ·refine dG 2 6 15 (fun f w'=>Hz f [(4,pB b2),(5,aA []),(51,.agg #[I sx,(Z4 Awt wt cwt),(cA Alg lg clg),aA to]),(54,aA (kC ((Z3 l).1) ((Z3 l).2)++[10]))]∧SH w w' (dC Awt cwt++(dC Alg clg++[])) [(jE Awt wt cwt),(j7 Alg lg clg),.blk b1 34 [I sx,(Z4 Awt wt cwt),(cA Alg lg clg),aA to],.blk b2 34 fN,.own A3 (((Z3 l).1).length) c3 3 1 (((Z3 l).1).map I)]) ?_ (fun D_11_0=>?_)
   ·rintro f mI ⟨⟨g4,rfl⟩,fD⟩
    refine aO 4 r0 (sG [I sx,(Z4 Awt wt cwt),(cA Alg lg clg),aA to] fD 3 r0 cV (fun mU gK=>nk (m1 gK 2 r0) (tQ (fuel:=0) (is:=[5]) (.cons r0 (.nil)) (m1 gK 2 r0) (yA r0 (fW (v:=aA (kC ((Z3 l).1) ((Z3 l).2)++[10])) r0) (.nil (aQ ?_))))))
    exact⟨(zR r0),(gK.pk [0,1,2,4,3] r0)⟩
   refine dG 3 6 7 (fun f w'=>Hz f [(4,pB b2),(5,aA []),(51,.agg #[I sx,(Z4 Awt wt cwt),(cA Alg lg clg),aA to]),(52,.slice A3 (((Z3 l).1).length) c3),(53,.bool ((Z3 l).2))]∧SH w w' (dC Awt cwt++(dC Alg clg++[])) [(jE Awt wt cwt),(j7 Alg lg clg),.blk b1 34 [I sx,(Z4 Awt wt cwt),(cA Alg lg clg),aA to],.blk b2 34 fN,.own A3 (((Z3 l).1).length) c3 3 1 (((Z3 l).1).map I)]) ?_ (fun D_11_1=>?_)
   ·rintro f n6 ⟨⟨g5,rfl⟩,hU⟩
    exact aO 3 r0 (cS hU r0 (TG ((Z3 l).1) ((Z3 l).2) _ (hU.cI 4 r0)) (fun m9 iN=>nk (m1 iN 2 r0) (bS D_11_0 ⟨(zR r0),iN⟩)))
   have iB:=fV.drew
   exact tQ (fuel:=3) (is:=[0,1,2]) (.cons r0 (.cons r0 (.cons r0 (.nil)))) (m1 iB 2 r0) (yB r0 (fun ⟨Lq,aU,dH,_⟩=>rD (vs:=[I sx,(Z4 Awt wt cwt),(cA Alg lg clg),aA to]) aU dH r0 r0 r0 cV) (yA r0 (mv (v:=.slice A3 (((Z3 l).1).length) c3) r0) (yA r0 (mv (v:=.bool ((Z3 l).2)) r0) (.nil (bS D_11_1 ⟨(zR r0),iB⟩)))))
  rintro f qQ ⟨⟨g6,rfl⟩,iE⟩
  refine nN ?_
  have jB:=iE.pq [0,1,3] r0
  refine rt (bR (tR (bO (cX jB 2 r0 r0 cV r0 (.tmp .nil)) r0 ?_)))
  have e3:eV (sx,wt,lg,to) l=((sx,wt,lg,to),(kC ((Z3 l).1) ((Z3 l).2)++[10])):=by exact Pa ‹_› ‹_›
  rw[e3]
  exact⟨Awt,cwt,Alg,clg,rfl,(jB.pk [0,1] r0)⟩
 refine sr (qt r0 (eqs r0 r0) (tA (.bool (decide ((aB (32:UInt8) l).getD 0 []=[108,111,103,105,110]))) r0 (nn ?_)))
 have gV:=bV.pq [0,1,2,3,4] r0
 refine bI r0 (fun h4=>?_) (fun h4=>?_)
 ·refine sr (tm (.slice A1 ((aB (32:UInt8) l).length) c1) r0 (gN 1 fZ r0 r0 (gV.cI 4 r0) (by omega) (eQ aA [] (by omega)) aH r0 (fun a3 nV=>qt r0 (eW (SH.refl w7 []) nV (fun _ h=>h) r0 r0 eC) (cS gV r0 (Tg ((aB (32:UInt8) l).getD 1 []) _ (by omega)) (fun rJ kU=>dP kU r0 (Tm ((m7 ((aB (32:UInt8) l).getD 1 [])).1) ((m7 ((aB (32:UInt8) l).getD 1 [])).2) _ (by omega) (by omega)) (fun A4 c4 tL kV=>tm (.tuple #[.slice A4 (((Z9 l).1).length) c4,.bool ((Z9 l).2)]) r0 (qt r0 (xt 0 r0 r0) (qt r0 (xt 1 r0 r0) (tA (.slice A4 (((Z9 l).1).length) c4) r0 (tA (.bool ((Z9 l).2)) r0 (nn (sq ?_))))))))))))
  obtain ⟨b4,rfl⟩:=sA kV 4 r0 (by omega)
  refine kA (fun w'=>∃ L,SH w w' (dC Awt cwt++(dC Alg clg++[])) L∧(.blk b1 34 [I sx,(Z4 Awt wt cwt),(cA Alg lg clg),aA to])∈L∧True) (fun f w'=>Hz f [(4,pB b2),(5,aA (kC ((Z9 l).1) ((Z9 l).2)++[10]))]∧SH w w' (dC Awt cwt++(dC Alg clg++[])) [(jE Awt wt cwt),(j7 Alg lg clg),.blk b1 34 [I sx,(Z4 Awt wt cwt),(cA Alg lg clg),aA to],.blk b2 34 [I sx,(Z4 Awt wt cwt),(cA Alg lg clg),aA to],.own (Z7 b4) ((aB (32:UInt8) l).length) c1 9 1 ((aB (32:UInt8) l).map aA),.own A4 (((Z9 l).1).length) c4 3 1 (((Z9 l).1).map I)]) mixed ?_ ?_
  ·refine dG 2 6 15 (fun f w'=>Hz f [(4,pB b2),(5,aA []),(65,.agg #[I sx,(Z4 Awt wt cwt),(cA Alg lg clg),aA to]),(68,aA (kC ((Z9 l).1) ((Z9 l).2)++[10]))]∧SH w w' (dC Awt cwt++(dC Alg clg++[])) [(jE Awt wt cwt),(j7 Alg lg clg),.blk b1 34 [I sx,(Z4 Awt wt cwt),(cA Alg lg clg),aA to],.blk b2 34 fN,.own (Z7 b4) ((aB (32:UInt8) l).length) c1 9 1 ((aB (32:UInt8) l).map aA),.own A4 (((Z9 l).1).length) c4 3 1 (((Z9 l).1).map I)]) ?_ (fun D_14_0=>?_)
   ·rintro f sC ⟨⟨g7,rfl⟩,kY⟩
    refine aO 4 r0 (sG [I sx,(Z4 Awt wt cwt),(cA Alg lg clg),aA to] kY 3 r0 cV (fun vK kH=>nk (m1 kH 2 r0) (tQ (fuel:=0) (is:=[5]) (.cons r0 (.nil)) (m1 kH 2 r0) (yA r0 (fW (v:=aA (kC ((Z9 l).1) ((Z9 l).2)++[10])) r0) (.nil (aQ ?_))))))
    exact⟨(zR r0),(kH.pk [0,1,2,5,3,4] r0)⟩
   refine dG 3 6 7 (fun f w'=>Hz f [(4,pB b2),(5,aA []),(65,.agg #[I sx,(Z4 Awt wt cwt),(cA Alg lg clg),aA to]),(66,.slice A4 (((Z9 l).1).length) c4),(67,.bool ((Z9 l).2))]∧SH w w' (dC Awt cwt++(dC Alg clg++[])) [(jE Awt wt cwt),(j7 Alg lg clg),.blk b1 34 [I sx,(Z4 Awt wt cwt),(cA Alg lg clg),aA to],.blk b2 34 fN,.own (Z7 b4) ((aB (32:UInt8) l).length) c1 9 1 ((aB (32:UInt8) l).map aA),.own A4 (((Z9 l).1).length) c4 3 1 (((Z9 l).1).map I)]) ?_ (fun D_14_1=>?_)
   ·rintro f xC ⟨⟨g8,rfl⟩,iU⟩
    exact aO 3 r0 (cS iU r0 (TG ((Z9 l).1) ((Z9 l).2) _ (iU.cI 5 r0)) (fun vL mK=>nk (m1 mK 2 r0) (bS D_14_0 ⟨(zR r0),mK⟩)))
   have lL:=kV.drew
   exact tQ (fuel:=3) (is:=[0,1,2]) (.cons r0 (.cons r0 (.cons r0 (.nil)))) (m1 lL 2 r0) (yB r0 (fun ⟨Lq,aU,dH,_⟩=>rD (vs:=[I sx,(Z4 Awt wt cwt),(cA Alg lg clg),aA to]) aU dH r0 r0 r0 cV) (yA r0 (mv (v:=.slice A4 (((Z9 l).1).length) c4) r0) (yA r0 (mv (v:=.bool ((Z9 l).2)) r0) (.nil (bS D_14_1 ⟨(zR r0),lL⟩)))))
  rintro f vM ⟨⟨g9,rfl⟩,mY⟩
  refine nN ?_
  have lN:=mY.pq [0,1,3] r0
  refine rt (bR (tR (bO (cX lN 2 r0 r0 cV r0 (.tmp .nil)) r0 ?_)))
  have e4:eV (sx,wt,lg,to) l=((sx,wt,lg,to),(kC ((Z9 l).1) ((Z9 l).2)++[10])):=by exact Ox ‹_› ‹_›
  rw[e4]
  exact⟨Awt,cwt,Alg,clg,rfl,(lN.pk [0,1] r0)⟩
 refine sr (qt r0 (eqs r0 r0) (tA (.bool (decide ((aB (32:UInt8) l).getD 0 []=[115,110,105,102,102]))) r0 (nn (bI r0 (fun h5=>?_) (fun h5=>?_)))))
 ·refine sq ?_
  obtain ⟨b5,rfl⟩:=sA gV 4 r0 (by omega)
  refine kA (fun w'=>∃ L,SH w w' (dC Awt cwt++(dC Alg clg++[])) L∧(.blk b1 34 [I sx,(Z4 Awt wt cwt),(cA Alg lg clg),aA to])∈L∧(.own (Z7 b5) ((aB (32:UInt8) l).length) c1 9 1 ((aB (32:UInt8) l).map aA))∈L∧True) (fun f w'=>Hz f [(4,pB b2),(5,aA (vG ((aB (32:UInt8) l).getD 1 [])))]∧SH w w' (dC Awt cwt++(dC Alg clg++[])) [(jE Awt wt cwt),(j7 Alg lg clg),.blk b1 34 [I sx,(Z4 Awt wt cwt),(cA Alg lg clg),aA to],.blk b2 34 [I sx,(Z4 Awt wt cwt),(cA Alg lg clg),aA to],.own (Z7 b5) ((aB (32:UInt8) l).length) c1 9 1 ((aB (32:UInt8) l).map aA)]) mixed ?_ ?_
  ·refine dG 2 7 31 (fun f w'=>Hz f [(4,pB b2),(5,aA []),(71,.agg #[I sx,(Z4 Awt wt cwt),(cA Alg lg clg),aA to]),(75,aA (vG ((aB (32:UInt8) l).getD 1 [])))]∧SH w w' (dC Awt cwt++(dC Alg clg++[])) [(jE Awt wt cwt),(j7 Alg lg clg),.blk b1 34 [I sx,(Z4 Awt wt cwt),(cA Alg lg clg),aA to],.blk b2 34 fN,.own (Z7 b5) ((aB (32:UInt8) l).length) c1 9 1 ((aB (32:UInt8) l).map aA)]) ?_ (fun D_16_0=>?_)
   ·rintro f B5 ⟨⟨EZ,rfl⟩,mS⟩
    refine aO 5 r0 (sG [I sx,(Z4 Awt wt cwt),(cA Alg lg clg),aA to] mS 3 r0 cV (fun AJ mZ=>nk ⟨_,mZ,cC 2 r0,cC 3 r0,aH⟩ (tQ (fuel:=0) (is:=[6]) (.cons r0 (.nil)) ⟨_,mZ,cC 2 r0,cC 3 r0,aH⟩ (yA r0 (fW (v:=aA (vG ((aB (32:UInt8) l).getD 1 []))) r0) (.nil (aQ ?_))))))
    exact⟨(zR r0),(mZ.pk [0,1,2,4,3] r0)⟩
   refine dG 3 7 15 (fun f w'=>Hz f [(4,pB b2),(5,aA []),(71,.agg #[I sx,(Z4 Awt wt cwt),(cA Alg lg clg),aA to]),(74,aA ((aB (32:UInt8) l).getD 1 []))]∧SH w w' (dC Awt cwt++(dC Alg clg++[])) [(jE Awt wt cwt),(j7 Alg lg clg),.blk b1 34 [I sx,(Z4 Awt wt cwt),(cA Alg lg clg),aA to],.blk b2 34 fN,.own (Z7 b5) ((aB (32:UInt8) l).length) c1 9 1 ((aB (32:UInt8) l).map aA)]) ?_ (fun D_16_1=>?_)
   ·rintro f DS ⟨⟨HN,rfl⟩,m0⟩
    exact aO 4 r0 (cS m0 r0 (Ti ((aB (32:UInt8) l).getD 1 []) _ (by omega)) (fun B6 oE=>nk ⟨_,oE,cC 2 r0,cC 4 r0,aH⟩ (bS D_16_0 ⟨(zR r0),oE⟩)))
   have oV:=gV.drew
   exact tQ (fuel:=3) (is:=[0,1,2,3]) (.cons r0 (.cons r0 (.cons r0 (.cons r0 (.nil))))) ⟨_,oV,cC 2 r0,cC 4 r0,aH⟩ (yB r0 (fun ⟨Lq,aU,dH,j0,_⟩=>rD (vs:=[I sx,(Z4 Awt wt cwt),(cA Alg lg clg),aA to]) aU dH r0 r0 r0 cV) (yA r0 (mv (v:=sb b5 ((aB (32:UInt8) l).length) c1) r0) (yA r0 (lR 1 fZ r0 r0 (by omega)) (yB r0 (fun ⟨Lq,aU,dH,j0,_⟩=>s8 (g:=aA) (ys:=aB (32:UInt8) l) (o:=1) [] aU j0 r0 (by omega) eC) (.nil (bS D_16_1 ⟨(zR r0),oV⟩))))))
  rintro f GK ⟨⟨J5,rfl⟩,qI⟩
  refine nN ?_
  have rV:=qI.pq [0,1,3] r0
  refine rt (bR (tR (bO (cX rV 2 r0 r0 cV r0 (.tmp .nil)) r0 ?_)))
  have e5:eV (sx,wt,lg,to) l=((sx,wt,lg,to),vG ((aB (32:UInt8) l).getD 1 [])):=by exact Pb ‹_› ‹_›
  rw[e5]
  exact⟨Awt,cwt,Alg,clg,rfl,(rV.pk [0,1] r0)⟩
 refine sr (qt r0 (eqs r0 r0) (tA (.bool (decide ((aB (32:UInt8) l).getD 0 []=[115,97,121]))) r0 (nn (bI r0 (fun h6=>?_) (fun h6=>?_)))))
 ·refine sq ?_
  obtain ⟨b6,rfl⟩:=sA gV 4 r0 (by omega)
  refine kA (fun w'=>∃ L,SH w w' (dC Awt cwt++(dC Alg clg++[])) L∧(.blk b1 34 [I sx,(Z4 Awt wt cwt),(cA Alg lg clg),aA to])∈L∧(.own (Z7 b6) ((aB (32:UInt8) l).length) c1 9 1 ((aB (32:UInt8) l).map aA))∈L∧True) (fun f w'=>∃ (Aw4''''':aM) (cw4''''':Nat) (Al4''''':aM) (cl4''''':Nat),Hz f [(4,pB b2),(5,aA ((mO sx wt lg to l).2))]∧SH w w' (dC Awt cwt++(dC Alg clg++[])) [.blk b1 34 [I sx,(Z4 Awt wt cwt),(cA Alg lg clg),aA to],.blk b2 34 [I ((mO sx wt lg to l).1.1),.slice Aw4''''' (((mO sx wt lg to l).1.2.1).length) cw4''''',.slice Al4''''' (((mO sx wt lg to l).1.2.2.1).length) cl4''''',aA ((mO sx wt lg to l).1.2.2.2)],.own (Z7 b6) ((aB (32:UInt8) l).length) c1 9 1 ((aB (32:UInt8) l).map aA),.own Aw4''''' (((mO sx wt lg to l).1.2.1).length) cw4''''' 3 1 (((mO sx wt lg to l).1.2.1).map I),.own Al4''''' (((mO sx wt lg to l).1.2.2.1).length) cl4''''' 38 2 (((mO sx wt lg to l).1.2.2.1).flatMap eH)]) mixed ?_ ?_
  ·refine dG 2 9 127 (fun f w'=>∃ (Aw4''''':aM) (cw4''''':Nat) (Al4''''':aM) (cl4''''':Nat),Hz f [(4,pB b2),(5,aA []),(83,.agg #[I ((mO sx wt lg to l).1.1),.slice Aw4''''' (((mO sx wt lg to l).1.2.1).length) cw4''''',.slice Al4''''' (((mO sx wt lg to l).1.2.2.1).length) cl4''''',aA ((mO sx wt lg to l).1.2.2.2)]),(84,aA ((mO sx wt lg to l).2))]∧SH w w' (dC Awt cwt++(dC Alg clg++[])) [.blk b1 34 [I sx,(Z4 Awt wt cwt),(cA Alg lg clg),aA to],.blk b2 34 fN,.own (Z7 b6) ((aB (32:UInt8) l).length) c1 9 1 ((aB (32:UInt8) l).map aA),.own Aw4''''' (((mO sx wt lg to l).1.2.1).length) cw4''''' 3 1 (((mO sx wt lg to l).1.2.1).map I),.own Al4''''' (((mO sx wt lg to l).1.2.2.1).length) cl4''''' 38 2 (((mO sx wt lg to l).1.2.2.1).flatMap eH)]) ?_ (fun D_18_0=>?_)
   ·rintro f GL ⟨Aw4''''',cw4''''',Al4''''',cl4''''',⟨J6,rfl⟩,vD⟩
    refine aO 7 r0 (sG [I ((mO sx wt lg to l).1.1),.slice Aw4''''' (((mO sx wt lg to l).1.2.1).length) cw4''''',.slice Al4''''' (((mO sx wt lg to l).1.2.2.1).length) cl4''''',aA ((mO sx wt lg to l).1.2.2.2)] vD 1 r0 cV (fun GM pO=>nk ⟨_,pO,cC 0 r0,cC 1 r0,aH⟩ (tQ (fuel:=0) (is:=[8]) (.cons r0 (.nil)) ⟨_,pO,cC 0 r0,cC 1 r0,aH⟩ (yA r0 (fW (v:=aA ((mO sx wt lg to l).2)) r0) (.nil (aQ ?_))))))
    exact⟨Aw4''''',cw4''''',Al4''''',cl4''''',(zR r0),(pO.pk [0,4,1,2,3] r0)⟩
   refine dG 5 9 15 (fun f w'=>Hz f [(4,pB b2),(5,aA []),(78,.agg #[I sx,(Z4 Awt wt cwt),(cA Alg lg clg),aA to]),(81,aA ((aB (32:UInt8) l).getD 1 []))]∧SH w w' (dC Awt cwt++(dC Alg clg++[])) [(jE Awt wt cwt),(j7 Alg lg clg),.blk b1 34 [I sx,(Z4 Awt wt cwt),(cA Alg lg clg),aA to],.blk b2 34 fN,.own (Z7 b6) ((aB (32:UInt8) l).length) c1 9 1 ((aB (32:UInt8) l).map aA)]) ?_ (fun D_18_1=>?_)
   ·rintro f LF ⟨⟨M8,rfl⟩,pW⟩
    refine aO 4 r0 (cL r0 (Th _ _ _ _ ((aB (32:UInt8) l).getD 1 []) _ (sB pW 0 r0) (sB pW 1 r0) (by omega) (‹_›) (uP pW 0 1 (by decide) r0 r0)) ?_)
    rintro _ LG ⟨Aw4''''',cw4''''',Al4''''',cl4''''',rfl,pX⟩
    replace pX:=pW.cK [0,1] [2,3,4] pX r0
    exact nk ⟨_,pX,cC 0 r0,cC 2 r0,aH⟩ (tQ (fuel:=2) (is:=[5,6]) (.cons r0 (.cons r0 (.nil))) ⟨_,pX,cC 0 r0,cC 2 r0,aH⟩ (yA r0 (xt 0 r0 r0) (yA r0 (xt 1 r0 r0) (.nil (bS D_18_0 ⟨Aw4''''',cw4''''',Al4''''',cl4''''',(zR r0),pX⟩)))))
   have uD:=gV.drew
   exact tQ (fuel:=5) (is:=[0,1,2,3]) (.cons r0 (.cons r0 (.cons r0 (.cons r0 (.nil))))) ⟨_,uD,cC 2 r0,cC 4 r0,aH⟩ (yB r0 (fun ⟨Lq,aU,dH,j0,_⟩=>rD (vs:=[I sx,(Z4 Awt wt cwt),(cA Alg lg clg),aA to]) aU dH r0 r0 r0 cV) (yA r0 (mv (v:=sb b6 ((aB (32:UInt8) l).length) c1) r0) (yA r0 (lR 1 fZ r0 r0 (by omega)) (yB r0 (fun ⟨Lq,aU,dH,j0,_⟩=>s8 (g:=aA) (ys:=aB (32:UInt8) l) (o:=1) [] aU j0 r0 (by omega) eC) (.nil (bS D_18_1 ⟨(zR r0),uD⟩))))))
  rintro f LH ⟨Aw4''''',cw4''''',Al4''''',cl4''''',⟨g15,rfl⟩,rW⟩
  refine nN ?_
  have vZ:=rW.pq [1,3,4] r0
  refine rt (bR (tR (bO (cX vZ 0 r0 r0 cV r0 (.tmp .nil)) r0 ?_)))
  have e6:eV (sx,wt,lg,to) l=(((mO sx wt lg to l).1.1,(mO sx wt lg to l).1.2.1,(mO sx wt lg to l).1.2.2.1,(mO sx wt lg to l).1.2.2.2),(mO sx wt lg to l).2):=by exact Pf ‹_› ‹_›
  rw[e6]
  exact⟨Aw4''''',cw4''''',Al4''''',cl4''''',rfl,(vZ.pk [1,2] r0)⟩
 refine sk (bN (nN (sr (qt r0 (lG [I sx,(Z4 Awt wt cwt),(cA Alg lg clg),aA to] gV 2 r0 cV) (sG [I sx,(Z4 Awt wt cwt),(cA Alg lg clg),aA to] gV 3 r0 cV (fun LI BL=>tA (aA [119,104,97,116,10]) r0 (nn ?_)))))))
 have zX:=BL.pq [0,1,4] r0
 refine rt (bO (cX zX 2 r0 r0 cV r0 (.tmp .nil)) r0 ?_)
 have e7:eV (sx,wt,lg,to) l=((sx,wt,lg,to),[119,104,97,116,10]):=by exact Pc ‹_› ‹_› ‹_› ‹_› ‹_› ‹_›
 rw[e7]
 exact⟨Awt,cwt,Alg,clg,rfl,(zX.pk [0,1] r0)⟩
theorem DK (s:aD) (w:World) (hs_n:s.length≤2147483648):bF prog 13 [aA s] w (fun v w'=>v=aA (bL s)∧SH w w' [] []):=by
 refine fQ 51 func13 r0 r0 ?_
 have aK:=SH.refl w []
 refine sr (tA (aA []) r0 (nn (sq (sr (tm (aA s) r0 (qt r0 (gG dI r0) (qt r0 (gtr r0 r0) (nn (bI r0 (fun h1=>?_) (fun h1=>?_))))))))))
 ·exact sr (tA (aA [116,111,111,32,108,111,110,103,10]) r0 (nn (rt (tR (fS r0 (by exact(J4 (by omega)).symm) aK)))))
 refine sk (nN (sr (cR aK aV [I 2,I 0] [I 2,I 0] aH r0 (fun b1 w1 aE=>qt r0 (bQ (v:=.agg #[aA [97,110,110],aA [97,98,99]]) [(0,aA [97,110,110]),(1,aA [97,98,99])] r0) (cR aE pP [.agg #[aA [97,110,110],aA [97,98,99]]] [aA [97,110,110],aA [97,98,99]] aH r0 (fun b2 w2 aI=>cL r0 (Ua ([2,0]:aC) ([(([97,110,110],[97,98,99]):aD×aD)]:List (aD×aD)) _ (aI.cI 0 r0) (by((simp; done))) (aI.cI 1 r0) (by(intro u hu; simp at hu; simp[hu])) (by((simp; done)))) ?_))))))
 rintro _ w3 ⟨dS,dU,dR,dT,rfl,aN⟩
 replace aN:=aI.cJ aN
 refine tm (.tuple #[.agg #[I ((eJ ([2,0]:aC) ([(([97,110,110],[97,98,99]):aD×aD)]:List (aD×aD))).1.1),.slice dS (((eJ ([2,0]:aC) ([(([97,110,110],[97,98,99]):aD×aD)]:List (aD×aD))).1.2.1).length) dU,.slice dR (((eJ ([2,0]:aC) ([(([97,110,110],[97,98,99]):aD×aD)]:List (aD×aD))).1.2.2.1).length) dT,aA ((eJ ([2,0]:aC) ([(([97,110,110],[97,98,99]):aD×aD)]:List (aD×aD))).1.2.2.2)],.bool ((eJ ([2,0]:aC) ([(([97,110,110],[97,98,99]):aD×aD)]:List (aD×aD))).2)]) r0 (qt r0 (xt 0 r0 r0) (qt r0 (xt 1 r0 r0) (al (cs:=fN) aN oY r0 aH r0 (fun b3 w4 aR=>sG [I ((eJ ([2,0]:aC) ([(([97,110,110],[97,98,99]):aD×aD)]:List (aD×aD))).1.1),.slice dS (((eJ ([2,0]:aC) ([(([97,110,110],[97,98,99]):aD×aD)]:List (aD×aD))).1.2.1).length) dU,.slice dR (((eJ ([2,0]:aC) ([(([97,110,110],[97,98,99]):aD×aD)]:List (aD×aD))).1.2.2.1).length) dT,aA ((eJ ([2,0]:aC) ([(([97,110,110],[97,98,99]):aD×aD)]:List (aD×aD))).1.2.2.2)] aR 4 r0 cV (fun w5 aZ=>tA (.bool ((eJ ([2,0]:aC) ([(([97,110,110],[97,98,99]):aD×aD)]:List (aD×aD))).2)) r0 (nn ?_))))))
 have bG:=aZ.pq [2,3,4] r0
 refine sr (tA (aA []) r0 (nx (tA (I 0) r0 (nn (sq (sr (tA (I 0) r0 (nn (bl (lp (σ:=Int×(aM)×Nat×(aC)×(aM)×Nat×(List Lg)×(aD)×Nat×Nat×(aD)) (fun⟨zs,Azw,czw,zw,Azl,czl,zl,zt,k,m,o⟩ f w'=>Hz f [(0,aA s),(3,pB b3),(5,aA o),(6,I (m:Int)),(7,I (k:Int))]∧(k≤s.length)∧(m≤k)∧(jL (s.take k)=((zs,zw,zl,zt),o,(s.take k).drop m))∧SH w w' [] [.own Azw zw.length czw 3 1 (zw.map I),.own Azl zl.length czl 38 2 (zl.flatMap eH),.blk b3 34 [I zs,.slice Azw zw.length czw,.slice Azl zl.length czl,aA zt]]) (fun⟨zs,Azw,czw,zw,Azl,czl,zl,zt,k,m,o⟩=>s.length-k) ((eJ ([2,0]:aC) ([(([97,110,110],[97,98,99]):aD×aD)]:List (aD×aD))).1.1,dS,dU,(eJ ([2,0]:aC) ([(([97,110,110],[97,98,99]):aD×aD)]:List (aD×aD))).1.2.1,dR,dT,(eJ ([2,0]:aC) ([(([97,110,110],[97,98,99]):aD×aD)]:List (aD×aD))).1.2.2.1,(eJ ([2,0]:aC) ([(([97,110,110],[97,98,99]):aD×aD)]:List (aD×aD))).1.2.2.2,0,0,[]) ⟨(zR r0),(by omega),(by omega),(by rw[Ck]; rfl),bG⟩ ?_))))))))))
 rintro ⟨zs,Azw,czw,zw,Azl,czl,zl,zt,k,m,o⟩ f w6 ⟨⟨g1,rfl⟩,hk,hm,hz,bU⟩
 refine sq (sr (tm (I (k:Int)) r0 (tm (aA s) r0 (qt r0 (gG dI r0) (qt r0 (lss r0 r0) (nl (nN (bI r0 (fun h2=>?_) (fun h2=>?_)))))))))
 ·refine sk (nN (sq (bl (sr (tm (aA s) r0 (tm (I (k:Int)) r0 (qt r0 (l5 k dI r0 r0 (by omega)) (qt r0 (dO r0 r0) (nn (bI r0 (fun h3=>?_) (fun h3=>?_)))))))))))
  ·refine sq ?_
   refine kA (fun w'=>∃ L,SH w w' [] L∧(.blk b3 34 [I zs,.slice Azw zw.length czw,.slice Azl zl.length czl,aA zt])∈L∧True) (fun f w'=>∃ (oK:aM) (oS:Nat) (oJ:aM) (oR gS:Nat),Hz f [(0,aA s),(3,pB b3),(5,aA o),(7,I (k:Int)),(8,pB gS),(9,aA ((eV (zs,zw,zl,zt) ((s.take k).drop m)).2))]∧SH w w' [] [.blk b3 34 [I zs,.slice Azw zw.length czw,.slice Azl zl.length czl,aA zt],.own oK (((eV (zs,zw,zl,zt) ((s.take k).drop m)).1.2.1).length) oS 3 1 (((eV (zs,zw,zl,zt) ((s.take k).drop m)).1.2.1).map I),.blk gS 34 [I ((eV (zs,zw,zl,zt) ((s.take k).drop m)).1.1),.slice oK (((eV (zs,zw,zl,zt) ((s.take k).drop m)).1.2.1).length) oS,.slice oJ (((eV (zs,zw,zl,zt) ((s.take k).drop m)).1.2.2.1).length) oR,aA ((eV (zs,zw,zl,zt) ((s.take k).drop m)).1.2.2.2)],.own oJ (((eV (zs,zw,zl,zt) ((s.take k).drop m)).1.2.2.1).length) oR 38 2 (((eV (zs,zw,zl,zt) ((s.take k).drop m)).1.2.2.1).flatMap eH)]) mixed ?_ ?_
   ·refine dG 2 12 1023 (fun f w'=>∃ (oK:aM) (oS:Nat) (oJ:aM) (oR gS:Nat),Hz f [(0,aA s),(3,pB b3),(5,aA o),(7,I (k:Int)),(8,pB gS),(37,.agg #[I ((eV (zs,zw,zl,zt) ((s.take k).drop m)).1.1),.slice oK (((eV (zs,zw,zl,zt) ((s.take k).drop m)).1.2.1).length) oS,.slice oJ (((eV (zs,zw,zl,zt) ((s.take k).drop m)).1.2.2.1).length) oR,aA ((eV (zs,zw,zl,zt) ((s.take k).drop m)).1.2.2.2)]),(38,aA ((eV (zs,zw,zl,zt) ((s.take k).drop m)).2))]∧SH w w' [] [.blk b3 34 [I zs,.slice Azw zw.length czw,.slice Azl zl.length czl,aA zt],.own oK (((eV (zs,zw,zl,zt) ((s.take k).drop m)).1.2.1).length) oS 3 1 (((eV (zs,zw,zl,zt) ((s.take k).drop m)).1.2.1).map I),.blk gS 34 fN,.own oJ (((eV (zs,zw,zl,zt) ((s.take k).drop m)).1.2.2.1).length) oR 38 2 (((eV (zs,zw,zl,zt) ((s.take k).drop m)).1.2.2.1).flatMap eH)]) ?_ (fun D_10_0=>?_)
    ·rintro f w7 ⟨oK,oS,oJ,oR,gS,⟨g2,rfl⟩,bV⟩
     refine aO 10 r0 (sG [I ((eV (zs,zw,zl,zt) ((s.take k).drop m)).1.1),.slice oK (((eV (zs,zw,zl,zt) ((s.take k).drop m)).1.2.1).length) oS,.slice oJ (((eV (zs,zw,zl,zt) ((s.take k).drop m)).1.2.2.1).length) oR,aA ((eV (zs,zw,zl,zt) ((s.take k).drop m)).1.2.2.2)] bV 2 r0 cV (fun w8 b9=>nk (m1 b9 0 r0) (tQ (fuel:=0) (is:=[11]) (.cons r0 (.nil)) (m1 b9 0 r0) (yA r0 (fW (v:=aA ((eV (zs,zw,zl,zt) ((s.take k).drop m)).2)) r0) (.nil (aQ ?_))))))
     exact⟨oK,oS,oJ,oR,gS,(zR r0),(b9.pk [0,1,3,2] r0)⟩
    refine dG 3 12 511 (fun f w'=>∃ (oK:aM) (oS:Nat) (oJ:aM) (oR:Nat),Hz f [(0,aA s),(3,pB b3),(5,aA o),(7,I (k:Int)),(37,.agg #[I ((eV (zs,zw,zl,zt) ((s.take k).drop m)).1.1),.slice oK (((eV (zs,zw,zl,zt) ((s.take k).drop m)).1.2.1).length) oS,.slice oJ (((eV (zs,zw,zl,zt) ((s.take k).drop m)).1.2.2.1).length) oR,aA ((eV (zs,zw,zl,zt) ((s.take k).drop m)).1.2.2.2)]),(38,aA ((eV (zs,zw,zl,zt) ((s.take k).drop m)).2))]∧SH w w' [] [.blk b3 34 [I zs,.slice Azw zw.length czw,.slice Azl zl.length czl,aA zt],.own oK (((eV (zs,zw,zl,zt) ((s.take k).drop m)).1.2.1).length) oS 3 1 (((eV (zs,zw,zl,zt) ((s.take k).drop m)).1.2.1).map I),.own oJ (((eV (zs,zw,zl,zt) ((s.take k).drop m)).1.2.2.1).length) oR 38 2 (((eV (zs,zw,zl,zt) ((s.take k).drop m)).1.2.2.1).flatMap eH)]) ?_ (fun D_10_1=>?_)
    ·rintro f w9 ⟨oK,oS,oJ,oR,⟨g3,rfl⟩,cM⟩
     exact aO 9 r0 (al (cs:=fN) cM oY r0 aH r0 (fun gS kF cW=>nk (m1 cW 0 r0) (bS D_10_0 ⟨oK,oS,oJ,oR,gS,(zR r0),(cW.pk [0,1,3,2] r0)⟩)))
    refine dG 6 12 543 (fun f w'=>∃ (gS:Nat),Hz f [(0,aA s),(3,pB b3),(5,aA o),(7,I (k:Int)),(8,pB gS),(31,.agg #[I zs,.slice Azw zw.length czw,.slice Azl zl.length czl,aA zt]),(35,aA ((s.take k).drop m))]∧SH w w' [] [.own Azw zw.length czw 3 1 (zw.map I),.own Azl zl.length czl 38 2 (zl.flatMap eH),.blk b3 34 [I zs,.slice Azw zw.length czw,.slice Azl zl.length czl,aA zt],.blk gS 34 fN]) ?_ (fun D_10_2=>?_)
    ·rintro f kB ⟨gS,⟨g4,rfl⟩,dB⟩
     refine aO 5 r0 (cL r0 (Bc _ _ _ _ _ _ (sB dB 0 r0) (sB dB 1 r0) (by((simp; omega))) (by(have KD:=(DN (s:=s.take k)).1; rw[hz]at KD; exact KD)) (uP dB 0 1 (by decide) r0 r0)) ?_)
     rintro _ kI ⟨oK,oS,oJ,oR,rfl,cY⟩
     replace cY:=dB.cK [0,1] [2,3] cY r0
     exact nk (m1 cY 0 r0) (tQ (fuel:=2) (is:=[6,7,8]) (.cons r0 (.cons r0 (.cons r0 (.nil)))) (m1 cY 0 r0) (yA r0 (mv (v:=.tuple #[.agg #[I ((eV (zs,zw,zl,zt) ((s.take k).drop m)).1.1),.slice oK (((eV (zs,zw,zl,zt) ((s.take k).drop m)).1.2.1).length) oS,.slice oJ (((eV (zs,zw,zl,zt) ((s.take k).drop m)).1.2.2.1).length) oR,aA ((eV (zs,zw,zl,zt) ((s.take k).drop m)).1.2.2.2)],aA ((eV (zs,zw,zl,zt) ((s.take k).drop m)).2)]) r0) (yA r0 (xt 0 r0 r0) (yA r0 (xt 1 r0 r0) (.nil (bS D_10_0 ⟨oK,oS,oJ,oR,gS,(zR r0),(cY.pk [0,2,1,3] r0)⟩))))))
    refine dG 7 12 31 (fun f w'=>Hz f [(0,aA s),(3,pB b3),(5,aA o),(7,I (k:Int)),(31,.agg #[I zs,.slice Azw zw.length czw,.slice Azl zl.length czl,aA zt]),(35,aA ((s.take k).drop m))]∧SH w w' [] [.own Azw zw.length czw 3 1 (zw.map I),.own Azl zl.length czl 38 2 (zl.flatMap eH),.blk b3 34 [I zs,.slice Azw zw.length czw,.slice Azl zl.length czl,aA zt]]) ?_ (fun D_10_3=>?_)
    ·rintro f lU ⟨⟨g5,rfl⟩,dJ⟩
     refine jN [5,9] (eX ?_ (jP ?_))
     ·refine eI r0 (cL r0 (Bc _ _ _ _ _ _ (sB dJ 0 r0) (sB dJ 1 r0) (by((simp; omega))) (by(have KD:=(DN (s:=s.take k)).1; rw[hz]at KD; exact KD)) (uP dJ 0 1 (by decide) r0 r0)) ?_)
      rintro _ mH ⟨oK,oS,oJ,oR,rfl,dM⟩
      replace dM:=dJ.cK [0,1] [2] dM r0
      exact nk (m1 dM 0 r0) (tQ (fuel:=3) (is:=[6,7,8]) (.cons r0 (.cons r0 (.cons r0 (.nil)))) (m1 dM 0 r0) (yA r0 (mv (v:=.tuple #[.agg #[I ((eV (zs,zw,zl,zt) ((s.take k).drop m)).1.1),.slice oK (((eV (zs,zw,zl,zt) ((s.take k).drop m)).1.2.1).length) oS,.slice oJ (((eV (zs,zw,zl,zt) ((s.take k).drop m)).1.2.2.1).length) oR,aA ((eV (zs,zw,zl,zt) ((s.take k).drop m)).1.2.2.2)],aA ((eV (zs,zw,zl,zt) ((s.take k).drop m)).2)]) r0) (yA r0 (xt 0 r0 r0) (yA r0 (xt 1 r0 r0) (.nil (bS D_10_1 ⟨oK,oS,oJ,oR,(zR r0),dM⟩))))))
     exact eI r0 (al (cs:=fN) dJ oY r0 aH r0 (fun gS mI eO=>nk (m1 eO 2 r0) (bS D_10_2 ⟨gS,(zR r0),eO⟩)))
    have eK:=bU.drew
    exact tQ (fuel:=7) (is:=[0,1,2,3,4]) (.cons r0 (.cons r0 (.cons r0 (.cons r0 (.cons r0 (.nil)))))) (m1 eK 2 r0) (yB r0 (fun ⟨Lq,aU,dH,_⟩=>rD (vs:=[I zs,.slice Azw zw.length czw,.slice Azl zl.length czl,aA zt]) aU dH r0 r0 r0 cV) (yA r0 (mv (v:=aA s) r0) (yA r0 (mv (v:=I (m:Int)) r0) (yA r0 (mv (v:=I (k:Int)) r0) (yA r0 (JV (l:=s) m k dI r0 r0 r0 (by omega) (by omega)) (.nil (bS D_10_3 ⟨(zR r0),eK⟩)))))))
   rintro f mU ⟨oK,oS,oJ,oR,gS,⟨g6,rfl⟩,eZ⟩
   refine nN (sr (qt r0 (lG [I ((eV (zs,zw,zl,zt) ((s.take k).drop m)).1.1),.slice oK (((eV (zs,zw,zl,zt) ((s.take k).drop m)).1.2.1).length) oS,.slice oJ (((eV (zs,zw,zl,zt) ((s.take k).drop m)).1.2.2.1).length) oR,aA ((eV (zs,zw,zl,zt) ((s.take k).drop m)).1.2.2.2)] eZ 2 r0 cV) (sG [I ((eV (zs,zw,zl,zt) ((s.take k).drop m)).1.1),.slice oK (((eV (zs,zw,zl,zt) ((s.take k).drop m)).1.2.1).length) oS,.slice oJ (((eV (zs,zw,zl,zt) ((s.take k).drop m)).1.2.2.1).length) oR,aA ((eV (zs,zw,zl,zt) ((s.take k).drop m)).1.2.2.2)] eZ 0 r0 cV (fun n6 fV=>nx (tm (aA o) r0 (tm (aA ((eV (zs,zw,zl,zt) ((s.take k).drop m)).2)) r0 (qt r0 (cat r0 r0 (by(have hft:=DN (s:=s.take k); rw[hz]at hft; simp only[qC,dV]at hft; have h1_:=IB (zs,zw,zl,zt) ((s.take k).drop m); have h2_:=wD zs; (try simp only[eV]); (try simp only[bH,bP,bK]); omega))) (tA (aA (o++((eV (zs,zw,zl,zt) ((s.take k).drop m)).2))) r0 (nn (rg (tm (I (k:Int)) r0 (qt r0 (add r0 r0 (by(exact⟨by omega,by omega⟩))) (tA (I ((k:Int)+1)) r0 (nl (bN (nN (rg (tm (I (k:Int)) r0 (qt r0 (add r0 r0 (by(exact⟨by omega,by omega⟩))) (tA (I ((k:Int)+1)) r0 (nn ?_)))))))))))))))))))))
   refine⟨((eV (zs,zw,zl,zt) ((s.take k).drop m)).1.1,oK,oS,(eV (zs,zw,zl,zt) ((s.take k).drop m)).1.2.1,oJ,oR,(eV (zs,zw,zl,zt) ((s.take k).drop m)).1.2.2.1,(eV (zs,zw,zl,zt) ((s.take k).drop m)).1.2.2.2,k+1,k+1,(o++((eV (zs,zw,zl,zt) ((s.take k).drop m)).2))),⟨(zR r0),(by omega),(by omega),(Ut (by omega) hz (wP.1 ‹_›) r0 r0),(fV.pk [0,2,3] r0)⟩,?_⟩
   show s.length-(k+1)<s.length-k
   omega
  refine sk (bN (nN (rg (tm (I (k:Int)) r0 (qt r0 (add r0 r0 (by(exact⟨by omega,by omega⟩))) (tA (I ((k:Int)+1)) r0 (nl (nN ?_))))))))
  refine⟨(zs,Azw,czw,zw,Azl,czl,zl,zt,k+1,m,o),⟨(zR r0),(by omega),(by omega),(Uu (by omega) hm hz (fun hh=>absurd (wP.2 hh) ‹_›)),bU⟩,?_⟩
  show s.length-(k+1)<s.length-k
  omega
 refine ex (tE (tE (bE (nN (sr (tm (aA o) r0 (qt r0 (fa 0 o7 r0) (qt r0 (lD (I zs) bU 2 r0 cN) (cS bU r0 (TH _ _) (fun m9 fD=>qt r0 (cat r0 r0 (by(have hft:=DN (s:=s.take k); rw[hz]at hft; simp only[qC,dV]at hft; have h1_:=IB (zs,zw,zl,zt) ((s.take k).drop m); have h2_:=wD zs; (try simp only[eV]); (try simp only[bH,bP,bK]); omega))) (qt r0 (cat r0 r0 (by(have hft:=DN (s:=s.take k); rw[hz]at hft; simp only[qC,dV]at hft; have h1_:=IB (zs,zw,zl,zt) ((s.take k).drop m); have h2_:=wD zs; (try simp only[eV]); (try simp only[bH,bP,bK]); omega))) (tA (aA ((o++(stateT zs))++[10])) r0 (nn (rt (fT (aA ((o++(stateT zs))++[10])) r0 ?_)))))))))))))))
 have e2:(o++(stateT zs))++[10]=bL s:=by exact(Us (k:=k) (by omega) (by omega) hz).symm
 exact⟨(aS (aA) e2),(fD.pk [] r0)⟩
theorem Xz {tb:Nat} {Awt:aM} {cwt:Nat} {Alg:aM} {clg:Nat} (sx:Int) (wt:aC) (lg:List Lg) (to:aD) {Ab:aM} {cb:Nat} (b:aC) (w:World) (htk:w.heap[tb]?=some (.cells [.int .i64 sx,.slice Awt wt.length cwt,.slice Alg lg.length clg,aA to].toArray 34 (0,0))) (hwt:j6 w Awt wt.length cwt 3 1 (wt.map I)) (hlg:j6 w Alg lg.length clg 38 2 (lg.flatMap eH)) (RQ: ∀ k,(It.blk tb 34 [.int .i64 sx,.slice Awt wt.length cwt,.slice Alg lg.length clg,aA to]).has k→ ¬ (It.own Awt wt.length cwt 3 1 (wt.map I)).has k) (KI: ∀ k,(It.blk tb 34 [.int .i64 sx,.slice Awt wt.length cwt,.slice Alg lg.length clg,aA to]).has k→ ¬ (It.own Alg lg.length clg 38 2 (lg.flatMap eH)).has k) (RR: ∀ k,(It.own Awt wt.length cwt 3 1 (wt.map I)).has k→ ¬ (It.own Alg lg.length clg 38 2 (lg.flatMap eH)).has k) (hfit:qC (sx,wt,lg,to)) (hb:Sl w ([tb]++(dC Awt cwt++(dC Alg clg++[]))) 1 Ab b.length cb (b.map I)) (Jv:b.length≤1099511627776) (hGp:bZ prog w ([tb]++(dC Awt cwt++(dC Alg clg++[]))) "internal/strconv.uint64pow10" jH) (hEr:bZ prog w ([tb]++(dC Awt cwt++(dC Alg clg++[]))) "strconv.ErrRange" fH) (hEs:bZ prog w ([tb]++(dC Awt cwt++(dC Alg clg++[]))) "strconv.ErrSyntax" fH) (hSt:PA w ([tb]++(dC Awt cwt++(dC Alg clg++[]))) ⟨0,0,none⟩ (j5.map aA)):bF prog 41 [pB tb,.slice Ab b.length cb] w (fun v w'=>∃ Awr:aM,∃ cwr:Nat,∃ Alr:aM,∃ clr:Nat,v=aA ((l8 (sx,wt,lg,to) b).2)∧SH w w' ([tb]++(dC Awt cwt++(dC Alg clg++[]))) [.blk tb 34 [I ((l8 (sx,wt,lg,to) b).1.1),.slice Awr (((l8 (sx,wt,lg,to) b).1.2.1).length) cwr,.slice Alr (((l8 (sx,wt,lg,to) b).1.2.2.1).length) clr,aA ((l8 (sx,wt,lg,to) b).1.2.2.2)],.own Awr (((l8 (sx,wt,lg,to) b).1.2.1).length) cwr 3 1 (((l8 (sx,wt,lg,to) b).1.2.1).map I),.own Alr (((l8 (sx,wt,lg,to) b).1.2.2.1).length) clr 38 2 (((l8 (sx,wt,lg,to) b).1.2.2.1).flatMap eH)]):=by
 refine fQ 41 func41 r0 r0 ?_
 have aK:=SH.CP [.blk tb 34 [I sx,(Z4 Awt wt cwt),(cA Alg lg clg),aA to],(jE Awt wt cwt),(j7 Alg lg clg)] (eX htk (eX hwt (eX hlg o5))) (.cons (eX RQ (eX KI o5)) (.cons (eX RR o5) (.cons o5 .nil)))
 have q7:b.length≤9223372036854775807:=cB hb.cap hb.cO
 refine sr (tA (aA []) r0 (nx (tm (pB tb) r0 (tn r0 (qt r0 (lG [I sx,(Z4 Awt wt cwt),(cA Alg lg clg),aA to] aK 0 r0 cV) (tm (cD Ab b cb) r0 (cL r0 (Ml _ _ _ _ _ _ (aK.cI 1 r0) (aK.cI 2 r0) (by exact VZ hfit.2.2.2.2) (by(have hft:=hfit; simp only[qC]at hft; omega)) (hb.up aK (fun _ h=>h) (by simp)) (hGp.up aK (fun _ h=>h) (by simp)) (hEr.up aK (fun _ h=>h) (by simp)) (hEs.up aK (fun _ h=>h) (by simp))) ?_)))))))
 rintro _ w1 ⟨dS,dU,dR,dT,nO,nT,rfl,aE⟩
 replace aE:=aK.cJ aE
 refine tm (.tuple #[.agg #[I ((bY sx wt lg to b).1.1),.slice dS (((bY sx wt lg to b).1.2.1).length) dU,.slice dR (((bY sx wt lg to b).1.2.2.1).length) dT,aA ((bY sx wt lg to b).1.2.2.2)],.slice nO (((bY sx wt lg to b).2.1).length) nT,.bool ((bY sx wt lg to b).2.2)]) r0 (qt r0 (xt 0 r0 r0) (qt r0 (xt 1 r0 r0) (qt r0 (xt 2 r0 r0) (al (cs:=fN) aE oY r0 aH r0 (fun b1 w2 aI=>sG (L3 sx wt lg to b dS dU dR dT) aI 6 r0 cV (fun w3 aN=>tA (.slice nO (((bY sx wt lg to b).2.1).length) nT) r0 (tA (.bool ((bY sx wt lg to b).2.2)) r0 (nn (sq (sr (tm (.bool ((bY sx wt lg to b).2.2)) r0 (qt r0 (nt r0) (nn (cd r0 (fun h1=>?_) (fun h1=>?_)))))))))))))))
 ·have h2:=dX h1
  refine sr (tA (aA [110,111]) r0 (nn ?_))
  have aR:=aN.pq [0,1,2] r0
  refine rt (tR (fT (aA [110,111]) r0 ?_))
  have e1:l8 (sx,wt,lg,to) b=((sx,wt,lg,to),[110,111]):=by exact Bo ‹_›
  rw[e1]
  exact⟨Awt,cwt,Alg,clg,rfl,aR⟩
 have h3:=dY h1
 refine sk (nN (sr (tm (pB tb) r0 (qt r0 (lG (L3 sx wt lg to b dS dU dR dT) aN 6 r0 cV) (tn r0 (sG (L3 sx wt lg to b dS dU dR dT) aN 0 r0 cV (fun w4 aZ=>nn ?_)))))))
 have bG:=aZ.pq [2,3,4,6] r0
 refine sq (sr (tm (.slice nO (((bY sx wt lg to b).2.1).length) nT) r0 (qt r0 (dK aV r0) (qt r0 (dO r0 r0) (nn (bI r0 (fun h4=>?_) (fun h4=>?_)))))))
 ·refine sr (tm (pB tb) r0 (tn r0 (qt r0 (fa 0 o7 r0) (qt r0 (lD (I ((bY sx wt lg to b).1.1)) bG 3 r0 cN) (R5 (n:=5) (((bY sx wt lg to b).1.1).toNat) QH r0 (jK (x:=(bY sx wt lg to b).1.1) (by(have hss:=yO sx wt lg to b; omega))) hSt (by(have hss:=yO sx wt lg to b; omega)) (eQ aA [] (by rw[yL]; (have hss:=yO sx wt lg to b; omega))) aH r0 (fun a1 eL=>qt r0 (eW bG eL (fun _ h=>h) r0 r0 eC) (tA (aA (j5.getD (((bY sx wt lg to b).1.1).toNat) [])) r0 (nn (rt (tR (fT (aA (j5.getD (((bY sx wt lg to b).1.1).toNat) [])) r0 ?_)))))))))))
  have e2:l8 (sx,wt,lg,to) b=(((bY sx wt lg to b).1.1,(bY sx wt lg to b).1.2.1,(bY sx wt lg to b).1.2.2.1,(bY sx wt lg to b).1.2.2.2),j5.getD (((bY sx wt lg to b).1.1).toNat) []):=by(have hss:=yO sx wt lg to b; rw[I1 hss.1 hss.2]; exact Bm ‹_› ‹_›)
  rw[e2]
  exact⟨dS,dU,dR,dT,rfl,(bG.pk [3,0,1] r0)⟩
 refine sk (nN (sq (rq (fun w'=>SH w w' ([tb]++(dC Awt cwt++(dC Alg clg++[]))) [.own dS (((bY sx wt lg to b).1.2.1).length) dU 3 1 (((bY sx wt lg to b).1.2.1).map I),.own dR (((bY sx wt lg to b).1.2.2.1).length) dT 38 2 (((bY sx wt lg to b).1.2.2.1).flatMap eH),.own nO (((bY sx wt lg to b).2.1).length) nT 3 1 (((bY sx wt lg to b).2.1).map I),.blk tb 34 (L3 sx wt lg to b dS dU dR dT)]) mixed (by kernel_rfl) bG.drew (qA r0 (mv (v:=pB tb) r0) (qA r0 (nc r0) (qA r0 (fa 0 o7 r0) (qB r0 (fun aU=>lD (I ((bY sx wt lg to b).1.1)) aU 3 r0 cN) (My (n:=5) (((bY sx wt lg to b).1.1).toNat) QH r0 (jK (x:=(bY sx wt lg to b).1.1) (by(have hss:=yO sx wt lg to b; omega))) hSt (by(have hss:=yO sx wt lg to b; omega)) (eQ aA [] (by rw[yL]; (have hss:=yO sx wt lg to b; omega))) aH r0 (fun a2 jG=>qB r0 (fun aU=>eW aU jG (fun _ h=>h) r0 r0 eC) (qA r0 (cat r0 r0 (by(have hss:=yO sx wt lg to b; rw[I1 hss.1 hss.2]; have h1_:=wD (bY sx wt lg to b).1.1; have h2_:=BJ (bY sx wt lg to b).2.1; (try simp only[bH,bP,bK]); omega))) (qA r0 (mv (v:=.slice nO (((bY sx wt lg to b).2.1).length) nT) r0) (qc (aA (mX ((bY sx wt lg to b).2.1))) aH r0 (fun wq aU=>(XC _ _ (aU.cI 2 r0)).mono (fun v w' h=>⟨h.1,by simpa using aU.cJ h.2⟩)) (qA r0 (cat r0 r0 (by(have hss:=yO sx wt lg to b; rw[I1 hss.1 hss.2]; have h1_:=wD (bY sx wt lg to b).1.1; have h2_:=BJ (bY sx wt lg to b).2.1; (try simp only[bH,bP,bK]); omega))) (qA r0 (fW (v:=aA (((j5.getD (((bY sx wt lg to b).1.1).toNat) [])++[32])++(mX ((bY sx wt lg to b).2.1)))) r0) (qn (fun w5 bU=>nN (rt (fT (aA (((j5.getD (((bY sx wt lg to b).1.1).toNat) [])++[32])++(mX ((bY sx wt lg to b).2.1)))) r0 ?_))))))))))))))))))
 have e3:l8 (sx,wt,lg,to) b=(((bY sx wt lg to b).1.1,(bY sx wt lg to b).1.2.1,(bY sx wt lg to b).1.2.2.1,(bY sx wt lg to b).1.2.2.2),((j5.getD (((bY sx wt lg to b).1.1).toNat) [])++[32])++(mX ((bY sx wt lg to b).2.1))):=by(have hss:=yO sx wt lg to b; rw[I1 hss.1 hss.2]; exact Bn ‹_› ‹_›)
 rw[e3]
 exact⟨dS,dU,dR,dT,rfl,(bU.pk [3,0,1] r0)⟩
theorem Xt {tb:Nat} {Awt:aM} {cwt:Nat} {Alg:aM} {clg:Nat} (sx:Int) (wt:aC) (lg:List Lg) (to:aD) (l:aD) (w:World) (htk:w.heap[tb]?=some (.cells [.int .i64 sx,.slice Awt wt.length cwt,.slice Alg lg.length clg,aA to].toArray 34 (0,0))) (hwt:j6 w Awt wt.length cwt 3 1 (wt.map I)) (hlg:j6 w Alg lg.length clg 38 2 (lg.flatMap eH)) (RQ: ∀ k,(It.blk tb 34 [.int .i64 sx,.slice Awt wt.length cwt,.slice Alg lg.length clg,aA to]).has k→ ¬ (It.own Awt wt.length cwt 3 1 (wt.map I)).has k) (KI: ∀ k,(It.blk tb 34 [.int .i64 sx,.slice Awt wt.length cwt,.slice Alg lg.length clg,aA to]).has k→ ¬ (It.own Alg lg.length clg 38 2 (lg.flatMap eH)).has k) (RR: ∀ k,(It.own Awt wt.length cwt 3 1 (wt.map I)).has k→ ¬ (It.own Alg lg.length clg 38 2 (lg.flatMap eH)).has k) (hfit:qC (sx,wt,lg,to)) (hl_n:l.length≤2147483648) (hMl:bZ prog w ([tb]++(dC Awt cwt++(dC Alg clg++[]))) "internal/bytealg.MaxLen" l4) (hGp:bZ prog w ([tb]++(dC Awt cwt++(dC Alg clg++[]))) "internal/strconv.uint64pow10" jH) (hEr:bZ prog w ([tb]++(dC Awt cwt++(dC Alg clg++[]))) "strconv.ErrRange" fH) (hEs:bZ prog w ([tb]++(dC Awt cwt++(dC Alg clg++[]))) "strconv.ErrSyntax" fH) (hGk:PA w ([tb]++(dC Awt cwt++(dC Alg clg++[]))) ⟨1,0,none⟩ (jY.map aA)) (hSt:PA w ([tb]++(dC Awt cwt++(dC Alg clg++[]))) ⟨0,0,none⟩ (j5.map aA)):bF prog 24 [pB tb,aA l] w (fun v w'=>∃ Awr:aM,∃ cwr:Nat,∃ Alr:aM,∃ clr:Nat,v=aA ((fP (sx,wt,lg,to) l).2)∧SH w w' ([tb]++(dC Awt cwt++(dC Alg clg++[]))) [.blk tb 34 [I ((fP (sx,wt,lg,to) l).1.1),.slice Awr (((fP (sx,wt,lg,to) l).1.2.1).length) cwr,.slice Alr (((fP (sx,wt,lg,to) l).1.2.2.1).length) clr,aA ((fP (sx,wt,lg,to) l).1.2.2.2)],.own Awr (((fP (sx,wt,lg,to) l).1.2.1).length) cwr 3 1 (((fP (sx,wt,lg,to) l).1.2.1).map I),.own Alr (((fP (sx,wt,lg,to) l).1.2.2.1).length) clr 38 2 (((fP (sx,wt,lg,to) l).1.2.2.1).flatMap eH)]):=by
 refine fQ 53 func24 r0 r0 ?_
 have aK:=SH.CP [.blk tb 34 [I sx,(Z4 Awt wt cwt),(cA Alg lg clg),aA to],(jE Awt wt cwt),(j7 Alg lg clg)] (eX htk (eX hwt (eX hlg o5))) (.cons (eX RQ (eX KI o5)) (.cons (eX RR o5) (.cons o5 .nil)))
 refine sr (tA (aA []) r0 (nx (tm (aA l) r0 (dP aK r0 (K4 _ 32 _ (by omega)) (fun A1 c1 w1 aE=>tA (.slice A1 ((aB 32 l).length) c1) r0 (nn (sq (sr (tm (.slice A1 ((aB 32 l).length) c1) r0 (qt r0 (dK fZ r0) (qt r0 (nK r0 r0) (nn (bI r0 (fun h1=>?_) (fun h1=>?_))))))))))))))
 ·refine sr (tA (aA [119,104,97,116]) r0 (nn (rt (tR (fT (aA [119,104,97,116]) r0 ?_)))))
  have e1:fP (sx,wt,lg,to) l=((sx,wt,lg,to),[119,104,97,116]):=by exact X4 ‹_›
  rw[e1]
  exact⟨Awt,cwt,Alg,clg,rfl,(aE.pk [0,1,2] r0)⟩
 refine sk (nN (sq (sr (tm (.slice A1 ((aB 32 l).length) c1) r0 (gN 0 fZ r0 r0 (aE.cI 3 r0) (by omega) (eQ aA [] (by omega)) aH r0 (fun a1 eL=>qt r0 (eW (SH.refl w1 []) eL (fun _ h=>h) r0 r0 eC) (nn (bl (sq (sr (qt r0 (eqs r0 r0) (tA (.bool (decide ((aB 32 l).getD 0 []=[111,108,100]))) r0 (nn (bI r0 (fun h2=>?_) (fun h2=>?_)))))))))))))))
 ·refine sk (nN (bI r0 (fun h3=>?_) (fun h3=>absurd (by exact h2) h3)))
  refine sq ?_
  obtain ⟨b1,rfl⟩:=sA aE 3 r0 (by omega)
  have hlf:=FK l
  have w1:=hlf.1 1
  have w0:=hlf.1 0
  refine rq (fun w'=>SH w w' ([tb]++(dC Awt cwt++(dC Alg clg++[]))) [.blk tb 34 [I sx,(Z4 Awt wt cwt),(cA Alg lg clg),aA to],(jE Awt wt cwt),(j7 Alg lg clg),.own (Z7 b1) ((aB 32 l).length) c1 9 1 ((aB 32 l).map aA)]) mixed (by kernel_rfl) aE.drew (qA r0 (mv (v:=sb b1 ((aB 32 l).length) c1) r0) (qA r0 (lR 0 fZ r0 r0 (by omega)) (qB r0 (fun aU=>H9 (g:=aA) (ys:=aB 32 l) (o:=0) [] aU 3 r0 r0 (by omega) eC) (qA r0 (mv (v:=sb b1 ((aB 32 l).length) c1) r0) (qA r0 (lR 1 fZ r0 r0 (by omega)) (qB r0 (fun aU=>H9 (g:=aA) (ys:=aB 32 l) (o:=1) [] aU 3 r0 r0 (by omega) eC) (qc (aA (mV (decide (((aB 32 l).getD 0 [])=[111,108,100])) (k5 l))) aH r0 (fun wq aU=>(W5 _ _ _ (by omega) (by omega) (hGp.up aU (fun _ h=>h) (by simp)) (hEr.up aU (fun _ h=>h) (by simp)) (hEs.up aU (fun _ h=>h) (by simp))).mono (fun v w' h=>⟨h.1,by simpa using aU.cJ h.2⟩)) (qA r0 (fW (v:=aA (mV (decide (((aB 32 l).getD 0 [])=[111,108,100])) (k5 l))) r0) (qn (fun w2 aI=>nN (rt (bR (tR (fT (aA (mV (decide (((aB 32 l).getD 0 [])=[111,108,100])) (k5 l))) r0 ?_))))))))))))))
  have e2:fP (sx,wt,lg,to) l=((sx,wt,lg,to),mV (decide (((aB 32 l).getD 0 [])=[111,108,100])) (k5 l)):=by exact X1 ‹_› (by simp_all; done)
  rw[e2]
  exact⟨Awt,cwt,Alg,clg,rfl,(aI.pk [0,1,2] r0)⟩
 refine rg (qt r0 (eqs r0 r0) (tA (.bool (decide ((aB 32 l).getD 0 []=[114,101,113,117,101,115,116]))) r0 (nn (bI r0 (fun h4=>?_) (fun h4=>?_)))))
 ·refine sq ?_
  obtain ⟨b2,rfl⟩:=sA aE 3 r0 (by omega)
  refine rq (fun w'=>SH w w' ([tb]++(dC Awt cwt++(dC Alg clg++[]))) [.blk tb 34 [I sx,(Z4 Awt wt cwt),(cA Alg lg clg),aA to],(jE Awt wt cwt),(j7 Alg lg clg),.own (Z7 b2) ((aB 32 l).length) c1 9 1 ((aB 32 l).map aA)]) mixed (by kernel_rfl) aE.drew (qA r0 (mv (v:=sb b2 ((aB 32 l).length) c1) r0) (qA r0 (lR 0 fZ r0 r0 (by omega)) (qB r0 (fun aU=>H9 (g:=aA) (ys:=aB 32 l) (o:=0) [] aU 3 r0 r0 (by omega) eC) (qA r0 (mv (v:=sb b2 ((aB 32 l).length) c1) r0) (qA r0 (lR 1 fZ r0 r0 (by omega)) (qB r0 (fun aU=>H9 (g:=aA) (ys:=aB 32 l) (o:=1) [] aU 3 r0 r0 (by omega) eC) (qc (aA (mV (decide (((aB 32 l).getD 0 [])=[111,108,100])) (k5 l))) aH r0 (fun wq aU=>(W5 _ _ _ (by(have hlf:=FK l; have w1:=hlf.1 1; have w0:=hlf.1 0; omega)) (by(have hlf:=FK l; have w1:=hlf.1 1; have w0:=hlf.1 0; omega)) (hGp.up aU (fun _ h=>h) (by simp)) (hEr.up aU (fun _ h=>h) (by simp)) (hEs.up aU (fun _ h=>h) (by simp))).mono (fun v w' h=>⟨h.1,by simpa using aU.cJ h.2⟩)) (qA r0 (fW (v:=aA (mV (decide (((aB 32 l).getD 0 [])=[111,108,100])) (k5 l))) r0) (qn (fun w3 aN=>nN (rt (bR (tR (fT (aA (mV (decide (((aB 32 l).getD 0 [])=[111,108,100])) (k5 l))) r0 ?_))))))))))))))
  have e3:fP (sx,wt,lg,to) l=((sx,wt,lg,to),mV (decide (((aB 32 l).getD 0 [])=[111,108,100])) (k5 l)):=by exact X1 ‹_› (by simp_all; done)
  rw[e3]
  exact⟨Awt,cwt,Alg,clg,rfl,(aN.pk [0,1,2] r0)⟩
 refine sr (qt r0 (eqs r0 r0) (tA (.bool (decide ((aB 32 l).getD 0 []=[108,111,103,105,110]))) r0 (nn (bI r0 (fun h5=>?_) (fun h5=>?_)))))
 ·refine sr (tm (.slice A1 ((aB 32 l).length) c1) r0 (gN 1 fZ r0 r0 (aE.cI 3 r0) (by omega) (eQ aA [] (by omega)) aH r0 (fun a2 jG=>qt r0 (eW (SH.refl w1 []) jG (fun _ h=>h) r0 r0 eC) (cS aE r0 (Lv _ _ (by(have hlf:=FK l; have w1:=hlf.1 1; have w0:=hlf.1 0; omega))) (fun w4 aR=>tA (aA (tB (k5 l))) r0 (nn (rt (bR (tR (fT (aA (tB (k5 l))) r0 ?_))))))))))
  have e4:fP (sx,wt,lg,to) l=((sx,wt,lg,to),tB (k5 l)):=by exact Ny ‹_› ‹_›
  rw[e4]
  exact⟨Awt,cwt,Alg,clg,rfl,(aR.pk [0,1,2] r0)⟩
 refine sq (sr (qt r0 (eqs r0 r0) (tA (.bool (decide ((aB 32 l).getD 0 []=[115,110,105,102,102]))) r0 (nn (bI r0 (fun h6=>?_) (fun h6=>?_))))))
 ·refine sk (nN (bI r0 (fun h7=>?_) (fun h7=>absurd (by exact h6) h7)))
  refine sr (tm (.slice A1 ((aB 32 l).length) c1) r0 (gN 1 fZ r0 r0 (aE.cI 3 r0) (by omega) (eQ aA [] (by omega)) aH r0 (fun a3 nV=>qt r0 (eW (SH.refl w1 []) nV (fun _ h=>h) r0 r0 eC) (dP aE r0 (XB _ _ (by(have hlf:=FK l; have w1:=hlf.1 1; have w0:=hlf.1 0; omega))) (fun A2 c2 w5 aZ=>tm (.tuple #[.slice A2 (((bW (k5 l)).1).length) c2,.bool ((bW (k5 l)).2)]) r0 (qt r0 (xt 0 r0 r0) (qt r0 (xt 1 r0 r0) (tA (.slice A2 (((bW (k5 l)).1).length) c2) r0 (tA (.bool ((bW (k5 l)).2)) r0 (nn (sq (sr (tm (.bool ((bW (k5 l)).2)) r0 (qt r0 (nt r0) (nn (cd r0 (fun h8=>?_) (fun h8=>?_)))))))))))))))))
  ·have h9:=dX h8
   refine sr (tA (aA [110,111]) r0 (nn ?_))
   have bG:=aZ.pq [0,1,2] r0
   refine rt (tR (bR (tR (fT (aA [110,111]) r0 ?_))))
   have e5:fP (sx,wt,lg,to) l=((sx,wt,lg,to),[110,111]):=by exact X0 ‹_› (by simp_all; done) ‹_›
   rw[e5]
   exact⟨Awt,cwt,Alg,clg,rfl,bG⟩
  have mR:=dY h8
  refine sk (nN (sq (sr (tm (.slice A1 ((aB 32 l).length) c1) r0 (gN 0 fZ r0 r0 (aZ.cI 3 r0) (by omega) (eQ aA [] (by omega)) aH r0 (fun a4 xW=>qt r0 (eW (SH.refl w5 []) xW (fun _ h=>h) r0 r0 eC) (qt r0 (eqs r0 r0) (nn (bI r0 (fun vX=>?_) (fun vX=>absurd (by exact h6) vX))))))))))
  refine sr (tm (.slice A2 (((bW (k5 l)).1).length) c2) r0 (cS aZ r0 (Mg _ _ (aZ.cI 4 r0) (by(have hxl:=RD (k5 l); omega)) (hMl.up aZ (fun _ h=>h) (by simp)) (hGp.up aZ (fun _ h=>h) (by simp)) (hEr.up aZ (fun _ h=>h) (by simp)) (hEs.up aZ (fun _ h=>h) (by simp)) (hGk.yQ aZ (fun _ h=>h) (by simp))) (fun w6 bU=>tA (aA (vH ((bW (k5 l)).1))) r0 (nn ?_))))
  have bV:=bU.pq [0,1,2] r0
  refine rt (tR (bR (tR (fT (aA (vH ((bW (k5 l)).1))) r0 ?_))))
  have e6:fP (sx,wt,lg,to) l=((sx,wt,lg,to),vH ((bW (k5 l)).1)):=by exact Nz ‹_› ‹_› ‹_›
  rw[e6]
  exact⟨Awt,cwt,Alg,clg,rfl,bV⟩
 refine rg (qt r0 (eqs r0 r0) (tA (.bool (decide ((aB 32 l).getD 0 []=[115,97,121]))) r0 (nn (bI r0 (fun zU=>?_) (fun zU=>?_)))))
 ·refine sr (tm (.slice A1 ((aB 32 l).length) c1) r0 (gN 1 fZ r0 r0 (aE.cI 3 r0) (by omega) (eQ aA [] (by omega)) aH r0 (fun a5 E3=>qt r0 (eW (SH.refl w1 []) E3 (fun _ h=>h) r0 r0 eC) (dP aE r0 (XB _ _ (by(have hlf:=FK l; have w1:=hlf.1 1; have w0:=hlf.1 0; omega))) (fun A3 c3 w7 b9=>tm (.tuple #[.slice A3 (((bW (k5 l)).1).length) c3,.bool ((bW (k5 l)).2)]) r0 (qt r0 (xt 0 r0 r0) (qt r0 (xt 1 r0 r0) (tA (.slice A3 (((bW (k5 l)).1).length) c3) r0 (tA (.bool ((bW (k5 l)).2)) r0 (nn (sq (sr (tm (.bool ((bW (k5 l)).2)) r0 (qt r0 (nt r0) (nn (cd r0 (fun BC=>?_) (fun BC=>?_)))))))))))))))))
  ·have Q3:=dX BC
   refine sr (tA (aA [110,111]) r0 (nn ?_))
   have cM:=b9.pq [0,1,2] r0
   refine rt (tR (bR (tR (fT (aA [110,111]) r0 ?_))))
   have e7:fP (sx,wt,lg,to) l=((sx,wt,lg,to),[110,111]):=by exact X0 ‹_› (by simp_all; done) ‹_›
   rw[e7]
   exact⟨Awt,cwt,Alg,clg,rfl,cM⟩
  have HO:=dY BC
  refine sk (nN (sq (sr (tm (.slice A1 ((aB 32 l).length) c1) r0 (gN 0 fZ r0 r0 (b9.cI 3 r0) (by omega) (eQ aA [] (by omega)) aH r0 (fun a6 Q9=>qt r0 (eW (SH.refl w7 []) Q9 (fun _ h=>h) r0 r0 eC) (qt r0 (eqs r0 r0) (nn (bI r0 (fun HP=>absurd HP (by exact h6)) (fun HP=>sk (nN (sr (tm (pB tb) r0 (tm (.slice A3 (((bW (k5 l)).1).length) c3) r0 (cL r0 (Xz _ _ _ _ _ _ (gM b9 0 r0) (sB b9 1 r0) (sB b9 2 r0) (uP b9 0 1 (by decide) r0 r0) (uP b9 0 2 (by decide) r0 r0) (uP b9 1 2 (by decide) r0 r0) (by(assumption)) (b9.Ux 4 0 1 2 (by decide) (by decide) (by decide) r0 r0 r0 r0) (by(have hxl:=RD (k5 l); omega)) (hGp.up b9 (fun _ h=>h) (b9.AA 0 1 2 r0 r0 r0)) (hEr.up b9 (fun _ h=>h) (b9.AA 0 1 2 r0 r0 r0)) (hEs.up b9 (fun _ h=>h) (b9.AA 0 1 2 r0 r0 r0)) (hSt.yQ b9 (fun _ h=>h) (b9.AA 0 1 2 r0 r0 r0))) ?_)))))))))))))))
  rintro _ w8 ⟨dS,dU,dR,dT,rfl,cW⟩
  replace cW:=b9.cK [0,1,2] [3,4] cW r0
  refine tA (aA ((l8 (sx,wt,lg,to) ((bW (k5 l)).1)).2)) r0 (nn ?_)
  have dB:=cW.pq [2,3,4] r0
  refine rt (bR (tR (fT (aA ((l8 (sx,wt,lg,to) ((bW (k5 l)).1)).2)) r0 ?_)))
  have e8:fP (sx,wt,lg,to) l=(((l8 (sx,wt,lg,to) ((bW (k5 l)).1)).1.1,(l8 (sx,wt,lg,to) ((bW (k5 l)).1)).1.2.1,(l8 (sx,wt,lg,to) ((bW (k5 l)).1)).1.2.2.1,(l8 (sx,wt,lg,to) ((bW (k5 l)).1)).1.2.2.2),(l8 (sx,wt,lg,to) ((bW (k5 l)).1)).2):=by exact Ob ‹_› ‹_› ‹_›
  rw[e8]
  exact⟨dS,dU,dR,dT,rfl,dB⟩
 refine sk (bN (nN (sr (tA (aA [119,104,97,116]) r0 (nn (rt (fT (aA [119,104,97,116]) r0 ?_)))))))
 have e9:fP (sx,wt,lg,to) l=((sx,wt,lg,to),[119,104,97,116]):=by exact Oa ‹_› ‹_› ‹_› ‹_› ‹_› ‹_›
 rw[e9]
 exact⟨Awt,cwt,Alg,clg,rfl,(aE.pk [0,1,2] r0)⟩
theorem Vf (s:aD) (t:aD) (w:World) (hs_n:s.length≤1099511627776) (C7:t.length≤1099511627776):bF prog 34 [aA s,aA t] w (fun v w'=>v=.tuple #[aA (iH s t),.bool (decide (pZ s t))]∧SH w w' [] []):=by
 refine fQ 18 func34 r0 r0 ?_
 have aK:=SH.refl w []
 refine sr (tA (aA []) r0 (tA (.bool false) r0 (nn (sq (sq (rg (tm (aA s) r0 (tm (aA t) r0 (cS aK r0 (Vh _ _ _ (by omega) (by omega)) (fun w1 aE=>qt r0 (nt r0) (nn (cd r0 (fun h1=>?_) (fun h1=>?_)))))))))))))
 ·have h2:=dX h1
  refine sr (tm (aA s) r0 (tA (aA s) r0 (tA (.bool false) r0 (nn (rt (tR (bO (.tmp (.tmp .nil)) r0 ?_)))))))
  have e1:s=iH s t:=by(simp only[iH,b0 (yT ‹_›)]; done)
  have e2:false=(decide (pZ s t)):=by exact(decide_eq_false (yT ‹_›)).symm
  exact⟨(kE (aS (aA) e1) (aS (Value.bool) e2)),aE⟩
 have h3:=dY h1
 refine sk (nN (sr (tm (aA s) r0 (tm (aA s) r0 (qt r0 (gG dI r0) (tm (aA t) r0 (qt r0 (gG dI r0) (qt r0 (PR r0 r0 (by(have hx:=pI (by assumption:decide (pZ s t)=true); have hy:=hx.1; omega)) (by omega)) (qt r0 (xU (l:=s) (s.length-t.length) dI r0 r0 (by omega)) (tA (aA (s.take (s.length-t.length))) r0 (tA (.bool true) r0 (nn (rt (bO (.tmp (.tmp .nil)) r0 ?_))))))))))))))
 have e3:s.take (s.length-t.length)=iH s t:=by(simp only[iH,cF (pI ‹_›)]; done)
 have e4:true=(decide (pZ s t)):=by exact(decide_eq_true (pI ‹_›)).symm
 exact⟨(kE (aS (aA) e3) (aS (Value.bool) e4)),aE⟩
theorem Wf (s:aD) (t:aD) (w:World) (hs_n:s.length≤1099511627776) (C7:t.length≤1099511627776):bF prog 22 [aA s,aA t] w (fun v w'=>v=.tuple #[aA (iH s t),.bool (decide (pZ s t))]∧SH w w' [] []):=by
 refine fQ 11 func22 r0 r0 ?_
 have aK:=SH.refl w []
 refine sr (tA (aA []) r0 (tA (.bool false) r0 (nx (tm (aA s) r0 (tm (aA t) r0 (cS aK r0 (Vf _ _ _ (by omega) (by omega)) (fun w1 aE=>qt r0 (xt 0 r0 r0) (qt r0 (xt 1 r0 r0) (tA (aA (iH s t)) r0 (tA (.bool (decide (pZ s t))) r0 (nn (rt (bO (.tmp (.tmp .nil)) r0 ?_)))))))))))))
 exact⟨rfl,aE⟩
theorem Wi {n1 l box:Nat} (J:aD→World→Prop) (hJ: ∀ s W W1 L1,J s W→SH W W1 [box] L1→J s W1) (hJn: ∀ s W,J s W→s.length≤2147483648) (hY: ∀ ln rest W1,J (ln++rest) W1→wG ln rest→W1.heap[box]?=some (.cells #[aA rest] 9 (0,0))→ ∃ fn tmps assign body,(Instr.yield l #[aA ln]).run prog W1=.ok (.round l fn tmps assign body) W1∧RoundIn Fence.wide (n1-1) prog l fn tmps assign body W1 (fun e W'=>e=.returned (.bool true)∧J rest W'∧W'.heap[box]?=some (.cells #[aA rest] 9 (0,0)))) (w:World) (s:aD) (hb:w.heap[box]?=some (.cells #[aA s] 9 (0,0))) (h0:J s w):CallsIn Fence.wide n1 prog 32 #[.func (.yield l) #[] #[],pB box] w (fun e W'=>(∃ v,e=.returned v)∧J [] W'):=by
 refine Im (N:=25) (args:=[.func (.yield l) #[] #[],pB box]) (rs:=[]) func32 r0 r0 r0 r0 r0 (QI (Pp (σ:=aD) (fun s f w=>Hz f [(0,.func (.yield l) #[] #[]),(1,pB box)]∧w.heap[box]?=some (.cells #[aA s] 9 (0,0))∧J s w) (fun s=>s.length) s ⟨(zR r0),hb,h0⟩ ?_))
 clear hb h0
 rintro s f w ⟨⟨g,rfl⟩,hb,hj⟩
 have hs_n:=hJn _ _ hj
 have Ze:=R3 s 10
 have aK:=SH.rS hb
 refine vI (vI (wT (rg (qt r0 (lD (aA s) aK 0 r0 eC) (qt r0 (gG dI r0) (qt r0 (gtr r0 r0) (nl (nN (MS r0 (fun h1=>?_) (fun h1=>?_))))))))))
 ·refine K2 (nN (QI (vI (wT (rg (tA (aA []) r0 (nl (nN (vI (vI (wT (rg (qt r0 (lD (aA s) aK 0 r0 eC) (cS aK r0 (PO _ (10:UInt8) _) (fun w1 aE=>tA (I (cE s (10:UInt8))) r0 (nn (vI (wT (rg (tm (I (cE s (10:UInt8))) r0 (qt r0 (geq r0 r0) (nn (MS r0 (fun h2=>?_) (fun h2=>?_))))))))))))))))))))))))
  ·refine wT ?_
   refine kA (fun w'=>∃ L,SH w w' [box] L∧True) (fun f w'=>Hz f [(0,.func (.yield l) #[] #[]),(1,pB box),(3,aA (G1 s))]∧SH w w' [box] [.blk box 9 [aA (G2 s)]]) mixed ?_ ?_
   ·have aI:=aE.drew
    refine tQ (fuel:=6) (is:=[1,2,5,6]) (.cons r0 (.cons r0 (.cons r0 (.cons r0 (.nil))))) ⟨_,aI,aH⟩ (yA r0 (mv (v:=I (cE s (10:UInt8))) r0) (yA r0 (add r0 r0 (by exact⟨by omega,by omega⟩)) (yA r0 (mv (v:=I (cE s (10:UInt8))) r0) (yA r0 (add r0 r0 (by exact⟨by omega,by omega⟩)) (.nil (a2 (i:=0) (j:=4) (by kernel_rfl) ?_ ?_))))))
    ·refine eI r0 (qt r0 (lD (aA s) aI 0 r0 eC) (nk ⟨_,aI,aH⟩ (tQ (fuel:=3) (is:=[3,8]) (.cons r0 (.cons r0 (.nil))) ⟨_,aI,aH⟩ (yA r0 (xU (l:=s) (((cE s (10:UInt8))+1).toNat) dI r0 (jK (x:=(cE s (10:UInt8))+1) (by omega)) (by omega)) (yA r0 (fW (v:=aA (G1 s)) r0) (.nil (a1 (i:=4) (by kernel_rfl) (eI r0 (qt r0 (lD (aA s) aI 0 r0 eC) (nk ⟨_,aI,aH⟩ (tQ (fuel:=1) (is:=[7]) (.cons r0 (.nil)) ⟨_,aI,aH⟩ (yA r0 (CK (l:=s) (((cE s (10:UInt8))+1).toNat) dI r0 (jK (x:=(cE s (10:UInt8))+1) (by omega)) (by omega)) (.nil (a1 (i:=9) (by kernel_rfl) (eI r0 (sT (aA (G2 s)) aI 0 r0 eC (fun w2 aN=>nk ⟨_,aN,aH⟩ (aQ ?_))))))))))))))))))
     exact⟨(zR r0),aN⟩
    refine eI r0 (qt r0 (lD (aA s) aI 0 r0 eC) (nk ⟨_,aI,aH⟩ (tQ (fuel:=4) (is:=[7]) (.cons r0 (.nil)) ⟨_,aI,aH⟩ (yA r0 (CK (l:=s) (((cE s (10:UInt8))+1).toNat) dI r0 (jK (x:=(cE s (10:UInt8))+1) (by omega)) (by omega)) (.nil (a1 (i:=0) (by kernel_rfl) (eI r0 (qt r0 (lD (aA s) aI 0 r0 eC) (nk ⟨_,aI,aH⟩ (tQ (fuel:=1) (is:=[3,8]) (.cons r0 (.cons r0 (.nil))) ⟨_,aI,aH⟩ (yA r0 (xU (l:=s) (((cE s (10:UInt8))+1).toNat) dI r0 (jK (x:=(cE s (10:UInt8))+1) (by omega)) (by omega)) (yA r0 (fW (v:=aA (G1 s)) r0) (.nil (a1 (i:=9) (by kernel_rfl) (eI r0 (sT (aA (G2 s)) aI 0 r0 eC (fun w3 aR=>nk ⟨_,aR,aH⟩ (aQ ?_))))))))))))))))))
    exact⟨(zR r0),aR⟩
   rintro f w4 ⟨⟨g1,rfl⟩,aZ⟩
   refine nN (vI (Ae (qX aH r0 r0 (mv (v:=.func (.yield l) #[] #[]) r0) (qX aH r0 r0 (mv (v:=aA (G1 s)) r0) ?_))))
   obtain ⟨fn_,tmps_,as_,bd_,RT,Q8⟩:=hY (G1 s) (G2 s) _ (by
    have hjj:=hJ _ _ _ _ hj aZ
    have BI:s=(G1 s)++(G2 s):=by exact(D0 _ _).symm
    rwa [BI]at hjj) (by exact Oq ‹_›) (aZ.ok _ (by simp):(It.blk box 9 [aA (G2 s)]).ok w4)
   refine Ee (args:=[.tmp 22]) aH r0 r0 RT Q8 ?_
   rintro _ w4 ⟨rfl,RF,RB⟩
   refine⟨_,rfl,?_⟩
   refine qX aH r0 r0 (nt r0) (YQ (nN (UX r0 (K2 (bN (nN ?_))))))
   refine⟨_,⟨(zR r0),RB,RF⟩,?_⟩
   (simp only[fC]; omega)
  refine wT (rg (qt r0 (lD (aA s) aE 0 r0 eC) (tA (aA s) r0 (sT (aA []) aE 0 r0 eC (fun w5 bG=>nn (vI (Ae (qX aH r0 r0 (mv (v:=.func (.yield l) #[] #[]) r0) (qX aH r0 r0 (mv (v:=aA s) r0) ?_)))))))))
  obtain ⟨fn_,tmps_,as_,bd_,RT,Q8⟩:=hY (s) ([]) _ (by
   have hjj:=hJ _ _ _ _ hj bG
   have BI:s=s++[]:=by exact(xH _).symm
   rwa [BI]at hjj) (by exact Oo ‹_› (by omega)) (bG.ok _ (by simp):(It.blk box 9 [aA ([])]).ok w5)
  refine Ee (args:=[.tmp 22]) aH r0 r0 RT Q8 ?_
  rintro _ w4 ⟨rfl,RF,RB⟩
  refine⟨_,rfl,?_⟩
  refine qX aH r0 r0 (nt r0) (YQ (nN (UX r0 (K2 (bN (nN ?_))))))
  refine⟨_,⟨(zR r0),RB,RF⟩,?_⟩
  (simp only[bK]; omega)
 refine Iy (tE (tE (bE ?_)))
 have BI:s=[]:=vO (by omega)
 subst BI
 exact⟨[],.nil,⟨_,rfl⟩,hJ _ _ _ _ hj aK⟩
theorem Wh (s:aD) (w:World) (hs_n:s.length≤2147483648):bF prog 21 [aA s] w (fun v w'=>∃ gr:Nat,v=.func (.func 32) #[] #[.pointer (some ⟨gr,0,none⟩)]∧SH w w' [] [.blk gr 9 [aA s]]):=by
 refine fQ 4 func21 r0 r0 ?_
 have aK:=SH.refl w []
 refine sr (bx (v:=aA s) (cs:=[aA s]) aK r0 r0 aH r0 (fun b1 w1 aE=>tA (.nilFunc) r0 (nx (qt r0 (mf) (tA (.func (.func 32) #[] #[pB b1]) r0 (nl (nN (rt (fT (.func (.func 32) #[] #[pB b1]) r0 ?_)))))))))
 exact⟨b1,rfl,aE⟩
theorem r6 (s:aD) (w:World) (hs_n:s.length≤2147483648) (hMl:bZ prog w [] "internal/bytealg.MaxLen" l4) (hGp:bZ prog w [] "internal/strconv.uint64pow10" jH) (hEr:bZ prog w [] "strconv.ErrRange" fH) (hEs:bZ prog w [] "strconv.ErrSyntax" fH) (hGk:PA w [] ⟨1,0,none⟩ (jY.map aA)) (hSt:PA w [] ⟨0,0,none⟩ (j5.map aA)):bF prog 12 [aA s] w (fun v w'=>v=aA (bL s)∧SH w w' [] []):=by
 refine Jg (N:=39) (n:=5) func12 r0 (by kernel_rfl) r0 r0 r0 ?_
 have aK:SH w w [] []:=SH.refl w []
 refine K3 (wT (rg (tA (aA []) r0 (nl (nZ (K3 (vI (wT (rg (tm (aA s) r0 (qt r0 (gG dI r0) (qt r0 (gtr r0 r0) (nn (MS r0 (fun h1=>?_) (fun h1=>?_)))))))))))))))
 ·refine vI (wT (rg (tA (aA [116,111,111,32,108,111,110,103,10]) r0 (nn (Ai (rZ (Ik r0 (fT (aA [116,111,111,32,108,111,110,103,10]) r0 ?_))))))))
  have e1:[116,111,111,32,108,111,110,103,10]=bL s:=by exact(J4 (by omega)).symm
  exact⟨(aS (aA) e1),aK⟩
 refine K2 (nZ (K3 (wT (rg (cR aK aV [I 2,I 0] [I 2,I 0] aH r0 (fun b1 w1 (aE:SH w w1 [] [oI b1 ([2,0]:aC) 2 3])=>qt r0 (bQ (v:=.agg #[aA [97,110,110],aA [97,98,99]]) [(0,aA [97,110,110]),(1,aA [97,98,99])] r0) (cR aE pP [.agg #[aA [97,110,110],aA [97,98,99]]] [aA [97,110,110],aA [97,98,99]] aH r0 (fun b2 w2 (aI:SH w w2 [] [oI b1 ([2,0]:aC) 2 3,.own (Z7 b2) (([(([97,110,110],[97,98,99]):aD×aD)]:List (aD×aD)).length) 1 38 2 (([(([97,110,110],[97,98,99]):aD×aD)]:List (aD×aD)).flatMap eH)])=>cL r0 (Mk ([2,0]:aC) ([(([97,110,110],[97,98,99]):aD×aD)]:List (aD×aD)) _ (aI.cI 0 r0) (by(simp; done)) (aI.cI 1 r0) (by(intro u hu; simp at hu; simp[hu]; done)) (by(simp; done)) (hGp.aP aI) (hEr.aP aI) (hEs.aP aI)) ?_))))))))
 rintro _ w3 ⟨dS,dU,dR,dT,rfl,aN⟩
 replace aN:=aI.cJ aN
 refine tm (.tuple #[.agg #[I ((eJ ([2,0]:aC) ([(([97,110,110],[97,98,99]):aD×aD)]:List (aD×aD))).1.1),.slice dS (((eJ ([2,0]:aC) ([(([97,110,110],[97,98,99]):aD×aD)]:List (aD×aD))).1.2.1).length) dU,.slice dR (((eJ ([2,0]:aC) ([(([97,110,110],[97,98,99]):aD×aD)]:List (aD×aD))).1.2.2.1).length) dT,aA ((eJ ([2,0]:aC) ([(([97,110,110],[97,98,99]):aD×aD)]:List (aD×aD))).1.2.2.2)],.bool ((eJ ([2,0]:aC) ([(([97,110,110],[97,98,99]):aD×aD)]:List (aD×aD))).2)]) r0 (qt r0 (xt 0 r0 r0) (qt r0 (xt 1 r0 r0) (al (cs:=fN) aN oY r0 aH r0 (fun b3 w4 (aR:SH w w4 [] [oI b1 ([2,0]:aC) 2 3,.own (Z7 b2) (([(([97,110,110],[97,98,99]):aD×aD)]:List (aD×aD)).length) 1 38 2 (([(([97,110,110],[97,98,99]):aD×aD)]:List (aD×aD)).flatMap eH),.own dS (((eJ ([2,0]:aC) ([(([97,110,110],[97,98,99]):aD×aD)]:List (aD×aD))).1.2.1).length) dU 3 1 (((eJ ([2,0]:aC) ([(([97,110,110],[97,98,99]):aD×aD)]:List (aD×aD))).1.2.1).map I),.own dR (((eJ ([2,0]:aC) ([(([97,110,110],[97,98,99]):aD×aD)]:List (aD×aD))).1.2.2.1).length) dT 38 2 (((eJ ([2,0]:aC) ([(([97,110,110],[97,98,99]):aD×aD)]:List (aD×aD))).1.2.2.1).flatMap eH),.blk b3 34 fN])=>sG [I ((eJ ([2,0]:aC) ([(([97,110,110],[97,98,99]):aD×aD)]:List (aD×aD))).1.1),.slice dS (((eJ ([2,0]:aC) ([(([97,110,110],[97,98,99]):aD×aD)]:List (aD×aD))).1.2.1).length) dU,.slice dR (((eJ ([2,0]:aC) ([(([97,110,110],[97,98,99]):aD×aD)]:List (aD×aD))).1.2.2.1).length) dT,aA ((eJ ([2,0]:aC) ([(([97,110,110],[97,98,99]):aD×aD)]:List (aD×aD))).1.2.2.2)] aR 4 r0 cV (fun w5 (aZ:SH w w5 [] [oI b1 ([2,0]:aC) 2 3,.own (Z7 b2) (([(([97,110,110],[97,98,99]):aD×aD)]:List (aD×aD)).length) 1 38 2 (([(([97,110,110],[97,98,99]):aD×aD)]:List (aD×aD)).flatMap eH),.own dS (((eJ ([2,0]:aC) ([(([97,110,110],[97,98,99]):aD×aD)]:List (aD×aD))).1.2.1).length) dU 3 1 (((eJ ([2,0]:aC) ([(([97,110,110],[97,98,99]):aD×aD)]:List (aD×aD))).1.2.1).map I),.own dR (((eJ ([2,0]:aC) ([(([97,110,110],[97,98,99]):aD×aD)]:List (aD×aD))).1.2.2.1).length) dT 38 2 (((eJ ([2,0]:aC) ([(([97,110,110],[97,98,99]):aD×aD)]:List (aD×aD))).1.2.2.1).flatMap eH),.blk b3 34 [I ((eJ ([2,0]:aC) ([(([97,110,110],[97,98,99]):aD×aD)]:List (aD×aD))).1.1),.slice dS (((eJ ([2,0]:aC) ([(([97,110,110],[97,98,99]):aD×aD)]:List (aD×aD))).1.2.1).length) dU,.slice dR (((eJ ([2,0]:aC) ([(([97,110,110],[97,98,99]):aD×aD)]:List (aD×aD))).1.2.2.1).length) dT,aA ((eJ ([2,0]:aC) ([(([97,110,110],[97,98,99]):aD×aD)]:List (aD×aD))).1.2.2.2)]])=>?_)))))
 refine tA (.bool ((eJ ([2,0]:aC) ([(([97,110,110],[97,98,99]):aD×aD)]:List (aD×aD))).2)) r0 (nl (nZ (K3 (wT (rg (al (cs:=[.pointer none,ns]) aZ Dm r0 aH r0 (fun b4 w6 (bG:SH w w6 [] [oI b1 ([2,0]:aC) 2 3,.own (Z7 b2) (([(([97,110,110],[97,98,99]):aD×aD)]:List (aD×aD)).length) 1 38 2 (([(([97,110,110],[97,98,99]):aD×aD)]:List (aD×aD)).flatMap eH),.own dS (((eJ ([2,0]:aC) ([(([97,110,110],[97,98,99]):aD×aD)]:List (aD×aD))).1.2.1).length) dU 3 1 (((eJ ([2,0]:aC) ([(([97,110,110],[97,98,99]):aD×aD)]:List (aD×aD))).1.2.1).map I),.own dR (((eJ ([2,0]:aC) ([(([97,110,110],[97,98,99]):aD×aD)]:List (aD×aD))).1.2.2.1).length) dT 38 2 (((eJ ([2,0]:aC) ([(([97,110,110],[97,98,99]):aD×aD)]:List (aD×aD))).1.2.2.1).flatMap eH),.blk b3 34 [I ((eJ ([2,0]:aC) ([(([97,110,110],[97,98,99]):aD×aD)]:List (aD×aD))).1.1),.slice dS (((eJ ([2,0]:aC) ([(([97,110,110],[97,98,99]):aD×aD)]:List (aD×aD))).1.2.1).length) dU,.slice dR (((eJ ([2,0]:aC) ([(([97,110,110],[97,98,99]):aD×aD)]:List (aD×aD))).1.2.2.1).length) dT,aA ((eJ ([2,0]:aC) ([(([97,110,110],[97,98,99]):aD×aD)]:List (aD×aD))).1.2.2.2)],.blk b4 41 [.pointer none,ns]])=>nl (nZ (Wa (K3 (wT (rg (tm (aA s) r0 (cL r0 (Wh _ _ (by omega)) ?_))))))))))))))
 rintro _ w7 ⟨g1,rfl,bU⟩
 replace bU:=bG.cJ bU
 refine nl (nZ ?_)
 have bV:SH w w7 [] [oI b1 ([2,0]:aC) 2 3,.own (Z7 b2) (([(([97,110,110],[97,98,99]):aD×aD)]:List (aD×aD)).length) 1 38 2 (([(([97,110,110],[97,98,99]):aD×aD)]:List (aD×aD)).flatMap eH),.own dS (((eJ ([2,0]:aC) ([(([97,110,110],[97,98,99]):aD×aD)]:List (aD×aD))).1.2.1).length) dU 3 1 (((eJ ([2,0]:aC) ([(([97,110,110],[97,98,99]):aD×aD)]:List (aD×aD))).1.2.1).map I),.own dR (((eJ ([2,0]:aC) ([(([97,110,110],[97,98,99]):aD×aD)]:List (aD×aD))).1.2.2.1).length) dT 38 2 (((eJ ([2,0]:aC) ([(([97,110,110],[97,98,99]):aD×aD)]:List (aD×aD))).1.2.2.1).flatMap eH),.blk b3 34 [I ((eJ ([2,0]:aC) ([(([97,110,110],[97,98,99]):aD×aD)]:List (aD×aD))).1.1),.slice dS (((eJ ([2,0]:aC) ([(([97,110,110],[97,98,99]):aD×aD)]:List (aD×aD))).1.2.1).length) dU,.slice dR (((eJ ([2,0]:aC) ([(([97,110,110],[97,98,99]):aD×aD)]:List (aD×aD))).1.2.2.1).length) dT,aA ((eJ ([2,0]:aC) ([(([97,110,110],[97,98,99]):aD×aD)]:List (aD×aD))).1.2.2.2)],.blk b4 41 [.pointer none,ns],.blk g1 9 [aA s],MA]:=SH.AB (by intro i hi; simp at hi; subst hi; exact DF) bU
 have b9:SH w w7 [] [.blk b3 34 [I ((eJ ([2,0]:aC) ([(([97,110,110],[97,98,99]):aD×aD)]:List (aD×aD))).1.1),.slice dS (((eJ ([2,0]:aC) ([(([97,110,110],[97,98,99]):aD×aD)]:List (aD×aD))).1.2.1).length) dU,.slice dR (((eJ ([2,0]:aC) ([(([97,110,110],[97,98,99]):aD×aD)]:List (aD×aD))).1.2.2.1).length) dT,aA ((eJ ([2,0]:aC) ([(([97,110,110],[97,98,99]):aD×aD)]:List (aD×aD))).1.2.2.2)],.own dS (((eJ ([2,0]:aC) ([(([97,110,110],[97,98,99]):aD×aD)]:List (aD×aD))).1.2.1).length) dU 3 1 (((eJ ([2,0]:aC) ([(([97,110,110],[97,98,99]):aD×aD)]:List (aD×aD))).1.2.1).map I),.own dR (((eJ ([2,0]:aC) ([(([97,110,110],[97,98,99]):aD×aD)]:List (aD×aD))).1.2.2.1).length) dT 38 2 (((eJ ([2,0]:aC) ([(([97,110,110],[97,98,99]):aD×aD)]:List (aD×aD))).1.2.2.1).flatMap eH),.blk b4 41 [.pointer none,.slice none (([]:aD).length) 0],MA,.blk g1 9 [aA s]]:=bV.pk [4,2,3,5,7,6] r0
 have Jm:=SH.CP [.blk b3 34 [I ((eJ ([2,0]:aC) ([(([97,110,110],[97,98,99]):aD×aD)]:List (aD×aD))).1.1),.slice dS (((eJ ([2,0]:aC) ([(([97,110,110],[97,98,99]):aD×aD)]:List (aD×aD))).1.2.1).length) dU,.slice dR (((eJ ([2,0]:aC) ([(([97,110,110],[97,98,99]):aD×aD)]:List (aD×aD))).1.2.2.1).length) dT,aA ((eJ ([2,0]:aC) ([(([97,110,110],[97,98,99]):aD×aD)]:List (aD×aD))).1.2.2.2)],.own dS (((eJ ([2,0]:aC) ([(([97,110,110],[97,98,99]):aD×aD)]:List (aD×aD))).1.2.1).length) dU 3 1 (((eJ ([2,0]:aC) ([(([97,110,110],[97,98,99]):aD×aD)]:List (aD×aD))).1.2.1).map I),.own dR (((eJ ([2,0]:aC) ([(([97,110,110],[97,98,99]):aD×aD)]:List (aD×aD))).1.2.2.1).length) dT 38 2 (((eJ ([2,0]:aC) ([(([97,110,110],[97,98,99]):aD×aD)]:List (aD×aD))).1.2.2.1).flatMap eH),.blk b4 41 [.pointer none,.slice none (([]:aD).length) 0],MA,.blk g1 9 [aA s]] b9.ok b9.dis
 have WB:=hMl.up b9 (by simp) b9.rE
 have WA:=hGp.up b9 (by simp) b9.rE
 have V9:=hGk.yQ b9 (by simp) b9.rE
 have WC:=hSt.yQ b9 (by simp) b9.rE
 have V7:=hEr.up b9 (by simp) b9.rE
 have V8:=hEs.up b9 (by simp) b9.rE
 refine Rs r0 (K:=fun(⟨zs,zw,zl,zt,o,A1,c1,A2,c2,A3,c3,pb_⟩:Int×aC×List Lg×aD×aD×aM×Nat×aM×Nat×aM×Nat×aM)=>[.blk b3 34 [I zs,.slice A1 zw.length c1,.slice A2 zl.length c2,aA zt],.own A1 zw.length c1 3 1 (zw.map I),.own A2 zl.length c2 38 2 (zl.flatMap eH),.blk b4 41 [.pointer pb_,.slice A3 o.length c3],.own A3 o.length c3 5 1 (o.map U)]) (R:=fun rest (⟨zs,zw,zl,zt,o,A1,c1,A2,c2,A3,c3,pb_⟩:Int×aC×List Lg×aD×aD×aM×Nat×aM×Nat×aM×Nat×aM)=>B0 s rest (zs,zw,zl,zt) o∧(pb_=none∨pb_=some ⟨b4,0,none⟩)) s ((eJ ([2,0]:aC) ([(([97,110,110],[97,98,99]):aD×aD)]:List (aD×aD))).1.1,(eJ ([2,0]:aC) ([(([97,110,110],[97,98,99]):aD×aD)]:List (aD×aD))).1.2.1,(eJ ([2,0]:aC) ([(([97,110,110],[97,98,99]):aD×aD)]:List (aD×aD))).1.2.2.1,(eJ ([2,0]:aC) ([(([97,110,110],[97,98,99]):aD×aD)]:List (aD×aD))).1.2.2.2,[],dS,dU,dR,dT,none,0,none) r0 ⟨_,_,func32,by kernel_rfl,rfl⟩ r0 Jm ⟨by rw[Ck]; exact Ul,.inl r0⟩ ?_ (fun l J hJ hJn hY W s hb hj=>Wi J hJ hJn hY W s hb hj) r0 ?_ ?_
 ·rintro s1 ⟨zs,zw,zl,zt,o,A1,c1,A2,c2,A3,c3,pb_⟩ ⟨h,_⟩
  rcases h with ⟨pre,BI,_⟩ | ⟨BI,_⟩
  ·rw[BI,bH]at hs_n; omega
  subst BI; simp
 ·rintro l ⟨zs,zw,zl,zt,o,A1,c1,A2,c2,A3,c3,pb_⟩ ln rest W ⟨hR,WV⟩ hln
  have Zf:ln.length≤s.length:=Un hR
  have hft:=Bp hR
  refine IM r0 (tA (aA ln) r0 (nl ⟨rfl,rfl,rfl,fun wb hwb uE=>?_⟩))
  have C6:SH wb wb ([b3]++(dC A1 c1++(dC A2 c2++([b4]++(dC A3 c3++[]))))) [.blk b3 34 [I zs,.slice A1 zw.length c1,.slice A2 zl.length c2,aA zt],.own A1 zw.length c1 3 1 (zw.map I),.own A2 zl.length c2 38 2 (zl.flatMap eH),.blk b4 41 [.pointer pb_,.slice A3 o.length c3],.own A3 o.length c3 5 1 (o.map U)]:=uE
  have hMl:=WB.up hwb (fun _ h=>h) hwb.rE
  have hGp:=WA.up hwb (fun _ h=>h) hwb.rE
  have hGk:=V9.yQ hwb (fun _ h=>h) hwb.rE
  have hSt:=WC.yQ hwb (fun _ h=>h) hwb.rE
  have hEr:=V7.up hwb (fun _ h=>h) hwb.rE
  have hEs:=V8.up hwb (fun _ h=>h) hwb.rE
  refine QI (vI (IM r0 (tm (aA ln) r0 (cS C6 r0 (Wf _ [10] _ (by omega) (by(simp; done))) (fun w8 cM=>tm (.tuple #[aA (iH ln [10]),.bool (decide (pZ ln [10]))]) r0 (qt r0 (xt 0 r0 r0) (qt r0 (xt 1 r0 r0) (tA (aA (iH ln [10])) r0 (tA (.bool (decide (pZ ln [10]))) r0 (nl ⟨rfl,?_⟩))))))))))
  refine nN (vI (IM r0 (tm (.bool (decide (pZ ln [10]))) r0 (nl ⟨rfl,?_⟩))))
  refine nN (MS r0 (fun h2=>?_) (fun h2=>?_))
  ·refine IM r0 (tm (aA (iH ln [10])) r0 (cL r0 (Xt _ _ _ _ _ _ (gM cM 0 r0) (sB cM 1 r0) (sB cM 2 r0) (uP cM 0 1 (by decide) r0 r0) (uP cM 0 2 (by decide) r0 r0) (uP cM 1 2 (by decide) r0 r0) (by exact hft.1) (by(exact cB (Hf ln [10]) (by omega))) (hMl.up cM (fun _ h=>h) (cM.AA 0 1 2 r0 r0 r0)) (hGp.up cM (fun _ h=>h) (cM.AA 0 1 2 r0 r0 r0)) (hEr.up cM (fun _ h=>h) (cM.AA 0 1 2 r0 r0 r0)) (hEs.up cM (fun _ h=>h) (cM.AA 0 1 2 r0 r0 r0)) (hGk.yQ cM (fun _ h=>h) (cM.AA 0 1 2 r0 r0 r0)) (hSt.yQ cM (fun _ h=>h) (cM.AA 0 1 2 r0 r0 r0))) ?_))
   rintro _ w9 ⟨nC,nH,nB,nF,rfl,cW⟩
   replace cW:SH wb w9 ([b3]++(dC A1 c1++(dC A2 c2++([b4]++(dC A3 c3++[]))))) [.blk b4 41 [.pointer pb_,.slice A3 o.length c3],.own A3 o.length c3 5 1 (o.map U),.blk b3 34 [I ((fP (zs,zw,zl,zt) (iH ln [10])).1.1),.slice nC (((fP (zs,zw,zl,zt) (iH ln [10])).1.2.1).length) nH,.slice nB (((fP (zs,zw,zl,zt) (iH ln [10])).1.2.2.1).length) nF,aA ((fP (zs,zw,zl,zt) (iH ln [10])).1.2.2.2)],.own nC (((fP (zs,zw,zl,zt) (iH ln [10])).1.2.1).length) nH 3 1 (((fP (zs,zw,zl,zt) (iH ln [10])).1.2.1).map I),.own nB (((fP (zs,zw,zl,zt) (iH ln [10])).1.2.2.1).length) nF 38 2 (((fP (zs,zw,zl,zt) (iH ln [10])).1.2.2.1).flatMap eH)]:=SH.vV (K:=[.blk b3 34 [I zs,.slice A1 zw.length c1,.slice A2 zl.length c2,aA zt],.own A1 zw.length c1 3 1 (zw.map I),.own A2 zl.length c2 38 2 (zl.flatMap eH)]) (R:=[.blk b4 41 [.pointer pb_,.slice A3 o.length c3],.own A3 o.length c3 5 1 (o.map U)]) cM cW r0
   refine qt r0 (cat r0 r0 (by((have h1_:=IB (zs,zw,zl,zt) (iH ln [10]); (try simp only[bH,bP,bK]); omega)))) (cL r0 (writeString _ _ _ (gM cW 0 r0) (‹_›) (sB cW 1 r0) (uP cW 1 0 (by decide) r0 r0) (by((have h1_:=IB (zs,zw,zl,zt) (iH ln [10]); (try simp only[bH,bP,bK]); omega))) (by(have h1_:=hft.2; omega))) ?_)
   rintro _ kF ⟨I9,JR,rfl,dB⟩
   replace dB:SH wb kF ([b3]++(dC A1 c1++(dC A2 c2++([b4]++(dC A3 c3++[]))))) [.blk b3 34 [I ((fP (zs,zw,zl,zt) (iH ln [10])).1.1),.slice nC (((fP (zs,zw,zl,zt) (iH ln [10])).1.2.1).length) nH,.slice nB (((fP (zs,zw,zl,zt) (iH ln [10])).1.2.2.1).length) nF,aA ((fP (zs,zw,zl,zt) (iH ln [10])).1.2.2.2)],.own nC (((fP (zs,zw,zl,zt) (iH ln [10])).1.2.1).length) nH 3 1 (((fP (zs,zw,zl,zt) (iH ln [10])).1.2.1).map I),.own nB (((fP (zs,zw,zl,zt) (iH ln [10])).1.2.2.1).length) nF 38 2 (((fP (zs,zw,zl,zt) (iH ln [10])).1.2.2.1).flatMap eH),.blk b4 41 [pB b4,.slice I9 ((o++(((fP (zs,zw,zl,zt) (iH ln [10])).2)++[10])).length) JR],.own I9 ((o++(((fP (zs,zw,zl,zt) (iH ln [10])).2)++[10])).length) JR 5 1 ((o++(((fP (zs,zw,zl,zt) (iH ln [10])).2)++[10])).map U)]:=SH.vV (K:=[.blk b4 41 [.pointer pb_,.slice A3 o.length c3],.own A3 o.length c3 5 1 (o.map U)]) (R:=[.blk b3 34 [I ((fP (zs,zw,zl,zt) (iH ln [10])).1.1),.slice nC (((fP (zs,zw,zl,zt) (iH ln [10])).1.2.1).length) nH,.slice nB (((fP (zs,zw,zl,zt) (iH ln [10])).1.2.2.1).length) nF,aA ((fP (zs,zw,zl,zt) (iH ln [10])).1.2.2.2)],.own nC (((fP (zs,zw,zl,zt) (iH ln [10])).1.2.1).length) nH 3 1 (((fP (zs,zw,zl,zt) (iH ln [10])).1.2.1).map I),.own nB (((fP (zs,zw,zl,zt) (iH ln [10])).1.2.2.1).length) nF 38 2 (((fP (zs,zw,zl,zt) (iH ln [10])).1.2.2.1).flatMap eH)]) cW dB r0
   refine nl ⟨rfl,?_⟩
   refine bN ?_
   refine⟨rfl,((fP (zs,zw,zl,zt) (iH ln [10])).1.1,(fP (zs,zw,zl,zt) (iH ln [10])).1.2.1,(fP (zs,zw,zl,zt) (iH ln [10])).1.2.2.1,(fP (zs,zw,zl,zt) (iH ln [10])).1.2.2.2,o++(((fP (zs,zw,zl,zt) (iH ln [10])).2)++[10]),nC,nH,nB,nF,I9,JR,(Z7 b4)),⟨?_,?_⟩,dB⟩
   ·exact Up hR hln ‹_›
   exact .inr r0
  refine K2 (bN ?_)
  refine⟨rfl,(zs,zw,zl,zt,o,A1,c1,A2,c2,A3,c3,pb_),⟨?_,?_⟩,cM⟩
  ·exact Uo hR hln ‹_›
  assumption
 rintro D W ⟨zs,zw,zl,zt,o,A1,c1,A2,c2,A3,c3,pb_⟩ hD ⟨hR,WV⟩ iI hd FC
 have hft:=Bp hR
 have NS:0≤zs∧zs≤4:=hft.1.1
 refine Yd (wZ (Q:=VX prog [.tmp 2] D _) ?_ (fun e f w h=>Pu r0 h))
 have C6:SH W W ([b3]++(dC A1 c1++(dC A2 c2++([b4]++(dC A3 c3++[]))))) [.blk b3 34 [I zs,.slice A1 zw.length c1,.slice A2 zl.length c2,aA zt],.own A1 zw.length c1 3 1 (zw.map I),.own A2 zl.length c2 38 2 (zl.flatMap eH),.blk b4 41 [.pointer pb_,.slice A3 o.length c3],.own A3 o.length c3 5 1 (o.map U)]:=SH.CP _ iI.ok iI.dis
 have hMl:=WB.up iI (fun _ h=>h) iI.rE
 have hGp:=WA.up iI (fun _ h=>h) iI.rE
 have hGk:=V9.yQ iI (fun _ h=>h) iI.rE
 have hSt:=WC.yQ iI (fun _ h=>h) iI.rE
 have hEr:=V7.up iI (fun _ h=>h) iI.rE
 have hEs:=V8.up iI (fun _ h=>h) iI.rE
 refine vI (IM r0 (qt r0 (fa 0 o7 r0) (qt r0 (lD (I zs) C6 0 r0 cN) (R5 (n:=5) zs.toNat QH r0 (jK (x:=zs) (by omega)) hSt (by omega) (eQ aA [] (by rw[yL]; omega)) aH r0 (fun a1 eL=>qt r0 (eW C6 eL (fun _ h=>h) r0 r0 eC) (qt r0 (cat r0 r0 (by((rw[I1 NS.1 NS.2]; have h1_:=wD zs; (try simp only[bH,bP,bK]); omega)))) ?_))))))
 have e2:(j5.getD zs.toNat [])++[10]=stateT zs++[10]:=by rw[I1 NS.1 NS.2]
 refine re 36 (v:=aA (stateT zs++[10])) (aS aA e2) (cL r0 (writeString _ _ _ (gM C6 3 r0) (‹_›) (sB C6 4 r0) (uP C6 4 3 (by decide) r0 r0) (by((have h1_:=wD zs; (try simp only[bH,bP,bK]); omega))) (by(have h1_:=hft.2; omega))) ?_)
 rintro _ kB ⟨GO,HK,rfl,cY⟩
 replace cY:SH W kB ([b3]++(dC A1 c1++(dC A2 c2++([b4]++(dC A3 c3++[]))))) [.blk b3 34 [I zs,.slice A1 zw.length c1,.slice A2 zl.length c2,aA zt],.own A1 zw.length c1 3 1 (zw.map I),.own A2 zl.length c2 38 2 (zl.flatMap eH),.blk b4 41 [pB b4,.slice GO ((o++(stateT zs++[10])).length) HK],.own GO ((o++(stateT zs++[10])).length) HK 5 1 ((o++(stateT zs++[10])).map U)]:=SH.vV (K:=[.blk b4 41 [.pointer pb_,.slice A3 o.length c3],.own A3 o.length c3 5 1 (o.map U)]) (R:=[.blk b3 34 [I zs,.slice A1 zw.length c1,.slice A2 zl.length c2,aA zt],.own A1 zw.length c1 3 1 (zw.map I),.own A2 zl.length c2 38 2 (zl.flatMap eH)]) (C6.pk [3,4,0,1,2] r0) cY r0
 refine nl ⟨rfl,?_⟩
 refine nN (vI (IM r0 (cL r0 (UQ _ _ (gM cY 3 r0) (.inr r0) (sB cY 4 r0) (uP cY 4 3 (by decide) r0 r0) (by(simp; done))) ?_)))
 rintro _ kI ⟨rfl,dJ⟩
 replace dJ:SH W kI ([b3]++(dC A1 c1++(dC A2 c2++([b4]++(dC A3 c3++[]))))) [.blk b3 34 [I zs,.slice A1 zw.length c1,.slice A2 zl.length c2,aA zt],.own A1 zw.length c1 3 1 (zw.map I),.own A2 zl.length c2 38 2 (zl.flatMap eH)]:=SH.vV (K:=[.blk b4 41 [pB b4,.slice GO ((o++(stateT zs++[10])).length) HK],.own GO ((o++(stateT zs++[10])).length) HK 5 1 ((o++(stateT zs++[10])).map U)]) (R:=[.blk b3 34 [I zs,.slice A1 zw.length c1,.slice A2 zl.length c2,aA zt],.own A1 zw.length c1 3 1 (zw.map I),.own A2 zl.length c2 38 2 (zl.flatMap eH)]) (cY.pk [3,4,0,1,2] r0) dJ r0
 refine tA (aA (o++(stateT zs++[10]))) r0 (nl ⟨rfl,?_⟩)
 refine nN (Ai ?_)
 have hnD:D ∉ ([b3]++(dC A1 c1++(dC A2 c2++([b4]++(dC A3 c3++[]))))):=by
  intro hm
  obtain ⟨i_,Kr,Ks⟩:=List.mem_flatMap.1 (show D∈([.blk b3 34 [I zs,.slice A1 zw.length c1,.slice A2 zl.length c2,aA zt],.own A1 zw.length c1 3 1 (zw.map I),.own A2 zl.length c2 38 2 (zl.flatMap eH),.blk b4 41 [.pointer pb_,.slice A3 o.length c3],.own A3 o.length c3 5 1 (o.map U)]).flatMap It.blocks from hm)
  exact FC i_ Kr D (It.x8.1 Ks) r0
 refine⟨dJ.H7 hd hnD,[aA (o++(stateT zs++[10]))],.tmp .nil,?_,?_⟩
 ·exact aS aA (Um hR (by omega)).symm
 have h1_:SH w W [] _:=SH.vV (R:=[]) (L':=[.blk b3 34 [I zs,.slice A1 zw.length c1,.slice A2 zl.length c2,aA zt],.own A1 zw.length c1 3 1 (zw.map I),.own A2 zl.length c2 38 2 (zl.flatMap eH),.blk b4 41 [.pointer pb_,.slice A3 o.length c3],.own A3 o.length c3 5 1 (o.map U)]) (by simpa using b9) iI r0
 have h2_:=SH.vV (R:=[]) (by simpa using h1_) dJ r0
 have h3_:SH w _ [] []:=h2_.weaken (List.nil_sublist _)
 exact h3_.put (cB b9.size hD) (by simp)
theorem Nf (s:aD) (n:Int) (w:World) (hs_n:s.length≤64) (HX:0≤n∧n≤64):bF prog 19 [aA s,I n] w (fun v w'=>∃ o:aD,v=aA o∧(o.length≤4096)∧SH w w' [] []):=by
 refine fQ 20 func19 r0 r0 ?_
 have aK:=SH.refl w []
 refine sr (tA (aA []) r0 (nx (tA (aA []) r0 (nn (sq (bl (lp (σ:=Nat×(aD)×(aD)) (fun⟨m,x,o⟩ f w'=>Hz f [(0,aA x),(1,I (m:Int)),(5,aA o)]∧(o.length+x.length*m≤4096)∧(m≤64)∧SH w w' [] []) (fun⟨m,x,o⟩=>m) (n.toNat,s,[]) ⟨(zH ⟨rfl,(show (I n:Value)=I (n.toNat:Int) from aS (Value.int .i64) (by omega)),rfl,aH⟩),((by have h_:s.length*n.toNat≤64*64:=Nat.mul_le_mul (by omega) (by omega); simp only[bK]; omega)),(by omega),aK⟩ ?_)))))))
 rintro ⟨m,x,o⟩ f w1 ⟨⟨g1,rfl⟩,hB,hm,aE⟩
 refine sq (sr (tm (I (m:Int)) r0 (qt r0 (gtr r0 r0) (nn (bI r0 (fun h1=>?_) (fun h1=>?_))))))
 ·refine sk (nN (bl (sq (sr (tm (I (m:Int)) r0 (qt r0 (rem r0 r0 (by omega) (by omega)) (qt r0 (dO r0 r0) (nn (bI r0 (fun h2=>?_) (fun h2=>?_))))))))))
  ·refine rg (tm (aA o) r0 (tm (aA x) r0 (qt r0 (cat r0 r0 (by(have hmb:=SM hB (by omega); omega))) (tA (aA (o++x)) r0 (nn (sq (rg (tm (aA x) r0 (tm (aA x) r0 (qt r0 (cat r0 r0 (by(have hmb:=SM hB (by omega); omega))) (tA (aA (x++x)) r0 (nn (rg (tm (I (m:Int)) r0 (qt r0 (quo (a:=(m:Int)) (b:=2) r0 r0 (by omega) (by omega) (by omega)) (tA (I ((m:Int) / 2)) r0 (nl (bN (nN ?_)))))))))))))))))))
   refine⟨(m / 2,(x++x),(o++x)),⟨(zH ⟨rfl,(show (I ((m:Int) / 2):Value)=I (((m / 2):Nat):Int) from aS (Value.int .i64) (by omega)),rfl,aH⟩),(Pt hB (by omega)),(by omega),aE⟩,?_⟩
   show (m / 2)<m
   omega
  refine sk (nN (sr (tm (aA x) r0 (tm (aA x) r0 (qt r0 (cat r0 r0 (by(have hmb:=SM hB (by omega); omega))) (tA (aA (x++x)) r0 (nn (rg (tm (I (m:Int)) r0 (qt r0 (quo (a:=(m:Int)) (b:=2) r0 r0 (by omega) (by omega) (by omega)) (tA (I ((m:Int) / 2)) r0 (nl (bN (nN ?_))))))))))))))
  refine⟨(m / 2,(x++x),o),⟨(zH ⟨rfl,(show (I ((m:Int) / 2):Value)=I (((m / 2):Nat):Int) from aS (Value.int .i64) (by omega)),rfl,aH⟩),(Ps hB (by omega)),(by omega),aE⟩,?_⟩
  show (m / 2)<m
  omega
 refine ex (tE (tE (bE (nN (sr (tm (aA o) r0 (tA (aA o) r0 (nn (rt (fT (aA o) r0 ?_))))))))))
 exact⟨o,rfl,(by have h_:=hB; omega),aE⟩
theorem Nh {rb:Nat} {Ab:aM} {cb:Nat} {bs:aD} {p:Nat} (w:World) (hr:w.heap[rb]?=some (.cells [.slice Ab bs.length cb,.int .i64 (p:Int)].toArray 57 (0,0))) (hb:Sl w [rb] 1 Ab bs.length cb (bs.map U)) (hbn:bs.length≤2000) (hp:p≤137438953472):bF prog 18 [pB rb] w (fun v w'=>∃ s:aD,∃ q:Nat,v=aA s∧(s.length≤40)∧(q≤p+4)∧SH w w' [rb] [.blk rb 57 [.slice Ab bs.length cb,I (q:Int)]]):=by
 refine fQ 42 func18 r0 r0 ?_
 have aK:=SH.rS hr
 refine sr (tA (aA []) r0 (nx (tm (pB rb) r0 (cR aK fZ UD UD aH r0 (fun b1 w1 aE=>cL r0 (KX (rb:=rb) (Ab:=Ab) (cb:=cb) (bs:=bs) (p:=p) (Ass:=(Z7 b1)) (css:=5) (ss:=([[120,46,111,114,103,58,56,48],[49,46,50,46,51,46,52,58,52,52,51],[48,46,48,46,48,46,49,58,56,48],[120,46,111,114,103,58],[97,58,49]]:List aD)) (w:=_) (hr:=(gM aE 0 r0)) (hb:=(hb.up aE (fun _ h=>h) (fun _ h=>.inl h))) (hbn:=‹_›) (hp:=(by omega)) (hss:=(aE.sl 1 r0 (by intro k hk; simp at hk; subst hk; exact⟨_,cC 0 r0,rfl⟩))) (hne:=(by(simp; done)))) ?_)))))
 rintro _ w2 ⟨s1,q1,rfl,p1,p2,aI⟩
 replace aI:=aE.xR 0 r0 aI x7
 refine tA (aA s1) r0 (nn (sq (sr (tm (pB rb) r0 (cL r0 (pick (rb:=rb) (Ab:=Ab) (cb:=cb) (bs:=bs) (p:=q1) (n:=8) (w:=_) (hr:=(gM aI 1 r0)) (hb:=(hb.up aI (fun _ h=>h) (fun _ h=>.inl h))) (hbn:=‹_›) (hp:=(by omega))) ?_)))))
 rintro _ w3 ⟨r1,q2,rfl,p3,p4,aN⟩
 replace aN:=aI.xR 1 r0 aN x7
 refine nn (bl (sr (qt r0 (dO r0 r0) (tA (.bool (decide (r1=0))) r0 (nl (nN (bI r0 (fun h1=>?_) (fun h1=>?_))))))))
 ·have h1_:=uR p1 12 (by decide)
  refine sr (tm (aA s1) r0 (qt r0 (cat r0 r0 (by(((try simp only[bH,bP,bK]); omega)))) (tA (aA ([111,108,100,32]++s1)) r0 (nn (rt (bR (tR (fT (aA ([111,108,100,32]++s1)) r0 ?_))))))))
  exact⟨[111,108,100,32]++s1,q2,rfl,(by(((try simp only[bH,bP,bK]); omega))),(by omega),(aN.pk [1] r0)⟩
 refine sr (qt r0 (dO r0 r0) (tA (sP r1) r0 (nn (bI r0 (fun h2=>?_) (fun h2=>?_)))))
 ·have h1_:=uR p1 12 (by decide)
  refine sr (tm (aA s1) r0 (qt r0 (cat r0 r0 (by(((try simp only[bH,bP,bK]); omega)))) (tA (aA ([114,101,113,117,101,115,116,32]++s1)) r0 (nn (rt (bR (tR (fT (aA ([114,101,113,117,101,115,116,32]++s1)) r0 ?_))))))))
  exact⟨[114,101,113,117,101,115,116,32]++s1,q2,rfl,(by(((try simp only[bH,bP,bK]); omega))),(by omega),(aN.pk [1] r0)⟩
 refine sr (qt r0 (dO r0 r0) (tA (.bool (decide (r1=2))) r0 (nn (bI r0 (fun h3=>?_) (fun h3=>?_)))))
 ·refine sr (tm (pB rb) r0 (cR aN fZ [aA [97,110,110,47,97,98,99],aA [98,111,98,47,57],aA [97,110,110],aA [97,110,110,47]] [aA [97,110,110,47,97,98,99],aA [98,111,98,47,57],aA [97,110,110],aA [97,110,110,47]] aH r0 (fun b2 w4 aR=>cL r0 (KX (rb:=rb) (Ab:=Ab) (cb:=cb) (bs:=bs) (p:=q2) (Ass:=(Z7 b2)) (css:=4) (ss:=([[97,110,110,47,97,98,99],[98,111,98,47,57],[97,110,110],[97,110,110,47]]:List aD)) (w:=_) (hr:=(gM aR 1 r0)) (hb:=(hb.up aR (fun _ h=>h) (fun _ h=>.inl h))) (hbn:=‹_›) (hp:=(by omega)) (hss:=(aR.sl 2 r0 (by intro k hk; simp at hk; subst hk; exact⟨_,cC 1 r0,rfl⟩))) (hne:=(by(simp; done)))) ?_)))
  rintro _ w5 ⟨s2,q3,rfl,p5,p6,aZ⟩
  replace aZ:=aR.xR 1 r0 aZ x7
  have h1_:=uR p1 12 (by decide)
  refine qt r0 (cat r0 r0 (by((have h2_:=uR p5 32 (by decide); (try simp only[bH,bP,bK]); omega)))) (tA (aA ([108,111,103,105,110,32]++s2)) r0 (nn (rt (bR (tR (fT (aA ([108,111,103,105,110,32]++s2)) r0 ?_))))))
  exact⟨[108,111,103,105,110,32]++s2,q3,rfl,(by((have h2_:=uR p5 32 (by decide); (try simp only[bH,bP,bK]); omega))),(by omega),(aZ.pk [2] r0)⟩
 refine sr (qt r0 (dO r0 r0) (tA (.bool (decide (r1=3))) r0 (nn (bI r0 (fun h4=>?_) (fun h4=>?_)))))
 ·refine sr (tm (pB rb) r0 (cR aN fZ UF UF aH r0 (fun b3 w6 bG=>cL r0 (KX (rb:=rb) (Ab:=Ab) (cb:=cb) (bs:=bs) (p:=q2) (Ass:=(Z7 b3)) (css:=8) (ss:=([[],[48,53],[48,53,48,49,48,48],[48,52],[48,100,48,97,48,100,48,97],[52,51,52,102,52,101,52,101,52,53,52,51,53,52],[102,102],[48,103]]:List aD)) (w:=_) (hr:=(gM bG 1 r0)) (hb:=(hb.up bG (fun _ h=>h) (fun _ h=>.inl h))) (hbn:=‹_›) (hp:=(by omega)) (hss:=(bG.sl 2 r0 (by intro k hk; simp at hk; subst hk; exact⟨_,cC 1 r0,rfl⟩))) (hne:=(by(simp; done)))) ?_)))
  rintro _ w7 ⟨s3,q4,rfl,p7,p8,bU⟩
  replace bU:=bG.xR 1 r0 bU x7
  refine qt r0 (cat r0 r0 (by(have h1_:=uR p1 12 (by decide); (have h2_:=uR p7 32 (by decide); (try simp only[bH,bP,bK]); omega)))) (tA (aA ([115,110,105,102,102,32]++s3)) r0 (nn (rt (bR (tR (fT (aA ([115,110,105,102,102,32]++s3)) r0 ?_))))))
  exact⟨[115,110,105,102,102,32]++s3,q4,rfl,(by(have h1_:=uR p1 12 (by decide); (have h2_:=uR p7 32 (by decide); (try simp only[bH,bP,bK]); omega))),(by omega),(bU.pk [2] r0)⟩
 refine sr (qt r0 (dO r0 r0) (tA (.bool (decide (r1=4))) r0 (nn (bI r0 (fun h5=>?_) (fun h5=>?_)))))
 ·refine sr (tm (pB rb) r0 (cR aN fZ [aA [48,53,48,49,48,48],aA [48,53,48,49,48,50],aA [48,53,48,50,48,48,48,50],aA [48,53,48,49,48,49]] [aA [48,53,48,49,48,48],aA [48,53,48,49,48,50],aA [48,53,48,50,48,48,48,50],aA [48,53,48,49,48,49]] aH r0 (fun b4 w8 bV=>cL r0 (KX (rb:=rb) (Ab:=Ab) (cb:=cb) (bs:=bs) (p:=q2) (Ass:=(Z7 b4)) (css:=4) (ss:=([[48,53,48,49,48,48],[48,53,48,49,48,50],[48,53,48,50,48,48,48,50],[48,53,48,49,48,49]]:List aD)) (w:=_) (hr:=(gM bV 1 r0)) (hb:=(hb.up bV (fun _ h=>h) (fun _ h=>.inl h))) (hbn:=‹_›) (hp:=(by omega)) (hss:=(bV.sl 2 r0 (by intro k hk; simp at hk; subst hk; exact⟨_,cC 1 r0,rfl⟩))) (hne:=(by(simp; done)))) ?_)))
  rintro _ w9 ⟨s4,q5,rfl,p9,OQ,b9⟩
  replace b9:=bV.xR 1 r0 b9 x7
  refine qt r0 (cat r0 r0 (by(have h1_:=uR p1 12 (by decide); (have h2_:=uR p9 32 (by decide); (try simp only[bH,bP,bK]); omega)))) (tA (aA ([115,97,121,32]++s4)) r0 (nn (rt (bR (tR (fT (aA ([115,97,121,32]++s4)) r0 ?_))))))
  exact⟨[115,97,121,32]++s4,q5,rfl,(by(have h1_:=uR p1 12 (by decide); (have h2_:=uR p9 32 (by decide); (try simp only[bH,bP,bK]); omega))),(by omega),(b9.pk [2] r0)⟩
 refine sr (qt r0 (dO r0 r0) (tA (.bool (decide (r1=5))) r0 (nn (bI r0 (fun h6=>?_) (fun h6=>?_)))))
 ·refine sr (tA (aA [115,97,121,32,48,49,48,51,54,49,54,101,54,101,48,51,54,49,54,50,54,51]) r0 (nn (rt (bR (tR (fT (aA [115,97,121,32,48,49,48,51,54,49,54,101,54,101,48,51,54,49,54,50,54,51]) r0 ?_))))))
  exact⟨[115,97,121,32,48,49,48,51,54,49,54,101,54,101,48,51,54,49,54,50,54,51],q2,rfl,(by(simp; done)),(by omega),(aN.pk [1] r0)⟩
 refine sr (qt r0 (dO r0 r0) (tA (.bool (decide (r1=6))) r0 (nn (bI r0 (fun h7=>?_) (fun h7=>?_)))))
 ·refine sr (tA (aA [115,97,121,32,48,53,48,49,48,48,48,51,48,53,55,56,50,101,54,102,55,50,54,55,48,48,53,48]) r0 (nn (rt (bR (tR (fT (aA [115,97,121,32,48,53,48,49,48,48,48,51,48,53,55,56,50,101,54,102,55,50,54,55,48,48,53,48]) r0 ?_))))))
  exact⟨[115,97,121,32,48,53,48,49,48,48,48,51,48,53,55,56,50,101,54,102,55,50,54,55,48,48,53,48],q2,rfl,(by(simp; done)),(by omega),(aN.pk [1] r0)⟩
 refine sk (bN (nN (sr (tm (pB rb) r0 (cR aN fZ UE UE aH r0 (fun b5 kF cM=>cL r0 (KX (rb:=rb) (Ab:=Ab) (cb:=cb) (bs:=bs) (p:=q2) (Ass:=(Z7 b5)) (css:=7) (ss:=([[119,104,97,116],[],[111,108,100],[115,97,121],[111,108,100,32,120,32,121],[115,110,105,102,102],[119,104,97,116,32,120]]:List aD)) (w:=_) (hr:=(gM cM 1 r0)) (hb:=(hb.up cM (fun _ h=>h) (fun _ h=>.inl h))) (hbn:=‹_›) (hp:=(by omega)) (hss:=(cM.sl 2 r0 (by intro k hk; simp at hk; subst hk; exact⟨_,cC 1 r0,rfl⟩))) (hne:=(by(simp; done)))) ?_))))))
 rintro _ kB ⟨s5,q6,rfl,FP,nY,cW⟩
 replace cW:=cM.xR 1 r0 cW x7
 refine tA (aA s5) r0 (nn (rt (fT (aA s5) r0 ?_)))
 exact⟨s5,q6,rfl,(by(have h1_:=uR p1 12 (by decide); (have h2_:=uR FP 32 (by decide); (try simp only[bH,bP,bK]); omega))),(by omega),(cW.pk [2] r0)⟩
theorem CL {Acs:aM} {ccs:Nat} (cs:aD) (w:World) (hcs:Sl w [] 1 Acs cs.length ccs (cs.map U)):bF prog 11 [.slice Acs cs.length ccs] w (fun v w'=>∃ s:aD,v=aA s∧(s.length≤8192)∧SH w w' [] []):=by
 refine fQ 37 func11 r0 r0 ?_
 have aK:=SH.refl w []
 have BD:cs.length≤9223372036854775807:=cB hcs.cap hcs.cO
 refine sr (tA (aA []) r0 (nx (tm (mA Acs cs ccs) r0 (cL r0 (Ng _ _ (hcs.aP aK)) ?_))))
 rintro _ w1 ⟨g1,rfl,aE⟩
 replace aE:=aK.cJ aE
 refine tA (pB g1) r0 (nx (tA (aA []) r0 (nn (sr (tm (pB g1) r0 (cL r0 (pick (rb:=g1) (Ab:=Acs) (cb:=ccs) (bs:=cs.take 2000) (p:=0) (n:=9) (w:=_) (hr:=(gM aE 0 r0)) (hb:=(Sl.PT (hcs.up aE (by simp) (fun k h=>.inr (aE.mE 0 r0 k h))) 2000)) (hbn:=(by(simp; omega))) (hp:=(by omega))) ?_))))))
 rintro _ w2 ⟨r1,q1,rfl,p1,p2,aI⟩
 replace aI:=aE.xR 0 r0 aI x7
 refine tA (I r1) r0 (nn (sq (sr (tA (I 0) r0 (nl (nN (bl (lp (σ:=Nat×Nat×(aD)) (fun⟨q0,k,o⟩ f w'=>Hz f [(3,pB g1),(4,aA o),(5,I r1),(6,I (k:Int))]∧(o.length≤41*k)∧((k:Int)≤9)∧(q0≤100+4*k)∧SH w w' [] [.blk g1 57 [.slice Acs ((cs.take 2000).length) ccs,I (q0:Int)]]) (fun⟨q0,k,o⟩=>9-k) (q1,0,[]) ⟨(zR r0),(by simp),(by omega),(by omega),aI⟩ ?_))))))))
 rintro ⟨q0,k,o⟩ f w3 ⟨⟨g2,rfl⟩,ho,hk,hq,aN⟩
 refine sq (sr (tm (I (k:Int)) r0 (tm (I r1) r0 (qt r0 (lss r0 r0) (nn (bI r0 (fun h1=>?_) (fun h1=>?_)))))))
 ·refine sk (nN (sq (bl (rg (tm (aA o) r0 (tm (pB g1) r0 (cL r0 (Nh (rb:=g1) (Ab:=Acs) (cb:=ccs) (bs:=cs.take 2000) (p:=q0) (w:=_) (hr:=(gM aN 0 r0)) (hb:=(Sl.PT (hcs.up aN (by simp) (fun k h=>.inr (aN.mE 0 r0 k h))) 2000)) (hbn:=(by(simp; omega))) (hp:=(by omega))) ?_)))))))
  rintro _ w4 ⟨s1,q2,rfl,p3,p4,aR⟩
  replace aR:=aN.xR 0 r0 aR x7
  refine qt r0 (cat r0 r0 (by((try simp only[bH,bP,bK]); omega))) (qt r0 (cat r0 r0 (by((try simp only[bH,bP,bK]); omega))) (tA (aA ((o++s1)++[10])) r0 (nl (bN (nN (rg (tm (I (k:Int)) r0 (qt r0 (add r0 r0 (by exact⟨by omega,by omega⟩)) (tA (I ((k:Int)+1)) r0 (nn ?_))))))))))
  refine⟨(q2,k+1,((o++s1)++[10])),⟨(zR r0),(by(try simp only[bH,bP,bK]); omega),(by omega),(by omega),aR⟩,?_⟩
  show 9-(k+1)<9-k
  omega
 refine ex (tE (tE (bE (nN (sq (sr (tm (pB g1) r0 (cL r0 (pick (rb:=g1) (Ab:=Acs) (cb:=ccs) (bs:=cs.take 2000) (p:=q0) (n:=20) (w:=_) (hr:=(gM aN 0 r0)) (hb:=(Sl.PT (hcs.up aN (by simp) (fun k h=>.inr (aN.mE 0 r0 k h))) 2000)) (hbn:=(by(simp; omega))) (hp:=(by omega))) ?_))))))))
 rintro _ w5 ⟨r2,q3,rfl,p5,p6,aZ⟩
 replace aZ:=aN.xR 0 r0 aZ x7
 refine nn (bl (sr (qt r0 (dO r0 r0) (tA (.bool (decide (r2=0))) r0 (nl (nN (bI r0 (fun h2=>?_) (fun h2=>?_))))))))
 ·refine sr (tm (aA o) r0 (tm (pB g1) r0 (cL r0 (pick (rb:=g1) (Ab:=Acs) (cb:=ccs) (bs:=cs.take 2000) (p:=q3) (n:=6) (w:=_) (hr:=(gM aZ 0 r0)) (hb:=(Sl.PT (hcs.up aZ (by simp) (fun k h=>.inr (aZ.mE 0 r0 k h))) 2000)) (hbn:=(by(simp; omega))) (hp:=(by omega))) ?_)))
  rintro _ w6 ⟨r3,q4,rfl,p7,p8,bG⟩
  replace bG:=aZ.xR 0 r0 bG x7
  refine qt r0 (add r0 r0 (by exact⟨by omega,by omega⟩)) (cL r0 (Nf [115,110,105,102,102,32,48,53,10] _ _ (by(simp; done)) (by omega)) ?_)
  rintro _ w7 ⟨o1,rfl,p9,bU⟩
  replace bU:=bG.cJ bU
  refine qt r0 (cat r0 r0 (by((try simp only[bH,bP,bK]); omega))) (tA (aA (o++o1)) r0 (nn (rt (bR (tR (fT (aA (o++o1)) r0 ?_))))))
  exact⟨o++o1,rfl,(by(try simp only[bH,bP,bK]); omega),(bU.pk [] r0)⟩
 refine sq (sr (qt r0 (dO r0 r0) (tA (sP r2) r0 (nn (bI r0 (fun h3=>?_) (fun h3=>?_))))))
 ·refine sk (nN (bI r0 (fun h4=>?_) (fun h4=>?_)))
  ·refine sr (tm (aA o) r0 (qt r0 (cat r0 r0 (by((try simp only[bH,bP,bK]); omega))) (tA (aA (o++[115,110,105,102,102,32,48,53])) r0 (nn (rt (bR (tR (fT (aA (o++[115,110,105,102,102,32,48,53])) r0 ?_))))))))
   exact⟨o++[115,110,105,102,102,32,48,53],rfl,(by(try simp only[bH,bP,bK]); omega),(aZ.pk [] r0)⟩
  refine sk (bN (nN (sr (tm (aA o) r0 (tA (aA o) r0 (nl (nN (rt (fT (aA o) r0 ?_)))))))))
  exact⟨o,rfl,(by(try simp only[bH,bP,bK]); omega),(aZ.pk [] r0)⟩
 refine rg (qt r0 (dO r0 r0) (tA (.bool (decide (r2=2))) r0 (nn (bI r0 (fun h5=>?_) (fun h5=>?_)))))
 ·refine sr (tm (aA o) r0 (qt r0 (cat r0 r0 (by((try simp only[bH,bP,bK]); omega))) (tA (aA (o++[115,110,105,102,102,32,48,53])) r0 (nn (rt (bR (tR (fT (aA (o++[115,110,105,102,102,32,48,53])) r0 ?_))))))))
  exact⟨o++[115,110,105,102,102,32,48,53],rfl,(by(try simp only[bH,bP,bK]); omega),(aZ.pk [] r0)⟩
 refine sk (bN (nN (sr (tm (aA o) r0 (tA (aA o) r0 (nl (nN (rt (fT (aA o) r0 ?_)))))))))
 exact⟨o,rfl,(by(try simp only[bH,bP,bK]); omega),(aZ.pk [] r0)⟩
theorem U1 (s:aD) (w:World) (hs_n:s.length≤2147483648):bF prog 14 [aA s] w (fun v w'=>v=aA (dE s)∧SH w w' [] []):=by
 refine fQ 18 func14 r0 r0 ?_
 have aK:=SH.refl w []
 refine sr (tA (aA []) r0 (nn (sq (sr (tm (aA s) r0 (qt r0 (gG dI r0) (tA (I (s.length:Int)) r0 (nn (bl (lp (σ:=Nat) (fun(k:Nat) f w'=>Hz f [(0,aA s),(3,I (k:Int))]∧(k≤s.length)∧(jZ s s.length=jZ s k)∧SH w w' [] []) (fun k=>k) s.length ⟨(zR r0),(by omega),(rfl),aK⟩ ?_))))))))))
 rintro k f w1 ⟨⟨g1,rfl⟩,hk,hz,aE⟩
 refine sq (sr (tm (I (k:Int)) r0 (qt r0 (gtr r0 r0) (nn (bI r0 (fun h1=>?_) (fun h1=>?_))))))
 ·refine sk (nN (sq (bl (sr (tm (aA s) r0 (tm (I (k:Int)) r0 (qt r0 (sub r0 r0 (by exact⟨by omega,by omega⟩)) (qt r0 (l5 (((k:Int)-1).toNat) dI r0 (jK (x:=(k:Int)-1) (by omega)) (by omega)) (qt r0 (dO r0 r0) (nn (bI r0 (fun h2=>?_) (fun h2=>?_))))))))))))
  ·exact sr (tm (aA s) r0 (tm (I (k:Int)) r0 (qt r0 (xU (l:=s) k dI r0 r0 (by omega)) (tA (aA (s.take k)) r0 (nn (rt (bR (tR (tR (bR (tR (fS r0 (by(have e0_:((k:Int)-1).toNat=k-1:=(by omega); (try simp only[e0_]at*); exact Gn hz (by omega) (wP.1 ‹_›))) aE))))))))))))
  refine sk (bN (nN (rg (tm (I (k:Int)) r0 (qt r0 (sub r0 r0 (by exact⟨by omega,by omega⟩)) (tA (I ((k:Int)-1)) r0 (nl (nN ?_))))))))
  refine⟨(k-1),⟨(zH ⟨rfl,(show (I ((k:Int)-1):Value)=I (((k-1):Nat):Int) from aS (Value.int .i64) (by omega)),aH⟩),(by omega),(by have e0_:((k:Int)-1).toNat=k-1:=(by omega); (try simp only[e0_]at*); exact Gq hz (by omega) (fun hh=>absurd (wP.2 hh) ‹_›)),aE⟩,?_⟩
  omega
 refine ex (tE (tE (bE (nN (sr (tA (aA []) r0 (nn (rt (fT (aA []) r0 ?_)))))))))
 have e2:[]=dE s:=by exact Gm hz (by omega)
 exact⟨(aS (aA) e2),aE⟩
theorem Nr (s:aD) (w:World) (hs_n:s.length≤2147483648):bF prog 15 [aA s] w (fun v w'=>v=aA (k7 s)∧SH w w' [] []):=by
 refine fQ 20 func15 r0 r0 ?_
 have aK:=SH.refl w []
 refine sr (tA (aA []) r0 (nn (sq (sr (tm (aA s) r0 (qt r0 (gG dI r0) (qt r0 (sub r0 r0 (by exact⟨by omega,by omega⟩)) (tA (I ((s.length:Int)-2)) r0 (nn (bl (lp (σ:=Int) (fun(i:Int) f w'=>Hz f [(0,aA s),(3,I i)]∧(-2≤i∧i<(s.length:Int))∧(jZ s (s.length-1)=jZ s (i+1).toNat)∧SH w w' [] []) (fun i=>(i+2).toNat) ((s.length:Int)-2) ⟨(zR r0),(by omega),(by congr 1; omega),aK⟩ ?_)))))))))))
 rintro i f w1 ⟨⟨g1,rfl⟩,hi,hz,aE⟩
 refine sq (sr (tm (I i) r0 (qt r0 (geq r0 r0) (nn (bI r0 (fun h1=>?_) (fun h1=>?_))))))
 ·refine sk (nN (sq (bl (sr (tm (aA s) r0 (tm (I i) r0 (qt r0 (l5 i.toNat dI r0 (jK (x:=i) (by omega)) (by omega)) (qt r0 (dO r0 r0) (nn (bI r0 (fun h2=>?_) (fun h2=>?_)))))))))))
  ·exact sr (tm (aA s) r0 (tm (I i) r0 (qt r0 (add r0 r0 (by exact⟨by omega,by omega⟩)) (qt r0 (CK (l:=s) ((i+1).toNat) dI r0 (jK (x:=i+1) (by omega)) (by omega)) (tA (aA (s.drop ((i+1).toNat))) r0 (nl (nN (rt (bR (tR (tR (bR (tR (fS r0 (Nu hz (by omega) (wP.1 ‹_›)) aE))))))))))))))
  refine sk (bN (nN (rg (tm (I i) r0 (qt r0 (sub r0 r0 (by exact⟨by omega,by omega⟩)) (tA (I (i-1)) r0 (nl (nN ?_))))))))
  refine⟨(i-1),⟨(zR r0),(by omega),(Nv hz (by omega) (fun hh=>absurd (wP.2 hh) ‹_›)),aE⟩,?_⟩
  omega
 exact ex (tE (tE (bE (nN (sr (tm (aA s) r0 (tA (aA s) r0 (nn (rt (fS r0 (Nt hz (by omega)) aE))))))))))

end Go.Proofs.YtklbiemlpkhlhaaGreatDoor
